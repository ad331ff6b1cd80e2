import JvmDerived
import JvmDerived.Pilot.@@N@@Statement
import JvmDerived.Pilot.@@N@@Code
set_option linter.unusedVariables false
set_option linter.unusedSimpArgs false
namespace Jvm.RoadKit
open Sem ClassFile Op Lib Jvm.Stand Jvm.Free Jvm.LawKit
section New
variable {p : Program} {l : Launch} {e : Env} {R : Room} {s : State} {m : MethodId} {args : Array Value} {below : List Frame} {meth : Method} {c : Code} {T : State} {locs : List Loc} {cells slots : Nat}
theorem retI (X : Stand p l e R s m args below meth c T locs cells slots) (hx : p.tables.exec = Jvm.exec) {pc : Nat} {Ls : Array Slot} {z : Int32} {rest : List Value} (hret : meth.sig.returnType = some .int) (hd : decode c.code pc = .ok (.ireturn, 1)) {fs : List Frame}
    (hl : ∀ (f : JFrame) (acts : List Action), f.method = m → f.locked = none → f.entered = [] → (doReturn e (T.setTop f) acts (some (.int z))).1 = T.setFrames fs) : Steps p.tables e below (T.setTop (mkF m pc Ls (.int z :: rest))) (T.setFrames fs) := by
  have hm' : T.vm.method? m = some meth := X.method'
  have hn : narrow .int (.int z) = .int z := rfl
  show Steps p.tables e below (T.setTop { method := m, pc := pc, locals := Ls, stack := _ :: rest, locked := none }) _
  jvm_step X.here [X.here.top, hx, hd, hm', hret, hn]
  first | (intro acts; rw [hl _ acts rfl rfl rfl]) | rw [hl _ _ rfl rfl rfl]
  exact Steps.refl _
end New
end Jvm.RoadKit
namespace Jvm.Pilot.@@N@@
open Jvm Jvm.ClassFile Sem Op Lib Jvm.Free Jvm.Stand Jvm.LawKit Jvm.RoadKit Bundle Jvm.Pilot.@@N@@.Jvm.D
/-! TABLES of this claim: printed by claim.py -/
def k0 : Nat := 0
def cName : String := "ChainLayout"
def cN : Nat := 36
def nF : Nat := 35
def kName (k : Nat) : String := bif Nat.beq k 0 then "ChainLayoutL2" else "ChainLayout"
def fNm (k : Nat) : String := (bif Nat.ble 17 k then (bif Nat.ble 26 k then (bif Nat.ble 30 k then (bif Nat.ble 32 k then (bif Nat.ble 33 k then (bif Nat.ble 34 k then "status" else "steps") else "outCount") else (bif Nat.ble 31 k then "arranged" else "n")) else (bif Nat.ble 28 k then (bif Nat.ble 29 k then "maxSteps" else "maxBlocks") else (bif Nat.ble 27 k then "cOther" else "cTaken"))) else (bif Nat.ble 21 k then (bif Nat.ble 23 k then (bif Nat.ble 24 k then (bif Nat.ble 25 k then "cTest" else "cKind") else "cImm") else (bif Nat.ble 22 k then "cS" else "cD")) else (bif Nat.ble 19 k then (bif Nat.ble 20 k then "cOp" else "order") else (bif Nat.ble 18 k then "posOf" else "heat")))) else (bif Nat.ble 8 k then (bif Nat.ble 12 k then (bif Nat.ble 14 k then (bif Nat.ble 15 k then (bif Nat.ble 16 k then "chHead" else "chPrev") else "chNext") else (bif Nat.ble 13 k then "edgeW" else "edgeId")) else (bif Nat.ble 10 k then (bif Nat.ble 11 k then "outs" else "regs") else (bif Nat.ble 9 k then "cnt1" else "cnt0"))) else (bif Nat.ble 4 k then (bif Nat.ble 6 k then (bif Nat.ble 7 k then "bT1" else "bT0") else (bif Nat.ble 5 k then "bTest" else "bTerm")) else (bif Nat.ble 2 k then (bif Nat.ble 3 k then "bImm" else "bS") else (bif Nat.ble 1 k then "bD" else "bOp")))))
def fDs (k : Nat) : String := (bif Nat.ble 17 k then (bif Nat.ble 26 k then (bif Nat.ble 30 k then (bif Nat.ble 32 k then (bif Nat.ble 33 k then (bif Nat.ble 34 k then "I" else "I") else "I") else (bif Nat.ble 31 k then "Z" else "I")) else (bif Nat.ble 28 k then (bif Nat.ble 29 k then "I" else "I") else (bif Nat.ble 27 k then "[I" else "[I"))) else (bif Nat.ble 21 k then (bif Nat.ble 23 k then (bif Nat.ble 24 k then (bif Nat.ble 25 k then "[I" else "[I") else "[I") else (bif Nat.ble 22 k then "[I" else "[I")) else (bif Nat.ble 19 k then (bif Nat.ble 20 k then "[I" else "[I") else (bif Nat.ble 18 k then "[I" else "[I")))) else (bif Nat.ble 8 k then (bif Nat.ble 12 k then (bif Nat.ble 14 k then (bif Nat.ble 15 k then (bif Nat.ble 16 k then "[I" else "[I") else "[I") else (bif Nat.ble 13 k then "[I" else "[I")) else (bif Nat.ble 10 k then (bif Nat.ble 11 k then "[I" else "[I") else (bif Nat.ble 9 k then "[I" else "[I"))) else (bif Nat.ble 4 k then (bif Nat.ble 6 k then (bif Nat.ble 7 k then "[I" else "[I") else (bif Nat.ble 5 k then "[I" else "[I")) else (bif Nat.ble 2 k then (bif Nat.ble 3 k then "[I" else "[I") else (bif Nat.ble 1 k then "[I" else "[I")))))
def fTy (k : Nat) : FieldType := (bif Nat.ble 17 k then (bif Nat.ble 26 k then (bif Nat.ble 30 k then (bif Nat.ble 32 k then (bif Nat.ble 33 k then (bif Nat.ble 34 k then .int else .int) else .int) else (bif Nat.ble 31 k then .boolean else .int)) else (bif Nat.ble 28 k then (bif Nat.ble 29 k then .int else .int) else (bif Nat.ble 27 k then (.array .int) else (.array .int)))) else (bif Nat.ble 21 k then (bif Nat.ble 23 k then (bif Nat.ble 24 k then (bif Nat.ble 25 k then (.array .int) else (.array .int)) else (.array .int)) else (bif Nat.ble 22 k then (.array .int) else (.array .int))) else (bif Nat.ble 19 k then (bif Nat.ble 20 k then (.array .int) else (.array .int)) else (bif Nat.ble 18 k then (.array .int) else (.array .int))))) else (bif Nat.ble 8 k then (bif Nat.ble 12 k then (bif Nat.ble 14 k then (bif Nat.ble 15 k then (bif Nat.ble 16 k then (.array .int) else (.array .int)) else (.array .int)) else (bif Nat.ble 13 k then (.array .int) else (.array .int))) else (bif Nat.ble 10 k then (bif Nat.ble 11 k then (.array .int) else (.array .int)) else (bif Nat.ble 9 k then (.array .int) else (.array .int)))) else (bif Nat.ble 4 k then (bif Nat.ble 6 k then (bif Nat.ble 7 k then (.array .int) else (.array .int)) else (bif Nat.ble 5 k then (.array .int) else (.array .int))) else (bif Nat.ble 2 k then (bif Nat.ble 3 k then (.array .int) else (.array .int)) else (bif Nat.ble 1 k then (.array .int) else (.array .int))))))
def fFin (k : Nat) : Bool := (bif Nat.ble 17 k then (bif Nat.ble 26 k then (bif Nat.ble 30 k then (bif Nat.ble 32 k then (bif Nat.ble 33 k then (bif Nat.ble 34 k then false else false) else false) else (bif Nat.ble 31 k then false else false)) else (bif Nat.ble 28 k then (bif Nat.ble 29 k then false else false) else (bif Nat.ble 27 k then false else false))) else (bif Nat.ble 21 k then (bif Nat.ble 23 k then (bif Nat.ble 24 k then (bif Nat.ble 25 k then false else false) else false) else (bif Nat.ble 22 k then false else false)) else (bif Nat.ble 19 k then (bif Nat.ble 20 k then false else false) else (bif Nat.ble 18 k then false else false)))) else (bif Nat.ble 8 k then (bif Nat.ble 12 k then (bif Nat.ble 14 k then (bif Nat.ble 15 k then (bif Nat.ble 16 k then false else false) else false) else (bif Nat.ble 13 k then false else false)) else (bif Nat.ble 10 k then (bif Nat.ble 11 k then false else false) else (bif Nat.ble 9 k then false else false))) else (bif Nat.ble 4 k then (bif Nat.ble 6 k then (bif Nat.ble 7 k then false else false) else (bif Nat.ble 5 k then false else false)) else (bif Nat.ble 2 k then (bif Nat.ble 3 k then false else false) else (bif Nat.ble 1 k then false else false)))))
def cDef : List Value := [.null, .null, .null, .null, .null, .null, .null, .null, .null, .null, .null, .null, .null, .null, .null, .null, .null, .null, .null, .null, .null, .null, .null, .null, .null, .null, .null, .null, .int 0, .int 0, .int 0, .int 0, .int 0, .int 0, .int 0]
def cK : List Value := []
def pN : Nat := 13
def pTop : Nat := 309
def pK (m : Nat) : Nat := (bif Nat.ble 6 m then (bif Nat.ble 9 m then (bif Nat.ble 11 m then (bif Nat.ble 12 m then 1 else 1) else (bif Nat.ble 10 m then 1 else 1)) else (bif Nat.ble 7 m then (bif Nat.ble 8 m then 1 else 1) else 1)) else (bif Nat.ble 3 m then (bif Nat.ble 4 m then (bif Nat.ble 5 m then 1 else 1) else 1) else (bif Nat.ble 1 m then (bif Nat.ble 2 m then 1 else 1) else 0)))
def pNm (m : Nat) : String := (bif Nat.ble 6 m then (bif Nat.ble 9 m then (bif Nat.ble 11 m then (bif Nat.ble 12 m then "blockInfo" else "edgeCount") else (bif Nat.ble 10 m then "setBranch" else "doOp")) else (bif Nat.ble 7 m then (bif Nat.ble 8 m then "stepBlock" else "run") else "validBlock")) else (bif Nat.ble 3 m then (bif Nat.ble 4 m then (bif Nat.ble 5 m then "setJump" else "clearCounts") else "writeTerm") else (bif Nat.ble 1 m then (bif Nat.ble 2 m then "addBlock" else "<init>") else "law")))
def pDs (m : Nat) : String := (bif Nat.ble 6 m then (bif Nat.ble 9 m then (bif Nat.ble 11 m then (bif Nat.ble 12 m then "(II)I" else "(II)I") else (bif Nat.ble 10 m then "(IIII)Z" else "(IIII)V")) else (bif Nat.ble 7 m then (bif Nat.ble 8 m then "(I)I" else "(I)I") else "(I)Z")) else (bif Nat.ble 3 m then (bif Nat.ble 4 m then (bif Nat.ble 5 m then "(II)Z" else "()V") else "(IIII)V") else (bif Nat.ble 1 m then (bif Nat.ble 2 m then "(IIII)I" else "(II)V") else "(IIIIII)Z")))
def pName (m : Nat) : MethodName := ⟨kName (pK m), pNm m, pDs m⟩
def pBytes (m : Nat) : ByteArray := (bif Nat.ble 6 m then (bif Nat.ble 9 m then (bif Nat.ble 11 m then (bif Nat.ble 12 m then prog_1_method_11_code else prog_1_method_12_code) else (bif Nat.ble 10 m then prog_1_method_4_code else prog_1_method_21_code)) else (bif Nat.ble 7 m then (bif Nat.ble 8 m then prog_1_method_23_code else prog_1_method_6_code) else prog_1_method_18_code)) else (bif Nat.ble 3 m then (bif Nat.ble 4 m then (bif Nat.ble 5 m then prog_1_method_3_code else prog_1_method_20_code) else prog_1_method_19_code) else (bif Nat.ble 1 m then (bif Nat.ble 2 m then prog_1_method_2_code else prog_1_method_1_code) else code)))
def pMaxL (m : Nat) : Nat := (bif Nat.ble 6 m then (bif Nat.ble 9 m then (bif Nat.ble 11 m then (bif Nat.ble 12 m then 3 else 3) else (bif Nat.ble 10 m then 5 else 5)) else (bif Nat.ble 7 m then (bif Nat.ble 8 m then 3 else 5) else 2)) else (bif Nat.ble 3 m then (bif Nat.ble 4 m then (bif Nat.ble 5 m then 3 else 2) else 5) else (bif Nat.ble 1 m then (bif Nat.ble 2 m then 6 else 5) else 10)))
def pRet (m : Nat) : Option FieldType := (bif Nat.ble 6 m then (bif Nat.ble 9 m then (bif Nat.ble 11 m then (bif Nat.ble 12 m then (some .int) else (some .int)) else (bif Nat.ble 10 m then (some .boolean) else none)) else (bif Nat.ble 7 m then (bif Nat.ble 8 m then (some .int) else (some .int)) else (some .boolean))) else (bif Nat.ble 3 m then (bif Nat.ble 4 m then (bif Nat.ble 5 m then (some .boolean) else none) else none) else (bif Nat.ble 1 m then (bif Nat.ble 2 m then (some .int) else none) else (some .boolean))))
def pNA (m : Nat) : Nat := (bif Nat.ble 6 m then (bif Nat.ble 9 m then (bif Nat.ble 11 m then (bif Nat.ble 12 m then 2 else 2) else (bif Nat.ble 10 m then 4 else 4)) else (bif Nat.ble 7 m then (bif Nat.ble 8 m then 1 else 1) else 1)) else (bif Nat.ble 3 m then (bif Nat.ble 4 m then (bif Nat.ble 5 m then 2 else 0) else 4) else (bif Nat.ble 1 m then (bif Nat.ble 2 m then 4 else 2) else 6)))
def pFr (m : Nat) : Nat := (bif Nat.ble 6 m then (bif Nat.ble 9 m then (bif Nat.ble 11 m then (bif Nat.ble 12 m then 1 else 1) else (bif Nat.ble 10 m then 1 else 0)) else (bif Nat.ble 7 m then (bif Nat.ble 8 m then 1 else 2) else 0)) else (bif Nat.ble 3 m then (bif Nat.ble 4 m then (bif Nat.ble 5 m then 1 else 0) else 0) else (bif Nat.ble 1 m then (bif Nat.ble 2 m then 1 else 1) else 3)))
def pLo (m : Nat) : Nat := (bif Nat.ble 6 m then (bif Nat.ble 9 m then (bif Nat.ble 11 m then (bif Nat.ble 12 m then 13 else 13) else (bif Nat.ble 10 m then 16 else 0)) else (bif Nat.ble 7 m then (bif Nat.ble 8 m then 16 else 30) else 0)) else (bif Nat.ble 3 m then (bif Nat.ble 4 m then (bif Nat.ble 5 m then 16 else 0) else 0) else (bif Nat.ble 1 m then (bif Nat.ble 2 m then 16 else 12) else 46)))
abbrev tB (k p : Nat) (a b : Option (Instr × Nat)) : Option (Instr × Nat) := bif Nat.ble k p then a else b
abbrev tL (k p : Nat) (i : Instr) (x : Nat) : Option (Instr × Nat) := bif Nat.beq p k then some (i, x) else none
def cd0 (p : Nat) : Option (Instr × Nat) := (tB 129 p (tB 192 p (tB 229 p (tB 244 p (tB 252 p (tB 256 p (tB 259 p (tB 260 p (tL 260 p .ireturn 0) (tL 259 p (.iconst 0) 0)) (tL 256 p (.goto 4) 260)) (tB 255 p (tL 255 p (.iconst 1) 0) (tL 252 p (.if_icmp .ne 7) 259))) (tB 248 p (tB 251 p (tL 251 p (.iconst 0) 0) (tL 248 p (.goto 4) 252)) (tB 247 p (tL 247 p (.iconst 2) 0) (tL 244 p (.ifCond .eq 7) 251)))) (tB 235 p (tB 238 p (tB 239 p (tB 242 p (tL 242 p (.iload 9) 0) (tL 239 p (.invokevirtual 32) 12)) (tL 238 p (.iconst 4) 0)) (tB 237 p (tL 237 p (.iconst 1) 0) (tL 235 p (.aload 6) 0))) (tB 233 p (tB 234 p (tL 234 p .ireturn 0) (tL 233 p (.iconst 0) 0)) (tB 230 p (tL 230 p (.if_icmp .eq 5) 235) (tL 229 p (.iconst 1) 0))))) (tB 210 p (tB 216 p (tB 221 p (tB 224 p (tB 226 p (tL 226 p (.goto 4) 230) (tL 224 p (.iload 4) 0)) (tL 221 p (.ifCond .eq 8) 229)) (tB 219 p (tL 219 p (.iload 8) 0) (tL 216 p (.invokevirtual 32) 12))) (tB 213 p (tB 214 p (tL 214 p (.bipush 6) 0) (tL 213 p (.iconst 0) 0)) (tB 211 p (tL 211 p (.aload 6) 0) (tL 210 p .ireturn 0)))) (tB 201 p (tB 205 p (tB 206 p (tB 209 p (tL 209 p (.iconst 0) 0) (tL 206 p (.if_icmp .eq 5) 211)) (tL 205 p (.iconst 0) 0)) (tB 202 p (tL 202 p (.goto 4) 206) (tL 201 p (.iload_n 3) 0))) (tB 196 p (tB 198 p (tL 198 p (.ifCond .eq 7) 205) (tL 196 p (.iload 8) 0)) (tB 193 p (tL 193 p (.invokevirtual 32) 12) (tL 192 p (.iconst 5) 0)))))) (tB 161 p (tB 176 p (tB 184 p (tB 188 p (tB 189 p (tB 191 p (tL 191 p (.iconst 0) 0) (tL 189 p (.aload 6) 0)) (tL 188 p .ireturn 0)) (tB 187 p (tL 187 p (.iconst 0) 0) (tL 184 p (.if_icmp .eq 5) 189))) (tB 180 p (tB 183 p (tL 183 p (.iconst 1) 0) (tL 180 p (.goto 4) 184)) (tB 179 p (tL 179 p (.iconst 2) 0) (tL 176 p (.ifCond .eq 7) 183)))) (tB 167 p (tB 170 p (tB 171 p (tB 174 p (tL 174 p (.iload 8) 0) (tL 171 p (.invokevirtual 32) 12)) (tL 170 p (.iconst 4) 0)) (tB 169 p (tL 169 p (.iconst 0) 0) (tL 167 p (.aload 6) 0))) (tB 165 p (tB 166 p (tL 166 p .ireturn 0) (tL 165 p (.iconst 0) 0)) (tB 162 p (tL 162 p (.if_icmp .eq 5) 167) (tL 161 p (.iconst 1) 0))))) (tB 144 p (tB 149 p (tB 154 p (tB 157 p (tB 158 p (tL 158 p (.goto 4) 162) (tL 157 p (.iconst 0) 0)) (tL 154 p (.ifCond .eq 7) 161)) (tB 152 p (tL 152 p (.iload 7) 0) (tL 149 p (.invokevirtual 28) 11))) (tB 147 p (tB 148 p (tL 148 p (.iconst 0) 0) (tL 147 p (.iconst 0) 0)) (tB 145 p (tL 145 p (.aload 6) 0) (tL 144 p .ireturn 0)))) (tB 135 p (tB 140 p (tB 143 p (tL 143 p (.iconst 0) 0) (tL 140 p (.if_icmp .eq 5) 145)) (tB 138 p (tL 138 p (.iload 7) 0) (tL 135 p (.invokevirtual 24) 10))) (tB 131 p (tB 133 p (tL 133 p (.iload 5) 0) (tL 131 p (.iload 4) 0)) (tB 130 p (tL 130 p (.iload_n 3) 0) (tL 129 p (.iload_n 2) 0))))))) (tB 56 p (tB 94 p (tB 112 p (tB 120 p (tB 124 p (tB 125 p (tB 127 p (tL 127 p (.aload 6) 0) (tL 125 p (.istore 9) 0)) (tL 124 p (.iconst 0) 0)) (tB 121 p (tL 121 p (.goto 4) 125) (tL 120 p (.iconst 1) 0))) (tB 116 p (tB 117 p (tL 117 p (.if_icmp .ne 7) 124) (tL 116 p (.iconst 1) 0)) (tB 115 p (tL 115 p (.iload_n 2) 0) (tL 112 p (.ifCond .eq 12) 124)))) (tB 103 p (tB 107 p (tB 108 p (tB 110 p (tL 110 p (.iload 7) 0) (tL 108 p (.istore 8) 0)) (tL 107 p (.iconst 0) 0)) (tB 104 p (tL 104 p (.goto 4) 108) (tL 103 p (.iconst 1) 0))) (tB 99 p (tB 100 p (tL 100 p (.ifCond .ne 7) 107) (tL 99 p (.iload_n 2) 0)) (tB 96 p (tL 96 p (.ifCond .eq 11) 107) (tL 94 p (.iload 7) 0))))) (tB 76 p (tB 84 p (tB 88 p (tB 91 p (tB 92 p (tL 92 p (.istore 7) 0) (tL 91 p (.iconst 0) 0)) (tL 88 p (.goto 4) 92)) (tB 87 p (tL 87 p (.iconst 1) 0) (tL 84 p (.if_icmp .gt 7) 91))) (tB 81 p (tB 83 p (tL 83 p (.iconst 1) 0) (tL 81 p (.iload 5) 0)) (tB 78 p (tL 78 p (.ifCond .lt 13) 91) (tL 76 p (.iload 5) 0)))) (tB 65 p (tB 70 p (tB 72 p (tB 73 p (tL 73 p (.if_icmp .gt 18) 91) (tL 72 p (.iconst 1) 0)) (tL 70 p (.iload 4) 0)) (tB 67 p (tL 67 p (.ifCond .lt 24) 91) (tL 65 p (.iload 4) 0))) (tB 60 p (tB 62 p (tL 62 p (.if_icmp .gt 29) 91) (tL 60 p (.bipush 15) 0)) (tB 59 p (tL 59 p (.iload_n 3) 0) (tL 56 p (.ifCond .lt 35) 91)))))) (tB 26 p (tB 41 p (tB 47 p (tB 51 p (tB 52 p (tB 55 p (tL 55 p (.iload_n 3) 0) (tL 52 p (.if_icmp .gt 39) 91)) (tL 51 p (.iconst 1) 0)) (tB 50 p (tL 50 p (.iload_n 2) 0) (tL 47 p (.ifCond .lt 44) 91))) (tB 45 p (tB 46 p (tL 46 p (.iload_n 2) 0) (tL 45 p .pop 0)) (tB 42 p (tL 42 p (.invokevirtual 20) 7) (tL 41 p (.iconst 0) 0)))) (tB 33 p (tB 35 p (tB 38 p (tB 39 p (tL 39 p (.aload 6) 0) (tL 38 p .pop 0)) (tL 35 p (.invokevirtual 16) 5)) (tB 34 p (tL 34 p (.iconst 1) 0) (tL 33 p (.iconst 0) 0))) (tB 30 p (tB 31 p (tL 31 p (.aload 6) 0) (tL 30 p .pop 0)) (tB 27 p (tL 27 p (.invokevirtual 12) 2) (tL 26 p (.iconst 0) 0))))) (tB 14 p (tB 20 p (tB 23 p (tB 24 p (tB 25 p (tL 25 p (.iconst 0) 0) (tL 24 p (.iconst 0) 0)) (tL 23 p (.iconst 0) 0)) (tB 21 p (tL 21 p (.aload 6) 0) (tL 20 p .pop 0))) (tB 16 p (tB 17 p (tL 17 p (.invokevirtual 12) 2) (tL 16 p (.iconst 0) 0)) (tB 15 p (tL 15 p (.iconst 0) 0) (tL 14 p (.iconst 0) 0)))) (tB 6 p (tB 11 p (tB 13 p (tL 13 p (.iconst 0) 0) (tL 11 p (.aload 6) 0)) (tB 9 p (tL 9 p (.astore 6) 0) (tL 6 p (.invokespecial 9) 1))) (tB 4 p (tB 5 p (tL 5 p (.iload_n 1) 0) (tL 4 p (.iload_n 0) 0)) (tB 3 p (tL 3 p .dup 0) (tL 0 p (.new 7) 0))))))))
def cd1 (p : Nat) : Option (Instr × Nat) := (tB 158 p (tB 235 p (tB 274 p (tB 293 p (tB 300 p (tB 304 p (tB 305 p (tB 308 p (tL 308 p .return_ 0) (tL 305 p (.putfield 114) 34)) (tL 304 p (.iconst 0) 0)) (tB 303 p (tL 303 p (.aload_n 0) 0) (tL 300 p (.putfield 111) 33))) (tB 295 p (tB 298 p (tB 299 p (tL 299 p (.iconst 0) 0) (tL 298 p (.aload_n 0) 0)) (tL 295 p (.putfield 108) 32)) (tB 294 p (tL 294 p (.iconst 0) 0) (tL 293 p (.aload_n 0) 0)))) (tB 284 p (tB 288 p (tB 289 p (tB 290 p (tL 290 p (.putfield 104) 31) (tL 289 p (.iconst 0) 0)) (tL 288 p (.aload_n 0) 0)) (tB 285 p (tL 285 p (.putfield 101) 30) (tL 284 p (.iconst 0) 0))) (tB 278 p (tB 280 p (tB 283 p (tL 283 p (.aload_n 0) 0) (tL 280 p (.putfield 98) 29)) (tL 278 p (.iload 4) 0)) (tB 277 p (tL 277 p (.aload_n 0) 0) (tL 274 p (.putfield 94) 28))))) (tB 252 p (tB 264 p (tB 270 p (tB 272 p (tB 273 p (tL 273 p (.iload_n 3) 0) (tL 272 p (.aload_n 0) 0)) (tL 270 p (.istore 4) 0)) (tB 267 p (tL 267 p (.sipush 1024) 0) (tL 264 p (.if_icmp .le 8) 272))) (tB 257 p (tB 259 p (tB 261 p (tL 261 p (.sipush 1024) 0) (tL 259 p (.iload 4) 0)) (tL 257 p (.istore 4) 0)) (tB 255 p (tL 255 p (.bipush 16) 0) (tL 252 p (.if_icmp .ge 7) 259)))) (tB 244 p (tB 246 p (tB 248 p (tB 250 p (tL 250 p (.bipush 16) 0) (tL 248 p (.iload 4) 0)) (tL 246 p (.istore 4) 0)) (tB 245 p (tL 245 p (.iload_n 2) 0) (tL 244 p (.istore_n 3) 0))) (tB 237 p (tB 239 p (tB 242 p (tL 242 p (.bipush 16) 0) (tL 239 p (.if_icmp .le 6) 245)) (tL 237 p (.bipush 16) 0)) (tB 236 p (tL 236 p (.iload_n 3) 0) (tL 235 p (.istore_n 3) 0)))))) (tB 198 p (tB 219 p (tB 228 p (tB 230 p (tB 231 p (tB 234 p (tL 234 p (.iconst 2) 0) (tL 231 p (.if_icmp .ge 5) 236)) (tL 230 p (.iconst 2) 0)) (tB 229 p (tL 229 p (.iload_n 3) 0) (tL 228 p (.istore_n 3) 0))) (tB 222 p (tB 224 p (tB 227 p (tL 227 p (.iload_n 1) 0) (tL 224 p (.putfield 91) 27)) (tL 222 p (.newarray .int) 0)) (tB 220 p (tL 220 p (.bipush 16) 0) (tL 219 p (.aload_n 0) 0)))) (tB 208 p (tB 212 p (tB 214 p (tB 216 p (tL 216 p (.putfield 88) 26) (tL 214 p (.newarray .int) 0)) (tL 212 p (.bipush 16) 0)) (tB 211 p (tL 211 p (.aload_n 0) 0) (tL 208 p (.putfield 85) 25))) (tB 203 p (tB 204 p (tB 206 p (tL 206 p (.newarray .int) 0) (tL 204 p (.bipush 16) 0)) (tL 203 p (.aload_n 0) 0)) (tB 200 p (tL 200 p (.putfield 82) 24) (tL 198 p (.newarray .int) 0))))) (tB 179 p (tB 188 p (tB 192 p (tB 195 p (tB 196 p (tL 196 p (.bipush 16) 0) (tL 195 p (.aload_n 0) 0)) (tL 192 p (.putfield 79) 23)) (tB 190 p (tL 190 p (.newarray .int) 0) (tL 188 p (.bipush 16) 0))) (tB 182 p (tB 184 p (tB 187 p (tL 187 p (.aload_n 0) 0) (tL 184 p (.putfield 76) 22)) (tL 182 p (.newarray .int) 0)) (tB 180 p (tL 180 p (.bipush 16) 0) (tL 179 p (.aload_n 0) 0)))) (tB 168 p (tB 172 p (tB 174 p (tB 176 p (tL 176 p (.putfield 73) 21) (tL 174 p (.newarray .int) 0)) (tL 172 p (.bipush 16) 0)) (tB 171 p (tL 171 p (.aload_n 0) 0) (tL 168 p (.putfield 70) 20))) (tB 163 p (tB 164 p (tB 166 p (tL 166 p (.newarray .int) 0) (tL 164 p (.bipush 16) 0)) (tL 163 p (.aload_n 0) 0)) (tB 160 p (tL 160 p (.putfield 67) 19) (tL 158 p (.newarray .int) 0))))))) (tB 79 p (tB 118 p (tB 139 p (tB 148 p (tB 152 p (tB 155 p (tB 156 p (tL 156 p (.bipush 16) 0) (tL 155 p (.aload_n 0) 0)) (tL 152 p (.putfield 64) 18)) (tB 150 p (tL 150 p (.newarray .int) 0) (tL 148 p (.bipush 16) 0))) (tB 142 p (tB 144 p (tB 147 p (tL 147 p (.aload_n 0) 0) (tL 144 p (.putfield 61) 17)) (tL 142 p (.newarray .int) 0)) (tB 140 p (tL 140 p (.bipush 16) 0) (tL 139 p (.aload_n 0) 0)))) (tB 128 p (tB 132 p (tB 134 p (tB 136 p (tL 136 p (.putfield 58) 16) (tL 134 p (.newarray .int) 0)) (tL 132 p (.bipush 16) 0)) (tB 131 p (tL 131 p (.aload_n 0) 0) (tL 128 p (.putfield 55) 15))) (tB 123 p (tB 124 p (tB 126 p (tL 126 p (.newarray .int) 0) (tL 124 p (.bipush 16) 0)) (tL 123 p (.aload_n 0) 0)) (tB 120 p (tL 120 p (.putfield 52) 14) (tL 118 p (.newarray .int) 0))))) (tB 99 p (tB 108 p (tB 112 p (tB 115 p (tB 116 p (tL 116 p (.bipush 16) 0) (tL 115 p (.aload_n 0) 0)) (tL 112 p (.putfield 49) 13)) (tB 110 p (tL 110 p (.newarray .int) 0) (tL 108 p (.bipush 32) 0))) (tB 102 p (tB 104 p (tB 107 p (tL 107 p (.aload_n 0) 0) (tL 104 p (.putfield 46) 12)) (tL 102 p (.newarray .int) 0)) (tB 100 p (tL 100 p (.bipush 32) 0) (tL 99 p (.aload_n 0) 0)))) (tB 88 p (tB 92 p (tB 94 p (tB 96 p (tL 96 p (.putfield 43) 11) (tL 94 p (.newarray .int) 0)) (tL 92 p (.bipush 16) 0)) (tB 91 p (tL 91 p (.aload_n 0) 0) (tL 88 p (.putfield 40) 10))) (tB 84 p (tB 85 p (tB 86 p (tL 86 p (.newarray .int) 0) (tL 85 p (.iconst 4) 0)) (tL 84 p (.aload_n 0) 0)) (tB 81 p (tL 81 p (.putfield 37) 9) (tL 79 p (.newarray .int) 0)))))) (tB 39 p (tB 60 p (tB 69 p (tB 73 p (tB 76 p (tB 77 p (tL 77 p (.bipush 16) 0) (tL 76 p (.aload_n 0) 0)) (tL 73 p (.putfield 34) 8)) (tB 71 p (tL 71 p (.newarray .int) 0) (tL 69 p (.bipush 16) 0))) (tB 63 p (tB 65 p (tB 68 p (tL 68 p (.aload_n 0) 0) (tL 65 p (.putfield 31) 7)) (tL 63 p (.newarray .int) 0)) (tB 61 p (tL 61 p (.bipush 16) 0) (tL 60 p (.aload_n 0) 0)))) (tB 49 p (tB 53 p (tB 55 p (tB 57 p (tL 57 p (.putfield 28) 6) (tL 55 p (.newarray .int) 0)) (tL 53 p (.bipush 16) 0)) (tB 52 p (tL 52 p (.aload_n 0) 0) (tL 49 p (.putfield 25) 5))) (tB 44 p (tB 45 p (tB 47 p (tL 47 p (.newarray .int) 0) (tL 45 p (.bipush 16) 0)) (tL 44 p (.aload_n 0) 0)) (tB 41 p (tL 41 p (.putfield 22) 4) (tL 39 p (.newarray .int) 0))))) (tB 20 p (tB 29 p (tB 33 p (tB 36 p (tB 37 p (tL 37 p (.bipush 16) 0) (tL 36 p (.aload_n 0) 0)) (tL 33 p (.putfield 19) 3)) (tB 31 p (tL 31 p (.newarray .int) 0) (tL 29 p (.bipush 16) 0))) (tB 23 p (tB 25 p (tB 28 p (tL 28 p (.aload_n 0) 0) (tL 25 p (.putfield 16) 2)) (tL 23 p (.newarray .int) 0)) (tB 21 p (tL 21 p (.bipush 16) 0) (tL 20 p (.aload_n 0) 0)))) (tB 9 p (tB 13 p (tB 15 p (tB 17 p (tL 17 p (.putfield 13) 1) (tL 15 p (.newarray .int) 0)) (tL 13 p (.bipush 16) 0)) (tB 12 p (tL 12 p (.aload_n 0) 0) (tL 9 p (.putfield 7) 0))) (tB 4 p (tB 5 p (tB 7 p (tL 7 p (.newarray .int) 0) (tL 5 p (.bipush 16) 0)) (tL 4 p (.aload_n 0) 0)) (tB 1 p (tL 1 p (.invokespecial 1) 0) (tL 0 p (.aload_n 0) 0))))))))
def cd2 (p : Nat) : Option (Instr × Nat) := (tB 71 p (tB 99 p (tB 114 p (tB 120 p (tB 124 p (tB 127 p (tB 129 p (tL 129 p .ireturn 0) (tL 127 p (.iload 5) 0)) (tL 124 p (.invokevirtual 121) 4)) (tB 123 p (tL 123 p (.aload_n 0) 0) (tL 120 p (.putfield 101) 30))) (tB 116 p (tB 118 p (tB 119 p (tL 119 p .iadd 0) (tL 118 p (.iconst 1) 0)) (tL 116 p (.iload 5) 0)) (tB 115 p (tL 115 p (.aload_n 0) 0) (tL 114 p .iastore 0)))) (tB 104 p (tB 108 p (tB 111 p (tB 113 p (tL 113 p (.iconst 0) 0) (tL 111 p (.iload 5) 0)) (tL 108 p (.getfield 31) 7)) (tB 107 p (tL 107 p (.aload_n 0) 0) (tL 104 p (.invokevirtual 117) 3))) (tB 102 p (tB 103 p (tL 103 p (.iconst 0) 0) (tL 102 p (.iconst 0) 0)) (tB 101 p (tL 101 p (.iconst 0) 0) (tL 99 p (.iload 5) 0))))) (tB 85 p (tB 90 p (tB 95 p (tB 97 p (tB 98 p (tL 98 p (.aload_n 0) 0) (tL 97 p .iastore 0)) (tL 95 p (.iload 4) 0)) (tB 93 p (tL 93 p (.iload 5) 0) (tL 90 p (.getfield 19) 3))) (tB 88 p (tB 89 p (tL 89 p (.aload_n 0) 0) (tL 88 p .iastore 0)) (tB 87 p (tL 87 p (.iload_n 3) 0) (tL 85 p (.iload 5) 0)))) (tB 77 p (tB 80 p (tB 81 p (tB 82 p (tL 82 p (.getfield 16) 2) (tL 81 p (.aload_n 0) 0)) (tL 80 p .iastore 0)) (tB 79 p (tL 79 p (.iload_n 2) 0) (tL 77 p (.iload 5) 0))) (tB 73 p (tB 74 p (tL 74 p (.getfield 13) 1) (tL 73 p (.aload_n 0) 0)) (tB 72 p (tL 72 p .iastore 0) (tL 71 p (.iload_n 1) 0)))))) (tB 36 p (tB 53 p (tB 60 p (tB 65 p (tB 66 p (tB 69 p (tL 69 p (.iload 5) 0) (tL 66 p (.getfield 7) 0)) (tL 65 p (.aload_n 0) 0)) (tB 63 p (tL 63 p (.istore 5) 0) (tL 60 p (.getfield 101) 30))) (tB 57 p (tB 58 p (tB 59 p (tL 59 p (.aload_n 0) 0) (tL 58 p .ireturn 0)) (tL 57 p (.iconst (-1)) 0)) (tB 54 p (tL 54 p (.if_icmp .le 5) 59) (tL 53 p (.iconst 3) 0)))) (tB 44 p (tB 48 p (tB 49 p (tB 52 p (tL 52 p (.iload_n 3) 0) (tL 49 p (.ifCond .lt 8) 57)) (tL 48 p (.iload_n 3) 0)) (tB 45 p (tL 45 p (.if_icmp .gt 12) 57) (tL 44 p (.iconst 3) 0))) (tB 40 p (tB 43 p (tL 43 p (.iload_n 2) 0) (tL 40 p (.ifCond .lt 17) 57)) (tB 39 p (tL 39 p (.iload_n 2) 0) (tL 36 p (.if_icmp .gt 21) 57))))) (tB 19 p (tB 28 p (tB 30 p (tB 33 p (tB 34 p (tL 34 p (.bipush 7) 0) (tL 33 p (.iload_n 1) 0)) (tL 30 p (.ifCond .lt 27) 57)) (tB 29 p (tL 29 p (.iload_n 1) 0) (tL 28 p .ireturn 0))) (tB 24 p (tB 27 p (tL 27 p (.iconst (-1)) 0) (tL 24 p (.if_icmp .lt 5) 29)) (tB 22 p (tL 22 p (.bipush 16) 0) (tL 19 p (.getfield 101) 30)))) (tB 8 p (tB 12 p (tB 15 p (tB 18 p (tL 18 p (.aload_n 0) 0) (tL 15 p (.if_icmp .eq 12) 27)) (tL 12 p (.getfield 94) 28)) (tB 11 p (tL 11 p (.aload_n 0) 0) (tL 8 p (.getfield 101) 30))) (tB 4 p (tB 7 p (tL 7 p (.aload_n 0) 0) (tL 4 p (.ifCond .ne 23) 27)) (tB 1 p (tL 1 p (.getfield 104) 31) (tL 0 p (.aload_n 0) 0)))))))
def cd3 (p : Nat) : Option (Instr × Nat) := (tB 12 p (tB 18 p (tB 21 p (tB 22 p (tL 22 p .return_ 0) (tL 21 p .iastore 0)) (tB 19 p (tL 19 p (.iload 4) 0) (tL 18 p (.iload_n 1) 0))) (tB 14 p (tB 15 p (tL 15 p (.getfield 28) 6) (tL 14 p (.aload_n 0) 0)) (tB 13 p (tL 13 p .iastore 0) (tL 12 p (.iload_n 3) 0)))) (tB 6 p (tB 8 p (tB 11 p (tL 11 p (.iload_n 1) 0) (tL 8 p (.getfield 25) 5)) (tB 7 p (tL 7 p (.aload_n 0) 0) (tL 6 p .iastore 0))) (tB 4 p (tB 5 p (tL 5 p (.iload_n 2) 0) (tL 4 p (.iload_n 1) 0)) (tB 1 p (tL 1 p (.getfield 22) 4) (tL 0 p (.aload_n 0) 0)))))
def cd4 (p : Nat) : Option (Instr × Nat) := (tB 14 p (tB 20 p (tB 22 p (tB 25 p (tB 28 p (tL 28 p .return_ 0) (tL 25 p (.goto (-23)) 2)) (tL 22 p (.iinc 1 1) 0)) (tB 21 p (tL 21 p .iastore 0) (tL 20 p (.iconst 0) 0))) (tB 16 p (tB 19 p (tL 19 p (.iload_n 1) 0) (tL 16 p (.getfield 37) 9)) (tB 15 p (tL 15 p (.aload_n 0) 0) (tL 14 p .iastore 0)))) (tB 5 p (tB 9 p (tB 12 p (tB 13 p (tL 13 p (.iconst 0) 0) (tL 12 p (.iload_n 1) 0)) (tL 9 p (.getfield 34) 8)) (tB 8 p (tL 8 p (.aload_n 0) 0) (tL 5 p (.if_icmp .ge 23) 28))) (tB 2 p (tB 3 p (tL 3 p (.bipush 16) 0) (tL 2 p (.iload_n 1) 0)) (tB 1 p (tL 1 p (.istore_n 1) 0) (tL 0 p (.iconst 0) 0)))))
def cd5 (p : Nat) : Option (Instr × Nat) := (tB 26 p (tB 37 p (tB 40 p (tB 44 p (tB 45 p (tL 45 p .ireturn 0) (tL 44 p (.iconst 1) 0)) (tB 41 p (tL 41 p (.invokevirtual 121) 4) (tL 40 p (.aload_n 0) 0))) (tB 38 p (tB 39 p (tL 39 p .iastore 0) (tL 38 p (.iconst 0) 0)) (tL 37 p (.iload_n 1) 0))) (tB 29 p (tB 33 p (tB 34 p (tL 34 p (.getfield 31) 7) (tL 33 p (.aload_n 0) 0)) (tB 30 p (tL 30 p (.invokevirtual 117) 3) (tL 29 p (.iload_n 2) 0))) (tB 27 p (tB 28 p (tL 28 p (.iconst 0) 0) (tL 27 p (.iconst 1) 0)) (tL 26 p (.iload_n 1) 0)))) (tB 15 p (tB 20 p (tB 24 p (tB 25 p (tL 25 p (.aload_n 0) 0) (tL 24 p .ireturn 0)) (tB 23 p (tL 23 p (.iconst 0) 0) (tL 20 p (.ifCond .ne 5) 25))) (tB 16 p (tB 17 p (tL 17 p (.invokevirtual 124) 6) (tL 16 p (.iload_n 2) 0)) (tL 15 p (.aload_n 0) 0))) (tB 7 p (tB 9 p (tB 12 p (tL 12 p (.ifCond .eq 11) 23) (tL 9 p (.invokevirtual 124) 6)) (tB 8 p (tL 8 p (.iload_n 1) 0) (tL 7 p (.aload_n 0) 0))) (tB 1 p (tB 4 p (tL 4 p (.ifCond .ne 19) 23) (tL 1 p (.getfield 104) 31)) (tL 0 p (.aload_n 0) 0)))))
def cd6 (p : Nat) : Option (Instr × Nat) := (tB 12 p (tB 18 p (tB 22 p (tB 23 p (tL 23 p .ireturn 0) (tL 22 p (.iconst 0) 0)) (tB 19 p (tL 19 p (.goto 4) 23) (tL 18 p (.iconst 1) 0))) (tB 13 p (tB 15 p (tL 15 p (.if_icmp .ge 7) 22) (tL 13 p (.bipush 16) 0)) (tL 12 p (.iload_n 1) 0))) (tB 5 p (tB 6 p (tB 9 p (tL 9 p (.if_icmp .ge 13) 22) (tL 6 p (.getfield 101) 30)) (tL 5 p (.aload_n 0) 0)) (tB 1 p (tB 4 p (tL 4 p (.iload_n 1) 0) (tL 1 p (.ifCond .lt 21) 22)) (tL 0 p (.iload_n 1) 0))))
def cd7 (p : Nat) : Option (Instr × Nat) := (tB 51 p (tB 86 p (tB 103 p (tB 112 p (tB 114 p (tB 117 p (tB 118 p (tL 118 p .ireturn 0) (tL 117 p (.iload_n 3) 0)) (tL 114 p (.putfield 114) 34)) (tB 113 p (tL 113 p (.iload_n 3) 0) (tL 112 p (.aload_n 0) 0))) (tB 108 p (tB 109 p (tL 109 p (.goto (-58)) 51) (tL 108 p (.istore_n 2) 0)) (tB 106 p (tL 106 p (.iload 4) 0) (tL 103 p (.goto 9) 112)))) (tB 94 p (tB 98 p (tB 101 p (tB 102 p (tL 102 p (.istore_n 3) 0) (tL 101 p (.iconst 1) 0)) (tL 98 p (.ifCond .ge 8) 106)) (tB 96 p (tL 96 p (.iload 4) 0) (tL 94 p (.istore 4) 0))) (tB 90 p (tB 91 p (tL 91 p (.invokevirtual 132) 8) (tL 90 p (.iload_n 2) 0)) (tB 89 p (tL 89 p (.aload_n 0) 0) (tL 86 p (.goto 10) 96))))) (tB 67 p (tB 73 p (tB 79 p (tB 80 p (tB 84 p (tL 84 p (.istore 4) 0) (tL 80 p (.iload_n 2) 0)) (tL 79 p (.aload_n 0) 0)) (tB 76 p (tL 76 p (.ifCond .eq 13) 89) (tL 73 p (.getfield 104) 31))) (tB 69 p (tB 72 p (tL 72 p (.aload_n 0) 0) (tL 69 p (.putfield 111) 33)) (tB 68 p (tL 68 p .iadd 0) (tL 67 p (.iconst 1) 0)))) (tB 59 p (tB 63 p (tB 64 p (tL 64 p (.getfield 111) 33) (tL 63 p .dup 0)) (tB 62 p (tL 62 p (.aload_n 0) 0) (tL 59 p (.if_icmp .ge 53) 112))) (tB 55 p (tB 56 p (tL 56 p (.getfield 98) 29) (tL 55 p (.aload_n 0) 0)) (tB 52 p (tL 52 p (.getfield 111) 33) (tL 51 p (.aload_n 0) 0)))))) (tB 27 p (tB 38 p (tB 44 p (tB 48 p (tB 49 p (tB 50 p (tL 50 p (.istore_n 3) 0) (tL 49 p (.iconst 2) 0)) (tL 48 p (.istore_n 2) 0)) (tB 47 p (tL 47 p (.iconst 0) 0) (tL 44 p (.putfield 111) 33))) (tB 42 p (tB 43 p (tL 43 p (.iconst 0) 0) (tL 42 p (.aload_n 0) 0)) (tB 39 p (tL 39 p (.putfield 108) 32) (tL 38 p (.iconst 0) 0)))) (tB 31 p (tB 35 p (tB 36 p (tB 37 p (tL 37 p (.aload_n 0) 0) (tL 36 p .iastore 0)) (tL 35 p (.iconst 0) 0)) (tB 34 p (tL 34 p (.iconst 3) 0) (tL 31 p (.getfield 40) 10))) (tB 29 p (tB 30 p (tL 30 p (.aload_n 0) 0) (tL 29 p .iastore 0)) (tB 28 p (tL 28 p (.iconst 0) 0) (tL 27 p (.iconst 2) 0))))) (tB 14 p (tB 20 p (tB 22 p (tB 23 p (tB 24 p (tL 24 p (.getfield 40) 10) (tL 23 p (.aload_n 0) 0)) (tL 22 p .iastore 0)) (tB 21 p (tL 21 p (.iconst 0) 0) (tL 20 p (.iconst 1) 0))) (tB 16 p (tB 17 p (tL 17 p (.getfield 40) 10) (tL 16 p (.aload_n 0) 0)) (tB 15 p (tL 15 p .iastore 0) (tL 14 p (.iload_n 1) 0)))) (tB 8 p (tB 10 p (tB 13 p (tL 13 p (.iconst 0) 0) (tL 10 p (.getfield 40) 10)) (tB 9 p (tL 9 p (.aload_n 0) 0) (tL 8 p .ireturn 0))) (tB 4 p (tB 7 p (tL 7 p (.iconst 3) 0) (tL 4 p (.ifCond .ne 5) 9)) (tB 1 p (tL 1 p (.getfield 101) 30) (tL 0 p (.aload_n 0) 0)))))))
def cd8 (p : Nat) : Option (Instr × Nat) := (tB 61 p (tB 94 p (tB 108 p (tB 113 p (tB 118 p (tB 119 p (tB 120 p (tL 120 p .ireturn 0) (tL 119 p (.iconst (-1)) 0)) (tL 118 p .ireturn 0)) (tB 116 p (tB 117 p (tL 117 p .iaload 0) (tL 116 p (.iload_n 1) 0)) (tL 113 p (.getfield 31) 7))) (tB 110 p (tB 111 p (tB 112 p (tL 112 p (.aload_n 0) 0) (tL 111 p .iastore 0)) (tL 110 p .iadd 0)) (tB 109 p (tL 109 p (.iconst 1) 0) (tL 108 p .iaload 0)))) (tB 101 p (tB 103 p (tB 106 p (tB 107 p (tL 107 p .dup2 0) (tL 106 p (.iload_n 1) 0)) (tL 103 p (.getfield 37) 9)) (tB 102 p (tL 102 p (.aload_n 0) 0) (tL 101 p .ireturn 0))) (tB 96 p (tB 99 p (tB 100 p (tL 100 p .iaload 0) (tL 99 p (.iload_n 1) 0)) (tL 96 p (.getfield 28) 6)) (tB 95 p (tL 95 p (.aload_n 0) 0) (tL 94 p .iastore 0))))) (tB 77 p (tB 89 p (tB 91 p (tB 92 p (tB 93 p (tL 93 p .iadd 0) (tL 92 p (.iconst 1) 0)) (tL 91 p .iaload 0)) (tB 90 p (tL 90 p .dup2 0) (tL 89 p (.iload_n 1) 0))) (tB 82 p (tB 85 p (tB 86 p (tL 86 p (.getfield 34) 8) (tL 85 p (.aload_n 0) 0)) (tL 82 p (.ifCond .eq 20) 102)) (tB 78 p (tL 78 p .iaload 0) (tL 77 p (.iload_n 1) 0)))) (tB 68 p (tB 72 p (tB 73 p (tB 74 p (tL 74 p (.getfield 25) 5) (tL 73 p (.aload_n 0) 0)) (tL 72 p (.aload_n 0) 0)) (tB 69 p (tL 69 p (.if_icmp .ne 50) 119) (tL 68 p (.iconst 2) 0))) (tB 65 p (tB 66 p (tB 67 p (tL 67 p (.iload_n 2) 0) (tL 66 p .ireturn 0)) (tL 65 p .iaload 0)) (tB 64 p (tL 64 p (.iload_n 1) 0) (tL 61 p (.getfield 28) 6)))))) (tB 30 p (tB 46 p (tB 55 p (tB 58 p (tB 59 p (tB 60 p (tL 60 p (.aload_n 0) 0) (tL 59 p .iastore 0)) (tL 58 p .iadd 0)) (tB 56 p (tB 57 p (tL 57 p (.iconst 1) 0) (tL 56 p .iaload 0)) (tL 55 p .dup2 0))) (tB 50 p (tB 51 p (tB 54 p (tL 54 p (.iload_n 1) 0) (tL 51 p (.getfield 34) 8)) (tL 50 p (.aload_n 0) 0)) (tB 47 p (tL 47 p (.if_icmp .ne 20) 67) (tL 46 p (.iconst 1) 0)))) (tB 39 p (tB 43 p (tB 44 p (tB 45 p (tL 45 p (.iload_n 2) 0) (tL 44 p (.istore_n 2) 0)) (tL 43 p .iaload 0)) (tB 42 p (tL 42 p (.iload_n 1) 0) (tL 39 p (.getfield 22) 4))) (tB 34 p (tB 35 p (tB 38 p (tL 38 p (.aload_n 0) 0) (tL 35 p (.invokevirtual 150) 9)) (tL 34 p .iaload 0)) (tB 33 p (tL 33 p (.iload_n 1) 0) (tL 30 p (.getfield 19) 3))))) (tB 16 p (tB 23 p (tB 27 p (tB 28 p (tB 29 p (tL 29 p (.aload_n 0) 0) (tL 28 p .iaload 0)) (tL 27 p (.iload_n 1) 0)) (tB 24 p (tL 24 p (.getfield 16) 2) (tL 23 p (.aload_n 0) 0))) (tB 18 p (tB 21 p (tB 22 p (tL 22 p .iaload 0) (tL 21 p (.iload_n 1) 0)) (tL 18 p (.getfield 13) 1)) (tB 17 p (tL 17 p (.aload_n 0) 0) (tL 16 p .iaload 0)))) (tB 9 p (tB 11 p (tB 12 p (tB 15 p (tL 15 p (.iload_n 1) 0) (tL 12 p (.getfield 7) 0)) (tL 11 p (.aload_n 0) 0)) (tB 10 p (tL 10 p (.aload_n 0) 0) (tL 9 p .ireturn 0))) (tB 2 p (tB 5 p (tB 8 p (tL 8 p (.iconst (-1)) 0) (tL 5 p (.ifCond .ne 5) 10)) (tL 2 p (.invokevirtual 124) 6)) (tB 1 p (tL 1 p (.iload_n 1) 0) (tL 0 p (.aload_n 0) 0)))))))
def cd9 (p : Nat) : Option (Instr × Nat) := (tB 100 p (tB 149 p (tB 178 p (tB 191 p (tB 197 p (tB 199 p (tB 202 p (tL 202 p .return_ 0) (tL 199 p (.putfield 108) 32)) (tB 198 p (tL 198 p .iadd 0) (tL 197 p (.iconst 1) 0))) (tB 193 p (tB 194 p (tL 194 p (.getfield 108) 32) (tL 193 p .dup 0)) (tB 192 p (tL 192 p (.aload_n 0) 0) (tL 191 p .iastore 0)))) (tB 185 p (tB 189 p (tB 190 p (tL 190 p .iaload 0) (tL 189 p (.iload_n 2) 0)) (tB 186 p (tL 186 p (.getfield 40) 10) (tL 185 p (.aload_n 0) 0))) (tB 181 p (tB 182 p (tL 182 p (.getfield 108) 32) (tL 181 p (.aload_n 0) 0)) (tL 178 p (.getfield 43) 11)))) (tB 161 p (tB 169 p (tB 174 p (tB 177 p (tL 177 p (.aload_n 0) 0) (tL 174 p (.if_icmp .ge 18) 192)) (tB 172 p (tL 172 p (.bipush 16) 0) (tL 169 p (.getfield 108) 32))) (tB 165 p (tB 168 p (tL 168 p (.aload_n 0) 0) (tL 165 p (.ifCond .lt 27) 192)) (tB 162 p (tL 162 p (.getfield 108) 32) (tL 161 p (.aload_n 0) 0)))) (tB 152 p (tB 156 p (tB 158 p (tL 158 p (.if_icmp .ne 44) 202) (tL 156 p (.bipush 7) 0)) (tB 155 p (tL 155 p (.iload_n 1) 0) (tL 152 p (.goto 50) 202))) (tB 150 p (tB 151 p (tL 151 p .iastore 0) (tL 150 p .ishr 0)) (tL 149 p (.iconst 1) 0))))) (tB 125 p (tB 135 p (tB 143 p (tB 147 p (tB 148 p (tL 148 p .iaload 0) (tL 147 p (.iload_n 2) 0)) (tB 144 p (tL 144 p (.getfield 40) 10) (tL 143 p (.aload_n 0) 0))) (tB 139 p (tB 142 p (tL 142 p (.iload_n 2) 0) (tL 139 p (.getfield 40) 10)) (tB 138 p (tL 138 p (.aload_n 0) 0) (tL 135 p (.if_icmp .ne 20) 155)))) (tB 128 p (tB 132 p (tB 133 p (tL 133 p (.bipush 6) 0) (tL 132 p (.iload_n 1) 0)) (tB 129 p (tL 129 p (.goto 73) 202) (tL 128 p .iastore 0))) (tB 126 p (tB 127 p (tL 127 p .isub 0) (tL 126 p .iaload 0)) (tL 125 p (.iload_n 3) 0)))) (tB 111 p (tB 119 p (tB 121 p (tB 122 p (tL 122 p (.getfield 40) 10) (tL 121 p (.aload_n 0) 0)) (tB 120 p (tL 120 p .iaload 0) (tL 119 p (.iload_n 2) 0))) (tB 115 p (tB 116 p (tL 116 p (.getfield 40) 10) (tL 115 p (.aload_n 0) 0)) (tB 114 p (tL 114 p (.iload_n 2) 0) (tL 111 p (.getfield 40) 10)))) (tB 105 p (tB 107 p (tB 110 p (tL 110 p (.aload_n 0) 0) (tL 107 p (.if_icmp .ne 25) 132)) (tB 106 p (tL 106 p (.iconst 5) 0) (tL 105 p (.iload_n 1) 0))) (tB 101 p (tB 102 p (tL 102 p (.goto 100) 202) (tL 101 p .iastore 0)) (tL 100 p .iadd 0)))))) (tB 51 p (tB 75 p (tB 88 p (tB 94 p (tB 98 p (tB 99 p (tL 99 p .iaload 0) (tL 98 p (.iload_n 3) 0)) (tB 95 p (tL 95 p (.getfield 40) 10) (tL 94 p (.aload_n 0) 0))) (tB 92 p (tB 93 p (tL 93 p .iaload 0) (tL 92 p (.iload_n 2) 0)) (tB 89 p (tL 89 p (.getfield 40) 10) (tL 88 p (.aload_n 0) 0)))) (tB 80 p (tB 84 p (tB 87 p (tL 87 p (.iload_n 2) 0) (tL 84 p (.getfield 40) 10)) (tB 83 p (tL 83 p (.aload_n 0) 0) (tL 80 p (.if_icmp .ne 25) 105))) (tB 78 p (tB 79 p (tL 79 p (.iconst 4) 0) (tL 78 p (.iload_n 1) 0)) (tL 75 p (.goto 127) 202)))) (tB 64 p (tB 70 p (tB 73 p (tB 74 p (tL 74 p .iastore 0) (tL 73 p .iadd 0)) (tB 71 p (tL 71 p (.iload 4) 0) (tL 70 p .iaload 0))) (tB 66 p (tB 69 p (tL 69 p (.iload_n 2) 0) (tL 66 p (.getfield 40) 10)) (tB 65 p (tL 65 p (.aload_n 0) 0) (tL 64 p (.iload_n 2) 0)))) (tB 56 p (tB 60 p (tB 61 p (tL 61 p (.getfield 40) 10) (tL 60 p (.aload_n 0) 0)) (tB 57 p (tL 57 p (.if_icmp .ne 21) 78) (tL 56 p (.iconst 3) 0))) (tB 52 p (tB 55 p (tL 55 p (.iload_n 1) 0) (tL 52 p (.goto 150) 202)) (tL 51 p .iastore 0))))) (tB 25 p (tB 37 p (tB 45 p (tB 49 p (tB 50 p (tL 50 p .iaload 0) (tL 49 p (.iload_n 3) 0)) (tB 46 p (tL 46 p (.getfield 40) 10) (tL 45 p (.aload_n 0) 0))) (tB 41 p (tB 44 p (tL 44 p (.iload_n 2) 0) (tL 41 p (.getfield 40) 10)) (tB 40 p (tL 40 p (.aload_n 0) 0) (tL 37 p (.if_icmp .ne 18) 55)))) (tB 31 p (tB 35 p (tB 36 p (tL 36 p (.iconst 2) 0) (tL 35 p (.iload_n 1) 0)) (tB 32 p (tL 32 p (.goto 170) 202) (tL 31 p .iastore 0))) (tB 28 p (tB 29 p (tL 29 p (.iload 4) 0) (tL 28 p (.iload_n 2) 0)) (tL 25 p (.getfield 40) 10)))) (tB 13 p (tB 19 p (tB 21 p (tB 24 p (tL 24 p (.aload_n 0) 0) (tL 21 p (.if_icmp .ne 14) 35)) (tB 20 p (tL 20 p (.iconst 1) 0) (tL 19 p (.iload_n 1) 0))) (tB 15 p (tB 18 p (tL 18 p .return_ 0) (tL 15 p (.if_icmp .le 4) 19)) (tB 14 p (tL 14 p (.iconst 3) 0) (tL 13 p (.iload_n 3) 0)))) (tB 5 p (tB 9 p (tB 10 p (tL 10 p (.ifCond .lt 8) 18) (tL 9 p (.iload_n 3) 0)) (tB 6 p (tL 6 p (.if_icmp .gt 12) 18) (tL 5 p (.iconst 3) 0))) (tB 1 p (tB 4 p (tL 4 p (.iload_n 2) 0) (tL 1 p (.ifCond .lt 17) 18)) (tL 0 p (.iload_n 2) 0)))))))
def cd10 (p : Nat) : Option (Instr × Nat) := (tB 36 p (tB 51 p (tB 61 p (tB 63 p (tB 66 p (tB 67 p (tL 67 p .ireturn 0) (tL 66 p (.iconst 1) 0)) (tL 63 p (.invokevirtual 121) 4)) (tB 62 p (tL 62 p (.aload_n 0) 0) (tL 61 p .iastore 0))) (tB 55 p (tB 58 p (tB 59 p (tL 59 p (.iload 4) 0) (tL 58 p (.iload_n 1) 0)) (tL 55 p (.getfield 31) 7)) (tB 54 p (tL 54 p (.aload_n 0) 0) (tL 51 p (.invokevirtual 117) 3)))) (tB 46 p (tB 48 p (tB 49 p (tB 50 p (tL 50 p (.iload_n 3) 0) (tL 49 p (.iload_n 2) 0)) (tL 48 p (.iconst 2) 0)) (tB 47 p (tL 47 p (.iload_n 1) 0) (tL 46 p (.aload_n 0) 0))) (tB 41 p (tB 44 p (tB 45 p (tL 45 p .ireturn 0) (tL 44 p (.iconst 0) 0)) (tL 41 p (.ifCond .ne 5) 46)) (tB 38 p (tL 38 p (.invokevirtual 124) 6) (tL 36 p (.iload 4) 0))))) (tB 17 p (tB 27 p (tB 29 p (tB 32 p (tB 35 p (tL 35 p (.aload_n 0) 0) (tL 32 p (.ifCond .eq 12) 44)) (tL 29 p (.invokevirtual 124) 6)) (tB 28 p (tL 28 p (.iload_n 3) 0) (tL 27 p (.aload_n 0) 0))) (tB 21 p (tB 22 p (tB 24 p (tL 24 p (.if_icmp .gt 20) 44) (tL 22 p (.bipush 15) 0)) (tL 21 p (.iload_n 2) 0)) (tB 18 p (tL 18 p (.ifCond .lt 26) 44) (tL 17 p (.iload_n 2) 0)))) (tB 8 p (tB 12 p (tB 15 p (tB 16 p (tL 16 p .ireturn 0) (tL 15 p (.iconst 0) 0)) (tL 12 p (.ifCond .ne 5) 17)) (tB 9 p (tL 9 p (.invokevirtual 124) 6) (tL 8 p (.iload_n 1) 0))) (tB 4 p (tB 7 p (tL 7 p (.aload_n 0) 0) (tL 4 p (.ifCond .ne 11) 15)) (tB 1 p (tL 1 p (.getfield 104) 31) (tL 0 p (.aload_n 0) 0))))))
def cd11 (p : Nat) : Option (Instr × Nat) := (tB 19 p (tB 27 p (tB 32 p (tB 33 p (tB 34 p (tL 34 p .ireturn 0) (tL 33 p (.iconst 0) 0)) (tL 32 p .ireturn 0)) (tB 30 p (tB 31 p (tL 31 p .iaload 0) (tL 30 p (.iload_n 1) 0)) (tL 27 p (.getfield 37) 9))) (tB 22 p (tB 23 p (tB 26 p (tL 26 p (.aload_n 0) 0) (tL 23 p (.if_icmp .ne 10) 33)) (tL 22 p (.iconst 1) 0)) (tB 20 p (tB 21 p (tL 21 p (.iload_n 2) 0) (tL 20 p .ireturn 0)) (tL 19 p .iaload 0)))) (tB 9 p (tB 14 p (tB 15 p (tB 18 p (tL 18 p (.iload_n 1) 0) (tL 15 p (.getfield 34) 8)) (tL 14 p (.aload_n 0) 0)) (tB 10 p (tB 11 p (tL 11 p (.ifCond .ne 10) 21) (tL 10 p (.iload_n 2) 0)) (tL 9 p .ireturn 0))) (tB 2 p (tB 5 p (tB 8 p (tL 8 p (.iconst 0) 0) (tL 5 p (.ifCond .ne 5) 10)) (tL 2 p (.invokevirtual 124) 6)) (tB 1 p (tL 1 p (.iload_n 1) 0) (tL 0 p (.aload_n 0) 0)))))
def cd12 (p : Nat) : Option (Instr × Nat) := (tB 55 p (tB 81 p (tB 95 p (tB 104 p (tB 106 p (tB 107 p (tB 108 p (tL 108 p .ireturn 0) (tL 107 p (.iconst 0) 0)) (tL 106 p .ireturn 0)) (tB 105 p (tL 105 p .iaload 0) (tL 104 p (.iload_n 1) 0))) (tB 100 p (tB 101 p (tL 101 p (.getfield 31) 7) (tL 100 p (.aload_n 0) 0)) (tB 97 p (tL 97 p (.if_icmp .ne 10) 107) (tL 95 p (.bipush 7) 0)))) (tB 88 p (tB 92 p (tB 93 p (tB 94 p (tL 94 p (.iload_n 2) 0) (tL 93 p .ireturn 0)) (tL 92 p .iaload 0)) (tB 91 p (tL 91 p (.iload_n 1) 0) (tL 88 p (.getfield 28) 6))) (tB 84 p (tB 87 p (tL 87 p (.aload_n 0) 0) (tL 84 p (.if_icmp .ne 10) 94)) (tB 82 p (tL 82 p (.bipush 6) 0) (tL 81 p (.iload_n 2) 0))))) (tB 68 p (tB 74 p (tB 78 p (tB 79 p (tB 80 p (tL 80 p .ireturn 0) (tL 79 p .iaload 0)) (tL 78 p (.iload_n 1) 0)) (tB 75 p (tL 75 p (.getfield 25) 5) (tL 74 p (.aload_n 0) 0))) (tB 70 p (tB 71 p (tL 71 p (.if_icmp .ne 10) 81) (tL 70 p (.iconst 5) 0)) (tB 69 p (tL 69 p (.iload_n 2) 0) (tL 68 p .ireturn 0)))) (tB 59 p (tB 63 p (tB 66 p (tB 67 p (tL 67 p .iaload 0) (tL 66 p (.iload_n 1) 0)) (tL 63 p (.getfield 22) 4)) (tB 62 p (tL 62 p (.aload_n 0) 0) (tL 59 p (.if_icmp .ne 10) 69))) (tB 57 p (tB 58 p (tL 58 p (.iconst 4) 0) (tL 57 p (.iload_n 2) 0)) (tB 56 p (tL 56 p .ireturn 0) (tL 55 p .iaload 0)))))) (tB 27 p (tB 42 p (tB 46 p (tB 50 p (tB 51 p (tB 54 p (tL 54 p (.iload_n 1) 0) (tL 51 p (.getfield 19) 3)) (tL 50 p (.aload_n 0) 0)) (tB 47 p (tL 47 p (.if_icmp .ne 10) 57) (tL 46 p (.iconst 3) 0))) (tB 44 p (tB 45 p (tL 45 p (.iload_n 2) 0) (tL 44 p .ireturn 0)) (tB 43 p (tL 43 p .iaload 0) (tL 42 p (.iload_n 1) 0)))) (tB 33 p (tB 35 p (tB 38 p (tB 39 p (tL 39 p (.getfield 16) 2) (tL 38 p (.aload_n 0) 0)) (tL 35 p (.if_icmp .ne 10) 45)) (tB 34 p (tL 34 p (.iconst 2) 0) (tL 33 p (.iload_n 2) 0))) (tB 31 p (tB 32 p (tL 32 p .ireturn 0) (tL 31 p .iaload 0)) (tB 30 p (tL 30 p (.iload_n 1) 0) (tL 27 p (.getfield 13) 1))))) (tB 14 p (tB 20 p (tB 22 p (tB 23 p (tB 26 p (tL 26 p (.aload_n 0) 0) (tL 23 p (.if_icmp .ne 10) 33)) (tL 22 p (.iconst 1) 0)) (tB 21 p (tL 21 p (.iload_n 2) 0) (tL 20 p .ireturn 0))) (tB 18 p (tB 19 p (tL 19 p .iaload 0) (tL 18 p (.iload_n 1) 0)) (tB 15 p (tL 15 p (.getfield 7) 0) (tL 14 p (.aload_n 0) 0)))) (tB 8 p (tB 10 p (tB 11 p (tL 11 p (.ifCond .ne 10) 21) (tL 10 p (.iload_n 2) 0)) (tB 9 p (tL 9 p .ireturn 0) (tL 8 p (.iconst 0) 0))) (tB 2 p (tB 5 p (tL 5 p (.ifCond .ne 5) 10) (tL 2 p (.invokevirtual 124) 6)) (tB 1 p (tL 1 p (.iload_n 1) 0) (tL 0 p (.aload_n 0) 0)))))))
def pCode (m pc : Nat) : Option (Instr × Nat) := bif Nat.ble pN m then none else bif Nat.ble pTop pc then none else (bif Nat.ble 6 m then (bif Nat.ble 9 m then (bif Nat.ble 11 m then (bif Nat.ble 12 m then cd12 pc else cd11 pc) else (bif Nat.ble 10 m then cd10 pc else cd9 pc)) else (bif Nat.ble 7 m then (bif Nat.ble 8 m then cd8 pc else cd7 pc) else cd6 pc)) else (bif Nat.ble 3 m then (bif Nat.ble 4 m then (bif Nat.ble 5 m then cd5 pc else cd4 pc) else cd3 pc) else (bif Nat.ble 1 m then (bif Nat.ble 2 m then cd2 pc else cd1 pc) else cd0 pc)))
def lkF : List (Nat × Nat × Nat) := [(1, 7, 0), (1, 13, 1), (1, 16, 2), (1, 19, 3), (1, 22, 4), (1, 25, 5), (1, 28, 6), (1, 31, 7), (1, 34, 8), (1, 37, 9), (1, 40, 10), (1, 43, 11), (1, 46, 12), (1, 49, 13), (1, 52, 14), (1, 55, 15), (1, 58, 16), (1, 61, 17), (1, 64, 18), (1, 67, 19), (1, 70, 20), (1, 73, 21), (1, 76, 22), (1, 79, 23), (1, 82, 24), (1, 85, 25), (1, 88, 26), (1, 91, 27), (1, 94, 28), (1, 98, 29), (1, 101, 30), (1, 104, 31), (1, 108, 32), (1, 111, 33), (1, 114, 34)]
def lkN : List (Nat × Nat) := [(0, 7)]
def lkC : List (Nat × Nat × Nat) := []
def lkD : List (Nat × Nat × Nat) := []
def lkV : List (Nat × Nat × Nat) := [(0, 9, 1), (0, 12, 2), (1, 117, 3), (1, 121, 4), (0, 16, 5), (1, 124, 6), (0, 20, 7), (1, 132, 8), (1, 150, 9), (0, 24, 10), (0, 28, 11), (0, 32, 12)]
def lkO : List (Nat × Nat) := [(1, 1)]
def mV : List Nat := [2, 5, 7, 10, 11, 12]
def mP : List Nat := [3, 4, 6, 8, 9]
def mS : List Nat := []
def mI : List Nat := [1]
def mA : List Nat := [1, 2, 3, 4, 5, 6, 7, 8, 9, 10, 11, 12]
def aTys : List FieldType := [.int]
/-! ENGINE: abstract cells, locals, one-step function, and what a triple says of the model. -/
abbrev QCell := List Value ⊕ ((FieldType × List Int32) ⊕ List Int64)
abbrev QHeap := List QCell
abbrev QLoc := List (Option Value)
abbrev vI (x : Int32) : Option Value := some (.int x)
abbrev QSt := Nat × QLoc × List Value × QHeap
def qv (ad : Nat → Addr) : Value → Value
  | .ref k => .ref (ad k)
  | v => v
def qsz : QCell → Nat
  | .inl _ => cN
  | .inr (.inl x) => x.2.length
  | .inr (.inr x) => x.length
def qhs : QHeap → Nat
  | [] => 0
  | c :: t => qsz c + qhs t
def aget {α : Type} (xs : List α) (j : Int32) : Option α := if j < 0 then none else xs[j.toNatClampNeg]?
def aset {α : Type} (xs : List α) (j : Int32) (v : α) : Option (List α) := if j < 0 then none else if j.toNatClampNeg < xs.length then some (xs.set j.toNatClampNeg v) else none
def qnew (n : Int32) : Option Nat := if n < 0 then none else if n.toNatClampNeg ≤ 67108864 then some n.toNatClampNeg else none
def qdiv (x y : Int32) : Option Int32 := if y = 0 then none else some (x / y)
def qrem (x y : Int32) : Option Int32 := if y = 0 then none else some (x % y)
def qboo (x : Int32) : Option Int32 := if x = 0 then some x else if x = 1 then some x else none
def lget : QLoc → Nat → Option Value
  | [], _ => none
  | v :: _, 0 => v
  | _ :: t, k + 1 => lget t k
def hget : QHeap → Nat → Option QCell
  | [], _ => none
  | v :: _, 0 => some v
  | _ :: t, k + 1 => hget t k
def vget : List Value → Nat → Option Value
  | [], _ => none
  | v :: _, 0 => some v
  | _ :: t, k + 1 => vget t k
def lkill (L : QLoc) : Nat → QLoc
  | 0 => L
  | k + 1 => match lget L k with
    | some (.long _) => L.set k none
    | some (.double _) => L.set k none
    | _ => L
def lput (L : QLoc) (k : Nat) (v : Value) : Option QLoc :=
  match v with
  | .long x => bif Nat.ble (k + 2) L.length then some (((lkill L k).set k (some (.long x))).set (k + 1) none) else none
  | .double _ => none
  | v => bif Nat.ble (k + 1) L.length then some ((lkill L k).set k (some v)) else none
/-- push what a local holds, if it is of the kind -/
def qload (pc : Nat) (L : QLoc) (S : List Value) (σ : QHeap) (k : Nat) (ok : Value → Bool) : Option QSt :=
  match lget L k with
  | some v => bif ok v then some (pc, L, v :: S, σ) else none
  | none => none
def isI : Value → Bool | .int _ => true | _ => false
def isJ : Value → Bool | .long _ => true | _ => false
def isR : Value → Bool | .ref _ => true | _ => false
def qstore (pc : Nat) (L : QLoc) (S : List Value) (σ : QHeap) (k : Nat) (ok : Value → Bool) : Option QSt :=
  match S with
  | v :: S' => bif ok v then (match lput L k v with | some L' => some (pc, L', S', σ) | none => none) else none
  | [] => none
def qbin (pc : Nat) (L : QLoc) (S : List Value) (σ : QHeap) (f : Int32 → Int32 → Int32) : Option QSt :=
  match S with
  | .int y :: .int x :: S' => some (pc, L, .int (f x y) :: S', σ)
  | _ => none
def qbino (pc : Nat) (L : QLoc) (S : List Value) (σ : QHeap) (f : Int32 → Int32 → Option Int32) : Option QSt :=
  match S with
  | .int y :: .int x :: S' => (f x y).bind fun z => some (pc, L, .int z :: S', σ)
  | _ => none
def qbinJ (pc : Nat) (L : QLoc) (S : List Value) (σ : QHeap) (f : Int64 → Int64 → Int64) : Option QSt :=
  match S with
  | .long y :: .long x :: S' => some (pc, L, .long (f x y) :: S', σ)
  | _ => none
def qshJ (pc : Nat) (L : QLoc) (S : List Value) (σ : QHeap) (f : Int64 → Int32 → Int64) : Option QSt :=
  match S with
  | .int y :: .long x :: S' => some (pc, L, .long (f x y) :: S', σ)
  | _ => none
def quni (pc : Nat) (L : QLoc) (S : List Value) (σ : QHeap) (f : Int32 → Value) : Option QSt :=
  match S with
  | .int x :: S' => some (pc, L, f x :: S', σ)
  | _ => none
def quniJ (pc : Nat) (L : QLoc) (S : List Value) (σ : QHeap) (f : Int64 → Value) : Option QSt :=
  match S with
  | .long x :: S' => some (pc, L, f x :: S', σ)
  | _ => none
def qald (pc : Nat) (L : QLoc) (S : List Value) (σ : QHeap) (ok : FieldType → Bool) : Option QSt :=
  match S with
  | .int j :: .ref a :: S' => (match hget σ a with
    | some (.inr (.inl x)) => bif ok x.1 then (aget x.2 j).bind fun v => some (pc, L, .int v :: S', σ) else none
    | _ => none)
  | _ => none
def qaldJ (pc : Nat) (L : QLoc) (S : List Value) (σ : QHeap) : Option QSt :=
  match S with
  | .int j :: .ref a :: S' => (match hget σ a with
    | some (.inr (.inr x)) => (aget x j).bind fun v => some (pc, L, .long v :: S', σ)
    | _ => none)
  | _ => none
def qnar : FieldType → Int32 → Int32
  | .boolean, x => x &&& 1
  | .byte, x => x.toInt8.toInt32
  | _, x => x
def qast (pc : Nat) (L : QLoc) (S : List Value) (σ : QHeap) (ok : FieldType → Bool) : Option QSt :=
  match S with
  | .int v :: .int j :: .ref a :: S' => (match hget σ a with
    | some (.inr (.inl x)) => bif ok x.1 && Nat.ble k0 a then (aset x.2 j (qnar x.1 v)).bind fun y => some (pc, L, S', σ.set a (.inr (.inl (x.1, y)))) else none
    | _ => none)
  | _ => none
def qastJ (pc : Nat) (L : QLoc) (S : List Value) (σ : QHeap) : Option QSt :=
  match S with
  | .long v :: .int j :: .ref a :: S' => (match hget σ a with
    | some (.inr (.inr x)) => bif Nat.ble k0 a then (aset x j v).bind fun y => some (pc, L, S', σ.set a (.inr (.inr y))) else none
    | _ => none)
  | _ => none
def tyI : FieldType → Bool | .int => true | _ => false
def tyB : FieldType → Bool | .boolean => true | .byte => true | _ => false
/-- what a value becomes in a field of the type (none: it doesn't fit) -/
def qfit : FieldType → Value → Option Value
  | .int, .int x => some (.int x)
  | .boolean, .int x => (qboo x).bind fun y => some (.int y)
  | .long, .long x => some (.long x)
  | .array t, .ref a => some (.ref a)
  | _, _ => none
def qget (pc : Nat) (L : QLoc) (S : List Value) (σ : QHeap) (k : Nat) : Option QSt :=
  match S with
  | .ref a :: S' => (match hget σ a with
    | some (.inl vs) => (match vget vs k with | some v => some (pc, L, v :: S', σ) | none => none)
    | _ => none)
  | _ => none
def qput (pc : Nat) (L : QLoc) (S : List Value) (σ : QHeap) (k : Nat) : Option QSt :=
  match S with
  | v :: .ref a :: S' => (match hget σ a with
    | some (.inl vs) => bif Nat.ble k0 a && Nat.ble (k + 1) vs.length then (qfit (fTy k) v).bind fun w => some (pc, L, S', σ.set a (.inl (vs.set k w))) else none
    | _ => none)
  | _ => none
def qnewA (pc : Nat) (L : QLoc) (S : List Value) (σ : QHeap) (t : ArrayType) : Option QSt :=
  match S with
  | .int n :: S' => (match t with
    | .int => (qnew n).bind fun k => some (pc, L, .ref σ.length :: S', σ ++ [.inr (.inl (.int, List.replicate k 0))])
    | .boolean => (qnew n).bind fun k => some (pc, L, .ref σ.length :: S', σ ++ [.inr (.inl (.boolean, List.replicate k 0))])
    | .byte => (qnew n).bind fun k => some (pc, L, .ref σ.length :: S', σ ++ [.inr (.inl (.byte, List.replicate k 0))])
    | .long => (qnew n).bind fun k => some (pc, L, .ref σ.length :: S', σ ++ [.inr (.inr (List.replicate k 0))])
    | _ => none)
  | _ => none
def qlen (pc : Nat) (L : QLoc) (S : List Value) (σ : QHeap) : Option QSt :=
  match S with
  | .ref a :: S' => (match hget σ a with
    | some (.inr (.inl x)) => some (pc, L, .int x.2.length.toInt32 :: S', σ)
    | some (.inr (.inr x)) => some (pc, L, .int x.length.toInt32 :: S', σ)
    | _ => none)
  | _ => none
def qdup (pc : Nat) (L : QLoc) (S : List Value) (σ : QHeap) : Option QSt :=
  match S with
  | .int x :: S' => some (pc, L, .int x :: .int x :: S', σ)
  | .ref x :: S' => some (pc, L, .ref x :: .ref x :: S', σ)
  | _ => none
def qdup2 (pc : Nat) (L : QLoc) (S : List Value) (σ : QHeap) : Option QSt :=
  match S with
  | .int x :: .ref y :: S' => some (pc, L, .int x :: .ref y :: .int x :: .ref y :: S', σ)
  | .int x :: .int y :: S' => some (pc, L, .int x :: .int y :: .int x :: .int y :: S', σ)
  | .long x :: S' => some (pc, L, .long x :: .long x :: S', σ)
  | _ => none
def qpop (pc : Nat) (L : QLoc) (S : List Value) (σ : QHeap) : Option QSt :=
  match S with
  | .int _ :: S' => some (pc, L, S', σ)
  | .ref _ :: S' => some (pc, L, S', σ)
  | _ => none
def qif (pc : Nat) (L : QLoc) (S : List Value) (σ : QHeap) (cd : ClassFile.Cond) (tgt : Nat) : Option QSt :=
  match S with
  | .int x :: S' => some (bif ifCond.holds cd x then tgt else pc, L, S', σ)
  | _ => none
def qicmp (pc : Nat) (L : QLoc) (S : List Value) (σ : QHeap) (cd : ClassFile.Cond) (tgt : Nat) : Option QSt :=
  match S with
  | .int y :: .int x :: S' => some (bif if_icmp.holds cd x y then tgt else pc, L, S', σ)
  | _ => none
def qinc (pc : Nat) (L : QLoc) (S : List Value) (σ : QHeap) (k : Nat) (i : Int) : Option QSt :=
  match lget L k with
  | some (.int x) => (match lput L k (.int (x + Int32.ofInt i)) with | some L' => some (pc, L', S, σ) | none => none)
  | _ => none
def qldc (pc : Nat) (L : QLoc) (S : List Value) (σ : QHeap) (k : Nat) : Option QSt :=
  match vget cK k with
  | some v => some (pc, L, v :: S, σ)
  | none => none
def qexec (pc : Nat) (L : QLoc) (S : List Value) (σ : QHeap) (aux : Nat) : Instr → Option QSt
  | .aload_n k => qload (pc + 1) L S σ k.val isR
  | .aload k => qload (pc + 2) L S σ k isR
  | .iload_n k => qload (pc + 1) L S σ k.val isI
  | .iload k => qload (pc + 2) L S σ k isI
  | .lload_n k => qload (pc + 1) L S σ k.val isJ
  | .lload k => qload (pc + 2) L S σ k isJ
  | .iconst i => some (pc + 1, L, .int (Int32.ofInt i) :: S, σ)
  | .bipush i => some (pc + 2, L, .int (Int8.ofInt i).toInt32 :: S, σ)
  | .sipush i => some (pc + 3, L, .int (Int16.ofInt i).toInt32 :: S, σ)
  | .lconst k => some (pc + 1, L, .long (Int64.ofNat k.val) :: S, σ)
  | .ldc _ => qldc (pc + 2) L S σ aux
  | .ldc2_w _ => qldc (pc + 3) L S σ aux
  | .istore_n k => qstore (pc + 1) L S σ k.val isI
  | .istore k => qstore (pc + 2) L S σ k isI
  | .lstore_n k => qstore (pc + 1) L S σ k.val isJ
  | .lstore k => qstore (pc + 2) L S σ k isJ
  | .astore_n k => qstore (pc + 1) L S σ k.val isR
  | .astore k => qstore (pc + 2) L S σ k isR
  | .iinc k i => qinc (pc + 3) L S σ k i
  | .iadd => qbin (pc + 1) L S σ fun x y => x + y
  | .isub => qbin (pc + 1) L S σ fun x y => x - y
  | .imul => qbin (pc + 1) L S σ fun x y => x * y
  | .iand => qbin (pc + 1) L S σ fun x y => x &&& y
  | .ior => qbin (pc + 1) L S σ fun x y => x ||| y
  | .ixor => qbin (pc + 1) L S σ fun x y => x ^^^ y
  | .ishl => qbin (pc + 1) L S σ fun x y => x <<< (y &&& 31)
  | .ishr => qbin (pc + 1) L S σ fun x y => x >>> (y &&& 31)
  | .iushr => qbin (pc + 1) L S σ fun x y => XT.ushr x y
  | .idiv => qbino (pc + 1) L S σ qdiv
  | .irem => qbino (pc + 1) L S σ qrem
  | .ineg => quni (pc + 1) L S σ fun x => .int (-x)
  | .i2l => quni (pc + 1) L S σ fun x => .long x.toInt64
  | .i2b => quni (pc + 1) L S σ fun x => .int x.toInt8.toInt32
  | .l2i => quniJ (pc + 1) L S σ fun x => .int x.toInt32
  | .lneg => quniJ (pc + 1) L S σ fun x => .long (-x)
  | .ladd => qbinJ (pc + 1) L S σ fun x y => x + y
  | .lsub => qbinJ (pc + 1) L S σ fun x y => x - y
  | .lmul => qbinJ (pc + 1) L S σ fun x y => x * y
  | .land => qbinJ (pc + 1) L S σ fun x y => x &&& y
  | .lor => qbinJ (pc + 1) L S σ fun x y => x ||| y
  | .lxor => qbinJ (pc + 1) L S σ fun x y => x ^^^ y
  | .lshl => qshJ (pc + 1) L S σ fun x y => x <<< (y.toInt64 &&& 63)
  | .lshr => qshJ (pc + 1) L S σ fun x y => x >>> (y.toInt64 &&& 63)
  | .lushr => qshJ (pc + 1) L S σ fun x y => XT.ushrL x y
  | .lcmp => (match S with
    | .long y :: .long x :: S' => some (pc + 1, L, .int (XT.cmpL x y) :: S', σ)
    | _ => none)
  | .goto _ => some (aux, L, S, σ)
  | .ifCond cd _ => qif (pc + 3) L S σ cd aux
  | .if_icmp cd _ => qicmp (pc + 3) L S σ cd aux
  | .dup => qdup (pc + 1) L S σ
  | .dup2 => qdup2 (pc + 1) L S σ
  | .pop => qpop (pc + 1) L S σ
  | .getfield _ => qget (pc + 3) L S σ aux
  | .putfield _ => qput (pc + 3) L S σ aux
  | .iaload => qald (pc + 1) L S σ tyI
  | .baload => qald (pc + 1) L S σ tyB
  | .laload => qaldJ (pc + 1) L S σ
  | .iastore => qast (pc + 1) L S σ tyI
  | .bastore => qast (pc + 1) L S σ tyB
  | .lastore => qastJ (pc + 1) L S σ
  | .arraylength => qlen (pc + 1) L S σ
  | .newarray t => qnewA (pc + 2) L S σ t
  | .new _ => some (pc + 3, L, .ref σ.length :: S, σ ++ [.inl cDef])
  | _ => none
def qstep (m : Nat) (st : QSt) : Option QSt :=
  match pCode m st.1 with
  | some (i, aux) => qexec st.1 st.2.1 st.2.2.1 st.2.2.2 aux i
  | none => none
def qsteps (m : Nat) : Nat → QSt → Option QSt
  | 0, st => some st
  | n + 1, st => match qstep m st with | some st' => qsteps m n st' | none => none
def qentry (args : List Value) (mx : Nat) : QLoc := (args.flatMap fun v => match v with | .long x => [some (.long x), none] | .double x => [some (.double x), none] | v => [some v]) ++ List.replicate (mx - (args.map fun v => v.category).sum) none
/-! ## what the abstract state says of the model's -/
def ilen : Instr → Nat
  | .aload _ | .iload _ | .lload _ | .istore _ | .lstore _ | .astore _ | .bipush _ | .ldc _ | .newarray _ => 2
  | .sipush _ | .ldc2_w _ | .iinc _ _ | .goto _ | .ifCond _ _ | .if_icmp _ _ | .getfield _ | .putfield _ | .new _ | .invokevirtual _ | .invokespecial _ | .invokestatic _ => 3
  | _ => 1
def qtgt (pc : Nat) (o : Int) (aux : Nat) : Bool := decide (0 ≤ (pc : Int) + o) && decide (((pc : Int) + o).toNat = aux)
def qlk (m pc : Nat) (i : Instr) (aux : Nat) : Bool :=
  match i with
  | .goto o => qtgt pc o aux
  | .ifCond _ o => qtgt pc o aux
  | .if_icmp _ o => qtgt pc o aux
  | .getfield idx => lkF.contains (pK m, idx, aux)
  | .putfield idx => lkF.contains (pK m, idx, aux) && (!fFin aux || (pK m == 1 && pNm m == "<init>"))
  | .new idx => lkN.contains (pK m, idx)
  | .newarray t => aTys.contains (newarray.typeOf t)
  | .ldc idx => lkC.contains (pK m, idx, aux)
  | .ldc2_w idx => lkD.contains (pK m, idx, aux)
  | _ => true
def qchk (m pc : Nat) (i : Instr) (aux : Nat) : Bool := decide (decode (pBytes m) pc = .ok (i, ilen i)) && qlk m pc i aux
def QCellOk (Z : State) (ad : Nat → Addr) (h : Heap) (a : Addr) : QCell → Prop
  | .inl vs => Exa Z h a cName ∧ vs.length = nF ∧ ∀ (k : Nat) (v : Value), k < nF → vget vs k = some v → Fld Z h a cName (fNm k) (fDs k) (qv ad v)
  | .inr (.inl x) => ∃ c : Cell, Arr Z h a c x.1 ∧ c.slots = (x.2.map Value.int).toArray
  | .inr (.inr x) => ∃ c : Cell, Arr Z h a c .long ∧ c.slots = (x.map Value.long).toArray
def QAd (n0 : Nat) (ad : Nat → Addr) : Prop := (∀ k, k0 ≤ k → ad k = n0 + (k - k0)) ∧ ∀ i j, ad i = ad j → i = j
def QRep (Z : State) (n0 : Nat) (ad : Nat → Addr) (h : Heap) (σ : QHeap) : Prop := k0 ≤ σ.length ∧ h.size = n0 + (σ.length - k0) ∧ ∀ k c, hget σ k = some c → QCellOk Z ad h (ad k) c
def QLocOk (ad : Nat → Addr) (L : QLoc) (C : Array Slot) : Prop :=
  L.length = C.size ∧ (∀ k v, lget L k = some v → C[k]? = some (.val (qv ad v))) ∧ (∀ k w, C[k]? = some (.val w) → w.category = 2 → C[k + 1]? = some .second) ∧ ∀ k, C[k]? = some .second → ∃ j w, k = j + 1 ∧ C[j]? = some (.val w) ∧ w.category = 2
/-- the words of the sheet, as the engine uses them -/
def QW (Z : State) (a0 : Array Value) : Prop :=
  (∀ t ∈ lkF, (Cond.fieldLink (kName t.1) t.2.1 cName (fNm t.2.2) (fDs t.2.2)).before a0 Z = true) ∧
  (∀ t ∈ lkN, (Cond.classLink (kName t.1) t.2 cName).before a0 Z = true) ∧
  (∀ t ∈ lkC, ∃ v, vget cK t.2.2 = some (.int v) ∧ (Cond.constant (kName t.1) t.2.1 v).before a0 Z = true) ∧
  (∀ t ∈ lkD, ∃ v, vget cK t.2.2 = some (.long v) ∧ (Cond.constantLong (kName t.1) t.2.1 v).before a0 Z = true) ∧
  (∀ t ∈ lkV, (Cond.methodLink (kName t.1) t.2.1 (pName t.2.2)).before a0 Z = true) ∧
  (∀ t ∈ lkO, (Cond.methodLink (kName t.1) t.2 Lib.objectInit).before a0 Z = true) ∧
  (∀ m ∈ mV, (Cond.declares (pName m)).before a0 Z = true ∧ (Cond.selects cName (pName m) (pName m)).before a0 Z = true ∧ (Cond.instanceMethod (pName m)).before a0 Z = true) ∧
  (∀ m ∈ mP, (Cond.instanceMethod (pName m)).before a0 Z = true ∧ (Cond.privateMethod (pName m)).before a0 Z = true) ∧
  (∀ m ∈ mS, (Cond.static (pName m)).before a0 Z = true) ∧
  (∀ m ∈ mI, (Cond.instanceMethod (pName m)).before a0 Z = true) ∧
  (∀ m ∈ mA, (Cond.code (pName m) (pBytes m) (pMaxL m) (pRet m)).before a0 Z = true ∧ (Cond.initialized (kName (pK m))).before a0 Z = true) ∧
  (Cond.instanceMethod Lib.objectInit).before a0 Z = true ∧ (Cond.code Lib.objectInit ⟨#[0xb1]⟩ 1 none).before a0 Z = true ∧
  (∀ k, k < nF → bif fFin k then (Cond.laysFinal cName cName (fNm k) (fDs k)).before a0 Z = true else (Cond.lays cName cName (fNm k) (fDs k)).before a0 Z = true) ∧
  (Cond.instantiable cName cN).before a0 Z = true ∧ (Cond.initialized cName).before a0 Z = true ∧
  ∀ ty ∈ aTys, (Cond.arrayClass ty).before a0 Z = true
section Words
variable {Z : State} {a0 : Array Value}
theorem qw_fl (W : QW Z a0) : ∀ t ∈ lkF, (Cond.fieldLink (kName t.1) t.2.1 cName (fNm t.2.2) (fDs t.2.2)).before a0 Z = true := W.1
theorem qw_nw (W : QW Z a0) : ∀ t ∈ lkN, (Cond.classLink (kName t.1) t.2 cName).before a0 Z = true := W.2.1
theorem qw_cI (W : QW Z a0) : ∀ t ∈ lkC, ∃ v, vget cK t.2.2 = some (.int v) ∧ (Cond.constant (kName t.1) t.2.1 v).before a0 Z = true := W.2.2.1
theorem qw_cJ (W : QW Z a0) : ∀ t ∈ lkD, ∃ v, vget cK t.2.2 = some (.long v) ∧ (Cond.constantLong (kName t.1) t.2.1 v).before a0 Z = true := W.2.2.2.1
theorem qw_ml (W : QW Z a0) : ∀ t ∈ lkV, (Cond.methodLink (kName t.1) t.2.1 (pName t.2.2)).before a0 Z = true := W.2.2.2.2.1
theorem qw_mo (W : QW Z a0) : ∀ t ∈ lkO, (Cond.methodLink (kName t.1) t.2 Lib.objectInit).before a0 Z = true := W.2.2.2.2.2.1
theorem qw_vi (W : QW Z a0) : ∀ m ∈ mV, (Cond.declares (pName m)).before a0 Z = true ∧ (Cond.selects cName (pName m) (pName m)).before a0 Z = true ∧ (Cond.instanceMethod (pName m)).before a0 Z = true := W.2.2.2.2.2.2.1
theorem qw_pr (W : QW Z a0) : ∀ m ∈ mP, (Cond.instanceMethod (pName m)).before a0 Z = true ∧ (Cond.privateMethod (pName m)).before a0 Z = true := W.2.2.2.2.2.2.2.1
theorem qw_st (W : QW Z a0) : ∀ m ∈ mS, (Cond.static (pName m)).before a0 Z = true := W.2.2.2.2.2.2.2.2.1
theorem qw_ini (W : QW Z a0) : ∀ m ∈ mI, (Cond.instanceMethod (pName m)).before a0 Z = true := W.2.2.2.2.2.2.2.2.2.1
theorem qw_cod (W : QW Z a0) : ∀ m ∈ mA, (Cond.code (pName m) (pBytes m) (pMaxL m) (pRet m)).before a0 Z = true ∧ (Cond.initialized (kName (pK m))).before a0 Z = true := W.2.2.2.2.2.2.2.2.2.2.1
theorem qw_oi (W : QW Z a0) : (Cond.instanceMethod Lib.objectInit).before a0 Z = true := W.2.2.2.2.2.2.2.2.2.2.2.1
theorem qw_oc (W : QW Z a0) : (Cond.code Lib.objectInit ⟨#[0xb1]⟩ 1 none).before a0 Z = true := W.2.2.2.2.2.2.2.2.2.2.2.2.1
theorem qw_lay (W : QW Z a0) : ∀ k, k < nF → bif fFin k then (Cond.laysFinal cName cName (fNm k) (fDs k)).before a0 Z = true else (Cond.lays cName cName (fNm k) (fDs k)).before a0 Z = true := W.2.2.2.2.2.2.2.2.2.2.2.2.2.1
theorem qw_inst (W : QW Z a0) : (Cond.instantiable cName cN).before a0 Z = true := W.2.2.2.2.2.2.2.2.2.2.2.2.2.2.1
theorem qw_init (W : QW Z a0) : (Cond.initialized cName).before a0 Z = true := W.2.2.2.2.2.2.2.2.2.2.2.2.2.2.2.1
theorem qw_arr (W : QW Z a0) : ∀ ty ∈ aTys, (Cond.arrayClass ty).before a0 Z = true := W.2.2.2.2.2.2.2.2.2.2.2.2.2.2.2.2
end Words
/-! ## small laws of lists -/
theorem hget_eq : ∀ (σ : QHeap) k, hget σ k = σ[k]?
  | [], _ => by simp [hget]
  | _ :: _, 0 => by simp [hget]
  | _ :: t, k + 1 => by simp [hget, hget_eq t k]
theorem vget_eq : ∀ (σ : List Value) k, vget σ k = σ[k]?
  | [], _ => by simp [vget]
  | _ :: _, 0 => by simp [vget]
  | _ :: t, k + 1 => by simp [vget, vget_eq t k]
theorem lget_eq : ∀ (L : QLoc) k, lget L k = (L[k]?).getD none
  | [], _ => by simp [lget]
  | _ :: _, 0 => by simp [lget]
  | _ :: t, k + 1 => by simp [lget, lget_eq t k]
theorem lget_lt {L : QLoc} {k : Nat} {v : Value} (h : lget L k = some v) : k < L.length := by
  rw [lget_eq] at h
  rcases Nat.lt_or_ge k L.length with q | q
  · exact q
  · simp [List.getElem?_eq_none q] at h
theorem lget_set {L : QLoc} {k j : Nat} {o : Option Value} (hk : k < L.length) : lget (L.set k o) j = if j = k then o else lget L j := by
  simp only [lget_eq, List.getElem?_set]
  by_cases e : k = j
  · subst e; simp [hk]
  · simp [e, Ne.symm e]
theorem qhs_app (σ τ : QHeap) : qhs (σ ++ τ) = qhs σ + qhs τ := by
  induction σ with
  | nil => simp [qhs]
  | cons c t ih => simp [qhs, ih, Nat.add_assoc]
theorem qhs_set {σ : QHeap} {k : Nat} {c d : QCell} (h : hget σ k = some c) (hs : qsz d = qsz c) : qhs (σ.set k d) = qhs σ := by
  induction σ generalizing k with
  | nil => simp [hget] at h
  | cons x t ih =>
    cases k with
    | zero => simp only [hget, Option.some.injEq] at h; subst h; simp [qhs, hs]
    | succ k => simp only [hget] at h; simp [qhs, ih h]
theorem hget_set {σ : QHeap} {k j : Nat} {c d : QCell} (h : hget σ k = some c) : hget (σ.set k d) j = if j = k then some d else hget σ j := by
  rw [hget_eq] at h
  have hk := (List.getElem?_eq_some_iff.mp h).1
  simp only [hget_eq, List.getElem?_set]
  by_cases e : k = j
  · subst e; simp [hk]
  · simp [e, Ne.symm e]
theorem lkill_len (L : QLoc) (k : Nat) : (lkill L k).length = L.length := by
  cases k with
  | zero => rfl
  | succ k => simp only [lkill]; split <;> simp
theorem lget_kill {L : QLoc} {k j : Nat} {v : Value} (h : lget (lkill L k) j = some v) : lget L j = some v ∧ (k = j + 1 → v.category ≠ 2) := by
  cases k with
  | zero => exact ⟨h, fun e => by omega⟩
  | succ k =>
    simp only [lkill] at h
    split at h
    · rename_i x q
      rw [lget_set (lget_lt q)] at h
      split at h
      · cases h
      · rename_i ne; exact ⟨h, fun e => absurd (by omega) ne⟩
    · rename_i x q
      rw [lget_set (lget_lt q)] at h
      split at h
      · cases h
      · rename_i ne; exact ⟨h, fun e => absurd (by omega) ne⟩
    · rename_i q1 q2
      refine ⟨h, fun e hc => ?_⟩
      obtain rfl : j = k := by omega
      cases v with
      | long x => exact q1 _ h
      | double x => exact q2 _ h
      | _ => simp [Value.category] at hc
theorem qv_cat (ad : Nat → Addr) (v : Value) : (qv ad v).category = v.category := by cases v <;> rfl
/-! ## storing into a local -/
def kA (C : Array Slot) (k j : Nat) : Prop := k = j + 1 ∧ C[k]? = some .second
def kB (C : Array Slot) (k j : Nat) : Prop := j = k + 1 ∧ ∃ u, C[k]? = some (.val u) ∧ u.category = 2
def kD (C : Array Slot) (k j : Nat) : Prop := j = k + 2 ∧ ∃ u, C[k + 1]? = some (.val u) ∧ u.category = 2
theorem set1_at {C D : Array Slot} {k : Nat} {w : Value} (hk : k < C.size) (hw : w.category = 1) (h : storeLocals C k w = some D) :
    D.size = C.size ∧ D[k]? = some (.val w) ∧ ∀ j, j ≠ k → (D[j]? = C[j]? ∧ ¬ kA C k j ∧ ¬ kB C k j) ∨ D[j]? = some .unset ∧ (kA C k j ∨ kB C k j) := by
  have hck : C[k]? = some C[k] := Array.getElem?_eq_getElem hk
  unfold storeLocals at h
  simp only [hck, Option.bind_eq_bind, Option.bind_some] at h
  have self : ∀ {E : Array Slot}, k < E.size → storeSelf E k w = some D → D = E.setIfInBounds k (.val w) := by
    intro E hE q
    simp only [storeSelf, setAt, hE, if_true, Option.bind_eq_bind, Option.bind_some, hw] at q
    simpa using q.symm
  split at h
  · rename_i q
    have hk1 : k - 1 < C.size := by omega
    simp only [setAt, hk1, if_true, Option.bind_some] at h
    have e := self (by simpa using hk) h
    subst e
    refine ⟨by simp, by simp [hk], fun j hj => ?_⟩
    by_cases ej : k = j + 1
    · refine Or.inr ⟨?_, Or.inl ⟨ej, by rw [hck, q]⟩⟩
      rw [Array.getElem?_setIfInBounds_ne (Ne.symm hj), show j = k - 1 by omega]
      simp [hk1]
    · refine Or.inl ⟨?_, fun x => ej x.1, fun x => ?_⟩
      · rw [Array.getElem?_setIfInBounds_ne (Ne.symm hj), Array.getElem?_setIfInBounds_ne (by omega)]
      · obtain ⟨-, u, x1, -⟩ := x
        rw [hck, q] at x1; cases x1
  · rename_i u q
    split at h
    · rename_i hu
      by_cases hk1 : k + 1 < C.size
      · simp only [setAt, hk1, if_true, Option.bind_some] at h
        have e := self (by simpa using hk) h
        subst e
        refine ⟨by simp, by simp [hk], fun j hj => ?_⟩
        by_cases ej : j = k + 1
        · refine Or.inr ⟨?_, Or.inr ⟨ej, u, by rw [hck, q], hu⟩⟩
          rw [Array.getElem?_setIfInBounds_ne (Ne.symm hj), ej]
          simp [hk1]
        · refine Or.inl ⟨?_, fun x => ?_, fun x => ej x.1⟩
          · rw [Array.getElem?_setIfInBounds_ne (Ne.symm hj), Array.getElem?_setIfInBounds_ne (by omega)]
          · obtain ⟨-, x1⟩ := x
            rw [hck, q] at x1; cases x1
      · simp [setAt, hk1] at h
    · rename_i hu
      have e := self hk h
      subst e
      refine ⟨by simp, by simp [hk], fun j hj => Or.inl ⟨Array.getElem?_setIfInBounds_ne (Ne.symm hj), fun x => ?_, fun x => ?_⟩⟩
      · obtain ⟨-, x1⟩ := x
        rw [hck, q] at x1; cases x1
      · obtain ⟨-, u', x1, x2⟩ := x
        rw [hck, q] at x1; cases x1; exact hu x2
  · rename_i q
    have e := self hk h
    subst e
    refine ⟨by simp, by simp [hk], fun j hj => Or.inl ⟨Array.getElem?_setIfInBounds_ne (Ne.symm hj), fun x => ?_, fun x => ?_⟩⟩
    · obtain ⟨-, x1⟩ := x
      rw [hck, q] at x1; cases x1
    · obtain ⟨-, u', x1, x2⟩ := x
      rw [hck, q] at x1; cases x1
theorem set2_at {C D : Array Slot} {k : Nat} {w : Value} (hk : k + 1 < C.size) (hw : w.category = 2) (wf : ∀ k w, C[k]? = some (.val w) → w.category = 2 → C[k + 1]? = some .second) (h : storeLocals C k w = some D) :
    D.size = C.size ∧ D[k]? = some (.val w) ∧ D[k + 1]? = some .second ∧ ∀ j, j ≠ k → j ≠ k + 1 → (D[j]? = C[j]? ∧ ¬ kA C k j ∧ ¬ kD C k j) ∨ D[j]? = some .unset ∧ (kA C k j ∨ kD C k j) := by
  have hk0 : k < C.size := by omega
  have hck : C[k]? = some C[k] := Array.getElem?_eq_getElem hk0
  unfold storeLocals at h
  simp only [hck, Option.bind_eq_bind, Option.bind_some] at h
  have self : ∀ {E : Array Slot}, E.size = C.size → storeSelf E k w = some D → D.size = C.size ∧ D[k]? = some (.val w) ∧ D[k + 1]? = some .second ∧ ∀ j, j ≠ k → j ≠ k + 1 → (D[j]? = E[j]? ∧ ¬ kD E k j) ∨ D[j]? = some .unset ∧ kD E k j := by
    intro E hs q
    have h1 : k < E.size := by omega
    have h2 : k + 1 < E.size := by omega
    have h3 : (E.setIfInBounds k (.val w))[k + 1]? = some E[k + 1] := by rw [Array.getElem?_setIfInBounds_ne (by omega)]; exact Array.getElem?_eq_getElem h2
    simp only [storeSelf, setAt, h1, if_true, Option.bind_eq_bind, Option.bind_some, hw, h3] at q
    have plain : (¬ ∃ u, E[k + 1]? = some (.val u) ∧ u.category = 2) → some ((E.setIfInBounds k (.val w)).setIfInBounds (k + 1) .second) = some D → D.size = C.size ∧ D[k]? = some (.val w) ∧ D[k + 1]? = some .second ∧ ∀ j, j ≠ k → j ≠ k + 1 → (D[j]? = E[j]? ∧ ¬ kD E k j) ∨ D[j]? = some .unset ∧ kD E k j := by
      intro no q
      cases q
      refine ⟨by simp [hs], ?_, ?_, fun j hj hj1 => Or.inl ⟨?_, fun x => no x.2⟩⟩
      · rw [Array.getElem?_setIfInBounds_ne (by omega)]; simp [h1]
      · simp [h2]
      · rw [Array.getElem?_setIfInBounds_ne (by omega), Array.getElem?_setIfInBounds_ne (by omega)]
    split at q
    · rename_i u hu
      split at q
      · rename_i hu2
        by_cases h5 : k + 2 < E.size
        · simp [h5, h2] at q
          cases q
          refine ⟨by simp [hs], ?_, ?_, fun j hj hj1 => ?_⟩
          · rw [Array.getElem?_setIfInBounds_ne (by omega), Array.getElem?_setIfInBounds_ne (by omega)]; simp [h1]
          · simp [h2]
          · by_cases e : j = k + 2
            · refine Or.inr ⟨?_, e, u, by rw [Array.getElem?_eq_getElem h2, hu], hu2⟩
              rw [Array.getElem?_setIfInBounds_ne (by omega), e]
              simp [h5]
            · refine Or.inl ⟨?_, fun x => e x.1⟩
              rw [Array.getElem?_setIfInBounds_ne (by omega), Array.getElem?_setIfInBounds_ne (by omega), Array.getElem?_setIfInBounds_ne (by omega)]
        · simp [h5] at q
      · rename_i hu2
        refine plain ?_ (by simpa [h2] using q)
        rintro ⟨u', x1, x2⟩
        rw [Array.getElem?_eq_getElem h2, hu] at x1; cases x1; exact hu2 x2
    · rename_i hu
      refine plain ?_ (by simpa [h2] using q)
      rintro ⟨u', x1, x2⟩
      rw [Array.getElem?_eq_getElem h2] at x1; exact hu _ (Option.some.inj x1)
  split at h
  · rename_i q
    have hk1 : k - 1 < C.size := by omega
    simp only [setAt, hk1, if_true, Option.bind_some] at h
    obtain ⟨e1, e2, e3, e4⟩ := self (by simp) h
    refine ⟨e1, e2, e3, fun j hj hj1 => ?_⟩
    have h6 : ∀ i, i + 1 ≠ k ∨ k = 0 → i ≠ k ∨ k ≠ 0 → (C.setIfInBounds (k - 1) Slot.unset)[i]? = C[i]? := fun i hi hi2 => Array.getElem?_setIfInBounds_ne (by omega)
    have h7 : (C.setIfInBounds (k - 1) Slot.unset)[k + 1]? = C[k + 1]? := Array.getElem?_setIfInBounds_ne (by omega)
    rcases e4 j hj hj1 with ⟨r, r'⟩ | ⟨r, r1, u, r2, r3⟩
    · by_cases ej : k = j + 1
      · refine Or.inr ⟨?_, Or.inl ⟨ej, by rw [hck, q]⟩⟩
        rw [r, show j = k - 1 by omega]; simp [hk1]
      · refine Or.inl ⟨by rw [r]; exact h6 _ (by omega) (by omega), fun x => ej x.1, fun x => r' ⟨x.1, ?_⟩⟩
        rw [h7]; exact x.2
    · exact Or.inr ⟨r, Or.inr ⟨r1, u, by rw [← h7]; exact r2, r3⟩⟩
  · rename_i u q
    split at h
    · rename_i hu
      simp only [setAt, hk, if_true, Option.bind_some] at h
      obtain ⟨e1, e2, e3, e4⟩ := self (by simp) h
      have hsec := wf k u (by rw [hck, q]) hu
      refine ⟨e1, e2, e3, fun j hj hj1 => ?_⟩
      rcases e4 j hj hj1 with ⟨r, r'⟩ | ⟨r, r1, u', r2, r3⟩
      · refine Or.inl ⟨by rw [r]; exact Array.getElem?_setIfInBounds_ne (by omega), fun x => ?_, fun x => ?_⟩
        · obtain ⟨-, x1⟩ := x
          rw [hck, q] at x1; cases x1
        · obtain ⟨-, u', x1, x2⟩ := x
          rw [hsec] at x1; cases x1
      · simp [hk] at r2
    · rename_i hu
      obtain ⟨e1, e2, e3, e4⟩ := self rfl h
      refine ⟨e1, e2, e3, fun j hj hj1 => ?_⟩
      rcases e4 j hj hj1 with ⟨r, r'⟩ | ⟨r, r'⟩
      · refine Or.inl ⟨r, fun x => ?_, r'⟩
        obtain ⟨-, x1⟩ := x
        rw [hck, q] at x1; cases x1
      · exact Or.inr ⟨r, Or.inr r'⟩
  · rename_i q
    obtain ⟨e1, e2, e3, e4⟩ := self rfl h
    refine ⟨e1, e2, e3, fun j hj hj1 => ?_⟩
    rcases e4 j hj hj1 with ⟨r, r'⟩ | ⟨r, r'⟩
    · refine Or.inl ⟨r, fun x => ?_, r'⟩
      obtain ⟨-, x1⟩ := x
      rw [hck, q] at x1; cases x1
    · exact Or.inr ⟨r, Or.inr r'⟩
/-- a store succeeds: in a well kept array of locals -/
theorem store_some {C : Array Slot} {k : Nat} {w : Value} (hk : k + (w.category - 1) < C.size) (hc : w.category = 1 ∨ w.category = 2) (wf : ∀ k w, C[k]? = some (.val w) → w.category = 2 → C[k + 1]? = some .second) :
    ∃ D, storeLocals C k w = some D := by
  have hk0 : k < C.size := by omega
  have hck : C[k]? = some C[k] := Array.getElem?_eq_getElem hk0
  have self : ∀ {E : Array Slot}, E.size = C.size → (∀ u, E[k + 1]? = some (.val u) → u.category = 2 → k + 2 < E.size) → ∃ D, storeSelf E k w = some D := by
    intro E hs hn
    have h1 : k < E.size := by omega
    simp only [storeSelf, setAt, h1, if_true, Option.bind_eq_bind, Option.bind_some]
    rcases hc with hc | hc
    · exact ⟨E.setIfInBounds k (.val w), by simp [hc]⟩
    · have h2 : k + 1 < E.size := by omega
      have h3 : (E.setIfInBounds k (.val w))[k + 1]? = some E[k + 1] := by rw [Array.getElem?_setIfInBounds_ne (by omega)]; exact Array.getElem?_eq_getElem h2
      simp only [hc, if_true, h3, Option.bind_some]
      split
      · rename_i u hu
        split
        · rename_i hu2
          have h5 := hn u (by rw [Array.getElem?_eq_getElem h2, hu]) hu2
          exact ⟨_, by simp [h5, h2]; rfl⟩
        · exact ⟨_, by simp [h2]; rfl⟩
      · exact ⟨_, by simp [h2]; rfl⟩
  have next : ∀ u, C[k + 1]? = some (.val u) → u.category = 2 → k + 2 < C.size := fun u h1 h2 => (Array.getElem?_eq_some_iff.mp (wf _ _ h1 h2)).1
  unfold storeLocals
  simp only [hck, Option.bind_eq_bind, Option.bind_some]
  split
  · have hk1 : k - 1 < C.size := by omega
    simp only [setAt, hk1, if_true, Option.bind_some]
    refine self (by simp) fun u h1 h2 => ?_
    rw [Array.getElem?_setIfInBounds_ne (by omega)] at h1
    simpa using next u h1 h2
  · rename_i u q
    split
    · rename_i hu
      have h5 := (Array.getElem?_eq_some_iff.mp (wf k u (by rw [hck, q]) hu)).1
      simp only [setAt, h5, if_true, Option.bind_some]
      refine self (by simp) fun u h1 h2 => ?_
      simp [h5] at h1
    · exact self rfl next
  · exact self rfl next
theorem store_ok1 {ad : Nat → Addr} {L : QLoc} {C : Array Slot} {k : Nat} {v : Value} (H : QLocOk ad L C) (hv : v.category = 1) (hk : k < L.length) :
    ∃ D, storeLocals C k (qv ad v) = some D ∧ QLocOk ad ((lkill L k).set k (some v)) D ∧ D.size = C.size := by
  obtain ⟨H1, H2, H3, H4⟩ := H
  have hc : (qv ad v).category = 1 := by rw [qv_cat, hv]
  obtain ⟨D, hD⟩ := store_some (C := C) (k := k) (w := qv ad v) (by rw [hc]; omega) (Or.inl hc) H3
  obtain ⟨d1, d2, d3⟩ := set1_at (by omega) hc hD
  refine ⟨D, hD, ⟨by simp [lkill_len, H1, d1], fun j u hj => ?_, fun j w hj hw => ?_, fun j hj => ?_⟩, d1⟩
  · rw [lget_set (by rw [lkill_len]; exact hk)] at hj
    split at hj
    · rename_i e; cases hj; rw [e]; exact d2
    · rename_i ne
      obtain ⟨g1, g2⟩ := lget_kill hj
      have g3 := H2 j u g1
      rcases d3 j ne with ⟨r, -, -⟩ | ⟨-, ⟨r1, r2⟩ | ⟨r1, w, r2, r3⟩⟩
      · rw [r]; exact g3
      · obtain ⟨i, w, z1, z2, z3⟩ := H4 k r2
        obtain rfl : i = j := by omega
        rw [g3] at z2
        cases z2
        rw [qv_cat] at z3
        exact absurd z3 (g2 r1)
      · have := H3 k w r2 r3
        rw [← r1, g3] at this
        cases this
  · by_cases e : j = k
    · subst e; rw [d2] at hj; cases hj; rw [hc] at hw; cases hw
    · rcases d3 j e with ⟨r, nA, nB⟩ | ⟨r, -⟩
      · rw [r] at hj
        have g := H3 j w hj hw
        have e2 : j + 1 ≠ k := fun q => nA ⟨q.symm, by rw [← q]; exact g⟩
        rcases d3 (j + 1) e2 with ⟨z, -, -⟩ | ⟨-, ⟨z1, z2⟩ | ⟨z1, -⟩⟩
        · rw [z]; exact g
        · obtain ⟨i, u, y1, y2, y3⟩ := H4 k z2
          obtain rfl : i = j + 1 := by omega
          rw [g] at y2; cases y2
        · omega
      · rw [r] at hj; cases hj
  · by_cases e : j = k
    · subst e; rw [d2] at hj; cases hj
    · rcases d3 j e with ⟨r, nA, nB⟩ | ⟨r, -⟩
      · rw [r] at hj
        obtain ⟨i, w, y1, y2, y3⟩ := H4 j hj
        refine ⟨i, w, y1, ?_, y3⟩
        have ei : i ≠ k := fun q => nB ⟨by omega, w, by rw [← q]; exact y2, y3⟩
        rcases d3 i ei with ⟨z, -, -⟩ | ⟨-, ⟨z1, z2⟩ | ⟨z1, u, z2, z3⟩⟩
        · rw [z]; exact y2
        · omega
        · have := H3 k u z2 z3
          rw [← z1, y2] at this; cases this
      · rw [r] at hj; cases hj
theorem store_ok2 {ad : Nat → Addr} {L : QLoc} {C : Array Slot} {k : Nat} {x : Int64} (H : QLocOk ad L C) (hk : k + 1 < L.length) :
    ∃ D, storeLocals C k (.long x) = some D ∧ QLocOk ad (((lkill L k).set k (some (.long x))).set (k + 1) none) D ∧ D.size = C.size := by
  obtain ⟨H1, H2, H3, H4⟩ := H
  have hc : (Value.long x).category = 2 := rfl
  obtain ⟨D, hD⟩ := store_some (C := C) (k := k) (w := .long x) (by rw [hc]; omega) (Or.inr hc) H3
  obtain ⟨d1, d2, d2', d3⟩ := set2_at (by omega) hc H3 hD
  refine ⟨D, hD, ⟨by simp [lkill_len, H1, d1], fun j u hj => ?_, fun j w hj hw => ?_, fun j hj => ?_⟩, d1⟩
  · rw [lget_set (by simp [lkill_len]; exact hk)] at hj
    split at hj
    · cases hj
    · rename_i ne1
      rw [lget_set (by rw [lkill_len]; omega)] at hj
      split at hj
      · rename_i e; cases hj; rw [e]; exact d2
      · rename_i ne
        obtain ⟨g1, g2⟩ := lget_kill hj
        have g3 := H2 j u g1
        rcases d3 j ne ne1 with ⟨r, -, -⟩ | ⟨-, ⟨r1, r2⟩ | ⟨r1, w, r2, r3⟩⟩
        · rw [r]; exact g3
        · obtain ⟨i, w, z1, z2, z3⟩ := H4 k r2
          obtain rfl : i = j := by omega
          rw [g3] at z2
          cases z2
          rw [qv_cat] at z3
          exact absurd z3 (g2 r1)
        · have := H3 (k + 1) w r2 r3
          rw [show k + 1 + 1 = j by omega, g3] at this
          cases this
  · by_cases e : j = k
    · rw [e]; exact d2'
    · by_cases e1 : j = k + 1
      · rw [e1, d2'] at hj; cases hj
      · rcases d3 j e e1 with ⟨r, nA, nB⟩ | ⟨r, -⟩
        · rw [r] at hj
          have g := H3 j w hj hw
          have e2 : j + 1 ≠ k := fun q => nA ⟨q.symm, by rw [← q]; exact g⟩
          rcases d3 (j + 1) e2 (by omega) with ⟨z, -, -⟩ | ⟨-, ⟨z1, z2⟩ | ⟨z1, -⟩⟩
          · rw [z]; exact g
          · obtain ⟨i, u, y1, y2, y3⟩ := H4 k z2
            obtain rfl : i = j + 1 := by omega
            rw [g] at y2; cases y2
          · omega
        · rw [r] at hj; cases hj
  · by_cases e : j = k
    · rw [e, d2] at hj; cases hj
    · by_cases e1 : j = k + 1
      · exact ⟨k, _, e1, d2, hc⟩
      · rcases d3 j e e1 with ⟨r, nA, nB⟩ | ⟨r, -⟩
        · rw [r] at hj
          obtain ⟨i, w, y1, y2, y3⟩ := H4 j hj
          refine ⟨i, w, y1, ?_, y3⟩
          have ei : i ≠ k := fun q => e1 (by omega)
          have ei1 : i ≠ k + 1 := fun q => nB ⟨by omega, w, by rw [← q]; exact y2, y3⟩
          rcases d3 i ei ei1 with ⟨z, -, -⟩ | ⟨-, ⟨z1, z2⟩ | ⟨z1, u, z2, z3⟩⟩
          · rw [z]; exact y2
          · omega
          · have := H3 (k + 1) u z2 z3
            rw [show k + 1 + 1 = i by omega, y2] at this; cases this
        · rw [r] at hj; cases hj
theorem store_ok {ad : Nat → Addr} {L L' : QLoc} {C : Array Slot} {k : Nat} {v : Value} (H : QLocOk ad L C) (h : lput L k v = some L') :
    ∃ D, storeLocals C k (qv ad v) = some D ∧ QLocOk ad L' D ∧ D.size = C.size := by
  have one : v.category = 1 → (bif Nat.ble (k + 1) L.length then some ((lkill L k).set k (some v)) else none) = some L' → ∃ D, storeLocals C k (qv ad v) = some D ∧ QLocOk ad L' D ∧ D.size = C.size := by
    intro hv h
    cases hb : Nat.ble (k + 1) L.length with
    | false => rw [hb] at h; cases h
    | true => rw [hb] at h; cases h; exact store_ok1 H hv (Nat.le_of_ble_eq_true hb)
  cases v with
  | long x =>
    simp only [lput] at h
    cases hb : Nat.ble (k + 2) L.length with
    | false => rw [hb] at h; cases h
    | true => rw [hb] at h; cases h; exact store_ok2 H (Nat.le_of_ble_eq_true hb)
  | double x => simp [lput] at h
  | int x => exact one rfl h
  | float x => exact one rfl h
  | null => exact one rfl h
  | ref x => exact one rfl h
  | retAddr x => exact one rfl h
/-! ## facts of the tables, by evaluation -/
theorem fInj : ∀ i, i < nF → ∀ j, j < nF → fNm i = fNm j → i = j := by decide +kernel
theorem fPrs : ∀ i, i < nF → parseFieldDescriptor (fDs i) = some (fTy i) := by decide +kernel
theorem cDefs : ∀ i, i < nF → vget cDef i = some (defaultValue (fTy i)) := by decide +kernel
theorem cDefL : cDef.length = nF := by decide +kernel
theorem fDef : ∀ i, i < nF → ∀ a, defaultValue (fTy i) ≠ .ref a := by
  intro i _ a
  cases fTy i <;> simp [defaultValue]
theorem kPlain : ∀ k, k < 2 → plainName (kName k) = true := by
  intro k hk
  rcases k with _ | _ | k
  · first | decide +kernel | (simp [kName, plainName, overriddenIn]; done)
  · first | decide +kernel | (simp [kName, plainName, overriddenIn]; done)
  · omega
theorem pKlt : ∀ m, m < pN → pK m < 2 := by decide +kernel
theorem pSig : ∀ m, m < pN → (parseMethodDescriptor (pDs m)).map (fun sg => sg.parameters.length) = some (pNA m) := by decide +kernel
theorem pOwn : ∀ k, k < 2 → kName k ≠ "java/lang/invoke/MethodHandle" ∧ kName k ≠ "java/lang/invoke/VarHandle" := by decide +kernel
theorem mAlt : ∀ m ∈ mA, m < pN := by decide +kernel
theorem mVlt : ∀ m ∈ mV, m ∈ mA ∧ pK m = 1 := by decide +kernel
theorem mPlt : ∀ m ∈ mP, m ∈ mA ∧ pK m = 1 := by decide +kernel
theorem mSlt : ∀ m ∈ mS, m ∈ mA := by decide +kernel
theorem mIlt : ∀ m ∈ mI, m ∈ mA ∧ pK m = 1 ∧ pNm m = "<init>" ∧ pRet m = none := by decide +kernel
theorem kOne : kName 1 = cName := rfl
set_option maxRecDepth 100000 in
theorem pChk0 : ∀ m, m < pN → ∀ pc, pc < pTop → (match pCode m pc with | some t => qchk m pc t.1 t.2 | none => true) = true := by decide +kernel
theorem pIn {m pc : Nat} {t : Instr × Nat} (h : pCode m pc = some t) : m < pN ∧ pc < pTop := by
  unfold pCode at h
  cases h1 : Nat.ble pN m with
  | true => rw [h1] at h; cases h
  | false =>
    cases h2 : Nat.ble pTop pc with
    | true => rw [h1, h2] at h; cases h
    | false => exact ⟨Nat.lt_of_not_le (fun q => by rw [Nat.ble_eq_true_of_le q] at h1; cases h1), Nat.lt_of_not_le (fun q => by rw [Nat.ble_eq_true_of_le q] at h2; cases h2)⟩
theorem pChk {m pc : Nat} {i : Instr} {aux : Nat} (h : pCode m pc = some (i, aux)) : qchk m pc i aux = true := by
  have q := pChk0 m (pIn h).1 pc (pIn h).2
  rw [h] at q
  exact q
theorem pDec {m pc : Nat} {i : Instr} {aux : Nat} (h : pCode m pc = some (i, aux)) : decode (pBytes m) pc = .ok (i, ilen i) := by
  have q := pChk h
  unfold qchk at q
  exact of_decide_eq_true (Bool.and_eq_true_iff.mp q).1
theorem pDecN {m pc n : Nat} {i : Instr} {aux : Nat} (h : pCode m pc = some (i, aux)) (hn : ilen i = n) : decode (pBytes m) pc = .ok (i, n) := by
  rw [← hn]; exact pDec h
theorem pRest {m pc : Nat} {i : Instr} {aux : Nat} (h : pCode m pc = some (i, aux)) : qlk m pc i aux = true := by
  have q := pChk h
  unfold qchk at q
  exact (Bool.and_eq_true_iff.mp q).2
theorem qtgt_spec {pc : Nat} {o : Int} {aux : Nat} (h : qtgt pc o aux = true) : 0 ≤ (pc : Int) + o ∧ ((pc : Int) + o).toNat = aux := by
  unfold qtgt at h
  have h2 := Bool.and_eq_true_iff.mp h
  exact ⟨of_decide_eq_true h2.1, of_decide_eq_true h2.2⟩
/-! ## triples -/
def QCx (Z : State) (p : Program) (R : Room) (s : State) (mid : MethodId) (meth : Method) (c : Code) (m : Nat) : Prop :=
  p.tables.exec = Jvm.exec ∧ Z.Warmed39 s.vm ∧ c.code = pBytes m ∧ c.maxLocals = pMaxL m ∧ meth.sig.returnType = pRet m ∧ s.vm.findClass (kName (pK m)) = some mid.cls ∧ meth.name = pNm m ∧ pFr m ≤ R.frames ∧ pLo m ≤ R.locals
def QTri (l : Launch) (Z : State) (n0 : Nat) (ad : Nat → Addr) (m : Nat) (st : QSt) (v : Option Value) (σ' : QHeap) : Prop :=
  st.2.2.2.length ≤ σ'.length ∧ qhs st.2.2.2 ≤ qhs σ' ∧
  ∀ (p : Program) (e : Env) (R : Room) (s : State) (mid : MethodId) (args : Array Value) (below : List Frame) (meth : Method) (c : Code) (T : State) (locs : List Loc) (cells slots : Nat) (C : Array Slot),
    QCx Z p R s mid meth c m → Stand p l e R s mid args below meth c T locs cells slots → QRep Z n0 ad T.heap st.2.2.2 → Fr n0 locs → QLocOk ad st.2.1 C → C.size = c.maxLocals →
    n0 + (st.2.2.2.length - k0) = s.heap.size + cells → cells + (σ'.length - st.2.2.2.length) ≤ R.cells → slots + (qhs σ' - qhs st.2.2.2) ≤ R.slots →
    ∃ T' locs', Stand p l e R s mid args below meth c T' locs' (cells + (σ'.length - st.2.2.2.length)) (slots + (qhs σ' - qhs st.2.2.2)) ∧ QRep Z n0 ad T'.heap σ' ∧ Fr n0 locs' ∧
      ∀ fs, (∀ (f : JFrame) (acts : List Action), f.method = mid → f.locked = none → f.entered = [] → (doReturn e (T'.setTop f) acts (v.map (qv ad))).1 = T'.setFrames fs) →
        Steps p.tables e below (T.setTop (mkF mid st.1 C (st.2.2.1.map (qv ad)))) (T'.setFrames fs)
section Triples
variable {l : Launch} {Z : State} {n0 : Nat} {ad : Nat → Addr} {a0 : Array Value} {m : Nat} {v : Option Value} {σ' : QHeap}
theorem QTri.gen {st st' : QSt} (h : QTri l Z n0 ad m st' v σ') (g1 : st.2.2.2.length ≤ st'.2.2.2.length) (g2 : qhs st.2.2.2 ≤ qhs st'.2.2.2)
    (hs : ∀ (p : Program) (e : Env) (R : Room) (s : State) (mid : MethodId) (args : Array Value) (below : List Frame) (meth : Method) (c : Code) (T : State) (locs : List Loc) (cells slots : Nat) (C : Array Slot),
      QCx Z p R s mid meth c m → Stand p l e R s mid args below meth c T locs cells slots → QRep Z n0 ad T.heap st.2.2.2 → Fr n0 locs → QLocOk ad st.2.1 C → C.size = c.maxLocals →
      n0 + (st.2.2.2.length - k0) = s.heap.size + cells → cells + (st'.2.2.2.length - st.2.2.2.length) ≤ R.cells → slots + (qhs st'.2.2.2 - qhs st.2.2.2) ≤ R.slots →
      ∃ T₁ locs₁ C₁, Stand p l e R s mid args below meth c T₁ locs₁ (cells + (st'.2.2.2.length - st.2.2.2.length)) (slots + (qhs st'.2.2.2 - qhs st.2.2.2)) ∧ QRep Z n0 ad T₁.heap st'.2.2.2 ∧ Fr n0 locs₁ ∧ QLocOk ad st'.2.1 C₁ ∧ C₁.size = c.maxLocals ∧
        ∀ target, Steps p.tables e below (T₁.setTop (mkF mid st'.1 C₁ (st'.2.2.1.map (qv ad)))) target → Steps p.tables e below (T.setTop (mkF mid st.1 C (st.2.2.1.map (qv ad)))) target) :
    QTri l Z n0 ad m st v σ' := by
  obtain ⟨h1, h2, h3⟩ := h
  refine ⟨Nat.le_trans g1 h1, Nat.le_trans g2 h2, fun p e R s mid args below meth c T locs cells slots C hcx X hR hF hL hC hn hc hsl => ?_⟩
  obtain ⟨T₁, locs₁, C₁, X₁, R₁, F₁, L₁, C1, S₁⟩ := hs p e R s mid args below meth c T locs cells slots C hcx X hR hF hL hC hn (by omega) (by omega)
  have hk := hR.1
  obtain ⟨T', locs', X', R', F', S'⟩ := h3 p e R s mid args below meth c T₁ locs₁ _ _ C₁ hcx X₁ R₁ F₁ L₁ C1 (by omega) (by omega) (by omega)
  have e1 : cells + (st'.2.2.2.length - st.2.2.2.length) + (σ'.length - st'.2.2.2.length) = cells + (σ'.length - st.2.2.2.length) := by omega
  have e2 : slots + (qhs st'.2.2.2 - qhs st.2.2.2) + (qhs σ' - qhs st'.2.2.2) = slots + (qhs σ' - qhs st.2.2.2) := by omega
  rw [e1, e2] at X'
  exact ⟨T', locs', X', R', F', fun fs hf => S₁ _ (S' fs hf)⟩
theorem QTri.pure {st st' : QSt} (h : QTri l Z n0 ad m st' v σ') (hσ : st'.2.2.2 = st.2.2.2)
    (hs : ∀ (p : Program) (e : Env) (R : Room) (s : State) (mid : MethodId) (args : Array Value) (below : List Frame) (meth : Method) (c : Code) (T : State) (locs : List Loc) (cells slots : Nat) (C : Array Slot),
      QCx Z p R s mid meth c m → Stand p l e R s mid args below meth c T locs cells slots → QRep Z n0 ad T.heap st.2.2.2 → QLocOk ad st.2.1 C → C.size = c.maxLocals →
      ∃ T₁ C₁, Stand p l e R s mid args below meth c T₁ locs cells slots ∧ T₁.heap = T.heap ∧ QLocOk ad st'.2.1 C₁ ∧ C₁.size = c.maxLocals ∧
        ∀ target, Steps p.tables e below (T₁.setTop (mkF mid st'.1 C₁ (st'.2.2.1.map (qv ad)))) target → Steps p.tables e below (T.setTop (mkF mid st.1 C (st.2.2.1.map (qv ad)))) target) :
    QTri l Z n0 ad m st v σ' := by
  refine QTri.gen h (by rw [hσ]; exact Nat.le_refl _) (by rw [hσ]; exact Nat.le_refl _) fun p e R s mid args below meth c T locs cells slots C hcx X hR hF hL hC hn hc hsl => ?_
  obtain ⟨T₁, C₁, X₁, hh, L₁, C1, S₁⟩ := hs p e R s mid args below meth c T locs cells slots C hcx X hR hL hC
  refine ⟨T₁, locs, C₁, ?_, by rw [hσ, hh]; exact hR, hF, L₁, C1, S₁⟩
  rw [hσ, Nat.sub_self, Nat.sub_self]
  exact X₁
/-- a step of the frame alone -/
theorem QTri.frame {pc pc' : Nat} {L L' : QLoc} {S S' : List Value} {σ : QHeap} (h : QTri l Z n0 ad m (pc', L', S', σ) v σ')
    (hs : ∀ (p : Program) (e : Env) (R : Room) (s : State) (mid : MethodId) (args : Array Value) (below : List Frame) (meth : Method) (c : Code) (T : State) (locs : List Loc) (cells slots : Nat) (C : Array Slot),
      QCx Z p R s mid meth c m → Stand p l e R s mid args below meth c T locs cells slots → QRep Z n0 ad T.heap σ → QLocOk ad L C → C.size = c.maxLocals →
      ∃ C₁, QLocOk ad L' C₁ ∧ C₁.size = c.maxLocals ∧ ∀ target, Steps p.tables e below (T.setTop (mkF mid pc' C₁ (S'.map (qv ad)))) target → Steps p.tables e below (T.setTop (mkF mid pc C (S.map (qv ad)))) target) :
    QTri l Z n0 ad m (pc, L, S, σ) v σ' :=
  QTri.pure h rfl fun p e R s mid args below meth c T locs cells slots C hcx X hR hL hC => by
    obtain ⟨C₁, h1, h2, h3⟩ := hs p e R s mid args below meth c T locs cells slots C hcx X hR hL hC
    exact ⟨T, C₁, X, rfl, h1, h2, h3⟩
/-- a step of pc and stack alone -/
theorem QTri.stack {pc pc' : Nat} {L : QLoc} {S S' : List Value} {σ : QHeap} (h : QTri l Z n0 ad m (pc', L, S', σ) v σ')
    (hs : ∀ (p : Program) (e : Env) (R : Room) (s : State) (mid : MethodId) (args : Array Value) (below : List Frame) (meth : Method) (c : Code) (T : State) (locs : List Loc) (cells slots : Nat) (C : Array Slot) (target : State),
      p.tables.exec = Jvm.exec → Z.Warmed39 s.vm → c.code = pBytes m → s.vm.findClass (kName (pK m)) = some mid.cls → Stand p l e R s mid args below meth c T locs cells slots → QRep Z n0 ad T.heap σ → QLocOk ad L C →
      Steps p.tables e below (T.setTop (mkF mid pc' C (S'.map (qv ad)))) target → Steps p.tables e below (T.setTop (mkF mid pc C (S.map (qv ad)))) target) :
    QTri l Z n0 ad m (pc, L, S, σ) v σ' :=
  QTri.frame h fun p e R s mid args below meth c T locs cells slots C hcx X hR hL hC => ⟨C, hL, hC, fun target k => hs p e R s mid args below meth c T locs cells slots C target hcx.1 hcx.2.1 hcx.2.2.1 hcx.2.2.2.2.2.1 X hR hL k⟩
/-! ### what each helper says -/
theorem qload_inv {pc : Nat} {L : QLoc} {S : List Value} {σ : QHeap} {k : Nat} {ok : Value → Bool} {st' : QSt} (h : qload pc L S σ k ok = some st') : ∃ v, lget L k = some v ∧ ok v = true ∧ st' = (pc, L, v :: S, σ) := by
  unfold qload at h
  split at h
  · rename_i v hv
    cases ho : ok v with
    | true => rw [ho] at h; cases h; exact ⟨v, hv, ho, rfl⟩
    | false => rw [ho] at h; cases h
  · cases h
theorem qstore_inv {pc : Nat} {L : QLoc} {S : List Value} {σ : QHeap} {k : Nat} {ok : Value → Bool} {st' : QSt} (h : qstore pc L S σ k ok = some st') : ∃ v S' L', S = v :: S' ∧ ok v = true ∧ lput L k v = some L' ∧ st' = (pc, L', S', σ) := by
  unfold qstore at h
  split at h
  · rename_i v S'
    cases ho : ok v with
    | true =>
      rw [ho] at h
      simp only [cond_true] at h
      split at h
      · rename_i L' hL'
        cases h; exact ⟨v, S', L', rfl, ho, hL', rfl⟩
      · cases h
    | false => rw [ho] at h; cases h
  · cases h
theorem qbin_inv {pc : Nat} {L : QLoc} {S : List Value} {σ : QHeap} {f : Int32 → Int32 → Int32} {st' : QSt} (h : qbin pc L S σ f = some st') : ∃ x y S', S = .int y :: .int x :: S' ∧ st' = (pc, L, .int (f x y) :: S', σ) := by
  unfold qbin at h
  split at h
  · cases h; exact ⟨_, _, _, rfl, rfl⟩
  · cases h
theorem qbino_inv {pc : Nat} {L : QLoc} {S : List Value} {σ : QHeap} {f : Int32 → Int32 → Option Int32} {st' : QSt} (h : qbino pc L S σ f = some st') : ∃ x y z S', S = .int y :: .int x :: S' ∧ f x y = some z ∧ st' = (pc, L, .int z :: S', σ) := by
  unfold qbino at h
  split at h
  · obtain ⟨z, hz, h⟩ := Option.bind_eq_some_iff.mp h
    cases h; exact ⟨_, _, _, _, rfl, hz, rfl⟩
  · cases h
theorem qbinJ_inv {pc : Nat} {L : QLoc} {S : List Value} {σ : QHeap} {f : Int64 → Int64 → Int64} {st' : QSt} (h : qbinJ pc L S σ f = some st') : ∃ x y S', S = .long y :: .long x :: S' ∧ st' = (pc, L, .long (f x y) :: S', σ) := by
  unfold qbinJ at h
  split at h
  · cases h; exact ⟨_, _, _, rfl, rfl⟩
  · cases h
theorem qshJ_inv {pc : Nat} {L : QLoc} {S : List Value} {σ : QHeap} {f : Int64 → Int32 → Int64} {st' : QSt} (h : qshJ pc L S σ f = some st') : ∃ x y S', S = .int y :: .long x :: S' ∧ st' = (pc, L, .long (f x y) :: S', σ) := by
  unfold qshJ at h
  split at h
  · cases h; exact ⟨_, _, _, rfl, rfl⟩
  · cases h
theorem quni_inv {pc : Nat} {L : QLoc} {S : List Value} {σ : QHeap} {f : Int32 → Value} {st' : QSt} (h : quni pc L S σ f = some st') : ∃ x S', S = .int x :: S' ∧ st' = (pc, L, f x :: S', σ) := by
  unfold quni at h
  split at h
  · cases h; exact ⟨_, _, rfl, rfl⟩
  · cases h
theorem quniJ_inv {pc : Nat} {L : QLoc} {S : List Value} {σ : QHeap} {f : Int64 → Value} {st' : QSt} (h : quniJ pc L S σ f = some st') : ∃ x S', S = .long x :: S' ∧ st' = (pc, L, f x :: S', σ) := by
  unfold quniJ at h
  split at h
  · cases h; exact ⟨_, _, rfl, rfl⟩
  · cases h
theorem qif_inv {pc : Nat} {L : QLoc} {S : List Value} {σ : QHeap} {cd : ClassFile.Cond} {t : Nat} {st' : QSt} (h : qif pc L S σ cd t = some st') : ∃ x S', S = .int x :: S' ∧ st' = (bif ifCond.holds cd x then t else pc, L, S', σ) := by
  unfold qif at h
  split at h
  · cases h; exact ⟨_, _, rfl, rfl⟩
  · cases h
theorem qicmp_inv {pc : Nat} {L : QLoc} {S : List Value} {σ : QHeap} {cd : ClassFile.Cond} {t : Nat} {st' : QSt} (h : qicmp pc L S σ cd t = some st') : ∃ x y S', S = .int y :: .int x :: S' ∧ st' = (bif if_icmp.holds cd x y then t else pc, L, S', σ) := by
  unfold qicmp at h
  split at h
  · cases h; exact ⟨_, _, _, rfl, rfl⟩
  · cases h
theorem qget_inv {pc : Nat} {L : QLoc} {S : List Value} {σ : QHeap} {k : Nat} {st' : QSt} (h : qget pc L S σ k = some st') : ∃ a S' vs v, S = .ref a :: S' ∧ hget σ a = some (.inl vs) ∧ vget vs k = some v ∧ st' = (pc, L, v :: S', σ) := by
  unfold qget at h
  split at h
  · split at h
    · split at h
      · cases h; exact ⟨_, _, _, _, rfl, by assumption, by assumption, rfl⟩
      · cases h
    · cases h
  · cases h
theorem qput_inv {pc : Nat} {L : QLoc} {S : List Value} {σ : QHeap} {k : Nat} {st' : QSt} (h : qput pc L S σ k = some st') : ∃ v a S' vs w, S = v :: .ref a :: S' ∧ hget σ a = some (.inl vs) ∧ k0 ≤ a ∧ k < vs.length ∧ qfit (fTy k) v = some w ∧ st' = (pc, L, S', σ.set a (.inl (vs.set k w))) := by
  unfold qput at h
  split at h
  · rename_i v a S'
    split at h
    · rename_i vs hvs
      cases hbb : (Nat.ble k0 a && Nat.ble (k + 1) vs.length) with
      | false => rw [hbb] at h; cases h
      | true =>
        rw [hbb] at h
        simp only [cond_true] at h
        obtain ⟨u, hu, h⟩ := Option.bind_eq_some_iff.mp h
        cases h
        obtain ⟨b1, b2⟩ := Bool.and_eq_true_iff.mp hbb
        exact ⟨v, a, S', vs, u, rfl, hvs, Nat.le_of_ble_eq_true b1, Nat.le_of_ble_eq_true b2, hu, rfl⟩
    · cases h
  · cases h
theorem qald_inv {pc : Nat} {L : QLoc} {S : List Value} {σ : QHeap} {ok : FieldType → Bool} {st' : QSt} (h : qald pc L S σ ok = some st') : ∃ j a S' ty xs v, S = .int j :: .ref a :: S' ∧ hget σ a = some (.inr (.inl (ty, xs))) ∧ ok ty = true ∧ aget xs j = some v ∧ st' = (pc, L, .int v :: S', σ) := by
  unfold qald at h
  split at h
  · rename_i j a S'
    split at h
    · rename_i x hx
      cases ht : ok x.1 with
      | false => rw [ht] at h; cases h
      | true =>
        rw [ht] at h
        simp only [cond_true] at h
        obtain ⟨u, hu, h⟩ := Option.bind_eq_some_iff.mp h
        cases h
        exact ⟨j, a, S', x.1, x.2, u, rfl, hx, ht, hu, rfl⟩
    · cases h
  · cases h
theorem qaldJ_inv {pc : Nat} {L : QLoc} {S : List Value} {σ : QHeap} {st' : QSt} (h : qaldJ pc L S σ = some st') : ∃ j a S' xs v, S = .int j :: .ref a :: S' ∧ hget σ a = some (.inr (.inr xs)) ∧ aget xs j = some v ∧ st' = (pc, L, .long v :: S', σ) := by
  unfold qaldJ at h
  split at h
  · rename_i j a S'
    split at h
    · rename_i x hx
      obtain ⟨u, hu, h⟩ := Option.bind_eq_some_iff.mp h
      cases h
      exact ⟨j, a, S', x, u, rfl, hx, hu, rfl⟩
    · cases h
  · cases h
theorem qast_inv {pc : Nat} {L : QLoc} {S : List Value} {σ : QHeap} {ok : FieldType → Bool} {st' : QSt} (h : qast pc L S σ ok = some st') : ∃ v j a S' ty xs ys, S = .int v :: .int j :: .ref a :: S' ∧ hget σ a = some (.inr (.inl (ty, xs))) ∧ ok ty = true ∧ k0 ≤ a ∧ aset xs j (qnar ty v) = some ys ∧ st' = (pc, L, S', σ.set a (.inr (.inl (ty, ys)))) := by
  unfold qast at h
  split at h
  · rename_i v j a S'
    split at h
    · rename_i x hx
      cases ht : (ok x.1 && Nat.ble k0 a) with
      | false => rw [ht] at h; cases h
      | true =>
        rw [ht] at h
        simp only [cond_true] at h
        obtain ⟨u, hu, h⟩ := Option.bind_eq_some_iff.mp h
        cases h
        obtain ⟨b1, b2⟩ := Bool.and_eq_true_iff.mp ht
        exact ⟨v, j, a, S', x.1, x.2, u, rfl, hx, b1, Nat.le_of_ble_eq_true b2, hu, rfl⟩
    · cases h
  · cases h
theorem qastJ_inv {pc : Nat} {L : QLoc} {S : List Value} {σ : QHeap} {st' : QSt} (h : qastJ pc L S σ = some st') : ∃ v j a S' xs ys, S = .long v :: .int j :: .ref a :: S' ∧ hget σ a = some (.inr (.inr xs)) ∧ k0 ≤ a ∧ aset xs j v = some ys ∧ st' = (pc, L, S', σ.set a (.inr (.inr ys))) := by
  unfold qastJ at h
  split at h
  · rename_i v j a S'
    split at h
    · rename_i x hx
      cases ht : (Nat.ble k0 a) with
      | false => rw [ht] at h; cases h
      | true =>
        rw [ht] at h
        simp only [cond_true] at h
        obtain ⟨u, hu, h⟩ := Option.bind_eq_some_iff.mp h
        cases h
        exact ⟨v, j, a, S', x, u, rfl, hx, Nat.le_of_ble_eq_true ht, hu, rfl⟩
    · cases h
  · cases h
theorem qlen_inv {pc : Nat} {L : QLoc} {S : List Value} {σ : QHeap} {st' : QSt} (h : qlen pc L S σ = some st') : ∃ a S' n, S = .ref a :: S' ∧ ((∃ ty xs, hget σ a = some (.inr (.inl (ty, xs))) ∧ n = xs.length) ∨ ∃ xs, hget σ a = some (.inr (.inr xs)) ∧ n = xs.length) ∧ st' = (pc, L, .int n.toInt32 :: S', σ) := by
  unfold qlen at h
  split at h
  · rename_i a S'
    split at h
    · rename_i x hx
      cases h; exact ⟨a, S', _, rfl, Or.inl ⟨x.1, x.2, hx, rfl⟩, rfl⟩
    · rename_i x hx
      cases h; exact ⟨a, S', _, rfl, Or.inr ⟨x, hx, rfl⟩, rfl⟩
    · cases h
  · cases h
theorem isI_inv {v : Value} (h : isI v = true) : ∃ x, v = .int x := by cases v <;> simp [isI] at h; exact ⟨_, rfl⟩
theorem isJ_inv {v : Value} (h : isJ v = true) : ∃ x, v = .long x := by cases v <;> simp [isJ] at h; exact ⟨_, rfl⟩
theorem isR_inv {v : Value} (h : isR v = true) : ∃ x, v = .ref x := by cases v <;> simp [isR] at h; exact ⟨_, rfl⟩
theorem aget_inv {α : Type} {xs : List α} {j : Int32} {x : α} (h : aget xs j = some x) : ¬ j < 0 ∧ xs[j.toNatClampNeg]? = some x := by
  unfold aget at h
  split at h
  · cases h
  · rename_i q; exact ⟨q, h⟩
theorem aset_inv {α : Type} {xs ys : List α} {j : Int32} {x : α} (h : aset xs j x = some ys) : ¬ j < 0 ∧ j.toNatClampNeg < xs.length ∧ ys = xs.set j.toNatClampNeg x := by
  unfold aset at h
  split at h
  · cases h
  · rename_i q
    split at h
    · rename_i q2; cases h; exact ⟨q, q2, rfl⟩
    · cases h
theorem qnew_inv {n : Int32} {k : Nat} (h : qnew n = some k) : ¬ n < 0 ∧ n.toNatClampNeg = k ∧ k ≤ 67108864 := by
  unfold qnew at h
  split at h
  · cases h
  · rename_i q
    split at h
    · rename_i q2; cases h; exact ⟨q, rfl, q2⟩
    · cases h
/-! ### the heap's facts over a step -/
theorem QCellOk.other {h h' : Heap} {a b : Addr} {sl : Nat} {w : Value} {c : QCell} (H : QCellOk Z ad h b c) (W : Wr h h' a sl w) (ne : b ≠ a) : QCellOk Z ad h' b c := by
  rcases c with vs | ⟨ty, xs⟩ | xs
  · obtain ⟨h1, h2, h3⟩ := H
    exact ⟨h1.wr W, h2, fun k u hk hu => (h3 k u hk hu).other W (Or.inl ne)⟩
  · obtain ⟨c, h1, h2⟩ := H
    exact ⟨c, h1.other W ne, h2⟩
  · obtain ⟨c, h1, h2⟩ := H
    exact ⟨c, h1.other W ne, h2⟩
theorem QCellOk.ext {h h' : Heap} {b : Addr} {c : QCell} (H : QCellOk Z ad h b c) (E : Ext h h') : QCellOk Z ad h' b c := by
  rcases c with vs | ⟨ty, xs⟩ | xs
  · obtain ⟨h1, h2, h3⟩ := H
    exact ⟨h1.ext E, h2, fun k u hk hu => (h3 k u hk hu).ext E⟩
  · obtain ⟨c, h1, h2⟩ := H
    exact ⟨c, h1.ext E, h2⟩
  · obtain ⟨c, h1, h2⟩ := H
    exact ⟨c, h1.ext E, h2⟩
theorem QRep.set {h h' : Heap} {σ : QHeap} {a : Nat} {sl : Nat} {w : Value} {c d : QCell} (H : QRep Z n0 ad h σ) (Ad : QAd n0 ad) (W : Wr h h' (ad a) sl w) (hc : hget σ a = some c) (hd : QCellOk Z ad h' (ad a) d) : QRep Z n0 ad h' (σ.set a d) := by
  obtain ⟨h1, h2, h3⟩ := H
  refine ⟨by simpa using h1, by rw [W.size, h2]; simp, fun k e he => ?_⟩
  rw [hget_set hc] at he
  split at he
  · rename_i q; cases he; rw [q]; exact hd
  · rename_i q; exact (h3 k e he).other W fun z => q (Ad.2 _ _ z)
theorem QRep.push {h h' : Heap} {σ : QHeap} {c : QCell} (H : QRep Z n0 ad h σ) (Ad : QAd n0 ad) (E : Ext h h') (hs : h'.size = h.size + 1) (hc : QCellOk Z ad h' h.size c) : QRep Z n0 ad h' (σ ++ [c]) := by
  obtain ⟨h1, h2, h3⟩ := H
  refine ⟨by simp; omega, by rw [hs, h2]; simp; omega, fun k e he => ?_⟩
  rw [hget_eq] at he
  rcases Nat.lt_or_ge k σ.length with q | q
  · rw [List.getElem?_append_left q, ← hget_eq] at he
    exact (h3 k e he).ext E
  · rw [List.getElem?_append_right q] at he
    obtain rfl : k = σ.length := by
      rcases Nat.lt_or_ge (k - σ.length) 1 with z | z
      · omega
      · rw [List.getElem?_eq_none (by simpa using z)] at he; cases he
    simp at he
    rw [← he, Ad.1 _ h1, ← h2]
    exact hc
theorem mem_of_contains {α : Type} [BEq α] [LawfulBEq α] {L : List α} {a : α} (h : L.contains a = true) : a ∈ L := by simpa using h
theorem lkF_lt : ∀ t ∈ lkF, t.2.2 < nF := by decide +kernel
theorem laid_of (W : QW Z a0) {k : Nat} (hk : k < nF) : Laid Z a0 cName cName (fNm k) (fDs k) := by
  have q := (qw_lay W) k hk
  cases hf : fFin k with
  | true => rw [hf] at q; exact Or.inr q
  | false => rw [hf] at q; exact Or.inl q
theorem qfit_inv {ty : FieldType} {v w : Value} (h : qfit ty v = some w) : v = w ∧ narrow ty (qv ad w) = qv ad w ∧ fits ty (qv ad w) = true := by
  unfold qfit at h
  split at h
  · cases h; exact ⟨rfl, rfl, rfl⟩
  · rename_i x
    obtain ⟨y, hy, h⟩ := Option.bind_eq_some_iff.mp h
    cases h
    unfold qboo at hy
    split at hy
    · rename_i e; cases hy; subst e; exact ⟨rfl, rfl, rfl⟩
    · split at hy
      · rename_i e; cases hy; subst e; exact ⟨rfl, rfl, rfl⟩
      · cases hy
  · cases h; exact ⟨rfl, rfl, rfl⟩
  · cases h; exact ⟨rfl, rfl, rfl⟩
  · cases h
theorem vget_set {vs : List Value} {k j : Nat} {w : Value} (hk : k < vs.length) : vget (vs.set k w) j = if j = k then some w else vget vs j := by
  simp only [vget_eq, List.getElem?_set]
  by_cases e : k = j
  · subst e; simp [hk]
  · simp [e, Ne.symm e]
theorem ald_in {α : Type} {f : α → Value} {xs : List α} {c : Cell} {j : Int32} {x : α} (hc : c.slots = (xs.map f).toArray) (h : aget xs j = some x) : ¬ (j < 0 ∨ c.slots.size ≤ j.toNatClampNeg) ∧ c.slots[j.toNatClampNeg]? = some (f x) := by
  obtain ⟨h1, h2⟩ := aget_inv h
  have h3 := (List.getElem?_eq_some_iff.mp h2).1
  refine ⟨fun q => ?_, by rw [hc]; simp [h2]⟩
  rcases q with q | q
  · exact h1 q
  · rw [hc] at q; simp at q; omega
theorem ast_in {α : Type} {f : α → Value} {xs ys : List α} {c : Cell} {j : Int32} {x : α} (hc : c.slots = (xs.map f).toArray) (h : aset xs j x = some ys) : ¬ (j < 0 ∨ c.slots.size ≤ j.toNatClampNeg) ∧ (c.setSlot j.toNatClampNeg (f x)).slots = (ys.map f).toArray := by
  obtain ⟨h1, h2, rfl⟩ := aset_inv h
  refine ⟨fun q => ?_, by simp [Cell.setSlot, hc, List.map_set]⟩
  rcases q with q | q
  · exact h1 q
  · rw [hc] at q; simp at q; omega
theorem qgrow {σ : QHeap} {c : QCell} : qhs (σ ++ [c]) - qhs σ = qsz c := by rw [qhs_app]; simp [qhs]
set_option maxHeartbeats 4000000 in
theorem QTri.newArr (Ad : QAd n0 ad) (W : QW Z a0) {pc aux : Nat} {L : QLoc} {S : List Value} {σ : QHeap} {aty : ArrayType} {n : Int32} {k : Nat} {c : QCell} (hk : qnew n = some k) (hc : pCode m pc = some (.newarray aty, aux)) (hz : qsz c = k)
    (hq : ∀ (h' : Heap) (a : Addr) (cA : ClassId), Arr Z h' a (newA cA (newarray.typeOf aty) n) (newarray.typeOf aty) → QCellOk Z ad h' a c)
    (h : QTri l Z n0 ad m (pc + 2, L, .ref σ.length :: S, σ ++ [c]) v σ') : QTri l Z n0 ad m (pc, L, .int n :: S, σ) v σ' := by
  have hd : decode (pBytes m) pc = .ok (.newarray aty, 2) := pDecN hc rfl
  obtain ⟨n1, n2, n3⟩ := qnew_inv hk
  refine QTri.gen h (by simp) (by simp [qhs_app]) fun p e R s mid args below meth c' T locs cells slots C hcx X hR hF hL hC hn hc1 hsl => ?_
  obtain ⟨hx, hZ, hby, hml, hret, hown, hnm, hfr, hlo⟩ := hcx
  have hd2 : decode c'.code pc = .ok (.newarray aty, 2) := by rw [hby]; exact hd
  simp only [List.length_append, List.length_singleton, Nat.add_sub_cancel_left, qgrow, hz] at hc1 hsl ⊢
  obtain ⟨T₁, h₁, cA, X₁, e₁, E₁, A₁, st⟩ := newP X hx hZ (aty := aty) (qw_arr W (newarray.typeOf aty) (mem_of_contains (show aTys.contains (newarray.typeOf aty) = true from pRest hc))) rfl (g := mkF mid pc C (.int n :: S.map (qv ad))) rfl hd2 rfl n1 (cap := k) (by omega) (by omega) hc1 hsl
  have hsz : h₁.size = T.heap.size + 1 := by
    have q1 := X₁.heapSize
    have q2 : T.heap.size < h₁.size := A₁.lt
    have q3 := hR.2.1
    rw [e₁] at q1
    have : n0 + (σ.length - k0) = s.heap.size + cells := hn
    have q3' : T.heap.size = n0 + (σ.length - k0) := q3
    omega
  refine ⟨T₁, locs, C, X₁, ?_, hF, hL, hC, fun target q => ?_⟩
  · rw [e₁]; exact QRep.push hR Ad E₁ hsz (hq _ _ _ A₁)
  · refine st _ ?_
    have e2 : ad σ.length = T.heap.size := by rw [Ad.1 _ hR.1]; exact hR.2.1.symm
    simp only [List.map_cons, qv, e2] at q
    exact q
set_option maxHeartbeats 4000000 in
theorem QTri.getfield (W : QW Z a0) {pc idx aux : Nat} {L : QLoc} {S : List Value} {σ : QHeap} {st' : QSt} (h : QTri l Z n0 ad m st' v σ') (hc : pCode m pc = some (.getfield idx, aux)) (hs : qget (pc + 3) L S σ aux = some st') : QTri l Z n0 ad m (pc, L, S, σ) v σ' := by
  have hd : decode (pBytes m) pc = .ok (.getfield idx, 3) := pDecN hc rfl
  obtain ⟨a, S', vs, w, rfl, hvs, hw, rfl⟩ := qget_inv hs
  have hm := mem_of_contains (show lkF.contains (pK m, idx, aux) = true from pRest hc)
  have hlt := lkF_lt _ hm
  refine QTri.pure h rfl fun p e R s mid args below meth c T locs cells slots C hcx X hR hL hC => ?_
  obtain ⟨hx, hZ, hby, hml, hret, hown, hnm, hfr, hlo⟩ := hcx
  have hd2 : decode c.code pc = .ok (.getfield idx, 3) := by rw [hby]; exact hd
  have F := (hR.2.2 _ _ hvs).2.2 aux w hlt hw
  obtain ⟨T₁, X₁, e₁, st⟩ := getF X hx hZ hown (host := "") (index := idx) (Or.inl (qw_fl W (pK m, idx, aux) hm)) Via.refl rfl F (g := mkF mid pc C (List.map (qv ad) (.ref a :: S'))) rfl rfl hd2
  exact ⟨T₁, C, X₁, e₁, hL, hC, st⟩
set_option maxHeartbeats 4000000 in
theorem QTri.putfield (Ad : QAd n0 ad) (W : QW Z a0) {pc idx aux : Nat} {L : QLoc} {S : List Value} {σ : QHeap} {st' : QSt} (h : QTri l Z n0 ad m st' v σ') (hc : pCode m pc = some (.putfield idx, aux)) (hs : qput (pc + 3) L S σ aux = some st') : QTri l Z n0 ad m (pc, L, S, σ) v σ' := by
  have hd : decode (pBytes m) pc = .ok (.putfield idx, 3) := pDecN hc rfl
  obtain ⟨w, a, S', vs, u, rfl, hvs, b1, b2, hu, rfl⟩ := qput_inv hs
  obtain ⟨r1, r2⟩ := Bool.and_eq_true_iff.mp (show (lkF.contains (pK m, idx, aux) && (!fFin aux || (pK m == 1 && pNm m == "<init>"))) = true from pRest hc)
  have hm := mem_of_contains r1
  have hlt := lkF_lt _ hm
  obtain ⟨rfl, q2, q3⟩ := qfit_inv (ad := ad) hu
  have hsz : qhs (σ.set a (Sum.inl (vs.set aux w))) = qhs σ := qhs_set hvs rfl
  refine QTri.gen h (by simp) (by show qhs σ ≤ qhs (σ.set a (Sum.inl (vs.set aux w))); rw [hsz]; exact Nat.le_refl _) fun p e R s mid args below meth c T locs cells slots C hcx X hR hF hL hC hn hc1 hsl => ?_
  obtain ⟨hx, hZ, hby, hml, hret, hown, hnm, hfr, hlo⟩ := hcx
  have hd2 : decode c.code pc = .ok (.putfield idx, 3) := by rw [hby]; exact hd
  obtain ⟨E, l1, Fs⟩ := hR.2.2 _ _ hvs
  obtain ⟨old, hold⟩ : ∃ old, vget vs aux = some old := by rw [vget_eq]; exact ⟨_, List.getElem?_eq_getElem b2⟩
  have lay : (Cond.lays cName cName (fNm aux) (fDs aux)).before a0 Z = true ∨ ((Cond.laysFinal cName cName (fNm aux) (fDs aux)).before a0 Z = true ∧ kName (pK m) = cName ∧ meth.name = "<init>") := by
    have q := (qw_lay W) aux hlt
    cases hf : fFin aux with
    | false => rw [hf] at q; exact Or.inl q
    | true =>
      rw [hf] at q r2
      simp at r2
      exact Or.inr ⟨q, by rw [r2.1]; exact kOne, by rw [hnm]; exact r2.2⟩
  obtain ⟨T₁, h₁, X₁, e₁, W₁, st⟩ := putF X hx hZ hown (host := "") (index := idx) (Or.inl (qw_fl W (pK m, idx, aux) hm)) Via.refl rfl (Fs aux old hlt hold) E lay ((qw_inst W)) (fPrs aux hlt) q2 q3 (g := mkF mid pc C (List.map (qv ad) (w :: .ref a :: S'))) rfl rfl hd2
  refine ⟨T₁, _, C, ?_, ?_, Fr.snoc X₁ hF (by rw [Ad.1 a b1]; exact Nat.le_add_right _ _), hL, hC, st⟩
  · show Stand _ _ _ _ _ _ _ _ _ _ _ _ (cells + ((σ.set a (Sum.inl (vs.set aux w))).length - σ.length)) (slots + (qhs (σ.set a (Sum.inl (vs.set aux w))) - qhs σ))
    rw [hsz, Nat.sub_self, List.length_set, Nat.sub_self]
    exact X₁
  · rw [e₁]
    refine QRep.set hR Ad W₁ hvs ⟨E.wr W₁, by simpa using l1, fun k u hk hu => ?_⟩
    rw [vget_set b2] at hu
    split at hu
    · rename_i e; cases hu; rw [e]; exact (Fs aux old hlt hold).same W₁
    · rename_i ne
      exact (Fs k u hk hu).other W₁ (Or.inr (slot_ne (laid_of W hk) (laid_of W hlt) (fun z => ne (fInj _ hk _ hlt z)) (fPrs _ hk) (fPrs _ hlt)))
theorem tyI_inv {ty : FieldType} (h : tyI ty = true) : ty = .int := by cases ty <;> simp [tyI] at h; rfl
theorem tyB_inv {ty : FieldType} (h : tyB ty = true) : ty = .boolean ∨ ty = .byte := by cases ty <;> simp [tyB] at h <;> simp
set_option maxHeartbeats 4000000 in
theorem QTri.iaload {pc aux : Nat} {L : QLoc} {S : List Value} {σ : QHeap} {st' : QSt} (h : QTri l Z n0 ad m st' v σ') (hc : pCode m pc = some (.iaload, aux)) (hs : qald (pc + 1) L S σ tyI = some st') : QTri l Z n0 ad m (pc, L, S, σ) v σ' := by
  have hd : decode (pBytes m) pc = .ok (.iaload, 1) := pDecN hc rfl
  obtain ⟨j, a, S', ty, xs, w, rfl, hx1, ht, hw, rfl⟩ := qald_inv hs
  obtain rfl := tyI_inv ht
  refine QTri.stack h fun p e R s mid args below meth c T locs cells slots C target hx hZ hby hown X hR hL k => ?_
  have hd2 : decode c.code pc = .ok (.iaload, 1) := by rw [hby]; exact hd
  obtain ⟨cl, A, hsl⟩ := hR.2.2 _ _ hx1
  obtain ⟨i1, i2⟩ := ald_in hsl hw
  exact X.iaload hx A.1 (State.isArrayOf_alike hZ.alike A.2.1) A.2.2 i1 i2 (g := mkF mid pc C (List.map (qv ad) (.int j :: .ref a :: S'))) rfl rfl hd2 _ k
set_option maxHeartbeats 4000000 in
theorem QTri.baload {pc aux : Nat} {L : QLoc} {S : List Value} {σ : QHeap} {st' : QSt} (h : QTri l Z n0 ad m st' v σ') (hc : pCode m pc = some (.baload, aux)) (hs : qald (pc + 1) L S σ tyB = some st') : QTri l Z n0 ad m (pc, L, S, σ) v σ' := by
  have hd : decode (pBytes m) pc = .ok (.baload, 1) := pDecN hc rfl
  obtain ⟨j, a, S', ty, xs, w, rfl, hx1, ht, hw, rfl⟩ := qald_inv hs
  refine QTri.stack h fun p e R s mid args below meth c T locs cells slots C target hx hZ hby hown X hR hL k => ?_
  have hd2 : decode c.code pc = .ok (.baload, 1) := by rw [hby]; exact hd
  obtain ⟨cl, A, hsl⟩ := hR.2.2 _ _ hx1
  obtain ⟨i1, i2⟩ := ald_in hsl hw
  rcases tyB_inv ht with rfl | rfl
  · exact X.baloadBooleans hx A.1 (State.isArrayOf_alike hZ.alike A.2.1) A.2.2 i1 i2 (g := mkF mid pc C (List.map (qv ad) (.int j :: .ref a :: S'))) rfl rfl hd2 _ k
  · exact X.baloadBytes hx A.1 (State.isArrayOf_alike hZ.alike A.2.1) A.2.2 i1 i2 (g := mkF mid pc C (List.map (qv ad) (.int j :: .ref a :: S'))) rfl rfl hd2 _ k
set_option maxHeartbeats 4000000 in
theorem QTri.laload {pc aux : Nat} {L : QLoc} {S : List Value} {σ : QHeap} {st' : QSt} (h : QTri l Z n0 ad m st' v σ') (hc : pCode m pc = some (.laload, aux)) (hs : qaldJ (pc + 1) L S σ = some st') : QTri l Z n0 ad m (pc, L, S, σ) v σ' := by
  have hd : decode (pBytes m) pc = .ok (.laload, 1) := pDecN hc rfl
  obtain ⟨j, a, S', xs, w, rfl, hx1, hw, rfl⟩ := qaldJ_inv hs
  refine QTri.stack h fun p e R s mid args below meth c T locs cells slots C target hx hZ hby hown X hR hL k => ?_
  have hd2 : decode c.code pc = .ok (.laload, 1) := by rw [hby]; exact hd
  obtain ⟨cl, A, hsl⟩ := hR.2.2 _ _ hx1
  obtain ⟨i1, i2⟩ := ald_in hsl hw
  exact X.laload hx A.1 (State.isArrayOf_alike hZ.alike A.2.1) A.2.2 i1 i2 (g := mkF mid pc C (List.map (qv ad) (.int j :: .ref a :: S'))) rfl rfl hd2 _ k
/-- behind a store into an array -/
theorem QTri.stored (Ad : QAd n0 ad) {pc : Nat} {L : QLoc} {S S' : List Value} {σ : QHeap} {a j : Nat} {w : Value} {c d : QCell} (hx1 : hget σ a = some c) (b1 : k0 ≤ a) (hz : qsz d = qsz c) (h : QTri l Z n0 ad m (pc + 1, L, S', σ.set a d) v σ')
    (hs : ∀ (p : Program) (e : Env) (R : Room) (s : State) (mid : MethodId) (args : Array Value) (below : List Frame) (meth : Method) (c : Code) (T : State) (locs : List Loc) (cells slots : Nat) (C : Array Slot),
      QCx Z p R s mid meth c m → Stand p l e R s mid args below meth c T locs cells slots → QRep Z n0 ad T.heap σ →
      ∃ T' h', Stand p l e R s mid args below meth c T' (locs ++ [⟨ad a, j⟩]) cells slots ∧ T'.heap = h' ∧ Wr T.heap h' (ad a) j w ∧ QCellOk Z ad h' (ad a) d ∧ ∀ target, Steps p.tables e below (T'.setTop (mkF mid (pc + 1) C (S'.map (qv ad)))) target → Steps p.tables e below (T.setTop (mkF mid pc C (S.map (qv ad)))) target) :
    QTri l Z n0 ad m (pc, L, S, σ) v σ' := by
  have hsz : qhs (σ.set a d) = qhs σ := qhs_set hx1 hz
  refine QTri.gen h (by simp) (by show qhs σ ≤ qhs (σ.set a d); rw [hsz]; exact Nat.le_refl _) fun p e R s mid args below meth c T locs cells slots C hcx X hR hF hL hC hn hc1 hsl => ?_
  obtain ⟨T₁, h₁, X₁, e₁, W₁, Q₁, st⟩ := hs p e R s mid args below meth c T locs cells slots C hcx X hR
  refine ⟨T₁, _, C, ?_, ?_, Fr.snoc X₁ hF (by rw [Ad.1 a b1]; exact Nat.le_add_right _ _), hL, hC, st⟩
  · show Stand _ _ _ _ _ _ _ _ _ _ _ _ (cells + ((σ.set a d).length - σ.length)) (slots + (qhs (σ.set a d) - qhs σ))
    rw [hsz, Nat.sub_self, List.length_set, Nat.sub_self]
    exact X₁
  · rw [e₁]
    exact QRep.set hR Ad W₁ hx1 Q₁
set_option maxHeartbeats 4000000 in
theorem QTri.iastore (Ad : QAd n0 ad) {pc aux : Nat} {L : QLoc} {S : List Value} {σ : QHeap} {st' : QSt} (h : QTri l Z n0 ad m st' v σ') (hc : pCode m pc = some (.iastore, aux)) (hs : qast (pc + 1) L S σ tyI = some st') : QTri l Z n0 ad m (pc, L, S, σ) v σ' := by
  have hd : decode (pBytes m) pc = .ok (.iastore, 1) := pDecN hc rfl
  obtain ⟨w, j, a, S', ty, xs, ys, rfl, hx1, ht, b1, hw, rfl⟩ := qast_inv hs
  obtain rfl := tyI_inv ht
  refine QTri.stored Ad (j := j.toNatClampNeg) (w := .int w) hx1 b1 (by rw [(aset_inv hw).2.2]; simp [qsz]) h fun p e R s mid args below meth c T locs cells slots C hcx X hR => ?_
  have hd2 : decode c.code pc = .ok (.iastore, 1) := by rw [hcx.2.2.1]; exact hd
  obtain ⟨cl, A, hsl⟩ := hR.2.2 _ _ hx1
  obtain ⟨i1, i2⟩ := ast_in hsl hw
  obtain ⟨T₁, h₁, X₁, e₁, W₁, st⟩ := stI X hcx.1 hcx.2.1 rfl A i1 (g := mkF mid pc C (List.map (qv ad) (.int w :: .int j :: .ref a :: S'))) rfl rfl hd2
  exact ⟨T₁, h₁, X₁, e₁, W₁, ⟨_, A.same W₁, i2⟩, st⟩
set_option maxHeartbeats 4000000 in
theorem QTri.bastore (Ad : QAd n0 ad) {pc aux : Nat} {L : QLoc} {S : List Value} {σ : QHeap} {st' : QSt} (h : QTri l Z n0 ad m st' v σ') (hc : pCode m pc = some (.bastore, aux)) (hs : qast (pc + 1) L S σ tyB = some st') : QTri l Z n0 ad m (pc, L, S, σ) v σ' := by
  have hd : decode (pBytes m) pc = .ok (.bastore, 1) := pDecN hc rfl
  obtain ⟨w, j, a, S', ty, xs, ys, rfl, hx1, ht, b1, hw, rfl⟩ := qast_inv hs
  refine QTri.stored Ad (j := j.toNatClampNeg) (w := .int (qnar ty w)) hx1 b1 (by rw [(aset_inv hw).2.2]; simp [qsz]) h fun p e R s mid args below meth c T locs cells slots C hcx X hR => ?_
  have hd2 : decode c.code pc = .ok (.bastore, 1) := by rw [hcx.2.2.1]; exact hd
  obtain ⟨cl, A, hsl⟩ := hR.2.2 _ _ hx1
  obtain ⟨i1, i2⟩ := ast_in hsl hw
  rcases tyB_inv ht with rfl | rfl
  · obtain ⟨T₁, h₁, X₁, e₁, W₁, st⟩ := stZ X hcx.1 hcx.2.1 rfl A i1 (g := mkF mid pc C (List.map (qv ad) (.int w :: .int j :: .ref a :: S'))) rfl rfl hd2
    exact ⟨T₁, h₁, X₁, e₁, W₁, ⟨_, A.same W₁, i2⟩, st⟩
  · obtain ⟨T₁, h₁, X₁, e₁, W₁, st⟩ := stB X hcx.1 hcx.2.1 rfl A i1 (g := mkF mid pc C (List.map (qv ad) (.int w :: .int j :: .ref a :: S'))) rfl rfl hd2
    exact ⟨T₁, h₁, X₁, e₁, W₁, ⟨_, A.same W₁, i2⟩, st⟩
set_option maxHeartbeats 4000000 in
theorem QTri.lastore (Ad : QAd n0 ad) {pc aux : Nat} {L : QLoc} {S : List Value} {σ : QHeap} {st' : QSt} (h : QTri l Z n0 ad m st' v σ') (hc : pCode m pc = some (.lastore, aux)) (hs : qastJ (pc + 1) L S σ = some st') : QTri l Z n0 ad m (pc, L, S, σ) v σ' := by
  have hd : decode (pBytes m) pc = .ok (.lastore, 1) := pDecN hc rfl
  obtain ⟨w, j, a, S', xs, ys, rfl, hx1, b1, hw, rfl⟩ := qastJ_inv hs
  refine QTri.stored Ad (j := j.toNatClampNeg) (w := .long w) hx1 b1 (by rw [(aset_inv hw).2.2]; simp [qsz]) h fun p e R s mid args below meth c T locs cells slots C hcx X hR => ?_
  have hd2 : decode c.code pc = .ok (.lastore, 1) := by rw [hcx.2.2.1]; exact hd
  obtain ⟨cl, A, hsl⟩ := hR.2.2 _ _ hx1
  obtain ⟨i1, i2⟩ := ast_in hsl hw
  obtain ⟨T₁, h₁, X₁, e₁, W₁, st⟩ := stJ X hcx.1 hcx.2.1 rfl A i1 (g := mkF mid pc C (List.map (qv ad) (.long w :: .int j :: .ref a :: S'))) rfl rfl hd2
  exact ⟨T₁, h₁, X₁, e₁, W₁, ⟨_, A.same W₁, i2⟩, st⟩
set_option maxHeartbeats 4000000 in
theorem QTri.alen {pc aux : Nat} {L : QLoc} {S : List Value} {σ : QHeap} {st' : QSt} (h : QTri l Z n0 ad m st' v σ') (hc : pCode m pc = some (.arraylength, aux)) (hs : qlen (pc + 1) L S σ = some st') : QTri l Z n0 ad m (pc, L, S, σ) v σ' := by
  have hd : decode (pBytes m) pc = .ok (.arraylength, 1) := pDecN hc rfl
  obtain ⟨a, S', n, rfl, hx1, rfl⟩ := qlen_inv hs
  refine QTri.stack h fun p e R s mid args below meth c T locs cells slots C target hx hZ hby hown X hR hL k => ?_
  have hd2 : decode c.code pc = .ok (.arraylength, 1) := by rw [hby]; exact hd
  rcases hx1 with ⟨ty, xs, hx1, rfl⟩ | ⟨xs, hx1, rfl⟩
  · obtain ⟨cl, A, hsl⟩ := hR.2.2 _ _ hx1
    have e1 : cl.slots.size = xs.length := by rw [hsl]; simp
    rw [← e1] at k
    exact X.arraylength hx A.1 (State.isArrayOf_alike hZ.alike A.2.1) (g := mkF mid pc C (List.map (qv ad) (.ref a :: S'))) rfl rfl hd2 _ k
  · obtain ⟨cl, A, hsl⟩ := hR.2.2 _ _ hx1
    have e1 : cl.slots.size = xs.length := by rw [hsl]; simp
    rw [← e1] at k
    exact X.arraylength hx A.1 (State.isArrayOf_alike hZ.alike A.2.1) (g := mkF mid pc C (List.map (qv ad) (.ref a :: S'))) rfl rfl hd2 _ k
set_option maxHeartbeats 4000000 in
theorem QTri.newObj (Ad : QAd n0 ad) (W : QW Z a0) {pc idx aux : Nat} {L : QLoc} {S : List Value} {σ : QHeap} (h : QTri l Z n0 ad m (pc + 3, L, .ref σ.length :: S, σ ++ [.inl cDef]) v σ') (hc : pCode m pc = some (.new idx, aux)) : QTri l Z n0 ad m (pc, L, S, σ) v σ' := by
  have hd : decode (pBytes m) pc = .ok (.new idx, 3) := pDecN hc rfl
  have hm := mem_of_contains (show lkN.contains (pK m, idx) = true from pRest hc)
  refine QTri.gen h (by simp) (by simp [qhs_app]) fun p e R s mid args below meth c T locs cells slots C hcx X hR hF hL hC hn hc1 hsl => ?_
  obtain ⟨hx, hZ, hby, hml, hret, hown, hnm, hfr, hlo⟩ := hcx
  have hd2 : decode c.code pc = .ok (.new idx, 3) := by rw [hby]; exact hd
  simp only [List.length_append, List.length_singleton, Nat.add_sub_cancel_left, qgrow, qsz] at hc1 hsl ⊢
  obtain ⟨T₁, h₁, X₁, e₁, E₁, A₁, D₁, -, st⟩ := newO X hx hZ hown (index := idx) (qw_nw W (pK m, idx) hm) ((qw_inst W)) ((qw_init W)) rfl (g := mkF mid pc C (S.map (qv ad))) rfl hd2 hc1 hsl
  have hsz : h₁.size = T.heap.size + 1 := by
    have q1 := X₁.heapSize
    have q2 : T.heap.size < h₁.size := A₁.lt
    have q3 : T.heap.size = n0 + (σ.length - k0) := hR.2.1
    rw [e₁] at q1
    have : n0 + (σ.length - k0) = s.heap.size + cells := hn
    omega
  refine ⟨T₁, locs, C, X₁, ?_, hF, hL, hC, fun target q => ?_⟩
  · rw [e₁]
    refine QRep.push hR Ad E₁ hsz ⟨A₁, cDefL, fun k u hk hu => ?_⟩
    rw [cDefs k hk] at hu
    cases hu
    have e3 : qv ad (defaultValue (fTy k)) = defaultValue (fTy k) := by
      cases hq : defaultValue (fTy k) with
      | ref a => exact absurd hq (fDef k hk a)
      | _ => rfl
    rw [e3]
    exact D₁ (laid_of W hk) (fPrs k hk)
  · refine st _ ?_
    have e2 : ad σ.length = T.heap.size := by rw [Ad.1 _ hR.1]; exact hR.2.1.symm
    simp only [List.map_cons, qv, e2] at q
    exact q
set_option maxHeartbeats 8000000 in
theorem QTri.step (Ad : QAd n0 ad) (W : QW Z a0) {st st' : QSt} (h : QTri l Z n0 ad m st' v σ') (hs : qstep m st = some st') : QTri l Z n0 ad m st v σ' := by
  obtain ⟨pc, L, S, σ⟩ := st
  unfold qstep at hs
  dsimp only at hs
  split at hs
  rotate_left
  · cases hs
  rename_i i aux hc
  have hd := pDecN hc rfl
  have hr := pRest hc
  unfold qexec at hs
  split at hs
  · -- aload_n
    obtain ⟨w, h1, h2, rfl⟩ := qload_inv hs
    obtain ⟨a, rfl⟩ := isR_inv h2
    exact QTri.stack h fun p e R s mid args below meth c T locs cells slots C target hx hZ hby hown X hR hL k => XS.aloadN X.here hx rfl (hb hby hd) (hL.2.1 _ _ h1) rfl k
  · obtain ⟨w, h1, h2, rfl⟩ := qload_inv hs
    obtain ⟨a, rfl⟩ := isR_inv h2
    exact QTri.stack h fun p e R s mid args below meth c T locs cells slots C target hx hZ hby hown X hR hL k => XS.aload X.here hx rfl (hb hby hd) (hL.2.1 _ _ h1) rfl k
  · obtain ⟨w, h1, h2, rfl⟩ := qload_inv hs
    obtain ⟨a, rfl⟩ := isI_inv h2
    exact QTri.stack h fun p e R s mid args below meth c T locs cells slots C target hx hZ hby hown X hR hL k => XS.iloadN X.here hx rfl (hb hby hd) (hL.2.1 _ _ h1) k
  · obtain ⟨w, h1, h2, rfl⟩ := qload_inv hs
    obtain ⟨a, rfl⟩ := isI_inv h2
    exact QTri.stack h fun p e R s mid args below meth c T locs cells slots C target hx hZ hby hown X hR hL k => XS.iload X.here hx rfl (hb hby hd) (hL.2.1 _ _ h1) k
  · obtain ⟨w, h1, h2, rfl⟩ := qload_inv hs
    obtain ⟨a, rfl⟩ := isJ_inv h2
    exact QTri.stack h fun p e R s mid args below meth c T locs cells slots C target hx hZ hby hown X hR hL k => XT.lloadN X.here hx rfl (hb hby hd) (hL.2.1 _ _ h1) k
  · obtain ⟨w, h1, h2, rfl⟩ := qload_inv hs
    obtain ⟨a, rfl⟩ := isJ_inv h2
    exact QTri.stack h fun p e R s mid args below meth c T locs cells slots C target hx hZ hby hown X hR hL k => XT.lload X.here hx rfl (hb hby hd) (hL.2.1 _ _ h1) k
  · cases hs -- iconst
    exact QTri.stack h fun p e R s mid args below meth c T locs cells slots C target hx hZ hby hown X hR hL k => XS.iconst X.here hx rfl (hb hby hd) k
  · cases hs
    exact QTri.stack h fun p e R s mid args below meth c T locs cells slots C target hx hZ hby hown X hR hL k => XS.bipush X.here hx rfl (hb hby hd) k
  · cases hs
    exact QTri.stack h fun p e R s mid args below meth c T locs cells slots C target hx hZ hby hown X hR hL k => XS.sipush X.here hx rfl (hb hby hd) k
  · cases hs
    exact QTri.stack h fun p e R s mid args below meth c T locs cells slots C target hx hZ hby hown X hR hL k => XT.lconst X.here hx rfl (hb hby hd) k
  · -- ldc
    unfold qldc at hs
    split at hs
    · rename_i w hw
      cases hs
      obtain ⟨x, hx1, hx2⟩ := qw_cI W (pK m, _, aux) (mem_of_contains (show lkC.contains (pK m, _, aux) = true from hr))
      rw [show vget cK aux = some w from hw] at hx1
      cases hx1
      exact QTri.stack h fun p e R s mid args below meth c T locs cells slots C target hx hZ hby hown X hR hL k => X.ldcI hx hown (mv hZ hx2) rfl (hb hby hd) k
    · cases hs
  · unfold qldc at hs
    split at hs
    · rename_i w hw
      cases hs
      obtain ⟨x, hx1, hx2⟩ := qw_cJ W (pK m, _, aux) (mem_of_contains (show lkD.contains (pK m, _, aux) = true from hr))
      rw [show vget cK aux = some w from hw] at hx1
      cases hx1
      exact QTri.stack h fun p e R s mid args below meth c T locs cells slots C target hx hZ hby hown X hR hL k => X.ldc2J hx hown (mv hZ hx2) rfl (hb hby hd) k
    · cases hs
  · -- istore_n
    obtain ⟨w, S', L', rfl, h2, h3, rfl⟩ := qstore_inv hs
    obtain ⟨a, rfl⟩ := isI_inv h2
    exact QTri.frame h fun p e R s mid args below meth c T locs cells slots C hcx X hR hL hC => by
      obtain ⟨D, d1, d2, d3⟩ := store_ok hL h3
      exact ⟨D, d2, d3.trans hC, fun target k => XS.istoreN X.here hcx.1 rfl (hb hcx.2.2.1 hd) rfl d1 k⟩
  · obtain ⟨w, S', L', rfl, h2, h3, rfl⟩ := qstore_inv hs
    obtain ⟨a, rfl⟩ := isI_inv h2
    exact QTri.frame h fun p e R s mid args below meth c T locs cells slots C hcx X hR hL hC => by
      obtain ⟨D, d1, d2, d3⟩ := store_ok hL h3
      exact ⟨D, d2, d3.trans hC, fun target k => XS.istore X.here hcx.1 rfl (hb hcx.2.2.1 hd) rfl d1 k⟩
  · obtain ⟨w, S', L', rfl, h2, h3, rfl⟩ := qstore_inv hs
    obtain ⟨a, rfl⟩ := isJ_inv h2
    exact QTri.frame h fun p e R s mid args below meth c T locs cells slots C hcx X hR hL hC => by
      obtain ⟨D, d1, d2, d3⟩ := store_ok hL h3
      exact ⟨D, d2, d3.trans hC, fun target k => XT.lstoreN X.here hcx.1 rfl (hb hcx.2.2.1 hd) rfl d1 k⟩
  · obtain ⟨w, S', L', rfl, h2, h3, rfl⟩ := qstore_inv hs
    obtain ⟨a, rfl⟩ := isJ_inv h2
    exact QTri.frame h fun p e R s mid args below meth c T locs cells slots C hcx X hR hL hC => by
      obtain ⟨D, d1, d2, d3⟩ := store_ok hL h3
      exact ⟨D, d2, d3.trans hC, fun target k => XT.lstore X.here hcx.1 rfl (hb hcx.2.2.1 hd) rfl d1 k⟩
  · obtain ⟨w, S', L', rfl, h2, h3, rfl⟩ := qstore_inv hs
    obtain ⟨a, rfl⟩ := isR_inv h2
    exact QTri.frame h fun p e R s mid args below meth c T locs cells slots C hcx X hR hL hC => by
      obtain ⟨D, d1, d2, d3⟩ := store_ok hL h3
      exact ⟨D, d2, d3.trans hC, fun target k => XS.astoreN X.here hcx.1 rfl (hb hcx.2.2.1 hd) rfl rfl d1 k⟩
  · obtain ⟨w, S', L', rfl, h2, h3, rfl⟩ := qstore_inv hs
    obtain ⟨a, rfl⟩ := isR_inv h2
    exact QTri.frame h fun p e R s mid args below meth c T locs cells slots C hcx X hR hL hC => by
      obtain ⟨D, d1, d2, d3⟩ := store_ok hL h3
      exact ⟨D, d2, d3.trans hC, fun target k => XS.astore X.here hcx.1 rfl (hb hcx.2.2.1 hd) rfl rfl d1 k⟩
  · -- iinc
    unfold qinc at hs
    split at hs
    · rename_i x hx1
      split at hs
      · rename_i L' hL'
        cases hs
        exact QTri.frame h fun p e R s mid args below meth c T locs cells slots C hcx X hR hL hC => by
          obtain ⟨D, d1, d2, d3⟩ := store_ok hL hL'
          exact ⟨D, d2, d3.trans hC, fun target k => XS.iinc X.here hcx.1 rfl (hb hcx.2.2.1 hd) (hL.2.1 _ _ hx1) d1 k⟩
      · cases hs
    · cases hs
  · obtain ⟨x, y, S', rfl, rfl⟩ := qbin_inv hs -- iadd
    exact QTri.stack h fun p e R s mid args below meth c T locs cells slots C target hx hZ hby hown X hR hL k => XS.iadd X.here hx rfl (hb hby hd) rfl k
  · obtain ⟨x, y, S', rfl, rfl⟩ := qbin_inv hs
    exact QTri.stack h fun p e R s mid args below meth c T locs cells slots C target hx hZ hby hown X hR hL k => XS.isub X.here hx rfl (hb hby hd) rfl k
  · obtain ⟨x, y, S', rfl, rfl⟩ := qbin_inv hs
    exact QTri.stack h fun p e R s mid args below meth c T locs cells slots C target hx hZ hby hown X hR hL k => XS.imul X.here hx rfl (hb hby hd) rfl k
  · obtain ⟨x, y, S', rfl, rfl⟩ := qbin_inv hs
    exact QTri.stack h fun p e R s mid args below meth c T locs cells slots C target hx hZ hby hown X hR hL k => XS.iand X.here hx rfl (hb hby hd) rfl k
  · obtain ⟨x, y, S', rfl, rfl⟩ := qbin_inv hs
    exact QTri.stack h fun p e R s mid args below meth c T locs cells slots C target hx hZ hby hown X hR hL k => XT.ior X.here hx rfl (hb hby hd) rfl k
  · obtain ⟨x, y, S', rfl, rfl⟩ := qbin_inv hs
    exact QTri.stack h fun p e R s mid args below meth c T locs cells slots C target hx hZ hby hown X hR hL k => XT.ixor X.here hx rfl (hb hby hd) rfl k
  · obtain ⟨x, y, S', rfl, rfl⟩ := qbin_inv hs
    exact QTri.stack h fun p e R s mid args below meth c T locs cells slots C target hx hZ hby hown X hR hL k => XT.ishl X.here hx rfl (hb hby hd) rfl k
  · obtain ⟨x, y, S', rfl, rfl⟩ := qbin_inv hs
    exact QTri.stack h fun p e R s mid args below meth c T locs cells slots C target hx hZ hby hown X hR hL k => XT.ishr X.here hx rfl (hb hby hd) rfl k
  · obtain ⟨x, y, S', rfl, rfl⟩ := qbin_inv hs
    exact QTri.stack h fun p e R s mid args below meth c T locs cells slots C target hx hZ hby hown X hR hL k => XT.iushr X.here hx rfl (hb hby hd) rfl k
  · obtain ⟨x, y, z, S', rfl, hz, rfl⟩ := qbino_inv hs -- idiv
    unfold qdiv at hz
    split at hz
    · cases hz
    · rename_i hy
      cases hz
      exact QTri.stack h fun p e R s mid args below meth c T locs cells slots C target hx hZ hby hown X hR hL k => XS.idiv X.here hx rfl (hb hby hd) rfl hy k
  · obtain ⟨x, y, z, S', rfl, hz, rfl⟩ := qbino_inv hs
    unfold qrem at hz
    split at hz
    · cases hz
    · rename_i hy
      cases hz
      exact QTri.stack h fun p e R s mid args below meth c T locs cells slots C target hx hZ hby hown X hR hL k => iremM X hx rfl (hb hby hd) rfl hy k
  · obtain ⟨x, S', rfl, rfl⟩ := quni_inv hs -- ineg
    exact QTri.stack h fun p e R s mid args below meth c T locs cells slots C target hx hZ hby hown X hR hL k => XS.ineg X.here hx rfl (hb hby hd) rfl k
  · obtain ⟨x, S', rfl, rfl⟩ := quni_inv hs
    exact QTri.stack h fun p e R s mid args below meth c T locs cells slots C target hx hZ hby hown X hR hL k => XT.i2l X.here hx rfl (hb hby hd) rfl k
  · obtain ⟨x, S', rfl, rfl⟩ := quni_inv hs
    exact QTri.stack h fun p e R s mid args below meth c T locs cells slots C target hx hZ hby hown X hR hL k => XT.i2b X.here hx rfl (hb hby hd) rfl k
  · obtain ⟨x, S', rfl, rfl⟩ := quniJ_inv hs
    exact QTri.stack h fun p e R s mid args below meth c T locs cells slots C target hx hZ hby hown X hR hL k => XT.l2i X.here hx rfl (hb hby hd) rfl k
  · obtain ⟨x, S', rfl, rfl⟩ := quniJ_inv hs
    exact QTri.stack h fun p e R s mid args below meth c T locs cells slots C target hx hZ hby hown X hR hL k => XT.lneg X.here hx rfl (hb hby hd) rfl k
  · obtain ⟨x, y, S', rfl, rfl⟩ := qbinJ_inv hs
    exact QTri.stack h fun p e R s mid args below meth c T locs cells slots C target hx hZ hby hown X hR hL k => XT.ladd X.here hx rfl (hb hby hd) rfl k
  · obtain ⟨x, y, S', rfl, rfl⟩ := qbinJ_inv hs
    exact QTri.stack h fun p e R s mid args below meth c T locs cells slots C target hx hZ hby hown X hR hL k => XT.lsub X.here hx rfl (hb hby hd) rfl k
  · obtain ⟨x, y, S', rfl, rfl⟩ := qbinJ_inv hs
    exact QTri.stack h fun p e R s mid args below meth c T locs cells slots C target hx hZ hby hown X hR hL k => XT.lmul X.here hx rfl (hb hby hd) rfl k
  · obtain ⟨x, y, S', rfl, rfl⟩ := qbinJ_inv hs
    exact QTri.stack h fun p e R s mid args below meth c T locs cells slots C target hx hZ hby hown X hR hL k => XT.land X.here hx rfl (hb hby hd) rfl k
  · obtain ⟨x, y, S', rfl, rfl⟩ := qbinJ_inv hs
    exact QTri.stack h fun p e R s mid args below meth c T locs cells slots C target hx hZ hby hown X hR hL k => XT.lor X.here hx rfl (hb hby hd) rfl k
  · obtain ⟨x, y, S', rfl, rfl⟩ := qbinJ_inv hs
    exact QTri.stack h fun p e R s mid args below meth c T locs cells slots C target hx hZ hby hown X hR hL k => XT.lxor X.here hx rfl (hb hby hd) rfl k
  · obtain ⟨x, y, S', rfl, rfl⟩ := qshJ_inv hs
    exact QTri.stack h fun p e R s mid args below meth c T locs cells slots C target hx hZ hby hown X hR hL k => XT.lshl X.here hx rfl (hb hby hd) rfl k
  · obtain ⟨x, y, S', rfl, rfl⟩ := qshJ_inv hs
    exact QTri.stack h fun p e R s mid args below meth c T locs cells slots C target hx hZ hby hown X hR hL k => XT.lshr X.here hx rfl (hb hby hd) rfl k
  · obtain ⟨x, y, S', rfl, rfl⟩ := qshJ_inv hs
    exact QTri.stack h fun p e R s mid args below meth c T locs cells slots C target hx hZ hby hown X hR hL k => XT.lushr X.here hx rfl (hb hby hd) rfl k
  · split at hs -- lcmp
    · cases hs
      exact QTri.stack h fun p e R s mid args below meth c T locs cells slots C target hx hZ hby hown X hR hL k => XT.lcmp X.here hx rfl (hb hby hd) rfl k
    · cases hs
  · cases hs -- goto
    obtain ⟨t1, t2⟩ := qtgt_spec hr
    exact QTri.stack h fun p e R s mid args below meth c T locs cells slots C target hx hZ hby hown X hR hL k => XS.goto X.here hx rfl rfl (hb hby hd) t1 t2 k
  · obtain ⟨x, S', rfl, rfl⟩ := qif_inv hs
    obtain ⟨t1, t2⟩ := qtgt_spec hr
    cases hh : ifCond.holds _ x with
    | true => rw [hh] at h; exact QTri.stack h fun p e R s mid args below meth c T locs cells slots C target hx hZ hby hown X hR hL k => XS.ifYes X.here hx rfl rfl (hb hby hd) rfl hh t1 t2 k
    | false => rw [hh] at h; exact QTri.stack h fun p e R s mid args below meth c T locs cells slots C target hx hZ hby hown X hR hL k => XS.ifNo X.here hx rfl (hb hby hd) rfl hh k
  · obtain ⟨x, y, S', rfl, rfl⟩ := qicmp_inv hs
    obtain ⟨t1, t2⟩ := qtgt_spec hr
    cases hh : if_icmp.holds _ x y with
    | true => rw [hh] at h; exact QTri.stack h fun p e R s mid args below meth c T locs cells slots C target hx hZ hby hown X hR hL k => XS.icmpYes X.here hx rfl rfl (hb hby hd) rfl hh t1 t2 k
    | false => rw [hh] at h; exact QTri.stack h fun p e R s mid args below meth c T locs cells slots C target hx hZ hby hown X hR hL k => XS.icmpNo X.here hx rfl (hb hby hd) rfl hh k
  · unfold qdup at hs
    split at hs
    · cases hs
      exact QTri.stack h fun p e R s mid args below meth c T locs cells slots C target hx hZ hby hown X hR hL k => XS.dup X.here hx rfl (hb hby hd) rfl rfl k
    · cases hs
      exact QTri.stack h fun p e R s mid args below meth c T locs cells slots C target hx hZ hby hown X hR hL k => XS.dup X.here hx rfl (hb hby hd) rfl rfl k
    · cases hs
  · unfold qdup2 at hs
    split at hs
    · cases hs
      exact QTri.stack h fun p e R s mid args below meth c T locs cells slots C target hx hZ hby hown X hR hL k => XT.dup2 X.here hx rfl (hb hby hd) rfl rfl rfl k
    · cases hs
      exact QTri.stack h fun p e R s mid args below meth c T locs cells slots C target hx hZ hby hown X hR hL k => XT.dup2 X.here hx rfl (hb hby hd) rfl rfl rfl k
    · cases hs
      exact QTri.stack h fun p e R s mid args below meth c T locs cells slots C target hx hZ hby hown X hR hL k => XT.dup2L X.here hx rfl (hb hby hd) rfl k
    · cases hs
  · unfold qpop at hs
    split at hs
    · cases hs
      exact QTri.stack h fun p e R s mid args below meth c T locs cells slots C target hx hZ hby hown X hR hL k => XT.pop X.here hx rfl (hb hby hd) rfl rfl k
    · cases hs
      exact QTri.stack h fun p e R s mid args below meth c T locs cells slots C target hx hZ hby hown X hR hL k => XT.pop X.here hx rfl (hb hby hd) rfl rfl k
    · cases hs
  · exact QTri.getfield W h hc hs
  · exact QTri.putfield Ad W h hc hs
  · exact QTri.iaload h hc hs
  · exact QTri.baload h hc hs
  · exact QTri.laload h hc hs
  · exact QTri.iastore Ad h hc hs
  · exact QTri.bastore Ad h hc hs
  · exact QTri.lastore Ad h hc hs
  · exact QTri.alen h hc hs
  · -- newarray
    unfold qnewA at hs
    split at hs
    · split at hs
      · obtain ⟨k, hk, hs⟩ := Option.bind_eq_some_iff.mp hs
        cases hs
        exact QTri.newArr (c := .inr (.inl (.int, List.replicate k 0))) Ad W hk hc (by simp [qsz]) (fun h' a cA A => ⟨_, A, by simp [newA, (qnew_inv hk).2.1]; exact Or.inr rfl⟩) h
      · obtain ⟨k, hk, hs⟩ := Option.bind_eq_some_iff.mp hs
        cases hs
        exact QTri.newArr (c := .inr (.inl (.boolean, List.replicate k 0))) Ad W hk hc (by simp [qsz]) (fun h' a cA A => ⟨_, A, by simp [newA, (qnew_inv hk).2.1]; exact Or.inr rfl⟩) h
      · obtain ⟨k, hk, hs⟩ := Option.bind_eq_some_iff.mp hs
        cases hs
        exact QTri.newArr (c := .inr (.inl (.byte, List.replicate k 0))) Ad W hk hc (by simp [qsz]) (fun h' a cA A => ⟨_, A, by simp [newA, (qnew_inv hk).2.1]; exact Or.inr rfl⟩) h
      · obtain ⟨k, hk, hs⟩ := Option.bind_eq_some_iff.mp hs
        cases hs
        exact QTri.newArr (c := .inr (.inr (List.replicate k 0))) Ad W hk hc (by simp [qsz]) (fun h' a cA A => ⟨_, A, by simp [newA, (qnew_inv hk).2.1]; exact Or.inr rfl⟩) h
      · cases hs
    · cases hs
  · cases hs; exact QTri.newObj Ad W h hc
  · cases hs
theorem QTri.steps (Ad : QAd n0 ad) (W : QW Z a0) : ∀ (n : Nat) {st st' : QSt}, qsteps m n st = some st' → QTri l Z n0 ad m st' v σ' → QTri l Z n0 ad m st v σ'
  | 0, st, st', h, k => by cases h; exact k
  | n + 1, st, st', h, k => by
    simp only [qsteps] at h
    split at h
    · rename_i st₁ h1
      exact QTri.step Ad W (QTri.steps Ad W n h k) h1
    · cases h
/-! ## returns, masks, calls -/
def lmask : List Bool → QLoc → QLoc
  | b :: t, x :: u => (bif b then x else none) :: lmask t u
  | _, L => L.map fun _ => none
theorem lmask_len : ∀ (b : List Bool) (L : QLoc), (lmask b L).length = L.length
  | [], L => by simp [lmask]
  | _ :: _, [] => by simp [lmask]
  | _ :: t, _ :: u => by simp [lmask, lmask_len t u]
theorem lmask_get : ∀ (b : List Bool) (L : QLoc) (k : Nat) (v : Value), lget (lmask b L) k = some v → lget L k = some v
  | [], L, k, v, h => by
    simp only [lmask, lget_eq, List.getElem?_map] at h
    cases hq : L[k]? <;> simp [hq] at h
  | _ :: _, [], k, v, h => by simp [lmask, lget] at h
  | b :: t, x :: u, 0, v, h => by
    simp only [lmask, lget] at h ⊢
    cases b
    · cases h
    · exact h
  | b :: t, x :: u, k + 1, v, h => by
    simp only [lmask, lget] at h ⊢
    exact lmask_get t u k v h
theorem QTri.mask {pc : Nat} {L : QLoc} {S : List Value} {σ : QHeap} (b : List Bool) (h : QTri l Z n0 ad m (pc, lmask b L, S, σ) v σ') : QTri l Z n0 ad m (pc, L, S, σ) v σ' :=
  QTri.frame h fun p e R s mid args below meth c T locs cells slots C hcx X hR hL hC => ⟨C, ⟨by rw [lmask_len]; exact hL.1, fun k u hk => hL.2.1 k u (lmask_get b L k u hk), hL.2.2⟩, hC, fun target k => k⟩
theorem QTri.ret0 {pc aux : Nat} {L : QLoc} {σ : QHeap} (hc : pCode m pc = some (.return_, aux)) (hr : pRet m = none) : QTri l Z n0 ad m (pc, L, [], σ) none σ :=
  have hd : decode (pBytes m) pc = .ok (.return_, 1) := pDecN hc rfl
  ⟨Nat.le_refl _, Nat.le_refl _, fun p e R s mid args below meth c T locs cells slots C hcx X hR hF hL hC hn hc1 hsl => ⟨T, locs, by simpa using X, hR, hF, fun fs hf => X.returnOut hcx.1 (hcx.2.2.2.2.1.trans hr) (hb hcx.2.2.1 hd) hf⟩⟩
theorem QTri.retI {pc aux : Nat} {L : QLoc} {S : List Value} {σ : QHeap} {x : Int32} (hc : pCode m pc = some (.ireturn, aux)) (hr : pRet m = some .int) : QTri l Z n0 ad m (pc, L, .int x :: S, σ) (some (.int x)) σ :=
  have hd : decode (pBytes m) pc = .ok (.ireturn, 1) := pDecN hc rfl
  ⟨Nat.le_refl _, Nat.le_refl _, fun p e R s mid args below meth c T locs cells slots C hcx X hR hF hL hC hn hc1 hsl => ⟨T, locs, by simpa using X, hR, hF, fun fs hf => Jvm.RoadKit.retI X hcx.1 (hcx.2.2.2.2.1.trans hr) (hb hcx.2.2.1 hd) hf⟩⟩
theorem QTri.retZ {pc aux : Nat} {L : QLoc} {S : List Value} {σ : QHeap} {x : Int32} (hc : pCode m pc = some (.ireturn, aux)) (hr : pRet m = some .boolean) : QTri l Z n0 ad m (pc, L, .int x :: S, σ) (some (.int (x &&& 1))) σ :=
  have hd : decode (pBytes m) pc = .ok (.ireturn, 1) := pDecN hc rfl
  ⟨Nat.le_refl _, Nat.le_refl _, fun p e R s mid args below meth c T locs cells slots C hcx X hR hF hL hC hn hc1 hsl => ⟨T, locs, by simpa using X, hR, hF, fun fs hf => retN X hcx.1 (t := .boolean) (hcx.2.2.2.2.1.trans hr) (by simp) (hb hcx.2.2.1 hd) hf⟩⟩
theorem QTri.retJ {pc aux : Nat} {L : QLoc} {S : List Value} {σ : QHeap} {x : Int64} (hc : pCode m pc = some (.lreturn, aux)) (hr : pRet m = some .long) : QTri l Z n0 ad m (pc, L, .long x :: S, σ) (some (.long x)) σ :=
  have hd : decode (pBytes m) pc = .ok (.lreturn, 1) := pDecN hc rfl
  ⟨Nat.le_refl _, Nat.le_refl _, fun p e R s mid args below meth c T locs cells slots C hcx X hR hF hL hC hn hc1 hsl => ⟨T, locs, by simpa using X, hR, hF, fun fs hf => retOut X hcx.1 (t := .long) (hcx.2.2.2.2.1.trans hr) rfl (Or.inr (Or.inl ⟨rfl, rfl, _, rfl⟩)) (hb hcx.2.2.1 hd) hf⟩⟩
def LOk (ad : Nat → Addr) (L : QLoc) (C : List Slot) : Prop :=
  L.length = C.length ∧ (∀ k v, lget L k = some v → C[k]? = some (.val (qv ad v))) ∧ (∀ k w, C[k]? = some (.val w) → w.category = 2 → C[k + 1]? = some .second) ∧ ∀ k, C[k]? = some .second → ∃ j w, k = j + 1 ∧ C[j]? = some (.val w) ∧ w.category = 2
theorem LOk.base (ad : Nat → Addr) (n : Nat) : LOk ad (List.replicate n none) (List.replicate n .unset) := by
  refine ⟨by simp, fun k u h => ?_, fun k w h => ?_, fun k h => ?_⟩
  · rw [lget_eq] at h
    rcases Nat.lt_or_ge k n with q | q
    · simp [List.getElem?_replicate, q] at h
    · simp [List.getElem?_eq_none, q] at h
  · rcases Nat.lt_or_ge k n with q | q
    · simp [List.getElem?_replicate, q] at h
    · simp [List.getElem?_eq_none, q] at h
  · rcases Nat.lt_or_ge k n with q | q
    · simp [List.getElem?_replicate, q] at h
    · simp [List.getElem?_eq_none, q] at h
theorem LOk.one {L : QLoc} {C : List Slot} (H : LOk ad L C) {u : Value} (hu : u.category = 1) : LOk ad (some u :: L) (.val (qv ad u) :: C) := by
  obtain ⟨h1, h2, h3, h4⟩ := H
  refine ⟨by simp [h1], fun k w h => ?_, fun k w h hw => ?_, fun k h => ?_⟩
  · cases k with
    | zero => simp only [lget] at h; cases h; simp
    | succ k => simp only [lget] at h; simpa using h2 k w h
  · cases k with
    | zero => simp at h; rw [← h, qv_cat, hu] at hw; cases hw
    | succ k => simpa using h3 k w (by simpa using h) hw
  · cases k with
    | zero => simp at h
    | succ k =>
      obtain ⟨j, w, z1, z2, z3⟩ := h4 k (by simpa using h)
      exact ⟨j + 1, w, by omega, by simpa using z2, z3⟩
theorem LOk.two {L : QLoc} {C : List Slot} (H : LOk ad L C) {u : Value} (hu : u.category = 2) : LOk ad (some u :: none :: L) (.val (qv ad u) :: .second :: C) := by
  obtain ⟨h1, h2, h3, h4⟩ := H
  refine ⟨by simp [h1], fun k w h => ?_, fun k w h hw => ?_, fun k h => ?_⟩
  · rcases k with _ | _ | k
    · simp only [lget] at h; cases h; simp
    · simp [lget] at h
    · simp only [lget] at h; simpa using h2 k w h
  · rcases k with _ | _ | k
    · simp
    · simp at h
    · simpa using h3 k w (by simpa using h) hw
  · rcases k with _ | _ | k
    · simp at h
    · exact ⟨0, qv ad u, rfl, by simp, by rw [qv_cat]; exact hu⟩
    · obtain ⟨j, w, z1, z2, z3⟩ := h4 k (by simpa using h)
      exact ⟨j + 2, w, by omega, by simpa using z2, z3⟩
def slotsOf (u : Value) : List Slot := if u.category = 2 then [.val u, .second] else [.val u]
theorem fold_slots : ∀ (as : List Value) (acc : Array Slot), (as.foldl (fun acc v => if v.category = 2 then (acc.push (.val v)).push .second else acc.push (.val v)) acc).toList = acc.toList ++ as.flatMap slotsOf
  | [], acc => by simp
  | u :: t, acc => by
    rw [List.foldl_cons, fold_slots t]
    by_cases hc : u.category = 2 <;> simp [slotsOf, hc]
theorem slots_len : ∀ (as : List Value), (as.flatMap slotsOf).length = (as.map fun v => v.category).sum
  | [] => rfl
  | u :: t => by
    rw [List.flatMap_cons, List.length_append, slots_len t, List.map_cons, List.sum_cons]
    cases u <;> simp [slotsOf, Value.category]
theorem cats_qv (as : List Value) : ((as.map (qv ad)).map fun v => v.category).sum = (as.map fun v => v.category).sum := by
  rw [List.map_map]
  congr 1
  exact List.map_congr_left fun x _ => qv_cat ad x
theorem entry_list : ∀ (as : List Value) (n : Nat), LOk ad ((as.flatMap fun v => match v with | .long x => [some (.long x), none] | .double x => [some (.double x), none] | v => [some v]) ++ List.replicate n none) ((as.map (qv ad)).flatMap slotsOf ++ List.replicate n .unset)
  | [], n => by simpa using LOk.base ad n
  | u :: t, n => by
    have ih := entry_list t n
    cases u with
    | long x => exact LOk.two ih rfl
    | double x => exact LOk.two ih rfl
    | int x => exact LOk.one ih rfl
    | float x => exact LOk.one ih rfl
    | null => exact LOk.one ih rfl
    | ref x => exact LOk.one ih rfl
    | retAddr x => exact LOk.one ih rfl
theorem qentry_ok (as : List Value) (mx : Nat) (h : (as.map fun v => v.category).sum ≤ mx) : QLocOk ad (qentry as mx) (argsToLocals (as.map (qv ad)).toArray mx) ∧ (argsToLocals (as.map (qv ad)).toArray mx).size = mx := by
  have e : (argsToLocals (as.map (qv ad)).toArray mx).toList = (as.map (qv ad)).flatMap slotsOf ++ List.replicate (mx - (as.map fun v => v.category).sum) .unset := by
    unfold argsToLocals
    have q := fold_slots (as.map (qv ad)) #[]
    simp only [List.foldl_toArray', Array.toList_append, Array.toList_replicate]
    have q2 : ((as.map (qv ad)).foldl (fun (acc : Array Slot) (v : Value) => if v.category = 2 then (acc.push (.val v)).push .second else acc.push (.val v)) #[]).size = (as.map fun v => v.category).sum := by
      rw [← Array.length_toList, q]
      simp only [List.nil_append]
      rw [slots_len, cats_qv]
    rw [q, q2]
    simp
  have H := entry_list (ad := ad) as (mx - (as.map fun v => v.category).sum)
  rw [← e] at H
  obtain ⟨h1, h2, h3, h4⟩ := H
  have hs : (argsToLocals (as.map (qv ad)).toArray mx).size = mx := by
    rw [← Array.length_toList, e, List.length_append, slots_len, cats_qv, List.length_replicate]
    omega
  refine ⟨⟨h1.trans Array.length_toList, fun k u hk => ?_, fun k w hk hw => ?_, fun k hk => ?_⟩, hs⟩
  · have := h2 k u hk; rwa [Array.getElem?_toList] at this
  · have := h3 k w (by rw [Array.getElem?_toList]; exact hk) hw; rwa [Array.getElem?_toList] at this
  · obtain ⟨j, w, z1, z2, z3⟩ := h4 k (by rw [Array.getElem?_toList]; exact hk)
    exact ⟨j, w, z1, by rwa [Array.getElem?_toList] at z2, z3⟩
set_option maxHeartbeats 4000000 in
theorem QTri.met {k : Nat} {as : List Value} {σ σ₁ : QHeap} {w : Option Value} {h0 : Heap} (hk : k < pN) (h : QTri l Z n0 ad k (0, qentry as (pMaxL k), [], σ) w σ₁) (hR : QRep Z n0 ad h0 σ) (hlen : (as.map fun v => v.category).sum ≤ pMaxL k) (hret : pRet k = none → w = none) (ws : List Jvm.Cond) {rm : Room}
    (r1 : pFr k ≤ rm.frames) (r2 : pLo k ≤ rm.locals) (r3 : σ₁.length - σ.length ≤ rm.cells) (r4 : qhs σ₁ - qhs σ ≤ rm.slots) :
    MetFree l (pName k) (head1 (Jvm.Cond.code (pName k) (pBytes k) (pMaxL k) (pRet k) :: ws) rm) (fun a U => a = (as.map (qv ad)).toArray ∧ Z.Warmed39 U.vm ∧ U.heap = h0) (fun _ _ _ _ _ => True)
      (fun _ U o U' => ∃ v L, o = .returned v ∧ (v = w.map (qv ad) ∧ QRep Z n0 ad U'.heap σ₁ ∧ Fr n0 L) ∧ FrameEnd U o U' L (σ₁.length - σ.length) (qhs σ₁ - qhs σ)) := by
  refine MetFree.of_bodySF (plainFor_of_name (kPlain _ (pKlt k hk))) hisR ?_
  intro p e s mid args below meth c s₁ Bd hml0 hP hK
  obtain ⟨rfl, hZ, hh⟩ := hP
  have e0 : s₁.heap = h0 := by rw [← hh, Bd.state]; rfl
  obtain ⟨hl1, hl2⟩ := qentry_ok (ad := ad) as (pMaxL k) hlen
  have hX : Stand p l e rm s mid (as.map (qv ad)).toArray below meth c s₁ [] 0 0 := Stand.of_body Bd
  obtain ⟨T', locs', X', R', F', S'⟩ := h.2.2 p e rm s mid _ below meth c s₁ [] 0 0 _ ⟨Bd.exec, hZ, Bd.bytes, hml0, Bd.returns, findClass_of_methodNamed Bd.named, (name_of_methodNamed Bd.named Bd.method).1, r1, r2⟩ hX (by rw [e0]; exact hR) (Fr.nil _) hl1 (hl2.trans hml0.symm) (by rw [hh, Nat.add_zero]; exact hR.2.1.symm) (by rw [Nat.zero_add]; exact r3) (by rw [Nat.zero_add]; exact r4)
  obtain ⟨fs, hr, hrun, hended, hW, hsame⟩ := X'.leave (v := w.map (qv ad)) (fun q => by rw [hret (Bd.returns.symm.trans q)]; rfl)
  refine ⟨_, _, S' fs hr, hrun, hended, _, _, rfl, ⟨rfl, R', F'⟩, ⟨_, rfl⟩, hW, ?_⟩
  simp only [Nat.zero_add] at hsame
  exact hsame
theorem QTri.room {k : Nat} {σ σ₁ : QHeap} {rest : List Value} {R : Room} (hroom : (Nat.ble (pFr k + 1) (pFr m) && Nat.ble ((rest.map fun v => v.category).sum + (pMaxL k + 11) + pLo k) (pLo m)) = true) (hfr : pFr m ≤ R.frames) (hlo : pLo m ≤ R.locals) :
    pFr k + 1 ≤ R.frames ∧ (rest.map fun v => v.category).sum + (pMaxL k + 11) + pLo k ≤ R.locals := by
  obtain ⟨q1, q2⟩ := Bool.and_eq_true_iff.mp hroom
  exact ⟨Nat.le_trans (Nat.le_of_ble_eq_true q1) hfr, Nat.le_trans (Nat.le_of_ble_eq_true q2) hlo⟩
theorem sig_len {k : Nat} (hk : k < pN) {as : List Value} (hna : as.length = pNA k) : ∀ sig, parseMethodDescriptor (pName k).desc = some sig → (as.map (qv ad)).length = sig.parameters.length := fun sig hs => by
  have q := pSig k hk
  rw [show parseMethodDescriptor (pDs k) = some sig from hs] at q
  simp at q
  simp [hna, q]
theorem ret_map (w : Option Value) (rest : List Value) : (w.toList ++ rest).map (qv ad) = (w.map (qv ad)).toList ++ rest.map (qv ad) := by cases w <;> simp
theorem QTri.after {as0 : List Value} {pc : Nat} {L : QLoc} {S rest : List Value} {σ σ₁ : QHeap} {w : Option Value} {k : Nat} (hcal : QTri l Z n0 ad k (0, qentry as0 (pMaxL k), [], σ) w σ₁) (h : QTri l Z n0 ad m (pc + 3, L, w.toList ++ rest, σ₁) v σ')
    (hs : ∀ (p : Program) (e : Env) (R : Room) (s : State) (mid : MethodId) (args : Array Value) (below : List Frame) (meth : Method) (c : Code) (T : State) (locs : List Loc) (cells slots : Nat) (C : Array Slot),
      QCx Z p R s mid meth c m → Stand p l e R s mid args below meth c T locs cells slots → QRep Z n0 ad T.heap σ → C.size = c.maxLocals → cells + (σ₁.length - σ.length) ≤ R.cells → slots + (qhs σ₁ - qhs σ) ≤ R.slots →
      ∃ T₁ Lc, Stand p l e R s mid args below meth c T₁ (locs ++ Lc) (cells + (σ₁.length - σ.length)) (slots + (qhs σ₁ - qhs σ)) ∧ QRep Z n0 ad T₁.heap σ₁ ∧ Fr n0 Lc ∧
        ∀ target, Steps p.tables e below (T₁.setTop (mkF mid (pc + 3) C ((w.map (qv ad)).toList ++ rest.map (qv ad)))) target → Steps p.tables e below (T.setTop (mkF mid pc C (S.map (qv ad)))) target) :
    QTri l Z n0 ad m (pc, L, S, σ) v σ' := by
  refine QTri.gen h hcal.1 hcal.2.1 fun p e R s mid args below meth c T locs cells slots C hcx X hR hF hL hC hn hc1 hsl => ?_
  obtain ⟨T₁, Lc, X₁, R₁, F₁, st⟩ := hs p e R s mid args below meth c T locs cells slots C hcx X hR hC hc1 hsl
  refine ⟨T₁, locs ++ Lc, C, X₁, R₁, hF.app F₁, hL, hC, fun target q => st target ?_⟩
  rw [← ret_map]
  exact q
set_option maxHeartbeats 4000000 in
theorem QTri.callV (W : QW Z a0) {pc idx k a : Nat} {L : QLoc} {S as rest vs : List Value} {σ σ₁ : QHeap} {w : Option Value} (hc : pCode m pc = some (.invokevirtual idx, k)) (hm : (lkV.contains (pK m, idx, k) && mV.contains k) = true) (hcell : hget σ a = some (.inl vs)) (hS : S = as.reverse ++ .ref a :: rest)
    (hna : as.length = pNA k) (hlen : Nat.ble (((Value.ref a :: as).map fun v => v.category).sum) (pMaxL k) = true) (hroom : (Nat.ble (pFr k + 1) (pFr m) && Nat.ble ((rest.map fun v => v.category).sum + (pMaxL k + 11) + pLo k) (pLo m)) = true) (hrb : (w.isNone || (pRet k).isSome) = true)
    (hcal : QTri l Z n0 ad k (0, qentry (.ref a :: as) (pMaxL k), [], σ) w σ₁) (h : QTri l Z n0 ad m (pc + 3, L, w.toList ++ rest, σ₁) v σ') : QTri l Z n0 ad m (pc, L, S, σ) v σ' := by
  have hd : decode (pBytes m) pc = .ok (.invokevirtual idx, 3) := pDecN hc rfl
  subst hS
  obtain ⟨m1, m2⟩ := Bool.and_eq_true_iff.mp hm
  have m1 := mem_of_contains m1
  have m2 := mem_of_contains m2
  have hkA := (mVlt k m2).1
  have hkN := mAlt k hkA
  have hret : pRet k = none → w = none := fun q => by
    rw [q] at hrb
    cases w with
    | none => rfl
    | some w => simp at hrb
  refine QTri.after hcal h fun p e R s mid args below meth c T locs cells slots C hcx X hR hC hc1 hsl => ?_
  obtain ⟨hx, hZ, hby, hml, hret', hown, hnm, hfr, hlo⟩ := hcx
  have hd2 : decode c.code pc = .ok (.invokevirtual idx, 3) := by rw [hby]; exact hd
  obtain ⟨f1, f2⟩ := QTri.room (σ := σ) (σ₁ := σ₁) hroom hfr hlo
  obtain ⟨cq, kq, q1, q2, q3⟩ := isOf hZ rfl (hR.2.2 _ _ hcell).1
  obtain ⟨w1, w2, w3⟩ := (qw_vi W) k m2
  obtain ⟨c1, c2⟩ := (qw_cod W) k hkA
  obtain ⟨_, _, ⟨T₁, L₁, k₁, n₁⟩, -, X₁, ⟨Lc, ⟨rfl, hR1, hF1⟩, l₁, y₁, z₁⟩, st⟩ := X.virtualBack hx (own := kName (pK m)) (index := idx) (y := pName k) (z := pName k) hown (mvT hZ (qw_ml W (pK m, idx, k) m1)) (mvT hZ w1) (notFace_of_selects (args := #[]) (mvT hZ w2)) (mvT hZ w2) (mvT hZ w3) (pOwn _ (pKlt k hkN))
    (backOf (W := (rest.map fun v => v.category).sum) (rm := ⟨pFr k, σ₁.length - σ.length, qhs σ₁ - qhs σ, pLo k⟩) (Q := fun v h L => v = Option.map (qv ad) w ∧ QRep Z n0 ad h σ₁ ∧ Fr n0 L) (QTri.met hkN hcal hR (Nat.le_of_ble_eq_true hlen) hret [] (Nat.le_refl _) (Nat.le_refl _) (Nat.le_refl _) (Nat.le_refl _)) hZ c1 c2 f1 f2) q1 q3 (g := mkF mid pc C (List.map (qv ad) (as.reverse ++ .ref a :: rest))) rfl hC (Steps.refl _) (argsL := as.map (qv ad)) (rest := rest.map (qv ad)) (sig_len hkN hna) (by simp [qv]) (by show 2 * 0 + _ ≤ _; rw [cats_qv]; omega) hd2 (fun _ _ => ⟨rfl, rfl, hc1, hsl⟩)
  dsimp only [Pt.U, Pt.locs, Pt.cells, Pt.slots] at X₁ l₁ y₁ z₁ st hR1
  subst l₁ y₁ z₁
  exact ⟨T₁, Lc, X₁, hR1, hF1, fun target q => st.trans q⟩
set_option maxHeartbeats 4000000 in
theorem QTri.callI (W : QW Z a0) {pc idx k a : Nat} {L : QLoc} {S as rest : List Value} {σ σ₁ : QHeap} (hc : pCode m pc = some (.invokespecial idx, k)) (hm : (lkV.contains (pK m, idx, k) && mI.contains k) = true) (hS : S = as.reverse ++ .ref a :: rest)
    (hna : as.length = pNA k) (hlen : Nat.ble (((Value.ref a :: as).map fun v => v.category).sum) (pMaxL k) = true) (hroom : (Nat.ble (pFr k + 1) (pFr m) && Nat.ble ((rest.map fun v => v.category).sum + (pMaxL k + 11) + pLo k) (pLo m)) = true)
    (hcal : QTri l Z n0 ad k (0, qentry (.ref a :: as) (pMaxL k), [], σ) none σ₁) (h : QTri l Z n0 ad m (pc + 3, L, rest, σ₁) v σ') : QTri l Z n0 ad m (pc, L, S, σ) v σ' := by
  have hd : decode (pBytes m) pc = .ok (.invokespecial idx, 3) := pDecN hc rfl
  subst hS
  obtain ⟨m1, m2⟩ := Bool.and_eq_true_iff.mp hm
  have m1 := mem_of_contains m1
  have m2 := mem_of_contains m2
  obtain ⟨hkA, -, hin, hrt⟩ := mIlt k m2
  have hkN := mAlt k hkA
  refine QTri.after (w := none) hcal h fun p e R s mid args below meth c T locs cells slots C hcx X hR hC hc1 hsl => ?_
  obtain ⟨hx, hZ, hby, hml, hret', hown, hnm, hfr, hlo⟩ := hcx
  have hd2 : decode c.code pc = .ok (.invokespecial idx, 3) := by rw [hby]; exact hd
  obtain ⟨f1, f2⟩ := QTri.room (σ := σ) (σ₁ := σ₁) hroom hfr hlo
  obtain ⟨c1, c2⟩ := (qw_cod W) k hkA
  have c1' := c1
  rw [hrt] at c1'
  obtain ⟨_, _, ⟨T₁, L₁, k₁, n₁⟩, -, X₁, ⟨Lc, ⟨rfl, hR1, hF1⟩, l₁, y₁, z₁⟩, st⟩ := X.specialBack hx (own := kName (pK m)) (index := idx) (y := pName k) hin hown (mvT hZ (qw_ml W (pK m, idx, k) m1)) (mvT hZ ((qw_ini W) k m2)) (mvT hZ c1') (pOwn _ (pKlt k hkN))
    (backOf (W := (rest.map fun v => v.category).sum) (rm := ⟨pFr k, σ₁.length - σ.length, qhs σ₁ - qhs σ, pLo k⟩) (Q := fun v h L => v = Option.map (qv ad) none ∧ QRep Z n0 ad h σ₁ ∧ Fr n0 L) (QTri.met hkN hcal hR (Nat.le_of_ble_eq_true hlen) (fun _ => rfl) [] (Nat.le_refl _) (Nat.le_refl _) (Nat.le_refl _) (Nat.le_refl _)) hZ c1 c2 f1 f2) (g := mkF mid pc C (List.map (qv ad) (as.reverse ++ .ref a :: rest))) rfl hC (Steps.refl _) (a := ad a) (argsL := as.map (qv ad)) (rest := rest.map (qv ad)) (sig_len hkN hna) (by simp [qv]) (by show 2 * 0 + _ ≤ _; rw [cats_qv]; omega) hd2 (fun _ _ => ⟨rfl, rfl, hc1, hsl⟩)
  dsimp only [Pt.U, Pt.locs, Pt.cells, Pt.slots] at X₁ l₁ y₁ z₁ st hR1
  subst l₁ y₁ z₁
  exact ⟨T₁, Lc, X₁, hR1, hF1, fun target q => st.trans q⟩
set_option maxHeartbeats 4000000 in
theorem QTri.callP (W : QW Z a0) {pc idx k a : Nat} {L : QLoc} {S as rest vs : List Value} {σ σ₁ : QHeap} {w : Option Value} (hc : pCode m pc = some (.invokevirtual idx, k)) (hm : (lkV.contains (pK m, idx, k) && mP.contains k) = true) (hcell : hget σ a = some (.inl vs)) (hS : S = as.reverse ++ .ref a :: rest)
    (hna : as.length = pNA k) (hlen : Nat.ble (((Value.ref a :: as).map fun v => v.category).sum) (pMaxL k) = true) (hroom : (Nat.ble (pFr k + 1) (pFr m) && Nat.ble ((rest.map fun v => v.category).sum + (pMaxL k + 11) + pLo k) (pLo m)) = true) (hrb : (w.isNone || (pRet k).isSome) = true)
    (hcal : QTri l Z n0 ad k (0, qentry (.ref a :: as) (pMaxL k), [], σ) w σ₁) (h : QTri l Z n0 ad m (pc + 3, L, w.toList ++ rest, σ₁) v σ') : QTri l Z n0 ad m (pc, L, S, σ) v σ' := by
  have hd : decode (pBytes m) pc = .ok (.invokevirtual idx, 3) := pDecN hc rfl
  subst hS
  obtain ⟨m1, m2⟩ := Bool.and_eq_true_iff.mp hm
  have m1 := mem_of_contains m1
  have m2 := mem_of_contains m2
  obtain ⟨hkA, hk1⟩ := mPlt k m2
  have hkN := mAlt k hkA
  have hret : pRet k = none → w = none := fun q => by
    rw [q] at hrb
    cases w with
    | none => rfl
    | some w => simp at hrb
  refine QTri.after hcal h fun p e R s mid args below meth c T locs cells slots C hcx X hR hC hc1 hsl => ?_
  obtain ⟨hx, hZ, hby, hml, hret', hown, hnm, hfr, hlo⟩ := hcx
  have hd2 : decode c.code pc = .ok (.invokevirtual idx, 3) := by rw [hby]; exact hd
  obtain ⟨f1, f2⟩ := QTri.room (σ := σ) (σ₁ := σ₁) hroom hfr hlo
  obtain ⟨cell, h1, h2⟩ := (hR.2.2 _ _ hcell).1.cell
  obtain ⟨w1, w2⟩ := (qw_pr W) k m2
  obtain ⟨c1, c2⟩ := (qw_cod W) k hkA
  have hpr : s.PrivateAt (pName k) := Cond.privateMethod_at (mvP hZ w2 (args := #[]))
  obtain ⟨cC, kC, i1, i2, i3, i4⟩ := Cond.instantiable_spec (args := #[]) (mvT hZ (qw_inst W))
  have hsel : (Cond.selects (pName k).cls (pName k) (pName k)).before args s = true := selects_self_of_private (c := cC) (k := kC) (by show s.vm.findClass (kName (pK k)) = _; rw [hk1]; exact i1) i2 (by have q := i4.1; cases hq : kC.isInterface with | false => rfl | true => rw [hq] at q; simp at q) hpr (mvT hZ w1) (pOwn _ (pKlt k hkN))
  obtain ⟨_, _, ⟨T₁, L₁, k₁, n₁⟩, -, X₁, ⟨Lc, ⟨rfl, hR1, hF1⟩, l₁, y₁, z₁⟩, st⟩ := X.privateBack hx (own := kName (pK m)) (index := idx) (y := pName k) hown (mvT hZ (qw_ml W (pK m, idx, k) m1)) (mvT hZ w1) hsel hpr (mvT hZ c1) (pOwn _ (pKlt k hkN))
    (backOf (W := (rest.map fun v => v.category).sum) (rm := ⟨pFr k, σ₁.length - σ.length, qhs σ₁ - qhs σ, pLo k⟩) (Q := fun v h L => v = Option.map (qv ad) w ∧ QRep Z n0 ad h σ₁ ∧ Fr n0 L) (QTri.met hkN hcal hR (Nat.le_of_ble_eq_true hlen) hret [] (Nat.le_refl _) (Nat.le_refl _) (Nat.le_refl _) (Nat.le_refl _)) hZ c1 c2 f1 f2) (g := mkF mid pc C (List.map (qv ad) (as.reverse ++ .ref a :: rest))) rfl hC (Steps.refl _) (a := ad a) h1 h2 (argsL := as.map (qv ad)) (rest := rest.map (qv ad)) (sig_len hkN hna) (by simp [qv]) (by show 2 * 0 + _ ≤ _; rw [cats_qv]; omega) hd2 (fun _ _ => ⟨rfl, rfl, hc1, hsl⟩)
  dsimp only [Pt.U, Pt.locs, Pt.cells, Pt.slots] at X₁ l₁ y₁ z₁ st hR1
  subst l₁ y₁ z₁
  exact ⟨T₁, Lc, X₁, hR1, hF1, fun target q => st.trans q⟩
set_option maxHeartbeats 4000000 in
theorem QTri.callS (W : QW Z a0) {pc idx k : Nat} {L : QLoc} {S as rest : List Value} {σ σ₁ : QHeap} {w : Option Value} (hc : pCode m pc = some (.invokestatic idx, k)) (hm : (lkV.contains (pK m, idx, k) && mS.contains k) = true) (hS : S = as.reverse ++ rest)
    (hna : as.length = pNA k) (hlen : Nat.ble ((as.map fun v => v.category).sum) (pMaxL k) = true) (hroom : (Nat.ble (pFr k + 1) (pFr m) && Nat.ble ((rest.map fun v => v.category).sum + (pMaxL k + 11) + pLo k) (pLo m)) = true) (hrb : (w.isNone || (pRet k).isSome) = true)
    (hcal : QTri l Z n0 ad k (0, qentry as (pMaxL k), [], σ) w σ₁) (h : QTri l Z n0 ad m (pc + 3, L, w.toList ++ rest, σ₁) v σ') : QTri l Z n0 ad m (pc, L, S, σ) v σ' := by
  have hd : decode (pBytes m) pc = .ok (.invokestatic idx, 3) := pDecN hc rfl
  subst hS
  obtain ⟨m1, m2⟩ := Bool.and_eq_true_iff.mp hm
  have m1 := mem_of_contains m1
  have m2 := mem_of_contains m2
  have hkA := mSlt k m2
  have hkN := mAlt k hkA
  have hret : pRet k = none → w = none := fun q => by
    rw [q] at hrb
    cases w with
    | none => rfl
    | some w => simp at hrb
  refine QTri.after hcal h fun p e R s mid args below meth c T locs cells slots C hcx X hR hC hc1 hsl => ?_
  obtain ⟨hx, hZ, hby, hml, hret', hown, hnm, hfr, hlo⟩ := hcx
  have hd2 : decode c.code pc = .ok (.invokestatic idx, 3) := by rw [hby]; exact hd
  obtain ⟨f1, f2⟩ := QTri.room (σ := σ) (σ₁ := σ₁) hroom hfr hlo
  obtain ⟨c1, c2⟩ := (qw_cod W) k hkA
  obtain ⟨_, _, ⟨T₁, L₁, k₁, n₁⟩, -, X₁, ⟨Lc, ⟨rfl, hR1, hF1⟩, l₁, y₁, z₁⟩, st⟩ := Jvm.LawKit.callS X hx (own := kName (pK m)) (index := idx) (y := pName k) hown (mvT hZ (qw_ml W (pK m, idx, k) m1)) (mvT hZ ((qw_st W) k m2)) (mvT hZ c2) (mvT hZ c1) (pOwn _ (pKlt k hkN))
    (backOf (W := (rest.map fun v => v.category).sum) (rm := ⟨pFr k, σ₁.length - σ.length, qhs σ₁ - qhs σ, pLo k⟩) (Q := fun v h L => v = Option.map (qv ad) w ∧ QRep Z n0 ad h σ₁ ∧ Fr n0 L) (QTri.met hkN hcal hR (Nat.le_of_ble_eq_true hlen) hret [] (Nat.le_refl _) (Nat.le_refl _) (Nat.le_refl _) (Nat.le_refl _)) hZ c1 c2 f1 f2) (g := mkF mid pc C (List.map (qv ad) (as.reverse ++ rest))) rfl hC (argsL := as.map (qv ad)) (rest := rest.map (qv ad)) (sig_len hkN hna) (by simp) (by show 2 * 0 + _ ≤ _; rw [cats_qv]; omega) hd2 (fun _ _ => ⟨rfl, rfl, hc1, hsl⟩)
  dsimp only [Pt.U, Pt.locs, Pt.cells, Pt.slots] at X₁ l₁ y₁ z₁ st hR1
  subst l₁ y₁ z₁
  exact ⟨T₁, Lc, X₁, hR1, hF1, fun target q => st target q⟩
set_option maxHeartbeats 4000000 in
theorem QTri.callO (W : QW Z a0) {pc idx k a : Nat} {L : QLoc} {rest : List Value} {σ : QHeap} (hc : pCode m pc = some (.invokespecial idx, k)) (hm : lkO.contains (pK m, idx) = true) (hroom : (Nat.ble 1 (pFr m) && Nat.ble ((rest.map fun v => v.category).sum + 12) (pLo m)) = true)
    (h : QTri l Z n0 ad m (pc + 3, L, rest, σ) v σ') : QTri l Z n0 ad m (pc, L, .ref a :: rest, σ) v σ' :=
  have hd : decode (pBytes m) pc = .ok (.invokespecial idx, 3) := pDecN hc rfl
  QTri.pure h rfl fun p e R s mid args below meth c T locs cells slots C hcx X hR hL hC => by
    obtain ⟨hx, hZ, hby, hml, hret', hown, hnm, hfr, hlo⟩ := hcx
    have hd2 : decode c.code pc = .ok (.invokespecial idx, 3) := by rw [hby]; exact hd
    obtain ⟨q1, q2⟩ := Bool.and_eq_true_iff.mp hroom
    obtain ⟨T₁, X₁, e₁, st⟩ := initO X hx hZ hown (idx := idx) (qw_mo W (pK m, idx) (mem_of_contains hm)) ((qw_oi W)) ((qw_oc W)) rfl (g := mkF mid pc C (List.map (qv ad) (.ref a :: rest))) rfl hC rfl hd2 (Nat.le_trans (Nat.le_of_ble_eq_true q1) hfr) (W := (rest.map fun v => v.category).sum) (by show 2 * 0 + _ ≤ _; rw [cats_qv]; omega) (Nat.le_trans (Nat.le_of_ble_eq_true q2) hlo)
    exact ⟨T₁, C, X₁, e₁, hL, hC, st⟩
theorem QTri.brT (Ad : QAd n0 ad) (W : QW Z a0) {st : QSt} {t f : Nat} {L : QLoc} {S : List Value} {σ : QHeap} {b : Bool} (hs : qstep m st = some (bif b then t else f, L, S, σ)) (hb : b = true) (h : QTri l Z n0 ad m (t, L, S, σ) v σ') : QTri l Z n0 ad m st v σ' := by
  subst hb; exact QTri.step Ad W h hs
theorem QTri.brF (Ad : QAd n0 ad) (W : QW Z a0) {st : QSt} {t f : Nat} {L : QLoc} {S : List Value} {σ : QHeap} {b : Bool} (hs : qstep m st = some (bif b then t else f, L, S, σ)) (hb : b = false) (h : QTri l Z n0 ad m (f, L, S, σ) v σ') : QTri l Z n0 ad m st v σ' := by
  subst hb; exact QTri.step Ad W h hs
theorem QTri.bnd {α : Type} (Ad : QAd n0 ad) (W : QW Z a0) {st : QSt} {x : Option α} {f : α → QSt} {a : α} (hs : qstep m st = x.bind fun v => some (f v)) (hx : x = some a) (h : QTri l Z n0 ad m (f a) v σ') : QTri l Z n0 ad m st v σ' :=
  QTri.step Ad W h (by rw [hs, hx]; rfl)
theorem QTri.bndB (Ad : QAd n0 ad) (W : QW Z a0) {st : QSt} {x y : Int32} {g : Value → QSt} (hs : qstep m st = ((qboo x).bind fun y => some (Value.int y)).bind fun w => some (g w)) (hx : qboo x = some y) (h : QTri l Z n0 ad m (g (.int y)) v σ') : QTri l Z n0 ad m st v σ' :=
  QTri.step Ad W h (by rw [hs, hx]; rfl)
end Triples
/-! ## plain: branches and loops -/
theorem qite {α : Type} {c : Prop} [Decidable c] {a b : Option α} {r : α} (h : (if c then a else b) = some r) : (c ∧ a = some r) ∨ (¬ c ∧ b = some r) := by
  by_cases hc : c
  · exact Or.inl ⟨hc, by rwa [if_pos hc] at h⟩
  · exact Or.inr ⟨hc, by rwa [if_neg hc] at h⟩
def qN : Nat := 4000
def loopN {V E : Type} (B : V → Option (E ⊕ V)) : Nat → V → Option E
  | 0, _ => none
  | n + 1, v => match B v with
    | none => none
    | some (.inl e) => some e
    | some (.inr v') => loopN B n v'
theorem loopN_tri {V E : Type} {B : V → Option (E ⊕ V)} {T : V → Prop} {KE : E → Prop} (hB : ∀ v r, B v = some r → (∀ e, r = .inl e → KE e) → (∀ v', r = .inr v' → T v') → T v) : ∀ (n : Nat) (v : V) (e : E), loopN B n v = some e → KE e → T v
  | 0, _, _, h, _ => by cases h
  | n + 1, v, e, h, k => by
    simp only [loopN] at h
    split at h
    · cases h
    · rename_i e' he
      cases h
      exact hB v _ he (fun e q => by cases q; exact k) (fun v' q => by cases q)
    · rename_i v' he
      exact hB v _ he (fun e q => by cases q) (fun v'' q => by cases q; exact loopN_tri hB n v' e h k)
/-- a loop: an invariant, a measure -/
theorem loopN_inv {V E : Type} {B : V → Option (E ⊕ V)} (I : V → Prop) (P : E → Prop) (μ : V → Nat) (hB : ∀ v, I v → (∃ e, B v = some (.inl e) ∧ P e) ∨ ∃ v', B v = some (.inr v') ∧ I v' ∧ μ v' < μ v) : ∀ (n : Nat) (v : V), I v → μ v < n → ∃ e, loopN B n v = some e ∧ P e
  | 0, _, _, h => absurd h (Nat.not_lt_zero _)
  | n + 1, v, hv, hm => by
    rcases hB v hv with ⟨e, h1, h2⟩ | ⟨v', h1, h2, h3⟩
    · exact ⟨e, by simp only [loopN, h1], h2⟩
    · obtain ⟨e, g1, g2⟩ := loopN_inv I P μ hB n v' h2 (by omega)
      exact ⟨e, by simp only [loopN, h1]; exact g1, g2⟩
theorem qfn {α : Type} {P : α → Prop} : ∀ t ∈ ([] : List α), P t := fun _ h => nomatch h
theorem qfc {α : Type} {P : α → Prop} {a : α} {t : List α} (h : P a) (ht : ∀ x ∈ t, P x) : ∀ x ∈ a :: t, P x := fun x hx => by rcases List.mem_cons.mp hx with rfl | q; exact h; exact ht x q
theorem QW_ok {Z : State} {a0 : Array Value} (hw : ∀ d ∈ tables_1, d.before a0 Z = true) : QW Z a0 := by
  have w0 : ∀ k ∈ List.range nF, bif fFin k then (Jvm.Cond.laysFinal cName cName (fNm k) (fDs k)).before a0 Z = true else (Jvm.Cond.lays cName cName (fNm k) (fDs k)).before a0 Z = true :=
    show ∀ k ∈ [0, 1, 2, 3, 4, 5, 6, 7, 8, 9, 10, 11, 12, 13, 14, 15, 16, 17, 18, 19, 20, 21, 22, 23, 24, 25, 26, 27, 28, 29, 30, 31, 32, 33, 34], bif fFin k then (Jvm.Cond.laysFinal cName cName (fNm k) (fDs k)).before a0 Z = true else (Jvm.Cond.lays cName cName (fNm k) (fDs k)).before a0 Z = true from
    (qfc (hw _ (List.mem_of_getElem? (i := 11) rfl)) (qfc (hw _ (List.mem_of_getElem? (i := 13) rfl)) (qfc (hw _ (List.mem_of_getElem? (i := 15) rfl)) (qfc (hw _ (List.mem_of_getElem? (i := 17) rfl)) (qfc (hw _ (List.mem_of_getElem? (i := 19) rfl)) (qfc (hw _ (List.mem_of_getElem? (i := 21) rfl)) (qfc (hw _ (List.mem_of_getElem? (i := 23) rfl)) (qfc (hw _ (List.mem_of_getElem? (i := 25) rfl)) (qfc (hw _ (List.mem_of_getElem? (i := 27) rfl)) (qfc (hw _ (List.mem_of_getElem? (i := 29) rfl)) (qfc (hw _ (List.mem_of_getElem? (i := 31) rfl)) (qfc (hw _ (List.mem_of_getElem? (i := 33) rfl)) (qfc (hw _ (List.mem_of_getElem? (i := 35) rfl)) (qfc (hw _ (List.mem_of_getElem? (i := 37) rfl)) (qfc (hw _ (List.mem_of_getElem? (i := 39) rfl)) (qfc (hw _ (List.mem_of_getElem? (i := 41) rfl)) (qfc (hw _ (List.mem_of_getElem? (i := 43) rfl)) (qfc (hw _ (List.mem_of_getElem? (i := 45) rfl)) (qfc (hw _ (List.mem_of_getElem? (i := 47) rfl)) (qfc (hw _ (List.mem_of_getElem? (i := 49) rfl)) (qfc (hw _ (List.mem_of_getElem? (i := 51) rfl)) (qfc (hw _ (List.mem_of_getElem? (i := 53) rfl)) (qfc (hw _ (List.mem_of_getElem? (i := 55) rfl)) (qfc (hw _ (List.mem_of_getElem? (i := 57) rfl)) (qfc (hw _ (List.mem_of_getElem? (i := 59) rfl)) (qfc (hw _ (List.mem_of_getElem? (i := 61) rfl)) (qfc (hw _ (List.mem_of_getElem? (i := 63) rfl)) (qfc (hw _ (List.mem_of_getElem? (i := 65) rfl)) (qfc (hw _ (List.mem_of_getElem? (i := 67) rfl)) (qfc (hw _ (List.mem_of_getElem? (i := 69) rfl)) (qfc (hw _ (List.mem_of_getElem? (i := 71) rfl)) (qfc (hw _ (List.mem_of_getElem? (i := 73) rfl)) (qfc (hw _ (List.mem_of_getElem? (i := 75) rfl)) (qfc (hw _ (List.mem_of_getElem? (i := 77) rfl)) (qfc (hw _ (List.mem_of_getElem? (i := 79) rfl)) qfn)))))))))))))))))))))))))))))))))))
  refine ⟨?_, ?_, ?_, ?_, ?_, ?_, ?_, ?_, ?_, ?_, ?_, ?_, ?_, (fun k hk => w0 k (List.mem_range.mpr hk)), ?_, ?_, ?_⟩
  · exact (qfc (hw _ (List.mem_of_getElem? (i := 10) rfl)) (qfc (hw _ (List.mem_of_getElem? (i := 12) rfl)) (qfc (hw _ (List.mem_of_getElem? (i := 14) rfl)) (qfc (hw _ (List.mem_of_getElem? (i := 16) rfl)) (qfc (hw _ (List.mem_of_getElem? (i := 18) rfl)) (qfc (hw _ (List.mem_of_getElem? (i := 20) rfl)) (qfc (hw _ (List.mem_of_getElem? (i := 22) rfl)) (qfc (hw _ (List.mem_of_getElem? (i := 24) rfl)) (qfc (hw _ (List.mem_of_getElem? (i := 26) rfl)) (qfc (hw _ (List.mem_of_getElem? (i := 28) rfl)) (qfc (hw _ (List.mem_of_getElem? (i := 30) rfl)) (qfc (hw _ (List.mem_of_getElem? (i := 32) rfl)) (qfc (hw _ (List.mem_of_getElem? (i := 34) rfl)) (qfc (hw _ (List.mem_of_getElem? (i := 36) rfl)) (qfc (hw _ (List.mem_of_getElem? (i := 38) rfl)) (qfc (hw _ (List.mem_of_getElem? (i := 40) rfl)) (qfc (hw _ (List.mem_of_getElem? (i := 42) rfl)) (qfc (hw _ (List.mem_of_getElem? (i := 44) rfl)) (qfc (hw _ (List.mem_of_getElem? (i := 46) rfl)) (qfc (hw _ (List.mem_of_getElem? (i := 48) rfl)) (qfc (hw _ (List.mem_of_getElem? (i := 50) rfl)) (qfc (hw _ (List.mem_of_getElem? (i := 52) rfl)) (qfc (hw _ (List.mem_of_getElem? (i := 54) rfl)) (qfc (hw _ (List.mem_of_getElem? (i := 56) rfl)) (qfc (hw _ (List.mem_of_getElem? (i := 58) rfl)) (qfc (hw _ (List.mem_of_getElem? (i := 60) rfl)) (qfc (hw _ (List.mem_of_getElem? (i := 62) rfl)) (qfc (hw _ (List.mem_of_getElem? (i := 64) rfl)) (qfc (hw _ (List.mem_of_getElem? (i := 66) rfl)) (qfc (hw _ (List.mem_of_getElem? (i := 68) rfl)) (qfc (hw _ (List.mem_of_getElem? (i := 70) rfl)) (qfc (hw _ (List.mem_of_getElem? (i := 72) rfl)) (qfc (hw _ (List.mem_of_getElem? (i := 74) rfl)) (qfc (hw _ (List.mem_of_getElem? (i := 76) rfl)) (qfc (hw _ (List.mem_of_getElem? (i := 78) rfl)) qfn)))))))))))))))))))))))))))))))))))
  · exact (qfc (hw _ (List.mem_of_getElem? (i := 0) rfl)) qfn)
  · exact qfn
  · exact qfn
  · exact (qfc (hw _ (List.mem_of_getElem? (i := 3) rfl)) (qfc (hw _ (List.mem_of_getElem? (i := 80) rfl)) (qfc (hw _ (List.mem_of_getElem? (i := 85) rfl)) (qfc (hw _ (List.mem_of_getElem? (i := 89) rfl)) (qfc (hw _ (List.mem_of_getElem? (i := 93) rfl)) (qfc (hw _ (List.mem_of_getElem? (i := 98) rfl)) (qfc (hw _ (List.mem_of_getElem? (i := 102) rfl)) (qfc (hw _ (List.mem_of_getElem? (i := 107) rfl)) (qfc (hw _ (List.mem_of_getElem? (i := 111) rfl)) (qfc (hw _ (List.mem_of_getElem? (i := 115) rfl)) (qfc (hw _ (List.mem_of_getElem? (i := 120) rfl)) (qfc (hw _ (List.mem_of_getElem? (i := 125) rfl)) qfn))))))))))))
  · exact (qfc (hw _ (List.mem_of_getElem? (i := 6) rfl)) qfn)
  · exact (qfc ⟨(hw _ (List.mem_of_getElem? (i := 81) rfl)), (hw _ (List.mem_of_getElem? (i := 83) rfl)), (hw _ (List.mem_of_getElem? (i := 82) rfl))⟩ (qfc ⟨(hw _ (List.mem_of_getElem? (i := 94) rfl)), (hw _ (List.mem_of_getElem? (i := 96) rfl)), (hw _ (List.mem_of_getElem? (i := 95) rfl))⟩ (qfc ⟨(hw _ (List.mem_of_getElem? (i := 103) rfl)), (hw _ (List.mem_of_getElem? (i := 105) rfl)), (hw _ (List.mem_of_getElem? (i := 104) rfl))⟩ (qfc ⟨(hw _ (List.mem_of_getElem? (i := 116) rfl)), (hw _ (List.mem_of_getElem? (i := 118) rfl)), (hw _ (List.mem_of_getElem? (i := 117) rfl))⟩ (qfc ⟨(hw _ (List.mem_of_getElem? (i := 121) rfl)), (hw _ (List.mem_of_getElem? (i := 123) rfl)), (hw _ (List.mem_of_getElem? (i := 122) rfl))⟩ (qfc ⟨(hw _ (List.mem_of_getElem? (i := 126) rfl)), (hw _ (List.mem_of_getElem? (i := 128) rfl)), (hw _ (List.mem_of_getElem? (i := 127) rfl))⟩ qfn))))))
  · exact (qfc ⟨(hw _ (List.mem_of_getElem? (i := 86) rfl)), (hw _ (List.mem_of_getElem? (i := 87) rfl))⟩ (qfc ⟨(hw _ (List.mem_of_getElem? (i := 90) rfl)), (hw _ (List.mem_of_getElem? (i := 91) rfl))⟩ (qfc ⟨(hw _ (List.mem_of_getElem? (i := 99) rfl)), (hw _ (List.mem_of_getElem? (i := 100) rfl))⟩ (qfc ⟨(hw _ (List.mem_of_getElem? (i := 108) rfl)), (hw _ (List.mem_of_getElem? (i := 109) rfl))⟩ (qfc ⟨(hw _ (List.mem_of_getElem? (i := 112) rfl)), (hw _ (List.mem_of_getElem? (i := 113) rfl))⟩ qfn)))))
  · exact qfn
  · exact (qfc (hw _ (List.mem_of_getElem? (i := 4) rfl)) qfn)
  · exact (qfc ⟨(hw _ (List.mem_of_getElem? (i := 5) rfl)), (hw _ (List.mem_of_getElem? (i := 2) rfl))⟩ (qfc ⟨(hw _ (List.mem_of_getElem? (i := 84) rfl)), (hw _ (List.mem_of_getElem? (i := 2) rfl))⟩ (qfc ⟨(hw _ (List.mem_of_getElem? (i := 88) rfl)), (hw _ (List.mem_of_getElem? (i := 2) rfl))⟩ (qfc ⟨(hw _ (List.mem_of_getElem? (i := 92) rfl)), (hw _ (List.mem_of_getElem? (i := 2) rfl))⟩ (qfc ⟨(hw _ (List.mem_of_getElem? (i := 97) rfl)), (hw _ (List.mem_of_getElem? (i := 2) rfl))⟩ (qfc ⟨(hw _ (List.mem_of_getElem? (i := 101) rfl)), (hw _ (List.mem_of_getElem? (i := 2) rfl))⟩ (qfc ⟨(hw _ (List.mem_of_getElem? (i := 106) rfl)), (hw _ (List.mem_of_getElem? (i := 2) rfl))⟩ (qfc ⟨(hw _ (List.mem_of_getElem? (i := 110) rfl)), (hw _ (List.mem_of_getElem? (i := 2) rfl))⟩ (qfc ⟨(hw _ (List.mem_of_getElem? (i := 114) rfl)), (hw _ (List.mem_of_getElem? (i := 2) rfl))⟩ (qfc ⟨(hw _ (List.mem_of_getElem? (i := 119) rfl)), (hw _ (List.mem_of_getElem? (i := 2) rfl))⟩ (qfc ⟨(hw _ (List.mem_of_getElem? (i := 124) rfl)), (hw _ (List.mem_of_getElem? (i := 2) rfl))⟩ (qfc ⟨(hw _ (List.mem_of_getElem? (i := 129) rfl)), (hw _ (List.mem_of_getElem? (i := 2) rfl))⟩ qfn))))))))))))
  · exact (hw _ (List.mem_of_getElem? (i := 7) rfl))
  · exact (hw _ (List.mem_of_getElem? (i := 8) rfl))
  · exact (hw _ (List.mem_of_getElem? (i := 1) rfl))
  · exact (hw _ (List.mem_of_getElem? (i := 2) rfl))
  · exact (qfc (hw _ (List.mem_of_getElem? (i := 9) rfl)) qfn)
abbrev Ob := List Int32 × List Int32 × List Int32 × List Int32 × List Int32 × List Int32 × List Int32 × List Int32 × List Int32 × List Int32 × List Int32 × List Int32 × List Int32 × List Int32 × List Int32 × List Int32 × List Int32 × List Int32 × List Int32 × List Int32 × List Int32 × List Int32 × List Int32 × List Int32 × List Int32 × List Int32 × List Int32 × List Int32 × Int32 × Int32 × Int32 × Int32 × Int32 × Int32 × Int32
def f_bOp (o : Ob) : List Int32 := o.1
def f_bD (o : Ob) : List Int32 := o.2.1
def f_bS (o : Ob) : List Int32 := o.2.2.1
def f_bImm (o : Ob) : List Int32 := o.2.2.2.1
def f_bTerm (o : Ob) : List Int32 := o.2.2.2.2.1
def f_bTest (o : Ob) : List Int32 := o.2.2.2.2.2.1
def f_bT0 (o : Ob) : List Int32 := o.2.2.2.2.2.2.1
def f_bT1 (o : Ob) : List Int32 := o.2.2.2.2.2.2.2.1
def f_cnt0 (o : Ob) : List Int32 := o.2.2.2.2.2.2.2.2.1
def f_cnt1 (o : Ob) : List Int32 := o.2.2.2.2.2.2.2.2.2.1
def f_regs (o : Ob) : List Int32 := o.2.2.2.2.2.2.2.2.2.2.1
def f_outs (o : Ob) : List Int32 := o.2.2.2.2.2.2.2.2.2.2.2.1
def f_edgeId (o : Ob) : List Int32 := o.2.2.2.2.2.2.2.2.2.2.2.2.1
def f_edgeW (o : Ob) : List Int32 := o.2.2.2.2.2.2.2.2.2.2.2.2.2.1
def f_chNext (o : Ob) : List Int32 := o.2.2.2.2.2.2.2.2.2.2.2.2.2.2.1
def f_chPrev (o : Ob) : List Int32 := o.2.2.2.2.2.2.2.2.2.2.2.2.2.2.2.1
def f_chHead (o : Ob) : List Int32 := o.2.2.2.2.2.2.2.2.2.2.2.2.2.2.2.2.1
def f_heat (o : Ob) : List Int32 := o.2.2.2.2.2.2.2.2.2.2.2.2.2.2.2.2.2.1
def f_posOf (o : Ob) : List Int32 := o.2.2.2.2.2.2.2.2.2.2.2.2.2.2.2.2.2.2.1
def f_order (o : Ob) : List Int32 := o.2.2.2.2.2.2.2.2.2.2.2.2.2.2.2.2.2.2.2.1
def f_cOp (o : Ob) : List Int32 := o.2.2.2.2.2.2.2.2.2.2.2.2.2.2.2.2.2.2.2.2.1
def f_cD (o : Ob) : List Int32 := o.2.2.2.2.2.2.2.2.2.2.2.2.2.2.2.2.2.2.2.2.2.1
def f_cS (o : Ob) : List Int32 := o.2.2.2.2.2.2.2.2.2.2.2.2.2.2.2.2.2.2.2.2.2.2.1
def f_cImm (o : Ob) : List Int32 := o.2.2.2.2.2.2.2.2.2.2.2.2.2.2.2.2.2.2.2.2.2.2.2.1
def f_cKind (o : Ob) : List Int32 := o.2.2.2.2.2.2.2.2.2.2.2.2.2.2.2.2.2.2.2.2.2.2.2.2.1
def f_cTest (o : Ob) : List Int32 := o.2.2.2.2.2.2.2.2.2.2.2.2.2.2.2.2.2.2.2.2.2.2.2.2.2.1
def f_cTaken (o : Ob) : List Int32 := o.2.2.2.2.2.2.2.2.2.2.2.2.2.2.2.2.2.2.2.2.2.2.2.2.2.2.1
def f_cOther (o : Ob) : List Int32 := o.2.2.2.2.2.2.2.2.2.2.2.2.2.2.2.2.2.2.2.2.2.2.2.2.2.2.2.1
def f_maxBlocks (o : Ob) : Int32 := o.2.2.2.2.2.2.2.2.2.2.2.2.2.2.2.2.2.2.2.2.2.2.2.2.2.2.2.2.1
def f_maxSteps (o : Ob) : Int32 := o.2.2.2.2.2.2.2.2.2.2.2.2.2.2.2.2.2.2.2.2.2.2.2.2.2.2.2.2.2.1
def f_n (o : Ob) : Int32 := o.2.2.2.2.2.2.2.2.2.2.2.2.2.2.2.2.2.2.2.2.2.2.2.2.2.2.2.2.2.2.1
def f_arranged (o : Ob) : Int32 := o.2.2.2.2.2.2.2.2.2.2.2.2.2.2.2.2.2.2.2.2.2.2.2.2.2.2.2.2.2.2.2.1
def f_outCount (o : Ob) : Int32 := o.2.2.2.2.2.2.2.2.2.2.2.2.2.2.2.2.2.2.2.2.2.2.2.2.2.2.2.2.2.2.2.2.1
def f_steps (o : Ob) : Int32 := o.2.2.2.2.2.2.2.2.2.2.2.2.2.2.2.2.2.2.2.2.2.2.2.2.2.2.2.2.2.2.2.2.2.1
def f_status (o : Ob) : Int32 := o.2.2.2.2.2.2.2.2.2.2.2.2.2.2.2.2.2.2.2.2.2.2.2.2.2.2.2.2.2.2.2.2.2.2
def s_bOp (o : Ob) (v : List Int32) : Ob := (v, o.2.1, o.2.2.1, o.2.2.2.1, o.2.2.2.2.1, o.2.2.2.2.2.1, o.2.2.2.2.2.2.1, o.2.2.2.2.2.2.2.1, o.2.2.2.2.2.2.2.2.1, o.2.2.2.2.2.2.2.2.2.1, o.2.2.2.2.2.2.2.2.2.2.1, o.2.2.2.2.2.2.2.2.2.2.2.1, o.2.2.2.2.2.2.2.2.2.2.2.2.1, o.2.2.2.2.2.2.2.2.2.2.2.2.2.1, o.2.2.2.2.2.2.2.2.2.2.2.2.2.2.1, o.2.2.2.2.2.2.2.2.2.2.2.2.2.2.2.1, o.2.2.2.2.2.2.2.2.2.2.2.2.2.2.2.2.1, o.2.2.2.2.2.2.2.2.2.2.2.2.2.2.2.2.2.1, o.2.2.2.2.2.2.2.2.2.2.2.2.2.2.2.2.2.2.1, o.2.2.2.2.2.2.2.2.2.2.2.2.2.2.2.2.2.2.2.1, o.2.2.2.2.2.2.2.2.2.2.2.2.2.2.2.2.2.2.2.2.1, o.2.2.2.2.2.2.2.2.2.2.2.2.2.2.2.2.2.2.2.2.2.1, o.2.2.2.2.2.2.2.2.2.2.2.2.2.2.2.2.2.2.2.2.2.2.1, o.2.2.2.2.2.2.2.2.2.2.2.2.2.2.2.2.2.2.2.2.2.2.2.1, o.2.2.2.2.2.2.2.2.2.2.2.2.2.2.2.2.2.2.2.2.2.2.2.2.1, o.2.2.2.2.2.2.2.2.2.2.2.2.2.2.2.2.2.2.2.2.2.2.2.2.2.1, o.2.2.2.2.2.2.2.2.2.2.2.2.2.2.2.2.2.2.2.2.2.2.2.2.2.2.1, o.2.2.2.2.2.2.2.2.2.2.2.2.2.2.2.2.2.2.2.2.2.2.2.2.2.2.2.1, o.2.2.2.2.2.2.2.2.2.2.2.2.2.2.2.2.2.2.2.2.2.2.2.2.2.2.2.2.1, o.2.2.2.2.2.2.2.2.2.2.2.2.2.2.2.2.2.2.2.2.2.2.2.2.2.2.2.2.2.1, o.2.2.2.2.2.2.2.2.2.2.2.2.2.2.2.2.2.2.2.2.2.2.2.2.2.2.2.2.2.2.1, o.2.2.2.2.2.2.2.2.2.2.2.2.2.2.2.2.2.2.2.2.2.2.2.2.2.2.2.2.2.2.2.1, o.2.2.2.2.2.2.2.2.2.2.2.2.2.2.2.2.2.2.2.2.2.2.2.2.2.2.2.2.2.2.2.2.1, o.2.2.2.2.2.2.2.2.2.2.2.2.2.2.2.2.2.2.2.2.2.2.2.2.2.2.2.2.2.2.2.2.2.1, o.2.2.2.2.2.2.2.2.2.2.2.2.2.2.2.2.2.2.2.2.2.2.2.2.2.2.2.2.2.2.2.2.2.2)
def s_bD (o : Ob) (v : List Int32) : Ob := (o.1, v, o.2.2.1, o.2.2.2.1, o.2.2.2.2.1, o.2.2.2.2.2.1, o.2.2.2.2.2.2.1, o.2.2.2.2.2.2.2.1, o.2.2.2.2.2.2.2.2.1, o.2.2.2.2.2.2.2.2.2.1, o.2.2.2.2.2.2.2.2.2.2.1, o.2.2.2.2.2.2.2.2.2.2.2.1, o.2.2.2.2.2.2.2.2.2.2.2.2.1, o.2.2.2.2.2.2.2.2.2.2.2.2.2.1, o.2.2.2.2.2.2.2.2.2.2.2.2.2.2.1, o.2.2.2.2.2.2.2.2.2.2.2.2.2.2.2.1, o.2.2.2.2.2.2.2.2.2.2.2.2.2.2.2.2.1, o.2.2.2.2.2.2.2.2.2.2.2.2.2.2.2.2.2.1, o.2.2.2.2.2.2.2.2.2.2.2.2.2.2.2.2.2.2.1, o.2.2.2.2.2.2.2.2.2.2.2.2.2.2.2.2.2.2.2.1, o.2.2.2.2.2.2.2.2.2.2.2.2.2.2.2.2.2.2.2.2.1, o.2.2.2.2.2.2.2.2.2.2.2.2.2.2.2.2.2.2.2.2.2.1, o.2.2.2.2.2.2.2.2.2.2.2.2.2.2.2.2.2.2.2.2.2.2.1, o.2.2.2.2.2.2.2.2.2.2.2.2.2.2.2.2.2.2.2.2.2.2.2.1, o.2.2.2.2.2.2.2.2.2.2.2.2.2.2.2.2.2.2.2.2.2.2.2.2.1, o.2.2.2.2.2.2.2.2.2.2.2.2.2.2.2.2.2.2.2.2.2.2.2.2.2.1, o.2.2.2.2.2.2.2.2.2.2.2.2.2.2.2.2.2.2.2.2.2.2.2.2.2.2.1, o.2.2.2.2.2.2.2.2.2.2.2.2.2.2.2.2.2.2.2.2.2.2.2.2.2.2.2.1, o.2.2.2.2.2.2.2.2.2.2.2.2.2.2.2.2.2.2.2.2.2.2.2.2.2.2.2.2.1, o.2.2.2.2.2.2.2.2.2.2.2.2.2.2.2.2.2.2.2.2.2.2.2.2.2.2.2.2.2.1, o.2.2.2.2.2.2.2.2.2.2.2.2.2.2.2.2.2.2.2.2.2.2.2.2.2.2.2.2.2.2.1, o.2.2.2.2.2.2.2.2.2.2.2.2.2.2.2.2.2.2.2.2.2.2.2.2.2.2.2.2.2.2.2.1, o.2.2.2.2.2.2.2.2.2.2.2.2.2.2.2.2.2.2.2.2.2.2.2.2.2.2.2.2.2.2.2.2.1, o.2.2.2.2.2.2.2.2.2.2.2.2.2.2.2.2.2.2.2.2.2.2.2.2.2.2.2.2.2.2.2.2.2.1, o.2.2.2.2.2.2.2.2.2.2.2.2.2.2.2.2.2.2.2.2.2.2.2.2.2.2.2.2.2.2.2.2.2.2)
def s_bS (o : Ob) (v : List Int32) : Ob := (o.1, o.2.1, v, o.2.2.2.1, o.2.2.2.2.1, o.2.2.2.2.2.1, o.2.2.2.2.2.2.1, o.2.2.2.2.2.2.2.1, o.2.2.2.2.2.2.2.2.1, o.2.2.2.2.2.2.2.2.2.1, o.2.2.2.2.2.2.2.2.2.2.1, o.2.2.2.2.2.2.2.2.2.2.2.1, o.2.2.2.2.2.2.2.2.2.2.2.2.1, o.2.2.2.2.2.2.2.2.2.2.2.2.2.1, o.2.2.2.2.2.2.2.2.2.2.2.2.2.2.1, o.2.2.2.2.2.2.2.2.2.2.2.2.2.2.2.1, o.2.2.2.2.2.2.2.2.2.2.2.2.2.2.2.2.1, o.2.2.2.2.2.2.2.2.2.2.2.2.2.2.2.2.2.1, o.2.2.2.2.2.2.2.2.2.2.2.2.2.2.2.2.2.2.1, o.2.2.2.2.2.2.2.2.2.2.2.2.2.2.2.2.2.2.2.1, o.2.2.2.2.2.2.2.2.2.2.2.2.2.2.2.2.2.2.2.2.1, o.2.2.2.2.2.2.2.2.2.2.2.2.2.2.2.2.2.2.2.2.2.1, o.2.2.2.2.2.2.2.2.2.2.2.2.2.2.2.2.2.2.2.2.2.2.1, o.2.2.2.2.2.2.2.2.2.2.2.2.2.2.2.2.2.2.2.2.2.2.2.1, o.2.2.2.2.2.2.2.2.2.2.2.2.2.2.2.2.2.2.2.2.2.2.2.2.1, o.2.2.2.2.2.2.2.2.2.2.2.2.2.2.2.2.2.2.2.2.2.2.2.2.2.1, o.2.2.2.2.2.2.2.2.2.2.2.2.2.2.2.2.2.2.2.2.2.2.2.2.2.2.1, o.2.2.2.2.2.2.2.2.2.2.2.2.2.2.2.2.2.2.2.2.2.2.2.2.2.2.2.1, o.2.2.2.2.2.2.2.2.2.2.2.2.2.2.2.2.2.2.2.2.2.2.2.2.2.2.2.2.1, o.2.2.2.2.2.2.2.2.2.2.2.2.2.2.2.2.2.2.2.2.2.2.2.2.2.2.2.2.2.1, o.2.2.2.2.2.2.2.2.2.2.2.2.2.2.2.2.2.2.2.2.2.2.2.2.2.2.2.2.2.2.1, o.2.2.2.2.2.2.2.2.2.2.2.2.2.2.2.2.2.2.2.2.2.2.2.2.2.2.2.2.2.2.2.1, o.2.2.2.2.2.2.2.2.2.2.2.2.2.2.2.2.2.2.2.2.2.2.2.2.2.2.2.2.2.2.2.2.1, o.2.2.2.2.2.2.2.2.2.2.2.2.2.2.2.2.2.2.2.2.2.2.2.2.2.2.2.2.2.2.2.2.2.1, o.2.2.2.2.2.2.2.2.2.2.2.2.2.2.2.2.2.2.2.2.2.2.2.2.2.2.2.2.2.2.2.2.2.2)
def s_bImm (o : Ob) (v : List Int32) : Ob := (o.1, o.2.1, o.2.2.1, v, o.2.2.2.2.1, o.2.2.2.2.2.1, o.2.2.2.2.2.2.1, o.2.2.2.2.2.2.2.1, o.2.2.2.2.2.2.2.2.1, o.2.2.2.2.2.2.2.2.2.1, o.2.2.2.2.2.2.2.2.2.2.1, o.2.2.2.2.2.2.2.2.2.2.2.1, o.2.2.2.2.2.2.2.2.2.2.2.2.1, o.2.2.2.2.2.2.2.2.2.2.2.2.2.1, o.2.2.2.2.2.2.2.2.2.2.2.2.2.2.1, o.2.2.2.2.2.2.2.2.2.2.2.2.2.2.2.1, o.2.2.2.2.2.2.2.2.2.2.2.2.2.2.2.2.1, o.2.2.2.2.2.2.2.2.2.2.2.2.2.2.2.2.2.1, o.2.2.2.2.2.2.2.2.2.2.2.2.2.2.2.2.2.2.1, o.2.2.2.2.2.2.2.2.2.2.2.2.2.2.2.2.2.2.2.1, o.2.2.2.2.2.2.2.2.2.2.2.2.2.2.2.2.2.2.2.2.1, o.2.2.2.2.2.2.2.2.2.2.2.2.2.2.2.2.2.2.2.2.2.1, o.2.2.2.2.2.2.2.2.2.2.2.2.2.2.2.2.2.2.2.2.2.2.1, o.2.2.2.2.2.2.2.2.2.2.2.2.2.2.2.2.2.2.2.2.2.2.2.1, o.2.2.2.2.2.2.2.2.2.2.2.2.2.2.2.2.2.2.2.2.2.2.2.2.1, o.2.2.2.2.2.2.2.2.2.2.2.2.2.2.2.2.2.2.2.2.2.2.2.2.2.1, o.2.2.2.2.2.2.2.2.2.2.2.2.2.2.2.2.2.2.2.2.2.2.2.2.2.2.1, o.2.2.2.2.2.2.2.2.2.2.2.2.2.2.2.2.2.2.2.2.2.2.2.2.2.2.2.1, o.2.2.2.2.2.2.2.2.2.2.2.2.2.2.2.2.2.2.2.2.2.2.2.2.2.2.2.2.1, o.2.2.2.2.2.2.2.2.2.2.2.2.2.2.2.2.2.2.2.2.2.2.2.2.2.2.2.2.2.1, o.2.2.2.2.2.2.2.2.2.2.2.2.2.2.2.2.2.2.2.2.2.2.2.2.2.2.2.2.2.2.1, o.2.2.2.2.2.2.2.2.2.2.2.2.2.2.2.2.2.2.2.2.2.2.2.2.2.2.2.2.2.2.2.1, o.2.2.2.2.2.2.2.2.2.2.2.2.2.2.2.2.2.2.2.2.2.2.2.2.2.2.2.2.2.2.2.2.1, o.2.2.2.2.2.2.2.2.2.2.2.2.2.2.2.2.2.2.2.2.2.2.2.2.2.2.2.2.2.2.2.2.2.1, o.2.2.2.2.2.2.2.2.2.2.2.2.2.2.2.2.2.2.2.2.2.2.2.2.2.2.2.2.2.2.2.2.2.2)
def s_bTerm (o : Ob) (v : List Int32) : Ob := (o.1, o.2.1, o.2.2.1, o.2.2.2.1, v, o.2.2.2.2.2.1, o.2.2.2.2.2.2.1, o.2.2.2.2.2.2.2.1, o.2.2.2.2.2.2.2.2.1, o.2.2.2.2.2.2.2.2.2.1, o.2.2.2.2.2.2.2.2.2.2.1, o.2.2.2.2.2.2.2.2.2.2.2.1, o.2.2.2.2.2.2.2.2.2.2.2.2.1, o.2.2.2.2.2.2.2.2.2.2.2.2.2.1, o.2.2.2.2.2.2.2.2.2.2.2.2.2.2.1, o.2.2.2.2.2.2.2.2.2.2.2.2.2.2.2.1, o.2.2.2.2.2.2.2.2.2.2.2.2.2.2.2.2.1, o.2.2.2.2.2.2.2.2.2.2.2.2.2.2.2.2.2.1, o.2.2.2.2.2.2.2.2.2.2.2.2.2.2.2.2.2.2.1, o.2.2.2.2.2.2.2.2.2.2.2.2.2.2.2.2.2.2.2.1, o.2.2.2.2.2.2.2.2.2.2.2.2.2.2.2.2.2.2.2.2.1, o.2.2.2.2.2.2.2.2.2.2.2.2.2.2.2.2.2.2.2.2.2.1, o.2.2.2.2.2.2.2.2.2.2.2.2.2.2.2.2.2.2.2.2.2.2.1, o.2.2.2.2.2.2.2.2.2.2.2.2.2.2.2.2.2.2.2.2.2.2.2.1, o.2.2.2.2.2.2.2.2.2.2.2.2.2.2.2.2.2.2.2.2.2.2.2.2.1, o.2.2.2.2.2.2.2.2.2.2.2.2.2.2.2.2.2.2.2.2.2.2.2.2.2.1, o.2.2.2.2.2.2.2.2.2.2.2.2.2.2.2.2.2.2.2.2.2.2.2.2.2.2.1, o.2.2.2.2.2.2.2.2.2.2.2.2.2.2.2.2.2.2.2.2.2.2.2.2.2.2.2.1, o.2.2.2.2.2.2.2.2.2.2.2.2.2.2.2.2.2.2.2.2.2.2.2.2.2.2.2.2.1, o.2.2.2.2.2.2.2.2.2.2.2.2.2.2.2.2.2.2.2.2.2.2.2.2.2.2.2.2.2.1, o.2.2.2.2.2.2.2.2.2.2.2.2.2.2.2.2.2.2.2.2.2.2.2.2.2.2.2.2.2.2.1, o.2.2.2.2.2.2.2.2.2.2.2.2.2.2.2.2.2.2.2.2.2.2.2.2.2.2.2.2.2.2.2.1, o.2.2.2.2.2.2.2.2.2.2.2.2.2.2.2.2.2.2.2.2.2.2.2.2.2.2.2.2.2.2.2.2.1, o.2.2.2.2.2.2.2.2.2.2.2.2.2.2.2.2.2.2.2.2.2.2.2.2.2.2.2.2.2.2.2.2.2.1, o.2.2.2.2.2.2.2.2.2.2.2.2.2.2.2.2.2.2.2.2.2.2.2.2.2.2.2.2.2.2.2.2.2.2)
def s_bTest (o : Ob) (v : List Int32) : Ob := (o.1, o.2.1, o.2.2.1, o.2.2.2.1, o.2.2.2.2.1, v, o.2.2.2.2.2.2.1, o.2.2.2.2.2.2.2.1, o.2.2.2.2.2.2.2.2.1, o.2.2.2.2.2.2.2.2.2.1, o.2.2.2.2.2.2.2.2.2.2.1, o.2.2.2.2.2.2.2.2.2.2.2.1, o.2.2.2.2.2.2.2.2.2.2.2.2.1, o.2.2.2.2.2.2.2.2.2.2.2.2.2.1, o.2.2.2.2.2.2.2.2.2.2.2.2.2.2.1, o.2.2.2.2.2.2.2.2.2.2.2.2.2.2.2.1, o.2.2.2.2.2.2.2.2.2.2.2.2.2.2.2.2.1, o.2.2.2.2.2.2.2.2.2.2.2.2.2.2.2.2.2.1, o.2.2.2.2.2.2.2.2.2.2.2.2.2.2.2.2.2.2.1, o.2.2.2.2.2.2.2.2.2.2.2.2.2.2.2.2.2.2.2.1, o.2.2.2.2.2.2.2.2.2.2.2.2.2.2.2.2.2.2.2.2.1, o.2.2.2.2.2.2.2.2.2.2.2.2.2.2.2.2.2.2.2.2.2.1, o.2.2.2.2.2.2.2.2.2.2.2.2.2.2.2.2.2.2.2.2.2.2.1, o.2.2.2.2.2.2.2.2.2.2.2.2.2.2.2.2.2.2.2.2.2.2.2.1, o.2.2.2.2.2.2.2.2.2.2.2.2.2.2.2.2.2.2.2.2.2.2.2.2.1, o.2.2.2.2.2.2.2.2.2.2.2.2.2.2.2.2.2.2.2.2.2.2.2.2.2.1, o.2.2.2.2.2.2.2.2.2.2.2.2.2.2.2.2.2.2.2.2.2.2.2.2.2.2.1, o.2.2.2.2.2.2.2.2.2.2.2.2.2.2.2.2.2.2.2.2.2.2.2.2.2.2.2.1, o.2.2.2.2.2.2.2.2.2.2.2.2.2.2.2.2.2.2.2.2.2.2.2.2.2.2.2.2.1, o.2.2.2.2.2.2.2.2.2.2.2.2.2.2.2.2.2.2.2.2.2.2.2.2.2.2.2.2.2.1, o.2.2.2.2.2.2.2.2.2.2.2.2.2.2.2.2.2.2.2.2.2.2.2.2.2.2.2.2.2.2.1, o.2.2.2.2.2.2.2.2.2.2.2.2.2.2.2.2.2.2.2.2.2.2.2.2.2.2.2.2.2.2.2.1, o.2.2.2.2.2.2.2.2.2.2.2.2.2.2.2.2.2.2.2.2.2.2.2.2.2.2.2.2.2.2.2.2.1, o.2.2.2.2.2.2.2.2.2.2.2.2.2.2.2.2.2.2.2.2.2.2.2.2.2.2.2.2.2.2.2.2.2.1, o.2.2.2.2.2.2.2.2.2.2.2.2.2.2.2.2.2.2.2.2.2.2.2.2.2.2.2.2.2.2.2.2.2.2)
def s_bT0 (o : Ob) (v : List Int32) : Ob := (o.1, o.2.1, o.2.2.1, o.2.2.2.1, o.2.2.2.2.1, o.2.2.2.2.2.1, v, o.2.2.2.2.2.2.2.1, o.2.2.2.2.2.2.2.2.1, o.2.2.2.2.2.2.2.2.2.1, o.2.2.2.2.2.2.2.2.2.2.1, o.2.2.2.2.2.2.2.2.2.2.2.1, o.2.2.2.2.2.2.2.2.2.2.2.2.1, o.2.2.2.2.2.2.2.2.2.2.2.2.2.1, o.2.2.2.2.2.2.2.2.2.2.2.2.2.2.1, o.2.2.2.2.2.2.2.2.2.2.2.2.2.2.2.1, o.2.2.2.2.2.2.2.2.2.2.2.2.2.2.2.2.1, o.2.2.2.2.2.2.2.2.2.2.2.2.2.2.2.2.2.1, o.2.2.2.2.2.2.2.2.2.2.2.2.2.2.2.2.2.2.1, o.2.2.2.2.2.2.2.2.2.2.2.2.2.2.2.2.2.2.2.1, o.2.2.2.2.2.2.2.2.2.2.2.2.2.2.2.2.2.2.2.2.1, o.2.2.2.2.2.2.2.2.2.2.2.2.2.2.2.2.2.2.2.2.2.1, o.2.2.2.2.2.2.2.2.2.2.2.2.2.2.2.2.2.2.2.2.2.2.1, o.2.2.2.2.2.2.2.2.2.2.2.2.2.2.2.2.2.2.2.2.2.2.2.1, o.2.2.2.2.2.2.2.2.2.2.2.2.2.2.2.2.2.2.2.2.2.2.2.2.1, o.2.2.2.2.2.2.2.2.2.2.2.2.2.2.2.2.2.2.2.2.2.2.2.2.2.1, o.2.2.2.2.2.2.2.2.2.2.2.2.2.2.2.2.2.2.2.2.2.2.2.2.2.2.1, o.2.2.2.2.2.2.2.2.2.2.2.2.2.2.2.2.2.2.2.2.2.2.2.2.2.2.2.1, o.2.2.2.2.2.2.2.2.2.2.2.2.2.2.2.2.2.2.2.2.2.2.2.2.2.2.2.2.1, o.2.2.2.2.2.2.2.2.2.2.2.2.2.2.2.2.2.2.2.2.2.2.2.2.2.2.2.2.2.1, o.2.2.2.2.2.2.2.2.2.2.2.2.2.2.2.2.2.2.2.2.2.2.2.2.2.2.2.2.2.2.1, o.2.2.2.2.2.2.2.2.2.2.2.2.2.2.2.2.2.2.2.2.2.2.2.2.2.2.2.2.2.2.2.1, o.2.2.2.2.2.2.2.2.2.2.2.2.2.2.2.2.2.2.2.2.2.2.2.2.2.2.2.2.2.2.2.2.1, o.2.2.2.2.2.2.2.2.2.2.2.2.2.2.2.2.2.2.2.2.2.2.2.2.2.2.2.2.2.2.2.2.2.1, o.2.2.2.2.2.2.2.2.2.2.2.2.2.2.2.2.2.2.2.2.2.2.2.2.2.2.2.2.2.2.2.2.2.2)
def s_bT1 (o : Ob) (v : List Int32) : Ob := (o.1, o.2.1, o.2.2.1, o.2.2.2.1, o.2.2.2.2.1, o.2.2.2.2.2.1, o.2.2.2.2.2.2.1, v, o.2.2.2.2.2.2.2.2.1, o.2.2.2.2.2.2.2.2.2.1, o.2.2.2.2.2.2.2.2.2.2.1, o.2.2.2.2.2.2.2.2.2.2.2.1, o.2.2.2.2.2.2.2.2.2.2.2.2.1, o.2.2.2.2.2.2.2.2.2.2.2.2.2.1, o.2.2.2.2.2.2.2.2.2.2.2.2.2.2.1, o.2.2.2.2.2.2.2.2.2.2.2.2.2.2.2.1, o.2.2.2.2.2.2.2.2.2.2.2.2.2.2.2.2.1, o.2.2.2.2.2.2.2.2.2.2.2.2.2.2.2.2.2.1, o.2.2.2.2.2.2.2.2.2.2.2.2.2.2.2.2.2.2.1, o.2.2.2.2.2.2.2.2.2.2.2.2.2.2.2.2.2.2.2.1, o.2.2.2.2.2.2.2.2.2.2.2.2.2.2.2.2.2.2.2.2.1, o.2.2.2.2.2.2.2.2.2.2.2.2.2.2.2.2.2.2.2.2.2.1, o.2.2.2.2.2.2.2.2.2.2.2.2.2.2.2.2.2.2.2.2.2.2.1, o.2.2.2.2.2.2.2.2.2.2.2.2.2.2.2.2.2.2.2.2.2.2.2.1, o.2.2.2.2.2.2.2.2.2.2.2.2.2.2.2.2.2.2.2.2.2.2.2.2.1, o.2.2.2.2.2.2.2.2.2.2.2.2.2.2.2.2.2.2.2.2.2.2.2.2.2.1, o.2.2.2.2.2.2.2.2.2.2.2.2.2.2.2.2.2.2.2.2.2.2.2.2.2.2.1, o.2.2.2.2.2.2.2.2.2.2.2.2.2.2.2.2.2.2.2.2.2.2.2.2.2.2.2.1, o.2.2.2.2.2.2.2.2.2.2.2.2.2.2.2.2.2.2.2.2.2.2.2.2.2.2.2.2.1, o.2.2.2.2.2.2.2.2.2.2.2.2.2.2.2.2.2.2.2.2.2.2.2.2.2.2.2.2.2.1, o.2.2.2.2.2.2.2.2.2.2.2.2.2.2.2.2.2.2.2.2.2.2.2.2.2.2.2.2.2.2.1, o.2.2.2.2.2.2.2.2.2.2.2.2.2.2.2.2.2.2.2.2.2.2.2.2.2.2.2.2.2.2.2.1, o.2.2.2.2.2.2.2.2.2.2.2.2.2.2.2.2.2.2.2.2.2.2.2.2.2.2.2.2.2.2.2.2.1, o.2.2.2.2.2.2.2.2.2.2.2.2.2.2.2.2.2.2.2.2.2.2.2.2.2.2.2.2.2.2.2.2.2.1, o.2.2.2.2.2.2.2.2.2.2.2.2.2.2.2.2.2.2.2.2.2.2.2.2.2.2.2.2.2.2.2.2.2.2)
def s_cnt0 (o : Ob) (v : List Int32) : Ob := (o.1, o.2.1, o.2.2.1, o.2.2.2.1, o.2.2.2.2.1, o.2.2.2.2.2.1, o.2.2.2.2.2.2.1, o.2.2.2.2.2.2.2.1, v, o.2.2.2.2.2.2.2.2.2.1, o.2.2.2.2.2.2.2.2.2.2.1, o.2.2.2.2.2.2.2.2.2.2.2.1, o.2.2.2.2.2.2.2.2.2.2.2.2.1, o.2.2.2.2.2.2.2.2.2.2.2.2.2.1, o.2.2.2.2.2.2.2.2.2.2.2.2.2.2.1, o.2.2.2.2.2.2.2.2.2.2.2.2.2.2.2.1, o.2.2.2.2.2.2.2.2.2.2.2.2.2.2.2.2.1, o.2.2.2.2.2.2.2.2.2.2.2.2.2.2.2.2.2.1, o.2.2.2.2.2.2.2.2.2.2.2.2.2.2.2.2.2.2.1, o.2.2.2.2.2.2.2.2.2.2.2.2.2.2.2.2.2.2.2.1, o.2.2.2.2.2.2.2.2.2.2.2.2.2.2.2.2.2.2.2.2.1, o.2.2.2.2.2.2.2.2.2.2.2.2.2.2.2.2.2.2.2.2.2.1, o.2.2.2.2.2.2.2.2.2.2.2.2.2.2.2.2.2.2.2.2.2.2.1, o.2.2.2.2.2.2.2.2.2.2.2.2.2.2.2.2.2.2.2.2.2.2.2.1, o.2.2.2.2.2.2.2.2.2.2.2.2.2.2.2.2.2.2.2.2.2.2.2.2.1, o.2.2.2.2.2.2.2.2.2.2.2.2.2.2.2.2.2.2.2.2.2.2.2.2.2.1, o.2.2.2.2.2.2.2.2.2.2.2.2.2.2.2.2.2.2.2.2.2.2.2.2.2.2.1, o.2.2.2.2.2.2.2.2.2.2.2.2.2.2.2.2.2.2.2.2.2.2.2.2.2.2.2.1, o.2.2.2.2.2.2.2.2.2.2.2.2.2.2.2.2.2.2.2.2.2.2.2.2.2.2.2.2.1, o.2.2.2.2.2.2.2.2.2.2.2.2.2.2.2.2.2.2.2.2.2.2.2.2.2.2.2.2.2.1, o.2.2.2.2.2.2.2.2.2.2.2.2.2.2.2.2.2.2.2.2.2.2.2.2.2.2.2.2.2.2.1, o.2.2.2.2.2.2.2.2.2.2.2.2.2.2.2.2.2.2.2.2.2.2.2.2.2.2.2.2.2.2.2.1, o.2.2.2.2.2.2.2.2.2.2.2.2.2.2.2.2.2.2.2.2.2.2.2.2.2.2.2.2.2.2.2.2.1, o.2.2.2.2.2.2.2.2.2.2.2.2.2.2.2.2.2.2.2.2.2.2.2.2.2.2.2.2.2.2.2.2.2.1, o.2.2.2.2.2.2.2.2.2.2.2.2.2.2.2.2.2.2.2.2.2.2.2.2.2.2.2.2.2.2.2.2.2.2)
def s_cnt1 (o : Ob) (v : List Int32) : Ob := (o.1, o.2.1, o.2.2.1, o.2.2.2.1, o.2.2.2.2.1, o.2.2.2.2.2.1, o.2.2.2.2.2.2.1, o.2.2.2.2.2.2.2.1, o.2.2.2.2.2.2.2.2.1, v, o.2.2.2.2.2.2.2.2.2.2.1, o.2.2.2.2.2.2.2.2.2.2.2.1, o.2.2.2.2.2.2.2.2.2.2.2.2.1, o.2.2.2.2.2.2.2.2.2.2.2.2.2.1, o.2.2.2.2.2.2.2.2.2.2.2.2.2.2.1, o.2.2.2.2.2.2.2.2.2.2.2.2.2.2.2.1, o.2.2.2.2.2.2.2.2.2.2.2.2.2.2.2.2.1, o.2.2.2.2.2.2.2.2.2.2.2.2.2.2.2.2.2.1, o.2.2.2.2.2.2.2.2.2.2.2.2.2.2.2.2.2.2.1, o.2.2.2.2.2.2.2.2.2.2.2.2.2.2.2.2.2.2.2.1, o.2.2.2.2.2.2.2.2.2.2.2.2.2.2.2.2.2.2.2.2.1, o.2.2.2.2.2.2.2.2.2.2.2.2.2.2.2.2.2.2.2.2.2.1, o.2.2.2.2.2.2.2.2.2.2.2.2.2.2.2.2.2.2.2.2.2.2.1, o.2.2.2.2.2.2.2.2.2.2.2.2.2.2.2.2.2.2.2.2.2.2.2.1, o.2.2.2.2.2.2.2.2.2.2.2.2.2.2.2.2.2.2.2.2.2.2.2.2.1, o.2.2.2.2.2.2.2.2.2.2.2.2.2.2.2.2.2.2.2.2.2.2.2.2.2.1, o.2.2.2.2.2.2.2.2.2.2.2.2.2.2.2.2.2.2.2.2.2.2.2.2.2.2.1, o.2.2.2.2.2.2.2.2.2.2.2.2.2.2.2.2.2.2.2.2.2.2.2.2.2.2.2.1, o.2.2.2.2.2.2.2.2.2.2.2.2.2.2.2.2.2.2.2.2.2.2.2.2.2.2.2.2.1, o.2.2.2.2.2.2.2.2.2.2.2.2.2.2.2.2.2.2.2.2.2.2.2.2.2.2.2.2.2.1, o.2.2.2.2.2.2.2.2.2.2.2.2.2.2.2.2.2.2.2.2.2.2.2.2.2.2.2.2.2.2.1, o.2.2.2.2.2.2.2.2.2.2.2.2.2.2.2.2.2.2.2.2.2.2.2.2.2.2.2.2.2.2.2.1, o.2.2.2.2.2.2.2.2.2.2.2.2.2.2.2.2.2.2.2.2.2.2.2.2.2.2.2.2.2.2.2.2.1, o.2.2.2.2.2.2.2.2.2.2.2.2.2.2.2.2.2.2.2.2.2.2.2.2.2.2.2.2.2.2.2.2.2.1, o.2.2.2.2.2.2.2.2.2.2.2.2.2.2.2.2.2.2.2.2.2.2.2.2.2.2.2.2.2.2.2.2.2.2)
def s_regs (o : Ob) (v : List Int32) : Ob := (o.1, o.2.1, o.2.2.1, o.2.2.2.1, o.2.2.2.2.1, o.2.2.2.2.2.1, o.2.2.2.2.2.2.1, o.2.2.2.2.2.2.2.1, o.2.2.2.2.2.2.2.2.1, o.2.2.2.2.2.2.2.2.2.1, v, o.2.2.2.2.2.2.2.2.2.2.2.1, o.2.2.2.2.2.2.2.2.2.2.2.2.1, o.2.2.2.2.2.2.2.2.2.2.2.2.2.1, o.2.2.2.2.2.2.2.2.2.2.2.2.2.2.1, o.2.2.2.2.2.2.2.2.2.2.2.2.2.2.2.1, o.2.2.2.2.2.2.2.2.2.2.2.2.2.2.2.2.1, o.2.2.2.2.2.2.2.2.2.2.2.2.2.2.2.2.2.1, o.2.2.2.2.2.2.2.2.2.2.2.2.2.2.2.2.2.2.1, o.2.2.2.2.2.2.2.2.2.2.2.2.2.2.2.2.2.2.2.1, o.2.2.2.2.2.2.2.2.2.2.2.2.2.2.2.2.2.2.2.2.1, o.2.2.2.2.2.2.2.2.2.2.2.2.2.2.2.2.2.2.2.2.2.1, o.2.2.2.2.2.2.2.2.2.2.2.2.2.2.2.2.2.2.2.2.2.2.1, o.2.2.2.2.2.2.2.2.2.2.2.2.2.2.2.2.2.2.2.2.2.2.2.1, o.2.2.2.2.2.2.2.2.2.2.2.2.2.2.2.2.2.2.2.2.2.2.2.2.1, o.2.2.2.2.2.2.2.2.2.2.2.2.2.2.2.2.2.2.2.2.2.2.2.2.2.1, o.2.2.2.2.2.2.2.2.2.2.2.2.2.2.2.2.2.2.2.2.2.2.2.2.2.2.1, o.2.2.2.2.2.2.2.2.2.2.2.2.2.2.2.2.2.2.2.2.2.2.2.2.2.2.2.1, o.2.2.2.2.2.2.2.2.2.2.2.2.2.2.2.2.2.2.2.2.2.2.2.2.2.2.2.2.1, o.2.2.2.2.2.2.2.2.2.2.2.2.2.2.2.2.2.2.2.2.2.2.2.2.2.2.2.2.2.1, o.2.2.2.2.2.2.2.2.2.2.2.2.2.2.2.2.2.2.2.2.2.2.2.2.2.2.2.2.2.2.1, o.2.2.2.2.2.2.2.2.2.2.2.2.2.2.2.2.2.2.2.2.2.2.2.2.2.2.2.2.2.2.2.1, o.2.2.2.2.2.2.2.2.2.2.2.2.2.2.2.2.2.2.2.2.2.2.2.2.2.2.2.2.2.2.2.2.1, o.2.2.2.2.2.2.2.2.2.2.2.2.2.2.2.2.2.2.2.2.2.2.2.2.2.2.2.2.2.2.2.2.2.1, o.2.2.2.2.2.2.2.2.2.2.2.2.2.2.2.2.2.2.2.2.2.2.2.2.2.2.2.2.2.2.2.2.2.2)
def s_outs (o : Ob) (v : List Int32) : Ob := (o.1, o.2.1, o.2.2.1, o.2.2.2.1, o.2.2.2.2.1, o.2.2.2.2.2.1, o.2.2.2.2.2.2.1, o.2.2.2.2.2.2.2.1, o.2.2.2.2.2.2.2.2.1, o.2.2.2.2.2.2.2.2.2.1, o.2.2.2.2.2.2.2.2.2.2.1, v, o.2.2.2.2.2.2.2.2.2.2.2.2.1, o.2.2.2.2.2.2.2.2.2.2.2.2.2.1, o.2.2.2.2.2.2.2.2.2.2.2.2.2.2.1, o.2.2.2.2.2.2.2.2.2.2.2.2.2.2.2.1, o.2.2.2.2.2.2.2.2.2.2.2.2.2.2.2.2.1, o.2.2.2.2.2.2.2.2.2.2.2.2.2.2.2.2.2.1, o.2.2.2.2.2.2.2.2.2.2.2.2.2.2.2.2.2.2.1, o.2.2.2.2.2.2.2.2.2.2.2.2.2.2.2.2.2.2.2.1, o.2.2.2.2.2.2.2.2.2.2.2.2.2.2.2.2.2.2.2.2.1, o.2.2.2.2.2.2.2.2.2.2.2.2.2.2.2.2.2.2.2.2.2.1, o.2.2.2.2.2.2.2.2.2.2.2.2.2.2.2.2.2.2.2.2.2.2.1, o.2.2.2.2.2.2.2.2.2.2.2.2.2.2.2.2.2.2.2.2.2.2.2.1, o.2.2.2.2.2.2.2.2.2.2.2.2.2.2.2.2.2.2.2.2.2.2.2.2.1, o.2.2.2.2.2.2.2.2.2.2.2.2.2.2.2.2.2.2.2.2.2.2.2.2.2.1, o.2.2.2.2.2.2.2.2.2.2.2.2.2.2.2.2.2.2.2.2.2.2.2.2.2.2.1, o.2.2.2.2.2.2.2.2.2.2.2.2.2.2.2.2.2.2.2.2.2.2.2.2.2.2.2.1, o.2.2.2.2.2.2.2.2.2.2.2.2.2.2.2.2.2.2.2.2.2.2.2.2.2.2.2.2.1, o.2.2.2.2.2.2.2.2.2.2.2.2.2.2.2.2.2.2.2.2.2.2.2.2.2.2.2.2.2.1, o.2.2.2.2.2.2.2.2.2.2.2.2.2.2.2.2.2.2.2.2.2.2.2.2.2.2.2.2.2.2.1, o.2.2.2.2.2.2.2.2.2.2.2.2.2.2.2.2.2.2.2.2.2.2.2.2.2.2.2.2.2.2.2.1, o.2.2.2.2.2.2.2.2.2.2.2.2.2.2.2.2.2.2.2.2.2.2.2.2.2.2.2.2.2.2.2.2.1, o.2.2.2.2.2.2.2.2.2.2.2.2.2.2.2.2.2.2.2.2.2.2.2.2.2.2.2.2.2.2.2.2.2.1, o.2.2.2.2.2.2.2.2.2.2.2.2.2.2.2.2.2.2.2.2.2.2.2.2.2.2.2.2.2.2.2.2.2.2)
def s_edgeId (o : Ob) (v : List Int32) : Ob := (o.1, o.2.1, o.2.2.1, o.2.2.2.1, o.2.2.2.2.1, o.2.2.2.2.2.1, o.2.2.2.2.2.2.1, o.2.2.2.2.2.2.2.1, o.2.2.2.2.2.2.2.2.1, o.2.2.2.2.2.2.2.2.2.1, o.2.2.2.2.2.2.2.2.2.2.1, o.2.2.2.2.2.2.2.2.2.2.2.1, v, o.2.2.2.2.2.2.2.2.2.2.2.2.2.1, o.2.2.2.2.2.2.2.2.2.2.2.2.2.2.1, o.2.2.2.2.2.2.2.2.2.2.2.2.2.2.2.1, o.2.2.2.2.2.2.2.2.2.2.2.2.2.2.2.2.1, o.2.2.2.2.2.2.2.2.2.2.2.2.2.2.2.2.2.1, o.2.2.2.2.2.2.2.2.2.2.2.2.2.2.2.2.2.2.1, o.2.2.2.2.2.2.2.2.2.2.2.2.2.2.2.2.2.2.2.1, o.2.2.2.2.2.2.2.2.2.2.2.2.2.2.2.2.2.2.2.2.1, o.2.2.2.2.2.2.2.2.2.2.2.2.2.2.2.2.2.2.2.2.2.1, o.2.2.2.2.2.2.2.2.2.2.2.2.2.2.2.2.2.2.2.2.2.2.1, o.2.2.2.2.2.2.2.2.2.2.2.2.2.2.2.2.2.2.2.2.2.2.2.1, o.2.2.2.2.2.2.2.2.2.2.2.2.2.2.2.2.2.2.2.2.2.2.2.2.1, o.2.2.2.2.2.2.2.2.2.2.2.2.2.2.2.2.2.2.2.2.2.2.2.2.2.1, o.2.2.2.2.2.2.2.2.2.2.2.2.2.2.2.2.2.2.2.2.2.2.2.2.2.2.1, o.2.2.2.2.2.2.2.2.2.2.2.2.2.2.2.2.2.2.2.2.2.2.2.2.2.2.2.1, o.2.2.2.2.2.2.2.2.2.2.2.2.2.2.2.2.2.2.2.2.2.2.2.2.2.2.2.2.1, o.2.2.2.2.2.2.2.2.2.2.2.2.2.2.2.2.2.2.2.2.2.2.2.2.2.2.2.2.2.1, o.2.2.2.2.2.2.2.2.2.2.2.2.2.2.2.2.2.2.2.2.2.2.2.2.2.2.2.2.2.2.1, o.2.2.2.2.2.2.2.2.2.2.2.2.2.2.2.2.2.2.2.2.2.2.2.2.2.2.2.2.2.2.2.1, o.2.2.2.2.2.2.2.2.2.2.2.2.2.2.2.2.2.2.2.2.2.2.2.2.2.2.2.2.2.2.2.2.1, o.2.2.2.2.2.2.2.2.2.2.2.2.2.2.2.2.2.2.2.2.2.2.2.2.2.2.2.2.2.2.2.2.2.1, o.2.2.2.2.2.2.2.2.2.2.2.2.2.2.2.2.2.2.2.2.2.2.2.2.2.2.2.2.2.2.2.2.2.2)
def s_edgeW (o : Ob) (v : List Int32) : Ob := (o.1, o.2.1, o.2.2.1, o.2.2.2.1, o.2.2.2.2.1, o.2.2.2.2.2.1, o.2.2.2.2.2.2.1, o.2.2.2.2.2.2.2.1, o.2.2.2.2.2.2.2.2.1, o.2.2.2.2.2.2.2.2.2.1, o.2.2.2.2.2.2.2.2.2.2.1, o.2.2.2.2.2.2.2.2.2.2.2.1, o.2.2.2.2.2.2.2.2.2.2.2.2.1, v, o.2.2.2.2.2.2.2.2.2.2.2.2.2.2.1, o.2.2.2.2.2.2.2.2.2.2.2.2.2.2.2.1, o.2.2.2.2.2.2.2.2.2.2.2.2.2.2.2.2.1, o.2.2.2.2.2.2.2.2.2.2.2.2.2.2.2.2.2.1, o.2.2.2.2.2.2.2.2.2.2.2.2.2.2.2.2.2.2.1, o.2.2.2.2.2.2.2.2.2.2.2.2.2.2.2.2.2.2.2.1, o.2.2.2.2.2.2.2.2.2.2.2.2.2.2.2.2.2.2.2.2.1, o.2.2.2.2.2.2.2.2.2.2.2.2.2.2.2.2.2.2.2.2.2.1, o.2.2.2.2.2.2.2.2.2.2.2.2.2.2.2.2.2.2.2.2.2.2.1, o.2.2.2.2.2.2.2.2.2.2.2.2.2.2.2.2.2.2.2.2.2.2.2.1, o.2.2.2.2.2.2.2.2.2.2.2.2.2.2.2.2.2.2.2.2.2.2.2.2.1, o.2.2.2.2.2.2.2.2.2.2.2.2.2.2.2.2.2.2.2.2.2.2.2.2.2.1, o.2.2.2.2.2.2.2.2.2.2.2.2.2.2.2.2.2.2.2.2.2.2.2.2.2.2.1, o.2.2.2.2.2.2.2.2.2.2.2.2.2.2.2.2.2.2.2.2.2.2.2.2.2.2.2.1, o.2.2.2.2.2.2.2.2.2.2.2.2.2.2.2.2.2.2.2.2.2.2.2.2.2.2.2.2.1, o.2.2.2.2.2.2.2.2.2.2.2.2.2.2.2.2.2.2.2.2.2.2.2.2.2.2.2.2.2.1, o.2.2.2.2.2.2.2.2.2.2.2.2.2.2.2.2.2.2.2.2.2.2.2.2.2.2.2.2.2.2.1, o.2.2.2.2.2.2.2.2.2.2.2.2.2.2.2.2.2.2.2.2.2.2.2.2.2.2.2.2.2.2.2.1, o.2.2.2.2.2.2.2.2.2.2.2.2.2.2.2.2.2.2.2.2.2.2.2.2.2.2.2.2.2.2.2.2.1, o.2.2.2.2.2.2.2.2.2.2.2.2.2.2.2.2.2.2.2.2.2.2.2.2.2.2.2.2.2.2.2.2.2.1, o.2.2.2.2.2.2.2.2.2.2.2.2.2.2.2.2.2.2.2.2.2.2.2.2.2.2.2.2.2.2.2.2.2.2)
def s_chNext (o : Ob) (v : List Int32) : Ob := (o.1, o.2.1, o.2.2.1, o.2.2.2.1, o.2.2.2.2.1, o.2.2.2.2.2.1, o.2.2.2.2.2.2.1, o.2.2.2.2.2.2.2.1, o.2.2.2.2.2.2.2.2.1, o.2.2.2.2.2.2.2.2.2.1, o.2.2.2.2.2.2.2.2.2.2.1, o.2.2.2.2.2.2.2.2.2.2.2.1, o.2.2.2.2.2.2.2.2.2.2.2.2.1, o.2.2.2.2.2.2.2.2.2.2.2.2.2.1, v, o.2.2.2.2.2.2.2.2.2.2.2.2.2.2.2.1, o.2.2.2.2.2.2.2.2.2.2.2.2.2.2.2.2.1, o.2.2.2.2.2.2.2.2.2.2.2.2.2.2.2.2.2.1, o.2.2.2.2.2.2.2.2.2.2.2.2.2.2.2.2.2.2.1, o.2.2.2.2.2.2.2.2.2.2.2.2.2.2.2.2.2.2.2.1, o.2.2.2.2.2.2.2.2.2.2.2.2.2.2.2.2.2.2.2.2.1, o.2.2.2.2.2.2.2.2.2.2.2.2.2.2.2.2.2.2.2.2.2.1, o.2.2.2.2.2.2.2.2.2.2.2.2.2.2.2.2.2.2.2.2.2.2.1, o.2.2.2.2.2.2.2.2.2.2.2.2.2.2.2.2.2.2.2.2.2.2.2.1, o.2.2.2.2.2.2.2.2.2.2.2.2.2.2.2.2.2.2.2.2.2.2.2.2.1, o.2.2.2.2.2.2.2.2.2.2.2.2.2.2.2.2.2.2.2.2.2.2.2.2.2.1, o.2.2.2.2.2.2.2.2.2.2.2.2.2.2.2.2.2.2.2.2.2.2.2.2.2.2.1, o.2.2.2.2.2.2.2.2.2.2.2.2.2.2.2.2.2.2.2.2.2.2.2.2.2.2.2.1, o.2.2.2.2.2.2.2.2.2.2.2.2.2.2.2.2.2.2.2.2.2.2.2.2.2.2.2.2.1, o.2.2.2.2.2.2.2.2.2.2.2.2.2.2.2.2.2.2.2.2.2.2.2.2.2.2.2.2.2.1, o.2.2.2.2.2.2.2.2.2.2.2.2.2.2.2.2.2.2.2.2.2.2.2.2.2.2.2.2.2.2.1, o.2.2.2.2.2.2.2.2.2.2.2.2.2.2.2.2.2.2.2.2.2.2.2.2.2.2.2.2.2.2.2.1, o.2.2.2.2.2.2.2.2.2.2.2.2.2.2.2.2.2.2.2.2.2.2.2.2.2.2.2.2.2.2.2.2.1, o.2.2.2.2.2.2.2.2.2.2.2.2.2.2.2.2.2.2.2.2.2.2.2.2.2.2.2.2.2.2.2.2.2.1, o.2.2.2.2.2.2.2.2.2.2.2.2.2.2.2.2.2.2.2.2.2.2.2.2.2.2.2.2.2.2.2.2.2.2)
def s_chPrev (o : Ob) (v : List Int32) : Ob := (o.1, o.2.1, o.2.2.1, o.2.2.2.1, o.2.2.2.2.1, o.2.2.2.2.2.1, o.2.2.2.2.2.2.1, o.2.2.2.2.2.2.2.1, o.2.2.2.2.2.2.2.2.1, o.2.2.2.2.2.2.2.2.2.1, o.2.2.2.2.2.2.2.2.2.2.1, o.2.2.2.2.2.2.2.2.2.2.2.1, o.2.2.2.2.2.2.2.2.2.2.2.2.1, o.2.2.2.2.2.2.2.2.2.2.2.2.2.1, o.2.2.2.2.2.2.2.2.2.2.2.2.2.2.1, v, o.2.2.2.2.2.2.2.2.2.2.2.2.2.2.2.2.1, o.2.2.2.2.2.2.2.2.2.2.2.2.2.2.2.2.2.1, o.2.2.2.2.2.2.2.2.2.2.2.2.2.2.2.2.2.2.1, o.2.2.2.2.2.2.2.2.2.2.2.2.2.2.2.2.2.2.2.1, o.2.2.2.2.2.2.2.2.2.2.2.2.2.2.2.2.2.2.2.2.1, o.2.2.2.2.2.2.2.2.2.2.2.2.2.2.2.2.2.2.2.2.2.1, o.2.2.2.2.2.2.2.2.2.2.2.2.2.2.2.2.2.2.2.2.2.2.1, o.2.2.2.2.2.2.2.2.2.2.2.2.2.2.2.2.2.2.2.2.2.2.2.1, o.2.2.2.2.2.2.2.2.2.2.2.2.2.2.2.2.2.2.2.2.2.2.2.2.1, o.2.2.2.2.2.2.2.2.2.2.2.2.2.2.2.2.2.2.2.2.2.2.2.2.2.1, o.2.2.2.2.2.2.2.2.2.2.2.2.2.2.2.2.2.2.2.2.2.2.2.2.2.2.1, o.2.2.2.2.2.2.2.2.2.2.2.2.2.2.2.2.2.2.2.2.2.2.2.2.2.2.2.1, o.2.2.2.2.2.2.2.2.2.2.2.2.2.2.2.2.2.2.2.2.2.2.2.2.2.2.2.2.1, o.2.2.2.2.2.2.2.2.2.2.2.2.2.2.2.2.2.2.2.2.2.2.2.2.2.2.2.2.2.1, o.2.2.2.2.2.2.2.2.2.2.2.2.2.2.2.2.2.2.2.2.2.2.2.2.2.2.2.2.2.2.1, o.2.2.2.2.2.2.2.2.2.2.2.2.2.2.2.2.2.2.2.2.2.2.2.2.2.2.2.2.2.2.2.1, o.2.2.2.2.2.2.2.2.2.2.2.2.2.2.2.2.2.2.2.2.2.2.2.2.2.2.2.2.2.2.2.2.1, o.2.2.2.2.2.2.2.2.2.2.2.2.2.2.2.2.2.2.2.2.2.2.2.2.2.2.2.2.2.2.2.2.2.1, o.2.2.2.2.2.2.2.2.2.2.2.2.2.2.2.2.2.2.2.2.2.2.2.2.2.2.2.2.2.2.2.2.2.2)
def s_chHead (o : Ob) (v : List Int32) : Ob := (o.1, o.2.1, o.2.2.1, o.2.2.2.1, o.2.2.2.2.1, o.2.2.2.2.2.1, o.2.2.2.2.2.2.1, o.2.2.2.2.2.2.2.1, o.2.2.2.2.2.2.2.2.1, o.2.2.2.2.2.2.2.2.2.1, o.2.2.2.2.2.2.2.2.2.2.1, o.2.2.2.2.2.2.2.2.2.2.2.1, o.2.2.2.2.2.2.2.2.2.2.2.2.1, o.2.2.2.2.2.2.2.2.2.2.2.2.2.1, o.2.2.2.2.2.2.2.2.2.2.2.2.2.2.1, o.2.2.2.2.2.2.2.2.2.2.2.2.2.2.2.1, v, o.2.2.2.2.2.2.2.2.2.2.2.2.2.2.2.2.2.1, o.2.2.2.2.2.2.2.2.2.2.2.2.2.2.2.2.2.2.1, o.2.2.2.2.2.2.2.2.2.2.2.2.2.2.2.2.2.2.2.1, o.2.2.2.2.2.2.2.2.2.2.2.2.2.2.2.2.2.2.2.2.1, o.2.2.2.2.2.2.2.2.2.2.2.2.2.2.2.2.2.2.2.2.2.1, o.2.2.2.2.2.2.2.2.2.2.2.2.2.2.2.2.2.2.2.2.2.2.1, o.2.2.2.2.2.2.2.2.2.2.2.2.2.2.2.2.2.2.2.2.2.2.2.1, o.2.2.2.2.2.2.2.2.2.2.2.2.2.2.2.2.2.2.2.2.2.2.2.2.1, o.2.2.2.2.2.2.2.2.2.2.2.2.2.2.2.2.2.2.2.2.2.2.2.2.2.1, o.2.2.2.2.2.2.2.2.2.2.2.2.2.2.2.2.2.2.2.2.2.2.2.2.2.2.1, o.2.2.2.2.2.2.2.2.2.2.2.2.2.2.2.2.2.2.2.2.2.2.2.2.2.2.2.1, o.2.2.2.2.2.2.2.2.2.2.2.2.2.2.2.2.2.2.2.2.2.2.2.2.2.2.2.2.1, o.2.2.2.2.2.2.2.2.2.2.2.2.2.2.2.2.2.2.2.2.2.2.2.2.2.2.2.2.2.1, o.2.2.2.2.2.2.2.2.2.2.2.2.2.2.2.2.2.2.2.2.2.2.2.2.2.2.2.2.2.2.1, o.2.2.2.2.2.2.2.2.2.2.2.2.2.2.2.2.2.2.2.2.2.2.2.2.2.2.2.2.2.2.2.1, o.2.2.2.2.2.2.2.2.2.2.2.2.2.2.2.2.2.2.2.2.2.2.2.2.2.2.2.2.2.2.2.2.1, o.2.2.2.2.2.2.2.2.2.2.2.2.2.2.2.2.2.2.2.2.2.2.2.2.2.2.2.2.2.2.2.2.2.1, o.2.2.2.2.2.2.2.2.2.2.2.2.2.2.2.2.2.2.2.2.2.2.2.2.2.2.2.2.2.2.2.2.2.2)
def s_heat (o : Ob) (v : List Int32) : Ob := (o.1, o.2.1, o.2.2.1, o.2.2.2.1, o.2.2.2.2.1, o.2.2.2.2.2.1, o.2.2.2.2.2.2.1, o.2.2.2.2.2.2.2.1, o.2.2.2.2.2.2.2.2.1, o.2.2.2.2.2.2.2.2.2.1, o.2.2.2.2.2.2.2.2.2.2.1, o.2.2.2.2.2.2.2.2.2.2.2.1, o.2.2.2.2.2.2.2.2.2.2.2.2.1, o.2.2.2.2.2.2.2.2.2.2.2.2.2.1, o.2.2.2.2.2.2.2.2.2.2.2.2.2.2.1, o.2.2.2.2.2.2.2.2.2.2.2.2.2.2.2.1, o.2.2.2.2.2.2.2.2.2.2.2.2.2.2.2.2.1, v, o.2.2.2.2.2.2.2.2.2.2.2.2.2.2.2.2.2.2.1, o.2.2.2.2.2.2.2.2.2.2.2.2.2.2.2.2.2.2.2.1, o.2.2.2.2.2.2.2.2.2.2.2.2.2.2.2.2.2.2.2.2.1, o.2.2.2.2.2.2.2.2.2.2.2.2.2.2.2.2.2.2.2.2.2.1, o.2.2.2.2.2.2.2.2.2.2.2.2.2.2.2.2.2.2.2.2.2.2.1, o.2.2.2.2.2.2.2.2.2.2.2.2.2.2.2.2.2.2.2.2.2.2.2.1, o.2.2.2.2.2.2.2.2.2.2.2.2.2.2.2.2.2.2.2.2.2.2.2.2.1, o.2.2.2.2.2.2.2.2.2.2.2.2.2.2.2.2.2.2.2.2.2.2.2.2.2.1, o.2.2.2.2.2.2.2.2.2.2.2.2.2.2.2.2.2.2.2.2.2.2.2.2.2.2.1, o.2.2.2.2.2.2.2.2.2.2.2.2.2.2.2.2.2.2.2.2.2.2.2.2.2.2.2.1, o.2.2.2.2.2.2.2.2.2.2.2.2.2.2.2.2.2.2.2.2.2.2.2.2.2.2.2.2.1, o.2.2.2.2.2.2.2.2.2.2.2.2.2.2.2.2.2.2.2.2.2.2.2.2.2.2.2.2.2.1, o.2.2.2.2.2.2.2.2.2.2.2.2.2.2.2.2.2.2.2.2.2.2.2.2.2.2.2.2.2.2.1, o.2.2.2.2.2.2.2.2.2.2.2.2.2.2.2.2.2.2.2.2.2.2.2.2.2.2.2.2.2.2.2.1, o.2.2.2.2.2.2.2.2.2.2.2.2.2.2.2.2.2.2.2.2.2.2.2.2.2.2.2.2.2.2.2.2.1, o.2.2.2.2.2.2.2.2.2.2.2.2.2.2.2.2.2.2.2.2.2.2.2.2.2.2.2.2.2.2.2.2.2.1, o.2.2.2.2.2.2.2.2.2.2.2.2.2.2.2.2.2.2.2.2.2.2.2.2.2.2.2.2.2.2.2.2.2.2)
def s_posOf (o : Ob) (v : List Int32) : Ob := (o.1, o.2.1, o.2.2.1, o.2.2.2.1, o.2.2.2.2.1, o.2.2.2.2.2.1, o.2.2.2.2.2.2.1, o.2.2.2.2.2.2.2.1, o.2.2.2.2.2.2.2.2.1, o.2.2.2.2.2.2.2.2.2.1, o.2.2.2.2.2.2.2.2.2.2.1, o.2.2.2.2.2.2.2.2.2.2.2.1, o.2.2.2.2.2.2.2.2.2.2.2.2.1, o.2.2.2.2.2.2.2.2.2.2.2.2.2.1, o.2.2.2.2.2.2.2.2.2.2.2.2.2.2.1, o.2.2.2.2.2.2.2.2.2.2.2.2.2.2.2.1, o.2.2.2.2.2.2.2.2.2.2.2.2.2.2.2.2.1, o.2.2.2.2.2.2.2.2.2.2.2.2.2.2.2.2.2.1, v, o.2.2.2.2.2.2.2.2.2.2.2.2.2.2.2.2.2.2.2.1, o.2.2.2.2.2.2.2.2.2.2.2.2.2.2.2.2.2.2.2.2.1, o.2.2.2.2.2.2.2.2.2.2.2.2.2.2.2.2.2.2.2.2.2.1, o.2.2.2.2.2.2.2.2.2.2.2.2.2.2.2.2.2.2.2.2.2.2.1, o.2.2.2.2.2.2.2.2.2.2.2.2.2.2.2.2.2.2.2.2.2.2.2.1, o.2.2.2.2.2.2.2.2.2.2.2.2.2.2.2.2.2.2.2.2.2.2.2.2.1, o.2.2.2.2.2.2.2.2.2.2.2.2.2.2.2.2.2.2.2.2.2.2.2.2.2.1, o.2.2.2.2.2.2.2.2.2.2.2.2.2.2.2.2.2.2.2.2.2.2.2.2.2.2.1, o.2.2.2.2.2.2.2.2.2.2.2.2.2.2.2.2.2.2.2.2.2.2.2.2.2.2.2.1, o.2.2.2.2.2.2.2.2.2.2.2.2.2.2.2.2.2.2.2.2.2.2.2.2.2.2.2.2.1, o.2.2.2.2.2.2.2.2.2.2.2.2.2.2.2.2.2.2.2.2.2.2.2.2.2.2.2.2.2.1, o.2.2.2.2.2.2.2.2.2.2.2.2.2.2.2.2.2.2.2.2.2.2.2.2.2.2.2.2.2.2.1, o.2.2.2.2.2.2.2.2.2.2.2.2.2.2.2.2.2.2.2.2.2.2.2.2.2.2.2.2.2.2.2.1, o.2.2.2.2.2.2.2.2.2.2.2.2.2.2.2.2.2.2.2.2.2.2.2.2.2.2.2.2.2.2.2.2.1, o.2.2.2.2.2.2.2.2.2.2.2.2.2.2.2.2.2.2.2.2.2.2.2.2.2.2.2.2.2.2.2.2.2.1, o.2.2.2.2.2.2.2.2.2.2.2.2.2.2.2.2.2.2.2.2.2.2.2.2.2.2.2.2.2.2.2.2.2.2)
def s_order (o : Ob) (v : List Int32) : Ob := (o.1, o.2.1, o.2.2.1, o.2.2.2.1, o.2.2.2.2.1, o.2.2.2.2.2.1, o.2.2.2.2.2.2.1, o.2.2.2.2.2.2.2.1, o.2.2.2.2.2.2.2.2.1, o.2.2.2.2.2.2.2.2.2.1, o.2.2.2.2.2.2.2.2.2.2.1, o.2.2.2.2.2.2.2.2.2.2.2.1, o.2.2.2.2.2.2.2.2.2.2.2.2.1, o.2.2.2.2.2.2.2.2.2.2.2.2.2.1, o.2.2.2.2.2.2.2.2.2.2.2.2.2.2.1, o.2.2.2.2.2.2.2.2.2.2.2.2.2.2.2.1, o.2.2.2.2.2.2.2.2.2.2.2.2.2.2.2.2.1, o.2.2.2.2.2.2.2.2.2.2.2.2.2.2.2.2.2.1, o.2.2.2.2.2.2.2.2.2.2.2.2.2.2.2.2.2.2.1, v, o.2.2.2.2.2.2.2.2.2.2.2.2.2.2.2.2.2.2.2.2.1, o.2.2.2.2.2.2.2.2.2.2.2.2.2.2.2.2.2.2.2.2.2.1, o.2.2.2.2.2.2.2.2.2.2.2.2.2.2.2.2.2.2.2.2.2.2.1, o.2.2.2.2.2.2.2.2.2.2.2.2.2.2.2.2.2.2.2.2.2.2.2.1, o.2.2.2.2.2.2.2.2.2.2.2.2.2.2.2.2.2.2.2.2.2.2.2.2.1, o.2.2.2.2.2.2.2.2.2.2.2.2.2.2.2.2.2.2.2.2.2.2.2.2.2.1, o.2.2.2.2.2.2.2.2.2.2.2.2.2.2.2.2.2.2.2.2.2.2.2.2.2.2.1, o.2.2.2.2.2.2.2.2.2.2.2.2.2.2.2.2.2.2.2.2.2.2.2.2.2.2.2.1, o.2.2.2.2.2.2.2.2.2.2.2.2.2.2.2.2.2.2.2.2.2.2.2.2.2.2.2.2.1, o.2.2.2.2.2.2.2.2.2.2.2.2.2.2.2.2.2.2.2.2.2.2.2.2.2.2.2.2.2.1, o.2.2.2.2.2.2.2.2.2.2.2.2.2.2.2.2.2.2.2.2.2.2.2.2.2.2.2.2.2.2.1, o.2.2.2.2.2.2.2.2.2.2.2.2.2.2.2.2.2.2.2.2.2.2.2.2.2.2.2.2.2.2.2.1, o.2.2.2.2.2.2.2.2.2.2.2.2.2.2.2.2.2.2.2.2.2.2.2.2.2.2.2.2.2.2.2.2.1, o.2.2.2.2.2.2.2.2.2.2.2.2.2.2.2.2.2.2.2.2.2.2.2.2.2.2.2.2.2.2.2.2.2.1, o.2.2.2.2.2.2.2.2.2.2.2.2.2.2.2.2.2.2.2.2.2.2.2.2.2.2.2.2.2.2.2.2.2.2)
def s_cOp (o : Ob) (v : List Int32) : Ob := (o.1, o.2.1, o.2.2.1, o.2.2.2.1, o.2.2.2.2.1, o.2.2.2.2.2.1, o.2.2.2.2.2.2.1, o.2.2.2.2.2.2.2.1, o.2.2.2.2.2.2.2.2.1, o.2.2.2.2.2.2.2.2.2.1, o.2.2.2.2.2.2.2.2.2.2.1, o.2.2.2.2.2.2.2.2.2.2.2.1, o.2.2.2.2.2.2.2.2.2.2.2.2.1, o.2.2.2.2.2.2.2.2.2.2.2.2.2.1, o.2.2.2.2.2.2.2.2.2.2.2.2.2.2.1, o.2.2.2.2.2.2.2.2.2.2.2.2.2.2.2.1, o.2.2.2.2.2.2.2.2.2.2.2.2.2.2.2.2.1, o.2.2.2.2.2.2.2.2.2.2.2.2.2.2.2.2.2.1, o.2.2.2.2.2.2.2.2.2.2.2.2.2.2.2.2.2.2.1, o.2.2.2.2.2.2.2.2.2.2.2.2.2.2.2.2.2.2.2.1, v, o.2.2.2.2.2.2.2.2.2.2.2.2.2.2.2.2.2.2.2.2.2.1, o.2.2.2.2.2.2.2.2.2.2.2.2.2.2.2.2.2.2.2.2.2.2.1, o.2.2.2.2.2.2.2.2.2.2.2.2.2.2.2.2.2.2.2.2.2.2.2.1, o.2.2.2.2.2.2.2.2.2.2.2.2.2.2.2.2.2.2.2.2.2.2.2.2.1, o.2.2.2.2.2.2.2.2.2.2.2.2.2.2.2.2.2.2.2.2.2.2.2.2.2.1, o.2.2.2.2.2.2.2.2.2.2.2.2.2.2.2.2.2.2.2.2.2.2.2.2.2.2.1, o.2.2.2.2.2.2.2.2.2.2.2.2.2.2.2.2.2.2.2.2.2.2.2.2.2.2.2.1, o.2.2.2.2.2.2.2.2.2.2.2.2.2.2.2.2.2.2.2.2.2.2.2.2.2.2.2.2.1, o.2.2.2.2.2.2.2.2.2.2.2.2.2.2.2.2.2.2.2.2.2.2.2.2.2.2.2.2.2.1, o.2.2.2.2.2.2.2.2.2.2.2.2.2.2.2.2.2.2.2.2.2.2.2.2.2.2.2.2.2.2.1, o.2.2.2.2.2.2.2.2.2.2.2.2.2.2.2.2.2.2.2.2.2.2.2.2.2.2.2.2.2.2.2.1, o.2.2.2.2.2.2.2.2.2.2.2.2.2.2.2.2.2.2.2.2.2.2.2.2.2.2.2.2.2.2.2.2.1, o.2.2.2.2.2.2.2.2.2.2.2.2.2.2.2.2.2.2.2.2.2.2.2.2.2.2.2.2.2.2.2.2.2.1, o.2.2.2.2.2.2.2.2.2.2.2.2.2.2.2.2.2.2.2.2.2.2.2.2.2.2.2.2.2.2.2.2.2.2)
def s_cD (o : Ob) (v : List Int32) : Ob := (o.1, o.2.1, o.2.2.1, o.2.2.2.1, o.2.2.2.2.1, o.2.2.2.2.2.1, o.2.2.2.2.2.2.1, o.2.2.2.2.2.2.2.1, o.2.2.2.2.2.2.2.2.1, o.2.2.2.2.2.2.2.2.2.1, o.2.2.2.2.2.2.2.2.2.2.1, o.2.2.2.2.2.2.2.2.2.2.2.1, o.2.2.2.2.2.2.2.2.2.2.2.2.1, o.2.2.2.2.2.2.2.2.2.2.2.2.2.1, o.2.2.2.2.2.2.2.2.2.2.2.2.2.2.1, o.2.2.2.2.2.2.2.2.2.2.2.2.2.2.2.1, o.2.2.2.2.2.2.2.2.2.2.2.2.2.2.2.2.1, o.2.2.2.2.2.2.2.2.2.2.2.2.2.2.2.2.2.1, o.2.2.2.2.2.2.2.2.2.2.2.2.2.2.2.2.2.2.1, o.2.2.2.2.2.2.2.2.2.2.2.2.2.2.2.2.2.2.2.1, o.2.2.2.2.2.2.2.2.2.2.2.2.2.2.2.2.2.2.2.2.1, v, o.2.2.2.2.2.2.2.2.2.2.2.2.2.2.2.2.2.2.2.2.2.2.1, o.2.2.2.2.2.2.2.2.2.2.2.2.2.2.2.2.2.2.2.2.2.2.2.1, o.2.2.2.2.2.2.2.2.2.2.2.2.2.2.2.2.2.2.2.2.2.2.2.2.1, o.2.2.2.2.2.2.2.2.2.2.2.2.2.2.2.2.2.2.2.2.2.2.2.2.2.1, o.2.2.2.2.2.2.2.2.2.2.2.2.2.2.2.2.2.2.2.2.2.2.2.2.2.2.1, o.2.2.2.2.2.2.2.2.2.2.2.2.2.2.2.2.2.2.2.2.2.2.2.2.2.2.2.1, o.2.2.2.2.2.2.2.2.2.2.2.2.2.2.2.2.2.2.2.2.2.2.2.2.2.2.2.2.1, o.2.2.2.2.2.2.2.2.2.2.2.2.2.2.2.2.2.2.2.2.2.2.2.2.2.2.2.2.2.1, o.2.2.2.2.2.2.2.2.2.2.2.2.2.2.2.2.2.2.2.2.2.2.2.2.2.2.2.2.2.2.1, o.2.2.2.2.2.2.2.2.2.2.2.2.2.2.2.2.2.2.2.2.2.2.2.2.2.2.2.2.2.2.2.1, o.2.2.2.2.2.2.2.2.2.2.2.2.2.2.2.2.2.2.2.2.2.2.2.2.2.2.2.2.2.2.2.2.1, o.2.2.2.2.2.2.2.2.2.2.2.2.2.2.2.2.2.2.2.2.2.2.2.2.2.2.2.2.2.2.2.2.2.1, o.2.2.2.2.2.2.2.2.2.2.2.2.2.2.2.2.2.2.2.2.2.2.2.2.2.2.2.2.2.2.2.2.2.2)
def s_cS (o : Ob) (v : List Int32) : Ob := (o.1, o.2.1, o.2.2.1, o.2.2.2.1, o.2.2.2.2.1, o.2.2.2.2.2.1, o.2.2.2.2.2.2.1, o.2.2.2.2.2.2.2.1, o.2.2.2.2.2.2.2.2.1, o.2.2.2.2.2.2.2.2.2.1, o.2.2.2.2.2.2.2.2.2.2.1, o.2.2.2.2.2.2.2.2.2.2.2.1, o.2.2.2.2.2.2.2.2.2.2.2.2.1, o.2.2.2.2.2.2.2.2.2.2.2.2.2.1, o.2.2.2.2.2.2.2.2.2.2.2.2.2.2.1, o.2.2.2.2.2.2.2.2.2.2.2.2.2.2.2.1, o.2.2.2.2.2.2.2.2.2.2.2.2.2.2.2.2.1, o.2.2.2.2.2.2.2.2.2.2.2.2.2.2.2.2.2.1, o.2.2.2.2.2.2.2.2.2.2.2.2.2.2.2.2.2.2.1, o.2.2.2.2.2.2.2.2.2.2.2.2.2.2.2.2.2.2.2.1, o.2.2.2.2.2.2.2.2.2.2.2.2.2.2.2.2.2.2.2.2.1, o.2.2.2.2.2.2.2.2.2.2.2.2.2.2.2.2.2.2.2.2.2.1, v, o.2.2.2.2.2.2.2.2.2.2.2.2.2.2.2.2.2.2.2.2.2.2.2.1, o.2.2.2.2.2.2.2.2.2.2.2.2.2.2.2.2.2.2.2.2.2.2.2.2.1, o.2.2.2.2.2.2.2.2.2.2.2.2.2.2.2.2.2.2.2.2.2.2.2.2.2.1, o.2.2.2.2.2.2.2.2.2.2.2.2.2.2.2.2.2.2.2.2.2.2.2.2.2.2.1, o.2.2.2.2.2.2.2.2.2.2.2.2.2.2.2.2.2.2.2.2.2.2.2.2.2.2.2.1, o.2.2.2.2.2.2.2.2.2.2.2.2.2.2.2.2.2.2.2.2.2.2.2.2.2.2.2.2.1, o.2.2.2.2.2.2.2.2.2.2.2.2.2.2.2.2.2.2.2.2.2.2.2.2.2.2.2.2.2.1, o.2.2.2.2.2.2.2.2.2.2.2.2.2.2.2.2.2.2.2.2.2.2.2.2.2.2.2.2.2.2.1, o.2.2.2.2.2.2.2.2.2.2.2.2.2.2.2.2.2.2.2.2.2.2.2.2.2.2.2.2.2.2.2.1, o.2.2.2.2.2.2.2.2.2.2.2.2.2.2.2.2.2.2.2.2.2.2.2.2.2.2.2.2.2.2.2.2.1, o.2.2.2.2.2.2.2.2.2.2.2.2.2.2.2.2.2.2.2.2.2.2.2.2.2.2.2.2.2.2.2.2.2.1, o.2.2.2.2.2.2.2.2.2.2.2.2.2.2.2.2.2.2.2.2.2.2.2.2.2.2.2.2.2.2.2.2.2.2)
def s_cImm (o : Ob) (v : List Int32) : Ob := (o.1, o.2.1, o.2.2.1, o.2.2.2.1, o.2.2.2.2.1, o.2.2.2.2.2.1, o.2.2.2.2.2.2.1, o.2.2.2.2.2.2.2.1, o.2.2.2.2.2.2.2.2.1, o.2.2.2.2.2.2.2.2.2.1, o.2.2.2.2.2.2.2.2.2.2.1, o.2.2.2.2.2.2.2.2.2.2.2.1, o.2.2.2.2.2.2.2.2.2.2.2.2.1, o.2.2.2.2.2.2.2.2.2.2.2.2.2.1, o.2.2.2.2.2.2.2.2.2.2.2.2.2.2.1, o.2.2.2.2.2.2.2.2.2.2.2.2.2.2.2.1, o.2.2.2.2.2.2.2.2.2.2.2.2.2.2.2.2.1, o.2.2.2.2.2.2.2.2.2.2.2.2.2.2.2.2.2.1, o.2.2.2.2.2.2.2.2.2.2.2.2.2.2.2.2.2.2.1, o.2.2.2.2.2.2.2.2.2.2.2.2.2.2.2.2.2.2.2.1, o.2.2.2.2.2.2.2.2.2.2.2.2.2.2.2.2.2.2.2.2.1, o.2.2.2.2.2.2.2.2.2.2.2.2.2.2.2.2.2.2.2.2.2.1, o.2.2.2.2.2.2.2.2.2.2.2.2.2.2.2.2.2.2.2.2.2.2.1, v, o.2.2.2.2.2.2.2.2.2.2.2.2.2.2.2.2.2.2.2.2.2.2.2.2.1, o.2.2.2.2.2.2.2.2.2.2.2.2.2.2.2.2.2.2.2.2.2.2.2.2.2.1, o.2.2.2.2.2.2.2.2.2.2.2.2.2.2.2.2.2.2.2.2.2.2.2.2.2.2.1, o.2.2.2.2.2.2.2.2.2.2.2.2.2.2.2.2.2.2.2.2.2.2.2.2.2.2.2.1, o.2.2.2.2.2.2.2.2.2.2.2.2.2.2.2.2.2.2.2.2.2.2.2.2.2.2.2.2.1, o.2.2.2.2.2.2.2.2.2.2.2.2.2.2.2.2.2.2.2.2.2.2.2.2.2.2.2.2.2.1, o.2.2.2.2.2.2.2.2.2.2.2.2.2.2.2.2.2.2.2.2.2.2.2.2.2.2.2.2.2.2.1, o.2.2.2.2.2.2.2.2.2.2.2.2.2.2.2.2.2.2.2.2.2.2.2.2.2.2.2.2.2.2.2.1, o.2.2.2.2.2.2.2.2.2.2.2.2.2.2.2.2.2.2.2.2.2.2.2.2.2.2.2.2.2.2.2.2.1, o.2.2.2.2.2.2.2.2.2.2.2.2.2.2.2.2.2.2.2.2.2.2.2.2.2.2.2.2.2.2.2.2.2.1, o.2.2.2.2.2.2.2.2.2.2.2.2.2.2.2.2.2.2.2.2.2.2.2.2.2.2.2.2.2.2.2.2.2.2)
def s_cKind (o : Ob) (v : List Int32) : Ob := (o.1, o.2.1, o.2.2.1, o.2.2.2.1, o.2.2.2.2.1, o.2.2.2.2.2.1, o.2.2.2.2.2.2.1, o.2.2.2.2.2.2.2.1, o.2.2.2.2.2.2.2.2.1, o.2.2.2.2.2.2.2.2.2.1, o.2.2.2.2.2.2.2.2.2.2.1, o.2.2.2.2.2.2.2.2.2.2.2.1, o.2.2.2.2.2.2.2.2.2.2.2.2.1, o.2.2.2.2.2.2.2.2.2.2.2.2.2.1, o.2.2.2.2.2.2.2.2.2.2.2.2.2.2.1, o.2.2.2.2.2.2.2.2.2.2.2.2.2.2.2.1, o.2.2.2.2.2.2.2.2.2.2.2.2.2.2.2.2.1, o.2.2.2.2.2.2.2.2.2.2.2.2.2.2.2.2.2.1, o.2.2.2.2.2.2.2.2.2.2.2.2.2.2.2.2.2.2.1, o.2.2.2.2.2.2.2.2.2.2.2.2.2.2.2.2.2.2.2.1, o.2.2.2.2.2.2.2.2.2.2.2.2.2.2.2.2.2.2.2.2.1, o.2.2.2.2.2.2.2.2.2.2.2.2.2.2.2.2.2.2.2.2.2.1, o.2.2.2.2.2.2.2.2.2.2.2.2.2.2.2.2.2.2.2.2.2.2.1, o.2.2.2.2.2.2.2.2.2.2.2.2.2.2.2.2.2.2.2.2.2.2.2.1, v, o.2.2.2.2.2.2.2.2.2.2.2.2.2.2.2.2.2.2.2.2.2.2.2.2.2.1, o.2.2.2.2.2.2.2.2.2.2.2.2.2.2.2.2.2.2.2.2.2.2.2.2.2.2.1, o.2.2.2.2.2.2.2.2.2.2.2.2.2.2.2.2.2.2.2.2.2.2.2.2.2.2.2.1, o.2.2.2.2.2.2.2.2.2.2.2.2.2.2.2.2.2.2.2.2.2.2.2.2.2.2.2.2.1, o.2.2.2.2.2.2.2.2.2.2.2.2.2.2.2.2.2.2.2.2.2.2.2.2.2.2.2.2.2.1, o.2.2.2.2.2.2.2.2.2.2.2.2.2.2.2.2.2.2.2.2.2.2.2.2.2.2.2.2.2.2.1, o.2.2.2.2.2.2.2.2.2.2.2.2.2.2.2.2.2.2.2.2.2.2.2.2.2.2.2.2.2.2.2.1, o.2.2.2.2.2.2.2.2.2.2.2.2.2.2.2.2.2.2.2.2.2.2.2.2.2.2.2.2.2.2.2.2.1, o.2.2.2.2.2.2.2.2.2.2.2.2.2.2.2.2.2.2.2.2.2.2.2.2.2.2.2.2.2.2.2.2.2.1, o.2.2.2.2.2.2.2.2.2.2.2.2.2.2.2.2.2.2.2.2.2.2.2.2.2.2.2.2.2.2.2.2.2.2)
def s_cTest (o : Ob) (v : List Int32) : Ob := (o.1, o.2.1, o.2.2.1, o.2.2.2.1, o.2.2.2.2.1, o.2.2.2.2.2.1, o.2.2.2.2.2.2.1, o.2.2.2.2.2.2.2.1, o.2.2.2.2.2.2.2.2.1, o.2.2.2.2.2.2.2.2.2.1, o.2.2.2.2.2.2.2.2.2.2.1, o.2.2.2.2.2.2.2.2.2.2.2.1, o.2.2.2.2.2.2.2.2.2.2.2.2.1, o.2.2.2.2.2.2.2.2.2.2.2.2.2.1, o.2.2.2.2.2.2.2.2.2.2.2.2.2.2.1, o.2.2.2.2.2.2.2.2.2.2.2.2.2.2.2.1, o.2.2.2.2.2.2.2.2.2.2.2.2.2.2.2.2.1, o.2.2.2.2.2.2.2.2.2.2.2.2.2.2.2.2.2.1, o.2.2.2.2.2.2.2.2.2.2.2.2.2.2.2.2.2.2.1, o.2.2.2.2.2.2.2.2.2.2.2.2.2.2.2.2.2.2.2.1, o.2.2.2.2.2.2.2.2.2.2.2.2.2.2.2.2.2.2.2.2.1, o.2.2.2.2.2.2.2.2.2.2.2.2.2.2.2.2.2.2.2.2.2.1, o.2.2.2.2.2.2.2.2.2.2.2.2.2.2.2.2.2.2.2.2.2.2.1, o.2.2.2.2.2.2.2.2.2.2.2.2.2.2.2.2.2.2.2.2.2.2.2.1, o.2.2.2.2.2.2.2.2.2.2.2.2.2.2.2.2.2.2.2.2.2.2.2.2.1, v, o.2.2.2.2.2.2.2.2.2.2.2.2.2.2.2.2.2.2.2.2.2.2.2.2.2.2.1, o.2.2.2.2.2.2.2.2.2.2.2.2.2.2.2.2.2.2.2.2.2.2.2.2.2.2.2.1, o.2.2.2.2.2.2.2.2.2.2.2.2.2.2.2.2.2.2.2.2.2.2.2.2.2.2.2.2.1, o.2.2.2.2.2.2.2.2.2.2.2.2.2.2.2.2.2.2.2.2.2.2.2.2.2.2.2.2.2.1, o.2.2.2.2.2.2.2.2.2.2.2.2.2.2.2.2.2.2.2.2.2.2.2.2.2.2.2.2.2.2.1, o.2.2.2.2.2.2.2.2.2.2.2.2.2.2.2.2.2.2.2.2.2.2.2.2.2.2.2.2.2.2.2.1, o.2.2.2.2.2.2.2.2.2.2.2.2.2.2.2.2.2.2.2.2.2.2.2.2.2.2.2.2.2.2.2.2.1, o.2.2.2.2.2.2.2.2.2.2.2.2.2.2.2.2.2.2.2.2.2.2.2.2.2.2.2.2.2.2.2.2.2.1, o.2.2.2.2.2.2.2.2.2.2.2.2.2.2.2.2.2.2.2.2.2.2.2.2.2.2.2.2.2.2.2.2.2.2)
def s_cTaken (o : Ob) (v : List Int32) : Ob := (o.1, o.2.1, o.2.2.1, o.2.2.2.1, o.2.2.2.2.1, o.2.2.2.2.2.1, o.2.2.2.2.2.2.1, o.2.2.2.2.2.2.2.1, o.2.2.2.2.2.2.2.2.1, o.2.2.2.2.2.2.2.2.2.1, o.2.2.2.2.2.2.2.2.2.2.1, o.2.2.2.2.2.2.2.2.2.2.2.1, o.2.2.2.2.2.2.2.2.2.2.2.2.1, o.2.2.2.2.2.2.2.2.2.2.2.2.2.1, o.2.2.2.2.2.2.2.2.2.2.2.2.2.2.1, o.2.2.2.2.2.2.2.2.2.2.2.2.2.2.2.1, o.2.2.2.2.2.2.2.2.2.2.2.2.2.2.2.2.1, o.2.2.2.2.2.2.2.2.2.2.2.2.2.2.2.2.2.1, o.2.2.2.2.2.2.2.2.2.2.2.2.2.2.2.2.2.2.1, o.2.2.2.2.2.2.2.2.2.2.2.2.2.2.2.2.2.2.2.1, o.2.2.2.2.2.2.2.2.2.2.2.2.2.2.2.2.2.2.2.2.1, o.2.2.2.2.2.2.2.2.2.2.2.2.2.2.2.2.2.2.2.2.2.1, o.2.2.2.2.2.2.2.2.2.2.2.2.2.2.2.2.2.2.2.2.2.2.1, o.2.2.2.2.2.2.2.2.2.2.2.2.2.2.2.2.2.2.2.2.2.2.2.1, o.2.2.2.2.2.2.2.2.2.2.2.2.2.2.2.2.2.2.2.2.2.2.2.2.1, o.2.2.2.2.2.2.2.2.2.2.2.2.2.2.2.2.2.2.2.2.2.2.2.2.2.1, v, o.2.2.2.2.2.2.2.2.2.2.2.2.2.2.2.2.2.2.2.2.2.2.2.2.2.2.2.1, o.2.2.2.2.2.2.2.2.2.2.2.2.2.2.2.2.2.2.2.2.2.2.2.2.2.2.2.2.1, o.2.2.2.2.2.2.2.2.2.2.2.2.2.2.2.2.2.2.2.2.2.2.2.2.2.2.2.2.2.1, o.2.2.2.2.2.2.2.2.2.2.2.2.2.2.2.2.2.2.2.2.2.2.2.2.2.2.2.2.2.2.1, o.2.2.2.2.2.2.2.2.2.2.2.2.2.2.2.2.2.2.2.2.2.2.2.2.2.2.2.2.2.2.2.1, o.2.2.2.2.2.2.2.2.2.2.2.2.2.2.2.2.2.2.2.2.2.2.2.2.2.2.2.2.2.2.2.2.1, o.2.2.2.2.2.2.2.2.2.2.2.2.2.2.2.2.2.2.2.2.2.2.2.2.2.2.2.2.2.2.2.2.2.1, o.2.2.2.2.2.2.2.2.2.2.2.2.2.2.2.2.2.2.2.2.2.2.2.2.2.2.2.2.2.2.2.2.2.2)
def s_cOther (o : Ob) (v : List Int32) : Ob := (o.1, o.2.1, o.2.2.1, o.2.2.2.1, o.2.2.2.2.1, o.2.2.2.2.2.1, o.2.2.2.2.2.2.1, o.2.2.2.2.2.2.2.1, o.2.2.2.2.2.2.2.2.1, o.2.2.2.2.2.2.2.2.2.1, o.2.2.2.2.2.2.2.2.2.2.1, o.2.2.2.2.2.2.2.2.2.2.2.1, o.2.2.2.2.2.2.2.2.2.2.2.2.1, o.2.2.2.2.2.2.2.2.2.2.2.2.2.1, o.2.2.2.2.2.2.2.2.2.2.2.2.2.2.1, o.2.2.2.2.2.2.2.2.2.2.2.2.2.2.2.1, o.2.2.2.2.2.2.2.2.2.2.2.2.2.2.2.2.1, o.2.2.2.2.2.2.2.2.2.2.2.2.2.2.2.2.2.1, o.2.2.2.2.2.2.2.2.2.2.2.2.2.2.2.2.2.2.1, o.2.2.2.2.2.2.2.2.2.2.2.2.2.2.2.2.2.2.2.1, o.2.2.2.2.2.2.2.2.2.2.2.2.2.2.2.2.2.2.2.2.1, o.2.2.2.2.2.2.2.2.2.2.2.2.2.2.2.2.2.2.2.2.2.1, o.2.2.2.2.2.2.2.2.2.2.2.2.2.2.2.2.2.2.2.2.2.2.1, o.2.2.2.2.2.2.2.2.2.2.2.2.2.2.2.2.2.2.2.2.2.2.2.1, o.2.2.2.2.2.2.2.2.2.2.2.2.2.2.2.2.2.2.2.2.2.2.2.2.1, o.2.2.2.2.2.2.2.2.2.2.2.2.2.2.2.2.2.2.2.2.2.2.2.2.2.1, o.2.2.2.2.2.2.2.2.2.2.2.2.2.2.2.2.2.2.2.2.2.2.2.2.2.2.1, v, o.2.2.2.2.2.2.2.2.2.2.2.2.2.2.2.2.2.2.2.2.2.2.2.2.2.2.2.2.1, o.2.2.2.2.2.2.2.2.2.2.2.2.2.2.2.2.2.2.2.2.2.2.2.2.2.2.2.2.2.1, o.2.2.2.2.2.2.2.2.2.2.2.2.2.2.2.2.2.2.2.2.2.2.2.2.2.2.2.2.2.2.1, o.2.2.2.2.2.2.2.2.2.2.2.2.2.2.2.2.2.2.2.2.2.2.2.2.2.2.2.2.2.2.2.1, o.2.2.2.2.2.2.2.2.2.2.2.2.2.2.2.2.2.2.2.2.2.2.2.2.2.2.2.2.2.2.2.2.1, o.2.2.2.2.2.2.2.2.2.2.2.2.2.2.2.2.2.2.2.2.2.2.2.2.2.2.2.2.2.2.2.2.2.1, o.2.2.2.2.2.2.2.2.2.2.2.2.2.2.2.2.2.2.2.2.2.2.2.2.2.2.2.2.2.2.2.2.2.2)
def s_maxBlocks (o : Ob) (v : Int32) : Ob := (o.1, o.2.1, o.2.2.1, o.2.2.2.1, o.2.2.2.2.1, o.2.2.2.2.2.1, o.2.2.2.2.2.2.1, o.2.2.2.2.2.2.2.1, o.2.2.2.2.2.2.2.2.1, o.2.2.2.2.2.2.2.2.2.1, o.2.2.2.2.2.2.2.2.2.2.1, o.2.2.2.2.2.2.2.2.2.2.2.1, o.2.2.2.2.2.2.2.2.2.2.2.2.1, o.2.2.2.2.2.2.2.2.2.2.2.2.2.1, o.2.2.2.2.2.2.2.2.2.2.2.2.2.2.1, o.2.2.2.2.2.2.2.2.2.2.2.2.2.2.2.1, o.2.2.2.2.2.2.2.2.2.2.2.2.2.2.2.2.1, o.2.2.2.2.2.2.2.2.2.2.2.2.2.2.2.2.2.1, o.2.2.2.2.2.2.2.2.2.2.2.2.2.2.2.2.2.2.1, o.2.2.2.2.2.2.2.2.2.2.2.2.2.2.2.2.2.2.2.1, o.2.2.2.2.2.2.2.2.2.2.2.2.2.2.2.2.2.2.2.2.1, o.2.2.2.2.2.2.2.2.2.2.2.2.2.2.2.2.2.2.2.2.2.1, o.2.2.2.2.2.2.2.2.2.2.2.2.2.2.2.2.2.2.2.2.2.2.1, o.2.2.2.2.2.2.2.2.2.2.2.2.2.2.2.2.2.2.2.2.2.2.2.1, o.2.2.2.2.2.2.2.2.2.2.2.2.2.2.2.2.2.2.2.2.2.2.2.2.1, o.2.2.2.2.2.2.2.2.2.2.2.2.2.2.2.2.2.2.2.2.2.2.2.2.2.1, o.2.2.2.2.2.2.2.2.2.2.2.2.2.2.2.2.2.2.2.2.2.2.2.2.2.2.1, o.2.2.2.2.2.2.2.2.2.2.2.2.2.2.2.2.2.2.2.2.2.2.2.2.2.2.2.1, v, o.2.2.2.2.2.2.2.2.2.2.2.2.2.2.2.2.2.2.2.2.2.2.2.2.2.2.2.2.2.1, o.2.2.2.2.2.2.2.2.2.2.2.2.2.2.2.2.2.2.2.2.2.2.2.2.2.2.2.2.2.2.1, o.2.2.2.2.2.2.2.2.2.2.2.2.2.2.2.2.2.2.2.2.2.2.2.2.2.2.2.2.2.2.2.1, o.2.2.2.2.2.2.2.2.2.2.2.2.2.2.2.2.2.2.2.2.2.2.2.2.2.2.2.2.2.2.2.2.1, o.2.2.2.2.2.2.2.2.2.2.2.2.2.2.2.2.2.2.2.2.2.2.2.2.2.2.2.2.2.2.2.2.2.1, o.2.2.2.2.2.2.2.2.2.2.2.2.2.2.2.2.2.2.2.2.2.2.2.2.2.2.2.2.2.2.2.2.2.2)
def s_maxSteps (o : Ob) (v : Int32) : Ob := (o.1, o.2.1, o.2.2.1, o.2.2.2.1, o.2.2.2.2.1, o.2.2.2.2.2.1, o.2.2.2.2.2.2.1, o.2.2.2.2.2.2.2.1, o.2.2.2.2.2.2.2.2.1, o.2.2.2.2.2.2.2.2.2.1, o.2.2.2.2.2.2.2.2.2.2.1, o.2.2.2.2.2.2.2.2.2.2.2.1, o.2.2.2.2.2.2.2.2.2.2.2.2.1, o.2.2.2.2.2.2.2.2.2.2.2.2.2.1, o.2.2.2.2.2.2.2.2.2.2.2.2.2.2.1, o.2.2.2.2.2.2.2.2.2.2.2.2.2.2.2.1, o.2.2.2.2.2.2.2.2.2.2.2.2.2.2.2.2.1, o.2.2.2.2.2.2.2.2.2.2.2.2.2.2.2.2.2.1, o.2.2.2.2.2.2.2.2.2.2.2.2.2.2.2.2.2.2.1, o.2.2.2.2.2.2.2.2.2.2.2.2.2.2.2.2.2.2.2.1, o.2.2.2.2.2.2.2.2.2.2.2.2.2.2.2.2.2.2.2.2.1, o.2.2.2.2.2.2.2.2.2.2.2.2.2.2.2.2.2.2.2.2.2.1, o.2.2.2.2.2.2.2.2.2.2.2.2.2.2.2.2.2.2.2.2.2.2.1, o.2.2.2.2.2.2.2.2.2.2.2.2.2.2.2.2.2.2.2.2.2.2.2.1, o.2.2.2.2.2.2.2.2.2.2.2.2.2.2.2.2.2.2.2.2.2.2.2.2.1, o.2.2.2.2.2.2.2.2.2.2.2.2.2.2.2.2.2.2.2.2.2.2.2.2.2.1, o.2.2.2.2.2.2.2.2.2.2.2.2.2.2.2.2.2.2.2.2.2.2.2.2.2.2.1, o.2.2.2.2.2.2.2.2.2.2.2.2.2.2.2.2.2.2.2.2.2.2.2.2.2.2.2.1, o.2.2.2.2.2.2.2.2.2.2.2.2.2.2.2.2.2.2.2.2.2.2.2.2.2.2.2.2.1, v, o.2.2.2.2.2.2.2.2.2.2.2.2.2.2.2.2.2.2.2.2.2.2.2.2.2.2.2.2.2.2.1, o.2.2.2.2.2.2.2.2.2.2.2.2.2.2.2.2.2.2.2.2.2.2.2.2.2.2.2.2.2.2.2.1, o.2.2.2.2.2.2.2.2.2.2.2.2.2.2.2.2.2.2.2.2.2.2.2.2.2.2.2.2.2.2.2.2.1, o.2.2.2.2.2.2.2.2.2.2.2.2.2.2.2.2.2.2.2.2.2.2.2.2.2.2.2.2.2.2.2.2.2.1, o.2.2.2.2.2.2.2.2.2.2.2.2.2.2.2.2.2.2.2.2.2.2.2.2.2.2.2.2.2.2.2.2.2.2)
def s_n (o : Ob) (v : Int32) : Ob := (o.1, o.2.1, o.2.2.1, o.2.2.2.1, o.2.2.2.2.1, o.2.2.2.2.2.1, o.2.2.2.2.2.2.1, o.2.2.2.2.2.2.2.1, o.2.2.2.2.2.2.2.2.1, o.2.2.2.2.2.2.2.2.2.1, o.2.2.2.2.2.2.2.2.2.2.1, o.2.2.2.2.2.2.2.2.2.2.2.1, o.2.2.2.2.2.2.2.2.2.2.2.2.1, o.2.2.2.2.2.2.2.2.2.2.2.2.2.1, o.2.2.2.2.2.2.2.2.2.2.2.2.2.2.1, o.2.2.2.2.2.2.2.2.2.2.2.2.2.2.2.1, o.2.2.2.2.2.2.2.2.2.2.2.2.2.2.2.2.1, o.2.2.2.2.2.2.2.2.2.2.2.2.2.2.2.2.2.1, o.2.2.2.2.2.2.2.2.2.2.2.2.2.2.2.2.2.2.1, o.2.2.2.2.2.2.2.2.2.2.2.2.2.2.2.2.2.2.2.1, o.2.2.2.2.2.2.2.2.2.2.2.2.2.2.2.2.2.2.2.2.1, o.2.2.2.2.2.2.2.2.2.2.2.2.2.2.2.2.2.2.2.2.2.1, o.2.2.2.2.2.2.2.2.2.2.2.2.2.2.2.2.2.2.2.2.2.2.1, o.2.2.2.2.2.2.2.2.2.2.2.2.2.2.2.2.2.2.2.2.2.2.2.1, o.2.2.2.2.2.2.2.2.2.2.2.2.2.2.2.2.2.2.2.2.2.2.2.2.1, o.2.2.2.2.2.2.2.2.2.2.2.2.2.2.2.2.2.2.2.2.2.2.2.2.2.1, o.2.2.2.2.2.2.2.2.2.2.2.2.2.2.2.2.2.2.2.2.2.2.2.2.2.2.1, o.2.2.2.2.2.2.2.2.2.2.2.2.2.2.2.2.2.2.2.2.2.2.2.2.2.2.2.1, o.2.2.2.2.2.2.2.2.2.2.2.2.2.2.2.2.2.2.2.2.2.2.2.2.2.2.2.2.1, o.2.2.2.2.2.2.2.2.2.2.2.2.2.2.2.2.2.2.2.2.2.2.2.2.2.2.2.2.2.1, v, o.2.2.2.2.2.2.2.2.2.2.2.2.2.2.2.2.2.2.2.2.2.2.2.2.2.2.2.2.2.2.2.1, o.2.2.2.2.2.2.2.2.2.2.2.2.2.2.2.2.2.2.2.2.2.2.2.2.2.2.2.2.2.2.2.2.1, o.2.2.2.2.2.2.2.2.2.2.2.2.2.2.2.2.2.2.2.2.2.2.2.2.2.2.2.2.2.2.2.2.2.1, o.2.2.2.2.2.2.2.2.2.2.2.2.2.2.2.2.2.2.2.2.2.2.2.2.2.2.2.2.2.2.2.2.2.2)
def s_arranged (o : Ob) (v : Int32) : Ob := (o.1, o.2.1, o.2.2.1, o.2.2.2.1, o.2.2.2.2.1, o.2.2.2.2.2.1, o.2.2.2.2.2.2.1, o.2.2.2.2.2.2.2.1, o.2.2.2.2.2.2.2.2.1, o.2.2.2.2.2.2.2.2.2.1, o.2.2.2.2.2.2.2.2.2.2.1, o.2.2.2.2.2.2.2.2.2.2.2.1, o.2.2.2.2.2.2.2.2.2.2.2.2.1, o.2.2.2.2.2.2.2.2.2.2.2.2.2.1, o.2.2.2.2.2.2.2.2.2.2.2.2.2.2.1, o.2.2.2.2.2.2.2.2.2.2.2.2.2.2.2.1, o.2.2.2.2.2.2.2.2.2.2.2.2.2.2.2.2.1, o.2.2.2.2.2.2.2.2.2.2.2.2.2.2.2.2.2.1, o.2.2.2.2.2.2.2.2.2.2.2.2.2.2.2.2.2.2.1, o.2.2.2.2.2.2.2.2.2.2.2.2.2.2.2.2.2.2.2.1, o.2.2.2.2.2.2.2.2.2.2.2.2.2.2.2.2.2.2.2.2.1, o.2.2.2.2.2.2.2.2.2.2.2.2.2.2.2.2.2.2.2.2.2.1, o.2.2.2.2.2.2.2.2.2.2.2.2.2.2.2.2.2.2.2.2.2.2.1, o.2.2.2.2.2.2.2.2.2.2.2.2.2.2.2.2.2.2.2.2.2.2.2.1, o.2.2.2.2.2.2.2.2.2.2.2.2.2.2.2.2.2.2.2.2.2.2.2.2.1, o.2.2.2.2.2.2.2.2.2.2.2.2.2.2.2.2.2.2.2.2.2.2.2.2.2.1, o.2.2.2.2.2.2.2.2.2.2.2.2.2.2.2.2.2.2.2.2.2.2.2.2.2.2.1, o.2.2.2.2.2.2.2.2.2.2.2.2.2.2.2.2.2.2.2.2.2.2.2.2.2.2.2.1, o.2.2.2.2.2.2.2.2.2.2.2.2.2.2.2.2.2.2.2.2.2.2.2.2.2.2.2.2.1, o.2.2.2.2.2.2.2.2.2.2.2.2.2.2.2.2.2.2.2.2.2.2.2.2.2.2.2.2.2.1, o.2.2.2.2.2.2.2.2.2.2.2.2.2.2.2.2.2.2.2.2.2.2.2.2.2.2.2.2.2.2.1, v, o.2.2.2.2.2.2.2.2.2.2.2.2.2.2.2.2.2.2.2.2.2.2.2.2.2.2.2.2.2.2.2.2.1, o.2.2.2.2.2.2.2.2.2.2.2.2.2.2.2.2.2.2.2.2.2.2.2.2.2.2.2.2.2.2.2.2.2.1, o.2.2.2.2.2.2.2.2.2.2.2.2.2.2.2.2.2.2.2.2.2.2.2.2.2.2.2.2.2.2.2.2.2.2)
def s_outCount (o : Ob) (v : Int32) : Ob := (o.1, o.2.1, o.2.2.1, o.2.2.2.1, o.2.2.2.2.1, o.2.2.2.2.2.1, o.2.2.2.2.2.2.1, o.2.2.2.2.2.2.2.1, o.2.2.2.2.2.2.2.2.1, o.2.2.2.2.2.2.2.2.2.1, o.2.2.2.2.2.2.2.2.2.2.1, o.2.2.2.2.2.2.2.2.2.2.2.1, o.2.2.2.2.2.2.2.2.2.2.2.2.1, o.2.2.2.2.2.2.2.2.2.2.2.2.2.1, o.2.2.2.2.2.2.2.2.2.2.2.2.2.2.1, o.2.2.2.2.2.2.2.2.2.2.2.2.2.2.2.1, o.2.2.2.2.2.2.2.2.2.2.2.2.2.2.2.2.1, o.2.2.2.2.2.2.2.2.2.2.2.2.2.2.2.2.2.1, o.2.2.2.2.2.2.2.2.2.2.2.2.2.2.2.2.2.2.1, o.2.2.2.2.2.2.2.2.2.2.2.2.2.2.2.2.2.2.2.1, o.2.2.2.2.2.2.2.2.2.2.2.2.2.2.2.2.2.2.2.2.1, o.2.2.2.2.2.2.2.2.2.2.2.2.2.2.2.2.2.2.2.2.2.1, o.2.2.2.2.2.2.2.2.2.2.2.2.2.2.2.2.2.2.2.2.2.2.1, o.2.2.2.2.2.2.2.2.2.2.2.2.2.2.2.2.2.2.2.2.2.2.2.1, o.2.2.2.2.2.2.2.2.2.2.2.2.2.2.2.2.2.2.2.2.2.2.2.2.1, o.2.2.2.2.2.2.2.2.2.2.2.2.2.2.2.2.2.2.2.2.2.2.2.2.2.1, o.2.2.2.2.2.2.2.2.2.2.2.2.2.2.2.2.2.2.2.2.2.2.2.2.2.2.1, o.2.2.2.2.2.2.2.2.2.2.2.2.2.2.2.2.2.2.2.2.2.2.2.2.2.2.2.1, o.2.2.2.2.2.2.2.2.2.2.2.2.2.2.2.2.2.2.2.2.2.2.2.2.2.2.2.2.1, o.2.2.2.2.2.2.2.2.2.2.2.2.2.2.2.2.2.2.2.2.2.2.2.2.2.2.2.2.2.1, o.2.2.2.2.2.2.2.2.2.2.2.2.2.2.2.2.2.2.2.2.2.2.2.2.2.2.2.2.2.2.1, o.2.2.2.2.2.2.2.2.2.2.2.2.2.2.2.2.2.2.2.2.2.2.2.2.2.2.2.2.2.2.2.1, v, o.2.2.2.2.2.2.2.2.2.2.2.2.2.2.2.2.2.2.2.2.2.2.2.2.2.2.2.2.2.2.2.2.2.1, o.2.2.2.2.2.2.2.2.2.2.2.2.2.2.2.2.2.2.2.2.2.2.2.2.2.2.2.2.2.2.2.2.2.2)
def s_steps (o : Ob) (v : Int32) : Ob := (o.1, o.2.1, o.2.2.1, o.2.2.2.1, o.2.2.2.2.1, o.2.2.2.2.2.1, o.2.2.2.2.2.2.1, o.2.2.2.2.2.2.2.1, o.2.2.2.2.2.2.2.2.1, o.2.2.2.2.2.2.2.2.2.1, o.2.2.2.2.2.2.2.2.2.2.1, o.2.2.2.2.2.2.2.2.2.2.2.1, o.2.2.2.2.2.2.2.2.2.2.2.2.1, o.2.2.2.2.2.2.2.2.2.2.2.2.2.1, o.2.2.2.2.2.2.2.2.2.2.2.2.2.2.1, o.2.2.2.2.2.2.2.2.2.2.2.2.2.2.2.1, o.2.2.2.2.2.2.2.2.2.2.2.2.2.2.2.2.1, o.2.2.2.2.2.2.2.2.2.2.2.2.2.2.2.2.2.1, o.2.2.2.2.2.2.2.2.2.2.2.2.2.2.2.2.2.2.1, o.2.2.2.2.2.2.2.2.2.2.2.2.2.2.2.2.2.2.2.1, o.2.2.2.2.2.2.2.2.2.2.2.2.2.2.2.2.2.2.2.2.1, o.2.2.2.2.2.2.2.2.2.2.2.2.2.2.2.2.2.2.2.2.2.1, o.2.2.2.2.2.2.2.2.2.2.2.2.2.2.2.2.2.2.2.2.2.2.1, o.2.2.2.2.2.2.2.2.2.2.2.2.2.2.2.2.2.2.2.2.2.2.2.1, o.2.2.2.2.2.2.2.2.2.2.2.2.2.2.2.2.2.2.2.2.2.2.2.2.1, o.2.2.2.2.2.2.2.2.2.2.2.2.2.2.2.2.2.2.2.2.2.2.2.2.2.1, o.2.2.2.2.2.2.2.2.2.2.2.2.2.2.2.2.2.2.2.2.2.2.2.2.2.2.1, o.2.2.2.2.2.2.2.2.2.2.2.2.2.2.2.2.2.2.2.2.2.2.2.2.2.2.2.1, o.2.2.2.2.2.2.2.2.2.2.2.2.2.2.2.2.2.2.2.2.2.2.2.2.2.2.2.2.1, o.2.2.2.2.2.2.2.2.2.2.2.2.2.2.2.2.2.2.2.2.2.2.2.2.2.2.2.2.2.1, o.2.2.2.2.2.2.2.2.2.2.2.2.2.2.2.2.2.2.2.2.2.2.2.2.2.2.2.2.2.2.1, o.2.2.2.2.2.2.2.2.2.2.2.2.2.2.2.2.2.2.2.2.2.2.2.2.2.2.2.2.2.2.2.1, o.2.2.2.2.2.2.2.2.2.2.2.2.2.2.2.2.2.2.2.2.2.2.2.2.2.2.2.2.2.2.2.2.1, v, o.2.2.2.2.2.2.2.2.2.2.2.2.2.2.2.2.2.2.2.2.2.2.2.2.2.2.2.2.2.2.2.2.2.2)
def s_status (o : Ob) (v : Int32) : Ob := (o.1, o.2.1, o.2.2.1, o.2.2.2.1, o.2.2.2.2.1, o.2.2.2.2.2.1, o.2.2.2.2.2.2.1, o.2.2.2.2.2.2.2.1, o.2.2.2.2.2.2.2.2.1, o.2.2.2.2.2.2.2.2.2.1, o.2.2.2.2.2.2.2.2.2.2.1, o.2.2.2.2.2.2.2.2.2.2.2.1, o.2.2.2.2.2.2.2.2.2.2.2.2.1, o.2.2.2.2.2.2.2.2.2.2.2.2.2.1, o.2.2.2.2.2.2.2.2.2.2.2.2.2.2.1, o.2.2.2.2.2.2.2.2.2.2.2.2.2.2.2.1, o.2.2.2.2.2.2.2.2.2.2.2.2.2.2.2.2.1, o.2.2.2.2.2.2.2.2.2.2.2.2.2.2.2.2.2.1, o.2.2.2.2.2.2.2.2.2.2.2.2.2.2.2.2.2.2.1, o.2.2.2.2.2.2.2.2.2.2.2.2.2.2.2.2.2.2.2.1, o.2.2.2.2.2.2.2.2.2.2.2.2.2.2.2.2.2.2.2.2.1, o.2.2.2.2.2.2.2.2.2.2.2.2.2.2.2.2.2.2.2.2.2.1, o.2.2.2.2.2.2.2.2.2.2.2.2.2.2.2.2.2.2.2.2.2.2.1, o.2.2.2.2.2.2.2.2.2.2.2.2.2.2.2.2.2.2.2.2.2.2.2.1, o.2.2.2.2.2.2.2.2.2.2.2.2.2.2.2.2.2.2.2.2.2.2.2.2.1, o.2.2.2.2.2.2.2.2.2.2.2.2.2.2.2.2.2.2.2.2.2.2.2.2.2.1, o.2.2.2.2.2.2.2.2.2.2.2.2.2.2.2.2.2.2.2.2.2.2.2.2.2.2.1, o.2.2.2.2.2.2.2.2.2.2.2.2.2.2.2.2.2.2.2.2.2.2.2.2.2.2.2.1, o.2.2.2.2.2.2.2.2.2.2.2.2.2.2.2.2.2.2.2.2.2.2.2.2.2.2.2.2.1, o.2.2.2.2.2.2.2.2.2.2.2.2.2.2.2.2.2.2.2.2.2.2.2.2.2.2.2.2.2.1, o.2.2.2.2.2.2.2.2.2.2.2.2.2.2.2.2.2.2.2.2.2.2.2.2.2.2.2.2.2.2.1, o.2.2.2.2.2.2.2.2.2.2.2.2.2.2.2.2.2.2.2.2.2.2.2.2.2.2.2.2.2.2.2.1, o.2.2.2.2.2.2.2.2.2.2.2.2.2.2.2.2.2.2.2.2.2.2.2.2.2.2.2.2.2.2.2.2.1, o.2.2.2.2.2.2.2.2.2.2.2.2.2.2.2.2.2.2.2.2.2.2.2.2.2.2.2.2.2.2.2.2.2.1, v)
def ob0 : Ob := ([], [], [], [], [], [], [], [], [], [], [], [], [], [], [], [], [], [], [], [], [], [], [], [], [], [], [], [], 0, 0, 0, 0, 0, 0, 0)
section Walks
variable {l : Launch} {Z : State} {n0 : Nat} {ad : Nat → Addr} {a0 : Array Value}
set_option maxRecDepth 20000
def H0 (o0 : Ob) : QHeap := [.inl [.ref 1, .ref 2, .ref 3, .ref 4, .ref 5, .ref 6, .ref 7, .ref 8, .ref 9, .ref 10, .ref 11, .ref 12, .ref 13, .ref 14, .ref 15, .ref 16, .ref 17, .ref 18, .ref 19, .ref 20, .ref 21, .ref 22, .ref 23, .ref 24, .ref 25, .ref 26, .ref 27, .ref 28, .int (f_maxBlocks o0), .int (f_maxSteps o0), .int (f_n o0), .int (f_arranged o0), .int (f_outCount o0), .int (f_steps o0), .int (f_status o0)], .inr (.inl (.int, (f_bOp o0))), .inr (.inl (.int, (f_bD o0))), .inr (.inl (.int, (f_bS o0))), .inr (.inl (.int, (f_bImm o0))), .inr (.inl (.int, (f_bTerm o0))), .inr (.inl (.int, (f_bTest o0))), .inr (.inl (.int, (f_bT0 o0))), .inr (.inl (.int, (f_bT1 o0))), .inr (.inl (.int, (f_cnt0 o0))), .inr (.inl (.int, (f_cnt1 o0))), .inr (.inl (.int, (f_regs o0))), .inr (.inl (.int, (f_outs o0))), .inr (.inl (.int, (f_edgeId o0))), .inr (.inl (.int, (f_edgeW o0))), .inr (.inl (.int, (f_chNext o0))), .inr (.inl (.int, (f_chPrev o0))), .inr (.inl (.int, (f_chHead o0))), .inr (.inl (.int, (f_heat o0))), .inr (.inl (.int, (f_posOf o0))), .inr (.inl (.int, (f_order o0))), .inr (.inl (.int, (f_cOp o0))), .inr (.inl (.int, (f_cD o0))), .inr (.inl (.int, (f_cS o0))), .inr (.inl (.int, (f_cImm o0))), .inr (.inl (.int, (f_cKind o0))), .inr (.inl (.int, (f_cTest o0))), .inr (.inl (.int, (f_cTaken o0))), .inr (.inl (.int, (f_cOther o0)))]
def H0v (a0_0 : List Int32) (a0_1 : List Int32) (a0_2 : List Int32) (a0_3 : List Int32) (a0_4 : List Int32) (a0_5 : List Int32) (a0_6 : List Int32) (a0_7 : List Int32) (a0_8 : List Int32) (a0_9 : List Int32) (a0_10 : List Int32) (a0_11 : List Int32) (a0_12 : List Int32) (a0_13 : List Int32) (a0_14 : List Int32) (a0_15 : List Int32) (a0_16 : List Int32) (a0_17 : List Int32) (a0_18 : List Int32) (a0_19 : List Int32) (a0_20 : List Int32) (a0_21 : List Int32) (a0_22 : List Int32) (a0_23 : List Int32) (a0_24 : List Int32) (a0_25 : List Int32) (a0_26 : List Int32) (a0_27 : List Int32) (a0_28 : Int32) (a0_29 : Int32) (a0_30 : Int32) (a0_31 : Int32) (a0_32 : Int32) (a0_33 : Int32) (a0_34 : Int32) : QHeap := [.inl [.ref 1, .ref 2, .ref 3, .ref 4, .ref 5, .ref 6, .ref 7, .ref 8, .ref 9, .ref 10, .ref 11, .ref 12, .ref 13, .ref 14, .ref 15, .ref 16, .ref 17, .ref 18, .ref 19, .ref 20, .ref 21, .ref 22, .ref 23, .ref 24, .ref 25, .ref 26, .ref 27, .ref 28, .int a0_28, .int a0_29, .int a0_30, .int a0_31, .int a0_32, .int a0_33, .int a0_34], .inr (.inl (.int, a0_0)), .inr (.inl (.int, a0_1)), .inr (.inl (.int, a0_2)), .inr (.inl (.int, a0_3)), .inr (.inl (.int, a0_4)), .inr (.inl (.int, a0_5)), .inr (.inl (.int, a0_6)), .inr (.inl (.int, a0_7)), .inr (.inl (.int, a0_8)), .inr (.inl (.int, a0_9)), .inr (.inl (.int, a0_10)), .inr (.inl (.int, a0_11)), .inr (.inl (.int, a0_12)), .inr (.inl (.int, a0_13)), .inr (.inl (.int, a0_14)), .inr (.inl (.int, a0_15)), .inr (.inl (.int, a0_16)), .inr (.inl (.int, a0_17)), .inr (.inl (.int, a0_18)), .inr (.inl (.int, a0_19)), .inr (.inl (.int, a0_20)), .inr (.inl (.int, a0_21)), .inr (.inl (.int, a0_22)), .inr (.inl (.int, a0_23)), .inr (.inl (.int, a0_24)), .inr (.inl (.int, a0_25)), .inr (.inl (.int, a0_26)), .inr (.inl (.int, a0_27))]
/-- init(II)V -/
def F1 (x1 : Int32) (x2 : Int32) : Option (Ob) :=
  some (s_status (s_steps (s_outCount (s_arranged (s_n (s_maxSteps (s_maxBlocks (s_cOther (s_cTaken (s_cTest (s_cKind (s_cImm (s_cS (s_cD (s_cOp (s_order (s_posOf (s_heat (s_chHead (s_chPrev (s_chNext (s_edgeW (s_edgeId (s_outs (s_regs (s_cnt1 (s_cnt0 (s_bT1 (s_bT0 (s_bTest (s_bTerm (s_bImm (s_bS (s_bD (s_bOp ob0 (List.replicate 16 0)) (List.replicate 16 0)) (List.replicate 16 0)) (List.replicate 16 0)) (List.replicate 16 0)) (List.replicate 16 0)) (List.replicate 16 0)) (List.replicate 16 0)) (List.replicate 16 0)) (List.replicate 16 0)) (List.replicate 4 0)) (List.replicate 16 0)) (List.replicate 32 0)) (List.replicate 32 0)) (List.replicate 16 0)) (List.replicate 16 0)) (List.replicate 16 0)) (List.replicate 16 0)) (List.replicate 16 0)) (List.replicate 16 0)) (List.replicate 16 0)) (List.replicate 16 0)) (List.replicate 16 0)) (List.replicate 16 0)) (List.replicate 16 0)) (List.replicate 16 0)) (List.replicate 16 0)) (List.replicate 16 0)) (if (16 : Int32) < (if x1 < (2 : Int32) then (2 : Int32) else x1) then (16 : Int32) else (if x1 < (2 : Int32) then (2 : Int32) else x1))) (if (1024 : Int32) < (if x2 < (16 : Int32) then (16 : Int32) else x2) then (1024 : Int32) else (if x2 < (16 : Int32) then (16 : Int32) else x2))) (0 : Int32)) (0 : Int32)) (0 : Int32)) (0 : Int32)) (0 : Int32))
theorem tF1 (Ad : QAd n0 ad) (W : QW Z a0) (x1 : Int32) (x2 : Int32) {r : Ob} (h : F1 x1 x2 = some r) : QTri l Z n0 ad 1 (0, qentry [.ref 0, .int x1, .int x2] (pMaxL 1), [], [.inl [.null, .null, .null, .null, .null, .null, .null, .null, .null, .null, .null, .null, .null, .null, .null, .null, .null, .null, .null, .null, .null, .null, .null, .null, .null, .null, .null, .null, .int (f_maxBlocks ob0), .int (f_maxSteps ob0), .int (f_n ob0), .int (f_arranged ob0), .int (f_outCount ob0), .int (f_steps ob0), .int (f_status ob0)]]) (none : Option Value) (H0 r) := by
  unfold F1 at h
  refine QTri.steps Ad W 1 (st' := (1, [some (.ref 0), vI x1, vI x2, none, none], [.ref 0], [.inl [.null, .null, .null, .null, .null, .null, .null, .null, .null, .null, .null, .null, .null, .null, .null, .null, .null, .null, .null, .null, .null, .null, .null, .null, .null, .null, .null, .null, .int (f_maxBlocks ob0), .int (f_maxSteps ob0), .int (f_n ob0), .int (f_arranged ob0), .int (f_outCount ob0), .int (f_steps ob0), .int (f_status ob0)]])) rfl ?_
  refine QTri.callO W rfl rfl rfl ?_
  refine QTri.steps Ad W 3 (st' := (9, [some (.ref 0), vI x1, vI x2, none, none], [.ref 1, .ref 0], [.inl [.null, .null, .null, .null, .null, .null, .null, .null, .null, .null, .null, .null, .null, .null, .null, .null, .null, .null, .null, .null, .null, .null, .null, .null, .null, .null, .null, .null, .int (f_maxBlocks ob0), .int (f_maxSteps ob0), .int (f_n ob0), .int (f_arranged ob0), .int (f_outCount ob0), .int (f_steps ob0), .int (f_status ob0)], .inr (.inl (.int, (List.replicate 16 0)))])) rfl ?_
  refine QTri.steps Ad W 1 (st' := (12, [some (.ref 0), vI x1, vI x2, none, none], [], [.inl [.ref 1, .null, .null, .null, .null, .null, .null, .null, .null, .null, .null, .null, .null, .null, .null, .null, .null, .null, .null, .null, .null, .null, .null, .null, .null, .null, .null, .null, .int (f_maxBlocks ob0), .int (f_maxSteps ob0), .int (f_n ob0), .int (f_arranged ob0), .int (f_outCount ob0), .int (f_steps ob0), .int (f_status ob0)], .inr (.inl (.int, (List.replicate 16 0)))])) rfl ?_
  refine QTri.steps Ad W 3 (st' := (17, [some (.ref 0), vI x1, vI x2, none, none], [.ref 2, .ref 0], [.inl [.ref 1, .null, .null, .null, .null, .null, .null, .null, .null, .null, .null, .null, .null, .null, .null, .null, .null, .null, .null, .null, .null, .null, .null, .null, .null, .null, .null, .null, .int (f_maxBlocks ob0), .int (f_maxSteps ob0), .int (f_n ob0), .int (f_arranged ob0), .int (f_outCount ob0), .int (f_steps ob0), .int (f_status ob0)], .inr (.inl (.int, (List.replicate 16 0))), .inr (.inl (.int, (List.replicate 16 0)))])) rfl ?_
  refine QTri.steps Ad W 1 (st' := (20, [some (.ref 0), vI x1, vI x2, none, none], [], [.inl [.ref 1, .ref 2, .null, .null, .null, .null, .null, .null, .null, .null, .null, .null, .null, .null, .null, .null, .null, .null, .null, .null, .null, .null, .null, .null, .null, .null, .null, .null, .int (f_maxBlocks ob0), .int (f_maxSteps ob0), .int (f_n ob0), .int (f_arranged ob0), .int (f_outCount ob0), .int (f_steps ob0), .int (f_status ob0)], .inr (.inl (.int, (List.replicate 16 0))), .inr (.inl (.int, (List.replicate 16 0)))])) rfl ?_
  refine QTri.steps Ad W 3 (st' := (25, [some (.ref 0), vI x1, vI x2, none, none], [.ref 3, .ref 0], [.inl [.ref 1, .ref 2, .null, .null, .null, .null, .null, .null, .null, .null, .null, .null, .null, .null, .null, .null, .null, .null, .null, .null, .null, .null, .null, .null, .null, .null, .null, .null, .int (f_maxBlocks ob0), .int (f_maxSteps ob0), .int (f_n ob0), .int (f_arranged ob0), .int (f_outCount ob0), .int (f_steps ob0), .int (f_status ob0)], .inr (.inl (.int, (List.replicate 16 0))), .inr (.inl (.int, (List.replicate 16 0))), .inr (.inl (.int, (List.replicate 16 0)))])) rfl ?_
  refine QTri.steps Ad W 1 (st' := (28, [some (.ref 0), vI x1, vI x2, none, none], [], [.inl [.ref 1, .ref 2, .ref 3, .null, .null, .null, .null, .null, .null, .null, .null, .null, .null, .null, .null, .null, .null, .null, .null, .null, .null, .null, .null, .null, .null, .null, .null, .null, .int (f_maxBlocks ob0), .int (f_maxSteps ob0), .int (f_n ob0), .int (f_arranged ob0), .int (f_outCount ob0), .int (f_steps ob0), .int (f_status ob0)], .inr (.inl (.int, (List.replicate 16 0))), .inr (.inl (.int, (List.replicate 16 0))), .inr (.inl (.int, (List.replicate 16 0)))])) rfl ?_
  refine QTri.steps Ad W 3 (st' := (33, [some (.ref 0), vI x1, vI x2, none, none], [.ref 4, .ref 0], [.inl [.ref 1, .ref 2, .ref 3, .null, .null, .null, .null, .null, .null, .null, .null, .null, .null, .null, .null, .null, .null, .null, .null, .null, .null, .null, .null, .null, .null, .null, .null, .null, .int (f_maxBlocks ob0), .int (f_maxSteps ob0), .int (f_n ob0), .int (f_arranged ob0), .int (f_outCount ob0), .int (f_steps ob0), .int (f_status ob0)], .inr (.inl (.int, (List.replicate 16 0))), .inr (.inl (.int, (List.replicate 16 0))), .inr (.inl (.int, (List.replicate 16 0))), .inr (.inl (.int, (List.replicate 16 0)))])) rfl ?_
  refine QTri.steps Ad W 1 (st' := (36, [some (.ref 0), vI x1, vI x2, none, none], [], [.inl [.ref 1, .ref 2, .ref 3, .ref 4, .null, .null, .null, .null, .null, .null, .null, .null, .null, .null, .null, .null, .null, .null, .null, .null, .null, .null, .null, .null, .null, .null, .null, .null, .int (f_maxBlocks ob0), .int (f_maxSteps ob0), .int (f_n ob0), .int (f_arranged ob0), .int (f_outCount ob0), .int (f_steps ob0), .int (f_status ob0)], .inr (.inl (.int, (List.replicate 16 0))), .inr (.inl (.int, (List.replicate 16 0))), .inr (.inl (.int, (List.replicate 16 0))), .inr (.inl (.int, (List.replicate 16 0)))])) rfl ?_
  refine QTri.steps Ad W 3 (st' := (41, [some (.ref 0), vI x1, vI x2, none, none], [.ref 5, .ref 0], [.inl [.ref 1, .ref 2, .ref 3, .ref 4, .null, .null, .null, .null, .null, .null, .null, .null, .null, .null, .null, .null, .null, .null, .null, .null, .null, .null, .null, .null, .null, .null, .null, .null, .int (f_maxBlocks ob0), .int (f_maxSteps ob0), .int (f_n ob0), .int (f_arranged ob0), .int (f_outCount ob0), .int (f_steps ob0), .int (f_status ob0)], .inr (.inl (.int, (List.replicate 16 0))), .inr (.inl (.int, (List.replicate 16 0))), .inr (.inl (.int, (List.replicate 16 0))), .inr (.inl (.int, (List.replicate 16 0))), .inr (.inl (.int, (List.replicate 16 0)))])) rfl ?_
  refine QTri.steps Ad W 1 (st' := (44, [some (.ref 0), vI x1, vI x2, none, none], [], [.inl [.ref 1, .ref 2, .ref 3, .ref 4, .ref 5, .null, .null, .null, .null, .null, .null, .null, .null, .null, .null, .null, .null, .null, .null, .null, .null, .null, .null, .null, .null, .null, .null, .null, .int (f_maxBlocks ob0), .int (f_maxSteps ob0), .int (f_n ob0), .int (f_arranged ob0), .int (f_outCount ob0), .int (f_steps ob0), .int (f_status ob0)], .inr (.inl (.int, (List.replicate 16 0))), .inr (.inl (.int, (List.replicate 16 0))), .inr (.inl (.int, (List.replicate 16 0))), .inr (.inl (.int, (List.replicate 16 0))), .inr (.inl (.int, (List.replicate 16 0)))])) rfl ?_
  refine QTri.steps Ad W 3 (st' := (49, [some (.ref 0), vI x1, vI x2, none, none], [.ref 6, .ref 0], [.inl [.ref 1, .ref 2, .ref 3, .ref 4, .ref 5, .null, .null, .null, .null, .null, .null, .null, .null, .null, .null, .null, .null, .null, .null, .null, .null, .null, .null, .null, .null, .null, .null, .null, .int (f_maxBlocks ob0), .int (f_maxSteps ob0), .int (f_n ob0), .int (f_arranged ob0), .int (f_outCount ob0), .int (f_steps ob0), .int (f_status ob0)], .inr (.inl (.int, (List.replicate 16 0))), .inr (.inl (.int, (List.replicate 16 0))), .inr (.inl (.int, (List.replicate 16 0))), .inr (.inl (.int, (List.replicate 16 0))), .inr (.inl (.int, (List.replicate 16 0))), .inr (.inl (.int, (List.replicate 16 0)))])) rfl ?_
  refine QTri.steps Ad W 1 (st' := (52, [some (.ref 0), vI x1, vI x2, none, none], [], [.inl [.ref 1, .ref 2, .ref 3, .ref 4, .ref 5, .ref 6, .null, .null, .null, .null, .null, .null, .null, .null, .null, .null, .null, .null, .null, .null, .null, .null, .null, .null, .null, .null, .null, .null, .int (f_maxBlocks ob0), .int (f_maxSteps ob0), .int (f_n ob0), .int (f_arranged ob0), .int (f_outCount ob0), .int (f_steps ob0), .int (f_status ob0)], .inr (.inl (.int, (List.replicate 16 0))), .inr (.inl (.int, (List.replicate 16 0))), .inr (.inl (.int, (List.replicate 16 0))), .inr (.inl (.int, (List.replicate 16 0))), .inr (.inl (.int, (List.replicate 16 0))), .inr (.inl (.int, (List.replicate 16 0)))])) rfl ?_
  refine QTri.steps Ad W 3 (st' := (57, [some (.ref 0), vI x1, vI x2, none, none], [.ref 7, .ref 0], [.inl [.ref 1, .ref 2, .ref 3, .ref 4, .ref 5, .ref 6, .null, .null, .null, .null, .null, .null, .null, .null, .null, .null, .null, .null, .null, .null, .null, .null, .null, .null, .null, .null, .null, .null, .int (f_maxBlocks ob0), .int (f_maxSteps ob0), .int (f_n ob0), .int (f_arranged ob0), .int (f_outCount ob0), .int (f_steps ob0), .int (f_status ob0)], .inr (.inl (.int, (List.replicate 16 0))), .inr (.inl (.int, (List.replicate 16 0))), .inr (.inl (.int, (List.replicate 16 0))), .inr (.inl (.int, (List.replicate 16 0))), .inr (.inl (.int, (List.replicate 16 0))), .inr (.inl (.int, (List.replicate 16 0))), .inr (.inl (.int, (List.replicate 16 0)))])) rfl ?_
  refine QTri.steps Ad W 1 (st' := (60, [some (.ref 0), vI x1, vI x2, none, none], [], [.inl [.ref 1, .ref 2, .ref 3, .ref 4, .ref 5, .ref 6, .ref 7, .null, .null, .null, .null, .null, .null, .null, .null, .null, .null, .null, .null, .null, .null, .null, .null, .null, .null, .null, .null, .null, .int (f_maxBlocks ob0), .int (f_maxSteps ob0), .int (f_n ob0), .int (f_arranged ob0), .int (f_outCount ob0), .int (f_steps ob0), .int (f_status ob0)], .inr (.inl (.int, (List.replicate 16 0))), .inr (.inl (.int, (List.replicate 16 0))), .inr (.inl (.int, (List.replicate 16 0))), .inr (.inl (.int, (List.replicate 16 0))), .inr (.inl (.int, (List.replicate 16 0))), .inr (.inl (.int, (List.replicate 16 0))), .inr (.inl (.int, (List.replicate 16 0)))])) rfl ?_
  refine QTri.steps Ad W 3 (st' := (65, [some (.ref 0), vI x1, vI x2, none, none], [.ref 8, .ref 0], [.inl [.ref 1, .ref 2, .ref 3, .ref 4, .ref 5, .ref 6, .ref 7, .null, .null, .null, .null, .null, .null, .null, .null, .null, .null, .null, .null, .null, .null, .null, .null, .null, .null, .null, .null, .null, .int (f_maxBlocks ob0), .int (f_maxSteps ob0), .int (f_n ob0), .int (f_arranged ob0), .int (f_outCount ob0), .int (f_steps ob0), .int (f_status ob0)], .inr (.inl (.int, (List.replicate 16 0))), .inr (.inl (.int, (List.replicate 16 0))), .inr (.inl (.int, (List.replicate 16 0))), .inr (.inl (.int, (List.replicate 16 0))), .inr (.inl (.int, (List.replicate 16 0))), .inr (.inl (.int, (List.replicate 16 0))), .inr (.inl (.int, (List.replicate 16 0))), .inr (.inl (.int, (List.replicate 16 0)))])) rfl ?_
  refine QTri.steps Ad W 1 (st' := (68, [some (.ref 0), vI x1, vI x2, none, none], [], [.inl [.ref 1, .ref 2, .ref 3, .ref 4, .ref 5, .ref 6, .ref 7, .ref 8, .null, .null, .null, .null, .null, .null, .null, .null, .null, .null, .null, .null, .null, .null, .null, .null, .null, .null, .null, .null, .int (f_maxBlocks ob0), .int (f_maxSteps ob0), .int (f_n ob0), .int (f_arranged ob0), .int (f_outCount ob0), .int (f_steps ob0), .int (f_status ob0)], .inr (.inl (.int, (List.replicate 16 0))), .inr (.inl (.int, (List.replicate 16 0))), .inr (.inl (.int, (List.replicate 16 0))), .inr (.inl (.int, (List.replicate 16 0))), .inr (.inl (.int, (List.replicate 16 0))), .inr (.inl (.int, (List.replicate 16 0))), .inr (.inl (.int, (List.replicate 16 0))), .inr (.inl (.int, (List.replicate 16 0)))])) rfl ?_
  refine QTri.steps Ad W 3 (st' := (73, [some (.ref 0), vI x1, vI x2, none, none], [.ref 9, .ref 0], [.inl [.ref 1, .ref 2, .ref 3, .ref 4, .ref 5, .ref 6, .ref 7, .ref 8, .null, .null, .null, .null, .null, .null, .null, .null, .null, .null, .null, .null, .null, .null, .null, .null, .null, .null, .null, .null, .int (f_maxBlocks ob0), .int (f_maxSteps ob0), .int (f_n ob0), .int (f_arranged ob0), .int (f_outCount ob0), .int (f_steps ob0), .int (f_status ob0)], .inr (.inl (.int, (List.replicate 16 0))), .inr (.inl (.int, (List.replicate 16 0))), .inr (.inl (.int, (List.replicate 16 0))), .inr (.inl (.int, (List.replicate 16 0))), .inr (.inl (.int, (List.replicate 16 0))), .inr (.inl (.int, (List.replicate 16 0))), .inr (.inl (.int, (List.replicate 16 0))), .inr (.inl (.int, (List.replicate 16 0))), .inr (.inl (.int, (List.replicate 16 0)))])) rfl ?_
  refine QTri.steps Ad W 1 (st' := (76, [some (.ref 0), vI x1, vI x2, none, none], [], [.inl [.ref 1, .ref 2, .ref 3, .ref 4, .ref 5, .ref 6, .ref 7, .ref 8, .ref 9, .null, .null, .null, .null, .null, .null, .null, .null, .null, .null, .null, .null, .null, .null, .null, .null, .null, .null, .null, .int (f_maxBlocks ob0), .int (f_maxSteps ob0), .int (f_n ob0), .int (f_arranged ob0), .int (f_outCount ob0), .int (f_steps ob0), .int (f_status ob0)], .inr (.inl (.int, (List.replicate 16 0))), .inr (.inl (.int, (List.replicate 16 0))), .inr (.inl (.int, (List.replicate 16 0))), .inr (.inl (.int, (List.replicate 16 0))), .inr (.inl (.int, (List.replicate 16 0))), .inr (.inl (.int, (List.replicate 16 0))), .inr (.inl (.int, (List.replicate 16 0))), .inr (.inl (.int, (List.replicate 16 0))), .inr (.inl (.int, (List.replicate 16 0)))])) rfl ?_
  refine QTri.steps Ad W 3 (st' := (81, [some (.ref 0), vI x1, vI x2, none, none], [.ref 10, .ref 0], [.inl [.ref 1, .ref 2, .ref 3, .ref 4, .ref 5, .ref 6, .ref 7, .ref 8, .ref 9, .null, .null, .null, .null, .null, .null, .null, .null, .null, .null, .null, .null, .null, .null, .null, .null, .null, .null, .null, .int (f_maxBlocks ob0), .int (f_maxSteps ob0), .int (f_n ob0), .int (f_arranged ob0), .int (f_outCount ob0), .int (f_steps ob0), .int (f_status ob0)], .inr (.inl (.int, (List.replicate 16 0))), .inr (.inl (.int, (List.replicate 16 0))), .inr (.inl (.int, (List.replicate 16 0))), .inr (.inl (.int, (List.replicate 16 0))), .inr (.inl (.int, (List.replicate 16 0))), .inr (.inl (.int, (List.replicate 16 0))), .inr (.inl (.int, (List.replicate 16 0))), .inr (.inl (.int, (List.replicate 16 0))), .inr (.inl (.int, (List.replicate 16 0))), .inr (.inl (.int, (List.replicate 16 0)))])) rfl ?_
  refine QTri.steps Ad W 1 (st' := (84, [some (.ref 0), vI x1, vI x2, none, none], [], [.inl [.ref 1, .ref 2, .ref 3, .ref 4, .ref 5, .ref 6, .ref 7, .ref 8, .ref 9, .ref 10, .null, .null, .null, .null, .null, .null, .null, .null, .null, .null, .null, .null, .null, .null, .null, .null, .null, .null, .int (f_maxBlocks ob0), .int (f_maxSteps ob0), .int (f_n ob0), .int (f_arranged ob0), .int (f_outCount ob0), .int (f_steps ob0), .int (f_status ob0)], .inr (.inl (.int, (List.replicate 16 0))), .inr (.inl (.int, (List.replicate 16 0))), .inr (.inl (.int, (List.replicate 16 0))), .inr (.inl (.int, (List.replicate 16 0))), .inr (.inl (.int, (List.replicate 16 0))), .inr (.inl (.int, (List.replicate 16 0))), .inr (.inl (.int, (List.replicate 16 0))), .inr (.inl (.int, (List.replicate 16 0))), .inr (.inl (.int, (List.replicate 16 0))), .inr (.inl (.int, (List.replicate 16 0)))])) rfl ?_
  refine QTri.steps Ad W 3 (st' := (88, [some (.ref 0), vI x1, vI x2, none, none], [.ref 11, .ref 0], [.inl [.ref 1, .ref 2, .ref 3, .ref 4, .ref 5, .ref 6, .ref 7, .ref 8, .ref 9, .ref 10, .null, .null, .null, .null, .null, .null, .null, .null, .null, .null, .null, .null, .null, .null, .null, .null, .null, .null, .int (f_maxBlocks ob0), .int (f_maxSteps ob0), .int (f_n ob0), .int (f_arranged ob0), .int (f_outCount ob0), .int (f_steps ob0), .int (f_status ob0)], .inr (.inl (.int, (List.replicate 16 0))), .inr (.inl (.int, (List.replicate 16 0))), .inr (.inl (.int, (List.replicate 16 0))), .inr (.inl (.int, (List.replicate 16 0))), .inr (.inl (.int, (List.replicate 16 0))), .inr (.inl (.int, (List.replicate 16 0))), .inr (.inl (.int, (List.replicate 16 0))), .inr (.inl (.int, (List.replicate 16 0))), .inr (.inl (.int, (List.replicate 16 0))), .inr (.inl (.int, (List.replicate 16 0))), .inr (.inl (.int, (List.replicate 4 0)))])) rfl ?_
  refine QTri.steps Ad W 1 (st' := (91, [some (.ref 0), vI x1, vI x2, none, none], [], [.inl [.ref 1, .ref 2, .ref 3, .ref 4, .ref 5, .ref 6, .ref 7, .ref 8, .ref 9, .ref 10, .ref 11, .null, .null, .null, .null, .null, .null, .null, .null, .null, .null, .null, .null, .null, .null, .null, .null, .null, .int (f_maxBlocks ob0), .int (f_maxSteps ob0), .int (f_n ob0), .int (f_arranged ob0), .int (f_outCount ob0), .int (f_steps ob0), .int (f_status ob0)], .inr (.inl (.int, (List.replicate 16 0))), .inr (.inl (.int, (List.replicate 16 0))), .inr (.inl (.int, (List.replicate 16 0))), .inr (.inl (.int, (List.replicate 16 0))), .inr (.inl (.int, (List.replicate 16 0))), .inr (.inl (.int, (List.replicate 16 0))), .inr (.inl (.int, (List.replicate 16 0))), .inr (.inl (.int, (List.replicate 16 0))), .inr (.inl (.int, (List.replicate 16 0))), .inr (.inl (.int, (List.replicate 16 0))), .inr (.inl (.int, (List.replicate 4 0)))])) rfl ?_
  refine QTri.steps Ad W 3 (st' := (96, [some (.ref 0), vI x1, vI x2, none, none], [.ref 12, .ref 0], [.inl [.ref 1, .ref 2, .ref 3, .ref 4, .ref 5, .ref 6, .ref 7, .ref 8, .ref 9, .ref 10, .ref 11, .null, .null, .null, .null, .null, .null, .null, .null, .null, .null, .null, .null, .null, .null, .null, .null, .null, .int (f_maxBlocks ob0), .int (f_maxSteps ob0), .int (f_n ob0), .int (f_arranged ob0), .int (f_outCount ob0), .int (f_steps ob0), .int (f_status ob0)], .inr (.inl (.int, (List.replicate 16 0))), .inr (.inl (.int, (List.replicate 16 0))), .inr (.inl (.int, (List.replicate 16 0))), .inr (.inl (.int, (List.replicate 16 0))), .inr (.inl (.int, (List.replicate 16 0))), .inr (.inl (.int, (List.replicate 16 0))), .inr (.inl (.int, (List.replicate 16 0))), .inr (.inl (.int, (List.replicate 16 0))), .inr (.inl (.int, (List.replicate 16 0))), .inr (.inl (.int, (List.replicate 16 0))), .inr (.inl (.int, (List.replicate 4 0))), .inr (.inl (.int, (List.replicate 16 0)))])) rfl ?_
  refine QTri.steps Ad W 1 (st' := (99, [some (.ref 0), vI x1, vI x2, none, none], [], [.inl [.ref 1, .ref 2, .ref 3, .ref 4, .ref 5, .ref 6, .ref 7, .ref 8, .ref 9, .ref 10, .ref 11, .ref 12, .null, .null, .null, .null, .null, .null, .null, .null, .null, .null, .null, .null, .null, .null, .null, .null, .int (f_maxBlocks ob0), .int (f_maxSteps ob0), .int (f_n ob0), .int (f_arranged ob0), .int (f_outCount ob0), .int (f_steps ob0), .int (f_status ob0)], .inr (.inl (.int, (List.replicate 16 0))), .inr (.inl (.int, (List.replicate 16 0))), .inr (.inl (.int, (List.replicate 16 0))), .inr (.inl (.int, (List.replicate 16 0))), .inr (.inl (.int, (List.replicate 16 0))), .inr (.inl (.int, (List.replicate 16 0))), .inr (.inl (.int, (List.replicate 16 0))), .inr (.inl (.int, (List.replicate 16 0))), .inr (.inl (.int, (List.replicate 16 0))), .inr (.inl (.int, (List.replicate 16 0))), .inr (.inl (.int, (List.replicate 4 0))), .inr (.inl (.int, (List.replicate 16 0)))])) rfl ?_
  refine QTri.steps Ad W 3 (st' := (104, [some (.ref 0), vI x1, vI x2, none, none], [.ref 13, .ref 0], [.inl [.ref 1, .ref 2, .ref 3, .ref 4, .ref 5, .ref 6, .ref 7, .ref 8, .ref 9, .ref 10, .ref 11, .ref 12, .null, .null, .null, .null, .null, .null, .null, .null, .null, .null, .null, .null, .null, .null, .null, .null, .int (f_maxBlocks ob0), .int (f_maxSteps ob0), .int (f_n ob0), .int (f_arranged ob0), .int (f_outCount ob0), .int (f_steps ob0), .int (f_status ob0)], .inr (.inl (.int, (List.replicate 16 0))), .inr (.inl (.int, (List.replicate 16 0))), .inr (.inl (.int, (List.replicate 16 0))), .inr (.inl (.int, (List.replicate 16 0))), .inr (.inl (.int, (List.replicate 16 0))), .inr (.inl (.int, (List.replicate 16 0))), .inr (.inl (.int, (List.replicate 16 0))), .inr (.inl (.int, (List.replicate 16 0))), .inr (.inl (.int, (List.replicate 16 0))), .inr (.inl (.int, (List.replicate 16 0))), .inr (.inl (.int, (List.replicate 4 0))), .inr (.inl (.int, (List.replicate 16 0))), .inr (.inl (.int, (List.replicate 32 0)))])) rfl ?_
  refine QTri.steps Ad W 1 (st' := (107, [some (.ref 0), vI x1, vI x2, none, none], [], [.inl [.ref 1, .ref 2, .ref 3, .ref 4, .ref 5, .ref 6, .ref 7, .ref 8, .ref 9, .ref 10, .ref 11, .ref 12, .ref 13, .null, .null, .null, .null, .null, .null, .null, .null, .null, .null, .null, .null, .null, .null, .null, .int (f_maxBlocks ob0), .int (f_maxSteps ob0), .int (f_n ob0), .int (f_arranged ob0), .int (f_outCount ob0), .int (f_steps ob0), .int (f_status ob0)], .inr (.inl (.int, (List.replicate 16 0))), .inr (.inl (.int, (List.replicate 16 0))), .inr (.inl (.int, (List.replicate 16 0))), .inr (.inl (.int, (List.replicate 16 0))), .inr (.inl (.int, (List.replicate 16 0))), .inr (.inl (.int, (List.replicate 16 0))), .inr (.inl (.int, (List.replicate 16 0))), .inr (.inl (.int, (List.replicate 16 0))), .inr (.inl (.int, (List.replicate 16 0))), .inr (.inl (.int, (List.replicate 16 0))), .inr (.inl (.int, (List.replicate 4 0))), .inr (.inl (.int, (List.replicate 16 0))), .inr (.inl (.int, (List.replicate 32 0)))])) rfl ?_
  refine QTri.steps Ad W 3 (st' := (112, [some (.ref 0), vI x1, vI x2, none, none], [.ref 14, .ref 0], [.inl [.ref 1, .ref 2, .ref 3, .ref 4, .ref 5, .ref 6, .ref 7, .ref 8, .ref 9, .ref 10, .ref 11, .ref 12, .ref 13, .null, .null, .null, .null, .null, .null, .null, .null, .null, .null, .null, .null, .null, .null, .null, .int (f_maxBlocks ob0), .int (f_maxSteps ob0), .int (f_n ob0), .int (f_arranged ob0), .int (f_outCount ob0), .int (f_steps ob0), .int (f_status ob0)], .inr (.inl (.int, (List.replicate 16 0))), .inr (.inl (.int, (List.replicate 16 0))), .inr (.inl (.int, (List.replicate 16 0))), .inr (.inl (.int, (List.replicate 16 0))), .inr (.inl (.int, (List.replicate 16 0))), .inr (.inl (.int, (List.replicate 16 0))), .inr (.inl (.int, (List.replicate 16 0))), .inr (.inl (.int, (List.replicate 16 0))), .inr (.inl (.int, (List.replicate 16 0))), .inr (.inl (.int, (List.replicate 16 0))), .inr (.inl (.int, (List.replicate 4 0))), .inr (.inl (.int, (List.replicate 16 0))), .inr (.inl (.int, (List.replicate 32 0))), .inr (.inl (.int, (List.replicate 32 0)))])) rfl ?_
  refine QTri.steps Ad W 1 (st' := (115, [some (.ref 0), vI x1, vI x2, none, none], [], [.inl [.ref 1, .ref 2, .ref 3, .ref 4, .ref 5, .ref 6, .ref 7, .ref 8, .ref 9, .ref 10, .ref 11, .ref 12, .ref 13, .ref 14, .null, .null, .null, .null, .null, .null, .null, .null, .null, .null, .null, .null, .null, .null, .int (f_maxBlocks ob0), .int (f_maxSteps ob0), .int (f_n ob0), .int (f_arranged ob0), .int (f_outCount ob0), .int (f_steps ob0), .int (f_status ob0)], .inr (.inl (.int, (List.replicate 16 0))), .inr (.inl (.int, (List.replicate 16 0))), .inr (.inl (.int, (List.replicate 16 0))), .inr (.inl (.int, (List.replicate 16 0))), .inr (.inl (.int, (List.replicate 16 0))), .inr (.inl (.int, (List.replicate 16 0))), .inr (.inl (.int, (List.replicate 16 0))), .inr (.inl (.int, (List.replicate 16 0))), .inr (.inl (.int, (List.replicate 16 0))), .inr (.inl (.int, (List.replicate 16 0))), .inr (.inl (.int, (List.replicate 4 0))), .inr (.inl (.int, (List.replicate 16 0))), .inr (.inl (.int, (List.replicate 32 0))), .inr (.inl (.int, (List.replicate 32 0)))])) rfl ?_
  refine QTri.steps Ad W 3 (st' := (120, [some (.ref 0), vI x1, vI x2, none, none], [.ref 15, .ref 0], [.inl [.ref 1, .ref 2, .ref 3, .ref 4, .ref 5, .ref 6, .ref 7, .ref 8, .ref 9, .ref 10, .ref 11, .ref 12, .ref 13, .ref 14, .null, .null, .null, .null, .null, .null, .null, .null, .null, .null, .null, .null, .null, .null, .int (f_maxBlocks ob0), .int (f_maxSteps ob0), .int (f_n ob0), .int (f_arranged ob0), .int (f_outCount ob0), .int (f_steps ob0), .int (f_status ob0)], .inr (.inl (.int, (List.replicate 16 0))), .inr (.inl (.int, (List.replicate 16 0))), .inr (.inl (.int, (List.replicate 16 0))), .inr (.inl (.int, (List.replicate 16 0))), .inr (.inl (.int, (List.replicate 16 0))), .inr (.inl (.int, (List.replicate 16 0))), .inr (.inl (.int, (List.replicate 16 0))), .inr (.inl (.int, (List.replicate 16 0))), .inr (.inl (.int, (List.replicate 16 0))), .inr (.inl (.int, (List.replicate 16 0))), .inr (.inl (.int, (List.replicate 4 0))), .inr (.inl (.int, (List.replicate 16 0))), .inr (.inl (.int, (List.replicate 32 0))), .inr (.inl (.int, (List.replicate 32 0))), .inr (.inl (.int, (List.replicate 16 0)))])) rfl ?_
  refine QTri.steps Ad W 1 (st' := (123, [some (.ref 0), vI x1, vI x2, none, none], [], [.inl [.ref 1, .ref 2, .ref 3, .ref 4, .ref 5, .ref 6, .ref 7, .ref 8, .ref 9, .ref 10, .ref 11, .ref 12, .ref 13, .ref 14, .ref 15, .null, .null, .null, .null, .null, .null, .null, .null, .null, .null, .null, .null, .null, .int (f_maxBlocks ob0), .int (f_maxSteps ob0), .int (f_n ob0), .int (f_arranged ob0), .int (f_outCount ob0), .int (f_steps ob0), .int (f_status ob0)], .inr (.inl (.int, (List.replicate 16 0))), .inr (.inl (.int, (List.replicate 16 0))), .inr (.inl (.int, (List.replicate 16 0))), .inr (.inl (.int, (List.replicate 16 0))), .inr (.inl (.int, (List.replicate 16 0))), .inr (.inl (.int, (List.replicate 16 0))), .inr (.inl (.int, (List.replicate 16 0))), .inr (.inl (.int, (List.replicate 16 0))), .inr (.inl (.int, (List.replicate 16 0))), .inr (.inl (.int, (List.replicate 16 0))), .inr (.inl (.int, (List.replicate 4 0))), .inr (.inl (.int, (List.replicate 16 0))), .inr (.inl (.int, (List.replicate 32 0))), .inr (.inl (.int, (List.replicate 32 0))), .inr (.inl (.int, (List.replicate 16 0)))])) rfl ?_
  refine QTri.steps Ad W 3 (st' := (128, [some (.ref 0), vI x1, vI x2, none, none], [.ref 16, .ref 0], [.inl [.ref 1, .ref 2, .ref 3, .ref 4, .ref 5, .ref 6, .ref 7, .ref 8, .ref 9, .ref 10, .ref 11, .ref 12, .ref 13, .ref 14, .ref 15, .null, .null, .null, .null, .null, .null, .null, .null, .null, .null, .null, .null, .null, .int (f_maxBlocks ob0), .int (f_maxSteps ob0), .int (f_n ob0), .int (f_arranged ob0), .int (f_outCount ob0), .int (f_steps ob0), .int (f_status ob0)], .inr (.inl (.int, (List.replicate 16 0))), .inr (.inl (.int, (List.replicate 16 0))), .inr (.inl (.int, (List.replicate 16 0))), .inr (.inl (.int, (List.replicate 16 0))), .inr (.inl (.int, (List.replicate 16 0))), .inr (.inl (.int, (List.replicate 16 0))), .inr (.inl (.int, (List.replicate 16 0))), .inr (.inl (.int, (List.replicate 16 0))), .inr (.inl (.int, (List.replicate 16 0))), .inr (.inl (.int, (List.replicate 16 0))), .inr (.inl (.int, (List.replicate 4 0))), .inr (.inl (.int, (List.replicate 16 0))), .inr (.inl (.int, (List.replicate 32 0))), .inr (.inl (.int, (List.replicate 32 0))), .inr (.inl (.int, (List.replicate 16 0))), .inr (.inl (.int, (List.replicate 16 0)))])) rfl ?_
  refine QTri.steps Ad W 1 (st' := (131, [some (.ref 0), vI x1, vI x2, none, none], [], [.inl [.ref 1, .ref 2, .ref 3, .ref 4, .ref 5, .ref 6, .ref 7, .ref 8, .ref 9, .ref 10, .ref 11, .ref 12, .ref 13, .ref 14, .ref 15, .ref 16, .null, .null, .null, .null, .null, .null, .null, .null, .null, .null, .null, .null, .int (f_maxBlocks ob0), .int (f_maxSteps ob0), .int (f_n ob0), .int (f_arranged ob0), .int (f_outCount ob0), .int (f_steps ob0), .int (f_status ob0)], .inr (.inl (.int, (List.replicate 16 0))), .inr (.inl (.int, (List.replicate 16 0))), .inr (.inl (.int, (List.replicate 16 0))), .inr (.inl (.int, (List.replicate 16 0))), .inr (.inl (.int, (List.replicate 16 0))), .inr (.inl (.int, (List.replicate 16 0))), .inr (.inl (.int, (List.replicate 16 0))), .inr (.inl (.int, (List.replicate 16 0))), .inr (.inl (.int, (List.replicate 16 0))), .inr (.inl (.int, (List.replicate 16 0))), .inr (.inl (.int, (List.replicate 4 0))), .inr (.inl (.int, (List.replicate 16 0))), .inr (.inl (.int, (List.replicate 32 0))), .inr (.inl (.int, (List.replicate 32 0))), .inr (.inl (.int, (List.replicate 16 0))), .inr (.inl (.int, (List.replicate 16 0)))])) rfl ?_
  refine QTri.steps Ad W 3 (st' := (136, [some (.ref 0), vI x1, vI x2, none, none], [.ref 17, .ref 0], [.inl [.ref 1, .ref 2, .ref 3, .ref 4, .ref 5, .ref 6, .ref 7, .ref 8, .ref 9, .ref 10, .ref 11, .ref 12, .ref 13, .ref 14, .ref 15, .ref 16, .null, .null, .null, .null, .null, .null, .null, .null, .null, .null, .null, .null, .int (f_maxBlocks ob0), .int (f_maxSteps ob0), .int (f_n ob0), .int (f_arranged ob0), .int (f_outCount ob0), .int (f_steps ob0), .int (f_status ob0)], .inr (.inl (.int, (List.replicate 16 0))), .inr (.inl (.int, (List.replicate 16 0))), .inr (.inl (.int, (List.replicate 16 0))), .inr (.inl (.int, (List.replicate 16 0))), .inr (.inl (.int, (List.replicate 16 0))), .inr (.inl (.int, (List.replicate 16 0))), .inr (.inl (.int, (List.replicate 16 0))), .inr (.inl (.int, (List.replicate 16 0))), .inr (.inl (.int, (List.replicate 16 0))), .inr (.inl (.int, (List.replicate 16 0))), .inr (.inl (.int, (List.replicate 4 0))), .inr (.inl (.int, (List.replicate 16 0))), .inr (.inl (.int, (List.replicate 32 0))), .inr (.inl (.int, (List.replicate 32 0))), .inr (.inl (.int, (List.replicate 16 0))), .inr (.inl (.int, (List.replicate 16 0))), .inr (.inl (.int, (List.replicate 16 0)))])) rfl ?_
  refine QTri.steps Ad W 1 (st' := (139, [some (.ref 0), vI x1, vI x2, none, none], [], [.inl [.ref 1, .ref 2, .ref 3, .ref 4, .ref 5, .ref 6, .ref 7, .ref 8, .ref 9, .ref 10, .ref 11, .ref 12, .ref 13, .ref 14, .ref 15, .ref 16, .ref 17, .null, .null, .null, .null, .null, .null, .null, .null, .null, .null, .null, .int (f_maxBlocks ob0), .int (f_maxSteps ob0), .int (f_n ob0), .int (f_arranged ob0), .int (f_outCount ob0), .int (f_steps ob0), .int (f_status ob0)], .inr (.inl (.int, (List.replicate 16 0))), .inr (.inl (.int, (List.replicate 16 0))), .inr (.inl (.int, (List.replicate 16 0))), .inr (.inl (.int, (List.replicate 16 0))), .inr (.inl (.int, (List.replicate 16 0))), .inr (.inl (.int, (List.replicate 16 0))), .inr (.inl (.int, (List.replicate 16 0))), .inr (.inl (.int, (List.replicate 16 0))), .inr (.inl (.int, (List.replicate 16 0))), .inr (.inl (.int, (List.replicate 16 0))), .inr (.inl (.int, (List.replicate 4 0))), .inr (.inl (.int, (List.replicate 16 0))), .inr (.inl (.int, (List.replicate 32 0))), .inr (.inl (.int, (List.replicate 32 0))), .inr (.inl (.int, (List.replicate 16 0))), .inr (.inl (.int, (List.replicate 16 0))), .inr (.inl (.int, (List.replicate 16 0)))])) rfl ?_
  refine QTri.steps Ad W 3 (st' := (144, [some (.ref 0), vI x1, vI x2, none, none], [.ref 18, .ref 0], [.inl [.ref 1, .ref 2, .ref 3, .ref 4, .ref 5, .ref 6, .ref 7, .ref 8, .ref 9, .ref 10, .ref 11, .ref 12, .ref 13, .ref 14, .ref 15, .ref 16, .ref 17, .null, .null, .null, .null, .null, .null, .null, .null, .null, .null, .null, .int (f_maxBlocks ob0), .int (f_maxSteps ob0), .int (f_n ob0), .int (f_arranged ob0), .int (f_outCount ob0), .int (f_steps ob0), .int (f_status ob0)], .inr (.inl (.int, (List.replicate 16 0))), .inr (.inl (.int, (List.replicate 16 0))), .inr (.inl (.int, (List.replicate 16 0))), .inr (.inl (.int, (List.replicate 16 0))), .inr (.inl (.int, (List.replicate 16 0))), .inr (.inl (.int, (List.replicate 16 0))), .inr (.inl (.int, (List.replicate 16 0))), .inr (.inl (.int, (List.replicate 16 0))), .inr (.inl (.int, (List.replicate 16 0))), .inr (.inl (.int, (List.replicate 16 0))), .inr (.inl (.int, (List.replicate 4 0))), .inr (.inl (.int, (List.replicate 16 0))), .inr (.inl (.int, (List.replicate 32 0))), .inr (.inl (.int, (List.replicate 32 0))), .inr (.inl (.int, (List.replicate 16 0))), .inr (.inl (.int, (List.replicate 16 0))), .inr (.inl (.int, (List.replicate 16 0))), .inr (.inl (.int, (List.replicate 16 0)))])) rfl ?_
  refine QTri.steps Ad W 1 (st' := (147, [some (.ref 0), vI x1, vI x2, none, none], [], [.inl [.ref 1, .ref 2, .ref 3, .ref 4, .ref 5, .ref 6, .ref 7, .ref 8, .ref 9, .ref 10, .ref 11, .ref 12, .ref 13, .ref 14, .ref 15, .ref 16, .ref 17, .ref 18, .null, .null, .null, .null, .null, .null, .null, .null, .null, .null, .int (f_maxBlocks ob0), .int (f_maxSteps ob0), .int (f_n ob0), .int (f_arranged ob0), .int (f_outCount ob0), .int (f_steps ob0), .int (f_status ob0)], .inr (.inl (.int, (List.replicate 16 0))), .inr (.inl (.int, (List.replicate 16 0))), .inr (.inl (.int, (List.replicate 16 0))), .inr (.inl (.int, (List.replicate 16 0))), .inr (.inl (.int, (List.replicate 16 0))), .inr (.inl (.int, (List.replicate 16 0))), .inr (.inl (.int, (List.replicate 16 0))), .inr (.inl (.int, (List.replicate 16 0))), .inr (.inl (.int, (List.replicate 16 0))), .inr (.inl (.int, (List.replicate 16 0))), .inr (.inl (.int, (List.replicate 4 0))), .inr (.inl (.int, (List.replicate 16 0))), .inr (.inl (.int, (List.replicate 32 0))), .inr (.inl (.int, (List.replicate 32 0))), .inr (.inl (.int, (List.replicate 16 0))), .inr (.inl (.int, (List.replicate 16 0))), .inr (.inl (.int, (List.replicate 16 0))), .inr (.inl (.int, (List.replicate 16 0)))])) rfl ?_
  refine QTri.steps Ad W 3 (st' := (152, [some (.ref 0), vI x1, vI x2, none, none], [.ref 19, .ref 0], [.inl [.ref 1, .ref 2, .ref 3, .ref 4, .ref 5, .ref 6, .ref 7, .ref 8, .ref 9, .ref 10, .ref 11, .ref 12, .ref 13, .ref 14, .ref 15, .ref 16, .ref 17, .ref 18, .null, .null, .null, .null, .null, .null, .null, .null, .null, .null, .int (f_maxBlocks ob0), .int (f_maxSteps ob0), .int (f_n ob0), .int (f_arranged ob0), .int (f_outCount ob0), .int (f_steps ob0), .int (f_status ob0)], .inr (.inl (.int, (List.replicate 16 0))), .inr (.inl (.int, (List.replicate 16 0))), .inr (.inl (.int, (List.replicate 16 0))), .inr (.inl (.int, (List.replicate 16 0))), .inr (.inl (.int, (List.replicate 16 0))), .inr (.inl (.int, (List.replicate 16 0))), .inr (.inl (.int, (List.replicate 16 0))), .inr (.inl (.int, (List.replicate 16 0))), .inr (.inl (.int, (List.replicate 16 0))), .inr (.inl (.int, (List.replicate 16 0))), .inr (.inl (.int, (List.replicate 4 0))), .inr (.inl (.int, (List.replicate 16 0))), .inr (.inl (.int, (List.replicate 32 0))), .inr (.inl (.int, (List.replicate 32 0))), .inr (.inl (.int, (List.replicate 16 0))), .inr (.inl (.int, (List.replicate 16 0))), .inr (.inl (.int, (List.replicate 16 0))), .inr (.inl (.int, (List.replicate 16 0))), .inr (.inl (.int, (List.replicate 16 0)))])) rfl ?_
  refine QTri.steps Ad W 1 (st' := (155, [some (.ref 0), vI x1, vI x2, none, none], [], [.inl [.ref 1, .ref 2, .ref 3, .ref 4, .ref 5, .ref 6, .ref 7, .ref 8, .ref 9, .ref 10, .ref 11, .ref 12, .ref 13, .ref 14, .ref 15, .ref 16, .ref 17, .ref 18, .ref 19, .null, .null, .null, .null, .null, .null, .null, .null, .null, .int (f_maxBlocks ob0), .int (f_maxSteps ob0), .int (f_n ob0), .int (f_arranged ob0), .int (f_outCount ob0), .int (f_steps ob0), .int (f_status ob0)], .inr (.inl (.int, (List.replicate 16 0))), .inr (.inl (.int, (List.replicate 16 0))), .inr (.inl (.int, (List.replicate 16 0))), .inr (.inl (.int, (List.replicate 16 0))), .inr (.inl (.int, (List.replicate 16 0))), .inr (.inl (.int, (List.replicate 16 0))), .inr (.inl (.int, (List.replicate 16 0))), .inr (.inl (.int, (List.replicate 16 0))), .inr (.inl (.int, (List.replicate 16 0))), .inr (.inl (.int, (List.replicate 16 0))), .inr (.inl (.int, (List.replicate 4 0))), .inr (.inl (.int, (List.replicate 16 0))), .inr (.inl (.int, (List.replicate 32 0))), .inr (.inl (.int, (List.replicate 32 0))), .inr (.inl (.int, (List.replicate 16 0))), .inr (.inl (.int, (List.replicate 16 0))), .inr (.inl (.int, (List.replicate 16 0))), .inr (.inl (.int, (List.replicate 16 0))), .inr (.inl (.int, (List.replicate 16 0)))])) rfl ?_
  refine QTri.steps Ad W 3 (st' := (160, [some (.ref 0), vI x1, vI x2, none, none], [.ref 20, .ref 0], [.inl [.ref 1, .ref 2, .ref 3, .ref 4, .ref 5, .ref 6, .ref 7, .ref 8, .ref 9, .ref 10, .ref 11, .ref 12, .ref 13, .ref 14, .ref 15, .ref 16, .ref 17, .ref 18, .ref 19, .null, .null, .null, .null, .null, .null, .null, .null, .null, .int (f_maxBlocks ob0), .int (f_maxSteps ob0), .int (f_n ob0), .int (f_arranged ob0), .int (f_outCount ob0), .int (f_steps ob0), .int (f_status ob0)], .inr (.inl (.int, (List.replicate 16 0))), .inr (.inl (.int, (List.replicate 16 0))), .inr (.inl (.int, (List.replicate 16 0))), .inr (.inl (.int, (List.replicate 16 0))), .inr (.inl (.int, (List.replicate 16 0))), .inr (.inl (.int, (List.replicate 16 0))), .inr (.inl (.int, (List.replicate 16 0))), .inr (.inl (.int, (List.replicate 16 0))), .inr (.inl (.int, (List.replicate 16 0))), .inr (.inl (.int, (List.replicate 16 0))), .inr (.inl (.int, (List.replicate 4 0))), .inr (.inl (.int, (List.replicate 16 0))), .inr (.inl (.int, (List.replicate 32 0))), .inr (.inl (.int, (List.replicate 32 0))), .inr (.inl (.int, (List.replicate 16 0))), .inr (.inl (.int, (List.replicate 16 0))), .inr (.inl (.int, (List.replicate 16 0))), .inr (.inl (.int, (List.replicate 16 0))), .inr (.inl (.int, (List.replicate 16 0))), .inr (.inl (.int, (List.replicate 16 0)))])) rfl ?_
  refine QTri.steps Ad W 1 (st' := (163, [some (.ref 0), vI x1, vI x2, none, none], [], [.inl [.ref 1, .ref 2, .ref 3, .ref 4, .ref 5, .ref 6, .ref 7, .ref 8, .ref 9, .ref 10, .ref 11, .ref 12, .ref 13, .ref 14, .ref 15, .ref 16, .ref 17, .ref 18, .ref 19, .ref 20, .null, .null, .null, .null, .null, .null, .null, .null, .int (f_maxBlocks ob0), .int (f_maxSteps ob0), .int (f_n ob0), .int (f_arranged ob0), .int (f_outCount ob0), .int (f_steps ob0), .int (f_status ob0)], .inr (.inl (.int, (List.replicate 16 0))), .inr (.inl (.int, (List.replicate 16 0))), .inr (.inl (.int, (List.replicate 16 0))), .inr (.inl (.int, (List.replicate 16 0))), .inr (.inl (.int, (List.replicate 16 0))), .inr (.inl (.int, (List.replicate 16 0))), .inr (.inl (.int, (List.replicate 16 0))), .inr (.inl (.int, (List.replicate 16 0))), .inr (.inl (.int, (List.replicate 16 0))), .inr (.inl (.int, (List.replicate 16 0))), .inr (.inl (.int, (List.replicate 4 0))), .inr (.inl (.int, (List.replicate 16 0))), .inr (.inl (.int, (List.replicate 32 0))), .inr (.inl (.int, (List.replicate 32 0))), .inr (.inl (.int, (List.replicate 16 0))), .inr (.inl (.int, (List.replicate 16 0))), .inr (.inl (.int, (List.replicate 16 0))), .inr (.inl (.int, (List.replicate 16 0))), .inr (.inl (.int, (List.replicate 16 0))), .inr (.inl (.int, (List.replicate 16 0)))])) rfl ?_
  refine QTri.steps Ad W 3 (st' := (168, [some (.ref 0), vI x1, vI x2, none, none], [.ref 21, .ref 0], [.inl [.ref 1, .ref 2, .ref 3, .ref 4, .ref 5, .ref 6, .ref 7, .ref 8, .ref 9, .ref 10, .ref 11, .ref 12, .ref 13, .ref 14, .ref 15, .ref 16, .ref 17, .ref 18, .ref 19, .ref 20, .null, .null, .null, .null, .null, .null, .null, .null, .int (f_maxBlocks ob0), .int (f_maxSteps ob0), .int (f_n ob0), .int (f_arranged ob0), .int (f_outCount ob0), .int (f_steps ob0), .int (f_status ob0)], .inr (.inl (.int, (List.replicate 16 0))), .inr (.inl (.int, (List.replicate 16 0))), .inr (.inl (.int, (List.replicate 16 0))), .inr (.inl (.int, (List.replicate 16 0))), .inr (.inl (.int, (List.replicate 16 0))), .inr (.inl (.int, (List.replicate 16 0))), .inr (.inl (.int, (List.replicate 16 0))), .inr (.inl (.int, (List.replicate 16 0))), .inr (.inl (.int, (List.replicate 16 0))), .inr (.inl (.int, (List.replicate 16 0))), .inr (.inl (.int, (List.replicate 4 0))), .inr (.inl (.int, (List.replicate 16 0))), .inr (.inl (.int, (List.replicate 32 0))), .inr (.inl (.int, (List.replicate 32 0))), .inr (.inl (.int, (List.replicate 16 0))), .inr (.inl (.int, (List.replicate 16 0))), .inr (.inl (.int, (List.replicate 16 0))), .inr (.inl (.int, (List.replicate 16 0))), .inr (.inl (.int, (List.replicate 16 0))), .inr (.inl (.int, (List.replicate 16 0))), .inr (.inl (.int, (List.replicate 16 0)))])) rfl ?_
  refine QTri.steps Ad W 1 (st' := (171, [some (.ref 0), vI x1, vI x2, none, none], [], [.inl [.ref 1, .ref 2, .ref 3, .ref 4, .ref 5, .ref 6, .ref 7, .ref 8, .ref 9, .ref 10, .ref 11, .ref 12, .ref 13, .ref 14, .ref 15, .ref 16, .ref 17, .ref 18, .ref 19, .ref 20, .ref 21, .null, .null, .null, .null, .null, .null, .null, .int (f_maxBlocks ob0), .int (f_maxSteps ob0), .int (f_n ob0), .int (f_arranged ob0), .int (f_outCount ob0), .int (f_steps ob0), .int (f_status ob0)], .inr (.inl (.int, (List.replicate 16 0))), .inr (.inl (.int, (List.replicate 16 0))), .inr (.inl (.int, (List.replicate 16 0))), .inr (.inl (.int, (List.replicate 16 0))), .inr (.inl (.int, (List.replicate 16 0))), .inr (.inl (.int, (List.replicate 16 0))), .inr (.inl (.int, (List.replicate 16 0))), .inr (.inl (.int, (List.replicate 16 0))), .inr (.inl (.int, (List.replicate 16 0))), .inr (.inl (.int, (List.replicate 16 0))), .inr (.inl (.int, (List.replicate 4 0))), .inr (.inl (.int, (List.replicate 16 0))), .inr (.inl (.int, (List.replicate 32 0))), .inr (.inl (.int, (List.replicate 32 0))), .inr (.inl (.int, (List.replicate 16 0))), .inr (.inl (.int, (List.replicate 16 0))), .inr (.inl (.int, (List.replicate 16 0))), .inr (.inl (.int, (List.replicate 16 0))), .inr (.inl (.int, (List.replicate 16 0))), .inr (.inl (.int, (List.replicate 16 0))), .inr (.inl (.int, (List.replicate 16 0)))])) rfl ?_
  refine QTri.steps Ad W 3 (st' := (176, [some (.ref 0), vI x1, vI x2, none, none], [.ref 22, .ref 0], [.inl [.ref 1, .ref 2, .ref 3, .ref 4, .ref 5, .ref 6, .ref 7, .ref 8, .ref 9, .ref 10, .ref 11, .ref 12, .ref 13, .ref 14, .ref 15, .ref 16, .ref 17, .ref 18, .ref 19, .ref 20, .ref 21, .null, .null, .null, .null, .null, .null, .null, .int (f_maxBlocks ob0), .int (f_maxSteps ob0), .int (f_n ob0), .int (f_arranged ob0), .int (f_outCount ob0), .int (f_steps ob0), .int (f_status ob0)], .inr (.inl (.int, (List.replicate 16 0))), .inr (.inl (.int, (List.replicate 16 0))), .inr (.inl (.int, (List.replicate 16 0))), .inr (.inl (.int, (List.replicate 16 0))), .inr (.inl (.int, (List.replicate 16 0))), .inr (.inl (.int, (List.replicate 16 0))), .inr (.inl (.int, (List.replicate 16 0))), .inr (.inl (.int, (List.replicate 16 0))), .inr (.inl (.int, (List.replicate 16 0))), .inr (.inl (.int, (List.replicate 16 0))), .inr (.inl (.int, (List.replicate 4 0))), .inr (.inl (.int, (List.replicate 16 0))), .inr (.inl (.int, (List.replicate 32 0))), .inr (.inl (.int, (List.replicate 32 0))), .inr (.inl (.int, (List.replicate 16 0))), .inr (.inl (.int, (List.replicate 16 0))), .inr (.inl (.int, (List.replicate 16 0))), .inr (.inl (.int, (List.replicate 16 0))), .inr (.inl (.int, (List.replicate 16 0))), .inr (.inl (.int, (List.replicate 16 0))), .inr (.inl (.int, (List.replicate 16 0))), .inr (.inl (.int, (List.replicate 16 0)))])) rfl ?_
  refine QTri.steps Ad W 1 (st' := (179, [some (.ref 0), vI x1, vI x2, none, none], [], [.inl [.ref 1, .ref 2, .ref 3, .ref 4, .ref 5, .ref 6, .ref 7, .ref 8, .ref 9, .ref 10, .ref 11, .ref 12, .ref 13, .ref 14, .ref 15, .ref 16, .ref 17, .ref 18, .ref 19, .ref 20, .ref 21, .ref 22, .null, .null, .null, .null, .null, .null, .int (f_maxBlocks ob0), .int (f_maxSteps ob0), .int (f_n ob0), .int (f_arranged ob0), .int (f_outCount ob0), .int (f_steps ob0), .int (f_status ob0)], .inr (.inl (.int, (List.replicate 16 0))), .inr (.inl (.int, (List.replicate 16 0))), .inr (.inl (.int, (List.replicate 16 0))), .inr (.inl (.int, (List.replicate 16 0))), .inr (.inl (.int, (List.replicate 16 0))), .inr (.inl (.int, (List.replicate 16 0))), .inr (.inl (.int, (List.replicate 16 0))), .inr (.inl (.int, (List.replicate 16 0))), .inr (.inl (.int, (List.replicate 16 0))), .inr (.inl (.int, (List.replicate 16 0))), .inr (.inl (.int, (List.replicate 4 0))), .inr (.inl (.int, (List.replicate 16 0))), .inr (.inl (.int, (List.replicate 32 0))), .inr (.inl (.int, (List.replicate 32 0))), .inr (.inl (.int, (List.replicate 16 0))), .inr (.inl (.int, (List.replicate 16 0))), .inr (.inl (.int, (List.replicate 16 0))), .inr (.inl (.int, (List.replicate 16 0))), .inr (.inl (.int, (List.replicate 16 0))), .inr (.inl (.int, (List.replicate 16 0))), .inr (.inl (.int, (List.replicate 16 0))), .inr (.inl (.int, (List.replicate 16 0)))])) rfl ?_
  refine QTri.steps Ad W 3 (st' := (184, [some (.ref 0), vI x1, vI x2, none, none], [.ref 23, .ref 0], [.inl [.ref 1, .ref 2, .ref 3, .ref 4, .ref 5, .ref 6, .ref 7, .ref 8, .ref 9, .ref 10, .ref 11, .ref 12, .ref 13, .ref 14, .ref 15, .ref 16, .ref 17, .ref 18, .ref 19, .ref 20, .ref 21, .ref 22, .null, .null, .null, .null, .null, .null, .int (f_maxBlocks ob0), .int (f_maxSteps ob0), .int (f_n ob0), .int (f_arranged ob0), .int (f_outCount ob0), .int (f_steps ob0), .int (f_status ob0)], .inr (.inl (.int, (List.replicate 16 0))), .inr (.inl (.int, (List.replicate 16 0))), .inr (.inl (.int, (List.replicate 16 0))), .inr (.inl (.int, (List.replicate 16 0))), .inr (.inl (.int, (List.replicate 16 0))), .inr (.inl (.int, (List.replicate 16 0))), .inr (.inl (.int, (List.replicate 16 0))), .inr (.inl (.int, (List.replicate 16 0))), .inr (.inl (.int, (List.replicate 16 0))), .inr (.inl (.int, (List.replicate 16 0))), .inr (.inl (.int, (List.replicate 4 0))), .inr (.inl (.int, (List.replicate 16 0))), .inr (.inl (.int, (List.replicate 32 0))), .inr (.inl (.int, (List.replicate 32 0))), .inr (.inl (.int, (List.replicate 16 0))), .inr (.inl (.int, (List.replicate 16 0))), .inr (.inl (.int, (List.replicate 16 0))), .inr (.inl (.int, (List.replicate 16 0))), .inr (.inl (.int, (List.replicate 16 0))), .inr (.inl (.int, (List.replicate 16 0))), .inr (.inl (.int, (List.replicate 16 0))), .inr (.inl (.int, (List.replicate 16 0))), .inr (.inl (.int, (List.replicate 16 0)))])) rfl ?_
  refine QTri.steps Ad W 1 (st' := (187, [some (.ref 0), vI x1, vI x2, none, none], [], [.inl [.ref 1, .ref 2, .ref 3, .ref 4, .ref 5, .ref 6, .ref 7, .ref 8, .ref 9, .ref 10, .ref 11, .ref 12, .ref 13, .ref 14, .ref 15, .ref 16, .ref 17, .ref 18, .ref 19, .ref 20, .ref 21, .ref 22, .ref 23, .null, .null, .null, .null, .null, .int (f_maxBlocks ob0), .int (f_maxSteps ob0), .int (f_n ob0), .int (f_arranged ob0), .int (f_outCount ob0), .int (f_steps ob0), .int (f_status ob0)], .inr (.inl (.int, (List.replicate 16 0))), .inr (.inl (.int, (List.replicate 16 0))), .inr (.inl (.int, (List.replicate 16 0))), .inr (.inl (.int, (List.replicate 16 0))), .inr (.inl (.int, (List.replicate 16 0))), .inr (.inl (.int, (List.replicate 16 0))), .inr (.inl (.int, (List.replicate 16 0))), .inr (.inl (.int, (List.replicate 16 0))), .inr (.inl (.int, (List.replicate 16 0))), .inr (.inl (.int, (List.replicate 16 0))), .inr (.inl (.int, (List.replicate 4 0))), .inr (.inl (.int, (List.replicate 16 0))), .inr (.inl (.int, (List.replicate 32 0))), .inr (.inl (.int, (List.replicate 32 0))), .inr (.inl (.int, (List.replicate 16 0))), .inr (.inl (.int, (List.replicate 16 0))), .inr (.inl (.int, (List.replicate 16 0))), .inr (.inl (.int, (List.replicate 16 0))), .inr (.inl (.int, (List.replicate 16 0))), .inr (.inl (.int, (List.replicate 16 0))), .inr (.inl (.int, (List.replicate 16 0))), .inr (.inl (.int, (List.replicate 16 0))), .inr (.inl (.int, (List.replicate 16 0)))])) rfl ?_
  refine QTri.steps Ad W 3 (st' := (192, [some (.ref 0), vI x1, vI x2, none, none], [.ref 24, .ref 0], [.inl [.ref 1, .ref 2, .ref 3, .ref 4, .ref 5, .ref 6, .ref 7, .ref 8, .ref 9, .ref 10, .ref 11, .ref 12, .ref 13, .ref 14, .ref 15, .ref 16, .ref 17, .ref 18, .ref 19, .ref 20, .ref 21, .ref 22, .ref 23, .null, .null, .null, .null, .null, .int (f_maxBlocks ob0), .int (f_maxSteps ob0), .int (f_n ob0), .int (f_arranged ob0), .int (f_outCount ob0), .int (f_steps ob0), .int (f_status ob0)], .inr (.inl (.int, (List.replicate 16 0))), .inr (.inl (.int, (List.replicate 16 0))), .inr (.inl (.int, (List.replicate 16 0))), .inr (.inl (.int, (List.replicate 16 0))), .inr (.inl (.int, (List.replicate 16 0))), .inr (.inl (.int, (List.replicate 16 0))), .inr (.inl (.int, (List.replicate 16 0))), .inr (.inl (.int, (List.replicate 16 0))), .inr (.inl (.int, (List.replicate 16 0))), .inr (.inl (.int, (List.replicate 16 0))), .inr (.inl (.int, (List.replicate 4 0))), .inr (.inl (.int, (List.replicate 16 0))), .inr (.inl (.int, (List.replicate 32 0))), .inr (.inl (.int, (List.replicate 32 0))), .inr (.inl (.int, (List.replicate 16 0))), .inr (.inl (.int, (List.replicate 16 0))), .inr (.inl (.int, (List.replicate 16 0))), .inr (.inl (.int, (List.replicate 16 0))), .inr (.inl (.int, (List.replicate 16 0))), .inr (.inl (.int, (List.replicate 16 0))), .inr (.inl (.int, (List.replicate 16 0))), .inr (.inl (.int, (List.replicate 16 0))), .inr (.inl (.int, (List.replicate 16 0))), .inr (.inl (.int, (List.replicate 16 0)))])) rfl ?_
  refine QTri.steps Ad W 1 (st' := (195, [some (.ref 0), vI x1, vI x2, none, none], [], [.inl [.ref 1, .ref 2, .ref 3, .ref 4, .ref 5, .ref 6, .ref 7, .ref 8, .ref 9, .ref 10, .ref 11, .ref 12, .ref 13, .ref 14, .ref 15, .ref 16, .ref 17, .ref 18, .ref 19, .ref 20, .ref 21, .ref 22, .ref 23, .ref 24, .null, .null, .null, .null, .int (f_maxBlocks ob0), .int (f_maxSteps ob0), .int (f_n ob0), .int (f_arranged ob0), .int (f_outCount ob0), .int (f_steps ob0), .int (f_status ob0)], .inr (.inl (.int, (List.replicate 16 0))), .inr (.inl (.int, (List.replicate 16 0))), .inr (.inl (.int, (List.replicate 16 0))), .inr (.inl (.int, (List.replicate 16 0))), .inr (.inl (.int, (List.replicate 16 0))), .inr (.inl (.int, (List.replicate 16 0))), .inr (.inl (.int, (List.replicate 16 0))), .inr (.inl (.int, (List.replicate 16 0))), .inr (.inl (.int, (List.replicate 16 0))), .inr (.inl (.int, (List.replicate 16 0))), .inr (.inl (.int, (List.replicate 4 0))), .inr (.inl (.int, (List.replicate 16 0))), .inr (.inl (.int, (List.replicate 32 0))), .inr (.inl (.int, (List.replicate 32 0))), .inr (.inl (.int, (List.replicate 16 0))), .inr (.inl (.int, (List.replicate 16 0))), .inr (.inl (.int, (List.replicate 16 0))), .inr (.inl (.int, (List.replicate 16 0))), .inr (.inl (.int, (List.replicate 16 0))), .inr (.inl (.int, (List.replicate 16 0))), .inr (.inl (.int, (List.replicate 16 0))), .inr (.inl (.int, (List.replicate 16 0))), .inr (.inl (.int, (List.replicate 16 0))), .inr (.inl (.int, (List.replicate 16 0)))])) rfl ?_
  refine QTri.steps Ad W 3 (st' := (200, [some (.ref 0), vI x1, vI x2, none, none], [.ref 25, .ref 0], [.inl [.ref 1, .ref 2, .ref 3, .ref 4, .ref 5, .ref 6, .ref 7, .ref 8, .ref 9, .ref 10, .ref 11, .ref 12, .ref 13, .ref 14, .ref 15, .ref 16, .ref 17, .ref 18, .ref 19, .ref 20, .ref 21, .ref 22, .ref 23, .ref 24, .null, .null, .null, .null, .int (f_maxBlocks ob0), .int (f_maxSteps ob0), .int (f_n ob0), .int (f_arranged ob0), .int (f_outCount ob0), .int (f_steps ob0), .int (f_status ob0)], .inr (.inl (.int, (List.replicate 16 0))), .inr (.inl (.int, (List.replicate 16 0))), .inr (.inl (.int, (List.replicate 16 0))), .inr (.inl (.int, (List.replicate 16 0))), .inr (.inl (.int, (List.replicate 16 0))), .inr (.inl (.int, (List.replicate 16 0))), .inr (.inl (.int, (List.replicate 16 0))), .inr (.inl (.int, (List.replicate 16 0))), .inr (.inl (.int, (List.replicate 16 0))), .inr (.inl (.int, (List.replicate 16 0))), .inr (.inl (.int, (List.replicate 4 0))), .inr (.inl (.int, (List.replicate 16 0))), .inr (.inl (.int, (List.replicate 32 0))), .inr (.inl (.int, (List.replicate 32 0))), .inr (.inl (.int, (List.replicate 16 0))), .inr (.inl (.int, (List.replicate 16 0))), .inr (.inl (.int, (List.replicate 16 0))), .inr (.inl (.int, (List.replicate 16 0))), .inr (.inl (.int, (List.replicate 16 0))), .inr (.inl (.int, (List.replicate 16 0))), .inr (.inl (.int, (List.replicate 16 0))), .inr (.inl (.int, (List.replicate 16 0))), .inr (.inl (.int, (List.replicate 16 0))), .inr (.inl (.int, (List.replicate 16 0))), .inr (.inl (.int, (List.replicate 16 0)))])) rfl ?_
  refine QTri.steps Ad W 1 (st' := (203, [some (.ref 0), vI x1, vI x2, none, none], [], [.inl [.ref 1, .ref 2, .ref 3, .ref 4, .ref 5, .ref 6, .ref 7, .ref 8, .ref 9, .ref 10, .ref 11, .ref 12, .ref 13, .ref 14, .ref 15, .ref 16, .ref 17, .ref 18, .ref 19, .ref 20, .ref 21, .ref 22, .ref 23, .ref 24, .ref 25, .null, .null, .null, .int (f_maxBlocks ob0), .int (f_maxSteps ob0), .int (f_n ob0), .int (f_arranged ob0), .int (f_outCount ob0), .int (f_steps ob0), .int (f_status ob0)], .inr (.inl (.int, (List.replicate 16 0))), .inr (.inl (.int, (List.replicate 16 0))), .inr (.inl (.int, (List.replicate 16 0))), .inr (.inl (.int, (List.replicate 16 0))), .inr (.inl (.int, (List.replicate 16 0))), .inr (.inl (.int, (List.replicate 16 0))), .inr (.inl (.int, (List.replicate 16 0))), .inr (.inl (.int, (List.replicate 16 0))), .inr (.inl (.int, (List.replicate 16 0))), .inr (.inl (.int, (List.replicate 16 0))), .inr (.inl (.int, (List.replicate 4 0))), .inr (.inl (.int, (List.replicate 16 0))), .inr (.inl (.int, (List.replicate 32 0))), .inr (.inl (.int, (List.replicate 32 0))), .inr (.inl (.int, (List.replicate 16 0))), .inr (.inl (.int, (List.replicate 16 0))), .inr (.inl (.int, (List.replicate 16 0))), .inr (.inl (.int, (List.replicate 16 0))), .inr (.inl (.int, (List.replicate 16 0))), .inr (.inl (.int, (List.replicate 16 0))), .inr (.inl (.int, (List.replicate 16 0))), .inr (.inl (.int, (List.replicate 16 0))), .inr (.inl (.int, (List.replicate 16 0))), .inr (.inl (.int, (List.replicate 16 0))), .inr (.inl (.int, (List.replicate 16 0)))])) rfl ?_
  refine QTri.steps Ad W 3 (st' := (208, [some (.ref 0), vI x1, vI x2, none, none], [.ref 26, .ref 0], [.inl [.ref 1, .ref 2, .ref 3, .ref 4, .ref 5, .ref 6, .ref 7, .ref 8, .ref 9, .ref 10, .ref 11, .ref 12, .ref 13, .ref 14, .ref 15, .ref 16, .ref 17, .ref 18, .ref 19, .ref 20, .ref 21, .ref 22, .ref 23, .ref 24, .ref 25, .null, .null, .null, .int (f_maxBlocks ob0), .int (f_maxSteps ob0), .int (f_n ob0), .int (f_arranged ob0), .int (f_outCount ob0), .int (f_steps ob0), .int (f_status ob0)], .inr (.inl (.int, (List.replicate 16 0))), .inr (.inl (.int, (List.replicate 16 0))), .inr (.inl (.int, (List.replicate 16 0))), .inr (.inl (.int, (List.replicate 16 0))), .inr (.inl (.int, (List.replicate 16 0))), .inr (.inl (.int, (List.replicate 16 0))), .inr (.inl (.int, (List.replicate 16 0))), .inr (.inl (.int, (List.replicate 16 0))), .inr (.inl (.int, (List.replicate 16 0))), .inr (.inl (.int, (List.replicate 16 0))), .inr (.inl (.int, (List.replicate 4 0))), .inr (.inl (.int, (List.replicate 16 0))), .inr (.inl (.int, (List.replicate 32 0))), .inr (.inl (.int, (List.replicate 32 0))), .inr (.inl (.int, (List.replicate 16 0))), .inr (.inl (.int, (List.replicate 16 0))), .inr (.inl (.int, (List.replicate 16 0))), .inr (.inl (.int, (List.replicate 16 0))), .inr (.inl (.int, (List.replicate 16 0))), .inr (.inl (.int, (List.replicate 16 0))), .inr (.inl (.int, (List.replicate 16 0))), .inr (.inl (.int, (List.replicate 16 0))), .inr (.inl (.int, (List.replicate 16 0))), .inr (.inl (.int, (List.replicate 16 0))), .inr (.inl (.int, (List.replicate 16 0))), .inr (.inl (.int, (List.replicate 16 0)))])) rfl ?_
  refine QTri.steps Ad W 1 (st' := (211, [some (.ref 0), vI x1, vI x2, none, none], [], [.inl [.ref 1, .ref 2, .ref 3, .ref 4, .ref 5, .ref 6, .ref 7, .ref 8, .ref 9, .ref 10, .ref 11, .ref 12, .ref 13, .ref 14, .ref 15, .ref 16, .ref 17, .ref 18, .ref 19, .ref 20, .ref 21, .ref 22, .ref 23, .ref 24, .ref 25, .ref 26, .null, .null, .int (f_maxBlocks ob0), .int (f_maxSteps ob0), .int (f_n ob0), .int (f_arranged ob0), .int (f_outCount ob0), .int (f_steps ob0), .int (f_status ob0)], .inr (.inl (.int, (List.replicate 16 0))), .inr (.inl (.int, (List.replicate 16 0))), .inr (.inl (.int, (List.replicate 16 0))), .inr (.inl (.int, (List.replicate 16 0))), .inr (.inl (.int, (List.replicate 16 0))), .inr (.inl (.int, (List.replicate 16 0))), .inr (.inl (.int, (List.replicate 16 0))), .inr (.inl (.int, (List.replicate 16 0))), .inr (.inl (.int, (List.replicate 16 0))), .inr (.inl (.int, (List.replicate 16 0))), .inr (.inl (.int, (List.replicate 4 0))), .inr (.inl (.int, (List.replicate 16 0))), .inr (.inl (.int, (List.replicate 32 0))), .inr (.inl (.int, (List.replicate 32 0))), .inr (.inl (.int, (List.replicate 16 0))), .inr (.inl (.int, (List.replicate 16 0))), .inr (.inl (.int, (List.replicate 16 0))), .inr (.inl (.int, (List.replicate 16 0))), .inr (.inl (.int, (List.replicate 16 0))), .inr (.inl (.int, (List.replicate 16 0))), .inr (.inl (.int, (List.replicate 16 0))), .inr (.inl (.int, (List.replicate 16 0))), .inr (.inl (.int, (List.replicate 16 0))), .inr (.inl (.int, (List.replicate 16 0))), .inr (.inl (.int, (List.replicate 16 0))), .inr (.inl (.int, (List.replicate 16 0)))])) rfl ?_
  refine QTri.steps Ad W 3 (st' := (216, [some (.ref 0), vI x1, vI x2, none, none], [.ref 27, .ref 0], [.inl [.ref 1, .ref 2, .ref 3, .ref 4, .ref 5, .ref 6, .ref 7, .ref 8, .ref 9, .ref 10, .ref 11, .ref 12, .ref 13, .ref 14, .ref 15, .ref 16, .ref 17, .ref 18, .ref 19, .ref 20, .ref 21, .ref 22, .ref 23, .ref 24, .ref 25, .ref 26, .null, .null, .int (f_maxBlocks ob0), .int (f_maxSteps ob0), .int (f_n ob0), .int (f_arranged ob0), .int (f_outCount ob0), .int (f_steps ob0), .int (f_status ob0)], .inr (.inl (.int, (List.replicate 16 0))), .inr (.inl (.int, (List.replicate 16 0))), .inr (.inl (.int, (List.replicate 16 0))), .inr (.inl (.int, (List.replicate 16 0))), .inr (.inl (.int, (List.replicate 16 0))), .inr (.inl (.int, (List.replicate 16 0))), .inr (.inl (.int, (List.replicate 16 0))), .inr (.inl (.int, (List.replicate 16 0))), .inr (.inl (.int, (List.replicate 16 0))), .inr (.inl (.int, (List.replicate 16 0))), .inr (.inl (.int, (List.replicate 4 0))), .inr (.inl (.int, (List.replicate 16 0))), .inr (.inl (.int, (List.replicate 32 0))), .inr (.inl (.int, (List.replicate 32 0))), .inr (.inl (.int, (List.replicate 16 0))), .inr (.inl (.int, (List.replicate 16 0))), .inr (.inl (.int, (List.replicate 16 0))), .inr (.inl (.int, (List.replicate 16 0))), .inr (.inl (.int, (List.replicate 16 0))), .inr (.inl (.int, (List.replicate 16 0))), .inr (.inl (.int, (List.replicate 16 0))), .inr (.inl (.int, (List.replicate 16 0))), .inr (.inl (.int, (List.replicate 16 0))), .inr (.inl (.int, (List.replicate 16 0))), .inr (.inl (.int, (List.replicate 16 0))), .inr (.inl (.int, (List.replicate 16 0))), .inr (.inl (.int, (List.replicate 16 0)))])) rfl ?_
  refine QTri.steps Ad W 1 (st' := (219, [some (.ref 0), vI x1, vI x2, none, none], [], [.inl [.ref 1, .ref 2, .ref 3, .ref 4, .ref 5, .ref 6, .ref 7, .ref 8, .ref 9, .ref 10, .ref 11, .ref 12, .ref 13, .ref 14, .ref 15, .ref 16, .ref 17, .ref 18, .ref 19, .ref 20, .ref 21, .ref 22, .ref 23, .ref 24, .ref 25, .ref 26, .ref 27, .null, .int (f_maxBlocks ob0), .int (f_maxSteps ob0), .int (f_n ob0), .int (f_arranged ob0), .int (f_outCount ob0), .int (f_steps ob0), .int (f_status ob0)], .inr (.inl (.int, (List.replicate 16 0))), .inr (.inl (.int, (List.replicate 16 0))), .inr (.inl (.int, (List.replicate 16 0))), .inr (.inl (.int, (List.replicate 16 0))), .inr (.inl (.int, (List.replicate 16 0))), .inr (.inl (.int, (List.replicate 16 0))), .inr (.inl (.int, (List.replicate 16 0))), .inr (.inl (.int, (List.replicate 16 0))), .inr (.inl (.int, (List.replicate 16 0))), .inr (.inl (.int, (List.replicate 16 0))), .inr (.inl (.int, (List.replicate 4 0))), .inr (.inl (.int, (List.replicate 16 0))), .inr (.inl (.int, (List.replicate 32 0))), .inr (.inl (.int, (List.replicate 32 0))), .inr (.inl (.int, (List.replicate 16 0))), .inr (.inl (.int, (List.replicate 16 0))), .inr (.inl (.int, (List.replicate 16 0))), .inr (.inl (.int, (List.replicate 16 0))), .inr (.inl (.int, (List.replicate 16 0))), .inr (.inl (.int, (List.replicate 16 0))), .inr (.inl (.int, (List.replicate 16 0))), .inr (.inl (.int, (List.replicate 16 0))), .inr (.inl (.int, (List.replicate 16 0))), .inr (.inl (.int, (List.replicate 16 0))), .inr (.inl (.int, (List.replicate 16 0))), .inr (.inl (.int, (List.replicate 16 0))), .inr (.inl (.int, (List.replicate 16 0)))])) rfl ?_
  refine QTri.steps Ad W 3 (st' := (224, [some (.ref 0), vI x1, vI x2, none, none], [.ref 28, .ref 0], [.inl [.ref 1, .ref 2, .ref 3, .ref 4, .ref 5, .ref 6, .ref 7, .ref 8, .ref 9, .ref 10, .ref 11, .ref 12, .ref 13, .ref 14, .ref 15, .ref 16, .ref 17, .ref 18, .ref 19, .ref 20, .ref 21, .ref 22, .ref 23, .ref 24, .ref 25, .ref 26, .ref 27, .null, .int (f_maxBlocks ob0), .int (f_maxSteps ob0), .int (f_n ob0), .int (f_arranged ob0), .int (f_outCount ob0), .int (f_steps ob0), .int (f_status ob0)], .inr (.inl (.int, (List.replicate 16 0))), .inr (.inl (.int, (List.replicate 16 0))), .inr (.inl (.int, (List.replicate 16 0))), .inr (.inl (.int, (List.replicate 16 0))), .inr (.inl (.int, (List.replicate 16 0))), .inr (.inl (.int, (List.replicate 16 0))), .inr (.inl (.int, (List.replicate 16 0))), .inr (.inl (.int, (List.replicate 16 0))), .inr (.inl (.int, (List.replicate 16 0))), .inr (.inl (.int, (List.replicate 16 0))), .inr (.inl (.int, (List.replicate 4 0))), .inr (.inl (.int, (List.replicate 16 0))), .inr (.inl (.int, (List.replicate 32 0))), .inr (.inl (.int, (List.replicate 32 0))), .inr (.inl (.int, (List.replicate 16 0))), .inr (.inl (.int, (List.replicate 16 0))), .inr (.inl (.int, (List.replicate 16 0))), .inr (.inl (.int, (List.replicate 16 0))), .inr (.inl (.int, (List.replicate 16 0))), .inr (.inl (.int, (List.replicate 16 0))), .inr (.inl (.int, (List.replicate 16 0))), .inr (.inl (.int, (List.replicate 16 0))), .inr (.inl (.int, (List.replicate 16 0))), .inr (.inl (.int, (List.replicate 16 0))), .inr (.inl (.int, (List.replicate 16 0))), .inr (.inl (.int, (List.replicate 16 0))), .inr (.inl (.int, (List.replicate 16 0))), .inr (.inl (.int, (List.replicate 16 0)))])) rfl ?_
  refine QTri.steps Ad W 1 (st' := (227, [some (.ref 0), vI x1, vI x2, none, none], [], (H0v (List.replicate 16 0) (List.replicate 16 0) (List.replicate 16 0) (List.replicate 16 0) (List.replicate 16 0) (List.replicate 16 0) (List.replicate 16 0) (List.replicate 16 0) (List.replicate 16 0) (List.replicate 16 0) (List.replicate 4 0) (List.replicate 16 0) (List.replicate 32 0) (List.replicate 32 0) (List.replicate 16 0) (List.replicate 16 0) (List.replicate 16 0) (List.replicate 16 0) (List.replicate 16 0) (List.replicate 16 0) (List.replicate 16 0) (List.replicate 16 0) (List.replicate 16 0) (List.replicate 16 0) (List.replicate 16 0) (List.replicate 16 0) (List.replicate 16 0) (List.replicate 16 0) (f_maxBlocks ob0) (f_maxSteps ob0) (f_n ob0) (f_arranged ob0) (f_outCount ob0) (f_steps ob0) (f_status ob0)))) rfl ?_
  refine QTri.steps Ad W 4 (st' := (231, [some (.ref 0), vI x1, vI x2, vI x1, none], [.int (2 : Int32), .int x1], (H0v (List.replicate 16 0) (List.replicate 16 0) (List.replicate 16 0) (List.replicate 16 0) (List.replicate 16 0) (List.replicate 16 0) (List.replicate 16 0) (List.replicate 16 0) (List.replicate 16 0) (List.replicate 16 0) (List.replicate 4 0) (List.replicate 16 0) (List.replicate 32 0) (List.replicate 32 0) (List.replicate 16 0) (List.replicate 16 0) (List.replicate 16 0) (List.replicate 16 0) (List.replicate 16 0) (List.replicate 16 0) (List.replicate 16 0) (List.replicate 16 0) (List.replicate 16 0) (List.replicate 16 0) (List.replicate 16 0) (List.replicate 16 0) (List.replicate 16 0) (List.replicate 16 0) (f_maxBlocks ob0) (f_maxSteps ob0) (f_n ob0) (f_arranged ob0) (f_outCount ob0) (f_steps ob0) (f_status ob0)))) rfl ?_
  have K2 : ∀ z1 : Int32, z1 = (if x1 < (2 : Int32) then (2 : Int32) else x1) → QTri l Z n0 ad 1 (236, [some (.ref 0), none, vI x2, vI z1, none], [], (H0v (List.replicate 16 0) (List.replicate 16 0) (List.replicate 16 0) (List.replicate 16 0) (List.replicate 16 0) (List.replicate 16 0) (List.replicate 16 0) (List.replicate 16 0) (List.replicate 16 0) (List.replicate 16 0) (List.replicate 4 0) (List.replicate 16 0) (List.replicate 32 0) (List.replicate 32 0) (List.replicate 16 0) (List.replicate 16 0) (List.replicate 16 0) (List.replicate 16 0) (List.replicate 16 0) (List.replicate 16 0) (List.replicate 16 0) (List.replicate 16 0) (List.replicate 16 0) (List.replicate 16 0) (List.replicate 16 0) (List.replicate 16 0) (List.replicate 16 0) (List.replicate 16 0) (f_maxBlocks ob0) (f_maxSteps ob0) (f_n ob0) (f_arranged ob0) (f_outCount ob0) (f_steps ob0) (f_status ob0))) (none : Option Value) (H0 r) := by
    intro z1 ez1
    subst ez1
    refine QTri.steps Ad W 2 (st' := (239, [some (.ref 0), none, vI x2, vI (if x1 < (2 : Int32) then (2 : Int32) else x1), none], [.int (16 : Int32), .int (if x1 < (2 : Int32) then (2 : Int32) else x1)], (H0v (List.replicate 16 0) (List.replicate 16 0) (List.replicate 16 0) (List.replicate 16 0) (List.replicate 16 0) (List.replicate 16 0) (List.replicate 16 0) (List.replicate 16 0) (List.replicate 16 0) (List.replicate 16 0) (List.replicate 4 0) (List.replicate 16 0) (List.replicate 32 0) (List.replicate 32 0) (List.replicate 16 0) (List.replicate 16 0) (List.replicate 16 0) (List.replicate 16 0) (List.replicate 16 0) (List.replicate 16 0) (List.replicate 16 0) (List.replicate 16 0) (List.replicate 16 0) (List.replicate 16 0) (List.replicate 16 0) (List.replicate 16 0) (List.replicate 16 0) (List.replicate 16 0) (f_maxBlocks ob0) (f_maxSteps ob0) (f_n ob0) (f_arranged ob0) (f_outCount ob0) (f_steps ob0) (f_status ob0)))) rfl ?_
    have K5 : ∀ z4 : Int32, z4 = (if (16 : Int32) < (if x1 < (2 : Int32) then (2 : Int32) else x1) then (16 : Int32) else (if x1 < (2 : Int32) then (2 : Int32) else x1)) → QTri l Z n0 ad 1 (245, [some (.ref 0), none, vI x2, vI z4, none], [], (H0v (List.replicate 16 0) (List.replicate 16 0) (List.replicate 16 0) (List.replicate 16 0) (List.replicate 16 0) (List.replicate 16 0) (List.replicate 16 0) (List.replicate 16 0) (List.replicate 16 0) (List.replicate 16 0) (List.replicate 4 0) (List.replicate 16 0) (List.replicate 32 0) (List.replicate 32 0) (List.replicate 16 0) (List.replicate 16 0) (List.replicate 16 0) (List.replicate 16 0) (List.replicate 16 0) (List.replicate 16 0) (List.replicate 16 0) (List.replicate 16 0) (List.replicate 16 0) (List.replicate 16 0) (List.replicate 16 0) (List.replicate 16 0) (List.replicate 16 0) (List.replicate 16 0) (f_maxBlocks ob0) (f_maxSteps ob0) (f_n ob0) (f_arranged ob0) (f_outCount ob0) (f_steps ob0) (f_status ob0))) (none : Option Value) (H0 r) := by
      intro z4 ez4
      subst ez4
      refine QTri.steps Ad W 4 (st' := (252, [some (.ref 0), none, vI x2, vI (if (16 : Int32) < (if x1 < (2 : Int32) then (2 : Int32) else x1) then (16 : Int32) else (if x1 < (2 : Int32) then (2 : Int32) else x1)), vI x2], [.int (16 : Int32), .int x2], (H0v (List.replicate 16 0) (List.replicate 16 0) (List.replicate 16 0) (List.replicate 16 0) (List.replicate 16 0) (List.replicate 16 0) (List.replicate 16 0) (List.replicate 16 0) (List.replicate 16 0) (List.replicate 16 0) (List.replicate 4 0) (List.replicate 16 0) (List.replicate 32 0) (List.replicate 32 0) (List.replicate 16 0) (List.replicate 16 0) (List.replicate 16 0) (List.replicate 16 0) (List.replicate 16 0) (List.replicate 16 0) (List.replicate 16 0) (List.replicate 16 0) (List.replicate 16 0) (List.replicate 16 0) (List.replicate 16 0) (List.replicate 16 0) (List.replicate 16 0) (List.replicate 16 0) (f_maxBlocks ob0) (f_maxSteps ob0) (f_n ob0) (f_arranged ob0) (f_outCount ob0) (f_steps ob0) (f_status ob0)))) rfl ?_
      have K8 : ∀ z7 : Int32, z7 = (if x2 < (16 : Int32) then (16 : Int32) else x2) → QTri l Z n0 ad 1 (259, [some (.ref 0), none, none, vI (if (16 : Int32) < (if x1 < (2 : Int32) then (2 : Int32) else x1) then (16 : Int32) else (if x1 < (2 : Int32) then (2 : Int32) else x1)), vI z7], [], (H0v (List.replicate 16 0) (List.replicate 16 0) (List.replicate 16 0) (List.replicate 16 0) (List.replicate 16 0) (List.replicate 16 0) (List.replicate 16 0) (List.replicate 16 0) (List.replicate 16 0) (List.replicate 16 0) (List.replicate 4 0) (List.replicate 16 0) (List.replicate 32 0) (List.replicate 32 0) (List.replicate 16 0) (List.replicate 16 0) (List.replicate 16 0) (List.replicate 16 0) (List.replicate 16 0) (List.replicate 16 0) (List.replicate 16 0) (List.replicate 16 0) (List.replicate 16 0) (List.replicate 16 0) (List.replicate 16 0) (List.replicate 16 0) (List.replicate 16 0) (List.replicate 16 0) (f_maxBlocks ob0) (f_maxSteps ob0) (f_n ob0) (f_arranged ob0) (f_outCount ob0) (f_steps ob0) (f_status ob0))) (none : Option Value) (H0 r) := by
        intro z7 ez7
        subst ez7
        refine QTri.steps Ad W 2 (st' := (264, [some (.ref 0), none, none, vI (if (16 : Int32) < (if x1 < (2 : Int32) then (2 : Int32) else x1) then (16 : Int32) else (if x1 < (2 : Int32) then (2 : Int32) else x1)), vI (if x2 < (16 : Int32) then (16 : Int32) else x2)], [.int (1024 : Int32), .int (if x2 < (16 : Int32) then (16 : Int32) else x2)], (H0v (List.replicate 16 0) (List.replicate 16 0) (List.replicate 16 0) (List.replicate 16 0) (List.replicate 16 0) (List.replicate 16 0) (List.replicate 16 0) (List.replicate 16 0) (List.replicate 16 0) (List.replicate 16 0) (List.replicate 4 0) (List.replicate 16 0) (List.replicate 32 0) (List.replicate 32 0) (List.replicate 16 0) (List.replicate 16 0) (List.replicate 16 0) (List.replicate 16 0) (List.replicate 16 0) (List.replicate 16 0) (List.replicate 16 0) (List.replicate 16 0) (List.replicate 16 0) (List.replicate 16 0) (List.replicate 16 0) (List.replicate 16 0) (List.replicate 16 0) (List.replicate 16 0) (f_maxBlocks ob0) (f_maxSteps ob0) (f_n ob0) (f_arranged ob0) (f_outCount ob0) (f_steps ob0) (f_status ob0)))) rfl ?_
        have K11 : ∀ z10 : Int32, z10 = (if (1024 : Int32) < (if x2 < (16 : Int32) then (16 : Int32) else x2) then (1024 : Int32) else (if x2 < (16 : Int32) then (16 : Int32) else x2)) → QTri l Z n0 ad 1 (272, [some (.ref 0), none, none, vI (if (16 : Int32) < (if x1 < (2 : Int32) then (2 : Int32) else x1) then (16 : Int32) else (if x1 < (2 : Int32) then (2 : Int32) else x1)), vI z10], [], (H0v (List.replicate 16 0) (List.replicate 16 0) (List.replicate 16 0) (List.replicate 16 0) (List.replicate 16 0) (List.replicate 16 0) (List.replicate 16 0) (List.replicate 16 0) (List.replicate 16 0) (List.replicate 16 0) (List.replicate 4 0) (List.replicate 16 0) (List.replicate 32 0) (List.replicate 32 0) (List.replicate 16 0) (List.replicate 16 0) (List.replicate 16 0) (List.replicate 16 0) (List.replicate 16 0) (List.replicate 16 0) (List.replicate 16 0) (List.replicate 16 0) (List.replicate 16 0) (List.replicate 16 0) (List.replicate 16 0) (List.replicate 16 0) (List.replicate 16 0) (List.replicate 16 0) (f_maxBlocks ob0) (f_maxSteps ob0) (f_n ob0) (f_arranged ob0) (f_outCount ob0) (f_steps ob0) (f_status ob0))) (none : Option Value) (H0 r) := by
          intro z10 ez10
          subst ez10
          refine QTri.steps Ad W 3 (st' := (277, [some (.ref 0), none, none, vI (if (16 : Int32) < (if x1 < (2 : Int32) then (2 : Int32) else x1) then (16 : Int32) else (if x1 < (2 : Int32) then (2 : Int32) else x1)), vI (if (1024 : Int32) < (if x2 < (16 : Int32) then (16 : Int32) else x2) then (1024 : Int32) else (if x2 < (16 : Int32) then (16 : Int32) else x2))], [], (H0v (List.replicate 16 0) (List.replicate 16 0) (List.replicate 16 0) (List.replicate 16 0) (List.replicate 16 0) (List.replicate 16 0) (List.replicate 16 0) (List.replicate 16 0) (List.replicate 16 0) (List.replicate 16 0) (List.replicate 4 0) (List.replicate 16 0) (List.replicate 32 0) (List.replicate 32 0) (List.replicate 16 0) (List.replicate 16 0) (List.replicate 16 0) (List.replicate 16 0) (List.replicate 16 0) (List.replicate 16 0) (List.replicate 16 0) (List.replicate 16 0) (List.replicate 16 0) (List.replicate 16 0) (List.replicate 16 0) (List.replicate 16 0) (List.replicate 16 0) (List.replicate 16 0) (if (16 : Int32) < (if x1 < (2 : Int32) then (2 : Int32) else x1) then (16 : Int32) else (if x1 < (2 : Int32) then (2 : Int32) else x1)) (f_maxSteps ob0) (f_n ob0) (f_arranged ob0) (f_outCount ob0) (f_steps ob0) (f_status ob0)))) rfl ?_
          refine QTri.steps Ad W 3 (st' := (283, [some (.ref 0), none, none, vI (if (16 : Int32) < (if x1 < (2 : Int32) then (2 : Int32) else x1) then (16 : Int32) else (if x1 < (2 : Int32) then (2 : Int32) else x1)), vI (if (1024 : Int32) < (if x2 < (16 : Int32) then (16 : Int32) else x2) then (1024 : Int32) else (if x2 < (16 : Int32) then (16 : Int32) else x2))], [], (H0v (List.replicate 16 0) (List.replicate 16 0) (List.replicate 16 0) (List.replicate 16 0) (List.replicate 16 0) (List.replicate 16 0) (List.replicate 16 0) (List.replicate 16 0) (List.replicate 16 0) (List.replicate 16 0) (List.replicate 4 0) (List.replicate 16 0) (List.replicate 32 0) (List.replicate 32 0) (List.replicate 16 0) (List.replicate 16 0) (List.replicate 16 0) (List.replicate 16 0) (List.replicate 16 0) (List.replicate 16 0) (List.replicate 16 0) (List.replicate 16 0) (List.replicate 16 0) (List.replicate 16 0) (List.replicate 16 0) (List.replicate 16 0) (List.replicate 16 0) (List.replicate 16 0) (if (16 : Int32) < (if x1 < (2 : Int32) then (2 : Int32) else x1) then (16 : Int32) else (if x1 < (2 : Int32) then (2 : Int32) else x1)) (if (1024 : Int32) < (if x2 < (16 : Int32) then (16 : Int32) else x2) then (1024 : Int32) else (if x2 < (16 : Int32) then (16 : Int32) else x2)) (f_n ob0) (f_arranged ob0) (f_outCount ob0) (f_steps ob0) (f_status ob0)))) rfl ?_
          refine QTri.steps Ad W 3 (st' := (288, [some (.ref 0), none, none, vI (if (16 : Int32) < (if x1 < (2 : Int32) then (2 : Int32) else x1) then (16 : Int32) else (if x1 < (2 : Int32) then (2 : Int32) else x1)), vI (if (1024 : Int32) < (if x2 < (16 : Int32) then (16 : Int32) else x2) then (1024 : Int32) else (if x2 < (16 : Int32) then (16 : Int32) else x2))], [], (H0v (List.replicate 16 0) (List.replicate 16 0) (List.replicate 16 0) (List.replicate 16 0) (List.replicate 16 0) (List.replicate 16 0) (List.replicate 16 0) (List.replicate 16 0) (List.replicate 16 0) (List.replicate 16 0) (List.replicate 4 0) (List.replicate 16 0) (List.replicate 32 0) (List.replicate 32 0) (List.replicate 16 0) (List.replicate 16 0) (List.replicate 16 0) (List.replicate 16 0) (List.replicate 16 0) (List.replicate 16 0) (List.replicate 16 0) (List.replicate 16 0) (List.replicate 16 0) (List.replicate 16 0) (List.replicate 16 0) (List.replicate 16 0) (List.replicate 16 0) (List.replicate 16 0) (if (16 : Int32) < (if x1 < (2 : Int32) then (2 : Int32) else x1) then (16 : Int32) else (if x1 < (2 : Int32) then (2 : Int32) else x1)) (if (1024 : Int32) < (if x2 < (16 : Int32) then (16 : Int32) else x2) then (1024 : Int32) else (if x2 < (16 : Int32) then (16 : Int32) else x2)) (0 : Int32) (f_arranged ob0) (f_outCount ob0) (f_steps ob0) (f_status ob0)))) rfl ?_
          refine QTri.steps Ad W 3 (st' := (293, [some (.ref 0), none, none, vI (if (16 : Int32) < (if x1 < (2 : Int32) then (2 : Int32) else x1) then (16 : Int32) else (if x1 < (2 : Int32) then (2 : Int32) else x1)), vI (if (1024 : Int32) < (if x2 < (16 : Int32) then (16 : Int32) else x2) then (1024 : Int32) else (if x2 < (16 : Int32) then (16 : Int32) else x2))], [], (H0v (List.replicate 16 0) (List.replicate 16 0) (List.replicate 16 0) (List.replicate 16 0) (List.replicate 16 0) (List.replicate 16 0) (List.replicate 16 0) (List.replicate 16 0) (List.replicate 16 0) (List.replicate 16 0) (List.replicate 4 0) (List.replicate 16 0) (List.replicate 32 0) (List.replicate 32 0) (List.replicate 16 0) (List.replicate 16 0) (List.replicate 16 0) (List.replicate 16 0) (List.replicate 16 0) (List.replicate 16 0) (List.replicate 16 0) (List.replicate 16 0) (List.replicate 16 0) (List.replicate 16 0) (List.replicate 16 0) (List.replicate 16 0) (List.replicate 16 0) (List.replicate 16 0) (if (16 : Int32) < (if x1 < (2 : Int32) then (2 : Int32) else x1) then (16 : Int32) else (if x1 < (2 : Int32) then (2 : Int32) else x1)) (if (1024 : Int32) < (if x2 < (16 : Int32) then (16 : Int32) else x2) then (1024 : Int32) else (if x2 < (16 : Int32) then (16 : Int32) else x2)) (0 : Int32) (0 : Int32) (f_outCount ob0) (f_steps ob0) (f_status ob0)))) rfl ?_
          refine QTri.steps Ad W 3 (st' := (298, [some (.ref 0), none, none, vI (if (16 : Int32) < (if x1 < (2 : Int32) then (2 : Int32) else x1) then (16 : Int32) else (if x1 < (2 : Int32) then (2 : Int32) else x1)), vI (if (1024 : Int32) < (if x2 < (16 : Int32) then (16 : Int32) else x2) then (1024 : Int32) else (if x2 < (16 : Int32) then (16 : Int32) else x2))], [], (H0v (List.replicate 16 0) (List.replicate 16 0) (List.replicate 16 0) (List.replicate 16 0) (List.replicate 16 0) (List.replicate 16 0) (List.replicate 16 0) (List.replicate 16 0) (List.replicate 16 0) (List.replicate 16 0) (List.replicate 4 0) (List.replicate 16 0) (List.replicate 32 0) (List.replicate 32 0) (List.replicate 16 0) (List.replicate 16 0) (List.replicate 16 0) (List.replicate 16 0) (List.replicate 16 0) (List.replicate 16 0) (List.replicate 16 0) (List.replicate 16 0) (List.replicate 16 0) (List.replicate 16 0) (List.replicate 16 0) (List.replicate 16 0) (List.replicate 16 0) (List.replicate 16 0) (if (16 : Int32) < (if x1 < (2 : Int32) then (2 : Int32) else x1) then (16 : Int32) else (if x1 < (2 : Int32) then (2 : Int32) else x1)) (if (1024 : Int32) < (if x2 < (16 : Int32) then (16 : Int32) else x2) then (1024 : Int32) else (if x2 < (16 : Int32) then (16 : Int32) else x2)) (0 : Int32) (0 : Int32) (0 : Int32) (f_steps ob0) (f_status ob0)))) rfl ?_
          refine QTri.steps Ad W 3 (st' := (303, [some (.ref 0), none, none, vI (if (16 : Int32) < (if x1 < (2 : Int32) then (2 : Int32) else x1) then (16 : Int32) else (if x1 < (2 : Int32) then (2 : Int32) else x1)), vI (if (1024 : Int32) < (if x2 < (16 : Int32) then (16 : Int32) else x2) then (1024 : Int32) else (if x2 < (16 : Int32) then (16 : Int32) else x2))], [], (H0v (List.replicate 16 0) (List.replicate 16 0) (List.replicate 16 0) (List.replicate 16 0) (List.replicate 16 0) (List.replicate 16 0) (List.replicate 16 0) (List.replicate 16 0) (List.replicate 16 0) (List.replicate 16 0) (List.replicate 4 0) (List.replicate 16 0) (List.replicate 32 0) (List.replicate 32 0) (List.replicate 16 0) (List.replicate 16 0) (List.replicate 16 0) (List.replicate 16 0) (List.replicate 16 0) (List.replicate 16 0) (List.replicate 16 0) (List.replicate 16 0) (List.replicate 16 0) (List.replicate 16 0) (List.replicate 16 0) (List.replicate 16 0) (List.replicate 16 0) (List.replicate 16 0) (if (16 : Int32) < (if x1 < (2 : Int32) then (2 : Int32) else x1) then (16 : Int32) else (if x1 < (2 : Int32) then (2 : Int32) else x1)) (if (1024 : Int32) < (if x2 < (16 : Int32) then (16 : Int32) else x2) then (1024 : Int32) else (if x2 < (16 : Int32) then (16 : Int32) else x2)) (0 : Int32) (0 : Int32) (0 : Int32) (0 : Int32) (f_status ob0)))) rfl ?_
          refine QTri.steps Ad W 3 (st' := (308, [some (.ref 0), none, none, vI (if (16 : Int32) < (if x1 < (2 : Int32) then (2 : Int32) else x1) then (16 : Int32) else (if x1 < (2 : Int32) then (2 : Int32) else x1)), vI (if (1024 : Int32) < (if x2 < (16 : Int32) then (16 : Int32) else x2) then (1024 : Int32) else (if x2 < (16 : Int32) then (16 : Int32) else x2))], [], (H0v (List.replicate 16 0) (List.replicate 16 0) (List.replicate 16 0) (List.replicate 16 0) (List.replicate 16 0) (List.replicate 16 0) (List.replicate 16 0) (List.replicate 16 0) (List.replicate 16 0) (List.replicate 16 0) (List.replicate 4 0) (List.replicate 16 0) (List.replicate 32 0) (List.replicate 32 0) (List.replicate 16 0) (List.replicate 16 0) (List.replicate 16 0) (List.replicate 16 0) (List.replicate 16 0) (List.replicate 16 0) (List.replicate 16 0) (List.replicate 16 0) (List.replicate 16 0) (List.replicate 16 0) (List.replicate 16 0) (List.replicate 16 0) (List.replicate 16 0) (List.replicate 16 0) (if (16 : Int32) < (if x1 < (2 : Int32) then (2 : Int32) else x1) then (16 : Int32) else (if x1 < (2 : Int32) then (2 : Int32) else x1)) (if (1024 : Int32) < (if x2 < (16 : Int32) then (16 : Int32) else x2) then (1024 : Int32) else (if x2 < (16 : Int32) then (16 : Int32) else x2)) (0 : Int32) (0 : Int32) (0 : Int32) (0 : Int32) (0 : Int32)))) rfl ?_
          have E13 : ((H0v (List.replicate 16 0) (List.replicate 16 0) (List.replicate 16 0) (List.replicate 16 0) (List.replicate 16 0) (List.replicate 16 0) (List.replicate 16 0) (List.replicate 16 0) (List.replicate 16 0) (List.replicate 16 0) (List.replicate 4 0) (List.replicate 16 0) (List.replicate 32 0) (List.replicate 32 0) (List.replicate 16 0) (List.replicate 16 0) (List.replicate 16 0) (List.replicate 16 0) (List.replicate 16 0) (List.replicate 16 0) (List.replicate 16 0) (List.replicate 16 0) (List.replicate 16 0) (List.replicate 16 0) (List.replicate 16 0) (List.replicate 16 0) (List.replicate 16 0) (List.replicate 16 0) (if (16 : Int32) < (if x1 < (2 : Int32) then (2 : Int32) else x1) then (16 : Int32) else (if x1 < (2 : Int32) then (2 : Int32) else x1)) (if (1024 : Int32) < (if x2 < (16 : Int32) then (16 : Int32) else x2) then (1024 : Int32) else (if x2 < (16 : Int32) then (16 : Int32) else x2)) (0 : Int32) (0 : Int32) (0 : Int32) (0 : Int32) (0 : Int32)) : QHeap) = (H0 (s_status (s_steps (s_outCount (s_arranged (s_n (s_maxSteps (s_maxBlocks (s_cOther (s_cTaken (s_cTest (s_cKind (s_cImm (s_cS (s_cD (s_cOp (s_order (s_posOf (s_heat (s_chHead (s_chPrev (s_chNext (s_edgeW (s_edgeId (s_outs (s_regs (s_cnt1 (s_cnt0 (s_bT1 (s_bT0 (s_bTest (s_bTerm (s_bImm (s_bS (s_bD (s_bOp ob0 (List.replicate 16 0)) (List.replicate 16 0)) (List.replicate 16 0)) (List.replicate 16 0)) (List.replicate 16 0)) (List.replicate 16 0)) (List.replicate 16 0)) (List.replicate 16 0)) (List.replicate 16 0)) (List.replicate 16 0)) (List.replicate 4 0)) (List.replicate 16 0)) (List.replicate 32 0)) (List.replicate 32 0)) (List.replicate 16 0)) (List.replicate 16 0)) (List.replicate 16 0)) (List.replicate 16 0)) (List.replicate 16 0)) (List.replicate 16 0)) (List.replicate 16 0)) (List.replicate 16 0)) (List.replicate 16 0)) (List.replicate 16 0)) (List.replicate 16 0)) (List.replicate 16 0)) (List.replicate 16 0)) (List.replicate 16 0)) (if (16 : Int32) < (if x1 < (2 : Int32) then (2 : Int32) else x1) then (16 : Int32) else (if x1 < (2 : Int32) then (2 : Int32) else x1))) (if (1024 : Int32) < (if x2 < (16 : Int32) then (16 : Int32) else x2) then (1024 : Int32) else (if x2 < (16 : Int32) then (16 : Int32) else x2))) (0 : Int32)) (0 : Int32)) (0 : Int32)) (0 : Int32)) (0 : Int32))) := by dsimp only [H0, H0v, f_bOp, f_bD, f_bS, f_bImm, f_bTerm, f_bTest, f_bT0, f_bT1, f_cnt0, f_cnt1, f_regs, f_outs, f_edgeId, f_edgeW, f_chNext, f_chPrev, f_chHead, f_heat, f_posOf, f_order, f_cOp, f_cD, f_cS, f_cImm, f_cKind, f_cTest, f_cTaken, f_cOther, f_maxBlocks, f_maxSteps, f_n, f_arranged, f_outCount, f_steps, f_status, s_bOp, s_bD, s_bS, s_bImm, s_bTerm, s_bTest, s_bT0, s_bT1, s_cnt0, s_cnt1, s_regs, s_outs, s_edgeId, s_edgeW, s_chNext, s_chPrev, s_chHead, s_heat, s_posOf, s_order, s_cOp, s_cD, s_cS, s_cImm, s_cKind, s_cTest, s_cTaken, s_cOther, s_maxBlocks, s_maxSteps, s_n, s_arranged, s_outCount, s_steps, s_status, ob0]
          rw [E13]
          obtain rfl := Option.some.inj h
          exact QTri.ret0 rfl rfl
        rcases Classical.em ((1024 : Int32) < (if x2 < (16 : Int32) then (16 : Int32) else x2)) with hc12 | hc12
        · refine QTri.brF Ad W (t := 272) (f := 267) (L := [some (.ref 0), none, none, vI (if (16 : Int32) < (if x1 < (2 : Int32) then (2 : Int32) else x1) then (16 : Int32) else (if x1 < (2 : Int32) then (2 : Int32) else x1)), vI (if x2 < (16 : Int32) then (16 : Int32) else x2)]) (S := []) (σ := (H0v (List.replicate 16 0) (List.replicate 16 0) (List.replicate 16 0) (List.replicate 16 0) (List.replicate 16 0) (List.replicate 16 0) (List.replicate 16 0) (List.replicate 16 0) (List.replicate 16 0) (List.replicate 16 0) (List.replicate 4 0) (List.replicate 16 0) (List.replicate 32 0) (List.replicate 32 0) (List.replicate 16 0) (List.replicate 16 0) (List.replicate 16 0) (List.replicate 16 0) (List.replicate 16 0) (List.replicate 16 0) (List.replicate 16 0) (List.replicate 16 0) (List.replicate 16 0) (List.replicate 16 0) (List.replicate 16 0) (List.replicate 16 0) (List.replicate 16 0) (List.replicate 16 0) (f_maxBlocks ob0) (f_maxSteps ob0) (f_n ob0) (f_arranged ob0) (f_outCount ob0) (f_steps ob0) (f_status ob0))) rfl (XT.ii_le_f hc12) ?_
          refine QTri.steps Ad W 2 (st' := (272, [some (.ref 0), none, none, vI (if (16 : Int32) < (if x1 < (2 : Int32) then (2 : Int32) else x1) then (16 : Int32) else (if x1 < (2 : Int32) then (2 : Int32) else x1)), vI (1024 : Int32)], [], (H0v (List.replicate 16 0) (List.replicate 16 0) (List.replicate 16 0) (List.replicate 16 0) (List.replicate 16 0) (List.replicate 16 0) (List.replicate 16 0) (List.replicate 16 0) (List.replicate 16 0) (List.replicate 16 0) (List.replicate 4 0) (List.replicate 16 0) (List.replicate 32 0) (List.replicate 32 0) (List.replicate 16 0) (List.replicate 16 0) (List.replicate 16 0) (List.replicate 16 0) (List.replicate 16 0) (List.replicate 16 0) (List.replicate 16 0) (List.replicate 16 0) (List.replicate 16 0) (List.replicate 16 0) (List.replicate 16 0) (List.replicate 16 0) (List.replicate 16 0) (List.replicate 16 0) (f_maxBlocks ob0) (f_maxSteps ob0) (f_n ob0) (f_arranged ob0) (f_outCount ob0) (f_steps ob0) (f_status ob0)))) rfl ?_
          exact QTri.mask [true, false, false, true, true] (K11 _ (if_pos hc12).symm)
        · refine QTri.brT Ad W (t := 272) (f := 267) (L := [some (.ref 0), none, none, vI (if (16 : Int32) < (if x1 < (2 : Int32) then (2 : Int32) else x1) then (16 : Int32) else (if x1 < (2 : Int32) then (2 : Int32) else x1)), vI (if x2 < (16 : Int32) then (16 : Int32) else x2)]) (S := []) (σ := (H0v (List.replicate 16 0) (List.replicate 16 0) (List.replicate 16 0) (List.replicate 16 0) (List.replicate 16 0) (List.replicate 16 0) (List.replicate 16 0) (List.replicate 16 0) (List.replicate 16 0) (List.replicate 16 0) (List.replicate 4 0) (List.replicate 16 0) (List.replicate 32 0) (List.replicate 32 0) (List.replicate 16 0) (List.replicate 16 0) (List.replicate 16 0) (List.replicate 16 0) (List.replicate 16 0) (List.replicate 16 0) (List.replicate 16 0) (List.replicate 16 0) (List.replicate 16 0) (List.replicate 16 0) (List.replicate 16 0) (List.replicate 16 0) (List.replicate 16 0) (List.replicate 16 0) (f_maxBlocks ob0) (f_maxSteps ob0) (f_n ob0) (f_arranged ob0) (f_outCount ob0) (f_steps ob0) (f_status ob0))) rfl (XT.ii_le_t hc12) ?_
          exact QTri.mask [true, false, false, true, true] (K11 _ (if_neg hc12).symm)
      rcases Classical.em (x2 < (16 : Int32)) with hc9 | hc9
      · refine QTri.brF Ad W (t := 259) (f := 255) (L := [some (.ref 0), none, vI x2, vI (if (16 : Int32) < (if x1 < (2 : Int32) then (2 : Int32) else x1) then (16 : Int32) else (if x1 < (2 : Int32) then (2 : Int32) else x1)), vI x2]) (S := []) (σ := (H0v (List.replicate 16 0) (List.replicate 16 0) (List.replicate 16 0) (List.replicate 16 0) (List.replicate 16 0) (List.replicate 16 0) (List.replicate 16 0) (List.replicate 16 0) (List.replicate 16 0) (List.replicate 16 0) (List.replicate 4 0) (List.replicate 16 0) (List.replicate 32 0) (List.replicate 32 0) (List.replicate 16 0) (List.replicate 16 0) (List.replicate 16 0) (List.replicate 16 0) (List.replicate 16 0) (List.replicate 16 0) (List.replicate 16 0) (List.replicate 16 0) (List.replicate 16 0) (List.replicate 16 0) (List.replicate 16 0) (List.replicate 16 0) (List.replicate 16 0) (List.replicate 16 0) (f_maxBlocks ob0) (f_maxSteps ob0) (f_n ob0) (f_arranged ob0) (f_outCount ob0) (f_steps ob0) (f_status ob0))) rfl (XT.ii_ge_f hc9) ?_
        refine QTri.steps Ad W 2 (st' := (259, [some (.ref 0), none, vI x2, vI (if (16 : Int32) < (if x1 < (2 : Int32) then (2 : Int32) else x1) then (16 : Int32) else (if x1 < (2 : Int32) then (2 : Int32) else x1)), vI (16 : Int32)], [], (H0v (List.replicate 16 0) (List.replicate 16 0) (List.replicate 16 0) (List.replicate 16 0) (List.replicate 16 0) (List.replicate 16 0) (List.replicate 16 0) (List.replicate 16 0) (List.replicate 16 0) (List.replicate 16 0) (List.replicate 4 0) (List.replicate 16 0) (List.replicate 32 0) (List.replicate 32 0) (List.replicate 16 0) (List.replicate 16 0) (List.replicate 16 0) (List.replicate 16 0) (List.replicate 16 0) (List.replicate 16 0) (List.replicate 16 0) (List.replicate 16 0) (List.replicate 16 0) (List.replicate 16 0) (List.replicate 16 0) (List.replicate 16 0) (List.replicate 16 0) (List.replicate 16 0) (f_maxBlocks ob0) (f_maxSteps ob0) (f_n ob0) (f_arranged ob0) (f_outCount ob0) (f_steps ob0) (f_status ob0)))) rfl ?_
        exact QTri.mask [true, false, false, true, true] (K8 _ (if_pos hc9).symm)
      · refine QTri.brT Ad W (t := 259) (f := 255) (L := [some (.ref 0), none, vI x2, vI (if (16 : Int32) < (if x1 < (2 : Int32) then (2 : Int32) else x1) then (16 : Int32) else (if x1 < (2 : Int32) then (2 : Int32) else x1)), vI x2]) (S := []) (σ := (H0v (List.replicate 16 0) (List.replicate 16 0) (List.replicate 16 0) (List.replicate 16 0) (List.replicate 16 0) (List.replicate 16 0) (List.replicate 16 0) (List.replicate 16 0) (List.replicate 16 0) (List.replicate 16 0) (List.replicate 4 0) (List.replicate 16 0) (List.replicate 32 0) (List.replicate 32 0) (List.replicate 16 0) (List.replicate 16 0) (List.replicate 16 0) (List.replicate 16 0) (List.replicate 16 0) (List.replicate 16 0) (List.replicate 16 0) (List.replicate 16 0) (List.replicate 16 0) (List.replicate 16 0) (List.replicate 16 0) (List.replicate 16 0) (List.replicate 16 0) (List.replicate 16 0) (f_maxBlocks ob0) (f_maxSteps ob0) (f_n ob0) (f_arranged ob0) (f_outCount ob0) (f_steps ob0) (f_status ob0))) rfl (XT.ii_ge_t hc9) ?_
        exact QTri.mask [true, false, false, true, true] (K8 _ (if_neg hc9).symm)
    rcases Classical.em ((16 : Int32) < (if x1 < (2 : Int32) then (2 : Int32) else x1)) with hc6 | hc6
    · refine QTri.brF Ad W (t := 245) (f := 242) (L := [some (.ref 0), none, vI x2, vI (if x1 < (2 : Int32) then (2 : Int32) else x1), none]) (S := []) (σ := (H0v (List.replicate 16 0) (List.replicate 16 0) (List.replicate 16 0) (List.replicate 16 0) (List.replicate 16 0) (List.replicate 16 0) (List.replicate 16 0) (List.replicate 16 0) (List.replicate 16 0) (List.replicate 16 0) (List.replicate 4 0) (List.replicate 16 0) (List.replicate 32 0) (List.replicate 32 0) (List.replicate 16 0) (List.replicate 16 0) (List.replicate 16 0) (List.replicate 16 0) (List.replicate 16 0) (List.replicate 16 0) (List.replicate 16 0) (List.replicate 16 0) (List.replicate 16 0) (List.replicate 16 0) (List.replicate 16 0) (List.replicate 16 0) (List.replicate 16 0) (List.replicate 16 0) (f_maxBlocks ob0) (f_maxSteps ob0) (f_n ob0) (f_arranged ob0) (f_outCount ob0) (f_steps ob0) (f_status ob0))) rfl (XT.ii_le_f hc6) ?_
      refine QTri.steps Ad W 2 (st' := (245, [some (.ref 0), none, vI x2, vI (16 : Int32), none], [], (H0v (List.replicate 16 0) (List.replicate 16 0) (List.replicate 16 0) (List.replicate 16 0) (List.replicate 16 0) (List.replicate 16 0) (List.replicate 16 0) (List.replicate 16 0) (List.replicate 16 0) (List.replicate 16 0) (List.replicate 4 0) (List.replicate 16 0) (List.replicate 32 0) (List.replicate 32 0) (List.replicate 16 0) (List.replicate 16 0) (List.replicate 16 0) (List.replicate 16 0) (List.replicate 16 0) (List.replicate 16 0) (List.replicate 16 0) (List.replicate 16 0) (List.replicate 16 0) (List.replicate 16 0) (List.replicate 16 0) (List.replicate 16 0) (List.replicate 16 0) (List.replicate 16 0) (f_maxBlocks ob0) (f_maxSteps ob0) (f_n ob0) (f_arranged ob0) (f_outCount ob0) (f_steps ob0) (f_status ob0)))) rfl ?_
      exact QTri.mask [true, false, true, true, false] (K5 _ (if_pos hc6).symm)
    · refine QTri.brT Ad W (t := 245) (f := 242) (L := [some (.ref 0), none, vI x2, vI (if x1 < (2 : Int32) then (2 : Int32) else x1), none]) (S := []) (σ := (H0v (List.replicate 16 0) (List.replicate 16 0) (List.replicate 16 0) (List.replicate 16 0) (List.replicate 16 0) (List.replicate 16 0) (List.replicate 16 0) (List.replicate 16 0) (List.replicate 16 0) (List.replicate 16 0) (List.replicate 4 0) (List.replicate 16 0) (List.replicate 32 0) (List.replicate 32 0) (List.replicate 16 0) (List.replicate 16 0) (List.replicate 16 0) (List.replicate 16 0) (List.replicate 16 0) (List.replicate 16 0) (List.replicate 16 0) (List.replicate 16 0) (List.replicate 16 0) (List.replicate 16 0) (List.replicate 16 0) (List.replicate 16 0) (List.replicate 16 0) (List.replicate 16 0) (f_maxBlocks ob0) (f_maxSteps ob0) (f_n ob0) (f_arranged ob0) (f_outCount ob0) (f_steps ob0) (f_status ob0))) rfl (XT.ii_le_t hc6) ?_
      exact QTri.mask [true, false, true, true, false] (K5 _ (if_neg hc6).symm)
  rcases Classical.em (x1 < (2 : Int32)) with hc3 | hc3
  · refine QTri.brF Ad W (t := 236) (f := 234) (L := [some (.ref 0), vI x1, vI x2, vI x1, none]) (S := []) (σ := (H0v (List.replicate 16 0) (List.replicate 16 0) (List.replicate 16 0) (List.replicate 16 0) (List.replicate 16 0) (List.replicate 16 0) (List.replicate 16 0) (List.replicate 16 0) (List.replicate 16 0) (List.replicate 16 0) (List.replicate 4 0) (List.replicate 16 0) (List.replicate 32 0) (List.replicate 32 0) (List.replicate 16 0) (List.replicate 16 0) (List.replicate 16 0) (List.replicate 16 0) (List.replicate 16 0) (List.replicate 16 0) (List.replicate 16 0) (List.replicate 16 0) (List.replicate 16 0) (List.replicate 16 0) (List.replicate 16 0) (List.replicate 16 0) (List.replicate 16 0) (List.replicate 16 0) (f_maxBlocks ob0) (f_maxSteps ob0) (f_n ob0) (f_arranged ob0) (f_outCount ob0) (f_steps ob0) (f_status ob0))) rfl (XT.ii_ge_f hc3) ?_
    refine QTri.steps Ad W 2 (st' := (236, [some (.ref 0), vI x1, vI x2, vI (2 : Int32), none], [], (H0v (List.replicate 16 0) (List.replicate 16 0) (List.replicate 16 0) (List.replicate 16 0) (List.replicate 16 0) (List.replicate 16 0) (List.replicate 16 0) (List.replicate 16 0) (List.replicate 16 0) (List.replicate 16 0) (List.replicate 4 0) (List.replicate 16 0) (List.replicate 32 0) (List.replicate 32 0) (List.replicate 16 0) (List.replicate 16 0) (List.replicate 16 0) (List.replicate 16 0) (List.replicate 16 0) (List.replicate 16 0) (List.replicate 16 0) (List.replicate 16 0) (List.replicate 16 0) (List.replicate 16 0) (List.replicate 16 0) (List.replicate 16 0) (List.replicate 16 0) (List.replicate 16 0) (f_maxBlocks ob0) (f_maxSteps ob0) (f_n ob0) (f_arranged ob0) (f_outCount ob0) (f_steps ob0) (f_status ob0)))) rfl ?_
    exact QTri.mask [true, false, true, true, false] (K2 _ (if_pos hc3).symm)
  · refine QTri.brT Ad W (t := 236) (f := 234) (L := [some (.ref 0), vI x1, vI x2, vI x1, none]) (S := []) (σ := (H0v (List.replicate 16 0) (List.replicate 16 0) (List.replicate 16 0) (List.replicate 16 0) (List.replicate 16 0) (List.replicate 16 0) (List.replicate 16 0) (List.replicate 16 0) (List.replicate 16 0) (List.replicate 16 0) (List.replicate 4 0) (List.replicate 16 0) (List.replicate 32 0) (List.replicate 32 0) (List.replicate 16 0) (List.replicate 16 0) (List.replicate 16 0) (List.replicate 16 0) (List.replicate 16 0) (List.replicate 16 0) (List.replicate 16 0) (List.replicate 16 0) (List.replicate 16 0) (List.replicate 16 0) (List.replicate 16 0) (List.replicate 16 0) (List.replicate 16 0) (List.replicate 16 0) (f_maxBlocks ob0) (f_maxSteps ob0) (f_n ob0) (f_arranged ob0) (f_outCount ob0) (f_steps ob0) (f_status ob0))) rfl (XT.ii_ge_t hc3) ?_
    exact QTri.mask [true, false, true, true, false] (K2 _ (if_neg hc3).symm)
/-- writeTerm(IIII)V -/
def F3 (o : Ob) (x1 : Int32) (x2 : Int32) (x3 : Int32) (x4 : Int32) : Option (Ob) :=
  (aset (f_bTerm o) x1 x2).bind fun y29 => (aset (f_bTest o) x1 x3).bind fun y30 => (aset (f_bT0 o) x1 x4).bind fun y31 => some (s_bT0 (s_bTest (s_bTerm o y29) y30) y31)
theorem tF3 (Ad : QAd n0 ad) (W : QW Z a0) (o : Ob) (x1 : Int32) (x2 : Int32) (x3 : Int32) (x4 : Int32) {r : Ob} (h : F3 o x1 x2 x3 x4 = some r) : QTri l Z n0 ad 3 (0, qentry [.ref 0, .int x1, .int x2, .int x3, .int x4] (pMaxL 3), [], (H0 o)) (none : Option Value) (H0 r) := by
  unfold F3 at h
  refine QTri.steps Ad W 4 (st' := (6, [some (.ref 0), vI x1, vI x2, vI x3, vI x4], [.int x2, .int x1, .ref 5], (H0 o))) rfl ?_
  obtain ⟨y29, hy29, h⟩ := Option.bind_eq_some_iff.mp h
  refine QTri.bnd Ad W (f := fun y29 => (7, [some (.ref 0), vI x1, vI x2, vI x3, vI x4], [], (H0v (f_bOp o) (f_bD o) (f_bS o) (f_bImm o) y29 (f_bTest o) (f_bT0 o) (f_bT1 o) (f_cnt0 o) (f_cnt1 o) (f_regs o) (f_outs o) (f_edgeId o) (f_edgeW o) (f_chNext o) (f_chPrev o) (f_chHead o) (f_heat o) (f_posOf o) (f_order o) (f_cOp o) (f_cD o) (f_cS o) (f_cImm o) (f_cKind o) (f_cTest o) (f_cTaken o) (f_cOther o) (f_maxBlocks o) (f_maxSteps o) (f_n o) (f_arranged o) (f_outCount o) (f_steps o) (f_status o)))) rfl hy29 ?_
  refine QTri.steps Ad W 4 (st' := (13, [some (.ref 0), vI x1, vI x2, vI x3, vI x4], [.int x3, .int x1, .ref 6], (H0v (f_bOp o) (f_bD o) (f_bS o) (f_bImm o) y29 (f_bTest o) (f_bT0 o) (f_bT1 o) (f_cnt0 o) (f_cnt1 o) (f_regs o) (f_outs o) (f_edgeId o) (f_edgeW o) (f_chNext o) (f_chPrev o) (f_chHead o) (f_heat o) (f_posOf o) (f_order o) (f_cOp o) (f_cD o) (f_cS o) (f_cImm o) (f_cKind o) (f_cTest o) (f_cTaken o) (f_cOther o) (f_maxBlocks o) (f_maxSteps o) (f_n o) (f_arranged o) (f_outCount o) (f_steps o) (f_status o)))) rfl ?_
  obtain ⟨y30, hy30, h⟩ := Option.bind_eq_some_iff.mp h
  refine QTri.bnd Ad W (f := fun y30 => (14, [some (.ref 0), vI x1, vI x2, vI x3, vI x4], [], (H0v (f_bOp o) (f_bD o) (f_bS o) (f_bImm o) y29 y30 (f_bT0 o) (f_bT1 o) (f_cnt0 o) (f_cnt1 o) (f_regs o) (f_outs o) (f_edgeId o) (f_edgeW o) (f_chNext o) (f_chPrev o) (f_chHead o) (f_heat o) (f_posOf o) (f_order o) (f_cOp o) (f_cD o) (f_cS o) (f_cImm o) (f_cKind o) (f_cTest o) (f_cTaken o) (f_cOther o) (f_maxBlocks o) (f_maxSteps o) (f_n o) (f_arranged o) (f_outCount o) (f_steps o) (f_status o)))) rfl hy30 ?_
  refine QTri.steps Ad W 4 (st' := (21, [some (.ref 0), vI x1, vI x2, vI x3, vI x4], [.int x4, .int x1, .ref 7], (H0v (f_bOp o) (f_bD o) (f_bS o) (f_bImm o) y29 y30 (f_bT0 o) (f_bT1 o) (f_cnt0 o) (f_cnt1 o) (f_regs o) (f_outs o) (f_edgeId o) (f_edgeW o) (f_chNext o) (f_chPrev o) (f_chHead o) (f_heat o) (f_posOf o) (f_order o) (f_cOp o) (f_cD o) (f_cS o) (f_cImm o) (f_cKind o) (f_cTest o) (f_cTaken o) (f_cOther o) (f_maxBlocks o) (f_maxSteps o) (f_n o) (f_arranged o) (f_outCount o) (f_steps o) (f_status o)))) rfl ?_
  obtain ⟨y31, hy31, h⟩ := Option.bind_eq_some_iff.mp h
  refine QTri.bnd Ad W (f := fun y31 => (22, [some (.ref 0), vI x1, vI x2, vI x3, vI x4], [], (H0v (f_bOp o) (f_bD o) (f_bS o) (f_bImm o) y29 y30 y31 (f_bT1 o) (f_cnt0 o) (f_cnt1 o) (f_regs o) (f_outs o) (f_edgeId o) (f_edgeW o) (f_chNext o) (f_chPrev o) (f_chHead o) (f_heat o) (f_posOf o) (f_order o) (f_cOp o) (f_cD o) (f_cS o) (f_cImm o) (f_cKind o) (f_cTest o) (f_cTaken o) (f_cOther o) (f_maxBlocks o) (f_maxSteps o) (f_n o) (f_arranged o) (f_outCount o) (f_steps o) (f_status o)))) rfl hy31 ?_
  have E32 : ((H0v (f_bOp o) (f_bD o) (f_bS o) (f_bImm o) y29 y30 y31 (f_bT1 o) (f_cnt0 o) (f_cnt1 o) (f_regs o) (f_outs o) (f_edgeId o) (f_edgeW o) (f_chNext o) (f_chPrev o) (f_chHead o) (f_heat o) (f_posOf o) (f_order o) (f_cOp o) (f_cD o) (f_cS o) (f_cImm o) (f_cKind o) (f_cTest o) (f_cTaken o) (f_cOther o) (f_maxBlocks o) (f_maxSteps o) (f_n o) (f_arranged o) (f_outCount o) (f_steps o) (f_status o)) : QHeap) = (H0 (s_bT0 (s_bTest (s_bTerm o y29) y30) y31)) := by dsimp only [H0, H0v, f_bOp, f_bD, f_bS, f_bImm, f_bTerm, f_bTest, f_bT0, f_bT1, f_cnt0, f_cnt1, f_regs, f_outs, f_edgeId, f_edgeW, f_chNext, f_chPrev, f_chHead, f_heat, f_posOf, f_order, f_cOp, f_cD, f_cS, f_cImm, f_cKind, f_cTest, f_cTaken, f_cOther, f_maxBlocks, f_maxSteps, f_n, f_arranged, f_outCount, f_steps, f_status, s_bTerm, s_bTest, s_bT0]
  rw [E32]
  obtain rfl := Option.some.inj h
  exact QTri.ret0 rfl rfl
def B4_2 (v : Int32 × Ob) : Option (((Ob)) ⊕ (Int32 × Ob)) :=
  (if v.1 < (16 : Int32) then (aset (f_cnt0 v.2) v.1 (0 : Int32)).bind fun y37 => (aset (f_cnt1 v.2) v.1 (0 : Int32)).bind fun y38 => some (.inr ((v.1 + (1 : Int32)), (s_cnt1 (s_cnt0 v.2 y37) y38))) else some (.inl v.2))
theorem tB4_2 (Ad : QAd n0 ad) (W : QW Z a0) (v : Int32 × Ob) {r : ((Ob)) ⊕ (Int32 × Ob)} {u : Option Value} {τ : QHeap} (h : B4_2 v = some r) (hx0 : ∀ x : Ob, r = .inl x → u = (none : Option Value) ∧ τ = (H0 x)) (hc : ∀ x : Int32 × Ob, r = .inr x → QTri l Z n0 ad 4 (2, [some (.ref 0), vI x.1], [], (H0 x.2)) u τ) : QTri l Z n0 ad 4 (2, [some (.ref 0), vI v.1], [], (H0 v.2)) u τ := by
  unfold B4_2 at h
  refine QTri.steps Ad W 2 (st' := (5, [some (.ref 0), vI v.1], [.int (16 : Int32), .int v.1], (H0 v.2))) rfl ?_
  rcases qite h with ⟨hc36, h⟩ | ⟨hc36, h⟩
  · refine QTri.brF Ad W (t := 28) (f := 8) (L := [some (.ref 0), vI v.1]) (S := []) (σ := (H0 v.2)) rfl (XT.ii_ge_f hc36) ?_
    refine QTri.steps Ad W 4 (st' := (14, [some (.ref 0), vI v.1], [.int (0 : Int32), .int v.1, .ref 9], (H0 v.2))) rfl ?_
    obtain ⟨y37, hy37, h⟩ := Option.bind_eq_some_iff.mp h
    refine QTri.bnd Ad W (f := fun y37 => (15, [some (.ref 0), vI v.1], [], (H0v (f_bOp v.2) (f_bD v.2) (f_bS v.2) (f_bImm v.2) (f_bTerm v.2) (f_bTest v.2) (f_bT0 v.2) (f_bT1 v.2) y37 (f_cnt1 v.2) (f_regs v.2) (f_outs v.2) (f_edgeId v.2) (f_edgeW v.2) (f_chNext v.2) (f_chPrev v.2) (f_chHead v.2) (f_heat v.2) (f_posOf v.2) (f_order v.2) (f_cOp v.2) (f_cD v.2) (f_cS v.2) (f_cImm v.2) (f_cKind v.2) (f_cTest v.2) (f_cTaken v.2) (f_cOther v.2) (f_maxBlocks v.2) (f_maxSteps v.2) (f_n v.2) (f_arranged v.2) (f_outCount v.2) (f_steps v.2) (f_status v.2)))) rfl hy37 ?_
    refine QTri.steps Ad W 4 (st' := (21, [some (.ref 0), vI v.1], [.int (0 : Int32), .int v.1, .ref 10], (H0v (f_bOp v.2) (f_bD v.2) (f_bS v.2) (f_bImm v.2) (f_bTerm v.2) (f_bTest v.2) (f_bT0 v.2) (f_bT1 v.2) y37 (f_cnt1 v.2) (f_regs v.2) (f_outs v.2) (f_edgeId v.2) (f_edgeW v.2) (f_chNext v.2) (f_chPrev v.2) (f_chHead v.2) (f_heat v.2) (f_posOf v.2) (f_order v.2) (f_cOp v.2) (f_cD v.2) (f_cS v.2) (f_cImm v.2) (f_cKind v.2) (f_cTest v.2) (f_cTaken v.2) (f_cOther v.2) (f_maxBlocks v.2) (f_maxSteps v.2) (f_n v.2) (f_arranged v.2) (f_outCount v.2) (f_steps v.2) (f_status v.2)))) rfl ?_
    obtain ⟨y38, hy38, h⟩ := Option.bind_eq_some_iff.mp h
    refine QTri.bnd Ad W (f := fun y38 => (22, [some (.ref 0), vI v.1], [], (H0v (f_bOp v.2) (f_bD v.2) (f_bS v.2) (f_bImm v.2) (f_bTerm v.2) (f_bTest v.2) (f_bT0 v.2) (f_bT1 v.2) y37 y38 (f_regs v.2) (f_outs v.2) (f_edgeId v.2) (f_edgeW v.2) (f_chNext v.2) (f_chPrev v.2) (f_chHead v.2) (f_heat v.2) (f_posOf v.2) (f_order v.2) (f_cOp v.2) (f_cD v.2) (f_cS v.2) (f_cImm v.2) (f_cKind v.2) (f_cTest v.2) (f_cTaken v.2) (f_cOther v.2) (f_maxBlocks v.2) (f_maxSteps v.2) (f_n v.2) (f_arranged v.2) (f_outCount v.2) (f_steps v.2) (f_status v.2)))) rfl hy38 ?_
    refine QTri.steps Ad W 2 (st' := (2, [some (.ref 0), vI (v.1 + (1 : Int32))], [], (H0v (f_bOp v.2) (f_bD v.2) (f_bS v.2) (f_bImm v.2) (f_bTerm v.2) (f_bTest v.2) (f_bT0 v.2) (f_bT1 v.2) y37 y38 (f_regs v.2) (f_outs v.2) (f_edgeId v.2) (f_edgeW v.2) (f_chNext v.2) (f_chPrev v.2) (f_chHead v.2) (f_heat v.2) (f_posOf v.2) (f_order v.2) (f_cOp v.2) (f_cD v.2) (f_cS v.2) (f_cImm v.2) (f_cKind v.2) (f_cTest v.2) (f_cTaken v.2) (f_cOther v.2) (f_maxBlocks v.2) (f_maxSteps v.2) (f_n v.2) (f_arranged v.2) (f_outCount v.2) (f_steps v.2) (f_status v.2)))) rfl ?_
    have E39 : ((H0v (f_bOp v.2) (f_bD v.2) (f_bS v.2) (f_bImm v.2) (f_bTerm v.2) (f_bTest v.2) (f_bT0 v.2) (f_bT1 v.2) y37 y38 (f_regs v.2) (f_outs v.2) (f_edgeId v.2) (f_edgeW v.2) (f_chNext v.2) (f_chPrev v.2) (f_chHead v.2) (f_heat v.2) (f_posOf v.2) (f_order v.2) (f_cOp v.2) (f_cD v.2) (f_cS v.2) (f_cImm v.2) (f_cKind v.2) (f_cTest v.2) (f_cTaken v.2) (f_cOther v.2) (f_maxBlocks v.2) (f_maxSteps v.2) (f_n v.2) (f_arranged v.2) (f_outCount v.2) (f_steps v.2) (f_status v.2)) : QHeap) = (H0 (s_cnt1 (s_cnt0 v.2 y37) y38)) := by dsimp only [H0, H0v, f_bOp, f_bD, f_bS, f_bImm, f_bTerm, f_bTest, f_bT0, f_bT1, f_cnt0, f_cnt1, f_regs, f_outs, f_edgeId, f_edgeW, f_chNext, f_chPrev, f_chHead, f_heat, f_posOf, f_order, f_cOp, f_cD, f_cS, f_cImm, f_cKind, f_cTest, f_cTaken, f_cOther, f_maxBlocks, f_maxSteps, f_n, f_arranged, f_outCount, f_steps, f_status, s_cnt0, s_cnt1]
    rw [E39]
    obtain rfl := Option.some.inj h
    exact QTri.mask [true, true] (hc ((v.1 + (1 : Int32)), (s_cnt1 (s_cnt0 v.2 y37) y38)) rfl)
  · refine QTri.brT Ad W (t := 28) (f := 8) (L := [some (.ref 0), vI v.1]) (S := []) (σ := (H0 v.2)) rfl (XT.ii_ge_t hc36) ?_
    obtain rfl := Option.some.inj h
    obtain ⟨rfl, rfl⟩ := hx0 v.2 rfl
    exact QTri.ret0 rfl rfl
/-- clearCounts()V -/
def F4 (o : Ob) : Option (Ob) :=
  (loopN (B4_2) qN ((0 : Int32), o)).bind fun e40 => some e40
theorem tF4 (Ad : QAd n0 ad) (W : QW Z a0) (o : Ob) {r : Ob} (h : F4 o = some r) : QTri l Z n0 ad 4 (0, qentry [.ref 0] (pMaxL 4), [], (H0 o)) (none : Option Value) (H0 r) := by
  unfold F4 at h
  refine QTri.steps Ad W 2 (st' := (2, [some (.ref 0), vI (0 : Int32)], [], (H0 o))) rfl ?_
  obtain ⟨e40, he40, h⟩ := Option.bind_eq_some_iff.mp h
  refine QTri.mask [true, true] (loopN_tri (B := B4_2) (T := fun lv41 => QTri l Z n0 ad 4 (2, [some (.ref 0), vI lv41.1], [], (H0 lv41.2)) (none : Option Value) (H0 r)) (KE := fun e40a => (none : Option Value) = (none : Option Value) ∧ (H0 r) = (H0 e40a)) (fun lv41 r hB hE hC => tB4_2 Ad W  lv41 hB (fun x q => hE _ q) (fun x q => hC x q)) qN ((0 : Int32), o) e40 he40 ?_)
  obtain rfl := Option.some.inj h
  exact ⟨rfl, rfl⟩
/-- addBlock(IIII)I -/
def F2 (o : Ob) (x1 : Int32) (x2 : Int32) (x3 : Int32) (x4 : Int32) : Option (Int32 × Ob) :=
  (if (f_arranged o) = (0 : Int32) then (if (f_n o) = (f_maxBlocks o) then some ((-1 : Int32), o) else (if (f_n o) < (16 : Int32) then (if x1 < (0 : Int32) then some ((-1 : Int32), o) else (if (7 : Int32) < x1 then some ((-1 : Int32), o) else (if x2 < (0 : Int32) then some ((-1 : Int32), o) else (if (3 : Int32) < x2 then some ((-1 : Int32), o) else (if x3 < (0 : Int32) then some ((-1 : Int32), o) else (if (3 : Int32) < x3 then some ((-1 : Int32), o) else (aset (f_bOp o) (f_n o) x1).bind fun y24 => (aset (f_bD o) (f_n o) x2).bind fun y25 => (aset (f_bS o) (f_n o) x3).bind fun y26 => (aset (f_bImm o) (f_n o) x4).bind fun y27 => (F3 (s_bImm (s_bS (s_bD (s_bOp o y24) y25) y26) y27) (f_n o) (0 : Int32) (0 : Int32) (0 : Int32)).bind fun r33 => (aset (f_bT1 r33) (f_n o) (0 : Int32)).bind fun y34 => (F4 (s_n (s_bT1 r33 y34) ((f_n o) + (1 : Int32)))).bind fun r42 => some ((f_n o), r42))))))) else some ((-1 : Int32), o))) else some ((-1 : Int32), o))
theorem tF2 (Ad : QAd n0 ad) (W : QW Z a0) (o : Ob) (x1 : Int32) (x2 : Int32) (x3 : Int32) (x4 : Int32) {r : Int32 × Ob} (h : F2 o x1 x2 x3 x4 = some r) : QTri l Z n0 ad 2 (0, qentry [.ref 0, .int x1, .int x2, .int x3, .int x4] (pMaxL 2), [], (H0 o)) (some (Value.int r.1)) (H0 r.2) := by
  unfold F2 at h
  refine QTri.steps Ad W 2 (st' := (4, [some (.ref 0), vI x1, vI x2, vI x3, vI x4, none], [.int (f_arranged o)], (H0 o))) rfl ?_
  rcases qite h with ⟨hc15, h⟩ | ⟨hc15, h⟩
  · refine QTri.brF Ad W (t := 27) (f := 7) (L := [some (.ref 0), vI x1, vI x2, vI x3, vI x4, none]) (S := []) (σ := (H0 o)) rfl (XT.i0_ne_f hc15) ?_
    refine QTri.steps Ad W 4 (st' := (15, [some (.ref 0), vI x1, vI x2, vI x3, vI x4, none], [.int (f_maxBlocks o), .int (f_n o)], (H0 o))) rfl ?_
    rcases qite h with ⟨hc16, h⟩ | ⟨hc16, h⟩
    · refine QTri.brT Ad W (t := 27) (f := 18) (L := [some (.ref 0), vI x1, vI x2, vI x3, vI x4, none]) (S := []) (σ := (H0 o)) rfl (XT.ii_eq_t hc16) ?_
      refine QTri.steps Ad W 1 (st' := (28, [some (.ref 0), vI x1, vI x2, vI x3, vI x4, none], [.int (-1 : Int32)], (H0 o))) rfl ?_
      obtain rfl := Option.some.inj h
      exact QTri.retI rfl rfl
    · refine QTri.brF Ad W (t := 27) (f := 18) (L := [some (.ref 0), vI x1, vI x2, vI x3, vI x4, none]) (S := []) (σ := (H0 o)) rfl (XT.ii_eq_f hc16) ?_
      refine QTri.steps Ad W 3 (st' := (24, [some (.ref 0), vI x1, vI x2, vI x3, vI x4, none], [.int (16 : Int32), .int (f_n o)], (H0 o))) rfl ?_
      rcases qite h with ⟨hc17, h⟩ | ⟨hc17, h⟩
      · refine QTri.brT Ad W (t := 29) (f := 27) (L := [some (.ref 0), vI x1, vI x2, vI x3, vI x4, none]) (S := []) (σ := (H0 o)) rfl (XT.ii_lt_t hc17) ?_
        refine QTri.steps Ad W 1 (st' := (30, [some (.ref 0), vI x1, vI x2, vI x3, vI x4, none], [.int x1], (H0 o))) rfl ?_
        rcases qite h with ⟨hc18, h⟩ | ⟨hc18, h⟩
        · refine QTri.brT Ad W (t := 57) (f := 33) (L := [some (.ref 0), vI x1, vI x2, vI x3, vI x4, none]) (S := []) (σ := (H0 o)) rfl (XT.i0_lt_t hc18) ?_
          refine QTri.steps Ad W 1 (st' := (58, [some (.ref 0), vI x1, vI x2, vI x3, vI x4, none], [.int (-1 : Int32)], (H0 o))) rfl ?_
          obtain rfl := Option.some.inj h
          exact QTri.retI rfl rfl
        · refine QTri.brF Ad W (t := 57) (f := 33) (L := [some (.ref 0), vI x1, vI x2, vI x3, vI x4, none]) (S := []) (σ := (H0 o)) rfl (XT.i0_lt_f hc18) ?_
          refine QTri.steps Ad W 2 (st' := (36, [some (.ref 0), vI x1, vI x2, vI x3, vI x4, none], [.int (7 : Int32), .int x1], (H0 o))) rfl ?_
          rcases qite h with ⟨hc19, h⟩ | ⟨hc19, h⟩
          · refine QTri.brT Ad W (t := 57) (f := 39) (L := [some (.ref 0), vI x1, vI x2, vI x3, vI x4, none]) (S := []) (σ := (H0 o)) rfl (XT.ii_gt_t hc19) ?_
            refine QTri.steps Ad W 1 (st' := (58, [some (.ref 0), vI x1, vI x2, vI x3, vI x4, none], [.int (-1 : Int32)], (H0 o))) rfl ?_
            obtain rfl := Option.some.inj h
            exact QTri.retI rfl rfl
          · refine QTri.brF Ad W (t := 57) (f := 39) (L := [some (.ref 0), vI x1, vI x2, vI x3, vI x4, none]) (S := []) (σ := (H0 o)) rfl (XT.ii_gt_f hc19) ?_
            refine QTri.steps Ad W 1 (st' := (40, [some (.ref 0), vI x1, vI x2, vI x3, vI x4, none], [.int x2], (H0 o))) rfl ?_
            rcases qite h with ⟨hc20, h⟩ | ⟨hc20, h⟩
            · refine QTri.brT Ad W (t := 57) (f := 43) (L := [some (.ref 0), vI x1, vI x2, vI x3, vI x4, none]) (S := []) (σ := (H0 o)) rfl (XT.i0_lt_t hc20) ?_
              refine QTri.steps Ad W 1 (st' := (58, [some (.ref 0), vI x1, vI x2, vI x3, vI x4, none], [.int (-1 : Int32)], (H0 o))) rfl ?_
              obtain rfl := Option.some.inj h
              exact QTri.retI rfl rfl
            · refine QTri.brF Ad W (t := 57) (f := 43) (L := [some (.ref 0), vI x1, vI x2, vI x3, vI x4, none]) (S := []) (σ := (H0 o)) rfl (XT.i0_lt_f hc20) ?_
              refine QTri.steps Ad W 2 (st' := (45, [some (.ref 0), vI x1, vI x2, vI x3, vI x4, none], [.int (3 : Int32), .int x2], (H0 o))) rfl ?_
              rcases qite h with ⟨hc21, h⟩ | ⟨hc21, h⟩
              · refine QTri.brT Ad W (t := 57) (f := 48) (L := [some (.ref 0), vI x1, vI x2, vI x3, vI x4, none]) (S := []) (σ := (H0 o)) rfl (XT.ii_gt_t hc21) ?_
                refine QTri.steps Ad W 1 (st' := (58, [some (.ref 0), vI x1, vI x2, vI x3, vI x4, none], [.int (-1 : Int32)], (H0 o))) rfl ?_
                obtain rfl := Option.some.inj h
                exact QTri.retI rfl rfl
              · refine QTri.brF Ad W (t := 57) (f := 48) (L := [some (.ref 0), vI x1, vI x2, vI x3, vI x4, none]) (S := []) (σ := (H0 o)) rfl (XT.ii_gt_f hc21) ?_
                refine QTri.steps Ad W 1 (st' := (49, [some (.ref 0), vI x1, vI x2, vI x3, vI x4, none], [.int x3], (H0 o))) rfl ?_
                rcases qite h with ⟨hc22, h⟩ | ⟨hc22, h⟩
                · refine QTri.brT Ad W (t := 57) (f := 52) (L := [some (.ref 0), vI x1, vI x2, vI x3, vI x4, none]) (S := []) (σ := (H0 o)) rfl (XT.i0_lt_t hc22) ?_
                  refine QTri.steps Ad W 1 (st' := (58, [some (.ref 0), vI x1, vI x2, vI x3, vI x4, none], [.int (-1 : Int32)], (H0 o))) rfl ?_
                  obtain rfl := Option.some.inj h
                  exact QTri.retI rfl rfl
                · refine QTri.brF Ad W (t := 57) (f := 52) (L := [some (.ref 0), vI x1, vI x2, vI x3, vI x4, none]) (S := []) (σ := (H0 o)) rfl (XT.i0_lt_f hc22) ?_
                  refine QTri.steps Ad W 2 (st' := (54, [some (.ref 0), vI x1, vI x2, vI x3, vI x4, none], [.int (3 : Int32), .int x3], (H0 o))) rfl ?_
                  rcases qite h with ⟨hc23, h⟩ | ⟨hc23, h⟩
                  · refine QTri.brF Ad W (t := 59) (f := 57) (L := [some (.ref 0), vI x1, vI x2, vI x3, vI x4, none]) (S := []) (σ := (H0 o)) rfl (XT.ii_le_f hc23) ?_
                    refine QTri.steps Ad W 1 (st' := (58, [some (.ref 0), vI x1, vI x2, vI x3, vI x4, none], [.int (-1 : Int32)], (H0 o))) rfl ?_
                    obtain rfl := Option.some.inj h
                    exact QTri.retI rfl rfl
                  · refine QTri.brT Ad W (t := 59) (f := 57) (L := [some (.ref 0), vI x1, vI x2, vI x3, vI x4, none]) (S := []) (σ := (H0 o)) rfl (XT.ii_le_t hc23) ?_
                    refine QTri.steps Ad W 7 (st' := (72, [some (.ref 0), vI x1, vI x2, vI x3, vI x4, vI (f_n o)], [.int x1, .int (f_n o), .ref 1], (H0 o))) rfl ?_
                    obtain ⟨y24, hy24, h⟩ := Option.bind_eq_some_iff.mp h
                    refine QTri.bnd Ad W (f := fun y24 => (73, [some (.ref 0), vI x1, vI x2, vI x3, vI x4, vI (f_n o)], [], (H0v y24 (f_bD o) (f_bS o) (f_bImm o) (f_bTerm o) (f_bTest o) (f_bT0 o) (f_bT1 o) (f_cnt0 o) (f_cnt1 o) (f_regs o) (f_outs o) (f_edgeId o) (f_edgeW o) (f_chNext o) (f_chPrev o) (f_chHead o) (f_heat o) (f_posOf o) (f_order o) (f_cOp o) (f_cD o) (f_cS o) (f_cImm o) (f_cKind o) (f_cTest o) (f_cTaken o) (f_cOther o) (f_maxBlocks o) (f_maxSteps o) (f_n o) (f_arranged o) (f_outCount o) (f_steps o) (f_status o)))) rfl hy24 ?_
                    refine QTri.steps Ad W 4 (st' := (80, [some (.ref 0), vI x1, vI x2, vI x3, vI x4, vI (f_n o)], [.int x2, .int (f_n o), .ref 2], (H0v y24 (f_bD o) (f_bS o) (f_bImm o) (f_bTerm o) (f_bTest o) (f_bT0 o) (f_bT1 o) (f_cnt0 o) (f_cnt1 o) (f_regs o) (f_outs o) (f_edgeId o) (f_edgeW o) (f_chNext o) (f_chPrev o) (f_chHead o) (f_heat o) (f_posOf o) (f_order o) (f_cOp o) (f_cD o) (f_cS o) (f_cImm o) (f_cKind o) (f_cTest o) (f_cTaken o) (f_cOther o) (f_maxBlocks o) (f_maxSteps o) (f_n o) (f_arranged o) (f_outCount o) (f_steps o) (f_status o)))) rfl ?_
                    obtain ⟨y25, hy25, h⟩ := Option.bind_eq_some_iff.mp h
                    refine QTri.bnd Ad W (f := fun y25 => (81, [some (.ref 0), vI x1, vI x2, vI x3, vI x4, vI (f_n o)], [], (H0v y24 y25 (f_bS o) (f_bImm o) (f_bTerm o) (f_bTest o) (f_bT0 o) (f_bT1 o) (f_cnt0 o) (f_cnt1 o) (f_regs o) (f_outs o) (f_edgeId o) (f_edgeW o) (f_chNext o) (f_chPrev o) (f_chHead o) (f_heat o) (f_posOf o) (f_order o) (f_cOp o) (f_cD o) (f_cS o) (f_cImm o) (f_cKind o) (f_cTest o) (f_cTaken o) (f_cOther o) (f_maxBlocks o) (f_maxSteps o) (f_n o) (f_arranged o) (f_outCount o) (f_steps o) (f_status o)))) rfl hy25 ?_
                    refine QTri.steps Ad W 4 (st' := (88, [some (.ref 0), vI x1, vI x2, vI x3, vI x4, vI (f_n o)], [.int x3, .int (f_n o), .ref 3], (H0v y24 y25 (f_bS o) (f_bImm o) (f_bTerm o) (f_bTest o) (f_bT0 o) (f_bT1 o) (f_cnt0 o) (f_cnt1 o) (f_regs o) (f_outs o) (f_edgeId o) (f_edgeW o) (f_chNext o) (f_chPrev o) (f_chHead o) (f_heat o) (f_posOf o) (f_order o) (f_cOp o) (f_cD o) (f_cS o) (f_cImm o) (f_cKind o) (f_cTest o) (f_cTaken o) (f_cOther o) (f_maxBlocks o) (f_maxSteps o) (f_n o) (f_arranged o) (f_outCount o) (f_steps o) (f_status o)))) rfl ?_
                    obtain ⟨y26, hy26, h⟩ := Option.bind_eq_some_iff.mp h
                    refine QTri.bnd Ad W (f := fun y26 => (89, [some (.ref 0), vI x1, vI x2, vI x3, vI x4, vI (f_n o)], [], (H0v y24 y25 y26 (f_bImm o) (f_bTerm o) (f_bTest o) (f_bT0 o) (f_bT1 o) (f_cnt0 o) (f_cnt1 o) (f_regs o) (f_outs o) (f_edgeId o) (f_edgeW o) (f_chNext o) (f_chPrev o) (f_chHead o) (f_heat o) (f_posOf o) (f_order o) (f_cOp o) (f_cD o) (f_cS o) (f_cImm o) (f_cKind o) (f_cTest o) (f_cTaken o) (f_cOther o) (f_maxBlocks o) (f_maxSteps o) (f_n o) (f_arranged o) (f_outCount o) (f_steps o) (f_status o)))) rfl hy26 ?_
                    refine QTri.steps Ad W 4 (st' := (97, [some (.ref 0), vI x1, vI x2, vI x3, vI x4, vI (f_n o)], [.int x4, .int (f_n o), .ref 4], (H0v y24 y25 y26 (f_bImm o) (f_bTerm o) (f_bTest o) (f_bT0 o) (f_bT1 o) (f_cnt0 o) (f_cnt1 o) (f_regs o) (f_outs o) (f_edgeId o) (f_edgeW o) (f_chNext o) (f_chPrev o) (f_chHead o) (f_heat o) (f_posOf o) (f_order o) (f_cOp o) (f_cD o) (f_cS o) (f_cImm o) (f_cKind o) (f_cTest o) (f_cTaken o) (f_cOther o) (f_maxBlocks o) (f_maxSteps o) (f_n o) (f_arranged o) (f_outCount o) (f_steps o) (f_status o)))) rfl ?_
                    obtain ⟨y27, hy27, h⟩ := Option.bind_eq_some_iff.mp h
                    refine QTri.bnd Ad W (f := fun y27 => (98, [some (.ref 0), vI x1, vI x2, vI x3, vI x4, vI (f_n o)], [], (H0v y24 y25 y26 y27 (f_bTerm o) (f_bTest o) (f_bT0 o) (f_bT1 o) (f_cnt0 o) (f_cnt1 o) (f_regs o) (f_outs o) (f_edgeId o) (f_edgeW o) (f_chNext o) (f_chPrev o) (f_chHead o) (f_heat o) (f_posOf o) (f_order o) (f_cOp o) (f_cD o) (f_cS o) (f_cImm o) (f_cKind o) (f_cTest o) (f_cTaken o) (f_cOther o) (f_maxBlocks o) (f_maxSteps o) (f_n o) (f_arranged o) (f_outCount o) (f_steps o) (f_status o)))) rfl hy27 ?_
                    refine QTri.steps Ad W 5 (st' := (104, [some (.ref 0), vI x1, vI x2, vI x3, vI x4, vI (f_n o)], [.int (0 : Int32), .int (0 : Int32), .int (0 : Int32), .int (f_n o), .ref 0], (H0v y24 y25 y26 y27 (f_bTerm o) (f_bTest o) (f_bT0 o) (f_bT1 o) (f_cnt0 o) (f_cnt1 o) (f_regs o) (f_outs o) (f_edgeId o) (f_edgeW o) (f_chNext o) (f_chPrev o) (f_chHead o) (f_heat o) (f_posOf o) (f_order o) (f_cOp o) (f_cD o) (f_cS o) (f_cImm o) (f_cKind o) (f_cTest o) (f_cTaken o) (f_cOther o) (f_maxBlocks o) (f_maxSteps o) (f_n o) (f_arranged o) (f_outCount o) (f_steps o) (f_status o)))) rfl ?_
                    have E28 : ((H0v y24 y25 y26 y27 (f_bTerm o) (f_bTest o) (f_bT0 o) (f_bT1 o) (f_cnt0 o) (f_cnt1 o) (f_regs o) (f_outs o) (f_edgeId o) (f_edgeW o) (f_chNext o) (f_chPrev o) (f_chHead o) (f_heat o) (f_posOf o) (f_order o) (f_cOp o) (f_cD o) (f_cS o) (f_cImm o) (f_cKind o) (f_cTest o) (f_cTaken o) (f_cOther o) (f_maxBlocks o) (f_maxSteps o) (f_n o) (f_arranged o) (f_outCount o) (f_steps o) (f_status o)) : QHeap) = (H0 (s_bImm (s_bS (s_bD (s_bOp o y24) y25) y26) y27)) := by dsimp only [H0, H0v, f_bOp, f_bD, f_bS, f_bImm, f_bTerm, f_bTest, f_bT0, f_bT1, f_cnt0, f_cnt1, f_regs, f_outs, f_edgeId, f_edgeW, f_chNext, f_chPrev, f_chHead, f_heat, f_posOf, f_order, f_cOp, f_cD, f_cS, f_cImm, f_cKind, f_cTest, f_cTaken, f_cOther, f_maxBlocks, f_maxSteps, f_n, f_arranged, f_outCount, f_steps, f_status, s_bOp, s_bD, s_bS, s_bImm]
                    rw [E28]
                    obtain ⟨r33, hr33, h⟩ := Option.bind_eq_some_iff.mp h
                    refine QTri.callP W (a := 0) (as := [.int (f_n o), .int (0 : Int32), .int (0 : Int32), .int (0 : Int32)]) (rest := []) (w := none) (σ₁ := (H0 r33)) rfl rfl rfl rfl rfl rfl rfl rfl (tF3 Ad W (s_bImm (s_bS (s_bD (s_bOp o y24) y25) y26) y27) (f_n o) (0 : Int32) (0 : Int32) (0 : Int32) hr33) ?_
                    refine QTri.steps Ad W 4 (st' := (114, [some (.ref 0), vI x1, vI x2, vI x3, vI x4, vI (f_n o)], [.int (0 : Int32), .int (f_n o), .ref 8], (H0 r33))) rfl ?_
                    obtain ⟨y34, hy34, h⟩ := Option.bind_eq_some_iff.mp h
                    refine QTri.bnd Ad W (f := fun y34 => (115, [some (.ref 0), vI x1, vI x2, vI x3, vI x4, vI (f_n o)], [], (H0v (f_bOp r33) (f_bD r33) (f_bS r33) (f_bImm r33) (f_bTerm r33) (f_bTest r33) (f_bT0 r33) y34 (f_cnt0 r33) (f_cnt1 r33) (f_regs r33) (f_outs r33) (f_edgeId r33) (f_edgeW r33) (f_chNext r33) (f_chPrev r33) (f_chHead r33) (f_heat r33) (f_posOf r33) (f_order r33) (f_cOp r33) (f_cD r33) (f_cS r33) (f_cImm r33) (f_cKind r33) (f_cTest r33) (f_cTaken r33) (f_cOther r33) (f_maxBlocks r33) (f_maxSteps r33) (f_n r33) (f_arranged r33) (f_outCount r33) (f_steps r33) (f_status r33)))) rfl hy34 ?_
                    refine QTri.steps Ad W 5 (st' := (123, [some (.ref 0), vI x1, vI x2, vI x3, vI x4, vI (f_n o)], [], (H0v (f_bOp r33) (f_bD r33) (f_bS r33) (f_bImm r33) (f_bTerm r33) (f_bTest r33) (f_bT0 r33) y34 (f_cnt0 r33) (f_cnt1 r33) (f_regs r33) (f_outs r33) (f_edgeId r33) (f_edgeW r33) (f_chNext r33) (f_chPrev r33) (f_chHead r33) (f_heat r33) (f_posOf r33) (f_order r33) (f_cOp r33) (f_cD r33) (f_cS r33) (f_cImm r33) (f_cKind r33) (f_cTest r33) (f_cTaken r33) (f_cOther r33) (f_maxBlocks r33) (f_maxSteps r33) ((f_n o) + (1 : Int32)) (f_arranged r33) (f_outCount r33) (f_steps r33) (f_status r33)))) rfl ?_
                    refine QTri.steps Ad W 1 (st' := (124, [some (.ref 0), vI x1, vI x2, vI x3, vI x4, vI (f_n o)], [.ref 0], (H0v (f_bOp r33) (f_bD r33) (f_bS r33) (f_bImm r33) (f_bTerm r33) (f_bTest r33) (f_bT0 r33) y34 (f_cnt0 r33) (f_cnt1 r33) (f_regs r33) (f_outs r33) (f_edgeId r33) (f_edgeW r33) (f_chNext r33) (f_chPrev r33) (f_chHead r33) (f_heat r33) (f_posOf r33) (f_order r33) (f_cOp r33) (f_cD r33) (f_cS r33) (f_cImm r33) (f_cKind r33) (f_cTest r33) (f_cTaken r33) (f_cOther r33) (f_maxBlocks r33) (f_maxSteps r33) ((f_n o) + (1 : Int32)) (f_arranged r33) (f_outCount r33) (f_steps r33) (f_status r33)))) rfl ?_
                    have E35 : ((H0v (f_bOp r33) (f_bD r33) (f_bS r33) (f_bImm r33) (f_bTerm r33) (f_bTest r33) (f_bT0 r33) y34 (f_cnt0 r33) (f_cnt1 r33) (f_regs r33) (f_outs r33) (f_edgeId r33) (f_edgeW r33) (f_chNext r33) (f_chPrev r33) (f_chHead r33) (f_heat r33) (f_posOf r33) (f_order r33) (f_cOp r33) (f_cD r33) (f_cS r33) (f_cImm r33) (f_cKind r33) (f_cTest r33) (f_cTaken r33) (f_cOther r33) (f_maxBlocks r33) (f_maxSteps r33) ((f_n o) + (1 : Int32)) (f_arranged r33) (f_outCount r33) (f_steps r33) (f_status r33)) : QHeap) = (H0 (s_n (s_bT1 r33 y34) ((f_n o) + (1 : Int32)))) := by dsimp only [H0, H0v, f_bOp, f_bD, f_bS, f_bImm, f_bTerm, f_bTest, f_bT0, f_bT1, f_cnt0, f_cnt1, f_regs, f_outs, f_edgeId, f_edgeW, f_chNext, f_chPrev, f_chHead, f_heat, f_posOf, f_order, f_cOp, f_cD, f_cS, f_cImm, f_cKind, f_cTest, f_cTaken, f_cOther, f_maxBlocks, f_maxSteps, f_n, f_arranged, f_outCount, f_steps, f_status, s_bT1, s_n]
                    rw [E35]
                    obtain ⟨r42, hr42, h⟩ := Option.bind_eq_some_iff.mp h
                    refine QTri.callP W (a := 0) (as := []) (rest := []) (w := none) (σ₁ := (H0 r42)) rfl rfl rfl rfl rfl rfl rfl rfl (tF4 Ad W (s_n (s_bT1 r33 y34) ((f_n o) + (1 : Int32))) hr42) ?_
                    refine QTri.steps Ad W 1 (st' := (129, [some (.ref 0), vI x1, vI x2, vI x3, vI x4, vI (f_n o)], [.int (f_n o)], (H0 r42))) rfl ?_
                    obtain rfl := Option.some.inj h
                    exact QTri.retI rfl rfl
      · refine QTri.brF Ad W (t := 29) (f := 27) (L := [some (.ref 0), vI x1, vI x2, vI x3, vI x4, none]) (S := []) (σ := (H0 o)) rfl (XT.ii_lt_f hc17) ?_
        refine QTri.steps Ad W 1 (st' := (28, [some (.ref 0), vI x1, vI x2, vI x3, vI x4, none], [.int (-1 : Int32)], (H0 o))) rfl ?_
        obtain rfl := Option.some.inj h
        exact QTri.retI rfl rfl
  · refine QTri.brT Ad W (t := 27) (f := 7) (L := [some (.ref 0), vI x1, vI x2, vI x3, vI x4, none]) (S := []) (σ := (H0 o)) rfl (XT.i0_ne_t hc15) ?_
    refine QTri.steps Ad W 1 (st' := (28, [some (.ref 0), vI x1, vI x2, vI x3, vI x4, none], [.int (-1 : Int32)], (H0 o))) rfl ?_
    obtain rfl := Option.some.inj h
    exact QTri.retI rfl rfl
/-- validBlock(I)Z -/
def F6 (o : Ob) (x1 : Int32) : Option (Int32) :=
  (if x1 < (0 : Int32) then some (0 : Int32) else (if x1 < (f_n o) then (if x1 < (16 : Int32) then some (1 : Int32) else some (0 : Int32)) else some (0 : Int32)))
theorem tF6 (Ad : QAd n0 ad) (W : QW Z a0) (o : Ob) (x1 : Int32) {r : Int32} (h : F6 o x1 = some r) : QTri l Z n0 ad 6 (0, qentry [.ref 0, .int x1] (pMaxL 6), [], (H0 o)) (some (Value.int r)) (H0 o) := by
  unfold F6 at h
  refine QTri.steps Ad W 1 (st' := (1, [some (.ref 0), vI x1], [.int x1], (H0 o))) rfl ?_
  rcases qite h with ⟨hc46, h⟩ | ⟨hc46, h⟩
  · refine QTri.brT Ad W (t := 22) (f := 4) (L := [some (.ref 0), vI x1]) (S := []) (σ := (H0 o)) rfl (XT.i0_lt_t hc46) ?_
    refine QTri.steps Ad W 1 (st' := (23, [some (.ref 0), vI x1], [.int (0 : Int32)], (H0 o))) rfl ?_
    obtain rfl := Option.some.inj h
    exact QTri.retZ rfl rfl
  · refine QTri.brF Ad W (t := 22) (f := 4) (L := [some (.ref 0), vI x1]) (S := []) (σ := (H0 o)) rfl (XT.i0_lt_f hc46) ?_
    refine QTri.steps Ad W 3 (st' := (9, [some (.ref 0), vI x1], [.int (f_n o), .int x1], (H0 o))) rfl ?_
    rcases qite h with ⟨hc47, h⟩ | ⟨hc47, h⟩
    · refine QTri.brF Ad W (t := 22) (f := 12) (L := [some (.ref 0), vI x1]) (S := []) (σ := (H0 o)) rfl (XT.ii_ge_f hc47) ?_
      refine QTri.steps Ad W 2 (st' := (15, [some (.ref 0), vI x1], [.int (16 : Int32), .int x1], (H0 o))) rfl ?_
      rcases qite h with ⟨hc48, h⟩ | ⟨hc48, h⟩
      · refine QTri.brF Ad W (t := 22) (f := 18) (L := [some (.ref 0), vI x1]) (S := []) (σ := (H0 o)) rfl (XT.ii_ge_f hc48) ?_
        refine QTri.steps Ad W 2 (st' := (23, [some (.ref 0), vI x1], [.int (1 : Int32)], (H0 o))) rfl ?_
        obtain rfl := Option.some.inj h
        exact QTri.retZ rfl rfl
      · refine QTri.brT Ad W (t := 22) (f := 18) (L := [some (.ref 0), vI x1]) (S := []) (σ := (H0 o)) rfl (XT.ii_ge_t hc48) ?_
        refine QTri.steps Ad W 1 (st' := (23, [some (.ref 0), vI x1], [.int (0 : Int32)], (H0 o))) rfl ?_
        obtain rfl := Option.some.inj h
        exact QTri.retZ rfl rfl
    · refine QTri.brT Ad W (t := 22) (f := 12) (L := [some (.ref 0), vI x1]) (S := []) (σ := (H0 o)) rfl (XT.ii_ge_t hc47) ?_
      refine QTri.steps Ad W 1 (st' := (23, [some (.ref 0), vI x1], [.int (0 : Int32)], (H0 o))) rfl ?_
      obtain rfl := Option.some.inj h
      exact QTri.retZ rfl rfl
/-- setJump(II)Z -/
def F5 (o : Ob) (x1 : Int32) (x2 : Int32) : Option (Int32 × Ob) :=
  (if (f_arranged o) = (0 : Int32) then (F6 o x1).bind fun r49 => (if r49 = (0 : Int32) then some ((0 : Int32), o) else (F6 o x2).bind fun r51 => (if r51 = (0 : Int32) then some ((0 : Int32), o) else (F3 o x1 (1 : Int32) (0 : Int32) x2).bind fun r53 => (aset (f_bT1 r53) x1 (0 : Int32)).bind fun y54 => (F4 (s_bT1 r53 y54)).bind fun r56 => some ((1 : Int32), r56))) else some ((0 : Int32), o))
theorem tF5 (Ad : QAd n0 ad) (W : QW Z a0) (o : Ob) (x1 : Int32) (x2 : Int32) {r : Int32 × Ob} (h : F5 o x1 x2 = some r) : QTri l Z n0 ad 5 (0, qentry [.ref 0, .int x1, .int x2] (pMaxL 5), [], (H0 o)) (some (Value.int r.1)) (H0 r.2) := by
  unfold F5 at h
  refine QTri.steps Ad W 2 (st' := (4, [some (.ref 0), vI x1, vI x2], [.int (f_arranged o)], (H0 o))) rfl ?_
  rcases qite h with ⟨hc45, h⟩ | ⟨hc45, h⟩
  · refine QTri.brF Ad W (t := 23) (f := 7) (L := [some (.ref 0), vI x1, vI x2]) (S := []) (σ := (H0 o)) rfl (XT.i0_ne_f hc45) ?_
    refine QTri.steps Ad W 2 (st' := (9, [some (.ref 0), vI x1, vI x2], [.int x1, .ref 0], (H0 o))) rfl ?_
    obtain ⟨r49, hr49, h⟩ := Option.bind_eq_some_iff.mp h
    refine QTri.callP W (a := 0) (as := [.int x1]) (rest := []) (w := (some (.int r49))) (σ₁ := (H0 o)) rfl rfl rfl rfl rfl rfl rfl rfl (tF6 Ad W o x1 hr49) ?_
    rcases qite h with ⟨hc50, h⟩ | ⟨hc50, h⟩
    · refine QTri.brT Ad W (t := 23) (f := 15) (L := [some (.ref 0), vI x1, vI x2]) (S := []) (σ := (H0 o)) rfl (XT.i0_eq_t hc50) ?_
      refine QTri.steps Ad W 1 (st' := (24, [some (.ref 0), vI x1, vI x2], [.int (0 : Int32)], (H0 o))) rfl ?_
      obtain rfl := Option.some.inj h
      exact QTri.retZ rfl rfl
    · refine QTri.brF Ad W (t := 23) (f := 15) (L := [some (.ref 0), vI x1, vI x2]) (S := []) (σ := (H0 o)) rfl (XT.i0_eq_f hc50) ?_
      refine QTri.steps Ad W 2 (st' := (17, [some (.ref 0), vI x1, vI x2], [.int x2, .ref 0], (H0 o))) rfl ?_
      obtain ⟨r51, hr51, h⟩ := Option.bind_eq_some_iff.mp h
      refine QTri.callP W (a := 0) (as := [.int x2]) (rest := []) (w := (some (.int r51))) (σ₁ := (H0 o)) rfl rfl rfl rfl rfl rfl rfl rfl (tF6 Ad W o x2 hr51) ?_
      rcases qite h with ⟨hc52, h⟩ | ⟨hc52, h⟩
      · refine QTri.brF Ad W (t := 25) (f := 23) (L := [some (.ref 0), vI x1, vI x2]) (S := []) (σ := (H0 o)) rfl (XT.i0_ne_f hc52) ?_
        refine QTri.steps Ad W 1 (st' := (24, [some (.ref 0), vI x1, vI x2], [.int (0 : Int32)], (H0 o))) rfl ?_
        obtain rfl := Option.some.inj h
        exact QTri.retZ rfl rfl
      · refine QTri.brT Ad W (t := 25) (f := 23) (L := [some (.ref 0), vI x1, vI x2]) (S := []) (σ := (H0 o)) rfl (XT.i0_ne_t hc52) ?_
        refine QTri.steps Ad W 5 (st' := (30, [some (.ref 0), vI x1, vI x2], [.int x2, .int (0 : Int32), .int (1 : Int32), .int x1, .ref 0], (H0 o))) rfl ?_
        obtain ⟨r53, hr53, h⟩ := Option.bind_eq_some_iff.mp h
        refine QTri.callP W (a := 0) (as := [.int x1, .int (1 : Int32), .int (0 : Int32), .int x2]) (rest := []) (w := none) (σ₁ := (H0 r53)) rfl rfl rfl rfl rfl rfl rfl rfl (tF3 Ad W o x1 (1 : Int32) (0 : Int32) x2 hr53) ?_
        refine QTri.steps Ad W 4 (st' := (39, [some (.ref 0), vI x1, vI x2], [.int (0 : Int32), .int x1, .ref 8], (H0 r53))) rfl ?_
        obtain ⟨y54, hy54, h⟩ := Option.bind_eq_some_iff.mp h
        refine QTri.bnd Ad W (f := fun y54 => (40, [some (.ref 0), vI x1, vI x2], [], (H0v (f_bOp r53) (f_bD r53) (f_bS r53) (f_bImm r53) (f_bTerm r53) (f_bTest r53) (f_bT0 r53) y54 (f_cnt0 r53) (f_cnt1 r53) (f_regs r53) (f_outs r53) (f_edgeId r53) (f_edgeW r53) (f_chNext r53) (f_chPrev r53) (f_chHead r53) (f_heat r53) (f_posOf r53) (f_order r53) (f_cOp r53) (f_cD r53) (f_cS r53) (f_cImm r53) (f_cKind r53) (f_cTest r53) (f_cTaken r53) (f_cOther r53) (f_maxBlocks r53) (f_maxSteps r53) (f_n r53) (f_arranged r53) (f_outCount r53) (f_steps r53) (f_status r53)))) rfl hy54 ?_
        refine QTri.steps Ad W 1 (st' := (41, [some (.ref 0), vI x1, vI x2], [.ref 0], (H0v (f_bOp r53) (f_bD r53) (f_bS r53) (f_bImm r53) (f_bTerm r53) (f_bTest r53) (f_bT0 r53) y54 (f_cnt0 r53) (f_cnt1 r53) (f_regs r53) (f_outs r53) (f_edgeId r53) (f_edgeW r53) (f_chNext r53) (f_chPrev r53) (f_chHead r53) (f_heat r53) (f_posOf r53) (f_order r53) (f_cOp r53) (f_cD r53) (f_cS r53) (f_cImm r53) (f_cKind r53) (f_cTest r53) (f_cTaken r53) (f_cOther r53) (f_maxBlocks r53) (f_maxSteps r53) (f_n r53) (f_arranged r53) (f_outCount r53) (f_steps r53) (f_status r53)))) rfl ?_
        have E55 : ((H0v (f_bOp r53) (f_bD r53) (f_bS r53) (f_bImm r53) (f_bTerm r53) (f_bTest r53) (f_bT0 r53) y54 (f_cnt0 r53) (f_cnt1 r53) (f_regs r53) (f_outs r53) (f_edgeId r53) (f_edgeW r53) (f_chNext r53) (f_chPrev r53) (f_chHead r53) (f_heat r53) (f_posOf r53) (f_order r53) (f_cOp r53) (f_cD r53) (f_cS r53) (f_cImm r53) (f_cKind r53) (f_cTest r53) (f_cTaken r53) (f_cOther r53) (f_maxBlocks r53) (f_maxSteps r53) (f_n r53) (f_arranged r53) (f_outCount r53) (f_steps r53) (f_status r53)) : QHeap) = (H0 (s_bT1 r53 y54)) := by dsimp only [H0, H0v, f_bOp, f_bD, f_bS, f_bImm, f_bTerm, f_bTest, f_bT0, f_bT1, f_cnt0, f_cnt1, f_regs, f_outs, f_edgeId, f_edgeW, f_chNext, f_chPrev, f_chHead, f_heat, f_posOf, f_order, f_cOp, f_cD, f_cS, f_cImm, f_cKind, f_cTest, f_cTaken, f_cOther, f_maxBlocks, f_maxSteps, f_n, f_arranged, f_outCount, f_steps, f_status, s_bT1]
        rw [E55]
        obtain ⟨r56, hr56, h⟩ := Option.bind_eq_some_iff.mp h
        refine QTri.callP W (a := 0) (as := []) (rest := []) (w := none) (σ₁ := (H0 r56)) rfl rfl rfl rfl rfl rfl rfl rfl (tF4 Ad W (s_bT1 r53 y54) hr56) ?_
        refine QTri.steps Ad W 1 (st' := (45, [some (.ref 0), vI x1, vI x2], [.int (1 : Int32)], (H0 r56))) rfl ?_
        obtain rfl := Option.some.inj h
        exact QTri.retZ rfl rfl
  · refine QTri.brT Ad W (t := 23) (f := 7) (L := [some (.ref 0), vI x1, vI x2]) (S := []) (σ := (H0 o)) rfl (XT.i0_ne_t hc45) ?_
    refine QTri.steps Ad W 1 (st' := (24, [some (.ref 0), vI x1, vI x2], [.int (0 : Int32)], (H0 o))) rfl ?_
    obtain rfl := Option.some.inj h
    exact QTri.retZ rfl rfl
def J9_192 (o : Ob) : Option (Ob) :=
  some (s_outCount o ((f_outCount o) + (1 : Int32)))
theorem tJ9_192 (Ad : QAd n0 ad) (W : QW Z a0) (o : Ob) {r : Ob} (h : J9_192 o = some r) : QTri l Z n0 ad 9 (192, [some (.ref 0), none, none, none, none], [], (H0 o)) (none : Option Value) (H0 r) := by
  unfold J9_192 at h
  refine QTri.steps Ad W 6 (st' := (202, [some (.ref 0), none, none, none, none], [], (H0v (f_bOp o) (f_bD o) (f_bS o) (f_bImm o) (f_bTerm o) (f_bTest o) (f_bT0 o) (f_bT1 o) (f_cnt0 o) (f_cnt1 o) (f_regs o) (f_outs o) (f_edgeId o) (f_edgeW o) (f_chNext o) (f_chPrev o) (f_chHead o) (f_heat o) (f_posOf o) (f_order o) (f_cOp o) (f_cD o) (f_cS o) (f_cImm o) (f_cKind o) (f_cTest o) (f_cTaken o) (f_cOther o) (f_maxBlocks o) (f_maxSteps o) (f_n o) (f_arranged o) ((f_outCount o) + (1 : Int32)) (f_steps o) (f_status o)))) rfl ?_
  have E104 : ((H0v (f_bOp o) (f_bD o) (f_bS o) (f_bImm o) (f_bTerm o) (f_bTest o) (f_bT0 o) (f_bT1 o) (f_cnt0 o) (f_cnt1 o) (f_regs o) (f_outs o) (f_edgeId o) (f_edgeW o) (f_chNext o) (f_chPrev o) (f_chHead o) (f_heat o) (f_posOf o) (f_order o) (f_cOp o) (f_cD o) (f_cS o) (f_cImm o) (f_cKind o) (f_cTest o) (f_cTaken o) (f_cOther o) (f_maxBlocks o) (f_maxSteps o) (f_n o) (f_arranged o) ((f_outCount o) + (1 : Int32)) (f_steps o) (f_status o)) : QHeap) = (H0 (s_outCount o ((f_outCount o) + (1 : Int32)))) := by dsimp only [H0, H0v, f_bOp, f_bD, f_bS, f_bImm, f_bTerm, f_bTest, f_bT0, f_bT1, f_cnt0, f_cnt1, f_regs, f_outs, f_edgeId, f_edgeW, f_chNext, f_chPrev, f_chHead, f_heat, f_posOf, f_order, f_cOp, f_cD, f_cS, f_cImm, f_cKind, f_cTest, f_cTaken, f_cOther, f_maxBlocks, f_maxSteps, f_n, f_arranged, f_outCount, f_steps, f_status, s_outCount]
  rw [E104]
  obtain rfl := Option.some.inj h
  exact QTri.ret0 rfl rfl
/-- doOp(IIII)V -/
def F9 (o : Ob) (x1 : Int32) (x2 : Int32) (x3 : Int32) (x4 : Int32) : Option (Ob) :=
  (if x2 < (0 : Int32) then some o else (if (3 : Int32) < x2 then some o else (if x3 < (0 : Int32) then some o else (if (3 : Int32) < x3 then some o else (if x1 = (1 : Int32) then (aset (f_regs o) x2 x4).bind fun y78 => some (s_regs o y78) else (if x1 = (2 : Int32) then (aget (f_regs o) x3).bind fun y81 => (aset (f_regs o) x2 y81).bind fun y82 => some (s_regs o y82) else (if x1 = (3 : Int32) then (aget (f_regs o) x2).bind fun y85 => (aset (f_regs o) x2 (y85 + x4)).bind fun y86 => some (s_regs o y86) else (if x1 = (4 : Int32) then (aget (f_regs o) x2).bind fun y89 => (aget (f_regs o) x3).bind fun y90 => (aset (f_regs o) x2 (y89 + y90)).bind fun y91 => some (s_regs o y91) else (if x1 = (5 : Int32) then (aget (f_regs o) x2).bind fun y94 => (aget (f_regs o) x3).bind fun y95 => (aset (f_regs o) x2 (y94 - y95)).bind fun y96 => some (s_regs o y96) else (if x1 = (6 : Int32) then (aget (f_regs o) x2).bind fun y99 => (aset (f_regs o) x2 (y99 >>> ((1 : Int32) &&& 31))).bind fun y100 => some (s_regs o y100) else (if x1 = (7 : Int32) then (if (f_outCount o) < (0 : Int32) then (J9_192 o) else (if (f_outCount o) < (16 : Int32) then (aget (f_regs o) x2).bind fun y106 => (aset (f_outs o) (f_outCount o) y106).bind fun y107 => (J9_192 (s_outs o y107)) else (J9_192 o))) else some o)))))))))))
theorem tF9 (Ad : QAd n0 ad) (W : QW Z a0) (o : Ob) (x1 : Int32) (x2 : Int32) (x3 : Int32) (x4 : Int32) {r : Ob} (h : F9 o x1 x2 x3 x4 = some r) : QTri l Z n0 ad 9 (0, qentry [.ref 0, .int x1, .int x2, .int x3, .int x4] (pMaxL 9), [], (H0 o)) (none : Option Value) (H0 r) := by
  unfold F9 at h
  refine QTri.steps Ad W 1 (st' := (1, [some (.ref 0), vI x1, vI x2, vI x3, vI x4], [.int x2], (H0 o))) rfl ?_
  rcases qite h with ⟨hc73, h⟩ | ⟨hc73, h⟩
  · refine QTri.brT Ad W (t := 18) (f := 4) (L := [some (.ref 0), vI x1, vI x2, vI x3, vI x4]) (S := []) (σ := (H0 o)) rfl (XT.i0_lt_t hc73) ?_
    obtain rfl := Option.some.inj h
    exact QTri.ret0 rfl rfl
  · refine QTri.brF Ad W (t := 18) (f := 4) (L := [some (.ref 0), vI x1, vI x2, vI x3, vI x4]) (S := []) (σ := (H0 o)) rfl (XT.i0_lt_f hc73) ?_
    refine QTri.steps Ad W 2 (st' := (6, [some (.ref 0), vI x1, vI x2, vI x3, vI x4], [.int (3 : Int32), .int x2], (H0 o))) rfl ?_
    rcases qite h with ⟨hc74, h⟩ | ⟨hc74, h⟩
    · refine QTri.brT Ad W (t := 18) (f := 9) (L := [some (.ref 0), vI x1, vI x2, vI x3, vI x4]) (S := []) (σ := (H0 o)) rfl (XT.ii_gt_t hc74) ?_
      obtain rfl := Option.some.inj h
      exact QTri.ret0 rfl rfl
    · refine QTri.brF Ad W (t := 18) (f := 9) (L := [some (.ref 0), vI x1, vI x2, vI x3, vI x4]) (S := []) (σ := (H0 o)) rfl (XT.ii_gt_f hc74) ?_
      refine QTri.steps Ad W 1 (st' := (10, [some (.ref 0), vI x1, vI x2, vI x3, vI x4], [.int x3], (H0 o))) rfl ?_
      rcases qite h with ⟨hc75, h⟩ | ⟨hc75, h⟩
      · refine QTri.brT Ad W (t := 18) (f := 13) (L := [some (.ref 0), vI x1, vI x2, vI x3, vI x4]) (S := []) (σ := (H0 o)) rfl (XT.i0_lt_t hc75) ?_
        obtain rfl := Option.some.inj h
        exact QTri.ret0 rfl rfl
      · refine QTri.brF Ad W (t := 18) (f := 13) (L := [some (.ref 0), vI x1, vI x2, vI x3, vI x4]) (S := []) (σ := (H0 o)) rfl (XT.i0_lt_f hc75) ?_
        refine QTri.steps Ad W 2 (st' := (15, [some (.ref 0), vI x1, vI x2, vI x3, vI x4], [.int (3 : Int32), .int x3], (H0 o))) rfl ?_
        rcases qite h with ⟨hc76, h⟩ | ⟨hc76, h⟩
        · refine QTri.brF Ad W (t := 19) (f := 18) (L := [some (.ref 0), vI x1, vI x2, vI x3, vI x4]) (S := []) (σ := (H0 o)) rfl (XT.ii_le_f hc76) ?_
          obtain rfl := Option.some.inj h
          exact QTri.ret0 rfl rfl
        · refine QTri.brT Ad W (t := 19) (f := 18) (L := [some (.ref 0), vI x1, vI x2, vI x3, vI x4]) (S := []) (σ := (H0 o)) rfl (XT.ii_le_t hc76) ?_
          refine QTri.steps Ad W 2 (st' := (21, [some (.ref 0), vI x1, vI x2, vI x3, vI x4], [.int (1 : Int32), .int x1], (H0 o))) rfl ?_
          rcases qite h with ⟨hc77, h⟩ | ⟨hc77, h⟩
          · refine QTri.brF Ad W (t := 35) (f := 24) (L := [some (.ref 0), vI x1, vI x2, vI x3, vI x4]) (S := []) (σ := (H0 o)) rfl (XT.ii_ne_f hc77) ?_
            refine QTri.steps Ad W 4 (st' := (31, [some (.ref 0), vI x1, vI x2, vI x3, vI x4], [.int x4, .int x2, .ref 11], (H0 o))) rfl ?_
            obtain ⟨y78, hy78, h⟩ := Option.bind_eq_some_iff.mp h
            refine QTri.bnd Ad W (f := fun y78 => (32, [some (.ref 0), vI x1, vI x2, vI x3, vI x4], [], (H0v (f_bOp o) (f_bD o) (f_bS o) (f_bImm o) (f_bTerm o) (f_bTest o) (f_bT0 o) (f_bT1 o) (f_cnt0 o) (f_cnt1 o) y78 (f_outs o) (f_edgeId o) (f_edgeW o) (f_chNext o) (f_chPrev o) (f_chHead o) (f_heat o) (f_posOf o) (f_order o) (f_cOp o) (f_cD o) (f_cS o) (f_cImm o) (f_cKind o) (f_cTest o) (f_cTaken o) (f_cOther o) (f_maxBlocks o) (f_maxSteps o) (f_n o) (f_arranged o) (f_outCount o) (f_steps o) (f_status o)))) rfl hy78 ?_
            refine QTri.steps Ad W 1 (st' := (202, [some (.ref 0), vI x1, vI x2, vI x3, vI x4], [], (H0v (f_bOp o) (f_bD o) (f_bS o) (f_bImm o) (f_bTerm o) (f_bTest o) (f_bT0 o) (f_bT1 o) (f_cnt0 o) (f_cnt1 o) y78 (f_outs o) (f_edgeId o) (f_edgeW o) (f_chNext o) (f_chPrev o) (f_chHead o) (f_heat o) (f_posOf o) (f_order o) (f_cOp o) (f_cD o) (f_cS o) (f_cImm o) (f_cKind o) (f_cTest o) (f_cTaken o) (f_cOther o) (f_maxBlocks o) (f_maxSteps o) (f_n o) (f_arranged o) (f_outCount o) (f_steps o) (f_status o)))) rfl ?_
            have E79 : ((H0v (f_bOp o) (f_bD o) (f_bS o) (f_bImm o) (f_bTerm o) (f_bTest o) (f_bT0 o) (f_bT1 o) (f_cnt0 o) (f_cnt1 o) y78 (f_outs o) (f_edgeId o) (f_edgeW o) (f_chNext o) (f_chPrev o) (f_chHead o) (f_heat o) (f_posOf o) (f_order o) (f_cOp o) (f_cD o) (f_cS o) (f_cImm o) (f_cKind o) (f_cTest o) (f_cTaken o) (f_cOther o) (f_maxBlocks o) (f_maxSteps o) (f_n o) (f_arranged o) (f_outCount o) (f_steps o) (f_status o)) : QHeap) = (H0 (s_regs o y78)) := by dsimp only [H0, H0v, f_bOp, f_bD, f_bS, f_bImm, f_bTerm, f_bTest, f_bT0, f_bT1, f_cnt0, f_cnt1, f_regs, f_outs, f_edgeId, f_edgeW, f_chNext, f_chPrev, f_chHead, f_heat, f_posOf, f_order, f_cOp, f_cD, f_cS, f_cImm, f_cKind, f_cTest, f_cTaken, f_cOther, f_maxBlocks, f_maxSteps, f_n, f_arranged, f_outCount, f_steps, f_status, s_regs]
            rw [E79]
            obtain rfl := Option.some.inj h
            exact QTri.ret0 rfl rfl
          · refine QTri.brT Ad W (t := 35) (f := 24) (L := [some (.ref 0), vI x1, vI x2, vI x3, vI x4]) (S := []) (σ := (H0 o)) rfl (XT.ii_ne_t hc77) ?_
            refine QTri.steps Ad W 2 (st' := (37, [some (.ref 0), vI x1, vI x2, vI x3, vI x4], [.int (2 : Int32), .int x1], (H0 o))) rfl ?_
            rcases qite h with ⟨hc80, h⟩ | ⟨hc80, h⟩
            · refine QTri.brF Ad W (t := 55) (f := 40) (L := [some (.ref 0), vI x1, vI x2, vI x3, vI x4]) (S := []) (σ := (H0 o)) rfl (XT.ii_ne_f hc80) ?_
              refine QTri.steps Ad W 6 (st' := (50, [some (.ref 0), vI x1, vI x2, vI x3, vI x4], [.int x3, .ref 11, .int x2, .ref 11], (H0 o))) rfl ?_
              obtain ⟨y81, hy81, h⟩ := Option.bind_eq_some_iff.mp h
              refine QTri.bnd Ad W (f := fun y81 => (51, [some (.ref 0), vI x1, vI x2, vI x3, vI x4], [.int y81, .int x2, .ref 11], (H0 o))) rfl hy81 ?_
              obtain ⟨y82, hy82, h⟩ := Option.bind_eq_some_iff.mp h
              refine QTri.bnd Ad W (f := fun y82 => (52, [some (.ref 0), vI x1, vI x2, vI x3, vI x4], [], (H0v (f_bOp o) (f_bD o) (f_bS o) (f_bImm o) (f_bTerm o) (f_bTest o) (f_bT0 o) (f_bT1 o) (f_cnt0 o) (f_cnt1 o) y82 (f_outs o) (f_edgeId o) (f_edgeW o) (f_chNext o) (f_chPrev o) (f_chHead o) (f_heat o) (f_posOf o) (f_order o) (f_cOp o) (f_cD o) (f_cS o) (f_cImm o) (f_cKind o) (f_cTest o) (f_cTaken o) (f_cOther o) (f_maxBlocks o) (f_maxSteps o) (f_n o) (f_arranged o) (f_outCount o) (f_steps o) (f_status o)))) rfl hy82 ?_
              refine QTri.steps Ad W 1 (st' := (202, [some (.ref 0), vI x1, vI x2, vI x3, vI x4], [], (H0v (f_bOp o) (f_bD o) (f_bS o) (f_bImm o) (f_bTerm o) (f_bTest o) (f_bT0 o) (f_bT1 o) (f_cnt0 o) (f_cnt1 o) y82 (f_outs o) (f_edgeId o) (f_edgeW o) (f_chNext o) (f_chPrev o) (f_chHead o) (f_heat o) (f_posOf o) (f_order o) (f_cOp o) (f_cD o) (f_cS o) (f_cImm o) (f_cKind o) (f_cTest o) (f_cTaken o) (f_cOther o) (f_maxBlocks o) (f_maxSteps o) (f_n o) (f_arranged o) (f_outCount o) (f_steps o) (f_status o)))) rfl ?_
              have E83 : ((H0v (f_bOp o) (f_bD o) (f_bS o) (f_bImm o) (f_bTerm o) (f_bTest o) (f_bT0 o) (f_bT1 o) (f_cnt0 o) (f_cnt1 o) y82 (f_outs o) (f_edgeId o) (f_edgeW o) (f_chNext o) (f_chPrev o) (f_chHead o) (f_heat o) (f_posOf o) (f_order o) (f_cOp o) (f_cD o) (f_cS o) (f_cImm o) (f_cKind o) (f_cTest o) (f_cTaken o) (f_cOther o) (f_maxBlocks o) (f_maxSteps o) (f_n o) (f_arranged o) (f_outCount o) (f_steps o) (f_status o)) : QHeap) = (H0 (s_regs o y82)) := by dsimp only [H0, H0v, f_bOp, f_bD, f_bS, f_bImm, f_bTerm, f_bTest, f_bT0, f_bT1, f_cnt0, f_cnt1, f_regs, f_outs, f_edgeId, f_edgeW, f_chNext, f_chPrev, f_chHead, f_heat, f_posOf, f_order, f_cOp, f_cD, f_cS, f_cImm, f_cKind, f_cTest, f_cTaken, f_cOther, f_maxBlocks, f_maxSteps, f_n, f_arranged, f_outCount, f_steps, f_status, s_regs]
              rw [E83]
              obtain rfl := Option.some.inj h
              exact QTri.ret0 rfl rfl
            · refine QTri.brT Ad W (t := 55) (f := 40) (L := [some (.ref 0), vI x1, vI x2, vI x3, vI x4]) (S := []) (σ := (H0 o)) rfl (XT.ii_ne_t hc80) ?_
              refine QTri.steps Ad W 2 (st' := (57, [some (.ref 0), vI x1, vI x2, vI x3, vI x4], [.int (3 : Int32), .int x1], (H0 o))) rfl ?_
              rcases qite h with ⟨hc84, h⟩ | ⟨hc84, h⟩
              · refine QTri.brF Ad W (t := 78) (f := 60) (L := [some (.ref 0), vI x1, vI x2, vI x3, vI x4]) (S := []) (σ := (H0 o)) rfl (XT.ii_ne_f hc84) ?_
                refine QTri.steps Ad W 6 (st' := (70, [some (.ref 0), vI x1, vI x2, vI x3, vI x4], [.int x2, .ref 11, .int x2, .ref 11], (H0 o))) rfl ?_
                obtain ⟨y85, hy85, h⟩ := Option.bind_eq_some_iff.mp h
                refine QTri.bnd Ad W (f := fun y85 => (71, [some (.ref 0), vI x1, vI x2, vI x3, vI x4], [.int y85, .int x2, .ref 11], (H0 o))) rfl hy85 ?_
                refine QTri.steps Ad W 2 (st' := (74, [some (.ref 0), vI x1, vI x2, vI x3, vI x4], [.int (y85 + x4), .int x2, .ref 11], (H0 o))) rfl ?_
                obtain ⟨y86, hy86, h⟩ := Option.bind_eq_some_iff.mp h
                refine QTri.bnd Ad W (f := fun y86 => (75, [some (.ref 0), vI x1, vI x2, vI x3, vI x4], [], (H0v (f_bOp o) (f_bD o) (f_bS o) (f_bImm o) (f_bTerm o) (f_bTest o) (f_bT0 o) (f_bT1 o) (f_cnt0 o) (f_cnt1 o) y86 (f_outs o) (f_edgeId o) (f_edgeW o) (f_chNext o) (f_chPrev o) (f_chHead o) (f_heat o) (f_posOf o) (f_order o) (f_cOp o) (f_cD o) (f_cS o) (f_cImm o) (f_cKind o) (f_cTest o) (f_cTaken o) (f_cOther o) (f_maxBlocks o) (f_maxSteps o) (f_n o) (f_arranged o) (f_outCount o) (f_steps o) (f_status o)))) rfl hy86 ?_
                refine QTri.steps Ad W 1 (st' := (202, [some (.ref 0), vI x1, vI x2, vI x3, vI x4], [], (H0v (f_bOp o) (f_bD o) (f_bS o) (f_bImm o) (f_bTerm o) (f_bTest o) (f_bT0 o) (f_bT1 o) (f_cnt0 o) (f_cnt1 o) y86 (f_outs o) (f_edgeId o) (f_edgeW o) (f_chNext o) (f_chPrev o) (f_chHead o) (f_heat o) (f_posOf o) (f_order o) (f_cOp o) (f_cD o) (f_cS o) (f_cImm o) (f_cKind o) (f_cTest o) (f_cTaken o) (f_cOther o) (f_maxBlocks o) (f_maxSteps o) (f_n o) (f_arranged o) (f_outCount o) (f_steps o) (f_status o)))) rfl ?_
                have E87 : ((H0v (f_bOp o) (f_bD o) (f_bS o) (f_bImm o) (f_bTerm o) (f_bTest o) (f_bT0 o) (f_bT1 o) (f_cnt0 o) (f_cnt1 o) y86 (f_outs o) (f_edgeId o) (f_edgeW o) (f_chNext o) (f_chPrev o) (f_chHead o) (f_heat o) (f_posOf o) (f_order o) (f_cOp o) (f_cD o) (f_cS o) (f_cImm o) (f_cKind o) (f_cTest o) (f_cTaken o) (f_cOther o) (f_maxBlocks o) (f_maxSteps o) (f_n o) (f_arranged o) (f_outCount o) (f_steps o) (f_status o)) : QHeap) = (H0 (s_regs o y86)) := by dsimp only [H0, H0v, f_bOp, f_bD, f_bS, f_bImm, f_bTerm, f_bTest, f_bT0, f_bT1, f_cnt0, f_cnt1, f_regs, f_outs, f_edgeId, f_edgeW, f_chNext, f_chPrev, f_chHead, f_heat, f_posOf, f_order, f_cOp, f_cD, f_cS, f_cImm, f_cKind, f_cTest, f_cTaken, f_cOther, f_maxBlocks, f_maxSteps, f_n, f_arranged, f_outCount, f_steps, f_status, s_regs]
                rw [E87]
                obtain rfl := Option.some.inj h
                exact QTri.ret0 rfl rfl
              · refine QTri.brT Ad W (t := 78) (f := 60) (L := [some (.ref 0), vI x1, vI x2, vI x3, vI x4]) (S := []) (σ := (H0 o)) rfl (XT.ii_ne_t hc84) ?_
                refine QTri.steps Ad W 2 (st' := (80, [some (.ref 0), vI x1, vI x2, vI x3, vI x4], [.int (4 : Int32), .int x1], (H0 o))) rfl ?_
                rcases qite h with ⟨hc88, h⟩ | ⟨hc88, h⟩
                · refine QTri.brF Ad W (t := 105) (f := 83) (L := [some (.ref 0), vI x1, vI x2, vI x3, vI x4]) (S := []) (σ := (H0 o)) rfl (XT.ii_ne_f hc88) ?_
                  refine QTri.steps Ad W 6 (st' := (93, [some (.ref 0), vI x1, vI x2, vI x3, vI x4], [.int x2, .ref 11, .int x2, .ref 11], (H0 o))) rfl ?_
                  obtain ⟨y89, hy89, h⟩ := Option.bind_eq_some_iff.mp h
                  refine QTri.bnd Ad W (f := fun y89 => (94, [some (.ref 0), vI x1, vI x2, vI x3, vI x4], [.int y89, .int x2, .ref 11], (H0 o))) rfl hy89 ?_
                  refine QTri.steps Ad W 3 (st' := (99, [some (.ref 0), vI x1, vI x2, vI x3, vI x4], [.int x3, .ref 11, .int y89, .int x2, .ref 11], (H0 o))) rfl ?_
                  obtain ⟨y90, hy90, h⟩ := Option.bind_eq_some_iff.mp h
                  refine QTri.bnd Ad W (f := fun y90 => (100, [some (.ref 0), vI x1, vI x2, vI x3, vI x4], [.int y90, .int y89, .int x2, .ref 11], (H0 o))) rfl hy90 ?_
                  refine QTri.steps Ad W 1 (st' := (101, [some (.ref 0), vI x1, vI x2, vI x3, vI x4], [.int (y89 + y90), .int x2, .ref 11], (H0 o))) rfl ?_
                  obtain ⟨y91, hy91, h⟩ := Option.bind_eq_some_iff.mp h
                  refine QTri.bnd Ad W (f := fun y91 => (102, [some (.ref 0), vI x1, vI x2, vI x3, vI x4], [], (H0v (f_bOp o) (f_bD o) (f_bS o) (f_bImm o) (f_bTerm o) (f_bTest o) (f_bT0 o) (f_bT1 o) (f_cnt0 o) (f_cnt1 o) y91 (f_outs o) (f_edgeId o) (f_edgeW o) (f_chNext o) (f_chPrev o) (f_chHead o) (f_heat o) (f_posOf o) (f_order o) (f_cOp o) (f_cD o) (f_cS o) (f_cImm o) (f_cKind o) (f_cTest o) (f_cTaken o) (f_cOther o) (f_maxBlocks o) (f_maxSteps o) (f_n o) (f_arranged o) (f_outCount o) (f_steps o) (f_status o)))) rfl hy91 ?_
                  refine QTri.steps Ad W 1 (st' := (202, [some (.ref 0), vI x1, vI x2, vI x3, vI x4], [], (H0v (f_bOp o) (f_bD o) (f_bS o) (f_bImm o) (f_bTerm o) (f_bTest o) (f_bT0 o) (f_bT1 o) (f_cnt0 o) (f_cnt1 o) y91 (f_outs o) (f_edgeId o) (f_edgeW o) (f_chNext o) (f_chPrev o) (f_chHead o) (f_heat o) (f_posOf o) (f_order o) (f_cOp o) (f_cD o) (f_cS o) (f_cImm o) (f_cKind o) (f_cTest o) (f_cTaken o) (f_cOther o) (f_maxBlocks o) (f_maxSteps o) (f_n o) (f_arranged o) (f_outCount o) (f_steps o) (f_status o)))) rfl ?_
                  have E92 : ((H0v (f_bOp o) (f_bD o) (f_bS o) (f_bImm o) (f_bTerm o) (f_bTest o) (f_bT0 o) (f_bT1 o) (f_cnt0 o) (f_cnt1 o) y91 (f_outs o) (f_edgeId o) (f_edgeW o) (f_chNext o) (f_chPrev o) (f_chHead o) (f_heat o) (f_posOf o) (f_order o) (f_cOp o) (f_cD o) (f_cS o) (f_cImm o) (f_cKind o) (f_cTest o) (f_cTaken o) (f_cOther o) (f_maxBlocks o) (f_maxSteps o) (f_n o) (f_arranged o) (f_outCount o) (f_steps o) (f_status o)) : QHeap) = (H0 (s_regs o y91)) := by dsimp only [H0, H0v, f_bOp, f_bD, f_bS, f_bImm, f_bTerm, f_bTest, f_bT0, f_bT1, f_cnt0, f_cnt1, f_regs, f_outs, f_edgeId, f_edgeW, f_chNext, f_chPrev, f_chHead, f_heat, f_posOf, f_order, f_cOp, f_cD, f_cS, f_cImm, f_cKind, f_cTest, f_cTaken, f_cOther, f_maxBlocks, f_maxSteps, f_n, f_arranged, f_outCount, f_steps, f_status, s_regs]
                  rw [E92]
                  obtain rfl := Option.some.inj h
                  exact QTri.ret0 rfl rfl
                · refine QTri.brT Ad W (t := 105) (f := 83) (L := [some (.ref 0), vI x1, vI x2, vI x3, vI x4]) (S := []) (σ := (H0 o)) rfl (XT.ii_ne_t hc88) ?_
                  refine QTri.steps Ad W 2 (st' := (107, [some (.ref 0), vI x1, vI x2, vI x3, vI x4], [.int (5 : Int32), .int x1], (H0 o))) rfl ?_
                  rcases qite h with ⟨hc93, h⟩ | ⟨hc93, h⟩
                  · refine QTri.brF Ad W (t := 132) (f := 110) (L := [some (.ref 0), vI x1, vI x2, vI x3, vI x4]) (S := []) (σ := (H0 o)) rfl (XT.ii_ne_f hc93) ?_
                    refine QTri.steps Ad W 6 (st' := (120, [some (.ref 0), vI x1, vI x2, vI x3, vI x4], [.int x2, .ref 11, .int x2, .ref 11], (H0 o))) rfl ?_
                    obtain ⟨y94, hy94, h⟩ := Option.bind_eq_some_iff.mp h
                    refine QTri.bnd Ad W (f := fun y94 => (121, [some (.ref 0), vI x1, vI x2, vI x3, vI x4], [.int y94, .int x2, .ref 11], (H0 o))) rfl hy94 ?_
                    refine QTri.steps Ad W 3 (st' := (126, [some (.ref 0), vI x1, vI x2, vI x3, vI x4], [.int x3, .ref 11, .int y94, .int x2, .ref 11], (H0 o))) rfl ?_
                    obtain ⟨y95, hy95, h⟩ := Option.bind_eq_some_iff.mp h
                    refine QTri.bnd Ad W (f := fun y95 => (127, [some (.ref 0), vI x1, vI x2, vI x3, vI x4], [.int y95, .int y94, .int x2, .ref 11], (H0 o))) rfl hy95 ?_
                    refine QTri.steps Ad W 1 (st' := (128, [some (.ref 0), vI x1, vI x2, vI x3, vI x4], [.int (y94 - y95), .int x2, .ref 11], (H0 o))) rfl ?_
                    obtain ⟨y96, hy96, h⟩ := Option.bind_eq_some_iff.mp h
                    refine QTri.bnd Ad W (f := fun y96 => (129, [some (.ref 0), vI x1, vI x2, vI x3, vI x4], [], (H0v (f_bOp o) (f_bD o) (f_bS o) (f_bImm o) (f_bTerm o) (f_bTest o) (f_bT0 o) (f_bT1 o) (f_cnt0 o) (f_cnt1 o) y96 (f_outs o) (f_edgeId o) (f_edgeW o) (f_chNext o) (f_chPrev o) (f_chHead o) (f_heat o) (f_posOf o) (f_order o) (f_cOp o) (f_cD o) (f_cS o) (f_cImm o) (f_cKind o) (f_cTest o) (f_cTaken o) (f_cOther o) (f_maxBlocks o) (f_maxSteps o) (f_n o) (f_arranged o) (f_outCount o) (f_steps o) (f_status o)))) rfl hy96 ?_
                    refine QTri.steps Ad W 1 (st' := (202, [some (.ref 0), vI x1, vI x2, vI x3, vI x4], [], (H0v (f_bOp o) (f_bD o) (f_bS o) (f_bImm o) (f_bTerm o) (f_bTest o) (f_bT0 o) (f_bT1 o) (f_cnt0 o) (f_cnt1 o) y96 (f_outs o) (f_edgeId o) (f_edgeW o) (f_chNext o) (f_chPrev o) (f_chHead o) (f_heat o) (f_posOf o) (f_order o) (f_cOp o) (f_cD o) (f_cS o) (f_cImm o) (f_cKind o) (f_cTest o) (f_cTaken o) (f_cOther o) (f_maxBlocks o) (f_maxSteps o) (f_n o) (f_arranged o) (f_outCount o) (f_steps o) (f_status o)))) rfl ?_
                    have E97 : ((H0v (f_bOp o) (f_bD o) (f_bS o) (f_bImm o) (f_bTerm o) (f_bTest o) (f_bT0 o) (f_bT1 o) (f_cnt0 o) (f_cnt1 o) y96 (f_outs o) (f_edgeId o) (f_edgeW o) (f_chNext o) (f_chPrev o) (f_chHead o) (f_heat o) (f_posOf o) (f_order o) (f_cOp o) (f_cD o) (f_cS o) (f_cImm o) (f_cKind o) (f_cTest o) (f_cTaken o) (f_cOther o) (f_maxBlocks o) (f_maxSteps o) (f_n o) (f_arranged o) (f_outCount o) (f_steps o) (f_status o)) : QHeap) = (H0 (s_regs o y96)) := by dsimp only [H0, H0v, f_bOp, f_bD, f_bS, f_bImm, f_bTerm, f_bTest, f_bT0, f_bT1, f_cnt0, f_cnt1, f_regs, f_outs, f_edgeId, f_edgeW, f_chNext, f_chPrev, f_chHead, f_heat, f_posOf, f_order, f_cOp, f_cD, f_cS, f_cImm, f_cKind, f_cTest, f_cTaken, f_cOther, f_maxBlocks, f_maxSteps, f_n, f_arranged, f_outCount, f_steps, f_status, s_regs]
                    rw [E97]
                    obtain rfl := Option.some.inj h
                    exact QTri.ret0 rfl rfl
                  · refine QTri.brT Ad W (t := 132) (f := 110) (L := [some (.ref 0), vI x1, vI x2, vI x3, vI x4]) (S := []) (σ := (H0 o)) rfl (XT.ii_ne_t hc93) ?_
                    refine QTri.steps Ad W 2 (st' := (135, [some (.ref 0), vI x1, vI x2, vI x3, vI x4], [.int (6 : Int32), .int x1], (H0 o))) rfl ?_
                    rcases qite h with ⟨hc98, h⟩ | ⟨hc98, h⟩
                    · refine QTri.brF Ad W (t := 155) (f := 138) (L := [some (.ref 0), vI x1, vI x2, vI x3, vI x4]) (S := []) (σ := (H0 o)) rfl (XT.ii_ne_f hc98) ?_
                      refine QTri.steps Ad W 6 (st' := (148, [some (.ref 0), vI x1, vI x2, vI x3, vI x4], [.int x2, .ref 11, .int x2, .ref 11], (H0 o))) rfl ?_
                      obtain ⟨y99, hy99, h⟩ := Option.bind_eq_some_iff.mp h
                      refine QTri.bnd Ad W (f := fun y99 => (149, [some (.ref 0), vI x1, vI x2, vI x3, vI x4], [.int y99, .int x2, .ref 11], (H0 o))) rfl hy99 ?_
                      refine QTri.steps Ad W 2 (st' := (151, [some (.ref 0), vI x1, vI x2, vI x3, vI x4], [.int (y99 >>> ((1 : Int32) &&& 31)), .int x2, .ref 11], (H0 o))) rfl ?_
                      obtain ⟨y100, hy100, h⟩ := Option.bind_eq_some_iff.mp h
                      refine QTri.bnd Ad W (f := fun y100 => (152, [some (.ref 0), vI x1, vI x2, vI x3, vI x4], [], (H0v (f_bOp o) (f_bD o) (f_bS o) (f_bImm o) (f_bTerm o) (f_bTest o) (f_bT0 o) (f_bT1 o) (f_cnt0 o) (f_cnt1 o) y100 (f_outs o) (f_edgeId o) (f_edgeW o) (f_chNext o) (f_chPrev o) (f_chHead o) (f_heat o) (f_posOf o) (f_order o) (f_cOp o) (f_cD o) (f_cS o) (f_cImm o) (f_cKind o) (f_cTest o) (f_cTaken o) (f_cOther o) (f_maxBlocks o) (f_maxSteps o) (f_n o) (f_arranged o) (f_outCount o) (f_steps o) (f_status o)))) rfl hy100 ?_
                      refine QTri.steps Ad W 1 (st' := (202, [some (.ref 0), vI x1, vI x2, vI x3, vI x4], [], (H0v (f_bOp o) (f_bD o) (f_bS o) (f_bImm o) (f_bTerm o) (f_bTest o) (f_bT0 o) (f_bT1 o) (f_cnt0 o) (f_cnt1 o) y100 (f_outs o) (f_edgeId o) (f_edgeW o) (f_chNext o) (f_chPrev o) (f_chHead o) (f_heat o) (f_posOf o) (f_order o) (f_cOp o) (f_cD o) (f_cS o) (f_cImm o) (f_cKind o) (f_cTest o) (f_cTaken o) (f_cOther o) (f_maxBlocks o) (f_maxSteps o) (f_n o) (f_arranged o) (f_outCount o) (f_steps o) (f_status o)))) rfl ?_
                      have E101 : ((H0v (f_bOp o) (f_bD o) (f_bS o) (f_bImm o) (f_bTerm o) (f_bTest o) (f_bT0 o) (f_bT1 o) (f_cnt0 o) (f_cnt1 o) y100 (f_outs o) (f_edgeId o) (f_edgeW o) (f_chNext o) (f_chPrev o) (f_chHead o) (f_heat o) (f_posOf o) (f_order o) (f_cOp o) (f_cD o) (f_cS o) (f_cImm o) (f_cKind o) (f_cTest o) (f_cTaken o) (f_cOther o) (f_maxBlocks o) (f_maxSteps o) (f_n o) (f_arranged o) (f_outCount o) (f_steps o) (f_status o)) : QHeap) = (H0 (s_regs o y100)) := by dsimp only [H0, H0v, f_bOp, f_bD, f_bS, f_bImm, f_bTerm, f_bTest, f_bT0, f_bT1, f_cnt0, f_cnt1, f_regs, f_outs, f_edgeId, f_edgeW, f_chNext, f_chPrev, f_chHead, f_heat, f_posOf, f_order, f_cOp, f_cD, f_cS, f_cImm, f_cKind, f_cTest, f_cTaken, f_cOther, f_maxBlocks, f_maxSteps, f_n, f_arranged, f_outCount, f_steps, f_status, s_regs]
                      rw [E101]
                      obtain rfl := Option.some.inj h
                      exact QTri.ret0 rfl rfl
                    · refine QTri.brT Ad W (t := 155) (f := 138) (L := [some (.ref 0), vI x1, vI x2, vI x3, vI x4]) (S := []) (σ := (H0 o)) rfl (XT.ii_ne_t hc98) ?_
                      refine QTri.steps Ad W 2 (st' := (158, [some (.ref 0), vI x1, vI x2, vI x3, vI x4], [.int (7 : Int32), .int x1], (H0 o))) rfl ?_
                      rcases qite h with ⟨hc102, h⟩ | ⟨hc102, h⟩
                      · refine QTri.brF Ad W (t := 202) (f := 161) (L := [some (.ref 0), vI x1, vI x2, vI x3, vI x4]) (S := []) (σ := (H0 o)) rfl (XT.ii_ne_f hc102) ?_
                        refine QTri.steps Ad W 2 (st' := (165, [some (.ref 0), vI x1, vI x2, vI x3, vI x4], [.int (f_outCount o)], (H0 o))) rfl ?_
                        rcases qite h with ⟨hc103, h⟩ | ⟨hc103, h⟩
                        · refine QTri.brT Ad W (t := 192) (f := 168) (L := [some (.ref 0), vI x1, vI x2, vI x3, vI x4]) (S := []) (σ := (H0 o)) rfl (XT.i0_lt_t hc103) ?_
                          exact QTri.mask [true, false, false, false, false] (tJ9_192 Ad W o h)
                        · refine QTri.brF Ad W (t := 192) (f := 168) (L := [some (.ref 0), vI x1, vI x2, vI x3, vI x4]) (S := []) (σ := (H0 o)) rfl (XT.i0_lt_f hc103) ?_
                          refine QTri.steps Ad W 3 (st' := (174, [some (.ref 0), vI x1, vI x2, vI x3, vI x4], [.int (16 : Int32), .int (f_outCount o)], (H0 o))) rfl ?_
                          rcases qite h with ⟨hc105, h⟩ | ⟨hc105, h⟩
                          · refine QTri.brF Ad W (t := 192) (f := 177) (L := [some (.ref 0), vI x1, vI x2, vI x3, vI x4]) (S := []) (σ := (H0 o)) rfl (XT.ii_ge_f hc105) ?_
                            refine QTri.steps Ad W 7 (st' := (190, [some (.ref 0), vI x1, vI x2, vI x3, vI x4], [.int x2, .ref 11, .int (f_outCount o), .ref 12], (H0 o))) rfl ?_
                            obtain ⟨y106, hy106, h⟩ := Option.bind_eq_some_iff.mp h
                            refine QTri.bnd Ad W (f := fun y106 => (191, [some (.ref 0), vI x1, vI x2, vI x3, vI x4], [.int y106, .int (f_outCount o), .ref 12], (H0 o))) rfl hy106 ?_
                            obtain ⟨y107, hy107, h⟩ := Option.bind_eq_some_iff.mp h
                            refine QTri.bnd Ad W (f := fun y107 => (192, [some (.ref 0), vI x1, vI x2, vI x3, vI x4], [], (H0v (f_bOp o) (f_bD o) (f_bS o) (f_bImm o) (f_bTerm o) (f_bTest o) (f_bT0 o) (f_bT1 o) (f_cnt0 o) (f_cnt1 o) (f_regs o) y107 (f_edgeId o) (f_edgeW o) (f_chNext o) (f_chPrev o) (f_chHead o) (f_heat o) (f_posOf o) (f_order o) (f_cOp o) (f_cD o) (f_cS o) (f_cImm o) (f_cKind o) (f_cTest o) (f_cTaken o) (f_cOther o) (f_maxBlocks o) (f_maxSteps o) (f_n o) (f_arranged o) (f_outCount o) (f_steps o) (f_status o)))) rfl hy107 ?_
                            have E108 : ((H0v (f_bOp o) (f_bD o) (f_bS o) (f_bImm o) (f_bTerm o) (f_bTest o) (f_bT0 o) (f_bT1 o) (f_cnt0 o) (f_cnt1 o) (f_regs o) y107 (f_edgeId o) (f_edgeW o) (f_chNext o) (f_chPrev o) (f_chHead o) (f_heat o) (f_posOf o) (f_order o) (f_cOp o) (f_cD o) (f_cS o) (f_cImm o) (f_cKind o) (f_cTest o) (f_cTaken o) (f_cOther o) (f_maxBlocks o) (f_maxSteps o) (f_n o) (f_arranged o) (f_outCount o) (f_steps o) (f_status o)) : QHeap) = (H0 (s_outs o y107)) := by dsimp only [H0, H0v, f_bOp, f_bD, f_bS, f_bImm, f_bTerm, f_bTest, f_bT0, f_bT1, f_cnt0, f_cnt1, f_regs, f_outs, f_edgeId, f_edgeW, f_chNext, f_chPrev, f_chHead, f_heat, f_posOf, f_order, f_cOp, f_cD, f_cS, f_cImm, f_cKind, f_cTest, f_cTaken, f_cOther, f_maxBlocks, f_maxSteps, f_n, f_arranged, f_outCount, f_steps, f_status, s_outs]
                            rw [E108]
                            exact QTri.mask [true, false, false, false, false] (tJ9_192 Ad W (s_outs o y107) h)
                          · refine QTri.brT Ad W (t := 192) (f := 177) (L := [some (.ref 0), vI x1, vI x2, vI x3, vI x4]) (S := []) (σ := (H0 o)) rfl (XT.ii_ge_t hc105) ?_
                            exact QTri.mask [true, false, false, false, false] (tJ9_192 Ad W o h)
                      · refine QTri.brT Ad W (t := 202) (f := 161) (L := [some (.ref 0), vI x1, vI x2, vI x3, vI x4]) (S := []) (σ := (H0 o)) rfl (XT.ii_ne_t hc102) ?_
                        obtain rfl := Option.some.inj h
                        exact QTri.ret0 rfl rfl
/-- stepBlock(I)I -/
def F8 (o : Ob) (x1 : Int32) : Option (Int32 × Ob) :=
  (F6 o x1).bind fun r67 => (if r67 = (0 : Int32) then some ((-1 : Int32), o) else (aget (f_bOp o) x1).bind fun y69 => (aget (f_bD o) x1).bind fun y70 => (aget (f_bS o) x1).bind fun y71 => (aget (f_bImm o) x1).bind fun y72 => (F9 o y69 y70 y71 y72).bind fun r109 => (aget (f_bTerm r109) x1).bind fun y110 => (if y110 = (1 : Int32) then (aget (f_cnt0 r109) x1).bind fun y112 => (aset (f_cnt0 r109) x1 (y112 + (1 : Int32))).bind fun y113 => (aget (f_bT0 r109) x1).bind fun y114 => some (y114, (s_cnt0 r109 y113)) else (if y110 = (2 : Int32) then (aget (f_bTest r109) x1).bind fun y117 => none else some ((-1 : Int32), r109))))
theorem tF8 (Ad : QAd n0 ad) (W : QW Z a0) (o : Ob) (x1 : Int32) {r : Int32 × Ob} (h : F8 o x1 = some r) : QTri l Z n0 ad 8 (0, qentry [.ref 0, .int x1] (pMaxL 8), [], (H0 o)) (some (Value.int r.1)) (H0 r.2) := by
  unfold F8 at h
  refine QTri.steps Ad W 2 (st' := (2, [some (.ref 0), vI x1, none], [.int x1, .ref 0], (H0 o))) rfl ?_
  obtain ⟨r67, hr67, h⟩ := Option.bind_eq_some_iff.mp h
  refine QTri.callP W (a := 0) (as := [.int x1]) (rest := []) (w := (some (.int r67))) (σ₁ := (H0 o)) rfl rfl rfl rfl rfl rfl rfl rfl (tF6 Ad W o x1 hr67) ?_
  rcases qite h with ⟨hc68, h⟩ | ⟨hc68, h⟩
  · refine QTri.brF Ad W (t := 10) (f := 8) (L := [some (.ref 0), vI x1, none]) (S := []) (σ := (H0 o)) rfl (XT.i0_ne_f hc68) ?_
    refine QTri.steps Ad W 1 (st' := (9, [some (.ref 0), vI x1, none], [.int (-1 : Int32)], (H0 o))) rfl ?_
    obtain rfl := Option.some.inj h
    exact QTri.retI rfl rfl
  · refine QTri.brT Ad W (t := 10) (f := 8) (L := [some (.ref 0), vI x1, none]) (S := []) (σ := (H0 o)) rfl (XT.i0_ne_t hc68) ?_
    refine QTri.steps Ad W 4 (st' := (16, [some (.ref 0), vI x1, none], [.int x1, .ref 1, .ref 0], (H0 o))) rfl ?_
    obtain ⟨y69, hy69, h⟩ := Option.bind_eq_some_iff.mp h
    refine QTri.bnd Ad W (f := fun y69 => (17, [some (.ref 0), vI x1, none], [.int y69, .ref 0], (H0 o))) rfl hy69 ?_
    refine QTri.steps Ad W 3 (st' := (22, [some (.ref 0), vI x1, none], [.int x1, .ref 2, .int y69, .ref 0], (H0 o))) rfl ?_
    obtain ⟨y70, hy70, h⟩ := Option.bind_eq_some_iff.mp h
    refine QTri.bnd Ad W (f := fun y70 => (23, [some (.ref 0), vI x1, none], [.int y70, .int y69, .ref 0], (H0 o))) rfl hy70 ?_
    refine QTri.steps Ad W 3 (st' := (28, [some (.ref 0), vI x1, none], [.int x1, .ref 3, .int y70, .int y69, .ref 0], (H0 o))) rfl ?_
    obtain ⟨y71, hy71, h⟩ := Option.bind_eq_some_iff.mp h
    refine QTri.bnd Ad W (f := fun y71 => (29, [some (.ref 0), vI x1, none], [.int y71, .int y70, .int y69, .ref 0], (H0 o))) rfl hy71 ?_
    refine QTri.steps Ad W 3 (st' := (34, [some (.ref 0), vI x1, none], [.int x1, .ref 4, .int y71, .int y70, .int y69, .ref 0], (H0 o))) rfl ?_
    obtain ⟨y72, hy72, h⟩ := Option.bind_eq_some_iff.mp h
    refine QTri.bnd Ad W (f := fun y72 => (35, [some (.ref 0), vI x1, none], [.int y72, .int y71, .int y70, .int y69, .ref 0], (H0 o))) rfl hy72 ?_
    obtain ⟨r109, hr109, h⟩ := Option.bind_eq_some_iff.mp h
    refine QTri.callP W (a := 0) (as := [.int y69, .int y70, .int y71, .int y72]) (rest := []) (w := none) (σ₁ := (H0 r109)) rfl rfl rfl rfl rfl rfl rfl rfl (tF9 Ad W o y69 y70 y71 y72 hr109) ?_
    refine QTri.steps Ad W 3 (st' := (43, [some (.ref 0), vI x1, none], [.int x1, .ref 5], (H0 r109))) rfl ?_
    obtain ⟨y110, hy110, h⟩ := Option.bind_eq_some_iff.mp h
    refine QTri.bnd Ad W (f := fun y110 => (44, [some (.ref 0), vI x1, none], [.int y110], (H0 r109))) rfl hy110 ?_
    refine QTri.steps Ad W 3 (st' := (47, [some (.ref 0), vI x1, vI y110], [.int (1 : Int32), .int y110], (H0 r109))) rfl ?_
    rcases qite h with ⟨hc111, h⟩ | ⟨hc111, h⟩
    · refine QTri.brF Ad W (t := 67) (f := 50) (L := [some (.ref 0), vI x1, vI y110]) (S := []) (σ := (H0 r109)) rfl (XT.ii_ne_f hc111) ?_
      refine QTri.steps Ad W 4 (st' := (56, [some (.ref 0), vI x1, vI y110], [.int x1, .ref 9, .int x1, .ref 9], (H0 r109))) rfl ?_
      obtain ⟨y112, hy112, h⟩ := Option.bind_eq_some_iff.mp h
      refine QTri.bnd Ad W (f := fun y112 => (57, [some (.ref 0), vI x1, vI y110], [.int y112, .int x1, .ref 9], (H0 r109))) rfl hy112 ?_
      refine QTri.steps Ad W 2 (st' := (59, [some (.ref 0), vI x1, vI y110], [.int (y112 + (1 : Int32)), .int x1, .ref 9], (H0 r109))) rfl ?_
      obtain ⟨y113, hy113, h⟩ := Option.bind_eq_some_iff.mp h
      refine QTri.bnd Ad W (f := fun y113 => (60, [some (.ref 0), vI x1, vI y110], [], (H0v (f_bOp r109) (f_bD r109) (f_bS r109) (f_bImm r109) (f_bTerm r109) (f_bTest r109) (f_bT0 r109) (f_bT1 r109) y113 (f_cnt1 r109) (f_regs r109) (f_outs r109) (f_edgeId r109) (f_edgeW r109) (f_chNext r109) (f_chPrev r109) (f_chHead r109) (f_heat r109) (f_posOf r109) (f_order r109) (f_cOp r109) (f_cD r109) (f_cS r109) (f_cImm r109) (f_cKind r109) (f_cTest r109) (f_cTaken r109) (f_cOther r109) (f_maxBlocks r109) (f_maxSteps r109) (f_n r109) (f_arranged r109) (f_outCount r109) (f_steps r109) (f_status r109)))) rfl hy113 ?_
      refine QTri.steps Ad W 3 (st' := (65, [some (.ref 0), vI x1, vI y110], [.int x1, .ref 7], (H0v (f_bOp r109) (f_bD r109) (f_bS r109) (f_bImm r109) (f_bTerm r109) (f_bTest r109) (f_bT0 r109) (f_bT1 r109) y113 (f_cnt1 r109) (f_regs r109) (f_outs r109) (f_edgeId r109) (f_edgeW r109) (f_chNext r109) (f_chPrev r109) (f_chHead r109) (f_heat r109) (f_posOf r109) (f_order r109) (f_cOp r109) (f_cD r109) (f_cS r109) (f_cImm r109) (f_cKind r109) (f_cTest r109) (f_cTaken r109) (f_cOther r109) (f_maxBlocks r109) (f_maxSteps r109) (f_n r109) (f_arranged r109) (f_outCount r109) (f_steps r109) (f_status r109)))) rfl ?_
      obtain ⟨y114, hy114, h⟩ := Option.bind_eq_some_iff.mp h
      refine QTri.bnd Ad W (f := fun y114 => (66, [some (.ref 0), vI x1, vI y110], [.int y114], (H0v (f_bOp r109) (f_bD r109) (f_bS r109) (f_bImm r109) (f_bTerm r109) (f_bTest r109) (f_bT0 r109) (f_bT1 r109) y113 (f_cnt1 r109) (f_regs r109) (f_outs r109) (f_edgeId r109) (f_edgeW r109) (f_chNext r109) (f_chPrev r109) (f_chHead r109) (f_heat r109) (f_posOf r109) (f_order r109) (f_cOp r109) (f_cD r109) (f_cS r109) (f_cImm r109) (f_cKind r109) (f_cTest r109) (f_cTaken r109) (f_cOther r109) (f_maxBlocks r109) (f_maxSteps r109) (f_n r109) (f_arranged r109) (f_outCount r109) (f_steps r109) (f_status r109)))) rfl hy114 ?_
      have E115 : ((H0v (f_bOp r109) (f_bD r109) (f_bS r109) (f_bImm r109) (f_bTerm r109) (f_bTest r109) (f_bT0 r109) (f_bT1 r109) y113 (f_cnt1 r109) (f_regs r109) (f_outs r109) (f_edgeId r109) (f_edgeW r109) (f_chNext r109) (f_chPrev r109) (f_chHead r109) (f_heat r109) (f_posOf r109) (f_order r109) (f_cOp r109) (f_cD r109) (f_cS r109) (f_cImm r109) (f_cKind r109) (f_cTest r109) (f_cTaken r109) (f_cOther r109) (f_maxBlocks r109) (f_maxSteps r109) (f_n r109) (f_arranged r109) (f_outCount r109) (f_steps r109) (f_status r109)) : QHeap) = (H0 (s_cnt0 r109 y113)) := by dsimp only [H0, H0v, f_bOp, f_bD, f_bS, f_bImm, f_bTerm, f_bTest, f_bT0, f_bT1, f_cnt0, f_cnt1, f_regs, f_outs, f_edgeId, f_edgeW, f_chNext, f_chPrev, f_chHead, f_heat, f_posOf, f_order, f_cOp, f_cD, f_cS, f_cImm, f_cKind, f_cTest, f_cTaken, f_cOther, f_maxBlocks, f_maxSteps, f_n, f_arranged, f_outCount, f_steps, f_status, s_cnt0]
      rw [E115]
      obtain rfl := Option.some.inj h
      exact QTri.retI rfl rfl
    · refine QTri.brT Ad W (t := 67) (f := 50) (L := [some (.ref 0), vI x1, vI y110]) (S := []) (σ := (H0 r109)) rfl (XT.ii_ne_t hc111) ?_
      refine QTri.steps Ad W 2 (st' := (69, [some (.ref 0), vI x1, vI y110], [.int (2 : Int32), .int y110], (H0 r109))) rfl ?_
      rcases qite h with ⟨hc116, h⟩ | ⟨hc116, h⟩
      · refine QTri.brF Ad W (t := 119) (f := 72) (L := [some (.ref 0), vI x1, vI y110]) (S := []) (σ := (H0 r109)) rfl (XT.ii_ne_f hc116) ?_
        refine QTri.steps Ad W 4 (st' := (78, [some (.ref 0), vI x1, vI y110], [.int x1, .ref 6, .ref 0], (H0 r109))) rfl ?_
        obtain ⟨y117, hy117, h⟩ := Option.bind_eq_some_iff.mp h
        refine QTri.bnd Ad W (f := fun y117 => (79, [some (.ref 0), vI x1, vI y110], [.int y117, .ref 0], (H0 r109))) rfl hy117 ?_
        cases h
      · refine QTri.brT Ad W (t := 119) (f := 72) (L := [some (.ref 0), vI x1, vI y110]) (S := []) (σ := (H0 r109)) rfl (XT.ii_ne_t hc116) ?_
        refine QTri.steps Ad W 1 (st' := (120, [some (.ref 0), vI x1, vI y110], [.int (-1 : Int32)], (H0 r109))) rfl ?_
        obtain rfl := Option.some.inj h
        exact QTri.retI rfl rfl
def J7_112 (o : Ob) (q3 : Int32) : Option (((Int32 × Ob)) ⊕ (Int32 × Ob)) :=
  some (.inl (q3, (s_status o q3)))
theorem tJ7_112_q3 (Ad : QAd n0 ad) (W : QW Z a0) (x3 : Int32) (o : Ob) (q3 : Int32) {r : ((Int32 × Ob)) ⊕ (Int32 × Ob)} {u : Option Value} {τ : QHeap} (h : J7_112 o q3 = some r) (hx0 : ∀ x : Int32 × Ob, r = .inl x → u = (some (Value.int x.1)) ∧ τ = (H0 x.2)) (hc : ∀ x : Int32 × Ob, r = .inr x → QTri l Z n0 ad 7 (51, [some (.ref 0), none, vI x.1, vI x3, none], [], (H0 x.2)) u τ) : QTri l Z n0 ad 7 (112, [some (.ref 0), none, none, vI q3, none], [], (H0 o)) u τ := by
  unfold J7_112 at h
  refine QTri.steps Ad W 3 (st' := (117, [some (.ref 0), none, none, vI q3, none], [], (H0v (f_bOp o) (f_bD o) (f_bS o) (f_bImm o) (f_bTerm o) (f_bTest o) (f_bT0 o) (f_bT1 o) (f_cnt0 o) (f_cnt1 o) (f_regs o) (f_outs o) (f_edgeId o) (f_edgeW o) (f_chNext o) (f_chPrev o) (f_chHead o) (f_heat o) (f_posOf o) (f_order o) (f_cOp o) (f_cD o) (f_cS o) (f_cImm o) (f_cKind o) (f_cTest o) (f_cTaken o) (f_cOther o) (f_maxBlocks o) (f_maxSteps o) (f_n o) (f_arranged o) (f_outCount o) (f_steps o) q3))) rfl ?_
  refine QTri.steps Ad W 1 (st' := (118, [some (.ref 0), none, none, vI q3, none], [.int q3], (H0v (f_bOp o) (f_bD o) (f_bS o) (f_bImm o) (f_bTerm o) (f_bTest o) (f_bT0 o) (f_bT1 o) (f_cnt0 o) (f_cnt1 o) (f_regs o) (f_outs o) (f_edgeId o) (f_edgeW o) (f_chNext o) (f_chPrev o) (f_chHead o) (f_heat o) (f_posOf o) (f_order o) (f_cOp o) (f_cD o) (f_cS o) (f_cImm o) (f_cKind o) (f_cTest o) (f_cTaken o) (f_cOther o) (f_maxBlocks o) (f_maxSteps o) (f_n o) (f_arranged o) (f_outCount o) (f_steps o) q3))) rfl ?_
  have E120 : ((H0v (f_bOp o) (f_bD o) (f_bS o) (f_bImm o) (f_bTerm o) (f_bTest o) (f_bT0 o) (f_bT1 o) (f_cnt0 o) (f_cnt1 o) (f_regs o) (f_outs o) (f_edgeId o) (f_edgeW o) (f_chNext o) (f_chPrev o) (f_chHead o) (f_heat o) (f_posOf o) (f_order o) (f_cOp o) (f_cD o) (f_cS o) (f_cImm o) (f_cKind o) (f_cTest o) (f_cTaken o) (f_cOther o) (f_maxBlocks o) (f_maxSteps o) (f_n o) (f_arranged o) (f_outCount o) (f_steps o) q3) : QHeap) = (H0 (s_status o q3)) := by dsimp only [H0, H0v, f_bOp, f_bD, f_bS, f_bImm, f_bTerm, f_bTest, f_bT0, f_bT1, f_cnt0, f_cnt1, f_regs, f_outs, f_edgeId, f_edgeW, f_chNext, f_chPrev, f_chHead, f_heat, f_posOf, f_order, f_cOp, f_cD, f_cS, f_cImm, f_cKind, f_cTest, f_cTaken, f_cOther, f_maxBlocks, f_maxSteps, f_n, f_arranged, f_outCount, f_steps, f_status, s_status]
  rw [E120]
  obtain rfl := Option.some.inj h
  obtain ⟨rfl, rfl⟩ := hx0 (q3, (s_status o q3)) rfl
  exact QTri.retI rfl rfl
theorem tJ7_112 (Ad : QAd n0 ad) (W : QW Z a0) (o : Ob) (x3 : Int32) {r : ((Int32 × Ob)) ⊕ (Int32 × Ob)} {u : Option Value} {τ : QHeap} (h : J7_112 o x3 = some r) (hx0 : ∀ x : Int32 × Ob, r = .inl x → u = (some (Value.int x.1)) ∧ τ = (H0 x.2)) (hc : ∀ x : Int32 × Ob, r = .inr x → QTri l Z n0 ad 7 (51, [some (.ref 0), none, vI x.1, vI x3, none], [], (H0 x.2)) u τ) : QTri l Z n0 ad 7 (112, [some (.ref 0), none, none, vI x3, none], [], (H0 o)) u τ := by
  unfold J7_112 at h
  refine QTri.steps Ad W 3 (st' := (117, [some (.ref 0), none, none, vI x3, none], [], (H0v (f_bOp o) (f_bD o) (f_bS o) (f_bImm o) (f_bTerm o) (f_bTest o) (f_bT0 o) (f_bT1 o) (f_cnt0 o) (f_cnt1 o) (f_regs o) (f_outs o) (f_edgeId o) (f_edgeW o) (f_chNext o) (f_chPrev o) (f_chHead o) (f_heat o) (f_posOf o) (f_order o) (f_cOp o) (f_cD o) (f_cS o) (f_cImm o) (f_cKind o) (f_cTest o) (f_cTaken o) (f_cOther o) (f_maxBlocks o) (f_maxSteps o) (f_n o) (f_arranged o) (f_outCount o) (f_steps o) x3))) rfl ?_
  refine QTri.steps Ad W 1 (st' := (118, [some (.ref 0), none, none, vI x3, none], [.int x3], (H0v (f_bOp o) (f_bD o) (f_bS o) (f_bImm o) (f_bTerm o) (f_bTest o) (f_bT0 o) (f_bT1 o) (f_cnt0 o) (f_cnt1 o) (f_regs o) (f_outs o) (f_edgeId o) (f_edgeW o) (f_chNext o) (f_chPrev o) (f_chHead o) (f_heat o) (f_posOf o) (f_order o) (f_cOp o) (f_cD o) (f_cS o) (f_cImm o) (f_cKind o) (f_cTest o) (f_cTaken o) (f_cOther o) (f_maxBlocks o) (f_maxSteps o) (f_n o) (f_arranged o) (f_outCount o) (f_steps o) x3))) rfl ?_
  have E121 : ((H0v (f_bOp o) (f_bD o) (f_bS o) (f_bImm o) (f_bTerm o) (f_bTest o) (f_bT0 o) (f_bT1 o) (f_cnt0 o) (f_cnt1 o) (f_regs o) (f_outs o) (f_edgeId o) (f_edgeW o) (f_chNext o) (f_chPrev o) (f_chHead o) (f_heat o) (f_posOf o) (f_order o) (f_cOp o) (f_cD o) (f_cS o) (f_cImm o) (f_cKind o) (f_cTest o) (f_cTaken o) (f_cOther o) (f_maxBlocks o) (f_maxSteps o) (f_n o) (f_arranged o) (f_outCount o) (f_steps o) x3) : QHeap) = (H0 (s_status o x3)) := by dsimp only [H0, H0v, f_bOp, f_bD, f_bS, f_bImm, f_bTerm, f_bTest, f_bT0, f_bT1, f_cnt0, f_cnt1, f_regs, f_outs, f_edgeId, f_edgeW, f_chNext, f_chPrev, f_chHead, f_heat, f_posOf, f_order, f_cOp, f_cD, f_cS, f_cImm, f_cKind, f_cTest, f_cTaken, f_cOther, f_maxBlocks, f_maxSteps, f_n, f_arranged, f_outCount, f_steps, f_status, s_status]
  rw [E121]
  obtain rfl := Option.some.inj h
  obtain ⟨rfl, rfl⟩ := hx0 (x3, (s_status o x3)) rfl
  exact QTri.retI rfl rfl
def B7_51 (x3 : Int32) (v : Int32 × Ob) : Option (((Int32 × Ob)) ⊕ (Int32 × Ob)) :=
  (if (f_steps v.2) < (f_maxSteps v.2) then (if (f_arranged v.2) = (0 : Int32) then (F8 (s_steps v.2 ((f_steps v.2) + (1 : Int32))) v.1).bind fun r118 => (if r118.1 < (0 : Int32) then (J7_112 r118.2 (1 : Int32)) else some (.inr (r118.1, r118.2))) else none) else (J7_112 v.2 x3))
theorem tB7_51 (Ad : QAd n0 ad) (W : QW Z a0) (x3 : Int32) (v : Int32 × Ob) {r : ((Int32 × Ob)) ⊕ (Int32 × Ob)} {u : Option Value} {τ : QHeap} (h : B7_51 x3 v = some r) (hx0 : ∀ x : Int32 × Ob, r = .inl x → u = (some (Value.int x.1)) ∧ τ = (H0 x.2)) (hc : ∀ x : Int32 × Ob, r = .inr x → QTri l Z n0 ad 7 (51, [some (.ref 0), none, vI x.1, vI x3, none], [], (H0 x.2)) u τ) : QTri l Z n0 ad 7 (51, [some (.ref 0), none, vI v.1, vI x3, none], [], (H0 v.2)) u τ := by
  unfold B7_51 at h
  refine QTri.steps Ad W 4 (st' := (59, [some (.ref 0), none, vI v.1, vI x3, none], [.int (f_maxSteps v.2), .int (f_steps v.2)], (H0 v.2))) rfl ?_
  rcases qite h with ⟨hc64, h⟩ | ⟨hc64, h⟩
  · refine QTri.brF Ad W (t := 112) (f := 62) (L := [some (.ref 0), none, vI v.1, vI x3, none]) (S := []) (σ := (H0 v.2)) rfl (XT.ii_ge_f hc64) ?_
    refine QTri.steps Ad W 6 (st' := (72, [some (.ref 0), none, vI v.1, vI x3, none], [], (H0v (f_bOp v.2) (f_bD v.2) (f_bS v.2) (f_bImm v.2) (f_bTerm v.2) (f_bTest v.2) (f_bT0 v.2) (f_bT1 v.2) (f_cnt0 v.2) (f_cnt1 v.2) (f_regs v.2) (f_outs v.2) (f_edgeId v.2) (f_edgeW v.2) (f_chNext v.2) (f_chPrev v.2) (f_chHead v.2) (f_heat v.2) (f_posOf v.2) (f_order v.2) (f_cOp v.2) (f_cD v.2) (f_cS v.2) (f_cImm v.2) (f_cKind v.2) (f_cTest v.2) (f_cTaken v.2) (f_cOther v.2) (f_maxBlocks v.2) (f_maxSteps v.2) (f_n v.2) (f_arranged v.2) (f_outCount v.2) ((f_steps v.2) + (1 : Int32)) (f_status v.2)))) rfl ?_
    refine QTri.steps Ad W 2 (st' := (76, [some (.ref 0), none, vI v.1, vI x3, none], [.int (f_arranged v.2)], (H0v (f_bOp v.2) (f_bD v.2) (f_bS v.2) (f_bImm v.2) (f_bTerm v.2) (f_bTest v.2) (f_bT0 v.2) (f_bT1 v.2) (f_cnt0 v.2) (f_cnt1 v.2) (f_regs v.2) (f_outs v.2) (f_edgeId v.2) (f_edgeW v.2) (f_chNext v.2) (f_chPrev v.2) (f_chHead v.2) (f_heat v.2) (f_posOf v.2) (f_order v.2) (f_cOp v.2) (f_cD v.2) (f_cS v.2) (f_cImm v.2) (f_cKind v.2) (f_cTest v.2) (f_cTaken v.2) (f_cOther v.2) (f_maxBlocks v.2) (f_maxSteps v.2) (f_n v.2) (f_arranged v.2) (f_outCount v.2) ((f_steps v.2) + (1 : Int32)) (f_status v.2)))) rfl ?_
    rcases qite h with ⟨hc65, h⟩ | ⟨hc65, h⟩
    · refine QTri.brT Ad W (t := 89) (f := 79) (L := [some (.ref 0), none, vI v.1, vI x3, none]) (S := []) (σ := (H0v (f_bOp v.2) (f_bD v.2) (f_bS v.2) (f_bImm v.2) (f_bTerm v.2) (f_bTest v.2) (f_bT0 v.2) (f_bT1 v.2) (f_cnt0 v.2) (f_cnt1 v.2) (f_regs v.2) (f_outs v.2) (f_edgeId v.2) (f_edgeW v.2) (f_chNext v.2) (f_chPrev v.2) (f_chHead v.2) (f_heat v.2) (f_posOf v.2) (f_order v.2) (f_cOp v.2) (f_cD v.2) (f_cS v.2) (f_cImm v.2) (f_cKind v.2) (f_cTest v.2) (f_cTaken v.2) (f_cOther v.2) (f_maxBlocks v.2) (f_maxSteps v.2) (f_n v.2) (f_arranged v.2) (f_outCount v.2) ((f_steps v.2) + (1 : Int32)) (f_status v.2))) rfl (XT.i0_eq_t hc65) ?_
      refine QTri.steps Ad W 2 (st' := (91, [some (.ref 0), none, vI v.1, vI x3, none], [.int v.1, .ref 0], (H0v (f_bOp v.2) (f_bD v.2) (f_bS v.2) (f_bImm v.2) (f_bTerm v.2) (f_bTest v.2) (f_bT0 v.2) (f_bT1 v.2) (f_cnt0 v.2) (f_cnt1 v.2) (f_regs v.2) (f_outs v.2) (f_edgeId v.2) (f_edgeW v.2) (f_chNext v.2) (f_chPrev v.2) (f_chHead v.2) (f_heat v.2) (f_posOf v.2) (f_order v.2) (f_cOp v.2) (f_cD v.2) (f_cS v.2) (f_cImm v.2) (f_cKind v.2) (f_cTest v.2) (f_cTaken v.2) (f_cOther v.2) (f_maxBlocks v.2) (f_maxSteps v.2) (f_n v.2) (f_arranged v.2) (f_outCount v.2) ((f_steps v.2) + (1 : Int32)) (f_status v.2)))) rfl ?_
      have E66 : ((H0v (f_bOp v.2) (f_bD v.2) (f_bS v.2) (f_bImm v.2) (f_bTerm v.2) (f_bTest v.2) (f_bT0 v.2) (f_bT1 v.2) (f_cnt0 v.2) (f_cnt1 v.2) (f_regs v.2) (f_outs v.2) (f_edgeId v.2) (f_edgeW v.2) (f_chNext v.2) (f_chPrev v.2) (f_chHead v.2) (f_heat v.2) (f_posOf v.2) (f_order v.2) (f_cOp v.2) (f_cD v.2) (f_cS v.2) (f_cImm v.2) (f_cKind v.2) (f_cTest v.2) (f_cTaken v.2) (f_cOther v.2) (f_maxBlocks v.2) (f_maxSteps v.2) (f_n v.2) (f_arranged v.2) (f_outCount v.2) ((f_steps v.2) + (1 : Int32)) (f_status v.2)) : QHeap) = (H0 (s_steps v.2 ((f_steps v.2) + (1 : Int32)))) := by dsimp only [H0, H0v, f_bOp, f_bD, f_bS, f_bImm, f_bTerm, f_bTest, f_bT0, f_bT1, f_cnt0, f_cnt1, f_regs, f_outs, f_edgeId, f_edgeW, f_chNext, f_chPrev, f_chHead, f_heat, f_posOf, f_order, f_cOp, f_cD, f_cS, f_cImm, f_cKind, f_cTest, f_cTaken, f_cOther, f_maxBlocks, f_maxSteps, f_n, f_arranged, f_outCount, f_steps, f_status, s_steps]
      rw [E66]
      obtain ⟨r118, hr118, h⟩ := Option.bind_eq_some_iff.mp h
      refine QTri.callP W (a := 0) (as := [.int v.1]) (rest := []) (w := (some (.int r118.1))) (σ₁ := (H0 r118.2)) rfl rfl rfl rfl rfl rfl rfl rfl (tF8 Ad W (s_steps v.2 ((f_steps v.2) + (1 : Int32))) v.1 hr118) ?_
      refine QTri.steps Ad W 2 (st' := (98, [some (.ref 0), none, vI v.1, vI x3, vI r118.1], [.int r118.1], (H0 r118.2))) rfl ?_
      rcases qite h with ⟨hc119, h⟩ | ⟨hc119, h⟩
      · refine QTri.brF Ad W (t := 106) (f := 101) (L := [some (.ref 0), none, vI v.1, vI x3, vI r118.1]) (S := []) (σ := (H0 r118.2)) rfl (XT.i0_ge_f hc119) ?_
        refine QTri.steps Ad W 3 (st' := (112, [some (.ref 0), none, vI v.1, vI (1 : Int32), vI r118.1], [], (H0 r118.2))) rfl ?_
        exact QTri.mask [true, false, false, true, false] (tJ7_112_q3 Ad W x3 r118.2 (1 : Int32) h hx0 hc)
      · refine QTri.brT Ad W (t := 106) (f := 101) (L := [some (.ref 0), none, vI v.1, vI x3, vI r118.1]) (S := []) (σ := (H0 r118.2)) rfl (XT.i0_ge_t hc119) ?_
        refine QTri.steps Ad W 3 (st' := (51, [some (.ref 0), none, vI r118.1, vI x3, vI r118.1], [], (H0 r118.2))) rfl ?_
        obtain rfl := Option.some.inj h
        exact QTri.mask [true, false, true, true, false] (hc (r118.1, r118.2) rfl)
    · refine QTri.brF Ad W (t := 89) (f := 79) (L := [some (.ref 0), none, vI v.1, vI x3, none]) (S := []) (σ := (H0v (f_bOp v.2) (f_bD v.2) (f_bS v.2) (f_bImm v.2) (f_bTerm v.2) (f_bTest v.2) (f_bT0 v.2) (f_bT1 v.2) (f_cnt0 v.2) (f_cnt1 v.2) (f_regs v.2) (f_outs v.2) (f_edgeId v.2) (f_edgeW v.2) (f_chNext v.2) (f_chPrev v.2) (f_chHead v.2) (f_heat v.2) (f_posOf v.2) (f_order v.2) (f_cOp v.2) (f_cD v.2) (f_cS v.2) (f_cImm v.2) (f_cKind v.2) (f_cTest v.2) (f_cTaken v.2) (f_cOther v.2) (f_maxBlocks v.2) (f_maxSteps v.2) (f_n v.2) (f_arranged v.2) (f_outCount v.2) ((f_steps v.2) + (1 : Int32)) (f_status v.2))) rfl (XT.i0_eq_f hc65) ?_
      cases h
  · refine QTri.brT Ad W (t := 112) (f := 62) (L := [some (.ref 0), none, vI v.1, vI x3, none]) (S := []) (σ := (H0 v.2)) rfl (XT.ii_ge_t hc64) ?_
    exact QTri.mask [true, false, false, true, false] (tJ7_112 Ad W v.2 x3 h hx0 hc)
/-- run(I)I -/
def F7 (o : Ob) (x1 : Int32) : Option (Int32 × Ob) :=
  (if (f_n o) = (0 : Int32) then some ((3 : Int32), o) else (aset (f_regs o) (0 : Int32) x1).bind fun y59 => (aset y59 (1 : Int32) (0 : Int32)).bind fun y60 => (aset y60 (2 : Int32) (0 : Int32)).bind fun y61 => (aset y61 (3 : Int32) (0 : Int32)).bind fun y62 => (loopN (B7_51 (2 : Int32)) qN ((0 : Int32), (s_steps (s_outCount (s_regs o y62) (0 : Int32)) (0 : Int32)))).bind fun e122 => some e122)
theorem tF7 (Ad : QAd n0 ad) (W : QW Z a0) (o : Ob) (x1 : Int32) {r : Int32 × Ob} (h : F7 o x1 = some r) : QTri l Z n0 ad 7 (0, qentry [.ref 0, .int x1] (pMaxL 7), [], (H0 o)) (some (Value.int r.1)) (H0 r.2) := by
  unfold F7 at h
  refine QTri.steps Ad W 2 (st' := (4, [some (.ref 0), vI x1, none, none, none], [.int (f_n o)], (H0 o))) rfl ?_
  rcases qite h with ⟨hc58, h⟩ | ⟨hc58, h⟩
  · refine QTri.brF Ad W (t := 9) (f := 7) (L := [some (.ref 0), vI x1, none, none, none]) (S := []) (σ := (H0 o)) rfl (XT.i0_ne_f hc58) ?_
    refine QTri.steps Ad W 1 (st' := (8, [some (.ref 0), vI x1, none, none, none], [.int (3 : Int32)], (H0 o))) rfl ?_
    obtain rfl := Option.some.inj h
    exact QTri.retI rfl rfl
  · refine QTri.brT Ad W (t := 9) (f := 7) (L := [some (.ref 0), vI x1, none, none, none]) (S := []) (σ := (H0 o)) rfl (XT.i0_ne_t hc58) ?_
    refine QTri.steps Ad W 4 (st' := (15, [some (.ref 0), vI x1, none, none, none], [.int x1, .int (0 : Int32), .ref 11], (H0 o))) rfl ?_
    obtain ⟨y59, hy59, h⟩ := Option.bind_eq_some_iff.mp h
    refine QTri.bnd Ad W (f := fun y59 => (16, [some (.ref 0), vI x1, none, none, none], [], (H0v (f_bOp o) (f_bD o) (f_bS o) (f_bImm o) (f_bTerm o) (f_bTest o) (f_bT0 o) (f_bT1 o) (f_cnt0 o) (f_cnt1 o) y59 (f_outs o) (f_edgeId o) (f_edgeW o) (f_chNext o) (f_chPrev o) (f_chHead o) (f_heat o) (f_posOf o) (f_order o) (f_cOp o) (f_cD o) (f_cS o) (f_cImm o) (f_cKind o) (f_cTest o) (f_cTaken o) (f_cOther o) (f_maxBlocks o) (f_maxSteps o) (f_n o) (f_arranged o) (f_outCount o) (f_steps o) (f_status o)))) rfl hy59 ?_
    refine QTri.steps Ad W 4 (st' := (22, [some (.ref 0), vI x1, none, none, none], [.int (0 : Int32), .int (1 : Int32), .ref 11], (H0v (f_bOp o) (f_bD o) (f_bS o) (f_bImm o) (f_bTerm o) (f_bTest o) (f_bT0 o) (f_bT1 o) (f_cnt0 o) (f_cnt1 o) y59 (f_outs o) (f_edgeId o) (f_edgeW o) (f_chNext o) (f_chPrev o) (f_chHead o) (f_heat o) (f_posOf o) (f_order o) (f_cOp o) (f_cD o) (f_cS o) (f_cImm o) (f_cKind o) (f_cTest o) (f_cTaken o) (f_cOther o) (f_maxBlocks o) (f_maxSteps o) (f_n o) (f_arranged o) (f_outCount o) (f_steps o) (f_status o)))) rfl ?_
    obtain ⟨y60, hy60, h⟩ := Option.bind_eq_some_iff.mp h
    refine QTri.bnd Ad W (f := fun y60 => (23, [some (.ref 0), vI x1, none, none, none], [], (H0v (f_bOp o) (f_bD o) (f_bS o) (f_bImm o) (f_bTerm o) (f_bTest o) (f_bT0 o) (f_bT1 o) (f_cnt0 o) (f_cnt1 o) y60 (f_outs o) (f_edgeId o) (f_edgeW o) (f_chNext o) (f_chPrev o) (f_chHead o) (f_heat o) (f_posOf o) (f_order o) (f_cOp o) (f_cD o) (f_cS o) (f_cImm o) (f_cKind o) (f_cTest o) (f_cTaken o) (f_cOther o) (f_maxBlocks o) (f_maxSteps o) (f_n o) (f_arranged o) (f_outCount o) (f_steps o) (f_status o)))) rfl hy60 ?_
    refine QTri.steps Ad W 4 (st' := (29, [some (.ref 0), vI x1, none, none, none], [.int (0 : Int32), .int (2 : Int32), .ref 11], (H0v (f_bOp o) (f_bD o) (f_bS o) (f_bImm o) (f_bTerm o) (f_bTest o) (f_bT0 o) (f_bT1 o) (f_cnt0 o) (f_cnt1 o) y60 (f_outs o) (f_edgeId o) (f_edgeW o) (f_chNext o) (f_chPrev o) (f_chHead o) (f_heat o) (f_posOf o) (f_order o) (f_cOp o) (f_cD o) (f_cS o) (f_cImm o) (f_cKind o) (f_cTest o) (f_cTaken o) (f_cOther o) (f_maxBlocks o) (f_maxSteps o) (f_n o) (f_arranged o) (f_outCount o) (f_steps o) (f_status o)))) rfl ?_
    obtain ⟨y61, hy61, h⟩ := Option.bind_eq_some_iff.mp h
    refine QTri.bnd Ad W (f := fun y61 => (30, [some (.ref 0), vI x1, none, none, none], [], (H0v (f_bOp o) (f_bD o) (f_bS o) (f_bImm o) (f_bTerm o) (f_bTest o) (f_bT0 o) (f_bT1 o) (f_cnt0 o) (f_cnt1 o) y61 (f_outs o) (f_edgeId o) (f_edgeW o) (f_chNext o) (f_chPrev o) (f_chHead o) (f_heat o) (f_posOf o) (f_order o) (f_cOp o) (f_cD o) (f_cS o) (f_cImm o) (f_cKind o) (f_cTest o) (f_cTaken o) (f_cOther o) (f_maxBlocks o) (f_maxSteps o) (f_n o) (f_arranged o) (f_outCount o) (f_steps o) (f_status o)))) rfl hy61 ?_
    refine QTri.steps Ad W 4 (st' := (36, [some (.ref 0), vI x1, none, none, none], [.int (0 : Int32), .int (3 : Int32), .ref 11], (H0v (f_bOp o) (f_bD o) (f_bS o) (f_bImm o) (f_bTerm o) (f_bTest o) (f_bT0 o) (f_bT1 o) (f_cnt0 o) (f_cnt1 o) y61 (f_outs o) (f_edgeId o) (f_edgeW o) (f_chNext o) (f_chPrev o) (f_chHead o) (f_heat o) (f_posOf o) (f_order o) (f_cOp o) (f_cD o) (f_cS o) (f_cImm o) (f_cKind o) (f_cTest o) (f_cTaken o) (f_cOther o) (f_maxBlocks o) (f_maxSteps o) (f_n o) (f_arranged o) (f_outCount o) (f_steps o) (f_status o)))) rfl ?_
    obtain ⟨y62, hy62, h⟩ := Option.bind_eq_some_iff.mp h
    refine QTri.bnd Ad W (f := fun y62 => (37, [some (.ref 0), vI x1, none, none, none], [], (H0v (f_bOp o) (f_bD o) (f_bS o) (f_bImm o) (f_bTerm o) (f_bTest o) (f_bT0 o) (f_bT1 o) (f_cnt0 o) (f_cnt1 o) y62 (f_outs o) (f_edgeId o) (f_edgeW o) (f_chNext o) (f_chPrev o) (f_chHead o) (f_heat o) (f_posOf o) (f_order o) (f_cOp o) (f_cD o) (f_cS o) (f_cImm o) (f_cKind o) (f_cTest o) (f_cTaken o) (f_cOther o) (f_maxBlocks o) (f_maxSteps o) (f_n o) (f_arranged o) (f_outCount o) (f_steps o) (f_status o)))) rfl hy62 ?_
    refine QTri.steps Ad W 3 (st' := (42, [some (.ref 0), vI x1, none, none, none], [], (H0v (f_bOp o) (f_bD o) (f_bS o) (f_bImm o) (f_bTerm o) (f_bTest o) (f_bT0 o) (f_bT1 o) (f_cnt0 o) (f_cnt1 o) y62 (f_outs o) (f_edgeId o) (f_edgeW o) (f_chNext o) (f_chPrev o) (f_chHead o) (f_heat o) (f_posOf o) (f_order o) (f_cOp o) (f_cD o) (f_cS o) (f_cImm o) (f_cKind o) (f_cTest o) (f_cTaken o) (f_cOther o) (f_maxBlocks o) (f_maxSteps o) (f_n o) (f_arranged o) (0 : Int32) (f_steps o) (f_status o)))) rfl ?_
    refine QTri.steps Ad W 3 (st' := (47, [some (.ref 0), vI x1, none, none, none], [], (H0v (f_bOp o) (f_bD o) (f_bS o) (f_bImm o) (f_bTerm o) (f_bTest o) (f_bT0 o) (f_bT1 o) (f_cnt0 o) (f_cnt1 o) y62 (f_outs o) (f_edgeId o) (f_edgeW o) (f_chNext o) (f_chPrev o) (f_chHead o) (f_heat o) (f_posOf o) (f_order o) (f_cOp o) (f_cD o) (f_cS o) (f_cImm o) (f_cKind o) (f_cTest o) (f_cTaken o) (f_cOther o) (f_maxBlocks o) (f_maxSteps o) (f_n o) (f_arranged o) (0 : Int32) (0 : Int32) (f_status o)))) rfl ?_
    refine QTri.steps Ad W 4 (st' := (51, [some (.ref 0), vI x1, vI (0 : Int32), vI (2 : Int32), none], [], (H0v (f_bOp o) (f_bD o) (f_bS o) (f_bImm o) (f_bTerm o) (f_bTest o) (f_bT0 o) (f_bT1 o) (f_cnt0 o) (f_cnt1 o) y62 (f_outs o) (f_edgeId o) (f_edgeW o) (f_chNext o) (f_chPrev o) (f_chHead o) (f_heat o) (f_posOf o) (f_order o) (f_cOp o) (f_cD o) (f_cS o) (f_cImm o) (f_cKind o) (f_cTest o) (f_cTaken o) (f_cOther o) (f_maxBlocks o) (f_maxSteps o) (f_n o) (f_arranged o) (0 : Int32) (0 : Int32) (f_status o)))) rfl ?_
    have E63 : ((H0v (f_bOp o) (f_bD o) (f_bS o) (f_bImm o) (f_bTerm o) (f_bTest o) (f_bT0 o) (f_bT1 o) (f_cnt0 o) (f_cnt1 o) y62 (f_outs o) (f_edgeId o) (f_edgeW o) (f_chNext o) (f_chPrev o) (f_chHead o) (f_heat o) (f_posOf o) (f_order o) (f_cOp o) (f_cD o) (f_cS o) (f_cImm o) (f_cKind o) (f_cTest o) (f_cTaken o) (f_cOther o) (f_maxBlocks o) (f_maxSteps o) (f_n o) (f_arranged o) (0 : Int32) (0 : Int32) (f_status o)) : QHeap) = (H0 (s_steps (s_outCount (s_regs o y62) (0 : Int32)) (0 : Int32))) := by dsimp only [H0, H0v, f_bOp, f_bD, f_bS, f_bImm, f_bTerm, f_bTest, f_bT0, f_bT1, f_cnt0, f_cnt1, f_regs, f_outs, f_edgeId, f_edgeW, f_chNext, f_chPrev, f_chHead, f_heat, f_posOf, f_order, f_cOp, f_cD, f_cS, f_cImm, f_cKind, f_cTest, f_cTaken, f_cOther, f_maxBlocks, f_maxSteps, f_n, f_arranged, f_outCount, f_steps, f_status, s_regs, s_outCount, s_steps]
    rw [E63]
    obtain ⟨e122, he122, h⟩ := Option.bind_eq_some_iff.mp h
    refine QTri.mask [true, false, true, true, false] (loopN_tri (B := B7_51 (2 : Int32)) (T := fun lv123 => QTri l Z n0 ad 7 (51, [some (.ref 0), none, vI lv123.1, vI (2 : Int32), none], [], (H0 lv123.2)) (some (Value.int r.1)) (H0 r.2)) (KE := fun e122a => (some (Value.int r.1)) = (some (Value.int e122a.1)) ∧ (H0 r.2) = (H0 e122a.2)) (fun lv123 r hB hE hC => tB7_51 Ad W (2 : Int32) lv123 hB (fun x q => hE _ q) (fun x q => hC x q)) qN ((0 : Int32), (s_steps (s_outCount (s_regs o y62) (0 : Int32)) (0 : Int32))) e122 he122 ?_)
    obtain rfl := Option.some.inj h
    exact ⟨rfl, rfl⟩
/-- setBranch(IIII)Z -/
def F10 (o : Ob) (x1 : Int32) (x2 : Int32) (x3 : Int32) (x4 : Int32) : Option (Int32 × Ob) :=
  (if (f_arranged o) = (0 : Int32) then (F6 o x1).bind fun r144 => (if r144 = (0 : Int32) then some ((0 : Int32), o) else (if x2 < (0 : Int32) then some ((0 : Int32), o) else (if (15 : Int32) < x2 then some ((0 : Int32), o) else (F6 o x3).bind fun r148 => (if r148 = (0 : Int32) then some ((0 : Int32), o) else (F6 o x4).bind fun r150 => (if r150 = (0 : Int32) then some ((0 : Int32), o) else (F3 o x1 (2 : Int32) x2 x3).bind fun r152 => (aset (f_bT1 r152) x1 x4).bind fun y153 => (F4 (s_bT1 r152 y153)).bind fun r155 => some ((1 : Int32), r155)))))) else some ((0 : Int32), o))
theorem tF10 (Ad : QAd n0 ad) (W : QW Z a0) (o : Ob) (x1 : Int32) (x2 : Int32) (x3 : Int32) (x4 : Int32) {r : Int32 × Ob} (h : F10 o x1 x2 x3 x4 = some r) : QTri l Z n0 ad 10 (0, qentry [.ref 0, .int x1, .int x2, .int x3, .int x4] (pMaxL 10), [], (H0 o)) (some (Value.int r.1)) (H0 r.2) := by
  unfold F10 at h
  refine QTri.steps Ad W 2 (st' := (4, [some (.ref 0), vI x1, vI x2, vI x3, vI x4], [.int (f_arranged o)], (H0 o))) rfl ?_
  rcases qite h with ⟨hc143, h⟩ | ⟨hc143, h⟩
  · refine QTri.brF Ad W (t := 15) (f := 7) (L := [some (.ref 0), vI x1, vI x2, vI x3, vI x4]) (S := []) (σ := (H0 o)) rfl (XT.i0_ne_f hc143) ?_
    refine QTri.steps Ad W 2 (st' := (9, [some (.ref 0), vI x1, vI x2, vI x3, vI x4], [.int x1, .ref 0], (H0 o))) rfl ?_
    obtain ⟨r144, hr144, h⟩ := Option.bind_eq_some_iff.mp h
    refine QTri.callP W (a := 0) (as := [.int x1]) (rest := []) (w := (some (.int r144))) (σ₁ := (H0 o)) rfl rfl rfl rfl rfl rfl rfl rfl (tF6 Ad W o x1 hr144) ?_
    rcases qite h with ⟨hc145, h⟩ | ⟨hc145, h⟩
    · refine QTri.brF Ad W (t := 17) (f := 15) (L := [some (.ref 0), vI x1, vI x2, vI x3, vI x4]) (S := []) (σ := (H0 o)) rfl (XT.i0_ne_f hc145) ?_
      refine QTri.steps Ad W 1 (st' := (16, [some (.ref 0), vI x1, vI x2, vI x3, vI x4], [.int (0 : Int32)], (H0 o))) rfl ?_
      obtain rfl := Option.some.inj h
      exact QTri.retZ rfl rfl
    · refine QTri.brT Ad W (t := 17) (f := 15) (L := [some (.ref 0), vI x1, vI x2, vI x3, vI x4]) (S := []) (σ := (H0 o)) rfl (XT.i0_ne_t hc145) ?_
      refine QTri.steps Ad W 1 (st' := (18, [some (.ref 0), vI x1, vI x2, vI x3, vI x4], [.int x2], (H0 o))) rfl ?_
      rcases qite h with ⟨hc146, h⟩ | ⟨hc146, h⟩
      · refine QTri.brT Ad W (t := 44) (f := 21) (L := [some (.ref 0), vI x1, vI x2, vI x3, vI x4]) (S := []) (σ := (H0 o)) rfl (XT.i0_lt_t hc146) ?_
        refine QTri.steps Ad W 1 (st' := (45, [some (.ref 0), vI x1, vI x2, vI x3, vI x4], [.int (0 : Int32)], (H0 o))) rfl ?_
        obtain rfl := Option.some.inj h
        exact QTri.retZ rfl rfl
      · refine QTri.brF Ad W (t := 44) (f := 21) (L := [some (.ref 0), vI x1, vI x2, vI x3, vI x4]) (S := []) (σ := (H0 o)) rfl (XT.i0_lt_f hc146) ?_
        refine QTri.steps Ad W 2 (st' := (24, [some (.ref 0), vI x1, vI x2, vI x3, vI x4], [.int (15 : Int32), .int x2], (H0 o))) rfl ?_
        rcases qite h with ⟨hc147, h⟩ | ⟨hc147, h⟩
        · refine QTri.brT Ad W (t := 44) (f := 27) (L := [some (.ref 0), vI x1, vI x2, vI x3, vI x4]) (S := []) (σ := (H0 o)) rfl (XT.ii_gt_t hc147) ?_
          refine QTri.steps Ad W 1 (st' := (45, [some (.ref 0), vI x1, vI x2, vI x3, vI x4], [.int (0 : Int32)], (H0 o))) rfl ?_
          obtain rfl := Option.some.inj h
          exact QTri.retZ rfl rfl
        · refine QTri.brF Ad W (t := 44) (f := 27) (L := [some (.ref 0), vI x1, vI x2, vI x3, vI x4]) (S := []) (σ := (H0 o)) rfl (XT.ii_gt_f hc147) ?_
          refine QTri.steps Ad W 2 (st' := (29, [some (.ref 0), vI x1, vI x2, vI x3, vI x4], [.int x3, .ref 0], (H0 o))) rfl ?_
          obtain ⟨r148, hr148, h⟩ := Option.bind_eq_some_iff.mp h
          refine QTri.callP W (a := 0) (as := [.int x3]) (rest := []) (w := (some (.int r148))) (σ₁ := (H0 o)) rfl rfl rfl rfl rfl rfl rfl rfl (tF6 Ad W o x3 hr148) ?_
          rcases qite h with ⟨hc149, h⟩ | ⟨hc149, h⟩
          · refine QTri.brT Ad W (t := 44) (f := 35) (L := [some (.ref 0), vI x1, vI x2, vI x3, vI x4]) (S := []) (σ := (H0 o)) rfl (XT.i0_eq_t hc149) ?_
            refine QTri.steps Ad W 1 (st' := (45, [some (.ref 0), vI x1, vI x2, vI x3, vI x4], [.int (0 : Int32)], (H0 o))) rfl ?_
            obtain rfl := Option.some.inj h
            exact QTri.retZ rfl rfl
          · refine QTri.brF Ad W (t := 44) (f := 35) (L := [some (.ref 0), vI x1, vI x2, vI x3, vI x4]) (S := []) (σ := (H0 o)) rfl (XT.i0_eq_f hc149) ?_
            refine QTri.steps Ad W 2 (st' := (38, [some (.ref 0), vI x1, vI x2, vI x3, vI x4], [.int x4, .ref 0], (H0 o))) rfl ?_
            obtain ⟨r150, hr150, h⟩ := Option.bind_eq_some_iff.mp h
            refine QTri.callP W (a := 0) (as := [.int x4]) (rest := []) (w := (some (.int r150))) (σ₁ := (H0 o)) rfl rfl rfl rfl rfl rfl rfl rfl (tF6 Ad W o x4 hr150) ?_
            rcases qite h with ⟨hc151, h⟩ | ⟨hc151, h⟩
            · refine QTri.brF Ad W (t := 46) (f := 44) (L := [some (.ref 0), vI x1, vI x2, vI x3, vI x4]) (S := []) (σ := (H0 o)) rfl (XT.i0_ne_f hc151) ?_
              refine QTri.steps Ad W 1 (st' := (45, [some (.ref 0), vI x1, vI x2, vI x3, vI x4], [.int (0 : Int32)], (H0 o))) rfl ?_
              obtain rfl := Option.some.inj h
              exact QTri.retZ rfl rfl
            · refine QTri.brT Ad W (t := 46) (f := 44) (L := [some (.ref 0), vI x1, vI x2, vI x3, vI x4]) (S := []) (σ := (H0 o)) rfl (XT.i0_ne_t hc151) ?_
              refine QTri.steps Ad W 5 (st' := (51, [some (.ref 0), vI x1, vI x2, vI x3, vI x4], [.int x3, .int x2, .int (2 : Int32), .int x1, .ref 0], (H0 o))) rfl ?_
              obtain ⟨r152, hr152, h⟩ := Option.bind_eq_some_iff.mp h
              refine QTri.callP W (a := 0) (as := [.int x1, .int (2 : Int32), .int x2, .int x3]) (rest := []) (w := none) (σ₁ := (H0 r152)) rfl rfl rfl rfl rfl rfl rfl rfl (tF3 Ad W o x1 (2 : Int32) x2 x3 hr152) ?_
              refine QTri.steps Ad W 4 (st' := (61, [some (.ref 0), vI x1, vI x2, vI x3, vI x4], [.int x4, .int x1, .ref 8], (H0 r152))) rfl ?_
              obtain ⟨y153, hy153, h⟩ := Option.bind_eq_some_iff.mp h
              refine QTri.bnd Ad W (f := fun y153 => (62, [some (.ref 0), vI x1, vI x2, vI x3, vI x4], [], (H0v (f_bOp r152) (f_bD r152) (f_bS r152) (f_bImm r152) (f_bTerm r152) (f_bTest r152) (f_bT0 r152) y153 (f_cnt0 r152) (f_cnt1 r152) (f_regs r152) (f_outs r152) (f_edgeId r152) (f_edgeW r152) (f_chNext r152) (f_chPrev r152) (f_chHead r152) (f_heat r152) (f_posOf r152) (f_order r152) (f_cOp r152) (f_cD r152) (f_cS r152) (f_cImm r152) (f_cKind r152) (f_cTest r152) (f_cTaken r152) (f_cOther r152) (f_maxBlocks r152) (f_maxSteps r152) (f_n r152) (f_arranged r152) (f_outCount r152) (f_steps r152) (f_status r152)))) rfl hy153 ?_
              refine QTri.steps Ad W 1 (st' := (63, [some (.ref 0), vI x1, vI x2, vI x3, vI x4], [.ref 0], (H0v (f_bOp r152) (f_bD r152) (f_bS r152) (f_bImm r152) (f_bTerm r152) (f_bTest r152) (f_bT0 r152) y153 (f_cnt0 r152) (f_cnt1 r152) (f_regs r152) (f_outs r152) (f_edgeId r152) (f_edgeW r152) (f_chNext r152) (f_chPrev r152) (f_chHead r152) (f_heat r152) (f_posOf r152) (f_order r152) (f_cOp r152) (f_cD r152) (f_cS r152) (f_cImm r152) (f_cKind r152) (f_cTest r152) (f_cTaken r152) (f_cOther r152) (f_maxBlocks r152) (f_maxSteps r152) (f_n r152) (f_arranged r152) (f_outCount r152) (f_steps r152) (f_status r152)))) rfl ?_
              have E154 : ((H0v (f_bOp r152) (f_bD r152) (f_bS r152) (f_bImm r152) (f_bTerm r152) (f_bTest r152) (f_bT0 r152) y153 (f_cnt0 r152) (f_cnt1 r152) (f_regs r152) (f_outs r152) (f_edgeId r152) (f_edgeW r152) (f_chNext r152) (f_chPrev r152) (f_chHead r152) (f_heat r152) (f_posOf r152) (f_order r152) (f_cOp r152) (f_cD r152) (f_cS r152) (f_cImm r152) (f_cKind r152) (f_cTest r152) (f_cTaken r152) (f_cOther r152) (f_maxBlocks r152) (f_maxSteps r152) (f_n r152) (f_arranged r152) (f_outCount r152) (f_steps r152) (f_status r152)) : QHeap) = (H0 (s_bT1 r152 y153)) := by dsimp only [H0, H0v, f_bOp, f_bD, f_bS, f_bImm, f_bTerm, f_bTest, f_bT0, f_bT1, f_cnt0, f_cnt1, f_regs, f_outs, f_edgeId, f_edgeW, f_chNext, f_chPrev, f_chHead, f_heat, f_posOf, f_order, f_cOp, f_cD, f_cS, f_cImm, f_cKind, f_cTest, f_cTaken, f_cOther, f_maxBlocks, f_maxSteps, f_n, f_arranged, f_outCount, f_steps, f_status, s_bT1]
              rw [E154]
              obtain ⟨r155, hr155, h⟩ := Option.bind_eq_some_iff.mp h
              refine QTri.callP W (a := 0) (as := []) (rest := []) (w := none) (σ₁ := (H0 r155)) rfl rfl rfl rfl rfl rfl rfl rfl (tF4 Ad W (s_bT1 r152 y153) hr155) ?_
              refine QTri.steps Ad W 1 (st' := (67, [some (.ref 0), vI x1, vI x2, vI x3, vI x4], [.int (1 : Int32)], (H0 r155))) rfl ?_
              obtain rfl := Option.some.inj h
              exact QTri.retZ rfl rfl
  · refine QTri.brT Ad W (t := 15) (f := 7) (L := [some (.ref 0), vI x1, vI x2, vI x3, vI x4]) (S := []) (σ := (H0 o)) rfl (XT.i0_ne_t hc143) ?_
    refine QTri.steps Ad W 1 (st' := (16, [some (.ref 0), vI x1, vI x2, vI x3, vI x4], [.int (0 : Int32)], (H0 o))) rfl ?_
    obtain rfl := Option.some.inj h
    exact QTri.retZ rfl rfl
/-- edgeCount(II)I -/
def F11 (o : Ob) (x1 : Int32) (x2 : Int32) : Option (Int32) :=
  (F6 o x1).bind fun r158 => (if r158 = (0 : Int32) then some (0 : Int32) else (if x2 = (0 : Int32) then (aget (f_cnt0 o) x1).bind fun y161 => some y161 else (if x2 = (1 : Int32) then (aget (f_cnt1 o) x1).bind fun y163 => some y163 else some (0 : Int32))))
theorem tF11 (Ad : QAd n0 ad) (W : QW Z a0) (o : Ob) (x1 : Int32) (x2 : Int32) {r : Int32} (h : F11 o x1 x2 = some r) : QTri l Z n0 ad 11 (0, qentry [.ref 0, .int x1, .int x2] (pMaxL 11), [], (H0 o)) (some (Value.int r)) (H0 o) := by
  unfold F11 at h
  refine QTri.steps Ad W 2 (st' := (2, [some (.ref 0), vI x1, vI x2], [.int x1, .ref 0], (H0 o))) rfl ?_
  obtain ⟨r158, hr158, h⟩ := Option.bind_eq_some_iff.mp h
  refine QTri.callP W (a := 0) (as := [.int x1]) (rest := []) (w := (some (.int r158))) (σ₁ := (H0 o)) rfl rfl rfl rfl rfl rfl rfl rfl (tF6 Ad W o x1 hr158) ?_
  rcases qite h with ⟨hc159, h⟩ | ⟨hc159, h⟩
  · refine QTri.brF Ad W (t := 10) (f := 8) (L := [some (.ref 0), vI x1, vI x2]) (S := []) (σ := (H0 o)) rfl (XT.i0_ne_f hc159) ?_
    refine QTri.steps Ad W 1 (st' := (9, [some (.ref 0), vI x1, vI x2], [.int (0 : Int32)], (H0 o))) rfl ?_
    obtain rfl := Option.some.inj h
    exact QTri.retI rfl rfl
  · refine QTri.brT Ad W (t := 10) (f := 8) (L := [some (.ref 0), vI x1, vI x2]) (S := []) (σ := (H0 o)) rfl (XT.i0_ne_t hc159) ?_
    refine QTri.steps Ad W 1 (st' := (11, [some (.ref 0), vI x1, vI x2], [.int x2], (H0 o))) rfl ?_
    rcases qite h with ⟨hc160, h⟩ | ⟨hc160, h⟩
    · refine QTri.brF Ad W (t := 21) (f := 14) (L := [some (.ref 0), vI x1, vI x2]) (S := []) (σ := (H0 o)) rfl (XT.i0_ne_f hc160) ?_
      refine QTri.steps Ad W 3 (st' := (19, [some (.ref 0), vI x1, vI x2], [.int x1, .ref 9], (H0 o))) rfl ?_
      obtain ⟨y161, hy161, h⟩ := Option.bind_eq_some_iff.mp h
      refine QTri.bnd Ad W (f := fun y161 => (20, [some (.ref 0), vI x1, vI x2], [.int y161], (H0 o))) rfl hy161 ?_
      obtain rfl := Option.some.inj h
      exact QTri.retI rfl rfl
    · refine QTri.brT Ad W (t := 21) (f := 14) (L := [some (.ref 0), vI x1, vI x2]) (S := []) (σ := (H0 o)) rfl (XT.i0_ne_t hc160) ?_
      refine QTri.steps Ad W 2 (st' := (23, [some (.ref 0), vI x1, vI x2], [.int (1 : Int32), .int x2], (H0 o))) rfl ?_
      rcases qite h with ⟨hc162, h⟩ | ⟨hc162, h⟩
      · refine QTri.brF Ad W (t := 33) (f := 26) (L := [some (.ref 0), vI x1, vI x2]) (S := []) (σ := (H0 o)) rfl (XT.ii_ne_f hc162) ?_
        refine QTri.steps Ad W 3 (st' := (31, [some (.ref 0), vI x1, vI x2], [.int x1, .ref 10], (H0 o))) rfl ?_
        obtain ⟨y163, hy163, h⟩ := Option.bind_eq_some_iff.mp h
        refine QTri.bnd Ad W (f := fun y163 => (32, [some (.ref 0), vI x1, vI x2], [.int y163], (H0 o))) rfl hy163 ?_
        obtain rfl := Option.some.inj h
        exact QTri.retI rfl rfl
      · refine QTri.brT Ad W (t := 33) (f := 26) (L := [some (.ref 0), vI x1, vI x2]) (S := []) (σ := (H0 o)) rfl (XT.ii_ne_t hc162) ?_
        refine QTri.steps Ad W 1 (st' := (34, [some (.ref 0), vI x1, vI x2], [.int (0 : Int32)], (H0 o))) rfl ?_
        obtain rfl := Option.some.inj h
        exact QTri.retI rfl rfl
/-- blockInfo(II)I -/
def F12 (o : Ob) (x1 : Int32) (x2 : Int32) : Option (Int32) :=
  (F6 o x1).bind fun r169 => (if r169 = (0 : Int32) then some (0 : Int32) else (if x2 = (0 : Int32) then (aget (f_bOp o) x1).bind fun y172 => some y172 else (if x2 = (1 : Int32) then (aget (f_bD o) x1).bind fun y174 => some y174 else (if x2 = (2 : Int32) then (aget (f_bS o) x1).bind fun y176 => some y176 else (if x2 = (3 : Int32) then (aget (f_bImm o) x1).bind fun y178 => some y178 else (if x2 = (4 : Int32) then (aget (f_bTerm o) x1).bind fun y180 => some y180 else (if x2 = (5 : Int32) then (aget (f_bTest o) x1).bind fun y182 => some y182 else (if x2 = (6 : Int32) then (aget (f_bT0 o) x1).bind fun y184 => some y184 else (if x2 = (7 : Int32) then (aget (f_bT1 o) x1).bind fun y186 => some y186 else some (0 : Int32))))))))))
theorem tF12 (Ad : QAd n0 ad) (W : QW Z a0) (o : Ob) (x1 : Int32) (x2 : Int32) {r : Int32} (h : F12 o x1 x2 = some r) : QTri l Z n0 ad 12 (0, qentry [.ref 0, .int x1, .int x2] (pMaxL 12), [], (H0 o)) (some (Value.int r)) (H0 o) := by
  unfold F12 at h
  refine QTri.steps Ad W 2 (st' := (2, [some (.ref 0), vI x1, vI x2], [.int x1, .ref 0], (H0 o))) rfl ?_
  obtain ⟨r169, hr169, h⟩ := Option.bind_eq_some_iff.mp h
  refine QTri.callP W (a := 0) (as := [.int x1]) (rest := []) (w := (some (.int r169))) (σ₁ := (H0 o)) rfl rfl rfl rfl rfl rfl rfl rfl (tF6 Ad W o x1 hr169) ?_
  rcases qite h with ⟨hc170, h⟩ | ⟨hc170, h⟩
  · refine QTri.brF Ad W (t := 10) (f := 8) (L := [some (.ref 0), vI x1, vI x2]) (S := []) (σ := (H0 o)) rfl (XT.i0_ne_f hc170) ?_
    refine QTri.steps Ad W 1 (st' := (9, [some (.ref 0), vI x1, vI x2], [.int (0 : Int32)], (H0 o))) rfl ?_
    obtain rfl := Option.some.inj h
    exact QTri.retI rfl rfl
  · refine QTri.brT Ad W (t := 10) (f := 8) (L := [some (.ref 0), vI x1, vI x2]) (S := []) (σ := (H0 o)) rfl (XT.i0_ne_t hc170) ?_
    refine QTri.steps Ad W 1 (st' := (11, [some (.ref 0), vI x1, vI x2], [.int x2], (H0 o))) rfl ?_
    rcases qite h with ⟨hc171, h⟩ | ⟨hc171, h⟩
    · refine QTri.brF Ad W (t := 21) (f := 14) (L := [some (.ref 0), vI x1, vI x2]) (S := []) (σ := (H0 o)) rfl (XT.i0_ne_f hc171) ?_
      refine QTri.steps Ad W 3 (st' := (19, [some (.ref 0), vI x1, vI x2], [.int x1, .ref 1], (H0 o))) rfl ?_
      obtain ⟨y172, hy172, h⟩ := Option.bind_eq_some_iff.mp h
      refine QTri.bnd Ad W (f := fun y172 => (20, [some (.ref 0), vI x1, vI x2], [.int y172], (H0 o))) rfl hy172 ?_
      obtain rfl := Option.some.inj h
      exact QTri.retI rfl rfl
    · refine QTri.brT Ad W (t := 21) (f := 14) (L := [some (.ref 0), vI x1, vI x2]) (S := []) (σ := (H0 o)) rfl (XT.i0_ne_t hc171) ?_
      refine QTri.steps Ad W 2 (st' := (23, [some (.ref 0), vI x1, vI x2], [.int (1 : Int32), .int x2], (H0 o))) rfl ?_
      rcases qite h with ⟨hc173, h⟩ | ⟨hc173, h⟩
      · refine QTri.brF Ad W (t := 33) (f := 26) (L := [some (.ref 0), vI x1, vI x2]) (S := []) (σ := (H0 o)) rfl (XT.ii_ne_f hc173) ?_
        refine QTri.steps Ad W 3 (st' := (31, [some (.ref 0), vI x1, vI x2], [.int x1, .ref 2], (H0 o))) rfl ?_
        obtain ⟨y174, hy174, h⟩ := Option.bind_eq_some_iff.mp h
        refine QTri.bnd Ad W (f := fun y174 => (32, [some (.ref 0), vI x1, vI x2], [.int y174], (H0 o))) rfl hy174 ?_
        obtain rfl := Option.some.inj h
        exact QTri.retI rfl rfl
      · refine QTri.brT Ad W (t := 33) (f := 26) (L := [some (.ref 0), vI x1, vI x2]) (S := []) (σ := (H0 o)) rfl (XT.ii_ne_t hc173) ?_
        refine QTri.steps Ad W 2 (st' := (35, [some (.ref 0), vI x1, vI x2], [.int (2 : Int32), .int x2], (H0 o))) rfl ?_
        rcases qite h with ⟨hc175, h⟩ | ⟨hc175, h⟩
        · refine QTri.brF Ad W (t := 45) (f := 38) (L := [some (.ref 0), vI x1, vI x2]) (S := []) (σ := (H0 o)) rfl (XT.ii_ne_f hc175) ?_
          refine QTri.steps Ad W 3 (st' := (43, [some (.ref 0), vI x1, vI x2], [.int x1, .ref 3], (H0 o))) rfl ?_
          obtain ⟨y176, hy176, h⟩ := Option.bind_eq_some_iff.mp h
          refine QTri.bnd Ad W (f := fun y176 => (44, [some (.ref 0), vI x1, vI x2], [.int y176], (H0 o))) rfl hy176 ?_
          obtain rfl := Option.some.inj h
          exact QTri.retI rfl rfl
        · refine QTri.brT Ad W (t := 45) (f := 38) (L := [some (.ref 0), vI x1, vI x2]) (S := []) (σ := (H0 o)) rfl (XT.ii_ne_t hc175) ?_
          refine QTri.steps Ad W 2 (st' := (47, [some (.ref 0), vI x1, vI x2], [.int (3 : Int32), .int x2], (H0 o))) rfl ?_
          rcases qite h with ⟨hc177, h⟩ | ⟨hc177, h⟩
          · refine QTri.brF Ad W (t := 57) (f := 50) (L := [some (.ref 0), vI x1, vI x2]) (S := []) (σ := (H0 o)) rfl (XT.ii_ne_f hc177) ?_
            refine QTri.steps Ad W 3 (st' := (55, [some (.ref 0), vI x1, vI x2], [.int x1, .ref 4], (H0 o))) rfl ?_
            obtain ⟨y178, hy178, h⟩ := Option.bind_eq_some_iff.mp h
            refine QTri.bnd Ad W (f := fun y178 => (56, [some (.ref 0), vI x1, vI x2], [.int y178], (H0 o))) rfl hy178 ?_
            obtain rfl := Option.some.inj h
            exact QTri.retI rfl rfl
          · refine QTri.brT Ad W (t := 57) (f := 50) (L := [some (.ref 0), vI x1, vI x2]) (S := []) (σ := (H0 o)) rfl (XT.ii_ne_t hc177) ?_
            refine QTri.steps Ad W 2 (st' := (59, [some (.ref 0), vI x1, vI x2], [.int (4 : Int32), .int x2], (H0 o))) rfl ?_
            rcases qite h with ⟨hc179, h⟩ | ⟨hc179, h⟩
            · refine QTri.brF Ad W (t := 69) (f := 62) (L := [some (.ref 0), vI x1, vI x2]) (S := []) (σ := (H0 o)) rfl (XT.ii_ne_f hc179) ?_
              refine QTri.steps Ad W 3 (st' := (67, [some (.ref 0), vI x1, vI x2], [.int x1, .ref 5], (H0 o))) rfl ?_
              obtain ⟨y180, hy180, h⟩ := Option.bind_eq_some_iff.mp h
              refine QTri.bnd Ad W (f := fun y180 => (68, [some (.ref 0), vI x1, vI x2], [.int y180], (H0 o))) rfl hy180 ?_
              obtain rfl := Option.some.inj h
              exact QTri.retI rfl rfl
            · refine QTri.brT Ad W (t := 69) (f := 62) (L := [some (.ref 0), vI x1, vI x2]) (S := []) (σ := (H0 o)) rfl (XT.ii_ne_t hc179) ?_
              refine QTri.steps Ad W 2 (st' := (71, [some (.ref 0), vI x1, vI x2], [.int (5 : Int32), .int x2], (H0 o))) rfl ?_
              rcases qite h with ⟨hc181, h⟩ | ⟨hc181, h⟩
              · refine QTri.brF Ad W (t := 81) (f := 74) (L := [some (.ref 0), vI x1, vI x2]) (S := []) (σ := (H0 o)) rfl (XT.ii_ne_f hc181) ?_
                refine QTri.steps Ad W 3 (st' := (79, [some (.ref 0), vI x1, vI x2], [.int x1, .ref 6], (H0 o))) rfl ?_
                obtain ⟨y182, hy182, h⟩ := Option.bind_eq_some_iff.mp h
                refine QTri.bnd Ad W (f := fun y182 => (80, [some (.ref 0), vI x1, vI x2], [.int y182], (H0 o))) rfl hy182 ?_
                obtain rfl := Option.some.inj h
                exact QTri.retI rfl rfl
              · refine QTri.brT Ad W (t := 81) (f := 74) (L := [some (.ref 0), vI x1, vI x2]) (S := []) (σ := (H0 o)) rfl (XT.ii_ne_t hc181) ?_
                refine QTri.steps Ad W 2 (st' := (84, [some (.ref 0), vI x1, vI x2], [.int (6 : Int32), .int x2], (H0 o))) rfl ?_
                rcases qite h with ⟨hc183, h⟩ | ⟨hc183, h⟩
                · refine QTri.brF Ad W (t := 94) (f := 87) (L := [some (.ref 0), vI x1, vI x2]) (S := []) (σ := (H0 o)) rfl (XT.ii_ne_f hc183) ?_
                  refine QTri.steps Ad W 3 (st' := (92, [some (.ref 0), vI x1, vI x2], [.int x1, .ref 7], (H0 o))) rfl ?_
                  obtain ⟨y184, hy184, h⟩ := Option.bind_eq_some_iff.mp h
                  refine QTri.bnd Ad W (f := fun y184 => (93, [some (.ref 0), vI x1, vI x2], [.int y184], (H0 o))) rfl hy184 ?_
                  obtain rfl := Option.some.inj h
                  exact QTri.retI rfl rfl
                · refine QTri.brT Ad W (t := 94) (f := 87) (L := [some (.ref 0), vI x1, vI x2]) (S := []) (σ := (H0 o)) rfl (XT.ii_ne_t hc183) ?_
                  refine QTri.steps Ad W 2 (st' := (97, [some (.ref 0), vI x1, vI x2], [.int (7 : Int32), .int x2], (H0 o))) rfl ?_
                  rcases qite h with ⟨hc185, h⟩ | ⟨hc185, h⟩
                  · refine QTri.brF Ad W (t := 107) (f := 100) (L := [some (.ref 0), vI x1, vI x2]) (S := []) (σ := (H0 o)) rfl (XT.ii_ne_f hc185) ?_
                    refine QTri.steps Ad W 3 (st' := (105, [some (.ref 0), vI x1, vI x2], [.int x1, .ref 8], (H0 o))) rfl ?_
                    obtain ⟨y186, hy186, h⟩ := Option.bind_eq_some_iff.mp h
                    refine QTri.bnd Ad W (f := fun y186 => (106, [some (.ref 0), vI x1, vI x2], [.int y186], (H0 o))) rfl hy186 ?_
                    obtain rfl := Option.some.inj h
                    exact QTri.retI rfl rfl
                  · refine QTri.brT Ad W (t := 107) (f := 100) (L := [some (.ref 0), vI x1, vI x2]) (S := []) (σ := (H0 o)) rfl (XT.ii_ne_t hc185) ?_
                    refine QTri.steps Ad W 1 (st' := (108, [some (.ref 0), vI x1, vI x2], [.int (0 : Int32)], (H0 o))) rfl ?_
                    obtain rfl := Option.some.inj h
                    exact QTri.retI rfl rfl
/-- the law -/
def F0 (x0 : Int32) (x1 : Int32) (x2 : Int32) (x3 : Int32) (x4 : Int32) (x5 : Int32) : Option (Int32 × QHeap) :=
  (F1 x0 x1).bind fun r14 => (F2 r14 (0 : Int32) (0 : Int32) (0 : Int32) (0 : Int32)).bind fun r43 => (F2 r43.2 (0 : Int32) (0 : Int32) (0 : Int32) (0 : Int32)).bind fun r44 => (F5 r44.2 (0 : Int32) (1 : Int32)).bind fun r57 => (F7 r57.2 (0 : Int32)).bind fun r124 => (F10 r124.2 x2 x3 x4 x5).bind fun r156 => (if r156.1 = (if x2 < (0 : Int32) then (0 : Int32) else (if (1 : Int32) < x2 then (0 : Int32) else (if x3 < (0 : Int32) then (0 : Int32) else (if (15 : Int32) < x3 then (0 : Int32) else (if x4 < (0 : Int32) then (0 : Int32) else (if (1 : Int32) < x4 then (0 : Int32) else (if x5 < (0 : Int32) then (0 : Int32) else (if (1 : Int32) < x5 then (0 : Int32) else (1 : Int32))))))))) then (F11 r156.2 (0 : Int32) (0 : Int32)).bind fun r164 => (if r164 = (if (if x2 < (0 : Int32) then (0 : Int32) else (if (1 : Int32) < x2 then (0 : Int32) else (if x3 < (0 : Int32) then (0 : Int32) else (if (15 : Int32) < x3 then (0 : Int32) else (if x4 < (0 : Int32) then (0 : Int32) else (if (1 : Int32) < x4 then (0 : Int32) else (if x5 < (0 : Int32) then (0 : Int32) else (if (1 : Int32) < x5 then (0 : Int32) else (1 : Int32))))))))) = (0 : Int32) then (1 : Int32) else (0 : Int32)) then (F12 r156.2 (0 : Int32) (4 : Int32)).bind fun r187 => (if r187 = (if (if (if x2 < (0 : Int32) then (0 : Int32) else (if (1 : Int32) < x2 then (0 : Int32) else (if x3 < (0 : Int32) then (0 : Int32) else (if (15 : Int32) < x3 then (0 : Int32) else (if x4 < (0 : Int32) then (0 : Int32) else (if (1 : Int32) < x4 then (0 : Int32) else (if x5 < (0 : Int32) then (0 : Int32) else (if (1 : Int32) < x5 then (0 : Int32) else (1 : Int32))))))))) = (0 : Int32) then (0 : Int32) else (if x2 = (0 : Int32) then (1 : Int32) else (0 : Int32))) = (0 : Int32) then (1 : Int32) else (2 : Int32)) then (F12 r156.2 (0 : Int32) (5 : Int32)).bind fun r192 => (if r192 = (if (if (if x2 < (0 : Int32) then (0 : Int32) else (if (1 : Int32) < x2 then (0 : Int32) else (if x3 < (0 : Int32) then (0 : Int32) else (if (15 : Int32) < x3 then (0 : Int32) else (if x4 < (0 : Int32) then (0 : Int32) else (if (1 : Int32) < x4 then (0 : Int32) else (if x5 < (0 : Int32) then (0 : Int32) else (if (1 : Int32) < x5 then (0 : Int32) else (1 : Int32))))))))) = (0 : Int32) then (0 : Int32) else (if x2 = (0 : Int32) then (1 : Int32) else (0 : Int32))) = (0 : Int32) then (0 : Int32) else x3) then (F12 r156.2 (0 : Int32) (6 : Int32)).bind fun r197 => (if r197 = (if (if (if x2 < (0 : Int32) then (0 : Int32) else (if (1 : Int32) < x2 then (0 : Int32) else (if x3 < (0 : Int32) then (0 : Int32) else (if (15 : Int32) < x3 then (0 : Int32) else (if x4 < (0 : Int32) then (0 : Int32) else (if (1 : Int32) < x4 then (0 : Int32) else (if x5 < (0 : Int32) then (0 : Int32) else (if (1 : Int32) < x5 then (0 : Int32) else (1 : Int32))))))))) = (0 : Int32) then (0 : Int32) else (if x2 = (0 : Int32) then (1 : Int32) else (0 : Int32))) = (0 : Int32) then (1 : Int32) else x4) then (F12 r156.2 (1 : Int32) (4 : Int32)).bind fun r202 => (if r202 = (if (if (if x2 < (0 : Int32) then (0 : Int32) else (if (1 : Int32) < x2 then (0 : Int32) else (if x3 < (0 : Int32) then (0 : Int32) else (if (15 : Int32) < x3 then (0 : Int32) else (if x4 < (0 : Int32) then (0 : Int32) else (if (1 : Int32) < x4 then (0 : Int32) else (if x5 < (0 : Int32) then (0 : Int32) else (if (1 : Int32) < x5 then (0 : Int32) else (1 : Int32))))))))) = (0 : Int32) then (0 : Int32) else (if x2 = (1 : Int32) then (1 : Int32) else (0 : Int32))) = (0 : Int32) then (0 : Int32) else (2 : Int32)) then some ((1 : Int32), (H0 r156.2)) else some ((0 : Int32), (H0 r156.2))) else some ((0 : Int32), (H0 r156.2))) else some ((0 : Int32), (H0 r156.2))) else some ((0 : Int32), (H0 r156.2))) else some ((0 : Int32), (H0 r156.2))) else some ((0 : Int32), (H0 r156.2)))
theorem tF0 (Ad : QAd n0 ad) (W : QW Z a0) (x0 : Int32) (x1 : Int32) (x2 : Int32) (x3 : Int32) (x4 : Int32) (x5 : Int32) {r : Int32 × QHeap} (h : F0 x0 x1 x2 x3 x4 x5 = some r) : QTri l Z n0 ad 0 (0, qentry [.int x0, .int x1, .int x2, .int x3, .int x4, .int x5] (pMaxL 0), [], []) (some (Value.int r.1)) r.2 := by
  unfold F0 at h
  refine QTri.steps Ad W 1 (st' := (3, [vI x0, vI x1, vI x2, vI x3, vI x4, vI x5, none, none, none, none], [.ref 0], [.inl [.null, .null, .null, .null, .null, .null, .null, .null, .null, .null, .null, .null, .null, .null, .null, .null, .null, .null, .null, .null, .null, .null, .null, .null, .null, .null, .null, .null, .int (f_maxBlocks ob0), .int (f_maxSteps ob0), .int (f_n ob0), .int (f_arranged ob0), .int (f_outCount ob0), .int (f_steps ob0), .int (f_status ob0)]])) rfl ?_
  refine QTri.steps Ad W 3 (st' := (6, [vI x0, vI x1, vI x2, vI x3, vI x4, vI x5, none, none, none, none], [.int x1, .int x0, .ref 0, .ref 0], [.inl [.null, .null, .null, .null, .null, .null, .null, .null, .null, .null, .null, .null, .null, .null, .null, .null, .null, .null, .null, .null, .null, .null, .null, .null, .null, .null, .null, .null, .int (f_maxBlocks ob0), .int (f_maxSteps ob0), .int (f_n ob0), .int (f_arranged ob0), .int (f_outCount ob0), .int (f_steps ob0), .int (f_status ob0)]])) rfl ?_
  obtain ⟨r14, hr14, h⟩ := Option.bind_eq_some_iff.mp h
  refine QTri.callI W (a := 0) (as := [.int x0, .int x1]) (rest := [.ref 0]) (σ₁ := (H0 r14)) rfl rfl rfl rfl rfl rfl (tF1 Ad W x0 x1 hr14) ?_
  refine QTri.steps Ad W 6 (st' := (17, [vI x0, vI x1, vI x2, vI x3, vI x4, vI x5, some (.ref 0), none, none, none], [.int (0 : Int32), .int (0 : Int32), .int (0 : Int32), .int (0 : Int32), .ref 0], (H0 r14))) rfl ?_
  obtain ⟨r43, hr43, h⟩ := Option.bind_eq_some_iff.mp h
  refine QTri.callV W (a := 0) (as := [.int (0 : Int32), .int (0 : Int32), .int (0 : Int32), .int (0 : Int32)]) (rest := []) (w := (some (.int r43.1))) (σ₁ := (H0 r43.2)) rfl rfl rfl rfl rfl rfl rfl rfl (tF2 Ad W r14 (0 : Int32) (0 : Int32) (0 : Int32) (0 : Int32) hr43) ?_
  refine QTri.steps Ad W 6 (st' := (27, [vI x0, vI x1, vI x2, vI x3, vI x4, vI x5, some (.ref 0), none, none, none], [.int (0 : Int32), .int (0 : Int32), .int (0 : Int32), .int (0 : Int32), .ref 0], (H0 r43.2))) rfl ?_
  obtain ⟨r44, hr44, h⟩ := Option.bind_eq_some_iff.mp h
  refine QTri.callV W (a := 0) (as := [.int (0 : Int32), .int (0 : Int32), .int (0 : Int32), .int (0 : Int32)]) (rest := []) (w := (some (.int r44.1))) (σ₁ := (H0 r44.2)) rfl rfl rfl rfl rfl rfl rfl rfl (tF2 Ad W r43.2 (0 : Int32) (0 : Int32) (0 : Int32) (0 : Int32) hr44) ?_
  refine QTri.steps Ad W 4 (st' := (35, [vI x0, vI x1, vI x2, vI x3, vI x4, vI x5, some (.ref 0), none, none, none], [.int (1 : Int32), .int (0 : Int32), .ref 0], (H0 r44.2))) rfl ?_
  obtain ⟨r57, hr57, h⟩ := Option.bind_eq_some_iff.mp h
  refine QTri.callV W (a := 0) (as := [.int (0 : Int32), .int (1 : Int32)]) (rest := []) (w := (some (.int r57.1))) (σ₁ := (H0 r57.2)) rfl rfl rfl rfl rfl rfl rfl rfl (tF5 Ad W r44.2 (0 : Int32) (1 : Int32) hr57) ?_
  refine QTri.steps Ad W 3 (st' := (42, [vI x0, vI x1, vI x2, vI x3, vI x4, vI x5, some (.ref 0), none, none, none], [.int (0 : Int32), .ref 0], (H0 r57.2))) rfl ?_
  obtain ⟨r124, hr124, h⟩ := Option.bind_eq_some_iff.mp h
  refine QTri.callV W (a := 0) (as := [.int (0 : Int32)]) (rest := []) (w := (some (.int r124.1))) (σ₁ := (H0 r124.2)) rfl rfl rfl rfl rfl rfl rfl rfl (tF7 Ad W r57.2 (0 : Int32) hr124) ?_
  refine QTri.steps Ad W 2 (st' := (47, [vI x0, vI x1, vI x2, vI x3, vI x4, vI x5, some (.ref 0), none, none, none], [.int x2], (H0 r124.2))) rfl ?_
  have K126 : ∀ z125 : Int32, z125 = (if x2 < (0 : Int32) then (0 : Int32) else (if (1 : Int32) < x2 then (0 : Int32) else (if x3 < (0 : Int32) then (0 : Int32) else (if (15 : Int32) < x3 then (0 : Int32) else (if x4 < (0 : Int32) then (0 : Int32) else (if (1 : Int32) < x4 then (0 : Int32) else (if x5 < (0 : Int32) then (0 : Int32) else (if (1 : Int32) < x5 then (0 : Int32) else (1 : Int32))))))))) → QTri l Z n0 ad 0 (92, [none, none, vI x2, vI x3, vI x4, vI x5, some (.ref 0), none, none, none], [.int z125], (H0 r124.2)) (some (Value.int r.1)) r.2 := by
    intro z125 ez125
    subst ez125
    refine QTri.steps Ad W 2 (st' := (96, [none, none, vI x2, vI x3, vI x4, vI x5, some (.ref 0), vI (if x2 < (0 : Int32) then (0 : Int32) else (if (1 : Int32) < x2 then (0 : Int32) else (if x3 < (0 : Int32) then (0 : Int32) else (if (15 : Int32) < x3 then (0 : Int32) else (if x4 < (0 : Int32) then (0 : Int32) else (if (1 : Int32) < x4 then (0 : Int32) else (if x5 < (0 : Int32) then (0 : Int32) else (if (1 : Int32) < x5 then (0 : Int32) else (1 : Int32))))))))), none, none], [.int (if x2 < (0 : Int32) then (0 : Int32) else (if (1 : Int32) < x2 then (0 : Int32) else (if x3 < (0 : Int32) then (0 : Int32) else (if (15 : Int32) < x3 then (0 : Int32) else (if x4 < (0 : Int32) then (0 : Int32) else (if (1 : Int32) < x4 then (0 : Int32) else (if x5 < (0 : Int32) then (0 : Int32) else (if (1 : Int32) < x5 then (0 : Int32) else (1 : Int32)))))))))], (H0 r124.2))) rfl ?_
    have K136 : ∀ z135 : Int32, z135 = (if (if x2 < (0 : Int32) then (0 : Int32) else (if (1 : Int32) < x2 then (0 : Int32) else (if x3 < (0 : Int32) then (0 : Int32) else (if (15 : Int32) < x3 then (0 : Int32) else (if x4 < (0 : Int32) then (0 : Int32) else (if (1 : Int32) < x4 then (0 : Int32) else (if x5 < (0 : Int32) then (0 : Int32) else (if (1 : Int32) < x5 then (0 : Int32) else (1 : Int32))))))))) = (0 : Int32) then (0 : Int32) else (if x2 = (0 : Int32) then (1 : Int32) else (0 : Int32))) → QTri l Z n0 ad 0 (108, [none, none, vI x2, vI x3, vI x4, vI x5, some (.ref 0), vI (if x2 < (0 : Int32) then (0 : Int32) else (if (1 : Int32) < x2 then (0 : Int32) else (if x3 < (0 : Int32) then (0 : Int32) else (if (15 : Int32) < x3 then (0 : Int32) else (if x4 < (0 : Int32) then (0 : Int32) else (if (1 : Int32) < x4 then (0 : Int32) else (if x5 < (0 : Int32) then (0 : Int32) else (if (1 : Int32) < x5 then (0 : Int32) else (1 : Int32))))))))), none, none], [.int z135], (H0 r124.2)) (some (Value.int r.1)) r.2 := by
      intro z135 ez135
      subst ez135
      refine QTri.steps Ad W 2 (st' := (112, [none, none, vI x2, vI x3, vI x4, vI x5, some (.ref 0), vI (if x2 < (0 : Int32) then (0 : Int32) else (if (1 : Int32) < x2 then (0 : Int32) else (if x3 < (0 : Int32) then (0 : Int32) else (if (15 : Int32) < x3 then (0 : Int32) else (if x4 < (0 : Int32) then (0 : Int32) else (if (1 : Int32) < x4 then (0 : Int32) else (if x5 < (0 : Int32) then (0 : Int32) else (if (1 : Int32) < x5 then (0 : Int32) else (1 : Int32))))))))), vI (if (if x2 < (0 : Int32) then (0 : Int32) else (if (1 : Int32) < x2 then (0 : Int32) else (if x3 < (0 : Int32) then (0 : Int32) else (if (15 : Int32) < x3 then (0 : Int32) else (if x4 < (0 : Int32) then (0 : Int32) else (if (1 : Int32) < x4 then (0 : Int32) else (if x5 < (0 : Int32) then (0 : Int32) else (if (1 : Int32) < x5 then (0 : Int32) else (1 : Int32))))))))) = (0 : Int32) then (0 : Int32) else (if x2 = (0 : Int32) then (1 : Int32) else (0 : Int32))), none], [.int (if x2 < (0 : Int32) then (0 : Int32) else (if (1 : Int32) < x2 then (0 : Int32) else (if x3 < (0 : Int32) then (0 : Int32) else (if (15 : Int32) < x3 then (0 : Int32) else (if x4 < (0 : Int32) then (0 : Int32) else (if (1 : Int32) < x4 then (0 : Int32) else (if x5 < (0 : Int32) then (0 : Int32) else (if (1 : Int32) < x5 then (0 : Int32) else (1 : Int32)))))))))], (H0 r124.2))) rfl ?_
      have K140 : ∀ z139 : Int32, z139 = (if (if x2 < (0 : Int32) then (0 : Int32) else (if (1 : Int32) < x2 then (0 : Int32) else (if x3 < (0 : Int32) then (0 : Int32) else (if (15 : Int32) < x3 then (0 : Int32) else (if x4 < (0 : Int32) then (0 : Int32) else (if (1 : Int32) < x4 then (0 : Int32) else (if x5 < (0 : Int32) then (0 : Int32) else (if (1 : Int32) < x5 then (0 : Int32) else (1 : Int32))))))))) = (0 : Int32) then (0 : Int32) else (if x2 = (1 : Int32) then (1 : Int32) else (0 : Int32))) → QTri l Z n0 ad 0 (125, [none, none, vI x2, vI x3, vI x4, vI x5, some (.ref 0), vI (if x2 < (0 : Int32) then (0 : Int32) else (if (1 : Int32) < x2 then (0 : Int32) else (if x3 < (0 : Int32) then (0 : Int32) else (if (15 : Int32) < x3 then (0 : Int32) else (if x4 < (0 : Int32) then (0 : Int32) else (if (1 : Int32) < x4 then (0 : Int32) else (if x5 < (0 : Int32) then (0 : Int32) else (if (1 : Int32) < x5 then (0 : Int32) else (1 : Int32))))))))), vI (if (if x2 < (0 : Int32) then (0 : Int32) else (if (1 : Int32) < x2 then (0 : Int32) else (if x3 < (0 : Int32) then (0 : Int32) else (if (15 : Int32) < x3 then (0 : Int32) else (if x4 < (0 : Int32) then (0 : Int32) else (if (1 : Int32) < x4 then (0 : Int32) else (if x5 < (0 : Int32) then (0 : Int32) else (if (1 : Int32) < x5 then (0 : Int32) else (1 : Int32))))))))) = (0 : Int32) then (0 : Int32) else (if x2 = (0 : Int32) then (1 : Int32) else (0 : Int32))), none], [.int z139], (H0 r124.2)) (some (Value.int r.1)) r.2 := by
        intro z139 ez139
        subst ez139
        refine QTri.steps Ad W 6 (st' := (135, [none, none, vI x2, vI x3, vI x4, vI x5, some (.ref 0), vI (if x2 < (0 : Int32) then (0 : Int32) else (if (1 : Int32) < x2 then (0 : Int32) else (if x3 < (0 : Int32) then (0 : Int32) else (if (15 : Int32) < x3 then (0 : Int32) else (if x4 < (0 : Int32) then (0 : Int32) else (if (1 : Int32) < x4 then (0 : Int32) else (if x5 < (0 : Int32) then (0 : Int32) else (if (1 : Int32) < x5 then (0 : Int32) else (1 : Int32))))))))), vI (if (if x2 < (0 : Int32) then (0 : Int32) else (if (1 : Int32) < x2 then (0 : Int32) else (if x3 < (0 : Int32) then (0 : Int32) else (if (15 : Int32) < x3 then (0 : Int32) else (if x4 < (0 : Int32) then (0 : Int32) else (if (1 : Int32) < x4 then (0 : Int32) else (if x5 < (0 : Int32) then (0 : Int32) else (if (1 : Int32) < x5 then (0 : Int32) else (1 : Int32))))))))) = (0 : Int32) then (0 : Int32) else (if x2 = (0 : Int32) then (1 : Int32) else (0 : Int32))), vI (if (if x2 < (0 : Int32) then (0 : Int32) else (if (1 : Int32) < x2 then (0 : Int32) else (if x3 < (0 : Int32) then (0 : Int32) else (if (15 : Int32) < x3 then (0 : Int32) else (if x4 < (0 : Int32) then (0 : Int32) else (if (1 : Int32) < x4 then (0 : Int32) else (if x5 < (0 : Int32) then (0 : Int32) else (if (1 : Int32) < x5 then (0 : Int32) else (1 : Int32))))))))) = (0 : Int32) then (0 : Int32) else (if x2 = (1 : Int32) then (1 : Int32) else (0 : Int32)))], [.int x5, .int x4, .int x3, .int x2, .ref 0], (H0 r124.2))) rfl ?_
        obtain ⟨r156, hr156, h⟩ := Option.bind_eq_some_iff.mp h
        refine QTri.callV W (a := 0) (as := [.int x2, .int x3, .int x4, .int x5]) (rest := []) (w := (some (.int r156.1))) (σ₁ := (H0 r156.2)) rfl rfl rfl rfl rfl rfl rfl rfl (tF10 Ad W r124.2 x2 x3 x4 x5 hr156) ?_
        refine QTri.steps Ad W 1 (st' := (140, [none, none, vI x2, vI x3, vI x4, vI x5, some (.ref 0), vI (if x2 < (0 : Int32) then (0 : Int32) else (if (1 : Int32) < x2 then (0 : Int32) else (if x3 < (0 : Int32) then (0 : Int32) else (if (15 : Int32) < x3 then (0 : Int32) else (if x4 < (0 : Int32) then (0 : Int32) else (if (1 : Int32) < x4 then (0 : Int32) else (if x5 < (0 : Int32) then (0 : Int32) else (if (1 : Int32) < x5 then (0 : Int32) else (1 : Int32))))))))), vI (if (if x2 < (0 : Int32) then (0 : Int32) else (if (1 : Int32) < x2 then (0 : Int32) else (if x3 < (0 : Int32) then (0 : Int32) else (if (15 : Int32) < x3 then (0 : Int32) else (if x4 < (0 : Int32) then (0 : Int32) else (if (1 : Int32) < x4 then (0 : Int32) else (if x5 < (0 : Int32) then (0 : Int32) else (if (1 : Int32) < x5 then (0 : Int32) else (1 : Int32))))))))) = (0 : Int32) then (0 : Int32) else (if x2 = (0 : Int32) then (1 : Int32) else (0 : Int32))), vI (if (if x2 < (0 : Int32) then (0 : Int32) else (if (1 : Int32) < x2 then (0 : Int32) else (if x3 < (0 : Int32) then (0 : Int32) else (if (15 : Int32) < x3 then (0 : Int32) else (if x4 < (0 : Int32) then (0 : Int32) else (if (1 : Int32) < x4 then (0 : Int32) else (if x5 < (0 : Int32) then (0 : Int32) else (if (1 : Int32) < x5 then (0 : Int32) else (1 : Int32))))))))) = (0 : Int32) then (0 : Int32) else (if x2 = (1 : Int32) then (1 : Int32) else (0 : Int32)))], [.int (if x2 < (0 : Int32) then (0 : Int32) else (if (1 : Int32) < x2 then (0 : Int32) else (if x3 < (0 : Int32) then (0 : Int32) else (if (15 : Int32) < x3 then (0 : Int32) else (if x4 < (0 : Int32) then (0 : Int32) else (if (1 : Int32) < x4 then (0 : Int32) else (if x5 < (0 : Int32) then (0 : Int32) else (if (1 : Int32) < x5 then (0 : Int32) else (1 : Int32))))))))), .int r156.1], (H0 r156.2))) rfl ?_
        rcases qite h with ⟨hc157, h⟩ | ⟨hc157, h⟩
        · refine QTri.brT Ad W (t := 145) (f := 143) (L := [none, none, vI x2, vI x3, vI x4, vI x5, some (.ref 0), vI (if x2 < (0 : Int32) then (0 : Int32) else (if (1 : Int32) < x2 then (0 : Int32) else (if x3 < (0 : Int32) then (0 : Int32) else (if (15 : Int32) < x3 then (0 : Int32) else (if x4 < (0 : Int32) then (0 : Int32) else (if (1 : Int32) < x4 then (0 : Int32) else (if x5 < (0 : Int32) then (0 : Int32) else (if (1 : Int32) < x5 then (0 : Int32) else (1 : Int32))))))))), vI (if (if x2 < (0 : Int32) then (0 : Int32) else (if (1 : Int32) < x2 then (0 : Int32) else (if x3 < (0 : Int32) then (0 : Int32) else (if (15 : Int32) < x3 then (0 : Int32) else (if x4 < (0 : Int32) then (0 : Int32) else (if (1 : Int32) < x4 then (0 : Int32) else (if x5 < (0 : Int32) then (0 : Int32) else (if (1 : Int32) < x5 then (0 : Int32) else (1 : Int32))))))))) = (0 : Int32) then (0 : Int32) else (if x2 = (0 : Int32) then (1 : Int32) else (0 : Int32))), vI (if (if x2 < (0 : Int32) then (0 : Int32) else (if (1 : Int32) < x2 then (0 : Int32) else (if x3 < (0 : Int32) then (0 : Int32) else (if (15 : Int32) < x3 then (0 : Int32) else (if x4 < (0 : Int32) then (0 : Int32) else (if (1 : Int32) < x4 then (0 : Int32) else (if x5 < (0 : Int32) then (0 : Int32) else (if (1 : Int32) < x5 then (0 : Int32) else (1 : Int32))))))))) = (0 : Int32) then (0 : Int32) else (if x2 = (1 : Int32) then (1 : Int32) else (0 : Int32)))]) (S := []) (σ := (H0 r156.2)) rfl (XT.ii_eq_t hc157) ?_
          refine QTri.steps Ad W 3 (st' := (149, [none, none, vI x2, vI x3, vI x4, vI x5, some (.ref 0), vI (if x2 < (0 : Int32) then (0 : Int32) else (if (1 : Int32) < x2 then (0 : Int32) else (if x3 < (0 : Int32) then (0 : Int32) else (if (15 : Int32) < x3 then (0 : Int32) else (if x4 < (0 : Int32) then (0 : Int32) else (if (1 : Int32) < x4 then (0 : Int32) else (if x5 < (0 : Int32) then (0 : Int32) else (if (1 : Int32) < x5 then (0 : Int32) else (1 : Int32))))))))), vI (if (if x2 < (0 : Int32) then (0 : Int32) else (if (1 : Int32) < x2 then (0 : Int32) else (if x3 < (0 : Int32) then (0 : Int32) else (if (15 : Int32) < x3 then (0 : Int32) else (if x4 < (0 : Int32) then (0 : Int32) else (if (1 : Int32) < x4 then (0 : Int32) else (if x5 < (0 : Int32) then (0 : Int32) else (if (1 : Int32) < x5 then (0 : Int32) else (1 : Int32))))))))) = (0 : Int32) then (0 : Int32) else (if x2 = (0 : Int32) then (1 : Int32) else (0 : Int32))), vI (if (if x2 < (0 : Int32) then (0 : Int32) else (if (1 : Int32) < x2 then (0 : Int32) else (if x3 < (0 : Int32) then (0 : Int32) else (if (15 : Int32) < x3 then (0 : Int32) else (if x4 < (0 : Int32) then (0 : Int32) else (if (1 : Int32) < x4 then (0 : Int32) else (if x5 < (0 : Int32) then (0 : Int32) else (if (1 : Int32) < x5 then (0 : Int32) else (1 : Int32))))))))) = (0 : Int32) then (0 : Int32) else (if x2 = (1 : Int32) then (1 : Int32) else (0 : Int32)))], [.int (0 : Int32), .int (0 : Int32), .ref 0], (H0 r156.2))) rfl ?_
          obtain ⟨r164, hr164, h⟩ := Option.bind_eq_some_iff.mp h
          refine QTri.callV W (a := 0) (as := [.int (0 : Int32), .int (0 : Int32)]) (rest := []) (w := (some (.int r164))) (σ₁ := (H0 r156.2)) rfl rfl rfl rfl rfl rfl rfl rfl (tF11 Ad W r156.2 (0 : Int32) (0 : Int32) hr164) ?_
          refine QTri.steps Ad W 1 (st' := (154, [none, none, vI x2, vI x3, vI x4, vI x5, some (.ref 0), vI (if x2 < (0 : Int32) then (0 : Int32) else (if (1 : Int32) < x2 then (0 : Int32) else (if x3 < (0 : Int32) then (0 : Int32) else (if (15 : Int32) < x3 then (0 : Int32) else (if x4 < (0 : Int32) then (0 : Int32) else (if (1 : Int32) < x4 then (0 : Int32) else (if x5 < (0 : Int32) then (0 : Int32) else (if (1 : Int32) < x5 then (0 : Int32) else (1 : Int32))))))))), vI (if (if x2 < (0 : Int32) then (0 : Int32) else (if (1 : Int32) < x2 then (0 : Int32) else (if x3 < (0 : Int32) then (0 : Int32) else (if (15 : Int32) < x3 then (0 : Int32) else (if x4 < (0 : Int32) then (0 : Int32) else (if (1 : Int32) < x4 then (0 : Int32) else (if x5 < (0 : Int32) then (0 : Int32) else (if (1 : Int32) < x5 then (0 : Int32) else (1 : Int32))))))))) = (0 : Int32) then (0 : Int32) else (if x2 = (0 : Int32) then (1 : Int32) else (0 : Int32))), vI (if (if x2 < (0 : Int32) then (0 : Int32) else (if (1 : Int32) < x2 then (0 : Int32) else (if x3 < (0 : Int32) then (0 : Int32) else (if (15 : Int32) < x3 then (0 : Int32) else (if x4 < (0 : Int32) then (0 : Int32) else (if (1 : Int32) < x4 then (0 : Int32) else (if x5 < (0 : Int32) then (0 : Int32) else (if (1 : Int32) < x5 then (0 : Int32) else (1 : Int32))))))))) = (0 : Int32) then (0 : Int32) else (if x2 = (1 : Int32) then (1 : Int32) else (0 : Int32)))], [.int (if x2 < (0 : Int32) then (0 : Int32) else (if (1 : Int32) < x2 then (0 : Int32) else (if x3 < (0 : Int32) then (0 : Int32) else (if (15 : Int32) < x3 then (0 : Int32) else (if x4 < (0 : Int32) then (0 : Int32) else (if (1 : Int32) < x4 then (0 : Int32) else (if x5 < (0 : Int32) then (0 : Int32) else (if (1 : Int32) < x5 then (0 : Int32) else (1 : Int32))))))))), .int r164], (H0 r156.2))) rfl ?_
          have K166 : ∀ z165 : Int32, z165 = (if (if x2 < (0 : Int32) then (0 : Int32) else (if (1 : Int32) < x2 then (0 : Int32) else (if x3 < (0 : Int32) then (0 : Int32) else (if (15 : Int32) < x3 then (0 : Int32) else (if x4 < (0 : Int32) then (0 : Int32) else (if (1 : Int32) < x4 then (0 : Int32) else (if x5 < (0 : Int32) then (0 : Int32) else (if (1 : Int32) < x5 then (0 : Int32) else (1 : Int32))))))))) = (0 : Int32) then (1 : Int32) else (0 : Int32)) → QTri l Z n0 ad 0 (162, [none, none, none, vI x3, vI x4, none, some (.ref 0), none, vI (if (if x2 < (0 : Int32) then (0 : Int32) else (if (1 : Int32) < x2 then (0 : Int32) else (if x3 < (0 : Int32) then (0 : Int32) else (if (15 : Int32) < x3 then (0 : Int32) else (if x4 < (0 : Int32) then (0 : Int32) else (if (1 : Int32) < x4 then (0 : Int32) else (if x5 < (0 : Int32) then (0 : Int32) else (if (1 : Int32) < x5 then (0 : Int32) else (1 : Int32))))))))) = (0 : Int32) then (0 : Int32) else (if x2 = (0 : Int32) then (1 : Int32) else (0 : Int32))), vI (if (if x2 < (0 : Int32) then (0 : Int32) else (if (1 : Int32) < x2 then (0 : Int32) else (if x3 < (0 : Int32) then (0 : Int32) else (if (15 : Int32) < x3 then (0 : Int32) else (if x4 < (0 : Int32) then (0 : Int32) else (if (1 : Int32) < x4 then (0 : Int32) else (if x5 < (0 : Int32) then (0 : Int32) else (if (1 : Int32) < x5 then (0 : Int32) else (1 : Int32))))))))) = (0 : Int32) then (0 : Int32) else (if x2 = (1 : Int32) then (1 : Int32) else (0 : Int32)))], [.int z165, .int r164], (H0 r156.2)) (some (Value.int r.1)) r.2 := by
            intro z165 ez165
            subst ez165
            rcases qite h with ⟨hc168, h⟩ | ⟨hc168, h⟩
            · refine QTri.brT Ad W (t := 167) (f := 165) (L := [none, none, none, vI x3, vI x4, none, some (.ref 0), none, vI (if (if x2 < (0 : Int32) then (0 : Int32) else (if (1 : Int32) < x2 then (0 : Int32) else (if x3 < (0 : Int32) then (0 : Int32) else (if (15 : Int32) < x3 then (0 : Int32) else (if x4 < (0 : Int32) then (0 : Int32) else (if (1 : Int32) < x4 then (0 : Int32) else (if x5 < (0 : Int32) then (0 : Int32) else (if (1 : Int32) < x5 then (0 : Int32) else (1 : Int32))))))))) = (0 : Int32) then (0 : Int32) else (if x2 = (0 : Int32) then (1 : Int32) else (0 : Int32))), vI (if (if x2 < (0 : Int32) then (0 : Int32) else (if (1 : Int32) < x2 then (0 : Int32) else (if x3 < (0 : Int32) then (0 : Int32) else (if (15 : Int32) < x3 then (0 : Int32) else (if x4 < (0 : Int32) then (0 : Int32) else (if (1 : Int32) < x4 then (0 : Int32) else (if x5 < (0 : Int32) then (0 : Int32) else (if (1 : Int32) < x5 then (0 : Int32) else (1 : Int32))))))))) = (0 : Int32) then (0 : Int32) else (if x2 = (1 : Int32) then (1 : Int32) else (0 : Int32)))]) (S := []) (σ := (H0 r156.2)) rfl (XT.ii_eq_t hc168) ?_
              refine QTri.steps Ad W 3 (st' := (171, [none, none, none, vI x3, vI x4, none, some (.ref 0), none, vI (if (if x2 < (0 : Int32) then (0 : Int32) else (if (1 : Int32) < x2 then (0 : Int32) else (if x3 < (0 : Int32) then (0 : Int32) else (if (15 : Int32) < x3 then (0 : Int32) else (if x4 < (0 : Int32) then (0 : Int32) else (if (1 : Int32) < x4 then (0 : Int32) else (if x5 < (0 : Int32) then (0 : Int32) else (if (1 : Int32) < x5 then (0 : Int32) else (1 : Int32))))))))) = (0 : Int32) then (0 : Int32) else (if x2 = (0 : Int32) then (1 : Int32) else (0 : Int32))), vI (if (if x2 < (0 : Int32) then (0 : Int32) else (if (1 : Int32) < x2 then (0 : Int32) else (if x3 < (0 : Int32) then (0 : Int32) else (if (15 : Int32) < x3 then (0 : Int32) else (if x4 < (0 : Int32) then (0 : Int32) else (if (1 : Int32) < x4 then (0 : Int32) else (if x5 < (0 : Int32) then (0 : Int32) else (if (1 : Int32) < x5 then (0 : Int32) else (1 : Int32))))))))) = (0 : Int32) then (0 : Int32) else (if x2 = (1 : Int32) then (1 : Int32) else (0 : Int32)))], [.int (4 : Int32), .int (0 : Int32), .ref 0], (H0 r156.2))) rfl ?_
              obtain ⟨r187, hr187, h⟩ := Option.bind_eq_some_iff.mp h
              refine QTri.callV W (a := 0) (as := [.int (0 : Int32), .int (4 : Int32)]) (rest := []) (w := (some (.int r187))) (σ₁ := (H0 r156.2)) rfl rfl rfl rfl rfl rfl rfl rfl (tF12 Ad W r156.2 (0 : Int32) (4 : Int32) hr187) ?_
              refine QTri.steps Ad W 1 (st' := (176, [none, none, none, vI x3, vI x4, none, some (.ref 0), none, vI (if (if x2 < (0 : Int32) then (0 : Int32) else (if (1 : Int32) < x2 then (0 : Int32) else (if x3 < (0 : Int32) then (0 : Int32) else (if (15 : Int32) < x3 then (0 : Int32) else (if x4 < (0 : Int32) then (0 : Int32) else (if (1 : Int32) < x4 then (0 : Int32) else (if x5 < (0 : Int32) then (0 : Int32) else (if (1 : Int32) < x5 then (0 : Int32) else (1 : Int32))))))))) = (0 : Int32) then (0 : Int32) else (if x2 = (0 : Int32) then (1 : Int32) else (0 : Int32))), vI (if (if x2 < (0 : Int32) then (0 : Int32) else (if (1 : Int32) < x2 then (0 : Int32) else (if x3 < (0 : Int32) then (0 : Int32) else (if (15 : Int32) < x3 then (0 : Int32) else (if x4 < (0 : Int32) then (0 : Int32) else (if (1 : Int32) < x4 then (0 : Int32) else (if x5 < (0 : Int32) then (0 : Int32) else (if (1 : Int32) < x5 then (0 : Int32) else (1 : Int32))))))))) = (0 : Int32) then (0 : Int32) else (if x2 = (1 : Int32) then (1 : Int32) else (0 : Int32)))], [.int (if (if x2 < (0 : Int32) then (0 : Int32) else (if (1 : Int32) < x2 then (0 : Int32) else (if x3 < (0 : Int32) then (0 : Int32) else (if (15 : Int32) < x3 then (0 : Int32) else (if x4 < (0 : Int32) then (0 : Int32) else (if (1 : Int32) < x4 then (0 : Int32) else (if x5 < (0 : Int32) then (0 : Int32) else (if (1 : Int32) < x5 then (0 : Int32) else (1 : Int32))))))))) = (0 : Int32) then (0 : Int32) else (if x2 = (0 : Int32) then (1 : Int32) else (0 : Int32))), .int r187], (H0 r156.2))) rfl ?_
              have K189 : ∀ z188 : Int32, z188 = (if (if (if x2 < (0 : Int32) then (0 : Int32) else (if (1 : Int32) < x2 then (0 : Int32) else (if x3 < (0 : Int32) then (0 : Int32) else (if (15 : Int32) < x3 then (0 : Int32) else (if x4 < (0 : Int32) then (0 : Int32) else (if (1 : Int32) < x4 then (0 : Int32) else (if x5 < (0 : Int32) then (0 : Int32) else (if (1 : Int32) < x5 then (0 : Int32) else (1 : Int32))))))))) = (0 : Int32) then (0 : Int32) else (if x2 = (0 : Int32) then (1 : Int32) else (0 : Int32))) = (0 : Int32) then (1 : Int32) else (2 : Int32)) → QTri l Z n0 ad 0 (184, [none, none, none, vI x3, vI x4, none, some (.ref 0), none, vI (if (if x2 < (0 : Int32) then (0 : Int32) else (if (1 : Int32) < x2 then (0 : Int32) else (if x3 < (0 : Int32) then (0 : Int32) else (if (15 : Int32) < x3 then (0 : Int32) else (if x4 < (0 : Int32) then (0 : Int32) else (if (1 : Int32) < x4 then (0 : Int32) else (if x5 < (0 : Int32) then (0 : Int32) else (if (1 : Int32) < x5 then (0 : Int32) else (1 : Int32))))))))) = (0 : Int32) then (0 : Int32) else (if x2 = (0 : Int32) then (1 : Int32) else (0 : Int32))), vI (if (if x2 < (0 : Int32) then (0 : Int32) else (if (1 : Int32) < x2 then (0 : Int32) else (if x3 < (0 : Int32) then (0 : Int32) else (if (15 : Int32) < x3 then (0 : Int32) else (if x4 < (0 : Int32) then (0 : Int32) else (if (1 : Int32) < x4 then (0 : Int32) else (if x5 < (0 : Int32) then (0 : Int32) else (if (1 : Int32) < x5 then (0 : Int32) else (1 : Int32))))))))) = (0 : Int32) then (0 : Int32) else (if x2 = (1 : Int32) then (1 : Int32) else (0 : Int32)))], [.int z188, .int r187], (H0 r156.2)) (some (Value.int r.1)) r.2 := by
                intro z188 ez188
                subst ez188
                rcases qite h with ⟨hc191, h⟩ | ⟨hc191, h⟩
                · refine QTri.brT Ad W (t := 189) (f := 187) (L := [none, none, none, vI x3, vI x4, none, some (.ref 0), none, vI (if (if x2 < (0 : Int32) then (0 : Int32) else (if (1 : Int32) < x2 then (0 : Int32) else (if x3 < (0 : Int32) then (0 : Int32) else (if (15 : Int32) < x3 then (0 : Int32) else (if x4 < (0 : Int32) then (0 : Int32) else (if (1 : Int32) < x4 then (0 : Int32) else (if x5 < (0 : Int32) then (0 : Int32) else (if (1 : Int32) < x5 then (0 : Int32) else (1 : Int32))))))))) = (0 : Int32) then (0 : Int32) else (if x2 = (0 : Int32) then (1 : Int32) else (0 : Int32))), vI (if (if x2 < (0 : Int32) then (0 : Int32) else (if (1 : Int32) < x2 then (0 : Int32) else (if x3 < (0 : Int32) then (0 : Int32) else (if (15 : Int32) < x3 then (0 : Int32) else (if x4 < (0 : Int32) then (0 : Int32) else (if (1 : Int32) < x4 then (0 : Int32) else (if x5 < (0 : Int32) then (0 : Int32) else (if (1 : Int32) < x5 then (0 : Int32) else (1 : Int32))))))))) = (0 : Int32) then (0 : Int32) else (if x2 = (1 : Int32) then (1 : Int32) else (0 : Int32)))]) (S := []) (σ := (H0 r156.2)) rfl (XT.ii_eq_t hc191) ?_
                  refine QTri.steps Ad W 3 (st' := (193, [none, none, none, vI x3, vI x4, none, some (.ref 0), none, vI (if (if x2 < (0 : Int32) then (0 : Int32) else (if (1 : Int32) < x2 then (0 : Int32) else (if x3 < (0 : Int32) then (0 : Int32) else (if (15 : Int32) < x3 then (0 : Int32) else (if x4 < (0 : Int32) then (0 : Int32) else (if (1 : Int32) < x4 then (0 : Int32) else (if x5 < (0 : Int32) then (0 : Int32) else (if (1 : Int32) < x5 then (0 : Int32) else (1 : Int32))))))))) = (0 : Int32) then (0 : Int32) else (if x2 = (0 : Int32) then (1 : Int32) else (0 : Int32))), vI (if (if x2 < (0 : Int32) then (0 : Int32) else (if (1 : Int32) < x2 then (0 : Int32) else (if x3 < (0 : Int32) then (0 : Int32) else (if (15 : Int32) < x3 then (0 : Int32) else (if x4 < (0 : Int32) then (0 : Int32) else (if (1 : Int32) < x4 then (0 : Int32) else (if x5 < (0 : Int32) then (0 : Int32) else (if (1 : Int32) < x5 then (0 : Int32) else (1 : Int32))))))))) = (0 : Int32) then (0 : Int32) else (if x2 = (1 : Int32) then (1 : Int32) else (0 : Int32)))], [.int (5 : Int32), .int (0 : Int32), .ref 0], (H0 r156.2))) rfl ?_
                  obtain ⟨r192, hr192, h⟩ := Option.bind_eq_some_iff.mp h
                  refine QTri.callV W (a := 0) (as := [.int (0 : Int32), .int (5 : Int32)]) (rest := []) (w := (some (.int r192))) (σ₁ := (H0 r156.2)) rfl rfl rfl rfl rfl rfl rfl rfl (tF12 Ad W r156.2 (0 : Int32) (5 : Int32) hr192) ?_
                  refine QTri.steps Ad W 1 (st' := (198, [none, none, none, vI x3, vI x4, none, some (.ref 0), none, vI (if (if x2 < (0 : Int32) then (0 : Int32) else (if (1 : Int32) < x2 then (0 : Int32) else (if x3 < (0 : Int32) then (0 : Int32) else (if (15 : Int32) < x3 then (0 : Int32) else (if x4 < (0 : Int32) then (0 : Int32) else (if (1 : Int32) < x4 then (0 : Int32) else (if x5 < (0 : Int32) then (0 : Int32) else (if (1 : Int32) < x5 then (0 : Int32) else (1 : Int32))))))))) = (0 : Int32) then (0 : Int32) else (if x2 = (0 : Int32) then (1 : Int32) else (0 : Int32))), vI (if (if x2 < (0 : Int32) then (0 : Int32) else (if (1 : Int32) < x2 then (0 : Int32) else (if x3 < (0 : Int32) then (0 : Int32) else (if (15 : Int32) < x3 then (0 : Int32) else (if x4 < (0 : Int32) then (0 : Int32) else (if (1 : Int32) < x4 then (0 : Int32) else (if x5 < (0 : Int32) then (0 : Int32) else (if (1 : Int32) < x5 then (0 : Int32) else (1 : Int32))))))))) = (0 : Int32) then (0 : Int32) else (if x2 = (1 : Int32) then (1 : Int32) else (0 : Int32)))], [.int (if (if x2 < (0 : Int32) then (0 : Int32) else (if (1 : Int32) < x2 then (0 : Int32) else (if x3 < (0 : Int32) then (0 : Int32) else (if (15 : Int32) < x3 then (0 : Int32) else (if x4 < (0 : Int32) then (0 : Int32) else (if (1 : Int32) < x4 then (0 : Int32) else (if x5 < (0 : Int32) then (0 : Int32) else (if (1 : Int32) < x5 then (0 : Int32) else (1 : Int32))))))))) = (0 : Int32) then (0 : Int32) else (if x2 = (0 : Int32) then (1 : Int32) else (0 : Int32))), .int r192], (H0 r156.2))) rfl ?_
                  have K194 : ∀ z193 : Int32, z193 = (if (if (if x2 < (0 : Int32) then (0 : Int32) else (if (1 : Int32) < x2 then (0 : Int32) else (if x3 < (0 : Int32) then (0 : Int32) else (if (15 : Int32) < x3 then (0 : Int32) else (if x4 < (0 : Int32) then (0 : Int32) else (if (1 : Int32) < x4 then (0 : Int32) else (if x5 < (0 : Int32) then (0 : Int32) else (if (1 : Int32) < x5 then (0 : Int32) else (1 : Int32))))))))) = (0 : Int32) then (0 : Int32) else (if x2 = (0 : Int32) then (1 : Int32) else (0 : Int32))) = (0 : Int32) then (0 : Int32) else x3) → QTri l Z n0 ad 0 (206, [none, none, none, none, vI x4, none, some (.ref 0), none, vI (if (if x2 < (0 : Int32) then (0 : Int32) else (if (1 : Int32) < x2 then (0 : Int32) else (if x3 < (0 : Int32) then (0 : Int32) else (if (15 : Int32) < x3 then (0 : Int32) else (if x4 < (0 : Int32) then (0 : Int32) else (if (1 : Int32) < x4 then (0 : Int32) else (if x5 < (0 : Int32) then (0 : Int32) else (if (1 : Int32) < x5 then (0 : Int32) else (1 : Int32))))))))) = (0 : Int32) then (0 : Int32) else (if x2 = (0 : Int32) then (1 : Int32) else (0 : Int32))), vI (if (if x2 < (0 : Int32) then (0 : Int32) else (if (1 : Int32) < x2 then (0 : Int32) else (if x3 < (0 : Int32) then (0 : Int32) else (if (15 : Int32) < x3 then (0 : Int32) else (if x4 < (0 : Int32) then (0 : Int32) else (if (1 : Int32) < x4 then (0 : Int32) else (if x5 < (0 : Int32) then (0 : Int32) else (if (1 : Int32) < x5 then (0 : Int32) else (1 : Int32))))))))) = (0 : Int32) then (0 : Int32) else (if x2 = (1 : Int32) then (1 : Int32) else (0 : Int32)))], [.int z193, .int r192], (H0 r156.2)) (some (Value.int r.1)) r.2 := by
                    intro z193 ez193
                    subst ez193
                    rcases qite h with ⟨hc196, h⟩ | ⟨hc196, h⟩
                    · refine QTri.brT Ad W (t := 211) (f := 209) (L := [none, none, none, none, vI x4, none, some (.ref 0), none, vI (if (if x2 < (0 : Int32) then (0 : Int32) else (if (1 : Int32) < x2 then (0 : Int32) else (if x3 < (0 : Int32) then (0 : Int32) else (if (15 : Int32) < x3 then (0 : Int32) else (if x4 < (0 : Int32) then (0 : Int32) else (if (1 : Int32) < x4 then (0 : Int32) else (if x5 < (0 : Int32) then (0 : Int32) else (if (1 : Int32) < x5 then (0 : Int32) else (1 : Int32))))))))) = (0 : Int32) then (0 : Int32) else (if x2 = (0 : Int32) then (1 : Int32) else (0 : Int32))), vI (if (if x2 < (0 : Int32) then (0 : Int32) else (if (1 : Int32) < x2 then (0 : Int32) else (if x3 < (0 : Int32) then (0 : Int32) else (if (15 : Int32) < x3 then (0 : Int32) else (if x4 < (0 : Int32) then (0 : Int32) else (if (1 : Int32) < x4 then (0 : Int32) else (if x5 < (0 : Int32) then (0 : Int32) else (if (1 : Int32) < x5 then (0 : Int32) else (1 : Int32))))))))) = (0 : Int32) then (0 : Int32) else (if x2 = (1 : Int32) then (1 : Int32) else (0 : Int32)))]) (S := []) (σ := (H0 r156.2)) rfl (XT.ii_eq_t hc196) ?_
                      refine QTri.steps Ad W 3 (st' := (216, [none, none, none, none, vI x4, none, some (.ref 0), none, vI (if (if x2 < (0 : Int32) then (0 : Int32) else (if (1 : Int32) < x2 then (0 : Int32) else (if x3 < (0 : Int32) then (0 : Int32) else (if (15 : Int32) < x3 then (0 : Int32) else (if x4 < (0 : Int32) then (0 : Int32) else (if (1 : Int32) < x4 then (0 : Int32) else (if x5 < (0 : Int32) then (0 : Int32) else (if (1 : Int32) < x5 then (0 : Int32) else (1 : Int32))))))))) = (0 : Int32) then (0 : Int32) else (if x2 = (0 : Int32) then (1 : Int32) else (0 : Int32))), vI (if (if x2 < (0 : Int32) then (0 : Int32) else (if (1 : Int32) < x2 then (0 : Int32) else (if x3 < (0 : Int32) then (0 : Int32) else (if (15 : Int32) < x3 then (0 : Int32) else (if x4 < (0 : Int32) then (0 : Int32) else (if (1 : Int32) < x4 then (0 : Int32) else (if x5 < (0 : Int32) then (0 : Int32) else (if (1 : Int32) < x5 then (0 : Int32) else (1 : Int32))))))))) = (0 : Int32) then (0 : Int32) else (if x2 = (1 : Int32) then (1 : Int32) else (0 : Int32)))], [.int (6 : Int32), .int (0 : Int32), .ref 0], (H0 r156.2))) rfl ?_
                      obtain ⟨r197, hr197, h⟩ := Option.bind_eq_some_iff.mp h
                      refine QTri.callV W (a := 0) (as := [.int (0 : Int32), .int (6 : Int32)]) (rest := []) (w := (some (.int r197))) (σ₁ := (H0 r156.2)) rfl rfl rfl rfl rfl rfl rfl rfl (tF12 Ad W r156.2 (0 : Int32) (6 : Int32) hr197) ?_
                      refine QTri.steps Ad W 1 (st' := (221, [none, none, none, none, vI x4, none, some (.ref 0), none, vI (if (if x2 < (0 : Int32) then (0 : Int32) else (if (1 : Int32) < x2 then (0 : Int32) else (if x3 < (0 : Int32) then (0 : Int32) else (if (15 : Int32) < x3 then (0 : Int32) else (if x4 < (0 : Int32) then (0 : Int32) else (if (1 : Int32) < x4 then (0 : Int32) else (if x5 < (0 : Int32) then (0 : Int32) else (if (1 : Int32) < x5 then (0 : Int32) else (1 : Int32))))))))) = (0 : Int32) then (0 : Int32) else (if x2 = (0 : Int32) then (1 : Int32) else (0 : Int32))), vI (if (if x2 < (0 : Int32) then (0 : Int32) else (if (1 : Int32) < x2 then (0 : Int32) else (if x3 < (0 : Int32) then (0 : Int32) else (if (15 : Int32) < x3 then (0 : Int32) else (if x4 < (0 : Int32) then (0 : Int32) else (if (1 : Int32) < x4 then (0 : Int32) else (if x5 < (0 : Int32) then (0 : Int32) else (if (1 : Int32) < x5 then (0 : Int32) else (1 : Int32))))))))) = (0 : Int32) then (0 : Int32) else (if x2 = (1 : Int32) then (1 : Int32) else (0 : Int32)))], [.int (if (if x2 < (0 : Int32) then (0 : Int32) else (if (1 : Int32) < x2 then (0 : Int32) else (if x3 < (0 : Int32) then (0 : Int32) else (if (15 : Int32) < x3 then (0 : Int32) else (if x4 < (0 : Int32) then (0 : Int32) else (if (1 : Int32) < x4 then (0 : Int32) else (if x5 < (0 : Int32) then (0 : Int32) else (if (1 : Int32) < x5 then (0 : Int32) else (1 : Int32))))))))) = (0 : Int32) then (0 : Int32) else (if x2 = (0 : Int32) then (1 : Int32) else (0 : Int32))), .int r197], (H0 r156.2))) rfl ?_
                      have K199 : ∀ z198 : Int32, z198 = (if (if (if x2 < (0 : Int32) then (0 : Int32) else (if (1 : Int32) < x2 then (0 : Int32) else (if x3 < (0 : Int32) then (0 : Int32) else (if (15 : Int32) < x3 then (0 : Int32) else (if x4 < (0 : Int32) then (0 : Int32) else (if (1 : Int32) < x4 then (0 : Int32) else (if x5 < (0 : Int32) then (0 : Int32) else (if (1 : Int32) < x5 then (0 : Int32) else (1 : Int32))))))))) = (0 : Int32) then (0 : Int32) else (if x2 = (0 : Int32) then (1 : Int32) else (0 : Int32))) = (0 : Int32) then (1 : Int32) else x4) → QTri l Z n0 ad 0 (230, [none, none, none, none, none, none, some (.ref 0), none, none, vI (if (if x2 < (0 : Int32) then (0 : Int32) else (if (1 : Int32) < x2 then (0 : Int32) else (if x3 < (0 : Int32) then (0 : Int32) else (if (15 : Int32) < x3 then (0 : Int32) else (if x4 < (0 : Int32) then (0 : Int32) else (if (1 : Int32) < x4 then (0 : Int32) else (if x5 < (0 : Int32) then (0 : Int32) else (if (1 : Int32) < x5 then (0 : Int32) else (1 : Int32))))))))) = (0 : Int32) then (0 : Int32) else (if x2 = (1 : Int32) then (1 : Int32) else (0 : Int32)))], [.int z198, .int r197], (H0 r156.2)) (some (Value.int r.1)) r.2 := by
                        intro z198 ez198
                        subst ez198
                        rcases qite h with ⟨hc201, h⟩ | ⟨hc201, h⟩
                        · refine QTri.brT Ad W (t := 235) (f := 233) (L := [none, none, none, none, none, none, some (.ref 0), none, none, vI (if (if x2 < (0 : Int32) then (0 : Int32) else (if (1 : Int32) < x2 then (0 : Int32) else (if x3 < (0 : Int32) then (0 : Int32) else (if (15 : Int32) < x3 then (0 : Int32) else (if x4 < (0 : Int32) then (0 : Int32) else (if (1 : Int32) < x4 then (0 : Int32) else (if x5 < (0 : Int32) then (0 : Int32) else (if (1 : Int32) < x5 then (0 : Int32) else (1 : Int32))))))))) = (0 : Int32) then (0 : Int32) else (if x2 = (1 : Int32) then (1 : Int32) else (0 : Int32)))]) (S := []) (σ := (H0 r156.2)) rfl (XT.ii_eq_t hc201) ?_
                          refine QTri.steps Ad W 3 (st' := (239, [none, none, none, none, none, none, some (.ref 0), none, none, vI (if (if x2 < (0 : Int32) then (0 : Int32) else (if (1 : Int32) < x2 then (0 : Int32) else (if x3 < (0 : Int32) then (0 : Int32) else (if (15 : Int32) < x3 then (0 : Int32) else (if x4 < (0 : Int32) then (0 : Int32) else (if (1 : Int32) < x4 then (0 : Int32) else (if x5 < (0 : Int32) then (0 : Int32) else (if (1 : Int32) < x5 then (0 : Int32) else (1 : Int32))))))))) = (0 : Int32) then (0 : Int32) else (if x2 = (1 : Int32) then (1 : Int32) else (0 : Int32)))], [.int (4 : Int32), .int (1 : Int32), .ref 0], (H0 r156.2))) rfl ?_
                          obtain ⟨r202, hr202, h⟩ := Option.bind_eq_some_iff.mp h
                          refine QTri.callV W (a := 0) (as := [.int (1 : Int32), .int (4 : Int32)]) (rest := []) (w := (some (.int r202))) (σ₁ := (H0 r156.2)) rfl rfl rfl rfl rfl rfl rfl rfl (tF12 Ad W r156.2 (1 : Int32) (4 : Int32) hr202) ?_
                          refine QTri.steps Ad W 1 (st' := (244, [none, none, none, none, none, none, some (.ref 0), none, none, vI (if (if x2 < (0 : Int32) then (0 : Int32) else (if (1 : Int32) < x2 then (0 : Int32) else (if x3 < (0 : Int32) then (0 : Int32) else (if (15 : Int32) < x3 then (0 : Int32) else (if x4 < (0 : Int32) then (0 : Int32) else (if (1 : Int32) < x4 then (0 : Int32) else (if x5 < (0 : Int32) then (0 : Int32) else (if (1 : Int32) < x5 then (0 : Int32) else (1 : Int32))))))))) = (0 : Int32) then (0 : Int32) else (if x2 = (1 : Int32) then (1 : Int32) else (0 : Int32)))], [.int (if (if x2 < (0 : Int32) then (0 : Int32) else (if (1 : Int32) < x2 then (0 : Int32) else (if x3 < (0 : Int32) then (0 : Int32) else (if (15 : Int32) < x3 then (0 : Int32) else (if x4 < (0 : Int32) then (0 : Int32) else (if (1 : Int32) < x4 then (0 : Int32) else (if x5 < (0 : Int32) then (0 : Int32) else (if (1 : Int32) < x5 then (0 : Int32) else (1 : Int32))))))))) = (0 : Int32) then (0 : Int32) else (if x2 = (1 : Int32) then (1 : Int32) else (0 : Int32))), .int r202], (H0 r156.2))) rfl ?_
                          have K204 : ∀ z203 : Int32, z203 = (if (if (if x2 < (0 : Int32) then (0 : Int32) else (if (1 : Int32) < x2 then (0 : Int32) else (if x3 < (0 : Int32) then (0 : Int32) else (if (15 : Int32) < x3 then (0 : Int32) else (if x4 < (0 : Int32) then (0 : Int32) else (if (1 : Int32) < x4 then (0 : Int32) else (if x5 < (0 : Int32) then (0 : Int32) else (if (1 : Int32) < x5 then (0 : Int32) else (1 : Int32))))))))) = (0 : Int32) then (0 : Int32) else (if x2 = (1 : Int32) then (1 : Int32) else (0 : Int32))) = (0 : Int32) then (0 : Int32) else (2 : Int32)) → QTri l Z n0 ad 0 (252, [none, none, none, none, none, none, none, none, none, none], [.int z203, .int r202], (H0 r156.2)) (some (Value.int r.1)) r.2 := by
                            intro z203 ez203
                            subst ez203
                            rcases qite h with ⟨hc206, h⟩ | ⟨hc206, h⟩
                            · refine QTri.brF Ad W (t := 259) (f := 255) (L := [none, none, none, none, none, none, none, none, none, none]) (S := []) (σ := (H0 r156.2)) rfl (XT.ii_ne_f hc206) ?_
                              refine QTri.steps Ad W 2 (st' := (260, [none, none, none, none, none, none, none, none, none, none], [.int (1 : Int32)], (H0 r156.2))) rfl ?_
                              obtain rfl := Option.some.inj h
                              exact QTri.retZ rfl rfl
                            · refine QTri.brT Ad W (t := 259) (f := 255) (L := [none, none, none, none, none, none, none, none, none, none]) (S := []) (σ := (H0 r156.2)) rfl (XT.ii_ne_t hc206) ?_
                              refine QTri.steps Ad W 1 (st' := (260, [none, none, none, none, none, none, none, none, none, none], [.int (0 : Int32)], (H0 r156.2))) rfl ?_
                              obtain rfl := Option.some.inj h
                              exact QTri.retZ rfl rfl
                          rcases Classical.em ((if (if x2 < (0 : Int32) then (0 : Int32) else (if (1 : Int32) < x2 then (0 : Int32) else (if x3 < (0 : Int32) then (0 : Int32) else (if (15 : Int32) < x3 then (0 : Int32) else (if x4 < (0 : Int32) then (0 : Int32) else (if (1 : Int32) < x4 then (0 : Int32) else (if x5 < (0 : Int32) then (0 : Int32) else (if (1 : Int32) < x5 then (0 : Int32) else (1 : Int32))))))))) = (0 : Int32) then (0 : Int32) else (if x2 = (1 : Int32) then (1 : Int32) else (0 : Int32))) = (0 : Int32)) with hc205 | hc205
                          · refine QTri.brT Ad W (t := 251) (f := 247) (L := [none, none, none, none, none, none, some (.ref 0), none, none, vI (if (if x2 < (0 : Int32) then (0 : Int32) else (if (1 : Int32) < x2 then (0 : Int32) else (if x3 < (0 : Int32) then (0 : Int32) else (if (15 : Int32) < x3 then (0 : Int32) else (if x4 < (0 : Int32) then (0 : Int32) else (if (1 : Int32) < x4 then (0 : Int32) else (if x5 < (0 : Int32) then (0 : Int32) else (if (1 : Int32) < x5 then (0 : Int32) else (1 : Int32))))))))) = (0 : Int32) then (0 : Int32) else (if x2 = (1 : Int32) then (1 : Int32) else (0 : Int32)))]) (S := [.int r202]) (σ := (H0 r156.2)) rfl (XT.i0_eq_t hc205) ?_
                            refine QTri.steps Ad W 1 (st' := (252, [none, none, none, none, none, none, some (.ref 0), none, none, vI (if (if x2 < (0 : Int32) then (0 : Int32) else (if (1 : Int32) < x2 then (0 : Int32) else (if x3 < (0 : Int32) then (0 : Int32) else (if (15 : Int32) < x3 then (0 : Int32) else (if x4 < (0 : Int32) then (0 : Int32) else (if (1 : Int32) < x4 then (0 : Int32) else (if x5 < (0 : Int32) then (0 : Int32) else (if (1 : Int32) < x5 then (0 : Int32) else (1 : Int32))))))))) = (0 : Int32) then (0 : Int32) else (if x2 = (1 : Int32) then (1 : Int32) else (0 : Int32)))], [.int (0 : Int32), .int r202], (H0 r156.2))) rfl ?_
                            exact QTri.mask [false, false, false, false, false, false, false, false, false, false] (K204 _ (if_pos hc205).symm)
                          · refine QTri.brF Ad W (t := 251) (f := 247) (L := [none, none, none, none, none, none, some (.ref 0), none, none, vI (if (if x2 < (0 : Int32) then (0 : Int32) else (if (1 : Int32) < x2 then (0 : Int32) else (if x3 < (0 : Int32) then (0 : Int32) else (if (15 : Int32) < x3 then (0 : Int32) else (if x4 < (0 : Int32) then (0 : Int32) else (if (1 : Int32) < x4 then (0 : Int32) else (if x5 < (0 : Int32) then (0 : Int32) else (if (1 : Int32) < x5 then (0 : Int32) else (1 : Int32))))))))) = (0 : Int32) then (0 : Int32) else (if x2 = (1 : Int32) then (1 : Int32) else (0 : Int32)))]) (S := [.int r202]) (σ := (H0 r156.2)) rfl (XT.i0_eq_f hc205) ?_
                            refine QTri.steps Ad W 2 (st' := (252, [none, none, none, none, none, none, some (.ref 0), none, none, vI (if (if x2 < (0 : Int32) then (0 : Int32) else (if (1 : Int32) < x2 then (0 : Int32) else (if x3 < (0 : Int32) then (0 : Int32) else (if (15 : Int32) < x3 then (0 : Int32) else (if x4 < (0 : Int32) then (0 : Int32) else (if (1 : Int32) < x4 then (0 : Int32) else (if x5 < (0 : Int32) then (0 : Int32) else (if (1 : Int32) < x5 then (0 : Int32) else (1 : Int32))))))))) = (0 : Int32) then (0 : Int32) else (if x2 = (1 : Int32) then (1 : Int32) else (0 : Int32)))], [.int (2 : Int32), .int r202], (H0 r156.2))) rfl ?_
                            exact QTri.mask [false, false, false, false, false, false, false, false, false, false] (K204 _ (if_neg hc205).symm)
                        · refine QTri.brF Ad W (t := 235) (f := 233) (L := [none, none, none, none, none, none, some (.ref 0), none, none, vI (if (if x2 < (0 : Int32) then (0 : Int32) else (if (1 : Int32) < x2 then (0 : Int32) else (if x3 < (0 : Int32) then (0 : Int32) else (if (15 : Int32) < x3 then (0 : Int32) else (if x4 < (0 : Int32) then (0 : Int32) else (if (1 : Int32) < x4 then (0 : Int32) else (if x5 < (0 : Int32) then (0 : Int32) else (if (1 : Int32) < x5 then (0 : Int32) else (1 : Int32))))))))) = (0 : Int32) then (0 : Int32) else (if x2 = (1 : Int32) then (1 : Int32) else (0 : Int32)))]) (S := []) (σ := (H0 r156.2)) rfl (XT.ii_eq_f hc201) ?_
                          refine QTri.steps Ad W 1 (st' := (234, [none, none, none, none, none, none, some (.ref 0), none, none, vI (if (if x2 < (0 : Int32) then (0 : Int32) else (if (1 : Int32) < x2 then (0 : Int32) else (if x3 < (0 : Int32) then (0 : Int32) else (if (15 : Int32) < x3 then (0 : Int32) else (if x4 < (0 : Int32) then (0 : Int32) else (if (1 : Int32) < x4 then (0 : Int32) else (if x5 < (0 : Int32) then (0 : Int32) else (if (1 : Int32) < x5 then (0 : Int32) else (1 : Int32))))))))) = (0 : Int32) then (0 : Int32) else (if x2 = (1 : Int32) then (1 : Int32) else (0 : Int32)))], [.int (0 : Int32)], (H0 r156.2))) rfl ?_
                          obtain rfl := Option.some.inj h
                          exact QTri.retZ rfl rfl
                      rcases Classical.em ((if (if x2 < (0 : Int32) then (0 : Int32) else (if (1 : Int32) < x2 then (0 : Int32) else (if x3 < (0 : Int32) then (0 : Int32) else (if (15 : Int32) < x3 then (0 : Int32) else (if x4 < (0 : Int32) then (0 : Int32) else (if (1 : Int32) < x4 then (0 : Int32) else (if x5 < (0 : Int32) then (0 : Int32) else (if (1 : Int32) < x5 then (0 : Int32) else (1 : Int32))))))))) = (0 : Int32) then (0 : Int32) else (if x2 = (0 : Int32) then (1 : Int32) else (0 : Int32))) = (0 : Int32)) with hc200 | hc200
                      · refine QTri.brT Ad W (t := 229) (f := 224) (L := [none, none, none, none, vI x4, none, some (.ref 0), none, vI (if (if x2 < (0 : Int32) then (0 : Int32) else (if (1 : Int32) < x2 then (0 : Int32) else (if x3 < (0 : Int32) then (0 : Int32) else (if (15 : Int32) < x3 then (0 : Int32) else (if x4 < (0 : Int32) then (0 : Int32) else (if (1 : Int32) < x4 then (0 : Int32) else (if x5 < (0 : Int32) then (0 : Int32) else (if (1 : Int32) < x5 then (0 : Int32) else (1 : Int32))))))))) = (0 : Int32) then (0 : Int32) else (if x2 = (0 : Int32) then (1 : Int32) else (0 : Int32))), vI (if (if x2 < (0 : Int32) then (0 : Int32) else (if (1 : Int32) < x2 then (0 : Int32) else (if x3 < (0 : Int32) then (0 : Int32) else (if (15 : Int32) < x3 then (0 : Int32) else (if x4 < (0 : Int32) then (0 : Int32) else (if (1 : Int32) < x4 then (0 : Int32) else (if x5 < (0 : Int32) then (0 : Int32) else (if (1 : Int32) < x5 then (0 : Int32) else (1 : Int32))))))))) = (0 : Int32) then (0 : Int32) else (if x2 = (1 : Int32) then (1 : Int32) else (0 : Int32)))]) (S := [.int r197]) (σ := (H0 r156.2)) rfl (XT.i0_eq_t hc200) ?_
                        refine QTri.steps Ad W 1 (st' := (230, [none, none, none, none, vI x4, none, some (.ref 0), none, vI (if (if x2 < (0 : Int32) then (0 : Int32) else (if (1 : Int32) < x2 then (0 : Int32) else (if x3 < (0 : Int32) then (0 : Int32) else (if (15 : Int32) < x3 then (0 : Int32) else (if x4 < (0 : Int32) then (0 : Int32) else (if (1 : Int32) < x4 then (0 : Int32) else (if x5 < (0 : Int32) then (0 : Int32) else (if (1 : Int32) < x5 then (0 : Int32) else (1 : Int32))))))))) = (0 : Int32) then (0 : Int32) else (if x2 = (0 : Int32) then (1 : Int32) else (0 : Int32))), vI (if (if x2 < (0 : Int32) then (0 : Int32) else (if (1 : Int32) < x2 then (0 : Int32) else (if x3 < (0 : Int32) then (0 : Int32) else (if (15 : Int32) < x3 then (0 : Int32) else (if x4 < (0 : Int32) then (0 : Int32) else (if (1 : Int32) < x4 then (0 : Int32) else (if x5 < (0 : Int32) then (0 : Int32) else (if (1 : Int32) < x5 then (0 : Int32) else (1 : Int32))))))))) = (0 : Int32) then (0 : Int32) else (if x2 = (1 : Int32) then (1 : Int32) else (0 : Int32)))], [.int (1 : Int32), .int r197], (H0 r156.2))) rfl ?_
                        exact QTri.mask [false, false, false, false, false, false, true, false, false, true] (K199 _ (if_pos hc200).symm)
                      · refine QTri.brF Ad W (t := 229) (f := 224) (L := [none, none, none, none, vI x4, none, some (.ref 0), none, vI (if (if x2 < (0 : Int32) then (0 : Int32) else (if (1 : Int32) < x2 then (0 : Int32) else (if x3 < (0 : Int32) then (0 : Int32) else (if (15 : Int32) < x3 then (0 : Int32) else (if x4 < (0 : Int32) then (0 : Int32) else (if (1 : Int32) < x4 then (0 : Int32) else (if x5 < (0 : Int32) then (0 : Int32) else (if (1 : Int32) < x5 then (0 : Int32) else (1 : Int32))))))))) = (0 : Int32) then (0 : Int32) else (if x2 = (0 : Int32) then (1 : Int32) else (0 : Int32))), vI (if (if x2 < (0 : Int32) then (0 : Int32) else (if (1 : Int32) < x2 then (0 : Int32) else (if x3 < (0 : Int32) then (0 : Int32) else (if (15 : Int32) < x3 then (0 : Int32) else (if x4 < (0 : Int32) then (0 : Int32) else (if (1 : Int32) < x4 then (0 : Int32) else (if x5 < (0 : Int32) then (0 : Int32) else (if (1 : Int32) < x5 then (0 : Int32) else (1 : Int32))))))))) = (0 : Int32) then (0 : Int32) else (if x2 = (1 : Int32) then (1 : Int32) else (0 : Int32)))]) (S := [.int r197]) (σ := (H0 r156.2)) rfl (XT.i0_eq_f hc200) ?_
                        refine QTri.steps Ad W 2 (st' := (230, [none, none, none, none, vI x4, none, some (.ref 0), none, vI (if (if x2 < (0 : Int32) then (0 : Int32) else (if (1 : Int32) < x2 then (0 : Int32) else (if x3 < (0 : Int32) then (0 : Int32) else (if (15 : Int32) < x3 then (0 : Int32) else (if x4 < (0 : Int32) then (0 : Int32) else (if (1 : Int32) < x4 then (0 : Int32) else (if x5 < (0 : Int32) then (0 : Int32) else (if (1 : Int32) < x5 then (0 : Int32) else (1 : Int32))))))))) = (0 : Int32) then (0 : Int32) else (if x2 = (0 : Int32) then (1 : Int32) else (0 : Int32))), vI (if (if x2 < (0 : Int32) then (0 : Int32) else (if (1 : Int32) < x2 then (0 : Int32) else (if x3 < (0 : Int32) then (0 : Int32) else (if (15 : Int32) < x3 then (0 : Int32) else (if x4 < (0 : Int32) then (0 : Int32) else (if (1 : Int32) < x4 then (0 : Int32) else (if x5 < (0 : Int32) then (0 : Int32) else (if (1 : Int32) < x5 then (0 : Int32) else (1 : Int32))))))))) = (0 : Int32) then (0 : Int32) else (if x2 = (1 : Int32) then (1 : Int32) else (0 : Int32)))], [.int x4, .int r197], (H0 r156.2))) rfl ?_
                        exact QTri.mask [false, false, false, false, false, false, true, false, false, true] (K199 _ (if_neg hc200).symm)
                    · refine QTri.brF Ad W (t := 211) (f := 209) (L := [none, none, none, none, vI x4, none, some (.ref 0), none, vI (if (if x2 < (0 : Int32) then (0 : Int32) else (if (1 : Int32) < x2 then (0 : Int32) else (if x3 < (0 : Int32) then (0 : Int32) else (if (15 : Int32) < x3 then (0 : Int32) else (if x4 < (0 : Int32) then (0 : Int32) else (if (1 : Int32) < x4 then (0 : Int32) else (if x5 < (0 : Int32) then (0 : Int32) else (if (1 : Int32) < x5 then (0 : Int32) else (1 : Int32))))))))) = (0 : Int32) then (0 : Int32) else (if x2 = (0 : Int32) then (1 : Int32) else (0 : Int32))), vI (if (if x2 < (0 : Int32) then (0 : Int32) else (if (1 : Int32) < x2 then (0 : Int32) else (if x3 < (0 : Int32) then (0 : Int32) else (if (15 : Int32) < x3 then (0 : Int32) else (if x4 < (0 : Int32) then (0 : Int32) else (if (1 : Int32) < x4 then (0 : Int32) else (if x5 < (0 : Int32) then (0 : Int32) else (if (1 : Int32) < x5 then (0 : Int32) else (1 : Int32))))))))) = (0 : Int32) then (0 : Int32) else (if x2 = (1 : Int32) then (1 : Int32) else (0 : Int32)))]) (S := []) (σ := (H0 r156.2)) rfl (XT.ii_eq_f hc196) ?_
                      refine QTri.steps Ad W 1 (st' := (210, [none, none, none, none, vI x4, none, some (.ref 0), none, vI (if (if x2 < (0 : Int32) then (0 : Int32) else (if (1 : Int32) < x2 then (0 : Int32) else (if x3 < (0 : Int32) then (0 : Int32) else (if (15 : Int32) < x3 then (0 : Int32) else (if x4 < (0 : Int32) then (0 : Int32) else (if (1 : Int32) < x4 then (0 : Int32) else (if x5 < (0 : Int32) then (0 : Int32) else (if (1 : Int32) < x5 then (0 : Int32) else (1 : Int32))))))))) = (0 : Int32) then (0 : Int32) else (if x2 = (0 : Int32) then (1 : Int32) else (0 : Int32))), vI (if (if x2 < (0 : Int32) then (0 : Int32) else (if (1 : Int32) < x2 then (0 : Int32) else (if x3 < (0 : Int32) then (0 : Int32) else (if (15 : Int32) < x3 then (0 : Int32) else (if x4 < (0 : Int32) then (0 : Int32) else (if (1 : Int32) < x4 then (0 : Int32) else (if x5 < (0 : Int32) then (0 : Int32) else (if (1 : Int32) < x5 then (0 : Int32) else (1 : Int32))))))))) = (0 : Int32) then (0 : Int32) else (if x2 = (1 : Int32) then (1 : Int32) else (0 : Int32)))], [.int (0 : Int32)], (H0 r156.2))) rfl ?_
                      obtain rfl := Option.some.inj h
                      exact QTri.retZ rfl rfl
                  rcases Classical.em ((if (if x2 < (0 : Int32) then (0 : Int32) else (if (1 : Int32) < x2 then (0 : Int32) else (if x3 < (0 : Int32) then (0 : Int32) else (if (15 : Int32) < x3 then (0 : Int32) else (if x4 < (0 : Int32) then (0 : Int32) else (if (1 : Int32) < x4 then (0 : Int32) else (if x5 < (0 : Int32) then (0 : Int32) else (if (1 : Int32) < x5 then (0 : Int32) else (1 : Int32))))))))) = (0 : Int32) then (0 : Int32) else (if x2 = (0 : Int32) then (1 : Int32) else (0 : Int32))) = (0 : Int32)) with hc195 | hc195
                  · refine QTri.brT Ad W (t := 205) (f := 201) (L := [none, none, none, vI x3, vI x4, none, some (.ref 0), none, vI (if (if x2 < (0 : Int32) then (0 : Int32) else (if (1 : Int32) < x2 then (0 : Int32) else (if x3 < (0 : Int32) then (0 : Int32) else (if (15 : Int32) < x3 then (0 : Int32) else (if x4 < (0 : Int32) then (0 : Int32) else (if (1 : Int32) < x4 then (0 : Int32) else (if x5 < (0 : Int32) then (0 : Int32) else (if (1 : Int32) < x5 then (0 : Int32) else (1 : Int32))))))))) = (0 : Int32) then (0 : Int32) else (if x2 = (0 : Int32) then (1 : Int32) else (0 : Int32))), vI (if (if x2 < (0 : Int32) then (0 : Int32) else (if (1 : Int32) < x2 then (0 : Int32) else (if x3 < (0 : Int32) then (0 : Int32) else (if (15 : Int32) < x3 then (0 : Int32) else (if x4 < (0 : Int32) then (0 : Int32) else (if (1 : Int32) < x4 then (0 : Int32) else (if x5 < (0 : Int32) then (0 : Int32) else (if (1 : Int32) < x5 then (0 : Int32) else (1 : Int32))))))))) = (0 : Int32) then (0 : Int32) else (if x2 = (1 : Int32) then (1 : Int32) else (0 : Int32)))]) (S := [.int r192]) (σ := (H0 r156.2)) rfl (XT.i0_eq_t hc195) ?_
                    refine QTri.steps Ad W 1 (st' := (206, [none, none, none, vI x3, vI x4, none, some (.ref 0), none, vI (if (if x2 < (0 : Int32) then (0 : Int32) else (if (1 : Int32) < x2 then (0 : Int32) else (if x3 < (0 : Int32) then (0 : Int32) else (if (15 : Int32) < x3 then (0 : Int32) else (if x4 < (0 : Int32) then (0 : Int32) else (if (1 : Int32) < x4 then (0 : Int32) else (if x5 < (0 : Int32) then (0 : Int32) else (if (1 : Int32) < x5 then (0 : Int32) else (1 : Int32))))))))) = (0 : Int32) then (0 : Int32) else (if x2 = (0 : Int32) then (1 : Int32) else (0 : Int32))), vI (if (if x2 < (0 : Int32) then (0 : Int32) else (if (1 : Int32) < x2 then (0 : Int32) else (if x3 < (0 : Int32) then (0 : Int32) else (if (15 : Int32) < x3 then (0 : Int32) else (if x4 < (0 : Int32) then (0 : Int32) else (if (1 : Int32) < x4 then (0 : Int32) else (if x5 < (0 : Int32) then (0 : Int32) else (if (1 : Int32) < x5 then (0 : Int32) else (1 : Int32))))))))) = (0 : Int32) then (0 : Int32) else (if x2 = (1 : Int32) then (1 : Int32) else (0 : Int32)))], [.int (0 : Int32), .int r192], (H0 r156.2))) rfl ?_
                    exact QTri.mask [false, false, false, false, true, false, true, false, true, true] (K194 _ (if_pos hc195).symm)
                  · refine QTri.brF Ad W (t := 205) (f := 201) (L := [none, none, none, vI x3, vI x4, none, some (.ref 0), none, vI (if (if x2 < (0 : Int32) then (0 : Int32) else (if (1 : Int32) < x2 then (0 : Int32) else (if x3 < (0 : Int32) then (0 : Int32) else (if (15 : Int32) < x3 then (0 : Int32) else (if x4 < (0 : Int32) then (0 : Int32) else (if (1 : Int32) < x4 then (0 : Int32) else (if x5 < (0 : Int32) then (0 : Int32) else (if (1 : Int32) < x5 then (0 : Int32) else (1 : Int32))))))))) = (0 : Int32) then (0 : Int32) else (if x2 = (0 : Int32) then (1 : Int32) else (0 : Int32))), vI (if (if x2 < (0 : Int32) then (0 : Int32) else (if (1 : Int32) < x2 then (0 : Int32) else (if x3 < (0 : Int32) then (0 : Int32) else (if (15 : Int32) < x3 then (0 : Int32) else (if x4 < (0 : Int32) then (0 : Int32) else (if (1 : Int32) < x4 then (0 : Int32) else (if x5 < (0 : Int32) then (0 : Int32) else (if (1 : Int32) < x5 then (0 : Int32) else (1 : Int32))))))))) = (0 : Int32) then (0 : Int32) else (if x2 = (1 : Int32) then (1 : Int32) else (0 : Int32)))]) (S := [.int r192]) (σ := (H0 r156.2)) rfl (XT.i0_eq_f hc195) ?_
                    refine QTri.steps Ad W 2 (st' := (206, [none, none, none, vI x3, vI x4, none, some (.ref 0), none, vI (if (if x2 < (0 : Int32) then (0 : Int32) else (if (1 : Int32) < x2 then (0 : Int32) else (if x3 < (0 : Int32) then (0 : Int32) else (if (15 : Int32) < x3 then (0 : Int32) else (if x4 < (0 : Int32) then (0 : Int32) else (if (1 : Int32) < x4 then (0 : Int32) else (if x5 < (0 : Int32) then (0 : Int32) else (if (1 : Int32) < x5 then (0 : Int32) else (1 : Int32))))))))) = (0 : Int32) then (0 : Int32) else (if x2 = (0 : Int32) then (1 : Int32) else (0 : Int32))), vI (if (if x2 < (0 : Int32) then (0 : Int32) else (if (1 : Int32) < x2 then (0 : Int32) else (if x3 < (0 : Int32) then (0 : Int32) else (if (15 : Int32) < x3 then (0 : Int32) else (if x4 < (0 : Int32) then (0 : Int32) else (if (1 : Int32) < x4 then (0 : Int32) else (if x5 < (0 : Int32) then (0 : Int32) else (if (1 : Int32) < x5 then (0 : Int32) else (1 : Int32))))))))) = (0 : Int32) then (0 : Int32) else (if x2 = (1 : Int32) then (1 : Int32) else (0 : Int32)))], [.int x3, .int r192], (H0 r156.2))) rfl ?_
                    exact QTri.mask [false, false, false, false, true, false, true, false, true, true] (K194 _ (if_neg hc195).symm)
                · refine QTri.brF Ad W (t := 189) (f := 187) (L := [none, none, none, vI x3, vI x4, none, some (.ref 0), none, vI (if (if x2 < (0 : Int32) then (0 : Int32) else (if (1 : Int32) < x2 then (0 : Int32) else (if x3 < (0 : Int32) then (0 : Int32) else (if (15 : Int32) < x3 then (0 : Int32) else (if x4 < (0 : Int32) then (0 : Int32) else (if (1 : Int32) < x4 then (0 : Int32) else (if x5 < (0 : Int32) then (0 : Int32) else (if (1 : Int32) < x5 then (0 : Int32) else (1 : Int32))))))))) = (0 : Int32) then (0 : Int32) else (if x2 = (0 : Int32) then (1 : Int32) else (0 : Int32))), vI (if (if x2 < (0 : Int32) then (0 : Int32) else (if (1 : Int32) < x2 then (0 : Int32) else (if x3 < (0 : Int32) then (0 : Int32) else (if (15 : Int32) < x3 then (0 : Int32) else (if x4 < (0 : Int32) then (0 : Int32) else (if (1 : Int32) < x4 then (0 : Int32) else (if x5 < (0 : Int32) then (0 : Int32) else (if (1 : Int32) < x5 then (0 : Int32) else (1 : Int32))))))))) = (0 : Int32) then (0 : Int32) else (if x2 = (1 : Int32) then (1 : Int32) else (0 : Int32)))]) (S := []) (σ := (H0 r156.2)) rfl (XT.ii_eq_f hc191) ?_
                  refine QTri.steps Ad W 1 (st' := (188, [none, none, none, vI x3, vI x4, none, some (.ref 0), none, vI (if (if x2 < (0 : Int32) then (0 : Int32) else (if (1 : Int32) < x2 then (0 : Int32) else (if x3 < (0 : Int32) then (0 : Int32) else (if (15 : Int32) < x3 then (0 : Int32) else (if x4 < (0 : Int32) then (0 : Int32) else (if (1 : Int32) < x4 then (0 : Int32) else (if x5 < (0 : Int32) then (0 : Int32) else (if (1 : Int32) < x5 then (0 : Int32) else (1 : Int32))))))))) = (0 : Int32) then (0 : Int32) else (if x2 = (0 : Int32) then (1 : Int32) else (0 : Int32))), vI (if (if x2 < (0 : Int32) then (0 : Int32) else (if (1 : Int32) < x2 then (0 : Int32) else (if x3 < (0 : Int32) then (0 : Int32) else (if (15 : Int32) < x3 then (0 : Int32) else (if x4 < (0 : Int32) then (0 : Int32) else (if (1 : Int32) < x4 then (0 : Int32) else (if x5 < (0 : Int32) then (0 : Int32) else (if (1 : Int32) < x5 then (0 : Int32) else (1 : Int32))))))))) = (0 : Int32) then (0 : Int32) else (if x2 = (1 : Int32) then (1 : Int32) else (0 : Int32)))], [.int (0 : Int32)], (H0 r156.2))) rfl ?_
                  obtain rfl := Option.some.inj h
                  exact QTri.retZ rfl rfl
              rcases Classical.em ((if (if x2 < (0 : Int32) then (0 : Int32) else (if (1 : Int32) < x2 then (0 : Int32) else (if x3 < (0 : Int32) then (0 : Int32) else (if (15 : Int32) < x3 then (0 : Int32) else (if x4 < (0 : Int32) then (0 : Int32) else (if (1 : Int32) < x4 then (0 : Int32) else (if x5 < (0 : Int32) then (0 : Int32) else (if (1 : Int32) < x5 then (0 : Int32) else (1 : Int32))))))))) = (0 : Int32) then (0 : Int32) else (if x2 = (0 : Int32) then (1 : Int32) else (0 : Int32))) = (0 : Int32)) with hc190 | hc190
              · refine QTri.brT Ad W (t := 183) (f := 179) (L := [none, none, none, vI x3, vI x4, none, some (.ref 0), none, vI (if (if x2 < (0 : Int32) then (0 : Int32) else (if (1 : Int32) < x2 then (0 : Int32) else (if x3 < (0 : Int32) then (0 : Int32) else (if (15 : Int32) < x3 then (0 : Int32) else (if x4 < (0 : Int32) then (0 : Int32) else (if (1 : Int32) < x4 then (0 : Int32) else (if x5 < (0 : Int32) then (0 : Int32) else (if (1 : Int32) < x5 then (0 : Int32) else (1 : Int32))))))))) = (0 : Int32) then (0 : Int32) else (if x2 = (0 : Int32) then (1 : Int32) else (0 : Int32))), vI (if (if x2 < (0 : Int32) then (0 : Int32) else (if (1 : Int32) < x2 then (0 : Int32) else (if x3 < (0 : Int32) then (0 : Int32) else (if (15 : Int32) < x3 then (0 : Int32) else (if x4 < (0 : Int32) then (0 : Int32) else (if (1 : Int32) < x4 then (0 : Int32) else (if x5 < (0 : Int32) then (0 : Int32) else (if (1 : Int32) < x5 then (0 : Int32) else (1 : Int32))))))))) = (0 : Int32) then (0 : Int32) else (if x2 = (1 : Int32) then (1 : Int32) else (0 : Int32)))]) (S := [.int r187]) (σ := (H0 r156.2)) rfl (XT.i0_eq_t hc190) ?_
                refine QTri.steps Ad W 1 (st' := (184, [none, none, none, vI x3, vI x4, none, some (.ref 0), none, vI (if (if x2 < (0 : Int32) then (0 : Int32) else (if (1 : Int32) < x2 then (0 : Int32) else (if x3 < (0 : Int32) then (0 : Int32) else (if (15 : Int32) < x3 then (0 : Int32) else (if x4 < (0 : Int32) then (0 : Int32) else (if (1 : Int32) < x4 then (0 : Int32) else (if x5 < (0 : Int32) then (0 : Int32) else (if (1 : Int32) < x5 then (0 : Int32) else (1 : Int32))))))))) = (0 : Int32) then (0 : Int32) else (if x2 = (0 : Int32) then (1 : Int32) else (0 : Int32))), vI (if (if x2 < (0 : Int32) then (0 : Int32) else (if (1 : Int32) < x2 then (0 : Int32) else (if x3 < (0 : Int32) then (0 : Int32) else (if (15 : Int32) < x3 then (0 : Int32) else (if x4 < (0 : Int32) then (0 : Int32) else (if (1 : Int32) < x4 then (0 : Int32) else (if x5 < (0 : Int32) then (0 : Int32) else (if (1 : Int32) < x5 then (0 : Int32) else (1 : Int32))))))))) = (0 : Int32) then (0 : Int32) else (if x2 = (1 : Int32) then (1 : Int32) else (0 : Int32)))], [.int (1 : Int32), .int r187], (H0 r156.2))) rfl ?_
                exact QTri.mask [false, false, false, true, true, false, true, false, true, true] (K189 _ (if_pos hc190).symm)
              · refine QTri.brF Ad W (t := 183) (f := 179) (L := [none, none, none, vI x3, vI x4, none, some (.ref 0), none, vI (if (if x2 < (0 : Int32) then (0 : Int32) else (if (1 : Int32) < x2 then (0 : Int32) else (if x3 < (0 : Int32) then (0 : Int32) else (if (15 : Int32) < x3 then (0 : Int32) else (if x4 < (0 : Int32) then (0 : Int32) else (if (1 : Int32) < x4 then (0 : Int32) else (if x5 < (0 : Int32) then (0 : Int32) else (if (1 : Int32) < x5 then (0 : Int32) else (1 : Int32))))))))) = (0 : Int32) then (0 : Int32) else (if x2 = (0 : Int32) then (1 : Int32) else (0 : Int32))), vI (if (if x2 < (0 : Int32) then (0 : Int32) else (if (1 : Int32) < x2 then (0 : Int32) else (if x3 < (0 : Int32) then (0 : Int32) else (if (15 : Int32) < x3 then (0 : Int32) else (if x4 < (0 : Int32) then (0 : Int32) else (if (1 : Int32) < x4 then (0 : Int32) else (if x5 < (0 : Int32) then (0 : Int32) else (if (1 : Int32) < x5 then (0 : Int32) else (1 : Int32))))))))) = (0 : Int32) then (0 : Int32) else (if x2 = (1 : Int32) then (1 : Int32) else (0 : Int32)))]) (S := [.int r187]) (σ := (H0 r156.2)) rfl (XT.i0_eq_f hc190) ?_
                refine QTri.steps Ad W 2 (st' := (184, [none, none, none, vI x3, vI x4, none, some (.ref 0), none, vI (if (if x2 < (0 : Int32) then (0 : Int32) else (if (1 : Int32) < x2 then (0 : Int32) else (if x3 < (0 : Int32) then (0 : Int32) else (if (15 : Int32) < x3 then (0 : Int32) else (if x4 < (0 : Int32) then (0 : Int32) else (if (1 : Int32) < x4 then (0 : Int32) else (if x5 < (0 : Int32) then (0 : Int32) else (if (1 : Int32) < x5 then (0 : Int32) else (1 : Int32))))))))) = (0 : Int32) then (0 : Int32) else (if x2 = (0 : Int32) then (1 : Int32) else (0 : Int32))), vI (if (if x2 < (0 : Int32) then (0 : Int32) else (if (1 : Int32) < x2 then (0 : Int32) else (if x3 < (0 : Int32) then (0 : Int32) else (if (15 : Int32) < x3 then (0 : Int32) else (if x4 < (0 : Int32) then (0 : Int32) else (if (1 : Int32) < x4 then (0 : Int32) else (if x5 < (0 : Int32) then (0 : Int32) else (if (1 : Int32) < x5 then (0 : Int32) else (1 : Int32))))))))) = (0 : Int32) then (0 : Int32) else (if x2 = (1 : Int32) then (1 : Int32) else (0 : Int32)))], [.int (2 : Int32), .int r187], (H0 r156.2))) rfl ?_
                exact QTri.mask [false, false, false, true, true, false, true, false, true, true] (K189 _ (if_neg hc190).symm)
            · refine QTri.brF Ad W (t := 167) (f := 165) (L := [none, none, none, vI x3, vI x4, none, some (.ref 0), none, vI (if (if x2 < (0 : Int32) then (0 : Int32) else (if (1 : Int32) < x2 then (0 : Int32) else (if x3 < (0 : Int32) then (0 : Int32) else (if (15 : Int32) < x3 then (0 : Int32) else (if x4 < (0 : Int32) then (0 : Int32) else (if (1 : Int32) < x4 then (0 : Int32) else (if x5 < (0 : Int32) then (0 : Int32) else (if (1 : Int32) < x5 then (0 : Int32) else (1 : Int32))))))))) = (0 : Int32) then (0 : Int32) else (if x2 = (0 : Int32) then (1 : Int32) else (0 : Int32))), vI (if (if x2 < (0 : Int32) then (0 : Int32) else (if (1 : Int32) < x2 then (0 : Int32) else (if x3 < (0 : Int32) then (0 : Int32) else (if (15 : Int32) < x3 then (0 : Int32) else (if x4 < (0 : Int32) then (0 : Int32) else (if (1 : Int32) < x4 then (0 : Int32) else (if x5 < (0 : Int32) then (0 : Int32) else (if (1 : Int32) < x5 then (0 : Int32) else (1 : Int32))))))))) = (0 : Int32) then (0 : Int32) else (if x2 = (1 : Int32) then (1 : Int32) else (0 : Int32)))]) (S := []) (σ := (H0 r156.2)) rfl (XT.ii_eq_f hc168) ?_
              refine QTri.steps Ad W 1 (st' := (166, [none, none, none, vI x3, vI x4, none, some (.ref 0), none, vI (if (if x2 < (0 : Int32) then (0 : Int32) else (if (1 : Int32) < x2 then (0 : Int32) else (if x3 < (0 : Int32) then (0 : Int32) else (if (15 : Int32) < x3 then (0 : Int32) else (if x4 < (0 : Int32) then (0 : Int32) else (if (1 : Int32) < x4 then (0 : Int32) else (if x5 < (0 : Int32) then (0 : Int32) else (if (1 : Int32) < x5 then (0 : Int32) else (1 : Int32))))))))) = (0 : Int32) then (0 : Int32) else (if x2 = (0 : Int32) then (1 : Int32) else (0 : Int32))), vI (if (if x2 < (0 : Int32) then (0 : Int32) else (if (1 : Int32) < x2 then (0 : Int32) else (if x3 < (0 : Int32) then (0 : Int32) else (if (15 : Int32) < x3 then (0 : Int32) else (if x4 < (0 : Int32) then (0 : Int32) else (if (1 : Int32) < x4 then (0 : Int32) else (if x5 < (0 : Int32) then (0 : Int32) else (if (1 : Int32) < x5 then (0 : Int32) else (1 : Int32))))))))) = (0 : Int32) then (0 : Int32) else (if x2 = (1 : Int32) then (1 : Int32) else (0 : Int32)))], [.int (0 : Int32)], (H0 r156.2))) rfl ?_
              obtain rfl := Option.some.inj h
              exact QTri.retZ rfl rfl
          rcases Classical.em ((if x2 < (0 : Int32) then (0 : Int32) else (if (1 : Int32) < x2 then (0 : Int32) else (if x3 < (0 : Int32) then (0 : Int32) else (if (15 : Int32) < x3 then (0 : Int32) else (if x4 < (0 : Int32) then (0 : Int32) else (if (1 : Int32) < x4 then (0 : Int32) else (if x5 < (0 : Int32) then (0 : Int32) else (if (1 : Int32) < x5 then (0 : Int32) else (1 : Int32))))))))) = (0 : Int32)) with hc167 | hc167
          · refine QTri.brT Ad W (t := 161) (f := 157) (L := [none, none, vI x2, vI x3, vI x4, vI x5, some (.ref 0), vI (if x2 < (0 : Int32) then (0 : Int32) else (if (1 : Int32) < x2 then (0 : Int32) else (if x3 < (0 : Int32) then (0 : Int32) else (if (15 : Int32) < x3 then (0 : Int32) else (if x4 < (0 : Int32) then (0 : Int32) else (if (1 : Int32) < x4 then (0 : Int32) else (if x5 < (0 : Int32) then (0 : Int32) else (if (1 : Int32) < x5 then (0 : Int32) else (1 : Int32))))))))), vI (if (if x2 < (0 : Int32) then (0 : Int32) else (if (1 : Int32) < x2 then (0 : Int32) else (if x3 < (0 : Int32) then (0 : Int32) else (if (15 : Int32) < x3 then (0 : Int32) else (if x4 < (0 : Int32) then (0 : Int32) else (if (1 : Int32) < x4 then (0 : Int32) else (if x5 < (0 : Int32) then (0 : Int32) else (if (1 : Int32) < x5 then (0 : Int32) else (1 : Int32))))))))) = (0 : Int32) then (0 : Int32) else (if x2 = (0 : Int32) then (1 : Int32) else (0 : Int32))), vI (if (if x2 < (0 : Int32) then (0 : Int32) else (if (1 : Int32) < x2 then (0 : Int32) else (if x3 < (0 : Int32) then (0 : Int32) else (if (15 : Int32) < x3 then (0 : Int32) else (if x4 < (0 : Int32) then (0 : Int32) else (if (1 : Int32) < x4 then (0 : Int32) else (if x5 < (0 : Int32) then (0 : Int32) else (if (1 : Int32) < x5 then (0 : Int32) else (1 : Int32))))))))) = (0 : Int32) then (0 : Int32) else (if x2 = (1 : Int32) then (1 : Int32) else (0 : Int32)))]) (S := [.int r164]) (σ := (H0 r156.2)) rfl (XT.i0_eq_t hc167) ?_
            refine QTri.steps Ad W 1 (st' := (162, [none, none, vI x2, vI x3, vI x4, vI x5, some (.ref 0), vI (if x2 < (0 : Int32) then (0 : Int32) else (if (1 : Int32) < x2 then (0 : Int32) else (if x3 < (0 : Int32) then (0 : Int32) else (if (15 : Int32) < x3 then (0 : Int32) else (if x4 < (0 : Int32) then (0 : Int32) else (if (1 : Int32) < x4 then (0 : Int32) else (if x5 < (0 : Int32) then (0 : Int32) else (if (1 : Int32) < x5 then (0 : Int32) else (1 : Int32))))))))), vI (if (if x2 < (0 : Int32) then (0 : Int32) else (if (1 : Int32) < x2 then (0 : Int32) else (if x3 < (0 : Int32) then (0 : Int32) else (if (15 : Int32) < x3 then (0 : Int32) else (if x4 < (0 : Int32) then (0 : Int32) else (if (1 : Int32) < x4 then (0 : Int32) else (if x5 < (0 : Int32) then (0 : Int32) else (if (1 : Int32) < x5 then (0 : Int32) else (1 : Int32))))))))) = (0 : Int32) then (0 : Int32) else (if x2 = (0 : Int32) then (1 : Int32) else (0 : Int32))), vI (if (if x2 < (0 : Int32) then (0 : Int32) else (if (1 : Int32) < x2 then (0 : Int32) else (if x3 < (0 : Int32) then (0 : Int32) else (if (15 : Int32) < x3 then (0 : Int32) else (if x4 < (0 : Int32) then (0 : Int32) else (if (1 : Int32) < x4 then (0 : Int32) else (if x5 < (0 : Int32) then (0 : Int32) else (if (1 : Int32) < x5 then (0 : Int32) else (1 : Int32))))))))) = (0 : Int32) then (0 : Int32) else (if x2 = (1 : Int32) then (1 : Int32) else (0 : Int32)))], [.int (1 : Int32), .int r164], (H0 r156.2))) rfl ?_
            exact QTri.mask [false, false, false, true, true, false, true, false, true, true] (K166 _ (if_pos hc167).symm)
          · refine QTri.brF Ad W (t := 161) (f := 157) (L := [none, none, vI x2, vI x3, vI x4, vI x5, some (.ref 0), vI (if x2 < (0 : Int32) then (0 : Int32) else (if (1 : Int32) < x2 then (0 : Int32) else (if x3 < (0 : Int32) then (0 : Int32) else (if (15 : Int32) < x3 then (0 : Int32) else (if x4 < (0 : Int32) then (0 : Int32) else (if (1 : Int32) < x4 then (0 : Int32) else (if x5 < (0 : Int32) then (0 : Int32) else (if (1 : Int32) < x5 then (0 : Int32) else (1 : Int32))))))))), vI (if (if x2 < (0 : Int32) then (0 : Int32) else (if (1 : Int32) < x2 then (0 : Int32) else (if x3 < (0 : Int32) then (0 : Int32) else (if (15 : Int32) < x3 then (0 : Int32) else (if x4 < (0 : Int32) then (0 : Int32) else (if (1 : Int32) < x4 then (0 : Int32) else (if x5 < (0 : Int32) then (0 : Int32) else (if (1 : Int32) < x5 then (0 : Int32) else (1 : Int32))))))))) = (0 : Int32) then (0 : Int32) else (if x2 = (0 : Int32) then (1 : Int32) else (0 : Int32))), vI (if (if x2 < (0 : Int32) then (0 : Int32) else (if (1 : Int32) < x2 then (0 : Int32) else (if x3 < (0 : Int32) then (0 : Int32) else (if (15 : Int32) < x3 then (0 : Int32) else (if x4 < (0 : Int32) then (0 : Int32) else (if (1 : Int32) < x4 then (0 : Int32) else (if x5 < (0 : Int32) then (0 : Int32) else (if (1 : Int32) < x5 then (0 : Int32) else (1 : Int32))))))))) = (0 : Int32) then (0 : Int32) else (if x2 = (1 : Int32) then (1 : Int32) else (0 : Int32)))]) (S := [.int r164]) (σ := (H0 r156.2)) rfl (XT.i0_eq_f hc167) ?_
            refine QTri.steps Ad W 2 (st' := (162, [none, none, vI x2, vI x3, vI x4, vI x5, some (.ref 0), vI (if x2 < (0 : Int32) then (0 : Int32) else (if (1 : Int32) < x2 then (0 : Int32) else (if x3 < (0 : Int32) then (0 : Int32) else (if (15 : Int32) < x3 then (0 : Int32) else (if x4 < (0 : Int32) then (0 : Int32) else (if (1 : Int32) < x4 then (0 : Int32) else (if x5 < (0 : Int32) then (0 : Int32) else (if (1 : Int32) < x5 then (0 : Int32) else (1 : Int32))))))))), vI (if (if x2 < (0 : Int32) then (0 : Int32) else (if (1 : Int32) < x2 then (0 : Int32) else (if x3 < (0 : Int32) then (0 : Int32) else (if (15 : Int32) < x3 then (0 : Int32) else (if x4 < (0 : Int32) then (0 : Int32) else (if (1 : Int32) < x4 then (0 : Int32) else (if x5 < (0 : Int32) then (0 : Int32) else (if (1 : Int32) < x5 then (0 : Int32) else (1 : Int32))))))))) = (0 : Int32) then (0 : Int32) else (if x2 = (0 : Int32) then (1 : Int32) else (0 : Int32))), vI (if (if x2 < (0 : Int32) then (0 : Int32) else (if (1 : Int32) < x2 then (0 : Int32) else (if x3 < (0 : Int32) then (0 : Int32) else (if (15 : Int32) < x3 then (0 : Int32) else (if x4 < (0 : Int32) then (0 : Int32) else (if (1 : Int32) < x4 then (0 : Int32) else (if x5 < (0 : Int32) then (0 : Int32) else (if (1 : Int32) < x5 then (0 : Int32) else (1 : Int32))))))))) = (0 : Int32) then (0 : Int32) else (if x2 = (1 : Int32) then (1 : Int32) else (0 : Int32)))], [.int (0 : Int32), .int r164], (H0 r156.2))) rfl ?_
            exact QTri.mask [false, false, false, true, true, false, true, false, true, true] (K166 _ (if_neg hc167).symm)
        · refine QTri.brF Ad W (t := 145) (f := 143) (L := [none, none, vI x2, vI x3, vI x4, vI x5, some (.ref 0), vI (if x2 < (0 : Int32) then (0 : Int32) else (if (1 : Int32) < x2 then (0 : Int32) else (if x3 < (0 : Int32) then (0 : Int32) else (if (15 : Int32) < x3 then (0 : Int32) else (if x4 < (0 : Int32) then (0 : Int32) else (if (1 : Int32) < x4 then (0 : Int32) else (if x5 < (0 : Int32) then (0 : Int32) else (if (1 : Int32) < x5 then (0 : Int32) else (1 : Int32))))))))), vI (if (if x2 < (0 : Int32) then (0 : Int32) else (if (1 : Int32) < x2 then (0 : Int32) else (if x3 < (0 : Int32) then (0 : Int32) else (if (15 : Int32) < x3 then (0 : Int32) else (if x4 < (0 : Int32) then (0 : Int32) else (if (1 : Int32) < x4 then (0 : Int32) else (if x5 < (0 : Int32) then (0 : Int32) else (if (1 : Int32) < x5 then (0 : Int32) else (1 : Int32))))))))) = (0 : Int32) then (0 : Int32) else (if x2 = (0 : Int32) then (1 : Int32) else (0 : Int32))), vI (if (if x2 < (0 : Int32) then (0 : Int32) else (if (1 : Int32) < x2 then (0 : Int32) else (if x3 < (0 : Int32) then (0 : Int32) else (if (15 : Int32) < x3 then (0 : Int32) else (if x4 < (0 : Int32) then (0 : Int32) else (if (1 : Int32) < x4 then (0 : Int32) else (if x5 < (0 : Int32) then (0 : Int32) else (if (1 : Int32) < x5 then (0 : Int32) else (1 : Int32))))))))) = (0 : Int32) then (0 : Int32) else (if x2 = (1 : Int32) then (1 : Int32) else (0 : Int32)))]) (S := []) (σ := (H0 r156.2)) rfl (XT.ii_eq_f hc157) ?_
          refine QTri.steps Ad W 1 (st' := (144, [none, none, vI x2, vI x3, vI x4, vI x5, some (.ref 0), vI (if x2 < (0 : Int32) then (0 : Int32) else (if (1 : Int32) < x2 then (0 : Int32) else (if x3 < (0 : Int32) then (0 : Int32) else (if (15 : Int32) < x3 then (0 : Int32) else (if x4 < (0 : Int32) then (0 : Int32) else (if (1 : Int32) < x4 then (0 : Int32) else (if x5 < (0 : Int32) then (0 : Int32) else (if (1 : Int32) < x5 then (0 : Int32) else (1 : Int32))))))))), vI (if (if x2 < (0 : Int32) then (0 : Int32) else (if (1 : Int32) < x2 then (0 : Int32) else (if x3 < (0 : Int32) then (0 : Int32) else (if (15 : Int32) < x3 then (0 : Int32) else (if x4 < (0 : Int32) then (0 : Int32) else (if (1 : Int32) < x4 then (0 : Int32) else (if x5 < (0 : Int32) then (0 : Int32) else (if (1 : Int32) < x5 then (0 : Int32) else (1 : Int32))))))))) = (0 : Int32) then (0 : Int32) else (if x2 = (0 : Int32) then (1 : Int32) else (0 : Int32))), vI (if (if x2 < (0 : Int32) then (0 : Int32) else (if (1 : Int32) < x2 then (0 : Int32) else (if x3 < (0 : Int32) then (0 : Int32) else (if (15 : Int32) < x3 then (0 : Int32) else (if x4 < (0 : Int32) then (0 : Int32) else (if (1 : Int32) < x4 then (0 : Int32) else (if x5 < (0 : Int32) then (0 : Int32) else (if (1 : Int32) < x5 then (0 : Int32) else (1 : Int32))))))))) = (0 : Int32) then (0 : Int32) else (if x2 = (1 : Int32) then (1 : Int32) else (0 : Int32)))], [.int (0 : Int32)], (H0 r156.2))) rfl ?_
          obtain rfl := Option.some.inj h
          exact QTri.retZ rfl rfl
      rcases Classical.em ((if x2 < (0 : Int32) then (0 : Int32) else (if (1 : Int32) < x2 then (0 : Int32) else (if x3 < (0 : Int32) then (0 : Int32) else (if (15 : Int32) < x3 then (0 : Int32) else (if x4 < (0 : Int32) then (0 : Int32) else (if (1 : Int32) < x4 then (0 : Int32) else (if x5 < (0 : Int32) then (0 : Int32) else (if (1 : Int32) < x5 then (0 : Int32) else (1 : Int32))))))))) = (0 : Int32)) with hc141 | hc141
      · refine QTri.brT Ad W (t := 124) (f := 115) (L := [none, none, vI x2, vI x3, vI x4, vI x5, some (.ref 0), vI (if x2 < (0 : Int32) then (0 : Int32) else (if (1 : Int32) < x2 then (0 : Int32) else (if x3 < (0 : Int32) then (0 : Int32) else (if (15 : Int32) < x3 then (0 : Int32) else (if x4 < (0 : Int32) then (0 : Int32) else (if (1 : Int32) < x4 then (0 : Int32) else (if x5 < (0 : Int32) then (0 : Int32) else (if (1 : Int32) < x5 then (0 : Int32) else (1 : Int32))))))))), vI (if (if x2 < (0 : Int32) then (0 : Int32) else (if (1 : Int32) < x2 then (0 : Int32) else (if x3 < (0 : Int32) then (0 : Int32) else (if (15 : Int32) < x3 then (0 : Int32) else (if x4 < (0 : Int32) then (0 : Int32) else (if (1 : Int32) < x4 then (0 : Int32) else (if x5 < (0 : Int32) then (0 : Int32) else (if (1 : Int32) < x5 then (0 : Int32) else (1 : Int32))))))))) = (0 : Int32) then (0 : Int32) else (if x2 = (0 : Int32) then (1 : Int32) else (0 : Int32))), none]) (S := []) (σ := (H0 r124.2)) rfl (XT.i0_eq_t hc141) ?_
        refine QTri.steps Ad W 1 (st' := (125, [none, none, vI x2, vI x3, vI x4, vI x5, some (.ref 0), vI (if x2 < (0 : Int32) then (0 : Int32) else (if (1 : Int32) < x2 then (0 : Int32) else (if x3 < (0 : Int32) then (0 : Int32) else (if (15 : Int32) < x3 then (0 : Int32) else (if x4 < (0 : Int32) then (0 : Int32) else (if (1 : Int32) < x4 then (0 : Int32) else (if x5 < (0 : Int32) then (0 : Int32) else (if (1 : Int32) < x5 then (0 : Int32) else (1 : Int32))))))))), vI (if (if x2 < (0 : Int32) then (0 : Int32) else (if (1 : Int32) < x2 then (0 : Int32) else (if x3 < (0 : Int32) then (0 : Int32) else (if (15 : Int32) < x3 then (0 : Int32) else (if x4 < (0 : Int32) then (0 : Int32) else (if (1 : Int32) < x4 then (0 : Int32) else (if x5 < (0 : Int32) then (0 : Int32) else (if (1 : Int32) < x5 then (0 : Int32) else (1 : Int32))))))))) = (0 : Int32) then (0 : Int32) else (if x2 = (0 : Int32) then (1 : Int32) else (0 : Int32))), none], [.int (0 : Int32)], (H0 r124.2))) rfl ?_
        exact QTri.mask [false, false, true, true, true, true, true, true, true, false] (K140 _ (if_pos hc141).symm)
      · refine QTri.brF Ad W (t := 124) (f := 115) (L := [none, none, vI x2, vI x3, vI x4, vI x5, some (.ref 0), vI (if x2 < (0 : Int32) then (0 : Int32) else (if (1 : Int32) < x2 then (0 : Int32) else (if x3 < (0 : Int32) then (0 : Int32) else (if (15 : Int32) < x3 then (0 : Int32) else (if x4 < (0 : Int32) then (0 : Int32) else (if (1 : Int32) < x4 then (0 : Int32) else (if x5 < (0 : Int32) then (0 : Int32) else (if (1 : Int32) < x5 then (0 : Int32) else (1 : Int32))))))))), vI (if (if x2 < (0 : Int32) then (0 : Int32) else (if (1 : Int32) < x2 then (0 : Int32) else (if x3 < (0 : Int32) then (0 : Int32) else (if (15 : Int32) < x3 then (0 : Int32) else (if x4 < (0 : Int32) then (0 : Int32) else (if (1 : Int32) < x4 then (0 : Int32) else (if x5 < (0 : Int32) then (0 : Int32) else (if (1 : Int32) < x5 then (0 : Int32) else (1 : Int32))))))))) = (0 : Int32) then (0 : Int32) else (if x2 = (0 : Int32) then (1 : Int32) else (0 : Int32))), none]) (S := []) (σ := (H0 r124.2)) rfl (XT.i0_eq_f hc141) ?_
        refine QTri.steps Ad W 2 (st' := (117, [none, none, vI x2, vI x3, vI x4, vI x5, some (.ref 0), vI (if x2 < (0 : Int32) then (0 : Int32) else (if (1 : Int32) < x2 then (0 : Int32) else (if x3 < (0 : Int32) then (0 : Int32) else (if (15 : Int32) < x3 then (0 : Int32) else (if x4 < (0 : Int32) then (0 : Int32) else (if (1 : Int32) < x4 then (0 : Int32) else (if x5 < (0 : Int32) then (0 : Int32) else (if (1 : Int32) < x5 then (0 : Int32) else (1 : Int32))))))))), vI (if (if x2 < (0 : Int32) then (0 : Int32) else (if (1 : Int32) < x2 then (0 : Int32) else (if x3 < (0 : Int32) then (0 : Int32) else (if (15 : Int32) < x3 then (0 : Int32) else (if x4 < (0 : Int32) then (0 : Int32) else (if (1 : Int32) < x4 then (0 : Int32) else (if x5 < (0 : Int32) then (0 : Int32) else (if (1 : Int32) < x5 then (0 : Int32) else (1 : Int32))))))))) = (0 : Int32) then (0 : Int32) else (if x2 = (0 : Int32) then (1 : Int32) else (0 : Int32))), none], [.int (1 : Int32), .int x2], (H0 r124.2))) rfl ?_
        rcases Classical.em (x2 = (1 : Int32)) with hc142 | hc142
        · refine QTri.brF Ad W (t := 124) (f := 120) (L := [none, none, vI x2, vI x3, vI x4, vI x5, some (.ref 0), vI (if x2 < (0 : Int32) then (0 : Int32) else (if (1 : Int32) < x2 then (0 : Int32) else (if x3 < (0 : Int32) then (0 : Int32) else (if (15 : Int32) < x3 then (0 : Int32) else (if x4 < (0 : Int32) then (0 : Int32) else (if (1 : Int32) < x4 then (0 : Int32) else (if x5 < (0 : Int32) then (0 : Int32) else (if (1 : Int32) < x5 then (0 : Int32) else (1 : Int32))))))))), vI (if (if x2 < (0 : Int32) then (0 : Int32) else (if (1 : Int32) < x2 then (0 : Int32) else (if x3 < (0 : Int32) then (0 : Int32) else (if (15 : Int32) < x3 then (0 : Int32) else (if x4 < (0 : Int32) then (0 : Int32) else (if (1 : Int32) < x4 then (0 : Int32) else (if x5 < (0 : Int32) then (0 : Int32) else (if (1 : Int32) < x5 then (0 : Int32) else (1 : Int32))))))))) = (0 : Int32) then (0 : Int32) else (if x2 = (0 : Int32) then (1 : Int32) else (0 : Int32))), none]) (S := []) (σ := (H0 r124.2)) rfl (XT.ii_ne_f hc142) ?_
          refine QTri.steps Ad W 2 (st' := (125, [none, none, vI x2, vI x3, vI x4, vI x5, some (.ref 0), vI (if x2 < (0 : Int32) then (0 : Int32) else (if (1 : Int32) < x2 then (0 : Int32) else (if x3 < (0 : Int32) then (0 : Int32) else (if (15 : Int32) < x3 then (0 : Int32) else (if x4 < (0 : Int32) then (0 : Int32) else (if (1 : Int32) < x4 then (0 : Int32) else (if x5 < (0 : Int32) then (0 : Int32) else (if (1 : Int32) < x5 then (0 : Int32) else (1 : Int32))))))))), vI (if (if x2 < (0 : Int32) then (0 : Int32) else (if (1 : Int32) < x2 then (0 : Int32) else (if x3 < (0 : Int32) then (0 : Int32) else (if (15 : Int32) < x3 then (0 : Int32) else (if x4 < (0 : Int32) then (0 : Int32) else (if (1 : Int32) < x4 then (0 : Int32) else (if x5 < (0 : Int32) then (0 : Int32) else (if (1 : Int32) < x5 then (0 : Int32) else (1 : Int32))))))))) = (0 : Int32) then (0 : Int32) else (if x2 = (0 : Int32) then (1 : Int32) else (0 : Int32))), none], [.int (1 : Int32)], (H0 r124.2))) rfl ?_
          exact QTri.mask [false, false, true, true, true, true, true, true, true, false] (K140 _ ((if_neg hc141).trans (if_pos hc142)).symm)
        · refine QTri.brT Ad W (t := 124) (f := 120) (L := [none, none, vI x2, vI x3, vI x4, vI x5, some (.ref 0), vI (if x2 < (0 : Int32) then (0 : Int32) else (if (1 : Int32) < x2 then (0 : Int32) else (if x3 < (0 : Int32) then (0 : Int32) else (if (15 : Int32) < x3 then (0 : Int32) else (if x4 < (0 : Int32) then (0 : Int32) else (if (1 : Int32) < x4 then (0 : Int32) else (if x5 < (0 : Int32) then (0 : Int32) else (if (1 : Int32) < x5 then (0 : Int32) else (1 : Int32))))))))), vI (if (if x2 < (0 : Int32) then (0 : Int32) else (if (1 : Int32) < x2 then (0 : Int32) else (if x3 < (0 : Int32) then (0 : Int32) else (if (15 : Int32) < x3 then (0 : Int32) else (if x4 < (0 : Int32) then (0 : Int32) else (if (1 : Int32) < x4 then (0 : Int32) else (if x5 < (0 : Int32) then (0 : Int32) else (if (1 : Int32) < x5 then (0 : Int32) else (1 : Int32))))))))) = (0 : Int32) then (0 : Int32) else (if x2 = (0 : Int32) then (1 : Int32) else (0 : Int32))), none]) (S := []) (σ := (H0 r124.2)) rfl (XT.ii_ne_t hc142) ?_
          refine QTri.steps Ad W 1 (st' := (125, [none, none, vI x2, vI x3, vI x4, vI x5, some (.ref 0), vI (if x2 < (0 : Int32) then (0 : Int32) else (if (1 : Int32) < x2 then (0 : Int32) else (if x3 < (0 : Int32) then (0 : Int32) else (if (15 : Int32) < x3 then (0 : Int32) else (if x4 < (0 : Int32) then (0 : Int32) else (if (1 : Int32) < x4 then (0 : Int32) else (if x5 < (0 : Int32) then (0 : Int32) else (if (1 : Int32) < x5 then (0 : Int32) else (1 : Int32))))))))), vI (if (if x2 < (0 : Int32) then (0 : Int32) else (if (1 : Int32) < x2 then (0 : Int32) else (if x3 < (0 : Int32) then (0 : Int32) else (if (15 : Int32) < x3 then (0 : Int32) else (if x4 < (0 : Int32) then (0 : Int32) else (if (1 : Int32) < x4 then (0 : Int32) else (if x5 < (0 : Int32) then (0 : Int32) else (if (1 : Int32) < x5 then (0 : Int32) else (1 : Int32))))))))) = (0 : Int32) then (0 : Int32) else (if x2 = (0 : Int32) then (1 : Int32) else (0 : Int32))), none], [.int (0 : Int32)], (H0 r124.2))) rfl ?_
          exact QTri.mask [false, false, true, true, true, true, true, true, true, false] (K140 _ ((if_neg hc141).trans (if_neg hc142)).symm)
    rcases Classical.em ((if x2 < (0 : Int32) then (0 : Int32) else (if (1 : Int32) < x2 then (0 : Int32) else (if x3 < (0 : Int32) then (0 : Int32) else (if (15 : Int32) < x3 then (0 : Int32) else (if x4 < (0 : Int32) then (0 : Int32) else (if (1 : Int32) < x4 then (0 : Int32) else (if x5 < (0 : Int32) then (0 : Int32) else (if (1 : Int32) < x5 then (0 : Int32) else (1 : Int32))))))))) = (0 : Int32)) with hc137 | hc137
    · refine QTri.brT Ad W (t := 107) (f := 99) (L := [none, none, vI x2, vI x3, vI x4, vI x5, some (.ref 0), vI (if x2 < (0 : Int32) then (0 : Int32) else (if (1 : Int32) < x2 then (0 : Int32) else (if x3 < (0 : Int32) then (0 : Int32) else (if (15 : Int32) < x3 then (0 : Int32) else (if x4 < (0 : Int32) then (0 : Int32) else (if (1 : Int32) < x4 then (0 : Int32) else (if x5 < (0 : Int32) then (0 : Int32) else (if (1 : Int32) < x5 then (0 : Int32) else (1 : Int32))))))))), none, none]) (S := []) (σ := (H0 r124.2)) rfl (XT.i0_eq_t hc137) ?_
      refine QTri.steps Ad W 1 (st' := (108, [none, none, vI x2, vI x3, vI x4, vI x5, some (.ref 0), vI (if x2 < (0 : Int32) then (0 : Int32) else (if (1 : Int32) < x2 then (0 : Int32) else (if x3 < (0 : Int32) then (0 : Int32) else (if (15 : Int32) < x3 then (0 : Int32) else (if x4 < (0 : Int32) then (0 : Int32) else (if (1 : Int32) < x4 then (0 : Int32) else (if x5 < (0 : Int32) then (0 : Int32) else (if (1 : Int32) < x5 then (0 : Int32) else (1 : Int32))))))))), none, none], [.int (0 : Int32)], (H0 r124.2))) rfl ?_
      exact QTri.mask [false, false, true, true, true, true, true, true, false, false] (K136 _ (if_pos hc137).symm)
    · refine QTri.brF Ad W (t := 107) (f := 99) (L := [none, none, vI x2, vI x3, vI x4, vI x5, some (.ref 0), vI (if x2 < (0 : Int32) then (0 : Int32) else (if (1 : Int32) < x2 then (0 : Int32) else (if x3 < (0 : Int32) then (0 : Int32) else (if (15 : Int32) < x3 then (0 : Int32) else (if x4 < (0 : Int32) then (0 : Int32) else (if (1 : Int32) < x4 then (0 : Int32) else (if x5 < (0 : Int32) then (0 : Int32) else (if (1 : Int32) < x5 then (0 : Int32) else (1 : Int32))))))))), none, none]) (S := []) (σ := (H0 r124.2)) rfl (XT.i0_eq_f hc137) ?_
      refine QTri.steps Ad W 1 (st' := (100, [none, none, vI x2, vI x3, vI x4, vI x5, some (.ref 0), vI (if x2 < (0 : Int32) then (0 : Int32) else (if (1 : Int32) < x2 then (0 : Int32) else (if x3 < (0 : Int32) then (0 : Int32) else (if (15 : Int32) < x3 then (0 : Int32) else (if x4 < (0 : Int32) then (0 : Int32) else (if (1 : Int32) < x4 then (0 : Int32) else (if x5 < (0 : Int32) then (0 : Int32) else (if (1 : Int32) < x5 then (0 : Int32) else (1 : Int32))))))))), none, none], [.int x2], (H0 r124.2))) rfl ?_
      rcases Classical.em (x2 = (0 : Int32)) with hc138 | hc138
      · refine QTri.brF Ad W (t := 107) (f := 103) (L := [none, none, vI x2, vI x3, vI x4, vI x5, some (.ref 0), vI (if x2 < (0 : Int32) then (0 : Int32) else (if (1 : Int32) < x2 then (0 : Int32) else (if x3 < (0 : Int32) then (0 : Int32) else (if (15 : Int32) < x3 then (0 : Int32) else (if x4 < (0 : Int32) then (0 : Int32) else (if (1 : Int32) < x4 then (0 : Int32) else (if x5 < (0 : Int32) then (0 : Int32) else (if (1 : Int32) < x5 then (0 : Int32) else (1 : Int32))))))))), none, none]) (S := []) (σ := (H0 r124.2)) rfl (XT.i0_ne_f hc138) ?_
        refine QTri.steps Ad W 2 (st' := (108, [none, none, vI x2, vI x3, vI x4, vI x5, some (.ref 0), vI (if x2 < (0 : Int32) then (0 : Int32) else (if (1 : Int32) < x2 then (0 : Int32) else (if x3 < (0 : Int32) then (0 : Int32) else (if (15 : Int32) < x3 then (0 : Int32) else (if x4 < (0 : Int32) then (0 : Int32) else (if (1 : Int32) < x4 then (0 : Int32) else (if x5 < (0 : Int32) then (0 : Int32) else (if (1 : Int32) < x5 then (0 : Int32) else (1 : Int32))))))))), none, none], [.int (1 : Int32)], (H0 r124.2))) rfl ?_
        exact QTri.mask [false, false, true, true, true, true, true, true, false, false] (K136 _ ((if_neg hc137).trans (if_pos hc138)).symm)
      · refine QTri.brT Ad W (t := 107) (f := 103) (L := [none, none, vI x2, vI x3, vI x4, vI x5, some (.ref 0), vI (if x2 < (0 : Int32) then (0 : Int32) else (if (1 : Int32) < x2 then (0 : Int32) else (if x3 < (0 : Int32) then (0 : Int32) else (if (15 : Int32) < x3 then (0 : Int32) else (if x4 < (0 : Int32) then (0 : Int32) else (if (1 : Int32) < x4 then (0 : Int32) else (if x5 < (0 : Int32) then (0 : Int32) else (if (1 : Int32) < x5 then (0 : Int32) else (1 : Int32))))))))), none, none]) (S := []) (σ := (H0 r124.2)) rfl (XT.i0_ne_t hc138) ?_
        refine QTri.steps Ad W 1 (st' := (108, [none, none, vI x2, vI x3, vI x4, vI x5, some (.ref 0), vI (if x2 < (0 : Int32) then (0 : Int32) else (if (1 : Int32) < x2 then (0 : Int32) else (if x3 < (0 : Int32) then (0 : Int32) else (if (15 : Int32) < x3 then (0 : Int32) else (if x4 < (0 : Int32) then (0 : Int32) else (if (1 : Int32) < x4 then (0 : Int32) else (if x5 < (0 : Int32) then (0 : Int32) else (if (1 : Int32) < x5 then (0 : Int32) else (1 : Int32))))))))), none, none], [.int (0 : Int32)], (H0 r124.2))) rfl ?_
        exact QTri.mask [false, false, true, true, true, true, true, true, false, false] (K136 _ ((if_neg hc137).trans (if_neg hc138)).symm)
  rcases Classical.em (x2 < (0 : Int32)) with hc127 | hc127
  · refine QTri.brT Ad W (t := 91) (f := 50) (L := [vI x0, vI x1, vI x2, vI x3, vI x4, vI x5, some (.ref 0), none, none, none]) (S := []) (σ := (H0 r124.2)) rfl (XT.i0_lt_t hc127) ?_
    refine QTri.steps Ad W 1 (st' := (92, [vI x0, vI x1, vI x2, vI x3, vI x4, vI x5, some (.ref 0), none, none, none], [.int (0 : Int32)], (H0 r124.2))) rfl ?_
    exact QTri.mask [false, false, true, true, true, true, true, false, false, false] (K126 _ (if_pos hc127).symm)
  · refine QTri.brF Ad W (t := 91) (f := 50) (L := [vI x0, vI x1, vI x2, vI x3, vI x4, vI x5, some (.ref 0), none, none, none]) (S := []) (σ := (H0 r124.2)) rfl (XT.i0_lt_f hc127) ?_
    refine QTri.steps Ad W 2 (st' := (52, [vI x0, vI x1, vI x2, vI x3, vI x4, vI x5, some (.ref 0), none, none, none], [.int (1 : Int32), .int x2], (H0 r124.2))) rfl ?_
    rcases Classical.em ((1 : Int32) < x2) with hc128 | hc128
    · refine QTri.brT Ad W (t := 91) (f := 55) (L := [vI x0, vI x1, vI x2, vI x3, vI x4, vI x5, some (.ref 0), none, none, none]) (S := []) (σ := (H0 r124.2)) rfl (XT.ii_gt_t hc128) ?_
      refine QTri.steps Ad W 1 (st' := (92, [vI x0, vI x1, vI x2, vI x3, vI x4, vI x5, some (.ref 0), none, none, none], [.int (0 : Int32)], (H0 r124.2))) rfl ?_
      exact QTri.mask [false, false, true, true, true, true, true, false, false, false] (K126 _ ((if_neg hc127).trans (if_pos hc128)).symm)
    · refine QTri.brF Ad W (t := 91) (f := 55) (L := [vI x0, vI x1, vI x2, vI x3, vI x4, vI x5, some (.ref 0), none, none, none]) (S := []) (σ := (H0 r124.2)) rfl (XT.ii_gt_f hc128) ?_
      refine QTri.steps Ad W 1 (st' := (56, [vI x0, vI x1, vI x2, vI x3, vI x4, vI x5, some (.ref 0), none, none, none], [.int x3], (H0 r124.2))) rfl ?_
      rcases Classical.em (x3 < (0 : Int32)) with hc129 | hc129
      · refine QTri.brT Ad W (t := 91) (f := 59) (L := [vI x0, vI x1, vI x2, vI x3, vI x4, vI x5, some (.ref 0), none, none, none]) (S := []) (σ := (H0 r124.2)) rfl (XT.i0_lt_t hc129) ?_
        refine QTri.steps Ad W 1 (st' := (92, [vI x0, vI x1, vI x2, vI x3, vI x4, vI x5, some (.ref 0), none, none, none], [.int (0 : Int32)], (H0 r124.2))) rfl ?_
        exact QTri.mask [false, false, true, true, true, true, true, false, false, false] (K126 _ ((if_neg hc127).trans ((if_neg hc128).trans (if_pos hc129))).symm)
      · refine QTri.brF Ad W (t := 91) (f := 59) (L := [vI x0, vI x1, vI x2, vI x3, vI x4, vI x5, some (.ref 0), none, none, none]) (S := []) (σ := (H0 r124.2)) rfl (XT.i0_lt_f hc129) ?_
        refine QTri.steps Ad W 2 (st' := (62, [vI x0, vI x1, vI x2, vI x3, vI x4, vI x5, some (.ref 0), none, none, none], [.int (15 : Int32), .int x3], (H0 r124.2))) rfl ?_
        rcases Classical.em ((15 : Int32) < x3) with hc130 | hc130
        · refine QTri.brT Ad W (t := 91) (f := 65) (L := [vI x0, vI x1, vI x2, vI x3, vI x4, vI x5, some (.ref 0), none, none, none]) (S := []) (σ := (H0 r124.2)) rfl (XT.ii_gt_t hc130) ?_
          refine QTri.steps Ad W 1 (st' := (92, [vI x0, vI x1, vI x2, vI x3, vI x4, vI x5, some (.ref 0), none, none, none], [.int (0 : Int32)], (H0 r124.2))) rfl ?_
          exact QTri.mask [false, false, true, true, true, true, true, false, false, false] (K126 _ ((if_neg hc127).trans ((if_neg hc128).trans ((if_neg hc129).trans (if_pos hc130)))).symm)
        · refine QTri.brF Ad W (t := 91) (f := 65) (L := [vI x0, vI x1, vI x2, vI x3, vI x4, vI x5, some (.ref 0), none, none, none]) (S := []) (σ := (H0 r124.2)) rfl (XT.ii_gt_f hc130) ?_
          refine QTri.steps Ad W 1 (st' := (67, [vI x0, vI x1, vI x2, vI x3, vI x4, vI x5, some (.ref 0), none, none, none], [.int x4], (H0 r124.2))) rfl ?_
          rcases Classical.em (x4 < (0 : Int32)) with hc131 | hc131
          · refine QTri.brT Ad W (t := 91) (f := 70) (L := [vI x0, vI x1, vI x2, vI x3, vI x4, vI x5, some (.ref 0), none, none, none]) (S := []) (σ := (H0 r124.2)) rfl (XT.i0_lt_t hc131) ?_
            refine QTri.steps Ad W 1 (st' := (92, [vI x0, vI x1, vI x2, vI x3, vI x4, vI x5, some (.ref 0), none, none, none], [.int (0 : Int32)], (H0 r124.2))) rfl ?_
            exact QTri.mask [false, false, true, true, true, true, true, false, false, false] (K126 _ ((if_neg hc127).trans ((if_neg hc128).trans ((if_neg hc129).trans ((if_neg hc130).trans (if_pos hc131))))).symm)
          · refine QTri.brF Ad W (t := 91) (f := 70) (L := [vI x0, vI x1, vI x2, vI x3, vI x4, vI x5, some (.ref 0), none, none, none]) (S := []) (σ := (H0 r124.2)) rfl (XT.i0_lt_f hc131) ?_
            refine QTri.steps Ad W 2 (st' := (73, [vI x0, vI x1, vI x2, vI x3, vI x4, vI x5, some (.ref 0), none, none, none], [.int (1 : Int32), .int x4], (H0 r124.2))) rfl ?_
            rcases Classical.em ((1 : Int32) < x4) with hc132 | hc132
            · refine QTri.brT Ad W (t := 91) (f := 76) (L := [vI x0, vI x1, vI x2, vI x3, vI x4, vI x5, some (.ref 0), none, none, none]) (S := []) (σ := (H0 r124.2)) rfl (XT.ii_gt_t hc132) ?_
              refine QTri.steps Ad W 1 (st' := (92, [vI x0, vI x1, vI x2, vI x3, vI x4, vI x5, some (.ref 0), none, none, none], [.int (0 : Int32)], (H0 r124.2))) rfl ?_
              exact QTri.mask [false, false, true, true, true, true, true, false, false, false] (K126 _ ((if_neg hc127).trans ((if_neg hc128).trans ((if_neg hc129).trans ((if_neg hc130).trans ((if_neg hc131).trans (if_pos hc132)))))).symm)
            · refine QTri.brF Ad W (t := 91) (f := 76) (L := [vI x0, vI x1, vI x2, vI x3, vI x4, vI x5, some (.ref 0), none, none, none]) (S := []) (σ := (H0 r124.2)) rfl (XT.ii_gt_f hc132) ?_
              refine QTri.steps Ad W 1 (st' := (78, [vI x0, vI x1, vI x2, vI x3, vI x4, vI x5, some (.ref 0), none, none, none], [.int x5], (H0 r124.2))) rfl ?_
              rcases Classical.em (x5 < (0 : Int32)) with hc133 | hc133
              · refine QTri.brT Ad W (t := 91) (f := 81) (L := [vI x0, vI x1, vI x2, vI x3, vI x4, vI x5, some (.ref 0), none, none, none]) (S := []) (σ := (H0 r124.2)) rfl (XT.i0_lt_t hc133) ?_
                refine QTri.steps Ad W 1 (st' := (92, [vI x0, vI x1, vI x2, vI x3, vI x4, vI x5, some (.ref 0), none, none, none], [.int (0 : Int32)], (H0 r124.2))) rfl ?_
                exact QTri.mask [false, false, true, true, true, true, true, false, false, false] (K126 _ ((if_neg hc127).trans ((if_neg hc128).trans ((if_neg hc129).trans ((if_neg hc130).trans ((if_neg hc131).trans ((if_neg hc132).trans (if_pos hc133))))))).symm)
              · refine QTri.brF Ad W (t := 91) (f := 81) (L := [vI x0, vI x1, vI x2, vI x3, vI x4, vI x5, some (.ref 0), none, none, none]) (S := []) (σ := (H0 r124.2)) rfl (XT.i0_lt_f hc133) ?_
                refine QTri.steps Ad W 2 (st' := (84, [vI x0, vI x1, vI x2, vI x3, vI x4, vI x5, some (.ref 0), none, none, none], [.int (1 : Int32), .int x5], (H0 r124.2))) rfl ?_
                rcases Classical.em ((1 : Int32) < x5) with hc134 | hc134
                · refine QTri.brT Ad W (t := 91) (f := 87) (L := [vI x0, vI x1, vI x2, vI x3, vI x4, vI x5, some (.ref 0), none, none, none]) (S := []) (σ := (H0 r124.2)) rfl (XT.ii_gt_t hc134) ?_
                  refine QTri.steps Ad W 1 (st' := (92, [vI x0, vI x1, vI x2, vI x3, vI x4, vI x5, some (.ref 0), none, none, none], [.int (0 : Int32)], (H0 r124.2))) rfl ?_
                  exact QTri.mask [false, false, true, true, true, true, true, false, false, false] (K126 _ ((if_neg hc127).trans ((if_neg hc128).trans ((if_neg hc129).trans ((if_neg hc130).trans ((if_neg hc131).trans ((if_neg hc132).trans ((if_neg hc133).trans (if_pos hc134)))))))).symm)
                · refine QTri.brF Ad W (t := 91) (f := 87) (L := [vI x0, vI x1, vI x2, vI x3, vI x4, vI x5, some (.ref 0), none, none, none]) (S := []) (σ := (H0 r124.2)) rfl (XT.ii_gt_f hc134) ?_
                  refine QTri.steps Ad W 2 (st' := (92, [vI x0, vI x1, vI x2, vI x3, vI x4, vI x5, some (.ref 0), none, none, none], [.int (1 : Int32)], (H0 r124.2))) rfl ?_
                  exact QTri.mask [false, false, true, true, true, true, true, false, false, false] (K126 _ ((if_neg hc127).trans ((if_neg hc128).trans ((if_neg hc129).trans ((if_neg hc130).trans ((if_neg hc131).trans ((if_neg hc132).trans ((if_neg hc133).trans (if_neg hc134)))))))).symm)
end Walks
/-! ## ints, plainly -/
theorem i_lt {x y : Int32} : x < y ↔ x.toInt < y.toInt := Int32.lt_iff_toInt_lt
theorem i_eq {x y : Int32} : x = y ↔ x.toInt = y.toInt := Int32.toInt_inj.symm
theorem i_lo (x : Int32) : -2147483648 ≤ x.toInt := Int32.le_toInt x
theorem i_hi (x : Int32) : x.toInt < 2147483648 := Int32.toInt_lt x
theorem i_add {x y : Int32} (h1 : -2147483648 ≤ x.toInt + y.toInt) (h2 : x.toInt + y.toInt < 2147483648) : (x + y).toInt = x.toInt + y.toInt := XT.add32 ⟨h1, by omega⟩
theorem i_sub {x y : Int32} (h1 : -2147483648 ≤ x.toInt - y.toInt) (h2 : x.toInt - y.toInt < 2147483648) : (x - y).toInt = x.toInt - y.toInt := XT.sub32 ⟨h1, by omega⟩
theorem i_mul {x y : Int32} (h1 : -2147483648 ≤ x.toInt * y.toInt) (h2 : x.toInt * y.toInt < 2147483648) : (x * y).toInt = x.toInt * y.toInt := XT.mul32 ⟨h1, by omega⟩
theorem i_nat (x : Int32) : x.toNatClampNeg = x.toInt.toNat := rfl
theorem aget_at {α : Type} {xs : List α} {j : Int32} {n : Nat} (hj : j.toInt = n) (hn : n < xs.length) : aget xs j = some xs[n] := by
  have h0 : ¬ j < 0 := by rw [i_lt]; show ¬ j.toInt < 0; omega
  unfold aget
  rw [if_neg h0, i_nat, hj]
  simp [hn]
theorem aget_rep {α : Type} {m : Nat} {a : α} {j : Int32} (h0 : 0 ≤ j.toInt) (h1 : j.toInt < m) : aget (List.replicate m a) j = some a := by
  rw [aget_at (n := j.toInt.toNat) (by omega) (by rw [List.length_replicate]; omega)]
  simp
theorem aset_at {α : Type} {xs : List α} {j : Int32} {n : Nat} {v : α} (hj : j.toInt = n) (hn : n < xs.length) : aset xs j v = some (xs.set n v) := by
  have h0 : ¬ j < 0 := by rw [i_lt]; show ¬ j.toInt < 0; omega
  unfold aset
  have e : j.toNatClampNeg = n := by rw [i_nat, hj]; simp
  rw [if_neg h0, e, if_pos hn]
theorem rep_set {α : Type} (m k : Nat) (a : α) : (List.replicate m a).set k a = List.replicate m a := by
  apply List.ext_getElem (by simp)
  intro i h1 h2
  rw [List.getElem_set]
  split <;> simp
theorem small_cases {x : Int32} (h0 : 0 ≤ x.toInt) {n : Nat} (h1 : x.toInt < n) {P : Int32 → Prop} (h : ∀ m : Nat, m < n → P (Int32.ofInt m)) : P x := by
  have e : Int32.ofInt (x.toInt.toNat : Nat) = x := by
    rw [Int.toNat_of_nonneg h0, Int32.ofInt_toInt]
  rw [← e]
  exact h _ (by omega)
theorem bit_ne {x : Int32} (h0 : 0 ≤ x.toInt) (h1 : x.toInt < 32) : ¬ (((1 : Int32) <<< (x &&& 31)) &&& ((1 : Int32) <<< (x &&& 31))) = 0 :=
  small_cases (P := fun x => ¬ (((1 : Int32) <<< (x &&& 31)) &&& ((1 : Int32) <<< (x &&& 31))) = 0) h0 (n := 32) h1 (by decide)
/-! ## a plain run that succeeds, and what it gives -/
def okP {α : Type} (m : Option α) (P : α → Prop) : Prop := ∃ a, m = some a ∧ P a
theorem okP.some {α : Type} {a : α} {P : α → Prop} (h : P a) : okP (some a) P := ⟨a, rfl, h⟩
theorem okP.bind {α β : Type} {m : Option α} {f : α → Option β} {P : β → Prop} (h : okP m fun a => okP (f a) P) : okP (m.bind f) P := by
  obtain ⟨a, e, b, e2, h2⟩ := h
  exact ⟨b, by rw [e]; exact e2, h2⟩
theorem okP.ite {α : Type} {c : Prop} [Decidable c] {a b : Option α} {P : α → Prop} (h1 : c → okP a P) (h2 : ¬ c → okP b P) : okP (if c then a else b) P := by
  by_cases h : c
  · rw [if_pos h]; exact h1 h
  · rw [if_neg h]; exact h2 h
theorem okP.mono {α : Type} {m : Option α} {P Q : α → Prop} (h : okP m P) (k : ∀ a, P a → Q a) : okP m Q := by
  obtain ⟨a, e, h⟩ := h
  exact ⟨a, e, k a h⟩
theorem okP.of {α : Type} {m : Option α} {a : α} {P : α → Prop} (e : m = Option.some a) (h : P a) : okP m P := ⟨a, e, h⟩
theorem okP.aget {α : Type} {xs : List α} {j : Int32} {P : α → Prop} (h0 : 0 ≤ j.toInt) (h1 : j.toInt < xs.length) (k : ∀ v, xs[j.toInt.toNat]? = Option.some v → P v) : okP (aget xs j) P :=
  ⟨_, aget_at (n := j.toInt.toNat) (by omega) (by omega), k _ (List.getElem?_eq_getElem _)⟩
theorem okP.aset {α : Type} {xs : List α} {j : Int32} {v : α} {P : List α → Prop} (h0 : 0 ≤ j.toInt) (h1 : j.toInt < xs.length) (k : P (xs.set j.toInt.toNat v)) : okP (aset xs j v) P :=
  ⟨_, aset_at (n := j.toInt.toNat) (by omega) (by omega), k⟩
theorem okP.loop {V E : Type} {B : V → Option (E ⊕ V)} {P : E → Prop} {n : Nat} {v : V} (I : V → Prop) (μ : V → Nat) (hv : I v) (hm : μ v < n) (hB : ∀ v, I v → okP (B v) (fun r => Sum.elim P (fun v' => I v' ∧ μ v' < μ v) r)) : okP (loopN B n v) P := by
  refine loopN_inv I P μ ?_ n v hv hm
  intro v hv
  obtain ⟨r, e, h⟩ := hB v hv
  cases r with
  | inl x => exact Or.inl ⟨x, e, h⟩
  | inr x => exact Or.inr ⟨x, e, h⟩
theorem len_i {n : Nat} (h : n ≤ 1000) : (n.toInt32).toInt = n := by
  have e : n.toInt32 = Int32.ofInt n := rfl
  rw [e, Int32.toInt_ofInt_of_le (by show _ ≤ (n : Int); omega) (by show (n : Int) < _; omega)]
theorem and1 (x : Int32) : x &&& 1 = 0 ∨ x &&& 1 = 1 := by
  have e : (x &&& 1).toBitVec = x.toBitVec &&& 1#32 := rfl
  have h := BitVec.and_one_eq_setWidth_ofBool_getLsbD (x := x.toBitVec)
  cases g : x.toBitVec.getLsbD 0
  · left; apply Int32.toBitVec_inj.1; rw [e, h, g]; rfl
  · right; apply Int32.toBitVec_inj.1; rw [e, h, g]; rfl
theorem okP.not {α : Type} {m : Option α} {a : α} {P : α → Prop} (h : okP m P) (e : m = Option.some a) : P a := by
  obtain ⟨b, e2, h⟩ := h
  rw [e] at e2
  exact (Option.some.inj e2) ▸ h
theorem and_rng {x m : Int32} (hm : 0 ≤ m.toInt) : 0 ≤ (x &&& m).toInt ∧ (x &&& m).toInt ≤ m.toInt := by
  have e : (x &&& m).toBitVec.toNat = x.toBitVec.toNat &&& m.toBitVec.toNat := BitVec.toNat_and ..
  have l : (x &&& m).toBitVec.toNat ≤ m.toBitVec.toNat := by rw [e]; exact Nat.and_le_right
  have c1 : m.toInt = if 2 * m.toBitVec.toNat < 2 ^ 32 then (m.toBitVec.toNat : Int) else m.toBitVec.toNat - (2 ^ 32 : Nat) := BitVec.toInt_eq_toNat_cond m.toBitVec
  have c2 : (x &&& m).toInt = if 2 * (x &&& m).toBitVec.toNat < 2 ^ 32 then ((x &&& m).toBitVec.toNat : Int) else (x &&& m).toBitVec.toNat - (2 ^ 32 : Nat) := BitVec.toInt_eq_toNat_cond (x &&& m).toBitVec
  have b : m.toBitVec.toNat < 2 ^ 32 := m.toBitVec.isLt
  by_cases h : 2 * m.toBitVec.toNat < 2 ^ 32
  · rw [if_pos h] at c1
    rw [if_pos (by omega)] at c2
    omega
  · rw [if_neg h] at c1
    omega
theorem mod_rng {x m : Int32} (hx : 0 ≤ x.toInt) (hm : 0 < m.toInt) : 0 ≤ (x % m).toInt ∧ (x % m).toInt < m.toInt := by
  rw [Int32.toInt_mod, Int.tmod_eq_emod_of_nonneg hx]
  exact ⟨Int.emod_nonneg _ (by omega), Int.emod_lt_of_pos _ hm⟩
/-- the law's own room, over the script's array -/
def sFit (s : List Int32) (τ : QHeap) : Prop := τ.length - List.length ([Sum.inr (Sum.inl (FieldType.int, s))] : QHeap) ≤ room_1.cells ∧ qhs τ - qhs [Sum.inr (Sum.inl (FieldType.int, s))] ≤ room_1.slots
def Sh (m : Int32) (o : Ob) : Prop := (f_bOp o).length = 16 ∧ (f_bD o).length = 16 ∧ (f_bS o).length = 16 ∧ (f_bImm o).length = 16 ∧ (f_bTerm o).length = 16 ∧ (f_bTest o).length = 16 ∧ (f_bT0 o).length = 16 ∧ (f_bT1 o).length = 16 ∧ (f_cnt0 o).length = 16 ∧ (f_cnt1 o).length = 16 ∧ (f_regs o).length = 4 ∧ (f_outs o).length = 16 ∧ (f_edgeId o).length = 32 ∧ (f_edgeW o).length = 32 ∧ (f_chNext o).length = 16 ∧ (f_chPrev o).length = 16 ∧ (f_chHead o).length = 16 ∧ (f_heat o).length = 16 ∧ (f_posOf o).length = 16 ∧ (f_order o).length = 16 ∧ (f_cOp o).length = 16 ∧ (f_cD o).length = 16 ∧ (f_cS o).length = 16 ∧ (f_cImm o).length = 16 ∧ (f_cKind o).length = 16 ∧ (f_cTest o).length = 16 ∧ (f_cTaken o).length = 16 ∧ (f_cOther o).length = 16 ∧ f_maxSteps o = m
theorem Sh_bOp {m : Int32} {o : Ob} {x : List Int32} (h : Sh m o) (hx : x.length = 16) : Sh m (s_bOp o x) := by
  dsimp only [Sh, f_bOp, f_bD, f_bS, f_bImm, f_bTerm, f_bTest, f_bT0, f_bT1, f_cnt0, f_cnt1, f_regs, f_outs, f_edgeId, f_edgeW, f_chNext, f_chPrev, f_chHead, f_heat, f_posOf, f_order, f_cOp, f_cD, f_cS, f_cImm, f_cKind, f_cTest, f_cTaken, f_cOther, f_maxSteps, s_bOp] at h ⊢
  exact ⟨hx, h.2.1, h.2.2.1, h.2.2.2.1, h.2.2.2.2.1, h.2.2.2.2.2.1, h.2.2.2.2.2.2.1, h.2.2.2.2.2.2.2.1, h.2.2.2.2.2.2.2.2.1, h.2.2.2.2.2.2.2.2.2.1, h.2.2.2.2.2.2.2.2.2.2.1, h.2.2.2.2.2.2.2.2.2.2.2.1, h.2.2.2.2.2.2.2.2.2.2.2.2.1, h.2.2.2.2.2.2.2.2.2.2.2.2.2.1, h.2.2.2.2.2.2.2.2.2.2.2.2.2.2.1, h.2.2.2.2.2.2.2.2.2.2.2.2.2.2.2.1, h.2.2.2.2.2.2.2.2.2.2.2.2.2.2.2.2.1, h.2.2.2.2.2.2.2.2.2.2.2.2.2.2.2.2.2.1, h.2.2.2.2.2.2.2.2.2.2.2.2.2.2.2.2.2.2.1, h.2.2.2.2.2.2.2.2.2.2.2.2.2.2.2.2.2.2.2.1, h.2.2.2.2.2.2.2.2.2.2.2.2.2.2.2.2.2.2.2.2.1, h.2.2.2.2.2.2.2.2.2.2.2.2.2.2.2.2.2.2.2.2.2.1, h.2.2.2.2.2.2.2.2.2.2.2.2.2.2.2.2.2.2.2.2.2.2.1, h.2.2.2.2.2.2.2.2.2.2.2.2.2.2.2.2.2.2.2.2.2.2.2.1, h.2.2.2.2.2.2.2.2.2.2.2.2.2.2.2.2.2.2.2.2.2.2.2.2.1, h.2.2.2.2.2.2.2.2.2.2.2.2.2.2.2.2.2.2.2.2.2.2.2.2.2.1, h.2.2.2.2.2.2.2.2.2.2.2.2.2.2.2.2.2.2.2.2.2.2.2.2.2.2.1, h.2.2.2.2.2.2.2.2.2.2.2.2.2.2.2.2.2.2.2.2.2.2.2.2.2.2.2.1, h.2.2.2.2.2.2.2.2.2.2.2.2.2.2.2.2.2.2.2.2.2.2.2.2.2.2.2.2⟩
theorem Sh_l_bOp {m : Int32} {o : Ob} (h : Sh m o) : (f_bOp o).length = 16 := h.1
theorem Sh_bD {m : Int32} {o : Ob} {x : List Int32} (h : Sh m o) (hx : x.length = 16) : Sh m (s_bD o x) := by
  dsimp only [Sh, f_bOp, f_bD, f_bS, f_bImm, f_bTerm, f_bTest, f_bT0, f_bT1, f_cnt0, f_cnt1, f_regs, f_outs, f_edgeId, f_edgeW, f_chNext, f_chPrev, f_chHead, f_heat, f_posOf, f_order, f_cOp, f_cD, f_cS, f_cImm, f_cKind, f_cTest, f_cTaken, f_cOther, f_maxSteps, s_bD] at h ⊢
  exact ⟨h.1, hx, h.2.2.1, h.2.2.2.1, h.2.2.2.2.1, h.2.2.2.2.2.1, h.2.2.2.2.2.2.1, h.2.2.2.2.2.2.2.1, h.2.2.2.2.2.2.2.2.1, h.2.2.2.2.2.2.2.2.2.1, h.2.2.2.2.2.2.2.2.2.2.1, h.2.2.2.2.2.2.2.2.2.2.2.1, h.2.2.2.2.2.2.2.2.2.2.2.2.1, h.2.2.2.2.2.2.2.2.2.2.2.2.2.1, h.2.2.2.2.2.2.2.2.2.2.2.2.2.2.1, h.2.2.2.2.2.2.2.2.2.2.2.2.2.2.2.1, h.2.2.2.2.2.2.2.2.2.2.2.2.2.2.2.2.1, h.2.2.2.2.2.2.2.2.2.2.2.2.2.2.2.2.2.1, h.2.2.2.2.2.2.2.2.2.2.2.2.2.2.2.2.2.2.1, h.2.2.2.2.2.2.2.2.2.2.2.2.2.2.2.2.2.2.2.1, h.2.2.2.2.2.2.2.2.2.2.2.2.2.2.2.2.2.2.2.2.1, h.2.2.2.2.2.2.2.2.2.2.2.2.2.2.2.2.2.2.2.2.2.1, h.2.2.2.2.2.2.2.2.2.2.2.2.2.2.2.2.2.2.2.2.2.2.1, h.2.2.2.2.2.2.2.2.2.2.2.2.2.2.2.2.2.2.2.2.2.2.2.1, h.2.2.2.2.2.2.2.2.2.2.2.2.2.2.2.2.2.2.2.2.2.2.2.2.1, h.2.2.2.2.2.2.2.2.2.2.2.2.2.2.2.2.2.2.2.2.2.2.2.2.2.1, h.2.2.2.2.2.2.2.2.2.2.2.2.2.2.2.2.2.2.2.2.2.2.2.2.2.2.1, h.2.2.2.2.2.2.2.2.2.2.2.2.2.2.2.2.2.2.2.2.2.2.2.2.2.2.2.1, h.2.2.2.2.2.2.2.2.2.2.2.2.2.2.2.2.2.2.2.2.2.2.2.2.2.2.2.2⟩
theorem Sh_l_bD {m : Int32} {o : Ob} (h : Sh m o) : (f_bD o).length = 16 := h.2.1
theorem Sh_bS {m : Int32} {o : Ob} {x : List Int32} (h : Sh m o) (hx : x.length = 16) : Sh m (s_bS o x) := by
  dsimp only [Sh, f_bOp, f_bD, f_bS, f_bImm, f_bTerm, f_bTest, f_bT0, f_bT1, f_cnt0, f_cnt1, f_regs, f_outs, f_edgeId, f_edgeW, f_chNext, f_chPrev, f_chHead, f_heat, f_posOf, f_order, f_cOp, f_cD, f_cS, f_cImm, f_cKind, f_cTest, f_cTaken, f_cOther, f_maxSteps, s_bS] at h ⊢
  exact ⟨h.1, h.2.1, hx, h.2.2.2.1, h.2.2.2.2.1, h.2.2.2.2.2.1, h.2.2.2.2.2.2.1, h.2.2.2.2.2.2.2.1, h.2.2.2.2.2.2.2.2.1, h.2.2.2.2.2.2.2.2.2.1, h.2.2.2.2.2.2.2.2.2.2.1, h.2.2.2.2.2.2.2.2.2.2.2.1, h.2.2.2.2.2.2.2.2.2.2.2.2.1, h.2.2.2.2.2.2.2.2.2.2.2.2.2.1, h.2.2.2.2.2.2.2.2.2.2.2.2.2.2.1, h.2.2.2.2.2.2.2.2.2.2.2.2.2.2.2.1, h.2.2.2.2.2.2.2.2.2.2.2.2.2.2.2.2.1, h.2.2.2.2.2.2.2.2.2.2.2.2.2.2.2.2.2.1, h.2.2.2.2.2.2.2.2.2.2.2.2.2.2.2.2.2.2.1, h.2.2.2.2.2.2.2.2.2.2.2.2.2.2.2.2.2.2.2.1, h.2.2.2.2.2.2.2.2.2.2.2.2.2.2.2.2.2.2.2.2.1, h.2.2.2.2.2.2.2.2.2.2.2.2.2.2.2.2.2.2.2.2.2.1, h.2.2.2.2.2.2.2.2.2.2.2.2.2.2.2.2.2.2.2.2.2.2.1, h.2.2.2.2.2.2.2.2.2.2.2.2.2.2.2.2.2.2.2.2.2.2.2.1, h.2.2.2.2.2.2.2.2.2.2.2.2.2.2.2.2.2.2.2.2.2.2.2.2.1, h.2.2.2.2.2.2.2.2.2.2.2.2.2.2.2.2.2.2.2.2.2.2.2.2.2.1, h.2.2.2.2.2.2.2.2.2.2.2.2.2.2.2.2.2.2.2.2.2.2.2.2.2.2.1, h.2.2.2.2.2.2.2.2.2.2.2.2.2.2.2.2.2.2.2.2.2.2.2.2.2.2.2.1, h.2.2.2.2.2.2.2.2.2.2.2.2.2.2.2.2.2.2.2.2.2.2.2.2.2.2.2.2⟩
theorem Sh_l_bS {m : Int32} {o : Ob} (h : Sh m o) : (f_bS o).length = 16 := h.2.2.1
theorem Sh_bImm {m : Int32} {o : Ob} {x : List Int32} (h : Sh m o) (hx : x.length = 16) : Sh m (s_bImm o x) := by
  dsimp only [Sh, f_bOp, f_bD, f_bS, f_bImm, f_bTerm, f_bTest, f_bT0, f_bT1, f_cnt0, f_cnt1, f_regs, f_outs, f_edgeId, f_edgeW, f_chNext, f_chPrev, f_chHead, f_heat, f_posOf, f_order, f_cOp, f_cD, f_cS, f_cImm, f_cKind, f_cTest, f_cTaken, f_cOther, f_maxSteps, s_bImm] at h ⊢
  exact ⟨h.1, h.2.1, h.2.2.1, hx, h.2.2.2.2.1, h.2.2.2.2.2.1, h.2.2.2.2.2.2.1, h.2.2.2.2.2.2.2.1, h.2.2.2.2.2.2.2.2.1, h.2.2.2.2.2.2.2.2.2.1, h.2.2.2.2.2.2.2.2.2.2.1, h.2.2.2.2.2.2.2.2.2.2.2.1, h.2.2.2.2.2.2.2.2.2.2.2.2.1, h.2.2.2.2.2.2.2.2.2.2.2.2.2.1, h.2.2.2.2.2.2.2.2.2.2.2.2.2.2.1, h.2.2.2.2.2.2.2.2.2.2.2.2.2.2.2.1, h.2.2.2.2.2.2.2.2.2.2.2.2.2.2.2.2.1, h.2.2.2.2.2.2.2.2.2.2.2.2.2.2.2.2.2.1, h.2.2.2.2.2.2.2.2.2.2.2.2.2.2.2.2.2.2.1, h.2.2.2.2.2.2.2.2.2.2.2.2.2.2.2.2.2.2.2.1, h.2.2.2.2.2.2.2.2.2.2.2.2.2.2.2.2.2.2.2.2.1, h.2.2.2.2.2.2.2.2.2.2.2.2.2.2.2.2.2.2.2.2.2.1, h.2.2.2.2.2.2.2.2.2.2.2.2.2.2.2.2.2.2.2.2.2.2.1, h.2.2.2.2.2.2.2.2.2.2.2.2.2.2.2.2.2.2.2.2.2.2.2.1, h.2.2.2.2.2.2.2.2.2.2.2.2.2.2.2.2.2.2.2.2.2.2.2.2.1, h.2.2.2.2.2.2.2.2.2.2.2.2.2.2.2.2.2.2.2.2.2.2.2.2.2.1, h.2.2.2.2.2.2.2.2.2.2.2.2.2.2.2.2.2.2.2.2.2.2.2.2.2.2.1, h.2.2.2.2.2.2.2.2.2.2.2.2.2.2.2.2.2.2.2.2.2.2.2.2.2.2.2.1, h.2.2.2.2.2.2.2.2.2.2.2.2.2.2.2.2.2.2.2.2.2.2.2.2.2.2.2.2⟩
theorem Sh_l_bImm {m : Int32} {o : Ob} (h : Sh m o) : (f_bImm o).length = 16 := h.2.2.2.1
theorem Sh_bTerm {m : Int32} {o : Ob} {x : List Int32} (h : Sh m o) (hx : x.length = 16) : Sh m (s_bTerm o x) := by
  dsimp only [Sh, f_bOp, f_bD, f_bS, f_bImm, f_bTerm, f_bTest, f_bT0, f_bT1, f_cnt0, f_cnt1, f_regs, f_outs, f_edgeId, f_edgeW, f_chNext, f_chPrev, f_chHead, f_heat, f_posOf, f_order, f_cOp, f_cD, f_cS, f_cImm, f_cKind, f_cTest, f_cTaken, f_cOther, f_maxSteps, s_bTerm] at h ⊢
  exact ⟨h.1, h.2.1, h.2.2.1, h.2.2.2.1, hx, h.2.2.2.2.2.1, h.2.2.2.2.2.2.1, h.2.2.2.2.2.2.2.1, h.2.2.2.2.2.2.2.2.1, h.2.2.2.2.2.2.2.2.2.1, h.2.2.2.2.2.2.2.2.2.2.1, h.2.2.2.2.2.2.2.2.2.2.2.1, h.2.2.2.2.2.2.2.2.2.2.2.2.1, h.2.2.2.2.2.2.2.2.2.2.2.2.2.1, h.2.2.2.2.2.2.2.2.2.2.2.2.2.2.1, h.2.2.2.2.2.2.2.2.2.2.2.2.2.2.2.1, h.2.2.2.2.2.2.2.2.2.2.2.2.2.2.2.2.1, h.2.2.2.2.2.2.2.2.2.2.2.2.2.2.2.2.2.1, h.2.2.2.2.2.2.2.2.2.2.2.2.2.2.2.2.2.2.1, h.2.2.2.2.2.2.2.2.2.2.2.2.2.2.2.2.2.2.2.1, h.2.2.2.2.2.2.2.2.2.2.2.2.2.2.2.2.2.2.2.2.1, h.2.2.2.2.2.2.2.2.2.2.2.2.2.2.2.2.2.2.2.2.2.1, h.2.2.2.2.2.2.2.2.2.2.2.2.2.2.2.2.2.2.2.2.2.2.1, h.2.2.2.2.2.2.2.2.2.2.2.2.2.2.2.2.2.2.2.2.2.2.2.1, h.2.2.2.2.2.2.2.2.2.2.2.2.2.2.2.2.2.2.2.2.2.2.2.2.1, h.2.2.2.2.2.2.2.2.2.2.2.2.2.2.2.2.2.2.2.2.2.2.2.2.2.1, h.2.2.2.2.2.2.2.2.2.2.2.2.2.2.2.2.2.2.2.2.2.2.2.2.2.2.1, h.2.2.2.2.2.2.2.2.2.2.2.2.2.2.2.2.2.2.2.2.2.2.2.2.2.2.2.1, h.2.2.2.2.2.2.2.2.2.2.2.2.2.2.2.2.2.2.2.2.2.2.2.2.2.2.2.2⟩
theorem Sh_l_bTerm {m : Int32} {o : Ob} (h : Sh m o) : (f_bTerm o).length = 16 := h.2.2.2.2.1
theorem Sh_bTest {m : Int32} {o : Ob} {x : List Int32} (h : Sh m o) (hx : x.length = 16) : Sh m (s_bTest o x) := by
  dsimp only [Sh, f_bOp, f_bD, f_bS, f_bImm, f_bTerm, f_bTest, f_bT0, f_bT1, f_cnt0, f_cnt1, f_regs, f_outs, f_edgeId, f_edgeW, f_chNext, f_chPrev, f_chHead, f_heat, f_posOf, f_order, f_cOp, f_cD, f_cS, f_cImm, f_cKind, f_cTest, f_cTaken, f_cOther, f_maxSteps, s_bTest] at h ⊢
  exact ⟨h.1, h.2.1, h.2.2.1, h.2.2.2.1, h.2.2.2.2.1, hx, h.2.2.2.2.2.2.1, h.2.2.2.2.2.2.2.1, h.2.2.2.2.2.2.2.2.1, h.2.2.2.2.2.2.2.2.2.1, h.2.2.2.2.2.2.2.2.2.2.1, h.2.2.2.2.2.2.2.2.2.2.2.1, h.2.2.2.2.2.2.2.2.2.2.2.2.1, h.2.2.2.2.2.2.2.2.2.2.2.2.2.1, h.2.2.2.2.2.2.2.2.2.2.2.2.2.2.1, h.2.2.2.2.2.2.2.2.2.2.2.2.2.2.2.1, h.2.2.2.2.2.2.2.2.2.2.2.2.2.2.2.2.1, h.2.2.2.2.2.2.2.2.2.2.2.2.2.2.2.2.2.1, h.2.2.2.2.2.2.2.2.2.2.2.2.2.2.2.2.2.2.1, h.2.2.2.2.2.2.2.2.2.2.2.2.2.2.2.2.2.2.2.1, h.2.2.2.2.2.2.2.2.2.2.2.2.2.2.2.2.2.2.2.2.1, h.2.2.2.2.2.2.2.2.2.2.2.2.2.2.2.2.2.2.2.2.2.1, h.2.2.2.2.2.2.2.2.2.2.2.2.2.2.2.2.2.2.2.2.2.2.1, h.2.2.2.2.2.2.2.2.2.2.2.2.2.2.2.2.2.2.2.2.2.2.2.1, h.2.2.2.2.2.2.2.2.2.2.2.2.2.2.2.2.2.2.2.2.2.2.2.2.1, h.2.2.2.2.2.2.2.2.2.2.2.2.2.2.2.2.2.2.2.2.2.2.2.2.2.1, h.2.2.2.2.2.2.2.2.2.2.2.2.2.2.2.2.2.2.2.2.2.2.2.2.2.2.1, h.2.2.2.2.2.2.2.2.2.2.2.2.2.2.2.2.2.2.2.2.2.2.2.2.2.2.2.1, h.2.2.2.2.2.2.2.2.2.2.2.2.2.2.2.2.2.2.2.2.2.2.2.2.2.2.2.2⟩
theorem Sh_l_bTest {m : Int32} {o : Ob} (h : Sh m o) : (f_bTest o).length = 16 := h.2.2.2.2.2.1
theorem Sh_bT0 {m : Int32} {o : Ob} {x : List Int32} (h : Sh m o) (hx : x.length = 16) : Sh m (s_bT0 o x) := by
  dsimp only [Sh, f_bOp, f_bD, f_bS, f_bImm, f_bTerm, f_bTest, f_bT0, f_bT1, f_cnt0, f_cnt1, f_regs, f_outs, f_edgeId, f_edgeW, f_chNext, f_chPrev, f_chHead, f_heat, f_posOf, f_order, f_cOp, f_cD, f_cS, f_cImm, f_cKind, f_cTest, f_cTaken, f_cOther, f_maxSteps, s_bT0] at h ⊢
  exact ⟨h.1, h.2.1, h.2.2.1, h.2.2.2.1, h.2.2.2.2.1, h.2.2.2.2.2.1, hx, h.2.2.2.2.2.2.2.1, h.2.2.2.2.2.2.2.2.1, h.2.2.2.2.2.2.2.2.2.1, h.2.2.2.2.2.2.2.2.2.2.1, h.2.2.2.2.2.2.2.2.2.2.2.1, h.2.2.2.2.2.2.2.2.2.2.2.2.1, h.2.2.2.2.2.2.2.2.2.2.2.2.2.1, h.2.2.2.2.2.2.2.2.2.2.2.2.2.2.1, h.2.2.2.2.2.2.2.2.2.2.2.2.2.2.2.1, h.2.2.2.2.2.2.2.2.2.2.2.2.2.2.2.2.1, h.2.2.2.2.2.2.2.2.2.2.2.2.2.2.2.2.2.1, h.2.2.2.2.2.2.2.2.2.2.2.2.2.2.2.2.2.2.1, h.2.2.2.2.2.2.2.2.2.2.2.2.2.2.2.2.2.2.2.1, h.2.2.2.2.2.2.2.2.2.2.2.2.2.2.2.2.2.2.2.2.1, h.2.2.2.2.2.2.2.2.2.2.2.2.2.2.2.2.2.2.2.2.2.1, h.2.2.2.2.2.2.2.2.2.2.2.2.2.2.2.2.2.2.2.2.2.2.1, h.2.2.2.2.2.2.2.2.2.2.2.2.2.2.2.2.2.2.2.2.2.2.2.1, h.2.2.2.2.2.2.2.2.2.2.2.2.2.2.2.2.2.2.2.2.2.2.2.2.1, h.2.2.2.2.2.2.2.2.2.2.2.2.2.2.2.2.2.2.2.2.2.2.2.2.2.1, h.2.2.2.2.2.2.2.2.2.2.2.2.2.2.2.2.2.2.2.2.2.2.2.2.2.2.1, h.2.2.2.2.2.2.2.2.2.2.2.2.2.2.2.2.2.2.2.2.2.2.2.2.2.2.2.1, h.2.2.2.2.2.2.2.2.2.2.2.2.2.2.2.2.2.2.2.2.2.2.2.2.2.2.2.2⟩
theorem Sh_l_bT0 {m : Int32} {o : Ob} (h : Sh m o) : (f_bT0 o).length = 16 := h.2.2.2.2.2.2.1
theorem Sh_bT1 {m : Int32} {o : Ob} {x : List Int32} (h : Sh m o) (hx : x.length = 16) : Sh m (s_bT1 o x) := by
  dsimp only [Sh, f_bOp, f_bD, f_bS, f_bImm, f_bTerm, f_bTest, f_bT0, f_bT1, f_cnt0, f_cnt1, f_regs, f_outs, f_edgeId, f_edgeW, f_chNext, f_chPrev, f_chHead, f_heat, f_posOf, f_order, f_cOp, f_cD, f_cS, f_cImm, f_cKind, f_cTest, f_cTaken, f_cOther, f_maxSteps, s_bT1] at h ⊢
  exact ⟨h.1, h.2.1, h.2.2.1, h.2.2.2.1, h.2.2.2.2.1, h.2.2.2.2.2.1, h.2.2.2.2.2.2.1, hx, h.2.2.2.2.2.2.2.2.1, h.2.2.2.2.2.2.2.2.2.1, h.2.2.2.2.2.2.2.2.2.2.1, h.2.2.2.2.2.2.2.2.2.2.2.1, h.2.2.2.2.2.2.2.2.2.2.2.2.1, h.2.2.2.2.2.2.2.2.2.2.2.2.2.1, h.2.2.2.2.2.2.2.2.2.2.2.2.2.2.1, h.2.2.2.2.2.2.2.2.2.2.2.2.2.2.2.1, h.2.2.2.2.2.2.2.2.2.2.2.2.2.2.2.2.1, h.2.2.2.2.2.2.2.2.2.2.2.2.2.2.2.2.2.1, h.2.2.2.2.2.2.2.2.2.2.2.2.2.2.2.2.2.2.1, h.2.2.2.2.2.2.2.2.2.2.2.2.2.2.2.2.2.2.2.1, h.2.2.2.2.2.2.2.2.2.2.2.2.2.2.2.2.2.2.2.2.1, h.2.2.2.2.2.2.2.2.2.2.2.2.2.2.2.2.2.2.2.2.2.1, h.2.2.2.2.2.2.2.2.2.2.2.2.2.2.2.2.2.2.2.2.2.2.1, h.2.2.2.2.2.2.2.2.2.2.2.2.2.2.2.2.2.2.2.2.2.2.2.1, h.2.2.2.2.2.2.2.2.2.2.2.2.2.2.2.2.2.2.2.2.2.2.2.2.1, h.2.2.2.2.2.2.2.2.2.2.2.2.2.2.2.2.2.2.2.2.2.2.2.2.2.1, h.2.2.2.2.2.2.2.2.2.2.2.2.2.2.2.2.2.2.2.2.2.2.2.2.2.2.1, h.2.2.2.2.2.2.2.2.2.2.2.2.2.2.2.2.2.2.2.2.2.2.2.2.2.2.2.1, h.2.2.2.2.2.2.2.2.2.2.2.2.2.2.2.2.2.2.2.2.2.2.2.2.2.2.2.2⟩
theorem Sh_l_bT1 {m : Int32} {o : Ob} (h : Sh m o) : (f_bT1 o).length = 16 := h.2.2.2.2.2.2.2.1
theorem Sh_cnt0 {m : Int32} {o : Ob} {x : List Int32} (h : Sh m o) (hx : x.length = 16) : Sh m (s_cnt0 o x) := by
  dsimp only [Sh, f_bOp, f_bD, f_bS, f_bImm, f_bTerm, f_bTest, f_bT0, f_bT1, f_cnt0, f_cnt1, f_regs, f_outs, f_edgeId, f_edgeW, f_chNext, f_chPrev, f_chHead, f_heat, f_posOf, f_order, f_cOp, f_cD, f_cS, f_cImm, f_cKind, f_cTest, f_cTaken, f_cOther, f_maxSteps, s_cnt0] at h ⊢
  exact ⟨h.1, h.2.1, h.2.2.1, h.2.2.2.1, h.2.2.2.2.1, h.2.2.2.2.2.1, h.2.2.2.2.2.2.1, h.2.2.2.2.2.2.2.1, hx, h.2.2.2.2.2.2.2.2.2.1, h.2.2.2.2.2.2.2.2.2.2.1, h.2.2.2.2.2.2.2.2.2.2.2.1, h.2.2.2.2.2.2.2.2.2.2.2.2.1, h.2.2.2.2.2.2.2.2.2.2.2.2.2.1, h.2.2.2.2.2.2.2.2.2.2.2.2.2.2.1, h.2.2.2.2.2.2.2.2.2.2.2.2.2.2.2.1, h.2.2.2.2.2.2.2.2.2.2.2.2.2.2.2.2.1, h.2.2.2.2.2.2.2.2.2.2.2.2.2.2.2.2.2.1, h.2.2.2.2.2.2.2.2.2.2.2.2.2.2.2.2.2.2.1, h.2.2.2.2.2.2.2.2.2.2.2.2.2.2.2.2.2.2.2.1, h.2.2.2.2.2.2.2.2.2.2.2.2.2.2.2.2.2.2.2.2.1, h.2.2.2.2.2.2.2.2.2.2.2.2.2.2.2.2.2.2.2.2.2.1, h.2.2.2.2.2.2.2.2.2.2.2.2.2.2.2.2.2.2.2.2.2.2.1, h.2.2.2.2.2.2.2.2.2.2.2.2.2.2.2.2.2.2.2.2.2.2.2.1, h.2.2.2.2.2.2.2.2.2.2.2.2.2.2.2.2.2.2.2.2.2.2.2.2.1, h.2.2.2.2.2.2.2.2.2.2.2.2.2.2.2.2.2.2.2.2.2.2.2.2.2.1, h.2.2.2.2.2.2.2.2.2.2.2.2.2.2.2.2.2.2.2.2.2.2.2.2.2.2.1, h.2.2.2.2.2.2.2.2.2.2.2.2.2.2.2.2.2.2.2.2.2.2.2.2.2.2.2.1, h.2.2.2.2.2.2.2.2.2.2.2.2.2.2.2.2.2.2.2.2.2.2.2.2.2.2.2.2⟩
theorem Sh_l_cnt0 {m : Int32} {o : Ob} (h : Sh m o) : (f_cnt0 o).length = 16 := h.2.2.2.2.2.2.2.2.1
theorem Sh_cnt1 {m : Int32} {o : Ob} {x : List Int32} (h : Sh m o) (hx : x.length = 16) : Sh m (s_cnt1 o x) := by
  dsimp only [Sh, f_bOp, f_bD, f_bS, f_bImm, f_bTerm, f_bTest, f_bT0, f_bT1, f_cnt0, f_cnt1, f_regs, f_outs, f_edgeId, f_edgeW, f_chNext, f_chPrev, f_chHead, f_heat, f_posOf, f_order, f_cOp, f_cD, f_cS, f_cImm, f_cKind, f_cTest, f_cTaken, f_cOther, f_maxSteps, s_cnt1] at h ⊢
  exact ⟨h.1, h.2.1, h.2.2.1, h.2.2.2.1, h.2.2.2.2.1, h.2.2.2.2.2.1, h.2.2.2.2.2.2.1, h.2.2.2.2.2.2.2.1, h.2.2.2.2.2.2.2.2.1, hx, h.2.2.2.2.2.2.2.2.2.2.1, h.2.2.2.2.2.2.2.2.2.2.2.1, h.2.2.2.2.2.2.2.2.2.2.2.2.1, h.2.2.2.2.2.2.2.2.2.2.2.2.2.1, h.2.2.2.2.2.2.2.2.2.2.2.2.2.2.1, h.2.2.2.2.2.2.2.2.2.2.2.2.2.2.2.1, h.2.2.2.2.2.2.2.2.2.2.2.2.2.2.2.2.1, h.2.2.2.2.2.2.2.2.2.2.2.2.2.2.2.2.2.1, h.2.2.2.2.2.2.2.2.2.2.2.2.2.2.2.2.2.2.1, h.2.2.2.2.2.2.2.2.2.2.2.2.2.2.2.2.2.2.2.1, h.2.2.2.2.2.2.2.2.2.2.2.2.2.2.2.2.2.2.2.2.1, h.2.2.2.2.2.2.2.2.2.2.2.2.2.2.2.2.2.2.2.2.2.1, h.2.2.2.2.2.2.2.2.2.2.2.2.2.2.2.2.2.2.2.2.2.2.1, h.2.2.2.2.2.2.2.2.2.2.2.2.2.2.2.2.2.2.2.2.2.2.2.1, h.2.2.2.2.2.2.2.2.2.2.2.2.2.2.2.2.2.2.2.2.2.2.2.2.1, h.2.2.2.2.2.2.2.2.2.2.2.2.2.2.2.2.2.2.2.2.2.2.2.2.2.1, h.2.2.2.2.2.2.2.2.2.2.2.2.2.2.2.2.2.2.2.2.2.2.2.2.2.2.1, h.2.2.2.2.2.2.2.2.2.2.2.2.2.2.2.2.2.2.2.2.2.2.2.2.2.2.2.1, h.2.2.2.2.2.2.2.2.2.2.2.2.2.2.2.2.2.2.2.2.2.2.2.2.2.2.2.2⟩
theorem Sh_l_cnt1 {m : Int32} {o : Ob} (h : Sh m o) : (f_cnt1 o).length = 16 := h.2.2.2.2.2.2.2.2.2.1
theorem Sh_regs {m : Int32} {o : Ob} {x : List Int32} (h : Sh m o) (hx : x.length = 4) : Sh m (s_regs o x) := by
  dsimp only [Sh, f_bOp, f_bD, f_bS, f_bImm, f_bTerm, f_bTest, f_bT0, f_bT1, f_cnt0, f_cnt1, f_regs, f_outs, f_edgeId, f_edgeW, f_chNext, f_chPrev, f_chHead, f_heat, f_posOf, f_order, f_cOp, f_cD, f_cS, f_cImm, f_cKind, f_cTest, f_cTaken, f_cOther, f_maxSteps, s_regs] at h ⊢
  exact ⟨h.1, h.2.1, h.2.2.1, h.2.2.2.1, h.2.2.2.2.1, h.2.2.2.2.2.1, h.2.2.2.2.2.2.1, h.2.2.2.2.2.2.2.1, h.2.2.2.2.2.2.2.2.1, h.2.2.2.2.2.2.2.2.2.1, hx, h.2.2.2.2.2.2.2.2.2.2.2.1, h.2.2.2.2.2.2.2.2.2.2.2.2.1, h.2.2.2.2.2.2.2.2.2.2.2.2.2.1, h.2.2.2.2.2.2.2.2.2.2.2.2.2.2.1, h.2.2.2.2.2.2.2.2.2.2.2.2.2.2.2.1, h.2.2.2.2.2.2.2.2.2.2.2.2.2.2.2.2.1, h.2.2.2.2.2.2.2.2.2.2.2.2.2.2.2.2.2.1, h.2.2.2.2.2.2.2.2.2.2.2.2.2.2.2.2.2.2.1, h.2.2.2.2.2.2.2.2.2.2.2.2.2.2.2.2.2.2.2.1, h.2.2.2.2.2.2.2.2.2.2.2.2.2.2.2.2.2.2.2.2.1, h.2.2.2.2.2.2.2.2.2.2.2.2.2.2.2.2.2.2.2.2.2.1, h.2.2.2.2.2.2.2.2.2.2.2.2.2.2.2.2.2.2.2.2.2.2.1, h.2.2.2.2.2.2.2.2.2.2.2.2.2.2.2.2.2.2.2.2.2.2.2.1, h.2.2.2.2.2.2.2.2.2.2.2.2.2.2.2.2.2.2.2.2.2.2.2.2.1, h.2.2.2.2.2.2.2.2.2.2.2.2.2.2.2.2.2.2.2.2.2.2.2.2.2.1, h.2.2.2.2.2.2.2.2.2.2.2.2.2.2.2.2.2.2.2.2.2.2.2.2.2.2.1, h.2.2.2.2.2.2.2.2.2.2.2.2.2.2.2.2.2.2.2.2.2.2.2.2.2.2.2.1, h.2.2.2.2.2.2.2.2.2.2.2.2.2.2.2.2.2.2.2.2.2.2.2.2.2.2.2.2⟩
theorem Sh_l_regs {m : Int32} {o : Ob} (h : Sh m o) : (f_regs o).length = 4 := h.2.2.2.2.2.2.2.2.2.2.1
theorem Sh_outs {m : Int32} {o : Ob} {x : List Int32} (h : Sh m o) (hx : x.length = 16) : Sh m (s_outs o x) := by
  dsimp only [Sh, f_bOp, f_bD, f_bS, f_bImm, f_bTerm, f_bTest, f_bT0, f_bT1, f_cnt0, f_cnt1, f_regs, f_outs, f_edgeId, f_edgeW, f_chNext, f_chPrev, f_chHead, f_heat, f_posOf, f_order, f_cOp, f_cD, f_cS, f_cImm, f_cKind, f_cTest, f_cTaken, f_cOther, f_maxSteps, s_outs] at h ⊢
  exact ⟨h.1, h.2.1, h.2.2.1, h.2.2.2.1, h.2.2.2.2.1, h.2.2.2.2.2.1, h.2.2.2.2.2.2.1, h.2.2.2.2.2.2.2.1, h.2.2.2.2.2.2.2.2.1, h.2.2.2.2.2.2.2.2.2.1, h.2.2.2.2.2.2.2.2.2.2.1, hx, h.2.2.2.2.2.2.2.2.2.2.2.2.1, h.2.2.2.2.2.2.2.2.2.2.2.2.2.1, h.2.2.2.2.2.2.2.2.2.2.2.2.2.2.1, h.2.2.2.2.2.2.2.2.2.2.2.2.2.2.2.1, h.2.2.2.2.2.2.2.2.2.2.2.2.2.2.2.2.1, h.2.2.2.2.2.2.2.2.2.2.2.2.2.2.2.2.2.1, h.2.2.2.2.2.2.2.2.2.2.2.2.2.2.2.2.2.2.1, h.2.2.2.2.2.2.2.2.2.2.2.2.2.2.2.2.2.2.2.1, h.2.2.2.2.2.2.2.2.2.2.2.2.2.2.2.2.2.2.2.2.1, h.2.2.2.2.2.2.2.2.2.2.2.2.2.2.2.2.2.2.2.2.2.1, h.2.2.2.2.2.2.2.2.2.2.2.2.2.2.2.2.2.2.2.2.2.2.1, h.2.2.2.2.2.2.2.2.2.2.2.2.2.2.2.2.2.2.2.2.2.2.2.1, h.2.2.2.2.2.2.2.2.2.2.2.2.2.2.2.2.2.2.2.2.2.2.2.2.1, h.2.2.2.2.2.2.2.2.2.2.2.2.2.2.2.2.2.2.2.2.2.2.2.2.2.1, h.2.2.2.2.2.2.2.2.2.2.2.2.2.2.2.2.2.2.2.2.2.2.2.2.2.2.1, h.2.2.2.2.2.2.2.2.2.2.2.2.2.2.2.2.2.2.2.2.2.2.2.2.2.2.2.1, h.2.2.2.2.2.2.2.2.2.2.2.2.2.2.2.2.2.2.2.2.2.2.2.2.2.2.2.2⟩
theorem Sh_l_outs {m : Int32} {o : Ob} (h : Sh m o) : (f_outs o).length = 16 := h.2.2.2.2.2.2.2.2.2.2.2.1
theorem Sh_edgeId {m : Int32} {o : Ob} {x : List Int32} (h : Sh m o) (hx : x.length = 32) : Sh m (s_edgeId o x) := by
  dsimp only [Sh, f_bOp, f_bD, f_bS, f_bImm, f_bTerm, f_bTest, f_bT0, f_bT1, f_cnt0, f_cnt1, f_regs, f_outs, f_edgeId, f_edgeW, f_chNext, f_chPrev, f_chHead, f_heat, f_posOf, f_order, f_cOp, f_cD, f_cS, f_cImm, f_cKind, f_cTest, f_cTaken, f_cOther, f_maxSteps, s_edgeId] at h ⊢
  exact ⟨h.1, h.2.1, h.2.2.1, h.2.2.2.1, h.2.2.2.2.1, h.2.2.2.2.2.1, h.2.2.2.2.2.2.1, h.2.2.2.2.2.2.2.1, h.2.2.2.2.2.2.2.2.1, h.2.2.2.2.2.2.2.2.2.1, h.2.2.2.2.2.2.2.2.2.2.1, h.2.2.2.2.2.2.2.2.2.2.2.1, hx, h.2.2.2.2.2.2.2.2.2.2.2.2.2.1, h.2.2.2.2.2.2.2.2.2.2.2.2.2.2.1, h.2.2.2.2.2.2.2.2.2.2.2.2.2.2.2.1, h.2.2.2.2.2.2.2.2.2.2.2.2.2.2.2.2.1, h.2.2.2.2.2.2.2.2.2.2.2.2.2.2.2.2.2.1, h.2.2.2.2.2.2.2.2.2.2.2.2.2.2.2.2.2.2.1, h.2.2.2.2.2.2.2.2.2.2.2.2.2.2.2.2.2.2.2.1, h.2.2.2.2.2.2.2.2.2.2.2.2.2.2.2.2.2.2.2.2.1, h.2.2.2.2.2.2.2.2.2.2.2.2.2.2.2.2.2.2.2.2.2.1, h.2.2.2.2.2.2.2.2.2.2.2.2.2.2.2.2.2.2.2.2.2.2.1, h.2.2.2.2.2.2.2.2.2.2.2.2.2.2.2.2.2.2.2.2.2.2.2.1, h.2.2.2.2.2.2.2.2.2.2.2.2.2.2.2.2.2.2.2.2.2.2.2.2.1, h.2.2.2.2.2.2.2.2.2.2.2.2.2.2.2.2.2.2.2.2.2.2.2.2.2.1, h.2.2.2.2.2.2.2.2.2.2.2.2.2.2.2.2.2.2.2.2.2.2.2.2.2.2.1, h.2.2.2.2.2.2.2.2.2.2.2.2.2.2.2.2.2.2.2.2.2.2.2.2.2.2.2.1, h.2.2.2.2.2.2.2.2.2.2.2.2.2.2.2.2.2.2.2.2.2.2.2.2.2.2.2.2⟩
theorem Sh_l_edgeId {m : Int32} {o : Ob} (h : Sh m o) : (f_edgeId o).length = 32 := h.2.2.2.2.2.2.2.2.2.2.2.2.1
theorem Sh_edgeW {m : Int32} {o : Ob} {x : List Int32} (h : Sh m o) (hx : x.length = 32) : Sh m (s_edgeW o x) := by
  dsimp only [Sh, f_bOp, f_bD, f_bS, f_bImm, f_bTerm, f_bTest, f_bT0, f_bT1, f_cnt0, f_cnt1, f_regs, f_outs, f_edgeId, f_edgeW, f_chNext, f_chPrev, f_chHead, f_heat, f_posOf, f_order, f_cOp, f_cD, f_cS, f_cImm, f_cKind, f_cTest, f_cTaken, f_cOther, f_maxSteps, s_edgeW] at h ⊢
  exact ⟨h.1, h.2.1, h.2.2.1, h.2.2.2.1, h.2.2.2.2.1, h.2.2.2.2.2.1, h.2.2.2.2.2.2.1, h.2.2.2.2.2.2.2.1, h.2.2.2.2.2.2.2.2.1, h.2.2.2.2.2.2.2.2.2.1, h.2.2.2.2.2.2.2.2.2.2.1, h.2.2.2.2.2.2.2.2.2.2.2.1, h.2.2.2.2.2.2.2.2.2.2.2.2.1, hx, h.2.2.2.2.2.2.2.2.2.2.2.2.2.2.1, h.2.2.2.2.2.2.2.2.2.2.2.2.2.2.2.1, h.2.2.2.2.2.2.2.2.2.2.2.2.2.2.2.2.1, h.2.2.2.2.2.2.2.2.2.2.2.2.2.2.2.2.2.1, h.2.2.2.2.2.2.2.2.2.2.2.2.2.2.2.2.2.2.1, h.2.2.2.2.2.2.2.2.2.2.2.2.2.2.2.2.2.2.2.1, h.2.2.2.2.2.2.2.2.2.2.2.2.2.2.2.2.2.2.2.2.1, h.2.2.2.2.2.2.2.2.2.2.2.2.2.2.2.2.2.2.2.2.2.1, h.2.2.2.2.2.2.2.2.2.2.2.2.2.2.2.2.2.2.2.2.2.2.1, h.2.2.2.2.2.2.2.2.2.2.2.2.2.2.2.2.2.2.2.2.2.2.2.1, h.2.2.2.2.2.2.2.2.2.2.2.2.2.2.2.2.2.2.2.2.2.2.2.2.1, h.2.2.2.2.2.2.2.2.2.2.2.2.2.2.2.2.2.2.2.2.2.2.2.2.2.1, h.2.2.2.2.2.2.2.2.2.2.2.2.2.2.2.2.2.2.2.2.2.2.2.2.2.2.1, h.2.2.2.2.2.2.2.2.2.2.2.2.2.2.2.2.2.2.2.2.2.2.2.2.2.2.2.1, h.2.2.2.2.2.2.2.2.2.2.2.2.2.2.2.2.2.2.2.2.2.2.2.2.2.2.2.2⟩
theorem Sh_l_edgeW {m : Int32} {o : Ob} (h : Sh m o) : (f_edgeW o).length = 32 := h.2.2.2.2.2.2.2.2.2.2.2.2.2.1
theorem Sh_chNext {m : Int32} {o : Ob} {x : List Int32} (h : Sh m o) (hx : x.length = 16) : Sh m (s_chNext o x) := by
  dsimp only [Sh, f_bOp, f_bD, f_bS, f_bImm, f_bTerm, f_bTest, f_bT0, f_bT1, f_cnt0, f_cnt1, f_regs, f_outs, f_edgeId, f_edgeW, f_chNext, f_chPrev, f_chHead, f_heat, f_posOf, f_order, f_cOp, f_cD, f_cS, f_cImm, f_cKind, f_cTest, f_cTaken, f_cOther, f_maxSteps, s_chNext] at h ⊢
  exact ⟨h.1, h.2.1, h.2.2.1, h.2.2.2.1, h.2.2.2.2.1, h.2.2.2.2.2.1, h.2.2.2.2.2.2.1, h.2.2.2.2.2.2.2.1, h.2.2.2.2.2.2.2.2.1, h.2.2.2.2.2.2.2.2.2.1, h.2.2.2.2.2.2.2.2.2.2.1, h.2.2.2.2.2.2.2.2.2.2.2.1, h.2.2.2.2.2.2.2.2.2.2.2.2.1, h.2.2.2.2.2.2.2.2.2.2.2.2.2.1, hx, h.2.2.2.2.2.2.2.2.2.2.2.2.2.2.2.1, h.2.2.2.2.2.2.2.2.2.2.2.2.2.2.2.2.1, h.2.2.2.2.2.2.2.2.2.2.2.2.2.2.2.2.2.1, h.2.2.2.2.2.2.2.2.2.2.2.2.2.2.2.2.2.2.1, h.2.2.2.2.2.2.2.2.2.2.2.2.2.2.2.2.2.2.2.1, h.2.2.2.2.2.2.2.2.2.2.2.2.2.2.2.2.2.2.2.2.1, h.2.2.2.2.2.2.2.2.2.2.2.2.2.2.2.2.2.2.2.2.2.1, h.2.2.2.2.2.2.2.2.2.2.2.2.2.2.2.2.2.2.2.2.2.2.1, h.2.2.2.2.2.2.2.2.2.2.2.2.2.2.2.2.2.2.2.2.2.2.2.1, h.2.2.2.2.2.2.2.2.2.2.2.2.2.2.2.2.2.2.2.2.2.2.2.2.1, h.2.2.2.2.2.2.2.2.2.2.2.2.2.2.2.2.2.2.2.2.2.2.2.2.2.1, h.2.2.2.2.2.2.2.2.2.2.2.2.2.2.2.2.2.2.2.2.2.2.2.2.2.2.1, h.2.2.2.2.2.2.2.2.2.2.2.2.2.2.2.2.2.2.2.2.2.2.2.2.2.2.2.1, h.2.2.2.2.2.2.2.2.2.2.2.2.2.2.2.2.2.2.2.2.2.2.2.2.2.2.2.2⟩
theorem Sh_l_chNext {m : Int32} {o : Ob} (h : Sh m o) : (f_chNext o).length = 16 := h.2.2.2.2.2.2.2.2.2.2.2.2.2.2.1
theorem Sh_chPrev {m : Int32} {o : Ob} {x : List Int32} (h : Sh m o) (hx : x.length = 16) : Sh m (s_chPrev o x) := by
  dsimp only [Sh, f_bOp, f_bD, f_bS, f_bImm, f_bTerm, f_bTest, f_bT0, f_bT1, f_cnt0, f_cnt1, f_regs, f_outs, f_edgeId, f_edgeW, f_chNext, f_chPrev, f_chHead, f_heat, f_posOf, f_order, f_cOp, f_cD, f_cS, f_cImm, f_cKind, f_cTest, f_cTaken, f_cOther, f_maxSteps, s_chPrev] at h ⊢
  exact ⟨h.1, h.2.1, h.2.2.1, h.2.2.2.1, h.2.2.2.2.1, h.2.2.2.2.2.1, h.2.2.2.2.2.2.1, h.2.2.2.2.2.2.2.1, h.2.2.2.2.2.2.2.2.1, h.2.2.2.2.2.2.2.2.2.1, h.2.2.2.2.2.2.2.2.2.2.1, h.2.2.2.2.2.2.2.2.2.2.2.1, h.2.2.2.2.2.2.2.2.2.2.2.2.1, h.2.2.2.2.2.2.2.2.2.2.2.2.2.1, h.2.2.2.2.2.2.2.2.2.2.2.2.2.2.1, hx, h.2.2.2.2.2.2.2.2.2.2.2.2.2.2.2.2.1, h.2.2.2.2.2.2.2.2.2.2.2.2.2.2.2.2.2.1, h.2.2.2.2.2.2.2.2.2.2.2.2.2.2.2.2.2.2.1, h.2.2.2.2.2.2.2.2.2.2.2.2.2.2.2.2.2.2.2.1, h.2.2.2.2.2.2.2.2.2.2.2.2.2.2.2.2.2.2.2.2.1, h.2.2.2.2.2.2.2.2.2.2.2.2.2.2.2.2.2.2.2.2.2.1, h.2.2.2.2.2.2.2.2.2.2.2.2.2.2.2.2.2.2.2.2.2.2.1, h.2.2.2.2.2.2.2.2.2.2.2.2.2.2.2.2.2.2.2.2.2.2.2.1, h.2.2.2.2.2.2.2.2.2.2.2.2.2.2.2.2.2.2.2.2.2.2.2.2.1, h.2.2.2.2.2.2.2.2.2.2.2.2.2.2.2.2.2.2.2.2.2.2.2.2.2.1, h.2.2.2.2.2.2.2.2.2.2.2.2.2.2.2.2.2.2.2.2.2.2.2.2.2.2.1, h.2.2.2.2.2.2.2.2.2.2.2.2.2.2.2.2.2.2.2.2.2.2.2.2.2.2.2.1, h.2.2.2.2.2.2.2.2.2.2.2.2.2.2.2.2.2.2.2.2.2.2.2.2.2.2.2.2⟩
theorem Sh_l_chPrev {m : Int32} {o : Ob} (h : Sh m o) : (f_chPrev o).length = 16 := h.2.2.2.2.2.2.2.2.2.2.2.2.2.2.2.1
theorem Sh_chHead {m : Int32} {o : Ob} {x : List Int32} (h : Sh m o) (hx : x.length = 16) : Sh m (s_chHead o x) := by
  dsimp only [Sh, f_bOp, f_bD, f_bS, f_bImm, f_bTerm, f_bTest, f_bT0, f_bT1, f_cnt0, f_cnt1, f_regs, f_outs, f_edgeId, f_edgeW, f_chNext, f_chPrev, f_chHead, f_heat, f_posOf, f_order, f_cOp, f_cD, f_cS, f_cImm, f_cKind, f_cTest, f_cTaken, f_cOther, f_maxSteps, s_chHead] at h ⊢
  exact ⟨h.1, h.2.1, h.2.2.1, h.2.2.2.1, h.2.2.2.2.1, h.2.2.2.2.2.1, h.2.2.2.2.2.2.1, h.2.2.2.2.2.2.2.1, h.2.2.2.2.2.2.2.2.1, h.2.2.2.2.2.2.2.2.2.1, h.2.2.2.2.2.2.2.2.2.2.1, h.2.2.2.2.2.2.2.2.2.2.2.1, h.2.2.2.2.2.2.2.2.2.2.2.2.1, h.2.2.2.2.2.2.2.2.2.2.2.2.2.1, h.2.2.2.2.2.2.2.2.2.2.2.2.2.2.1, h.2.2.2.2.2.2.2.2.2.2.2.2.2.2.2.1, hx, h.2.2.2.2.2.2.2.2.2.2.2.2.2.2.2.2.2.1, h.2.2.2.2.2.2.2.2.2.2.2.2.2.2.2.2.2.2.1, h.2.2.2.2.2.2.2.2.2.2.2.2.2.2.2.2.2.2.2.1, h.2.2.2.2.2.2.2.2.2.2.2.2.2.2.2.2.2.2.2.2.1, h.2.2.2.2.2.2.2.2.2.2.2.2.2.2.2.2.2.2.2.2.2.1, h.2.2.2.2.2.2.2.2.2.2.2.2.2.2.2.2.2.2.2.2.2.2.1, h.2.2.2.2.2.2.2.2.2.2.2.2.2.2.2.2.2.2.2.2.2.2.2.1, h.2.2.2.2.2.2.2.2.2.2.2.2.2.2.2.2.2.2.2.2.2.2.2.2.1, h.2.2.2.2.2.2.2.2.2.2.2.2.2.2.2.2.2.2.2.2.2.2.2.2.2.1, h.2.2.2.2.2.2.2.2.2.2.2.2.2.2.2.2.2.2.2.2.2.2.2.2.2.2.1, h.2.2.2.2.2.2.2.2.2.2.2.2.2.2.2.2.2.2.2.2.2.2.2.2.2.2.2.1, h.2.2.2.2.2.2.2.2.2.2.2.2.2.2.2.2.2.2.2.2.2.2.2.2.2.2.2.2⟩
theorem Sh_l_chHead {m : Int32} {o : Ob} (h : Sh m o) : (f_chHead o).length = 16 := h.2.2.2.2.2.2.2.2.2.2.2.2.2.2.2.2.1
theorem Sh_heat {m : Int32} {o : Ob} {x : List Int32} (h : Sh m o) (hx : x.length = 16) : Sh m (s_heat o x) := by
  dsimp only [Sh, f_bOp, f_bD, f_bS, f_bImm, f_bTerm, f_bTest, f_bT0, f_bT1, f_cnt0, f_cnt1, f_regs, f_outs, f_edgeId, f_edgeW, f_chNext, f_chPrev, f_chHead, f_heat, f_posOf, f_order, f_cOp, f_cD, f_cS, f_cImm, f_cKind, f_cTest, f_cTaken, f_cOther, f_maxSteps, s_heat] at h ⊢
  exact ⟨h.1, h.2.1, h.2.2.1, h.2.2.2.1, h.2.2.2.2.1, h.2.2.2.2.2.1, h.2.2.2.2.2.2.1, h.2.2.2.2.2.2.2.1, h.2.2.2.2.2.2.2.2.1, h.2.2.2.2.2.2.2.2.2.1, h.2.2.2.2.2.2.2.2.2.2.1, h.2.2.2.2.2.2.2.2.2.2.2.1, h.2.2.2.2.2.2.2.2.2.2.2.2.1, h.2.2.2.2.2.2.2.2.2.2.2.2.2.1, h.2.2.2.2.2.2.2.2.2.2.2.2.2.2.1, h.2.2.2.2.2.2.2.2.2.2.2.2.2.2.2.1, h.2.2.2.2.2.2.2.2.2.2.2.2.2.2.2.2.1, hx, h.2.2.2.2.2.2.2.2.2.2.2.2.2.2.2.2.2.2.1, h.2.2.2.2.2.2.2.2.2.2.2.2.2.2.2.2.2.2.2.1, h.2.2.2.2.2.2.2.2.2.2.2.2.2.2.2.2.2.2.2.2.1, h.2.2.2.2.2.2.2.2.2.2.2.2.2.2.2.2.2.2.2.2.2.1, h.2.2.2.2.2.2.2.2.2.2.2.2.2.2.2.2.2.2.2.2.2.2.1, h.2.2.2.2.2.2.2.2.2.2.2.2.2.2.2.2.2.2.2.2.2.2.2.1, h.2.2.2.2.2.2.2.2.2.2.2.2.2.2.2.2.2.2.2.2.2.2.2.2.1, h.2.2.2.2.2.2.2.2.2.2.2.2.2.2.2.2.2.2.2.2.2.2.2.2.2.1, h.2.2.2.2.2.2.2.2.2.2.2.2.2.2.2.2.2.2.2.2.2.2.2.2.2.2.1, h.2.2.2.2.2.2.2.2.2.2.2.2.2.2.2.2.2.2.2.2.2.2.2.2.2.2.2.1, h.2.2.2.2.2.2.2.2.2.2.2.2.2.2.2.2.2.2.2.2.2.2.2.2.2.2.2.2⟩
theorem Sh_l_heat {m : Int32} {o : Ob} (h : Sh m o) : (f_heat o).length = 16 := h.2.2.2.2.2.2.2.2.2.2.2.2.2.2.2.2.2.1
theorem Sh_posOf {m : Int32} {o : Ob} {x : List Int32} (h : Sh m o) (hx : x.length = 16) : Sh m (s_posOf o x) := by
  dsimp only [Sh, f_bOp, f_bD, f_bS, f_bImm, f_bTerm, f_bTest, f_bT0, f_bT1, f_cnt0, f_cnt1, f_regs, f_outs, f_edgeId, f_edgeW, f_chNext, f_chPrev, f_chHead, f_heat, f_posOf, f_order, f_cOp, f_cD, f_cS, f_cImm, f_cKind, f_cTest, f_cTaken, f_cOther, f_maxSteps, s_posOf] at h ⊢
  exact ⟨h.1, h.2.1, h.2.2.1, h.2.2.2.1, h.2.2.2.2.1, h.2.2.2.2.2.1, h.2.2.2.2.2.2.1, h.2.2.2.2.2.2.2.1, h.2.2.2.2.2.2.2.2.1, h.2.2.2.2.2.2.2.2.2.1, h.2.2.2.2.2.2.2.2.2.2.1, h.2.2.2.2.2.2.2.2.2.2.2.1, h.2.2.2.2.2.2.2.2.2.2.2.2.1, h.2.2.2.2.2.2.2.2.2.2.2.2.2.1, h.2.2.2.2.2.2.2.2.2.2.2.2.2.2.1, h.2.2.2.2.2.2.2.2.2.2.2.2.2.2.2.1, h.2.2.2.2.2.2.2.2.2.2.2.2.2.2.2.2.1, h.2.2.2.2.2.2.2.2.2.2.2.2.2.2.2.2.2.1, hx, h.2.2.2.2.2.2.2.2.2.2.2.2.2.2.2.2.2.2.2.1, h.2.2.2.2.2.2.2.2.2.2.2.2.2.2.2.2.2.2.2.2.1, h.2.2.2.2.2.2.2.2.2.2.2.2.2.2.2.2.2.2.2.2.2.1, h.2.2.2.2.2.2.2.2.2.2.2.2.2.2.2.2.2.2.2.2.2.2.1, h.2.2.2.2.2.2.2.2.2.2.2.2.2.2.2.2.2.2.2.2.2.2.2.1, h.2.2.2.2.2.2.2.2.2.2.2.2.2.2.2.2.2.2.2.2.2.2.2.2.1, h.2.2.2.2.2.2.2.2.2.2.2.2.2.2.2.2.2.2.2.2.2.2.2.2.2.1, h.2.2.2.2.2.2.2.2.2.2.2.2.2.2.2.2.2.2.2.2.2.2.2.2.2.2.1, h.2.2.2.2.2.2.2.2.2.2.2.2.2.2.2.2.2.2.2.2.2.2.2.2.2.2.2.1, h.2.2.2.2.2.2.2.2.2.2.2.2.2.2.2.2.2.2.2.2.2.2.2.2.2.2.2.2⟩
theorem Sh_l_posOf {m : Int32} {o : Ob} (h : Sh m o) : (f_posOf o).length = 16 := h.2.2.2.2.2.2.2.2.2.2.2.2.2.2.2.2.2.2.1
theorem Sh_order {m : Int32} {o : Ob} {x : List Int32} (h : Sh m o) (hx : x.length = 16) : Sh m (s_order o x) := by
  dsimp only [Sh, f_bOp, f_bD, f_bS, f_bImm, f_bTerm, f_bTest, f_bT0, f_bT1, f_cnt0, f_cnt1, f_regs, f_outs, f_edgeId, f_edgeW, f_chNext, f_chPrev, f_chHead, f_heat, f_posOf, f_order, f_cOp, f_cD, f_cS, f_cImm, f_cKind, f_cTest, f_cTaken, f_cOther, f_maxSteps, s_order] at h ⊢
  exact ⟨h.1, h.2.1, h.2.2.1, h.2.2.2.1, h.2.2.2.2.1, h.2.2.2.2.2.1, h.2.2.2.2.2.2.1, h.2.2.2.2.2.2.2.1, h.2.2.2.2.2.2.2.2.1, h.2.2.2.2.2.2.2.2.2.1, h.2.2.2.2.2.2.2.2.2.2.1, h.2.2.2.2.2.2.2.2.2.2.2.1, h.2.2.2.2.2.2.2.2.2.2.2.2.1, h.2.2.2.2.2.2.2.2.2.2.2.2.2.1, h.2.2.2.2.2.2.2.2.2.2.2.2.2.2.1, h.2.2.2.2.2.2.2.2.2.2.2.2.2.2.2.1, h.2.2.2.2.2.2.2.2.2.2.2.2.2.2.2.2.1, h.2.2.2.2.2.2.2.2.2.2.2.2.2.2.2.2.2.1, h.2.2.2.2.2.2.2.2.2.2.2.2.2.2.2.2.2.2.1, hx, h.2.2.2.2.2.2.2.2.2.2.2.2.2.2.2.2.2.2.2.2.1, h.2.2.2.2.2.2.2.2.2.2.2.2.2.2.2.2.2.2.2.2.2.1, h.2.2.2.2.2.2.2.2.2.2.2.2.2.2.2.2.2.2.2.2.2.2.1, h.2.2.2.2.2.2.2.2.2.2.2.2.2.2.2.2.2.2.2.2.2.2.2.1, h.2.2.2.2.2.2.2.2.2.2.2.2.2.2.2.2.2.2.2.2.2.2.2.2.1, h.2.2.2.2.2.2.2.2.2.2.2.2.2.2.2.2.2.2.2.2.2.2.2.2.2.1, h.2.2.2.2.2.2.2.2.2.2.2.2.2.2.2.2.2.2.2.2.2.2.2.2.2.2.1, h.2.2.2.2.2.2.2.2.2.2.2.2.2.2.2.2.2.2.2.2.2.2.2.2.2.2.2.1, h.2.2.2.2.2.2.2.2.2.2.2.2.2.2.2.2.2.2.2.2.2.2.2.2.2.2.2.2⟩
theorem Sh_l_order {m : Int32} {o : Ob} (h : Sh m o) : (f_order o).length = 16 := h.2.2.2.2.2.2.2.2.2.2.2.2.2.2.2.2.2.2.2.1
theorem Sh_cOp {m : Int32} {o : Ob} {x : List Int32} (h : Sh m o) (hx : x.length = 16) : Sh m (s_cOp o x) := by
  dsimp only [Sh, f_bOp, f_bD, f_bS, f_bImm, f_bTerm, f_bTest, f_bT0, f_bT1, f_cnt0, f_cnt1, f_regs, f_outs, f_edgeId, f_edgeW, f_chNext, f_chPrev, f_chHead, f_heat, f_posOf, f_order, f_cOp, f_cD, f_cS, f_cImm, f_cKind, f_cTest, f_cTaken, f_cOther, f_maxSteps, s_cOp] at h ⊢
  exact ⟨h.1, h.2.1, h.2.2.1, h.2.2.2.1, h.2.2.2.2.1, h.2.2.2.2.2.1, h.2.2.2.2.2.2.1, h.2.2.2.2.2.2.2.1, h.2.2.2.2.2.2.2.2.1, h.2.2.2.2.2.2.2.2.2.1, h.2.2.2.2.2.2.2.2.2.2.1, h.2.2.2.2.2.2.2.2.2.2.2.1, h.2.2.2.2.2.2.2.2.2.2.2.2.1, h.2.2.2.2.2.2.2.2.2.2.2.2.2.1, h.2.2.2.2.2.2.2.2.2.2.2.2.2.2.1, h.2.2.2.2.2.2.2.2.2.2.2.2.2.2.2.1, h.2.2.2.2.2.2.2.2.2.2.2.2.2.2.2.2.1, h.2.2.2.2.2.2.2.2.2.2.2.2.2.2.2.2.2.1, h.2.2.2.2.2.2.2.2.2.2.2.2.2.2.2.2.2.2.1, h.2.2.2.2.2.2.2.2.2.2.2.2.2.2.2.2.2.2.2.1, hx, h.2.2.2.2.2.2.2.2.2.2.2.2.2.2.2.2.2.2.2.2.2.1, h.2.2.2.2.2.2.2.2.2.2.2.2.2.2.2.2.2.2.2.2.2.2.1, h.2.2.2.2.2.2.2.2.2.2.2.2.2.2.2.2.2.2.2.2.2.2.2.1, h.2.2.2.2.2.2.2.2.2.2.2.2.2.2.2.2.2.2.2.2.2.2.2.2.1, h.2.2.2.2.2.2.2.2.2.2.2.2.2.2.2.2.2.2.2.2.2.2.2.2.2.1, h.2.2.2.2.2.2.2.2.2.2.2.2.2.2.2.2.2.2.2.2.2.2.2.2.2.2.1, h.2.2.2.2.2.2.2.2.2.2.2.2.2.2.2.2.2.2.2.2.2.2.2.2.2.2.2.1, h.2.2.2.2.2.2.2.2.2.2.2.2.2.2.2.2.2.2.2.2.2.2.2.2.2.2.2.2⟩
theorem Sh_l_cOp {m : Int32} {o : Ob} (h : Sh m o) : (f_cOp o).length = 16 := h.2.2.2.2.2.2.2.2.2.2.2.2.2.2.2.2.2.2.2.2.1
theorem Sh_cD {m : Int32} {o : Ob} {x : List Int32} (h : Sh m o) (hx : x.length = 16) : Sh m (s_cD o x) := by
  dsimp only [Sh, f_bOp, f_bD, f_bS, f_bImm, f_bTerm, f_bTest, f_bT0, f_bT1, f_cnt0, f_cnt1, f_regs, f_outs, f_edgeId, f_edgeW, f_chNext, f_chPrev, f_chHead, f_heat, f_posOf, f_order, f_cOp, f_cD, f_cS, f_cImm, f_cKind, f_cTest, f_cTaken, f_cOther, f_maxSteps, s_cD] at h ⊢
  exact ⟨h.1, h.2.1, h.2.2.1, h.2.2.2.1, h.2.2.2.2.1, h.2.2.2.2.2.1, h.2.2.2.2.2.2.1, h.2.2.2.2.2.2.2.1, h.2.2.2.2.2.2.2.2.1, h.2.2.2.2.2.2.2.2.2.1, h.2.2.2.2.2.2.2.2.2.2.1, h.2.2.2.2.2.2.2.2.2.2.2.1, h.2.2.2.2.2.2.2.2.2.2.2.2.1, h.2.2.2.2.2.2.2.2.2.2.2.2.2.1, h.2.2.2.2.2.2.2.2.2.2.2.2.2.2.1, h.2.2.2.2.2.2.2.2.2.2.2.2.2.2.2.1, h.2.2.2.2.2.2.2.2.2.2.2.2.2.2.2.2.1, h.2.2.2.2.2.2.2.2.2.2.2.2.2.2.2.2.2.1, h.2.2.2.2.2.2.2.2.2.2.2.2.2.2.2.2.2.2.1, h.2.2.2.2.2.2.2.2.2.2.2.2.2.2.2.2.2.2.2.1, h.2.2.2.2.2.2.2.2.2.2.2.2.2.2.2.2.2.2.2.2.1, hx, h.2.2.2.2.2.2.2.2.2.2.2.2.2.2.2.2.2.2.2.2.2.2.1, h.2.2.2.2.2.2.2.2.2.2.2.2.2.2.2.2.2.2.2.2.2.2.2.1, h.2.2.2.2.2.2.2.2.2.2.2.2.2.2.2.2.2.2.2.2.2.2.2.2.1, h.2.2.2.2.2.2.2.2.2.2.2.2.2.2.2.2.2.2.2.2.2.2.2.2.2.1, h.2.2.2.2.2.2.2.2.2.2.2.2.2.2.2.2.2.2.2.2.2.2.2.2.2.2.1, h.2.2.2.2.2.2.2.2.2.2.2.2.2.2.2.2.2.2.2.2.2.2.2.2.2.2.2.1, h.2.2.2.2.2.2.2.2.2.2.2.2.2.2.2.2.2.2.2.2.2.2.2.2.2.2.2.2⟩
theorem Sh_l_cD {m : Int32} {o : Ob} (h : Sh m o) : (f_cD o).length = 16 := h.2.2.2.2.2.2.2.2.2.2.2.2.2.2.2.2.2.2.2.2.2.1
theorem Sh_cS {m : Int32} {o : Ob} {x : List Int32} (h : Sh m o) (hx : x.length = 16) : Sh m (s_cS o x) := by
  dsimp only [Sh, f_bOp, f_bD, f_bS, f_bImm, f_bTerm, f_bTest, f_bT0, f_bT1, f_cnt0, f_cnt1, f_regs, f_outs, f_edgeId, f_edgeW, f_chNext, f_chPrev, f_chHead, f_heat, f_posOf, f_order, f_cOp, f_cD, f_cS, f_cImm, f_cKind, f_cTest, f_cTaken, f_cOther, f_maxSteps, s_cS] at h ⊢
  exact ⟨h.1, h.2.1, h.2.2.1, h.2.2.2.1, h.2.2.2.2.1, h.2.2.2.2.2.1, h.2.2.2.2.2.2.1, h.2.2.2.2.2.2.2.1, h.2.2.2.2.2.2.2.2.1, h.2.2.2.2.2.2.2.2.2.1, h.2.2.2.2.2.2.2.2.2.2.1, h.2.2.2.2.2.2.2.2.2.2.2.1, h.2.2.2.2.2.2.2.2.2.2.2.2.1, h.2.2.2.2.2.2.2.2.2.2.2.2.2.1, h.2.2.2.2.2.2.2.2.2.2.2.2.2.2.1, h.2.2.2.2.2.2.2.2.2.2.2.2.2.2.2.1, h.2.2.2.2.2.2.2.2.2.2.2.2.2.2.2.2.1, h.2.2.2.2.2.2.2.2.2.2.2.2.2.2.2.2.2.1, h.2.2.2.2.2.2.2.2.2.2.2.2.2.2.2.2.2.2.1, h.2.2.2.2.2.2.2.2.2.2.2.2.2.2.2.2.2.2.2.1, h.2.2.2.2.2.2.2.2.2.2.2.2.2.2.2.2.2.2.2.2.1, h.2.2.2.2.2.2.2.2.2.2.2.2.2.2.2.2.2.2.2.2.2.1, hx, h.2.2.2.2.2.2.2.2.2.2.2.2.2.2.2.2.2.2.2.2.2.2.2.1, h.2.2.2.2.2.2.2.2.2.2.2.2.2.2.2.2.2.2.2.2.2.2.2.2.1, h.2.2.2.2.2.2.2.2.2.2.2.2.2.2.2.2.2.2.2.2.2.2.2.2.2.1, h.2.2.2.2.2.2.2.2.2.2.2.2.2.2.2.2.2.2.2.2.2.2.2.2.2.2.1, h.2.2.2.2.2.2.2.2.2.2.2.2.2.2.2.2.2.2.2.2.2.2.2.2.2.2.2.1, h.2.2.2.2.2.2.2.2.2.2.2.2.2.2.2.2.2.2.2.2.2.2.2.2.2.2.2.2⟩
theorem Sh_l_cS {m : Int32} {o : Ob} (h : Sh m o) : (f_cS o).length = 16 := h.2.2.2.2.2.2.2.2.2.2.2.2.2.2.2.2.2.2.2.2.2.2.1
theorem Sh_cImm {m : Int32} {o : Ob} {x : List Int32} (h : Sh m o) (hx : x.length = 16) : Sh m (s_cImm o x) := by
  dsimp only [Sh, f_bOp, f_bD, f_bS, f_bImm, f_bTerm, f_bTest, f_bT0, f_bT1, f_cnt0, f_cnt1, f_regs, f_outs, f_edgeId, f_edgeW, f_chNext, f_chPrev, f_chHead, f_heat, f_posOf, f_order, f_cOp, f_cD, f_cS, f_cImm, f_cKind, f_cTest, f_cTaken, f_cOther, f_maxSteps, s_cImm] at h ⊢
  exact ⟨h.1, h.2.1, h.2.2.1, h.2.2.2.1, h.2.2.2.2.1, h.2.2.2.2.2.1, h.2.2.2.2.2.2.1, h.2.2.2.2.2.2.2.1, h.2.2.2.2.2.2.2.2.1, h.2.2.2.2.2.2.2.2.2.1, h.2.2.2.2.2.2.2.2.2.2.1, h.2.2.2.2.2.2.2.2.2.2.2.1, h.2.2.2.2.2.2.2.2.2.2.2.2.1, h.2.2.2.2.2.2.2.2.2.2.2.2.2.1, h.2.2.2.2.2.2.2.2.2.2.2.2.2.2.1, h.2.2.2.2.2.2.2.2.2.2.2.2.2.2.2.1, h.2.2.2.2.2.2.2.2.2.2.2.2.2.2.2.2.1, h.2.2.2.2.2.2.2.2.2.2.2.2.2.2.2.2.2.1, h.2.2.2.2.2.2.2.2.2.2.2.2.2.2.2.2.2.2.1, h.2.2.2.2.2.2.2.2.2.2.2.2.2.2.2.2.2.2.2.1, h.2.2.2.2.2.2.2.2.2.2.2.2.2.2.2.2.2.2.2.2.1, h.2.2.2.2.2.2.2.2.2.2.2.2.2.2.2.2.2.2.2.2.2.1, h.2.2.2.2.2.2.2.2.2.2.2.2.2.2.2.2.2.2.2.2.2.2.1, hx, h.2.2.2.2.2.2.2.2.2.2.2.2.2.2.2.2.2.2.2.2.2.2.2.2.1, h.2.2.2.2.2.2.2.2.2.2.2.2.2.2.2.2.2.2.2.2.2.2.2.2.2.1, h.2.2.2.2.2.2.2.2.2.2.2.2.2.2.2.2.2.2.2.2.2.2.2.2.2.2.1, h.2.2.2.2.2.2.2.2.2.2.2.2.2.2.2.2.2.2.2.2.2.2.2.2.2.2.2.1, h.2.2.2.2.2.2.2.2.2.2.2.2.2.2.2.2.2.2.2.2.2.2.2.2.2.2.2.2⟩
theorem Sh_l_cImm {m : Int32} {o : Ob} (h : Sh m o) : (f_cImm o).length = 16 := h.2.2.2.2.2.2.2.2.2.2.2.2.2.2.2.2.2.2.2.2.2.2.2.1
theorem Sh_cKind {m : Int32} {o : Ob} {x : List Int32} (h : Sh m o) (hx : x.length = 16) : Sh m (s_cKind o x) := by
  dsimp only [Sh, f_bOp, f_bD, f_bS, f_bImm, f_bTerm, f_bTest, f_bT0, f_bT1, f_cnt0, f_cnt1, f_regs, f_outs, f_edgeId, f_edgeW, f_chNext, f_chPrev, f_chHead, f_heat, f_posOf, f_order, f_cOp, f_cD, f_cS, f_cImm, f_cKind, f_cTest, f_cTaken, f_cOther, f_maxSteps, s_cKind] at h ⊢
  exact ⟨h.1, h.2.1, h.2.2.1, h.2.2.2.1, h.2.2.2.2.1, h.2.2.2.2.2.1, h.2.2.2.2.2.2.1, h.2.2.2.2.2.2.2.1, h.2.2.2.2.2.2.2.2.1, h.2.2.2.2.2.2.2.2.2.1, h.2.2.2.2.2.2.2.2.2.2.1, h.2.2.2.2.2.2.2.2.2.2.2.1, h.2.2.2.2.2.2.2.2.2.2.2.2.1, h.2.2.2.2.2.2.2.2.2.2.2.2.2.1, h.2.2.2.2.2.2.2.2.2.2.2.2.2.2.1, h.2.2.2.2.2.2.2.2.2.2.2.2.2.2.2.1, h.2.2.2.2.2.2.2.2.2.2.2.2.2.2.2.2.1, h.2.2.2.2.2.2.2.2.2.2.2.2.2.2.2.2.2.1, h.2.2.2.2.2.2.2.2.2.2.2.2.2.2.2.2.2.2.1, h.2.2.2.2.2.2.2.2.2.2.2.2.2.2.2.2.2.2.2.1, h.2.2.2.2.2.2.2.2.2.2.2.2.2.2.2.2.2.2.2.2.1, h.2.2.2.2.2.2.2.2.2.2.2.2.2.2.2.2.2.2.2.2.2.1, h.2.2.2.2.2.2.2.2.2.2.2.2.2.2.2.2.2.2.2.2.2.2.1, h.2.2.2.2.2.2.2.2.2.2.2.2.2.2.2.2.2.2.2.2.2.2.2.1, hx, h.2.2.2.2.2.2.2.2.2.2.2.2.2.2.2.2.2.2.2.2.2.2.2.2.2.1, h.2.2.2.2.2.2.2.2.2.2.2.2.2.2.2.2.2.2.2.2.2.2.2.2.2.2.1, h.2.2.2.2.2.2.2.2.2.2.2.2.2.2.2.2.2.2.2.2.2.2.2.2.2.2.2.1, h.2.2.2.2.2.2.2.2.2.2.2.2.2.2.2.2.2.2.2.2.2.2.2.2.2.2.2.2⟩
theorem Sh_l_cKind {m : Int32} {o : Ob} (h : Sh m o) : (f_cKind o).length = 16 := h.2.2.2.2.2.2.2.2.2.2.2.2.2.2.2.2.2.2.2.2.2.2.2.2.1
theorem Sh_cTest {m : Int32} {o : Ob} {x : List Int32} (h : Sh m o) (hx : x.length = 16) : Sh m (s_cTest o x) := by
  dsimp only [Sh, f_bOp, f_bD, f_bS, f_bImm, f_bTerm, f_bTest, f_bT0, f_bT1, f_cnt0, f_cnt1, f_regs, f_outs, f_edgeId, f_edgeW, f_chNext, f_chPrev, f_chHead, f_heat, f_posOf, f_order, f_cOp, f_cD, f_cS, f_cImm, f_cKind, f_cTest, f_cTaken, f_cOther, f_maxSteps, s_cTest] at h ⊢
  exact ⟨h.1, h.2.1, h.2.2.1, h.2.2.2.1, h.2.2.2.2.1, h.2.2.2.2.2.1, h.2.2.2.2.2.2.1, h.2.2.2.2.2.2.2.1, h.2.2.2.2.2.2.2.2.1, h.2.2.2.2.2.2.2.2.2.1, h.2.2.2.2.2.2.2.2.2.2.1, h.2.2.2.2.2.2.2.2.2.2.2.1, h.2.2.2.2.2.2.2.2.2.2.2.2.1, h.2.2.2.2.2.2.2.2.2.2.2.2.2.1, h.2.2.2.2.2.2.2.2.2.2.2.2.2.2.1, h.2.2.2.2.2.2.2.2.2.2.2.2.2.2.2.1, h.2.2.2.2.2.2.2.2.2.2.2.2.2.2.2.2.1, h.2.2.2.2.2.2.2.2.2.2.2.2.2.2.2.2.2.1, h.2.2.2.2.2.2.2.2.2.2.2.2.2.2.2.2.2.2.1, h.2.2.2.2.2.2.2.2.2.2.2.2.2.2.2.2.2.2.2.1, h.2.2.2.2.2.2.2.2.2.2.2.2.2.2.2.2.2.2.2.2.1, h.2.2.2.2.2.2.2.2.2.2.2.2.2.2.2.2.2.2.2.2.2.1, h.2.2.2.2.2.2.2.2.2.2.2.2.2.2.2.2.2.2.2.2.2.2.1, h.2.2.2.2.2.2.2.2.2.2.2.2.2.2.2.2.2.2.2.2.2.2.2.1, h.2.2.2.2.2.2.2.2.2.2.2.2.2.2.2.2.2.2.2.2.2.2.2.2.1, hx, h.2.2.2.2.2.2.2.2.2.2.2.2.2.2.2.2.2.2.2.2.2.2.2.2.2.2.1, h.2.2.2.2.2.2.2.2.2.2.2.2.2.2.2.2.2.2.2.2.2.2.2.2.2.2.2.1, h.2.2.2.2.2.2.2.2.2.2.2.2.2.2.2.2.2.2.2.2.2.2.2.2.2.2.2.2⟩
theorem Sh_l_cTest {m : Int32} {o : Ob} (h : Sh m o) : (f_cTest o).length = 16 := h.2.2.2.2.2.2.2.2.2.2.2.2.2.2.2.2.2.2.2.2.2.2.2.2.2.1
theorem Sh_cTaken {m : Int32} {o : Ob} {x : List Int32} (h : Sh m o) (hx : x.length = 16) : Sh m (s_cTaken o x) := by
  dsimp only [Sh, f_bOp, f_bD, f_bS, f_bImm, f_bTerm, f_bTest, f_bT0, f_bT1, f_cnt0, f_cnt1, f_regs, f_outs, f_edgeId, f_edgeW, f_chNext, f_chPrev, f_chHead, f_heat, f_posOf, f_order, f_cOp, f_cD, f_cS, f_cImm, f_cKind, f_cTest, f_cTaken, f_cOther, f_maxSteps, s_cTaken] at h ⊢
  exact ⟨h.1, h.2.1, h.2.2.1, h.2.2.2.1, h.2.2.2.2.1, h.2.2.2.2.2.1, h.2.2.2.2.2.2.1, h.2.2.2.2.2.2.2.1, h.2.2.2.2.2.2.2.2.1, h.2.2.2.2.2.2.2.2.2.1, h.2.2.2.2.2.2.2.2.2.2.1, h.2.2.2.2.2.2.2.2.2.2.2.1, h.2.2.2.2.2.2.2.2.2.2.2.2.1, h.2.2.2.2.2.2.2.2.2.2.2.2.2.1, h.2.2.2.2.2.2.2.2.2.2.2.2.2.2.1, h.2.2.2.2.2.2.2.2.2.2.2.2.2.2.2.1, h.2.2.2.2.2.2.2.2.2.2.2.2.2.2.2.2.1, h.2.2.2.2.2.2.2.2.2.2.2.2.2.2.2.2.2.1, h.2.2.2.2.2.2.2.2.2.2.2.2.2.2.2.2.2.2.1, h.2.2.2.2.2.2.2.2.2.2.2.2.2.2.2.2.2.2.2.1, h.2.2.2.2.2.2.2.2.2.2.2.2.2.2.2.2.2.2.2.2.1, h.2.2.2.2.2.2.2.2.2.2.2.2.2.2.2.2.2.2.2.2.2.1, h.2.2.2.2.2.2.2.2.2.2.2.2.2.2.2.2.2.2.2.2.2.2.1, h.2.2.2.2.2.2.2.2.2.2.2.2.2.2.2.2.2.2.2.2.2.2.2.1, h.2.2.2.2.2.2.2.2.2.2.2.2.2.2.2.2.2.2.2.2.2.2.2.2.1, h.2.2.2.2.2.2.2.2.2.2.2.2.2.2.2.2.2.2.2.2.2.2.2.2.2.1, hx, h.2.2.2.2.2.2.2.2.2.2.2.2.2.2.2.2.2.2.2.2.2.2.2.2.2.2.2.1, h.2.2.2.2.2.2.2.2.2.2.2.2.2.2.2.2.2.2.2.2.2.2.2.2.2.2.2.2⟩
theorem Sh_l_cTaken {m : Int32} {o : Ob} (h : Sh m o) : (f_cTaken o).length = 16 := h.2.2.2.2.2.2.2.2.2.2.2.2.2.2.2.2.2.2.2.2.2.2.2.2.2.2.1
theorem Sh_cOther {m : Int32} {o : Ob} {x : List Int32} (h : Sh m o) (hx : x.length = 16) : Sh m (s_cOther o x) := by
  dsimp only [Sh, f_bOp, f_bD, f_bS, f_bImm, f_bTerm, f_bTest, f_bT0, f_bT1, f_cnt0, f_cnt1, f_regs, f_outs, f_edgeId, f_edgeW, f_chNext, f_chPrev, f_chHead, f_heat, f_posOf, f_order, f_cOp, f_cD, f_cS, f_cImm, f_cKind, f_cTest, f_cTaken, f_cOther, f_maxSteps, s_cOther] at h ⊢
  exact ⟨h.1, h.2.1, h.2.2.1, h.2.2.2.1, h.2.2.2.2.1, h.2.2.2.2.2.1, h.2.2.2.2.2.2.1, h.2.2.2.2.2.2.2.1, h.2.2.2.2.2.2.2.2.1, h.2.2.2.2.2.2.2.2.2.1, h.2.2.2.2.2.2.2.2.2.2.1, h.2.2.2.2.2.2.2.2.2.2.2.1, h.2.2.2.2.2.2.2.2.2.2.2.2.1, h.2.2.2.2.2.2.2.2.2.2.2.2.2.1, h.2.2.2.2.2.2.2.2.2.2.2.2.2.2.1, h.2.2.2.2.2.2.2.2.2.2.2.2.2.2.2.1, h.2.2.2.2.2.2.2.2.2.2.2.2.2.2.2.2.1, h.2.2.2.2.2.2.2.2.2.2.2.2.2.2.2.2.2.1, h.2.2.2.2.2.2.2.2.2.2.2.2.2.2.2.2.2.2.1, h.2.2.2.2.2.2.2.2.2.2.2.2.2.2.2.2.2.2.2.1, h.2.2.2.2.2.2.2.2.2.2.2.2.2.2.2.2.2.2.2.2.1, h.2.2.2.2.2.2.2.2.2.2.2.2.2.2.2.2.2.2.2.2.2.1, h.2.2.2.2.2.2.2.2.2.2.2.2.2.2.2.2.2.2.2.2.2.2.1, h.2.2.2.2.2.2.2.2.2.2.2.2.2.2.2.2.2.2.2.2.2.2.2.1, h.2.2.2.2.2.2.2.2.2.2.2.2.2.2.2.2.2.2.2.2.2.2.2.2.1, h.2.2.2.2.2.2.2.2.2.2.2.2.2.2.2.2.2.2.2.2.2.2.2.2.2.1, h.2.2.2.2.2.2.2.2.2.2.2.2.2.2.2.2.2.2.2.2.2.2.2.2.2.2.1, hx, h.2.2.2.2.2.2.2.2.2.2.2.2.2.2.2.2.2.2.2.2.2.2.2.2.2.2.2.2⟩
theorem Sh_l_cOther {m : Int32} {o : Ob} (h : Sh m o) : (f_cOther o).length = 16 := h.2.2.2.2.2.2.2.2.2.2.2.2.2.2.2.2.2.2.2.2.2.2.2.2.2.2.2.1
theorem Sh_maxBlocks {m : Int32} {o : Ob} {x : Int32} (h : Sh m o) : Sh m (s_maxBlocks o x) := by
  dsimp only [Sh, f_bOp, f_bD, f_bS, f_bImm, f_bTerm, f_bTest, f_bT0, f_bT1, f_cnt0, f_cnt1, f_regs, f_outs, f_edgeId, f_edgeW, f_chNext, f_chPrev, f_chHead, f_heat, f_posOf, f_order, f_cOp, f_cD, f_cS, f_cImm, f_cKind, f_cTest, f_cTaken, f_cOther, f_maxSteps, s_maxBlocks] at h ⊢
  exact h
theorem Sh_n {m : Int32} {o : Ob} {x : Int32} (h : Sh m o) : Sh m (s_n o x) := by
  dsimp only [Sh, f_bOp, f_bD, f_bS, f_bImm, f_bTerm, f_bTest, f_bT0, f_bT1, f_cnt0, f_cnt1, f_regs, f_outs, f_edgeId, f_edgeW, f_chNext, f_chPrev, f_chHead, f_heat, f_posOf, f_order, f_cOp, f_cD, f_cS, f_cImm, f_cKind, f_cTest, f_cTaken, f_cOther, f_maxSteps, s_n] at h ⊢
  exact h
theorem Sh_arranged {m : Int32} {o : Ob} {x : Int32} (h : Sh m o) : Sh m (s_arranged o x) := by
  dsimp only [Sh, f_bOp, f_bD, f_bS, f_bImm, f_bTerm, f_bTest, f_bT0, f_bT1, f_cnt0, f_cnt1, f_regs, f_outs, f_edgeId, f_edgeW, f_chNext, f_chPrev, f_chHead, f_heat, f_posOf, f_order, f_cOp, f_cD, f_cS, f_cImm, f_cKind, f_cTest, f_cTaken, f_cOther, f_maxSteps, s_arranged] at h ⊢
  exact h
theorem Sh_outCount {m : Int32} {o : Ob} {x : Int32} (h : Sh m o) : Sh m (s_outCount o x) := by
  dsimp only [Sh, f_bOp, f_bD, f_bS, f_bImm, f_bTerm, f_bTest, f_bT0, f_bT1, f_cnt0, f_cnt1, f_regs, f_outs, f_edgeId, f_edgeW, f_chNext, f_chPrev, f_chHead, f_heat, f_posOf, f_order, f_cOp, f_cD, f_cS, f_cImm, f_cKind, f_cTest, f_cTaken, f_cOther, f_maxSteps, s_outCount] at h ⊢
  exact h
theorem Sh_steps {m : Int32} {o : Ob} {x : Int32} (h : Sh m o) : Sh m (s_steps o x) := by
  dsimp only [Sh, f_bOp, f_bD, f_bS, f_bImm, f_bTerm, f_bTest, f_bT0, f_bT1, f_cnt0, f_cnt1, f_regs, f_outs, f_edgeId, f_edgeW, f_chNext, f_chPrev, f_chHead, f_heat, f_posOf, f_order, f_cOp, f_cD, f_cS, f_cImm, f_cKind, f_cTest, f_cTaken, f_cOther, f_maxSteps, s_steps] at h ⊢
  exact h
theorem Sh_status {m : Int32} {o : Ob} {x : Int32} (h : Sh m o) : Sh m (s_status o x) := by
  dsimp only [Sh, f_bOp, f_bD, f_bS, f_bImm, f_bTerm, f_bTest, f_bT0, f_bT1, f_cnt0, f_cnt1, f_regs, f_outs, f_edgeId, f_edgeW, f_chNext, f_chPrev, f_chHead, f_heat, f_posOf, f_order, f_cOp, f_cD, f_cS, f_cImm, f_cKind, f_cTest, f_cTaken, f_cOther, f_maxSteps, s_status] at h ⊢
  exact h
theorem gs_bOp (o : Ob) (v : List Int32) : f_bOp (s_bOp o v) = v ∧ f_bD (s_bOp o v) = f_bD o ∧ f_bS (s_bOp o v) = f_bS o ∧ f_bImm (s_bOp o v) = f_bImm o ∧ f_bTerm (s_bOp o v) = f_bTerm o ∧ f_bTest (s_bOp o v) = f_bTest o ∧ f_bT0 (s_bOp o v) = f_bT0 o ∧ f_bT1 (s_bOp o v) = f_bT1 o ∧ f_cnt0 (s_bOp o v) = f_cnt0 o ∧ f_cnt1 (s_bOp o v) = f_cnt1 o ∧ f_regs (s_bOp o v) = f_regs o ∧ f_outs (s_bOp o v) = f_outs o ∧ f_edgeId (s_bOp o v) = f_edgeId o ∧ f_edgeW (s_bOp o v) = f_edgeW o ∧ f_chNext (s_bOp o v) = f_chNext o ∧ f_chPrev (s_bOp o v) = f_chPrev o ∧ f_chHead (s_bOp o v) = f_chHead o ∧ f_heat (s_bOp o v) = f_heat o ∧ f_posOf (s_bOp o v) = f_posOf o ∧ f_order (s_bOp o v) = f_order o ∧ f_cOp (s_bOp o v) = f_cOp o ∧ f_cD (s_bOp o v) = f_cD o ∧ f_cS (s_bOp o v) = f_cS o ∧ f_cImm (s_bOp o v) = f_cImm o ∧ f_cKind (s_bOp o v) = f_cKind o ∧ f_cTest (s_bOp o v) = f_cTest o ∧ f_cTaken (s_bOp o v) = f_cTaken o ∧ f_cOther (s_bOp o v) = f_cOther o ∧ f_maxBlocks (s_bOp o v) = f_maxBlocks o ∧ f_maxSteps (s_bOp o v) = f_maxSteps o ∧ f_n (s_bOp o v) = f_n o ∧ f_arranged (s_bOp o v) = f_arranged o ∧ f_outCount (s_bOp o v) = f_outCount o ∧ f_steps (s_bOp o v) = f_steps o ∧ f_status (s_bOp o v) = f_status o := by
  simp only [f_bOp, f_bD, f_bS, f_bImm, f_bTerm, f_bTest, f_bT0, f_bT1, f_cnt0, f_cnt1, f_regs, f_outs, f_edgeId, f_edgeW, f_chNext, f_chPrev, f_chHead, f_heat, f_posOf, f_order, f_cOp, f_cD, f_cS, f_cImm, f_cKind, f_cTest, f_cTaken, f_cOther, f_maxBlocks, f_maxSteps, f_n, f_arranged, f_outCount, f_steps, f_status, s_bOp, and_self]
theorem gs_bD (o : Ob) (v : List Int32) : f_bOp (s_bD o v) = f_bOp o ∧ f_bD (s_bD o v) = v ∧ f_bS (s_bD o v) = f_bS o ∧ f_bImm (s_bD o v) = f_bImm o ∧ f_bTerm (s_bD o v) = f_bTerm o ∧ f_bTest (s_bD o v) = f_bTest o ∧ f_bT0 (s_bD o v) = f_bT0 o ∧ f_bT1 (s_bD o v) = f_bT1 o ∧ f_cnt0 (s_bD o v) = f_cnt0 o ∧ f_cnt1 (s_bD o v) = f_cnt1 o ∧ f_regs (s_bD o v) = f_regs o ∧ f_outs (s_bD o v) = f_outs o ∧ f_edgeId (s_bD o v) = f_edgeId o ∧ f_edgeW (s_bD o v) = f_edgeW o ∧ f_chNext (s_bD o v) = f_chNext o ∧ f_chPrev (s_bD o v) = f_chPrev o ∧ f_chHead (s_bD o v) = f_chHead o ∧ f_heat (s_bD o v) = f_heat o ∧ f_posOf (s_bD o v) = f_posOf o ∧ f_order (s_bD o v) = f_order o ∧ f_cOp (s_bD o v) = f_cOp o ∧ f_cD (s_bD o v) = f_cD o ∧ f_cS (s_bD o v) = f_cS o ∧ f_cImm (s_bD o v) = f_cImm o ∧ f_cKind (s_bD o v) = f_cKind o ∧ f_cTest (s_bD o v) = f_cTest o ∧ f_cTaken (s_bD o v) = f_cTaken o ∧ f_cOther (s_bD o v) = f_cOther o ∧ f_maxBlocks (s_bD o v) = f_maxBlocks o ∧ f_maxSteps (s_bD o v) = f_maxSteps o ∧ f_n (s_bD o v) = f_n o ∧ f_arranged (s_bD o v) = f_arranged o ∧ f_outCount (s_bD o v) = f_outCount o ∧ f_steps (s_bD o v) = f_steps o ∧ f_status (s_bD o v) = f_status o := by
  simp only [f_bOp, f_bD, f_bS, f_bImm, f_bTerm, f_bTest, f_bT0, f_bT1, f_cnt0, f_cnt1, f_regs, f_outs, f_edgeId, f_edgeW, f_chNext, f_chPrev, f_chHead, f_heat, f_posOf, f_order, f_cOp, f_cD, f_cS, f_cImm, f_cKind, f_cTest, f_cTaken, f_cOther, f_maxBlocks, f_maxSteps, f_n, f_arranged, f_outCount, f_steps, f_status, s_bD, and_self]
theorem gs_bS (o : Ob) (v : List Int32) : f_bOp (s_bS o v) = f_bOp o ∧ f_bD (s_bS o v) = f_bD o ∧ f_bS (s_bS o v) = v ∧ f_bImm (s_bS o v) = f_bImm o ∧ f_bTerm (s_bS o v) = f_bTerm o ∧ f_bTest (s_bS o v) = f_bTest o ∧ f_bT0 (s_bS o v) = f_bT0 o ∧ f_bT1 (s_bS o v) = f_bT1 o ∧ f_cnt0 (s_bS o v) = f_cnt0 o ∧ f_cnt1 (s_bS o v) = f_cnt1 o ∧ f_regs (s_bS o v) = f_regs o ∧ f_outs (s_bS o v) = f_outs o ∧ f_edgeId (s_bS o v) = f_edgeId o ∧ f_edgeW (s_bS o v) = f_edgeW o ∧ f_chNext (s_bS o v) = f_chNext o ∧ f_chPrev (s_bS o v) = f_chPrev o ∧ f_chHead (s_bS o v) = f_chHead o ∧ f_heat (s_bS o v) = f_heat o ∧ f_posOf (s_bS o v) = f_posOf o ∧ f_order (s_bS o v) = f_order o ∧ f_cOp (s_bS o v) = f_cOp o ∧ f_cD (s_bS o v) = f_cD o ∧ f_cS (s_bS o v) = f_cS o ∧ f_cImm (s_bS o v) = f_cImm o ∧ f_cKind (s_bS o v) = f_cKind o ∧ f_cTest (s_bS o v) = f_cTest o ∧ f_cTaken (s_bS o v) = f_cTaken o ∧ f_cOther (s_bS o v) = f_cOther o ∧ f_maxBlocks (s_bS o v) = f_maxBlocks o ∧ f_maxSteps (s_bS o v) = f_maxSteps o ∧ f_n (s_bS o v) = f_n o ∧ f_arranged (s_bS o v) = f_arranged o ∧ f_outCount (s_bS o v) = f_outCount o ∧ f_steps (s_bS o v) = f_steps o ∧ f_status (s_bS o v) = f_status o := by
  simp only [f_bOp, f_bD, f_bS, f_bImm, f_bTerm, f_bTest, f_bT0, f_bT1, f_cnt0, f_cnt1, f_regs, f_outs, f_edgeId, f_edgeW, f_chNext, f_chPrev, f_chHead, f_heat, f_posOf, f_order, f_cOp, f_cD, f_cS, f_cImm, f_cKind, f_cTest, f_cTaken, f_cOther, f_maxBlocks, f_maxSteps, f_n, f_arranged, f_outCount, f_steps, f_status, s_bS, and_self]
theorem gs_bImm (o : Ob) (v : List Int32) : f_bOp (s_bImm o v) = f_bOp o ∧ f_bD (s_bImm o v) = f_bD o ∧ f_bS (s_bImm o v) = f_bS o ∧ f_bImm (s_bImm o v) = v ∧ f_bTerm (s_bImm o v) = f_bTerm o ∧ f_bTest (s_bImm o v) = f_bTest o ∧ f_bT0 (s_bImm o v) = f_bT0 o ∧ f_bT1 (s_bImm o v) = f_bT1 o ∧ f_cnt0 (s_bImm o v) = f_cnt0 o ∧ f_cnt1 (s_bImm o v) = f_cnt1 o ∧ f_regs (s_bImm o v) = f_regs o ∧ f_outs (s_bImm o v) = f_outs o ∧ f_edgeId (s_bImm o v) = f_edgeId o ∧ f_edgeW (s_bImm o v) = f_edgeW o ∧ f_chNext (s_bImm o v) = f_chNext o ∧ f_chPrev (s_bImm o v) = f_chPrev o ∧ f_chHead (s_bImm o v) = f_chHead o ∧ f_heat (s_bImm o v) = f_heat o ∧ f_posOf (s_bImm o v) = f_posOf o ∧ f_order (s_bImm o v) = f_order o ∧ f_cOp (s_bImm o v) = f_cOp o ∧ f_cD (s_bImm o v) = f_cD o ∧ f_cS (s_bImm o v) = f_cS o ∧ f_cImm (s_bImm o v) = f_cImm o ∧ f_cKind (s_bImm o v) = f_cKind o ∧ f_cTest (s_bImm o v) = f_cTest o ∧ f_cTaken (s_bImm o v) = f_cTaken o ∧ f_cOther (s_bImm o v) = f_cOther o ∧ f_maxBlocks (s_bImm o v) = f_maxBlocks o ∧ f_maxSteps (s_bImm o v) = f_maxSteps o ∧ f_n (s_bImm o v) = f_n o ∧ f_arranged (s_bImm o v) = f_arranged o ∧ f_outCount (s_bImm o v) = f_outCount o ∧ f_steps (s_bImm o v) = f_steps o ∧ f_status (s_bImm o v) = f_status o := by
  simp only [f_bOp, f_bD, f_bS, f_bImm, f_bTerm, f_bTest, f_bT0, f_bT1, f_cnt0, f_cnt1, f_regs, f_outs, f_edgeId, f_edgeW, f_chNext, f_chPrev, f_chHead, f_heat, f_posOf, f_order, f_cOp, f_cD, f_cS, f_cImm, f_cKind, f_cTest, f_cTaken, f_cOther, f_maxBlocks, f_maxSteps, f_n, f_arranged, f_outCount, f_steps, f_status, s_bImm, and_self]
theorem gs_bTerm (o : Ob) (v : List Int32) : f_bOp (s_bTerm o v) = f_bOp o ∧ f_bD (s_bTerm o v) = f_bD o ∧ f_bS (s_bTerm o v) = f_bS o ∧ f_bImm (s_bTerm o v) = f_bImm o ∧ f_bTerm (s_bTerm o v) = v ∧ f_bTest (s_bTerm o v) = f_bTest o ∧ f_bT0 (s_bTerm o v) = f_bT0 o ∧ f_bT1 (s_bTerm o v) = f_bT1 o ∧ f_cnt0 (s_bTerm o v) = f_cnt0 o ∧ f_cnt1 (s_bTerm o v) = f_cnt1 o ∧ f_regs (s_bTerm o v) = f_regs o ∧ f_outs (s_bTerm o v) = f_outs o ∧ f_edgeId (s_bTerm o v) = f_edgeId o ∧ f_edgeW (s_bTerm o v) = f_edgeW o ∧ f_chNext (s_bTerm o v) = f_chNext o ∧ f_chPrev (s_bTerm o v) = f_chPrev o ∧ f_chHead (s_bTerm o v) = f_chHead o ∧ f_heat (s_bTerm o v) = f_heat o ∧ f_posOf (s_bTerm o v) = f_posOf o ∧ f_order (s_bTerm o v) = f_order o ∧ f_cOp (s_bTerm o v) = f_cOp o ∧ f_cD (s_bTerm o v) = f_cD o ∧ f_cS (s_bTerm o v) = f_cS o ∧ f_cImm (s_bTerm o v) = f_cImm o ∧ f_cKind (s_bTerm o v) = f_cKind o ∧ f_cTest (s_bTerm o v) = f_cTest o ∧ f_cTaken (s_bTerm o v) = f_cTaken o ∧ f_cOther (s_bTerm o v) = f_cOther o ∧ f_maxBlocks (s_bTerm o v) = f_maxBlocks o ∧ f_maxSteps (s_bTerm o v) = f_maxSteps o ∧ f_n (s_bTerm o v) = f_n o ∧ f_arranged (s_bTerm o v) = f_arranged o ∧ f_outCount (s_bTerm o v) = f_outCount o ∧ f_steps (s_bTerm o v) = f_steps o ∧ f_status (s_bTerm o v) = f_status o := by
  simp only [f_bOp, f_bD, f_bS, f_bImm, f_bTerm, f_bTest, f_bT0, f_bT1, f_cnt0, f_cnt1, f_regs, f_outs, f_edgeId, f_edgeW, f_chNext, f_chPrev, f_chHead, f_heat, f_posOf, f_order, f_cOp, f_cD, f_cS, f_cImm, f_cKind, f_cTest, f_cTaken, f_cOther, f_maxBlocks, f_maxSteps, f_n, f_arranged, f_outCount, f_steps, f_status, s_bTerm, and_self]
theorem gs_bTest (o : Ob) (v : List Int32) : f_bOp (s_bTest o v) = f_bOp o ∧ f_bD (s_bTest o v) = f_bD o ∧ f_bS (s_bTest o v) = f_bS o ∧ f_bImm (s_bTest o v) = f_bImm o ∧ f_bTerm (s_bTest o v) = f_bTerm o ∧ f_bTest (s_bTest o v) = v ∧ f_bT0 (s_bTest o v) = f_bT0 o ∧ f_bT1 (s_bTest o v) = f_bT1 o ∧ f_cnt0 (s_bTest o v) = f_cnt0 o ∧ f_cnt1 (s_bTest o v) = f_cnt1 o ∧ f_regs (s_bTest o v) = f_regs o ∧ f_outs (s_bTest o v) = f_outs o ∧ f_edgeId (s_bTest o v) = f_edgeId o ∧ f_edgeW (s_bTest o v) = f_edgeW o ∧ f_chNext (s_bTest o v) = f_chNext o ∧ f_chPrev (s_bTest o v) = f_chPrev o ∧ f_chHead (s_bTest o v) = f_chHead o ∧ f_heat (s_bTest o v) = f_heat o ∧ f_posOf (s_bTest o v) = f_posOf o ∧ f_order (s_bTest o v) = f_order o ∧ f_cOp (s_bTest o v) = f_cOp o ∧ f_cD (s_bTest o v) = f_cD o ∧ f_cS (s_bTest o v) = f_cS o ∧ f_cImm (s_bTest o v) = f_cImm o ∧ f_cKind (s_bTest o v) = f_cKind o ∧ f_cTest (s_bTest o v) = f_cTest o ∧ f_cTaken (s_bTest o v) = f_cTaken o ∧ f_cOther (s_bTest o v) = f_cOther o ∧ f_maxBlocks (s_bTest o v) = f_maxBlocks o ∧ f_maxSteps (s_bTest o v) = f_maxSteps o ∧ f_n (s_bTest o v) = f_n o ∧ f_arranged (s_bTest o v) = f_arranged o ∧ f_outCount (s_bTest o v) = f_outCount o ∧ f_steps (s_bTest o v) = f_steps o ∧ f_status (s_bTest o v) = f_status o := by
  simp only [f_bOp, f_bD, f_bS, f_bImm, f_bTerm, f_bTest, f_bT0, f_bT1, f_cnt0, f_cnt1, f_regs, f_outs, f_edgeId, f_edgeW, f_chNext, f_chPrev, f_chHead, f_heat, f_posOf, f_order, f_cOp, f_cD, f_cS, f_cImm, f_cKind, f_cTest, f_cTaken, f_cOther, f_maxBlocks, f_maxSteps, f_n, f_arranged, f_outCount, f_steps, f_status, s_bTest, and_self]
theorem gs_bT0 (o : Ob) (v : List Int32) : f_bOp (s_bT0 o v) = f_bOp o ∧ f_bD (s_bT0 o v) = f_bD o ∧ f_bS (s_bT0 o v) = f_bS o ∧ f_bImm (s_bT0 o v) = f_bImm o ∧ f_bTerm (s_bT0 o v) = f_bTerm o ∧ f_bTest (s_bT0 o v) = f_bTest o ∧ f_bT0 (s_bT0 o v) = v ∧ f_bT1 (s_bT0 o v) = f_bT1 o ∧ f_cnt0 (s_bT0 o v) = f_cnt0 o ∧ f_cnt1 (s_bT0 o v) = f_cnt1 o ∧ f_regs (s_bT0 o v) = f_regs o ∧ f_outs (s_bT0 o v) = f_outs o ∧ f_edgeId (s_bT0 o v) = f_edgeId o ∧ f_edgeW (s_bT0 o v) = f_edgeW o ∧ f_chNext (s_bT0 o v) = f_chNext o ∧ f_chPrev (s_bT0 o v) = f_chPrev o ∧ f_chHead (s_bT0 o v) = f_chHead o ∧ f_heat (s_bT0 o v) = f_heat o ∧ f_posOf (s_bT0 o v) = f_posOf o ∧ f_order (s_bT0 o v) = f_order o ∧ f_cOp (s_bT0 o v) = f_cOp o ∧ f_cD (s_bT0 o v) = f_cD o ∧ f_cS (s_bT0 o v) = f_cS o ∧ f_cImm (s_bT0 o v) = f_cImm o ∧ f_cKind (s_bT0 o v) = f_cKind o ∧ f_cTest (s_bT0 o v) = f_cTest o ∧ f_cTaken (s_bT0 o v) = f_cTaken o ∧ f_cOther (s_bT0 o v) = f_cOther o ∧ f_maxBlocks (s_bT0 o v) = f_maxBlocks o ∧ f_maxSteps (s_bT0 o v) = f_maxSteps o ∧ f_n (s_bT0 o v) = f_n o ∧ f_arranged (s_bT0 o v) = f_arranged o ∧ f_outCount (s_bT0 o v) = f_outCount o ∧ f_steps (s_bT0 o v) = f_steps o ∧ f_status (s_bT0 o v) = f_status o := by
  simp only [f_bOp, f_bD, f_bS, f_bImm, f_bTerm, f_bTest, f_bT0, f_bT1, f_cnt0, f_cnt1, f_regs, f_outs, f_edgeId, f_edgeW, f_chNext, f_chPrev, f_chHead, f_heat, f_posOf, f_order, f_cOp, f_cD, f_cS, f_cImm, f_cKind, f_cTest, f_cTaken, f_cOther, f_maxBlocks, f_maxSteps, f_n, f_arranged, f_outCount, f_steps, f_status, s_bT0, and_self]
theorem gs_bT1 (o : Ob) (v : List Int32) : f_bOp (s_bT1 o v) = f_bOp o ∧ f_bD (s_bT1 o v) = f_bD o ∧ f_bS (s_bT1 o v) = f_bS o ∧ f_bImm (s_bT1 o v) = f_bImm o ∧ f_bTerm (s_bT1 o v) = f_bTerm o ∧ f_bTest (s_bT1 o v) = f_bTest o ∧ f_bT0 (s_bT1 o v) = f_bT0 o ∧ f_bT1 (s_bT1 o v) = v ∧ f_cnt0 (s_bT1 o v) = f_cnt0 o ∧ f_cnt1 (s_bT1 o v) = f_cnt1 o ∧ f_regs (s_bT1 o v) = f_regs o ∧ f_outs (s_bT1 o v) = f_outs o ∧ f_edgeId (s_bT1 o v) = f_edgeId o ∧ f_edgeW (s_bT1 o v) = f_edgeW o ∧ f_chNext (s_bT1 o v) = f_chNext o ∧ f_chPrev (s_bT1 o v) = f_chPrev o ∧ f_chHead (s_bT1 o v) = f_chHead o ∧ f_heat (s_bT1 o v) = f_heat o ∧ f_posOf (s_bT1 o v) = f_posOf o ∧ f_order (s_bT1 o v) = f_order o ∧ f_cOp (s_bT1 o v) = f_cOp o ∧ f_cD (s_bT1 o v) = f_cD o ∧ f_cS (s_bT1 o v) = f_cS o ∧ f_cImm (s_bT1 o v) = f_cImm o ∧ f_cKind (s_bT1 o v) = f_cKind o ∧ f_cTest (s_bT1 o v) = f_cTest o ∧ f_cTaken (s_bT1 o v) = f_cTaken o ∧ f_cOther (s_bT1 o v) = f_cOther o ∧ f_maxBlocks (s_bT1 o v) = f_maxBlocks o ∧ f_maxSteps (s_bT1 o v) = f_maxSteps o ∧ f_n (s_bT1 o v) = f_n o ∧ f_arranged (s_bT1 o v) = f_arranged o ∧ f_outCount (s_bT1 o v) = f_outCount o ∧ f_steps (s_bT1 o v) = f_steps o ∧ f_status (s_bT1 o v) = f_status o := by
  simp only [f_bOp, f_bD, f_bS, f_bImm, f_bTerm, f_bTest, f_bT0, f_bT1, f_cnt0, f_cnt1, f_regs, f_outs, f_edgeId, f_edgeW, f_chNext, f_chPrev, f_chHead, f_heat, f_posOf, f_order, f_cOp, f_cD, f_cS, f_cImm, f_cKind, f_cTest, f_cTaken, f_cOther, f_maxBlocks, f_maxSteps, f_n, f_arranged, f_outCount, f_steps, f_status, s_bT1, and_self]
theorem gs_cnt0 (o : Ob) (v : List Int32) : f_bOp (s_cnt0 o v) = f_bOp o ∧ f_bD (s_cnt0 o v) = f_bD o ∧ f_bS (s_cnt0 o v) = f_bS o ∧ f_bImm (s_cnt0 o v) = f_bImm o ∧ f_bTerm (s_cnt0 o v) = f_bTerm o ∧ f_bTest (s_cnt0 o v) = f_bTest o ∧ f_bT0 (s_cnt0 o v) = f_bT0 o ∧ f_bT1 (s_cnt0 o v) = f_bT1 o ∧ f_cnt0 (s_cnt0 o v) = v ∧ f_cnt1 (s_cnt0 o v) = f_cnt1 o ∧ f_regs (s_cnt0 o v) = f_regs o ∧ f_outs (s_cnt0 o v) = f_outs o ∧ f_edgeId (s_cnt0 o v) = f_edgeId o ∧ f_edgeW (s_cnt0 o v) = f_edgeW o ∧ f_chNext (s_cnt0 o v) = f_chNext o ∧ f_chPrev (s_cnt0 o v) = f_chPrev o ∧ f_chHead (s_cnt0 o v) = f_chHead o ∧ f_heat (s_cnt0 o v) = f_heat o ∧ f_posOf (s_cnt0 o v) = f_posOf o ∧ f_order (s_cnt0 o v) = f_order o ∧ f_cOp (s_cnt0 o v) = f_cOp o ∧ f_cD (s_cnt0 o v) = f_cD o ∧ f_cS (s_cnt0 o v) = f_cS o ∧ f_cImm (s_cnt0 o v) = f_cImm o ∧ f_cKind (s_cnt0 o v) = f_cKind o ∧ f_cTest (s_cnt0 o v) = f_cTest o ∧ f_cTaken (s_cnt0 o v) = f_cTaken o ∧ f_cOther (s_cnt0 o v) = f_cOther o ∧ f_maxBlocks (s_cnt0 o v) = f_maxBlocks o ∧ f_maxSteps (s_cnt0 o v) = f_maxSteps o ∧ f_n (s_cnt0 o v) = f_n o ∧ f_arranged (s_cnt0 o v) = f_arranged o ∧ f_outCount (s_cnt0 o v) = f_outCount o ∧ f_steps (s_cnt0 o v) = f_steps o ∧ f_status (s_cnt0 o v) = f_status o := by
  simp only [f_bOp, f_bD, f_bS, f_bImm, f_bTerm, f_bTest, f_bT0, f_bT1, f_cnt0, f_cnt1, f_regs, f_outs, f_edgeId, f_edgeW, f_chNext, f_chPrev, f_chHead, f_heat, f_posOf, f_order, f_cOp, f_cD, f_cS, f_cImm, f_cKind, f_cTest, f_cTaken, f_cOther, f_maxBlocks, f_maxSteps, f_n, f_arranged, f_outCount, f_steps, f_status, s_cnt0, and_self]
theorem gs_cnt1 (o : Ob) (v : List Int32) : f_bOp (s_cnt1 o v) = f_bOp o ∧ f_bD (s_cnt1 o v) = f_bD o ∧ f_bS (s_cnt1 o v) = f_bS o ∧ f_bImm (s_cnt1 o v) = f_bImm o ∧ f_bTerm (s_cnt1 o v) = f_bTerm o ∧ f_bTest (s_cnt1 o v) = f_bTest o ∧ f_bT0 (s_cnt1 o v) = f_bT0 o ∧ f_bT1 (s_cnt1 o v) = f_bT1 o ∧ f_cnt0 (s_cnt1 o v) = f_cnt0 o ∧ f_cnt1 (s_cnt1 o v) = v ∧ f_regs (s_cnt1 o v) = f_regs o ∧ f_outs (s_cnt1 o v) = f_outs o ∧ f_edgeId (s_cnt1 o v) = f_edgeId o ∧ f_edgeW (s_cnt1 o v) = f_edgeW o ∧ f_chNext (s_cnt1 o v) = f_chNext o ∧ f_chPrev (s_cnt1 o v) = f_chPrev o ∧ f_chHead (s_cnt1 o v) = f_chHead o ∧ f_heat (s_cnt1 o v) = f_heat o ∧ f_posOf (s_cnt1 o v) = f_posOf o ∧ f_order (s_cnt1 o v) = f_order o ∧ f_cOp (s_cnt1 o v) = f_cOp o ∧ f_cD (s_cnt1 o v) = f_cD o ∧ f_cS (s_cnt1 o v) = f_cS o ∧ f_cImm (s_cnt1 o v) = f_cImm o ∧ f_cKind (s_cnt1 o v) = f_cKind o ∧ f_cTest (s_cnt1 o v) = f_cTest o ∧ f_cTaken (s_cnt1 o v) = f_cTaken o ∧ f_cOther (s_cnt1 o v) = f_cOther o ∧ f_maxBlocks (s_cnt1 o v) = f_maxBlocks o ∧ f_maxSteps (s_cnt1 o v) = f_maxSteps o ∧ f_n (s_cnt1 o v) = f_n o ∧ f_arranged (s_cnt1 o v) = f_arranged o ∧ f_outCount (s_cnt1 o v) = f_outCount o ∧ f_steps (s_cnt1 o v) = f_steps o ∧ f_status (s_cnt1 o v) = f_status o := by
  simp only [f_bOp, f_bD, f_bS, f_bImm, f_bTerm, f_bTest, f_bT0, f_bT1, f_cnt0, f_cnt1, f_regs, f_outs, f_edgeId, f_edgeW, f_chNext, f_chPrev, f_chHead, f_heat, f_posOf, f_order, f_cOp, f_cD, f_cS, f_cImm, f_cKind, f_cTest, f_cTaken, f_cOther, f_maxBlocks, f_maxSteps, f_n, f_arranged, f_outCount, f_steps, f_status, s_cnt1, and_self]
theorem gs_regs (o : Ob) (v : List Int32) : f_bOp (s_regs o v) = f_bOp o ∧ f_bD (s_regs o v) = f_bD o ∧ f_bS (s_regs o v) = f_bS o ∧ f_bImm (s_regs o v) = f_bImm o ∧ f_bTerm (s_regs o v) = f_bTerm o ∧ f_bTest (s_regs o v) = f_bTest o ∧ f_bT0 (s_regs o v) = f_bT0 o ∧ f_bT1 (s_regs o v) = f_bT1 o ∧ f_cnt0 (s_regs o v) = f_cnt0 o ∧ f_cnt1 (s_regs o v) = f_cnt1 o ∧ f_regs (s_regs o v) = v ∧ f_outs (s_regs o v) = f_outs o ∧ f_edgeId (s_regs o v) = f_edgeId o ∧ f_edgeW (s_regs o v) = f_edgeW o ∧ f_chNext (s_regs o v) = f_chNext o ∧ f_chPrev (s_regs o v) = f_chPrev o ∧ f_chHead (s_regs o v) = f_chHead o ∧ f_heat (s_regs o v) = f_heat o ∧ f_posOf (s_regs o v) = f_posOf o ∧ f_order (s_regs o v) = f_order o ∧ f_cOp (s_regs o v) = f_cOp o ∧ f_cD (s_regs o v) = f_cD o ∧ f_cS (s_regs o v) = f_cS o ∧ f_cImm (s_regs o v) = f_cImm o ∧ f_cKind (s_regs o v) = f_cKind o ∧ f_cTest (s_regs o v) = f_cTest o ∧ f_cTaken (s_regs o v) = f_cTaken o ∧ f_cOther (s_regs o v) = f_cOther o ∧ f_maxBlocks (s_regs o v) = f_maxBlocks o ∧ f_maxSteps (s_regs o v) = f_maxSteps o ∧ f_n (s_regs o v) = f_n o ∧ f_arranged (s_regs o v) = f_arranged o ∧ f_outCount (s_regs o v) = f_outCount o ∧ f_steps (s_regs o v) = f_steps o ∧ f_status (s_regs o v) = f_status o := by
  simp only [f_bOp, f_bD, f_bS, f_bImm, f_bTerm, f_bTest, f_bT0, f_bT1, f_cnt0, f_cnt1, f_regs, f_outs, f_edgeId, f_edgeW, f_chNext, f_chPrev, f_chHead, f_heat, f_posOf, f_order, f_cOp, f_cD, f_cS, f_cImm, f_cKind, f_cTest, f_cTaken, f_cOther, f_maxBlocks, f_maxSteps, f_n, f_arranged, f_outCount, f_steps, f_status, s_regs, and_self]
theorem gs_n (o : Ob) (v : Int32) : f_bOp (s_n o v) = f_bOp o ∧ f_bD (s_n o v) = f_bD o ∧ f_bS (s_n o v) = f_bS o ∧ f_bImm (s_n o v) = f_bImm o ∧ f_bTerm (s_n o v) = f_bTerm o ∧ f_bTest (s_n o v) = f_bTest o ∧ f_bT0 (s_n o v) = f_bT0 o ∧ f_bT1 (s_n o v) = f_bT1 o ∧ f_cnt0 (s_n o v) = f_cnt0 o ∧ f_cnt1 (s_n o v) = f_cnt1 o ∧ f_regs (s_n o v) = f_regs o ∧ f_outs (s_n o v) = f_outs o ∧ f_edgeId (s_n o v) = f_edgeId o ∧ f_edgeW (s_n o v) = f_edgeW o ∧ f_chNext (s_n o v) = f_chNext o ∧ f_chPrev (s_n o v) = f_chPrev o ∧ f_chHead (s_n o v) = f_chHead o ∧ f_heat (s_n o v) = f_heat o ∧ f_posOf (s_n o v) = f_posOf o ∧ f_order (s_n o v) = f_order o ∧ f_cOp (s_n o v) = f_cOp o ∧ f_cD (s_n o v) = f_cD o ∧ f_cS (s_n o v) = f_cS o ∧ f_cImm (s_n o v) = f_cImm o ∧ f_cKind (s_n o v) = f_cKind o ∧ f_cTest (s_n o v) = f_cTest o ∧ f_cTaken (s_n o v) = f_cTaken o ∧ f_cOther (s_n o v) = f_cOther o ∧ f_maxBlocks (s_n o v) = f_maxBlocks o ∧ f_maxSteps (s_n o v) = f_maxSteps o ∧ f_n (s_n o v) = v ∧ f_arranged (s_n o v) = f_arranged o ∧ f_outCount (s_n o v) = f_outCount o ∧ f_steps (s_n o v) = f_steps o ∧ f_status (s_n o v) = f_status o := by
  simp only [f_bOp, f_bD, f_bS, f_bImm, f_bTerm, f_bTest, f_bT0, f_bT1, f_cnt0, f_cnt1, f_regs, f_outs, f_edgeId, f_edgeW, f_chNext, f_chPrev, f_chHead, f_heat, f_posOf, f_order, f_cOp, f_cD, f_cS, f_cImm, f_cKind, f_cTest, f_cTaken, f_cOther, f_maxBlocks, f_maxSteps, f_n, f_arranged, f_outCount, f_steps, f_status, s_n, and_self]
theorem gs_outCount (o : Ob) (v : Int32) : f_bOp (s_outCount o v) = f_bOp o ∧ f_bD (s_outCount o v) = f_bD o ∧ f_bS (s_outCount o v) = f_bS o ∧ f_bImm (s_outCount o v) = f_bImm o ∧ f_bTerm (s_outCount o v) = f_bTerm o ∧ f_bTest (s_outCount o v) = f_bTest o ∧ f_bT0 (s_outCount o v) = f_bT0 o ∧ f_bT1 (s_outCount o v) = f_bT1 o ∧ f_cnt0 (s_outCount o v) = f_cnt0 o ∧ f_cnt1 (s_outCount o v) = f_cnt1 o ∧ f_regs (s_outCount o v) = f_regs o ∧ f_outs (s_outCount o v) = f_outs o ∧ f_edgeId (s_outCount o v) = f_edgeId o ∧ f_edgeW (s_outCount o v) = f_edgeW o ∧ f_chNext (s_outCount o v) = f_chNext o ∧ f_chPrev (s_outCount o v) = f_chPrev o ∧ f_chHead (s_outCount o v) = f_chHead o ∧ f_heat (s_outCount o v) = f_heat o ∧ f_posOf (s_outCount o v) = f_posOf o ∧ f_order (s_outCount o v) = f_order o ∧ f_cOp (s_outCount o v) = f_cOp o ∧ f_cD (s_outCount o v) = f_cD o ∧ f_cS (s_outCount o v) = f_cS o ∧ f_cImm (s_outCount o v) = f_cImm o ∧ f_cKind (s_outCount o v) = f_cKind o ∧ f_cTest (s_outCount o v) = f_cTest o ∧ f_cTaken (s_outCount o v) = f_cTaken o ∧ f_cOther (s_outCount o v) = f_cOther o ∧ f_maxBlocks (s_outCount o v) = f_maxBlocks o ∧ f_maxSteps (s_outCount o v) = f_maxSteps o ∧ f_n (s_outCount o v) = f_n o ∧ f_arranged (s_outCount o v) = f_arranged o ∧ f_outCount (s_outCount o v) = v ∧ f_steps (s_outCount o v) = f_steps o ∧ f_status (s_outCount o v) = f_status o := by
  simp only [f_bOp, f_bD, f_bS, f_bImm, f_bTerm, f_bTest, f_bT0, f_bT1, f_cnt0, f_cnt1, f_regs, f_outs, f_edgeId, f_edgeW, f_chNext, f_chPrev, f_chHead, f_heat, f_posOf, f_order, f_cOp, f_cD, f_cS, f_cImm, f_cKind, f_cTest, f_cTaken, f_cOther, f_maxBlocks, f_maxSteps, f_n, f_arranged, f_outCount, f_steps, f_status, s_outCount, and_self]
theorem gs_steps (o : Ob) (v : Int32) : f_bOp (s_steps o v) = f_bOp o ∧ f_bD (s_steps o v) = f_bD o ∧ f_bS (s_steps o v) = f_bS o ∧ f_bImm (s_steps o v) = f_bImm o ∧ f_bTerm (s_steps o v) = f_bTerm o ∧ f_bTest (s_steps o v) = f_bTest o ∧ f_bT0 (s_steps o v) = f_bT0 o ∧ f_bT1 (s_steps o v) = f_bT1 o ∧ f_cnt0 (s_steps o v) = f_cnt0 o ∧ f_cnt1 (s_steps o v) = f_cnt1 o ∧ f_regs (s_steps o v) = f_regs o ∧ f_outs (s_steps o v) = f_outs o ∧ f_edgeId (s_steps o v) = f_edgeId o ∧ f_edgeW (s_steps o v) = f_edgeW o ∧ f_chNext (s_steps o v) = f_chNext o ∧ f_chPrev (s_steps o v) = f_chPrev o ∧ f_chHead (s_steps o v) = f_chHead o ∧ f_heat (s_steps o v) = f_heat o ∧ f_posOf (s_steps o v) = f_posOf o ∧ f_order (s_steps o v) = f_order o ∧ f_cOp (s_steps o v) = f_cOp o ∧ f_cD (s_steps o v) = f_cD o ∧ f_cS (s_steps o v) = f_cS o ∧ f_cImm (s_steps o v) = f_cImm o ∧ f_cKind (s_steps o v) = f_cKind o ∧ f_cTest (s_steps o v) = f_cTest o ∧ f_cTaken (s_steps o v) = f_cTaken o ∧ f_cOther (s_steps o v) = f_cOther o ∧ f_maxBlocks (s_steps o v) = f_maxBlocks o ∧ f_maxSteps (s_steps o v) = f_maxSteps o ∧ f_n (s_steps o v) = f_n o ∧ f_arranged (s_steps o v) = f_arranged o ∧ f_outCount (s_steps o v) = f_outCount o ∧ f_steps (s_steps o v) = v ∧ f_status (s_steps o v) = f_status o := by
  simp only [f_bOp, f_bD, f_bS, f_bImm, f_bTerm, f_bTest, f_bT0, f_bT1, f_cnt0, f_cnt1, f_regs, f_outs, f_edgeId, f_edgeW, f_chNext, f_chPrev, f_chHead, f_heat, f_posOf, f_order, f_cOp, f_cD, f_cS, f_cImm, f_cKind, f_cTest, f_cTaken, f_cOther, f_maxBlocks, f_maxSteps, f_n, f_arranged, f_outCount, f_steps, f_status, s_steps, and_self]
theorem gs_status (o : Ob) (v : Int32) : f_bOp (s_status o v) = f_bOp o ∧ f_bD (s_status o v) = f_bD o ∧ f_bS (s_status o v) = f_bS o ∧ f_bImm (s_status o v) = f_bImm o ∧ f_bTerm (s_status o v) = f_bTerm o ∧ f_bTest (s_status o v) = f_bTest o ∧ f_bT0 (s_status o v) = f_bT0 o ∧ f_bT1 (s_status o v) = f_bT1 o ∧ f_cnt0 (s_status o v) = f_cnt0 o ∧ f_cnt1 (s_status o v) = f_cnt1 o ∧ f_regs (s_status o v) = f_regs o ∧ f_outs (s_status o v) = f_outs o ∧ f_edgeId (s_status o v) = f_edgeId o ∧ f_edgeW (s_status o v) = f_edgeW o ∧ f_chNext (s_status o v) = f_chNext o ∧ f_chPrev (s_status o v) = f_chPrev o ∧ f_chHead (s_status o v) = f_chHead o ∧ f_heat (s_status o v) = f_heat o ∧ f_posOf (s_status o v) = f_posOf o ∧ f_order (s_status o v) = f_order o ∧ f_cOp (s_status o v) = f_cOp o ∧ f_cD (s_status o v) = f_cD o ∧ f_cS (s_status o v) = f_cS o ∧ f_cImm (s_status o v) = f_cImm o ∧ f_cKind (s_status o v) = f_cKind o ∧ f_cTest (s_status o v) = f_cTest o ∧ f_cTaken (s_status o v) = f_cTaken o ∧ f_cOther (s_status o v) = f_cOther o ∧ f_maxBlocks (s_status o v) = f_maxBlocks o ∧ f_maxSteps (s_status o v) = f_maxSteps o ∧ f_n (s_status o v) = f_n o ∧ f_arranged (s_status o v) = f_arranged o ∧ f_outCount (s_status o v) = f_outCount o ∧ f_steps (s_status o v) = f_steps o ∧ f_status (s_status o v) = v := by
  simp only [f_bOp, f_bD, f_bS, f_bImm, f_bTerm, f_bTest, f_bT0, f_bT1, f_cnt0, f_cnt1, f_regs, f_outs, f_edgeId, f_edgeW, f_chNext, f_chPrev, f_chHead, f_heat, f_posOf, f_order, f_cOp, f_cD, f_cS, f_cImm, f_cKind, f_cTest, f_cTaken, f_cOther, f_maxBlocks, f_maxSteps, f_n, f_arranged, f_outCount, f_steps, f_status, s_status, and_self]
theorem inc1 {x : Int32} (h : x.toInt < 2147483647) : (x + 1).toInt = x.toInt + 1 := by
  have := i_lo x
  have e1 : (1 : Int32).toInt = 1 := rfl
  rw [i_add (by omega) (by omega), e1]
def gd (l : List Int32) (k : Nat) : Int := (l.getD k 0).toInt
theorem gd_set {l : List Int32} {i k : Nat} {v : Int32} (hi : i < l.length) : gd (l.set i v) k = if i = k then v.toInt else gd l k := by
  unfold gd
  rw [List.getD_eq_getElem?_getD, List.getD_eq_getElem?_getD, List.getElem?_set]
  by_cases h : i = k
  · rw [if_pos h, if_pos h, if_pos hi]; rfl
  · rw [if_neg h, if_neg h]
theorem gd_rep (n k : Nat) : gd (List.replicate n 0) k = 0 := by
  unfold gd
  rw [List.getD_eq_getElem?_getD, List.getElem?_replicate]
  split <;> rfl
theorem okP_agd {l : List Int32} {j : Int32} {n : Nat} {P : Int32 → Prop} (hj : j.toInt = n) (hn : n < l.length) (k : ∀ w : Int32, w.toInt = gd l n → P w) : okP (aget l j) P := by
  refine ⟨_, aget_at hj hn, k _ ?_⟩
  unfold gd
  rw [List.getD_eq_getElem?_getD, List.getElem?_eq_getElem hn]; rfl
theorem okP_asn {α : Type} {xs : List α} {j : Int32} {n : Nat} {v : α} {P : List α → Prop} (hj : j.toInt = n) (hn : n < xs.length) (k : P (xs.set n v)) : okP (aset xs j v) P := ⟨_, aset_at hj hn, k⟩
theorem g1 {l : List Int32} {k : Int32} {n : Nat} {w : Int32} (hk : k.toInt = n) (hn : n < l.length) (hw : gd l n = w.toInt) : aget l k = some w := by
  obtain ⟨y, hy, q⟩ : okP (aget l k) (fun y => y.toInt = gd l n) := okP_agd hk hn (fun _ q => q)
  rw [hy]
  congr 1
  rw [i_eq, q, hw]
def Fx (o : Ob) (n : Int32) (t0 t1 e0 u0 k0 : Int) : Prop := f_n o = n ∧ f_arranged o = 0 ∧ gd (f_bTerm o) 0 = t0 ∧ gd (f_bTerm o) 1 = t1 ∧ gd (f_bTest o) 0 = e0 ∧ gd (f_bT0 o) 0 = u0 ∧ gd (f_cnt0 o) 0 = k0 ∧ gd (f_bOp o) 0 = 0 ∧ gd (f_bOp o) 1 = 0 ∧ 2 ≤ (f_maxBlocks o).toInt
theorem vb {o : Ob} {n : Int32} (h : f_n o = n) (hn : n.toInt ≤ 16) (x : Int32) : F6 o x = some (if 0 ≤ x.toInt ∧ x.toInt < n.toInt then 1 else 0) := by
  have z0 : (0 : Int32).toInt = 0 := rfl
  have z16 : (16 : Int32).toInt = 16 := rfl
  unfold F6
  rw [h]
  simp only [i_lt, z0, z16]
  by_cases a : x.toInt < 0
  · rw [if_pos a, if_neg (by omega)]
  · rw [if_neg a]
    by_cases b : x.toInt < n.toInt
    · rw [if_pos b, if_pos (by omega), if_pos (by omega)]
    · rw [if_neg b, if_neg (by omega)]
theorem cc_ok {m : Int32} {o : Ob} (S : Sh m o) {n : Int32} {t0 t1 e0 u0 k0 : Int} (h : Fx o n t0 t1 e0 u0 k0) : okP (F4 o) (fun p => Sh m p ∧ Fx p n t0 t1 e0 u0 0) := by
  have z16 : (16 : Int32).toInt = 16 := rfl
  unfold F4
  apply okP.bind
  refine okP.loop (fun w => 0 ≤ w.1.toInt ∧ w.1.toInt ≤ 16 ∧ Sh m w.2 ∧ ∃ k, Fx w.2 n t0 t1 e0 u0 k ∧ (0 < w.1.toInt → k = 0)) (fun w => (16 - w.1.toInt).toNat) ⟨by show (0 : Int) ≤ 0; decide, by show (0 : Int) ≤ 16; decide, S, k0, h, fun q => absurd q (by show ¬ (0 : Int) < 0; decide)⟩ (by show (16 - (0 : Int)).toNat < 4000; decide) ?_
  rintro ⟨w, p⟩ ⟨a1, a2, a3, k, a4, a5⟩
  simp only at a1 a2 a3 a4 a5
  unfold B4_2
  simp only
  apply okP.ite <;> intro c
  · rw [i_lt, z16] at c
    have e2 : (w + 1).toInt = w.toInt + 1 := inc1 (by omega)
    have l1 := Sh_l_cnt0 a3
    have l2 := Sh_l_cnt1 a3
    apply okP.bind
    refine okP_asn (n := w.toInt.toNat) (by omega) (by omega) ?_
    apply okP.bind
    refine okP_asn (n := w.toInt.toNat) (by omega) (by omega) ?_
    apply okP.some
    refine ⟨⟨by simp only; omega, by simp only; omega, Sh_cnt1 (Sh_cnt0 a3 (by rw [List.length_set]; exact l1)) (by rw [List.length_set]; exact l2), if w.toInt = 0 then 0 else k, ?_, ?_⟩, by simp only; omega⟩
    · obtain ⟨f1, f2, f3, f4, f5, f6, f7, f8, f9, f10⟩ := a4
      unfold Fx
      simp only [gs_bOp, gs_bD, gs_bS, gs_bImm, gs_bTerm, gs_bTest, gs_bT0, gs_bT1, gs_cnt0, gs_cnt1, gs_n, gs_regs, gs_steps, gs_outCount, gs_status]
      refine ⟨f1, f2, f3, f4, f5, f6, ?_, f8, f9, f10⟩
      rw [gd_set (by omega), f7]
      by_cases w0 : w.toInt = 0
      · rw [if_pos (by omega), if_pos w0]; rfl
      · rw [if_neg (by omega), if_neg w0]
    · intro _
      by_cases w0 : w.toInt = 0
      · rw [if_pos w0]
      · rw [if_neg w0]; exact a5 (by omega)
  · rw [i_lt, z16] at c
    rw [a5 (by omega)] at a4
    exact okP.some (okP.some ⟨a3, a4⟩)
theorem add_ok {m : Int32} {o : Ob} (S : Sh m o) {n : Int32} {j : Nat} (hj : n.toInt = j) (j2 : j < 2) (h : Fx o n 0 0 0 0 0) : okP (F2 o 0 0 0 0) (fun r => Sh m r.2 ∧ Fx r.2 (n + 1) 0 0 0 0 0) := by
  obtain ⟨f1, f2, f3, f4, f5, f6, f7, f8, f9, f10⟩ := id h
  have z16 : (16 : Int32).toInt = 16 := rfl
  have l1 := Sh_l_bOp S
  have l2 := Sh_l_bD S
  have l3 := Sh_l_bS S
  have l4 := Sh_l_bImm S
  have l5 := Sh_l_bTerm S
  have l6 := Sh_l_bTest S
  have l7 := Sh_l_bT0 S
  have l8 := Sh_l_bT1 S
  unfold F2
  rw [f1, f2, if_pos rfl, if_neg (by intro e; rw [← e] at f10; omega), if_pos (by rw [i_lt, z16]; omega)]
  rw [if_neg (by decide), if_neg (by decide), if_neg (by decide), if_neg (by decide), if_neg (by decide), if_neg (by decide)]
  apply okP.bind
  refine okP_asn hj (by omega) ?_
  apply okP.bind
  refine okP_asn hj (by omega) ?_
  apply okP.bind
  refine okP_asn hj (by omega) ?_
  apply okP.bind
  refine okP_asn hj (by omega) ?_
  unfold F3
  simp only [gs_bOp, gs_bD, gs_bS, gs_bImm, gs_bTerm, gs_bTest, gs_bT0, gs_bT1, gs_cnt0, gs_cnt1, gs_n, gs_regs, gs_steps, gs_outCount, gs_status]
  apply okP.bind
  apply okP.bind
  refine okP_asn hj (by omega) ?_
  apply okP.bind
  refine okP_asn hj (by omega) ?_
  apply okP.bind
  refine okP_asn hj (by omega) ?_
  apply okP.some
  simp only [gs_bOp, gs_bD, gs_bS, gs_bImm, gs_bTerm, gs_bTest, gs_bT0, gs_bT1, gs_cnt0, gs_cnt1, gs_n, gs_regs, gs_steps, gs_outCount, gs_status]
  apply okP.bind
  refine okP_asn hj (by omega) ?_
  apply okP.bind
  obtain ⟨nn, hnn⟩ : ∃ x, x = n + 1 := ⟨_, rfl⟩
  rw [← hnn]
  refine okP.mono (cc_ok (m := m) (n := nn) (t0 := 0) (t1 := 0) (e0 := 0) (u0 := 0) (k0 := 0) ?_ ?_) (fun p hp => okP.some hp)
  · refine Sh_n (Sh_bT1 (Sh_bT0 (Sh_bTest (Sh_bTerm (Sh_bImm (Sh_bS (Sh_bD (Sh_bOp S ?_) ?_) ?_) ?_) ?_) ?_) ?_) ?_) <;> rw [List.length_set] <;> assumption
  · unfold Fx
    simp only [gs_bOp, gs_bD, gs_bS, gs_bImm, gs_bTerm, gs_bTest, gs_bT0, gs_bT1, gs_cnt0, gs_cnt1, gs_n, gs_regs, gs_steps, gs_outCount, gs_status, true_and]
    have zi : ∀ l : List Int32, l.length = 16 → ∀ k, gd l k = 0 → gd (l.set j 0) k = 0 := by
      intro l hl k hk
      rw [gd_set (by omega)]
      split
      · rfl
      · exact hk
    exact ⟨f2, zi _ l5 0 f3, zi _ l5 1 f4, zi _ l6 0 f5, zi _ l7 0 f6, f7, zi _ l1 0 f8, zi _ l1 1 f9, f10⟩
theorem jump_ok {m : Int32} {o : Ob} (S : Sh m o) (h : Fx o 2 0 0 0 0 0) : okP (F5 o 0 1) (fun r => Sh m r.2 ∧ Fx r.2 2 1 0 0 1 0) := by
  obtain ⟨f1, f2, f3, f4, f5, f6, f7, f8, f9, f10⟩ := id h
  have l5 := Sh_l_bTerm S
  have l6 := Sh_l_bTest S
  have l7 := Sh_l_bT0 S
  have l8 := Sh_l_bT1 S
  unfold F5
  rw [f2, if_pos rfl, vb f1 (by decide), vb f1 (by decide), if_pos (by decide), if_pos (by decide)]
  simp only [Option.bind_some]
  rw [if_neg (by decide), if_neg (by decide)]
  unfold F3
  apply okP.bind
  apply okP.bind
  refine okP_asn (n := 0) rfl (by omega) ?_
  apply okP.bind
  refine okP_asn (n := 0) rfl (by omega) ?_
  apply okP.bind
  refine okP_asn (n := 0) rfl (by omega) ?_
  apply okP.some
  simp only [gs_bOp, gs_bD, gs_bS, gs_bImm, gs_bTerm, gs_bTest, gs_bT0, gs_bT1, gs_cnt0, gs_cnt1, gs_n, gs_regs, gs_steps, gs_outCount, gs_status]
  apply okP.bind
  refine okP_asn (n := 0) rfl (by omega) ?_
  apply okP.bind
  refine okP.mono (cc_ok (m := m) (n := 2) (t0 := 1) (t1 := 0) (e0 := 0) (u0 := 1) (k0 := 0) ?_ ?_) (fun p hp => okP.some hp)
  · refine Sh_bT1 (Sh_bT0 (Sh_bTest (Sh_bTerm S ?_) ?_) ?_) ?_ <;> rw [List.length_set] <;> assumption
  · unfold Fx
    simp only [gs_bOp, gs_bD, gs_bS, gs_bImm, gs_bTerm, gs_bTest, gs_bT0, gs_bT1, gs_cnt0, gs_cnt1, gs_n, gs_regs, gs_steps, gs_outCount, gs_status]
    refine ⟨f1, f2, ?_, ?_, ?_, ?_, f7, f8, f9, f10⟩
    · rw [gd_set (by omega), if_pos rfl]; rfl
    · rw [gd_set (by omega), if_neg (by decide)]; exact f4
    · rw [gd_set (by omega), if_pos rfl]; rfl
    · rw [gd_set (by omega), if_pos rfl]; rfl
theorem nop_ok (o : Ob) (a b c : Int32) : F9 o 0 a b c = some o := by
  unfold F9
  simp +decide
theorem step_ok {m : Int32} {o : Ob} (S : Sh m o) {e0 k0 : Int} (hk : 0 ≤ k0 ∧ k0 ≤ 10) (h : Fx o 2 1 0 e0 1 k0) : okP (F8 o 0) (fun r => r.1 = 1 ∧ Sh m r.2 ∧ f_steps r.2 = f_steps o ∧ Fx r.2 2 1 0 e0 1 (k0 + 1)) ∧ okP (F8 o 1) (fun r => r = (-1, o)) := by
  obtain ⟨f1, f2, f3, f4, f5, f6, f7, f8, f9, f10⟩ := id h
  have l1 := Sh_l_bOp S
  have l2 := Sh_l_bD S
  have l3 := Sh_l_bS S
  have l4 := Sh_l_bImm S
  have l5 := Sh_l_bTerm S
  have l6 := Sh_l_bTest S
  have l7 := Sh_l_bT0 S
  have l8 := Sh_l_cnt0 S
  unfold F8
  rw [vb f1 (by decide), vb f1 (by decide), if_pos (by decide), if_pos (by decide)]
  simp only [Option.bind_some]
  rw [if_neg (by decide), if_neg (by decide)]
  constructor
  · rw [g1 (n := 0) (w := 0) rfl (by omega) f8]
    simp only [Option.bind_some]
    apply okP.bind
    refine okP_agd (n := 0) rfl (by omega) (fun a _ => ?_)
    apply okP.bind
    refine okP_agd (n := 0) rfl (by omega) (fun b _ => ?_)
    apply okP.bind
    refine okP_agd (n := 0) rfl (by omega) (fun c _ => ?_)
    rw [nop_ok]
    simp only [Option.bind_some]
    rw [g1 (n := 0) (w := 1) rfl (by omega) f3]
    simp only [Option.bind_some]
    rw [if_pos trivial]
    apply okP.bind
    refine okP_agd (n := 0) rfl (by omega) (fun d hd => ?_)
    apply okP.bind
    refine okP_asn (n := 0) rfl (by omega) ?_
    rw [g1 (n := 0) (w := 1) rfl (by omega) f6]
    apply okP.some
    refine ⟨rfl, Sh_cnt0 S (by rw [List.length_set]; exact l8), by simp only [gs_bOp, gs_bD, gs_bS, gs_bImm, gs_bTerm, gs_bTest, gs_bT0, gs_bT1, gs_cnt0, gs_cnt1, gs_n, gs_regs, gs_steps, gs_outCount, gs_status], ?_⟩
    unfold Fx
    simp only [gs_bOp, gs_bD, gs_bS, gs_bImm, gs_bTerm, gs_bTest, gs_bT0, gs_bT1, gs_cnt0, gs_cnt1, gs_n, gs_regs, gs_steps, gs_outCount, gs_status]
    refine ⟨f1, f2, f3, f4, f5, f6, ?_, f8, f9, f10⟩
    rw [gd_set (by omega), if_pos rfl, inc1 (by omega), hd, f7]
  · rw [g1 (n := 1) (w := 0) rfl (by omega) f9]
    simp only [Option.bind_some]
    apply okP.bind
    refine okP_agd (n := 1) rfl (by omega) (fun a _ => ?_)
    apply okP.bind
    refine okP_agd (n := 1) rfl (by omega) (fun b _ => ?_)
    apply okP.bind
    refine okP_agd (n := 1) rfl (by omega) (fun c _ => ?_)
    rw [nop_ok]
    simp only [Option.bind_some]
    rw [g1 (n := 1) (w := 0) rfl (by omega) f4]
    simp only [Option.bind_some]
    rw [if_neg (by decide), if_neg (by decide)]
    exact okP.some rfl
theorem run_ok {m : Int32} (hm : 16 ≤ m.toInt) {o : Ob} (S : Sh m o) (h : Fx o 2 1 0 0 1 0) : okP (F7 o 0) (fun r => Sh m r.2 ∧ Fx r.2 2 1 0 0 1 1) := by
  obtain ⟨f1, f2, f3, f4, f5, f6, f7, f8, f9, f10⟩ := id h
  have l1 := Sh_l_regs S
  have z1 : (1 : Int32).toInt = 1 := rfl
  have z0 : (0 : Int32).toInt = 0 := rfl
  unfold F7
  rw [f1, if_neg (by decide)]
  apply okP.bind
  refine okP_asn (n := 0) rfl (by omega) ?_
  apply okP.bind
  refine okP_asn (n := 1) rfl (by rw [List.length_set]; omega) ?_
  apply okP.bind
  refine okP_asn (n := 2) rfl (by simp only [List.length_set]; omega) ?_
  apply okP.bind
  refine okP_asn (n := 3) rfl (by simp only [List.length_set]; omega) ?_
  obtain ⟨rg, hrg⟩ : ∃ r, r = ((((f_regs o).set 0 0).set 1 0).set 2 0).set 3 (0 : Int32) := ⟨_, rfl⟩
  have lr : rg.length = 4 := by rw [hrg]; simp only [List.length_set]; exact l1
  rw [← hrg]
  obtain ⟨p, hp⟩ : ∃ p, p = s_steps (s_outCount (s_regs o rg) 0) 0 := ⟨_, rfl⟩
  rw [← hp]
  have Sp : Sh m p := by rw [hp]; exact Sh_steps (Sh_outCount (Sh_regs S lr))
  have Fp : Fx p 2 1 0 0 1 0 := by
    rw [hp]
    unfold Fx
    simp only [gs_bOp, gs_bD, gs_bS, gs_bImm, gs_bTerm, gs_bTest, gs_bT0, gs_bT1, gs_cnt0, gs_cnt1, gs_n, gs_regs, gs_steps, gs_outCount, gs_status]
    exact h
  have st0 : f_steps p = 0 := by rw [hp]; simp only [gs_bOp, gs_bD, gs_bS, gs_bImm, gs_bTerm, gs_bTest, gs_bT0, gs_bT1, gs_cnt0, gs_cnt1, gs_n, gs_regs, gs_steps, gs_outCount, gs_status]
  have am : f_maxSteps p = m := Sp.2.2.2.2.2.2.2.2.2.2.2.2.2.2.2.2.2.2.2.2.2.2.2.2.2.2.2.2
  -- first step
  have b1 : okP (B7_51 2 (0, p)) (fun x => ∃ q, x = Sum.inr (1, q) ∧ Sh m q ∧ f_steps q = 1 ∧ Fx q 2 1 0 0 1 1) := by
    unfold B7_51
    simp only
    rw [st0, am, if_pos (by rw [i_lt, z0]; omega), Fp.2.1, if_pos rfl]
    have S1 : Sh m (s_steps p (0 + 1)) := Sh_steps Sp
    have F1' : Fx (s_steps p (0 + 1)) 2 1 0 0 1 0 := by unfold Fx; simp only [gs_bOp, gs_bD, gs_bS, gs_bImm, gs_bTerm, gs_bTest, gs_bT0, gs_bT1, gs_cnt0, gs_cnt1, gs_n, gs_regs, gs_steps, gs_outCount, gs_status]; exact Fp
    apply okP.bind
    refine okP.mono (step_ok S1 (by decide) F1').1 ?_
    rintro ⟨r, q⟩ ⟨rfl, q2, q3, q4⟩
    simp only
    rw [if_neg (by decide)]
    apply okP.some
    refine ⟨q, rfl, q2, ?_, q4⟩
    simp only at q3
    rw [q3]; simp only [gs_bOp, gs_bD, gs_bS, gs_bImm, gs_bTerm, gs_bTest, gs_bT0, gs_bT1, gs_cnt0, gs_cnt1, gs_n, gs_regs, gs_steps, gs_outCount, gs_status]; decide
  obtain ⟨_, b1', q, rfl, Sq, sq, Fq⟩ := b1
  have amq : f_maxSteps q = m := Sq.2.2.2.2.2.2.2.2.2.2.2.2.2.2.2.2.2.2.2.2.2.2.2.2.2.2.2.2
  have b2 : okP (B7_51 2 (1, q)) (fun x => ∃ t, x = Sum.inl t ∧ Sh m t.2 ∧ Fx t.2 2 1 0 0 1 1) := by
    unfold B7_51
    simp only
    rw [sq, amq, if_pos (by rw [i_lt, z1]; omega), Fq.2.1, if_pos rfl]
    have S1 : Sh m (s_steps q (1 + 1)) := Sh_steps Sq
    have F1' : Fx (s_steps q (1 + 1)) 2 1 0 0 1 1 := by unfold Fx; simp only [gs_bOp, gs_bD, gs_bS, gs_bImm, gs_bTerm, gs_bTest, gs_bT0, gs_bT1, gs_cnt0, gs_cnt1, gs_n, gs_regs, gs_steps, gs_outCount, gs_status]; exact Fq
    apply okP.bind
    refine okP.mono (step_ok S1 (by decide) F1').2 ?_
    rintro _ rfl
    simp only
    rw [if_pos (by decide)]
    unfold J7_112
    apply okP.some
    refine ⟨_, rfl, Sh_status S1, ?_⟩
    unfold Fx
    simp only [gs_bOp, gs_bD, gs_bS, gs_bImm, gs_bTerm, gs_bTest, gs_bT0, gs_bT1, gs_cnt0, gs_cnt1, gs_n, gs_regs, gs_steps, gs_outCount, gs_status]
    exact Fq
  obtain ⟨_, b2', t, rfl, St, Ft⟩ := b2
  have lp : loopN (B7_51 2) qN (0, p) = some t := by
    show loopN (B7_51 2) (3998 + 1 + 1) (0, p) = _
    simp only [loopN, b1', b2']
  rw [lp]
  exact okP.some ⟨St, Ft⟩
theorem siz {m : Int32} {o : Ob} (h : Sh m o) : qhs (H0 o) ≤ 600 := by
  obtain ⟨z1, z2, z3, z4, z5, z6, z7, z8, z9, z10, z11, z12, z13, z14, z15, z16, z17, z18, z19, z20, z21, z22, z23, z24, z25, z26, z27, z28, _⟩ := h
  simp only [H0, qhs, qsz, z1, z2, z3, z4, z5, z6, z7, z8, z9, z10, z11, z12, z13, z14, z15, z16, z17, z18, z19, z20, z21, z22, z23, z24, z25, z26, z27, z28, cN]
  omega
theorem law_ok (x0 x1 x2 x3 x4 x5 : Int32) : ∃ τ, F0 x0 x1 x2 x3 x4 x5 = some (1, τ) ∧ τ.length - List.length ([] : QHeap) ≤ room_1.cells ∧ qhs τ - qhs [] ≤ room_1.slots := by
  have z0 : (0 : Int32).toInt = 0 := rfl
  have z1 : (1 : Int32).toInt = 1 := rfl
  have z2 : (2 : Int32).toInt = 2 := rfl
  have z15 : (15 : Int32).toInt = 15 := rfl
  have z16 : (16 : Int32).toInt = 16 := rfl
  obtain ⟨o, ho, m, hm, S, F⟩ : okP (F1 x0 x1) (fun o => ∃ m : Int32, 16 ≤ m.toInt ∧ Sh m o ∧ Fx o 0 0 0 0 0 0) := by
    unfold F1
    obtain ⟨mb, hmb⟩ : ∃ m, m = (if (16 : Int32) < (if x0 < 2 then 2 else x0) then 16 else (if x0 < 2 then 2 else x0)) := ⟨_, rfl⟩
    obtain ⟨ms, hms⟩ : ∃ m, m = (if (1024 : Int32) < (if x1 < 16 then 16 else x1) then 1024 else (if x1 < 16 then 16 else x1)) := ⟨_, rfl⟩
    rw [← hmb, ← hms]
    have b2 : 2 ≤ mb.toInt := by
      rw [hmb]
      simp only [i_lt, z2, z16]
      repeat' split
      all_goals first | decide | omega
    have s2 : 16 ≤ ms.toInt := by
      rw [hms]
      simp only [i_lt, z16]
      repeat' split
      all_goals first | decide | omega
    apply okP.some
    refine ⟨ms, s2, ?_, ?_⟩
    · dsimp only [Sh, f_bOp, f_bD, f_bS, f_bImm, f_bTerm, f_bTest, f_bT0, f_bT1, f_cnt0, f_cnt1, f_regs, f_outs, f_edgeId, f_edgeW, f_chNext, f_chPrev, f_chHead, f_heat, f_posOf, f_order, f_cOp, f_cD, f_cS, f_cImm, f_cKind, f_cTest, f_cTaken, f_cOther, f_maxBlocks, f_maxSteps, f_n, f_arranged, f_outCount, f_steps, f_status, s_bOp, s_bD, s_bS, s_bImm, s_bTerm, s_bTest, s_bT0, s_bT1, s_cnt0, s_cnt1, s_regs, s_outs, s_edgeId, s_edgeW, s_chNext, s_chPrev, s_chHead, s_heat, s_posOf, s_order, s_cOp, s_cD, s_cS, s_cImm, s_cKind, s_cTest, s_cTaken, s_cOther, s_maxBlocks, s_maxSteps, s_n, s_arranged, s_outCount, s_steps, s_status]
      refine ⟨?_, ?_, ?_, ?_, ?_, ?_, ?_, ?_, ?_, ?_, ?_, ?_, ?_, ?_, ?_, ?_, ?_, ?_, ?_, ?_, ?_, ?_, ?_, ?_, ?_, ?_, ?_, ?_, rfl⟩ <;> exact List.length_replicate
    · dsimp only [Fx, f_bOp, f_bD, f_bS, f_bImm, f_bTerm, f_bTest, f_bT0, f_bT1, f_cnt0, f_cnt1, f_regs, f_outs, f_edgeId, f_edgeW, f_chNext, f_chPrev, f_chHead, f_heat, f_posOf, f_order, f_cOp, f_cD, f_cS, f_cImm, f_cKind, f_cTest, f_cTaken, f_cOther, f_maxBlocks, f_maxSteps, f_n, f_arranged, f_outCount, f_steps, f_status, s_bOp, s_bD, s_bS, s_bImm, s_bTerm, s_bTest, s_bT0, s_bT1, s_cnt0, s_cnt1, s_regs, s_outs, s_edgeId, s_edgeW, s_chNext, s_chPrev, s_chHead, s_heat, s_posOf, s_order, s_cOp, s_cD, s_cS, s_cImm, s_cKind, s_cTest, s_cTaken, s_cOther, s_maxBlocks, s_maxSteps, s_n, s_arranged, s_outCount, s_steps, s_status]
      simp only [gd_rep, true_and]
      exact b2
  obtain ⟨r1, hr1, S1, F1'⟩ := add_ok S (j := 0) rfl (by decide) F
  have e01 : (0 : Int32) + 1 = 1 := by decide
  rw [e01] at F1'
  obtain ⟨r2, hr2, S2, F2'⟩ := add_ok S1 (j := 1) rfl (by decide) F1'
  have e11 : (1 : Int32) + 1 = 2 := by decide
  rw [e11] at F2'
  obtain ⟨r3, hr3, S3, F3'⟩ := jump_ok S2 F2'
  obtain ⟨r4, hr4, S4, F4'⟩ := run_ok hm S3 F3'
  obtain ⟨f1, f2, f3, f4, f5, f6, f7, f8, f9, f10⟩ := id F4'
  have l5 := Sh_l_bTerm S4
  have l6 := Sh_l_bTest S4
  have l7 := Sh_l_bT0 S4
  have l8 := Sh_l_bT1 S4
  obtain ⟨ok, hok⟩ : ∃ ok : Prop, ok = ((0 ≤ x2.toInt ∧ x2.toInt < 2) ∧ (0 ≤ x3.toInt ∧ x3.toInt ≤ 15) ∧ (0 ≤ x4.toInt ∧ x4.toInt < 2) ∧ (0 ≤ x5.toInt ∧ x5.toInt < 2)) := ⟨_, rfl⟩
  have okc : ∀ [Decidable ok], (if x2 < 0 then (0 : Int32) else if (1 : Int32) < x2 then 0 else if x3 < 0 then 0 else if (15 : Int32) < x3 then 0 else if x4 < 0 then 0 else if (1 : Int32) < x4 then 0 else if x5 < 0 then 0 else if (1 : Int32) < x5 then 0 else 1) = (if ok then 1 else 0) := by
    intro _
    simp only [i_lt, z0, z1, z15]
    by_cases k : ok
    · rw [if_pos k]
      rw [hok] at k
      rw [if_neg (by omega), if_neg (by omega), if_neg (by omega), if_neg (by omega), if_neg (by omega), if_neg (by omega), if_neg (by omega), if_neg (by omega)]
    · rw [if_neg k]
      rw [hok] at k
      repeat' split
      all_goals first | rfl | (exfalso; omega)
  haveI : Decidable ok := Classical.propDecidable ok
  have okc' := okc
  unfold F0
  rw [ho]
  simp only [Option.bind_some, hr1, hr2, hr3, hr4, okc']
  have gets : ∀ {p : Ob} {t0 t1 e0 u0 k0 : Int} {a b c d e : Int32}, Sh m p → Fx p 2 t0 t1 e0 u0 k0 → t0 = a.toInt → t1 = b.toInt → e0 = c.toInt → u0 = d.toInt → k0 = e.toInt → F11 p 0 0 = some e ∧ F12 p 0 4 = some a ∧ F12 p 0 5 = some c ∧ F12 p 0 6 = some d ∧ F12 p 1 4 = some b := by
    intro p t0 t1 e0 u0 k0 a b c d e Sp Fp ha hb hc hd he
    obtain ⟨g1', g2, g3, g4, g5, g6, g7, g8, g9, g10⟩ := Fp
    have k1 := Sh_l_bTerm Sp
    have k2 := Sh_l_bTest Sp
    have k3 := Sh_l_bT0 Sp
    have k4 := Sh_l_cnt0 Sp
    unfold F11 F12
    rw [vb g1' (by decide), vb g1' (by decide), if_pos (by decide), if_pos (by decide)]
    simp only [Option.bind_some]
    rw [g1 (l := f_cnt0 p) (n := 0) rfl (by omega) (by rw [g7]; exact he), g1 (l := f_bTerm p) (n := 0) rfl (by omega) (by rw [g3]; exact ha), g1 (l := f_bTest p) (n := 0) rfl (by omega) (by rw [g5]; exact hc), g1 (l := f_bT0 p) (n := 0) rfl (by omega) (by rw [g6]; exact hd), g1 (l := f_bTerm p) (k := 1) (n := 1) rfl (by omega) (by rw [g4]; exact hb)]
    simp +decide
  by_cases k : ok
  · have k' := k
    rw [hok] at k'
    obtain ⟨b0, t0, c0, d0⟩ := k'
    obtain ⟨r5, hr5, q1, S5, F5'⟩ : okP (F10 r4.2 x2 x3 x4 x5) (fun r => r.1 = 1 ∧ Sh m r.2 ∧ Fx r.2 2 (if x2 = 0 then 2 else 1) (if x2 = 1 then 2 else 0) (if x2 = 0 then x3.toInt else 0) (if x2 = 0 then x4.toInt else 1) 0) := by
      unfold F10
      rw [f2, if_pos rfl, vb f1 (by decide), vb f1 (by decide), vb f1 (by decide), z2, if_pos b0, if_pos c0, if_pos d0]
      simp only [Option.bind_some]
      rw [if_neg (by decide), if_neg (by rw [i_lt, z0]; omega), if_neg (by rw [i_lt, z15]; omega), if_neg (by decide), if_neg (by decide)]
      unfold F3
      apply okP.bind
      apply okP.bind
      refine okP_asn (n := x2.toInt.toNat) (by omega) (by omega) ?_
      apply okP.bind
      refine okP_asn (n := x2.toInt.toNat) (by omega) (by omega) ?_
      apply okP.bind
      refine okP_asn (n := x2.toInt.toNat) (by omega) (by omega) ?_
      apply okP.some
      simp only [gs_bOp, gs_bD, gs_bS, gs_bImm, gs_bTerm, gs_bTest, gs_bT0, gs_bT1, gs_cnt0, gs_cnt1, gs_n, gs_regs, gs_steps, gs_outCount, gs_status]
      apply okP.bind
      refine okP_asn (n := x2.toInt.toNat) (by omega) (by omega) ?_
      apply okP.bind
      refine okP.mono (cc_ok (m := m) (n := 2) (t0 := if x2 = 0 then 2 else 1) (t1 := if x2 = 1 then 2 else 0) (e0 := if x2 = 0 then x3.toInt else 0) (u0 := if x2 = 0 then x4.toInt else 1) (k0 := 1) ?_ ?_) (fun p hp => okP.some ⟨rfl, hp⟩)
      · refine Sh_bT1 (Sh_bT0 (Sh_bTest (Sh_bTerm S4 ?_) ?_) ?_) ?_ <;> rw [List.length_set] <;> assumption
      · unfold Fx
        simp only [gs_bOp, gs_bD, gs_bS, gs_bImm, gs_bTerm, gs_bTest, gs_bT0, gs_bT1, gs_cnt0, gs_cnt1, gs_n, gs_regs, gs_steps, gs_outCount, gs_status]
        have e0 : (x2.toInt.toNat = 0) = (x2 = 0) := by rw [i_eq, z0]; exact propext ⟨fun q => by omega, fun q => by omega⟩
        have e1 : (x2.toInt.toNat = 1) = (x2 = 1) := by rw [i_eq, z1]; exact propext ⟨fun q => by omega, fun q => by omega⟩
        refine ⟨f1, f2, ?_, ?_, ?_, ?_, f7, f8, f9, f10⟩
        · rw [gd_set (by omega), f3]; simp only [e0]; rfl
        · rw [gd_set (by omega), f4]; simp only [e1]; rfl
        · rw [gd_set (by omega), f5]; simp only [e0]
        · rw [gd_set (by omega), f6]; simp only [e0]
    obtain ⟨g1', g2', g3', g4', g5'⟩ := gets (a := if x2 = 0 then 2 else 1) (b := if x2 = 1 then 2 else 0) (c := if x2 = 0 then x3 else 0) (d := if x2 = 0 then x4 else 1) (e := 0) S5 F5' (by split <;> rfl) (by split <;> rfl) (by split <;> rfl) (by split <;> rfl) rfl
    refine ⟨H0 r5.2, ?_, by show 29 - 0 ≤ _; decide, by have := siz S5; have e : room_1.slots = 1088 := rfl; show qhs (H0 r5.2) - 0 ≤ room_1.slots; rw [e]; omega⟩
    simp only [hr5, Option.bind_some, q1, if_pos k, g1', g2', g3', g4', g5']
    by_cases a : x2 = 0
    · simp +decide [a]
    · have : x2 = 1 := by rw [i_eq, z1]; rw [i_eq, z0] at a; omega
      simp +decide [this]
  · have hr5 : F10 r4.2 x2 x3 x4 x5 = some (0, r4.2) := by
      unfold F10
      rw [f2, if_pos rfl, vb f1 (by decide), vb f1 (by decide), vb f1 (by decide), z2]
      simp only [Option.bind_some, i_lt, z0, z15]
      rw [hok] at k
      by_cases a : 0 ≤ x2.toInt ∧ x2.toInt < 2
      · rw [if_pos a, if_neg (by decide)]
        by_cases b : x3.toInt < 0
        · rw [if_pos b]
        · rw [if_neg b]
          by_cases c : 15 < x3.toInt
          · rw [if_pos c]
          · rw [if_neg c]
            by_cases d : 0 ≤ x4.toInt ∧ x4.toInt < 2
            · rw [if_pos d, if_neg (by decide), if_neg (show ¬ (0 ≤ x5.toInt ∧ x5.toInt < 2) by omega)]; rfl
            · rw [if_neg d]; rfl
      · rw [if_neg a]; rfl
    obtain ⟨g1', g2', g3', g4', g5'⟩ := gets (a := 1) (b := 0) (c := 0) (d := 1) (e := 1) S4 F4' rfl rfl rfl rfl rfl
    refine ⟨H0 r4.2, ?_, by show 29 - 0 ≤ _; decide, by have := siz S4; have e : room_1.slots = 1088 := rfl; show qhs (H0 r4.2) - 0 ≤ room_1.slots; rw [e]; omega⟩
    simp only [hr5, Option.bind_some, if_neg k, g1', g2', g3', g4', g5']
    simp +decide
set_option maxRecDepth 65536 in
theorem comes_1 {Post : Tables → Env → Array Value → State → Outcome → State → Prop} (hpost : ∀ tb e args s v u, (limb_1_1.after args s (.returned v) u = true ∧ limb_1_2.after args s (.returned v) u = true ∧ True) → FrameEnd s (.returned v) u (Jvm.fieldLocs frame_1_writes args s ++ Jvm.arrayLocs frame_1_arrays args s ++ Jvm.staticLocs frame_1_statics s) 72 1088 → Post tb e args s (.returned v) u) :
    ArmFor flags0 classFile x code maxLocals ret World_1 tables_1 room_1 Calls_1 rest_1 Pre_1 Post := by
  intro l hfl _ _ p e ha hc hk s m args below hf hA hF happ hP
  obtain ⟨hcalls, hrest, hpre⟩ := hP
  obtain ⟨-, -, -, hnamed, -, -, -, hat⟩ := (Spec.applies_iff hf).mp happ
  obtain ⟨hg, hn⟩ := and_e (Cond.before_iff.mp (show (Jvm.Cond.and given_1 narrow_1).before args s = true from hpre))
  obtain ⟨g0, g1⟩ := and_e hg
  obtain ⟨w0, w1, w2, w3, w4, w5, rfl⟩ : ∃ w0 w1 w2 w3 w4 w5 : Value, args = #[w0, w1, w2, w3, w4, w5] := by
    have hs : args.size = 6 := by simpa [Cond.value, given_1] using g0
    obtain ⟨L⟩ := args
    match L, hs with
    | [w0, w1, w2, w3, w4, w5], _ => exact ⟨w0, w1, w2, w3, w4, w5, rfl⟩
  have hw := fun d (hd : d ∈ tables_1) => atoms_spec (ws := Jvm.Cond.code x code maxLocals ret :: tables_1) hat d (List.mem_cons_of_mem _ hd)
  obtain ⟨a0, g2⟩ := and_e g1
  obtain ⟨i0, ei0⟩ := is_v a0
  obtain rfl : w0 = (.int i0) := Option.some.inj ei0
  obtain ⟨a1, g3⟩ := and_e g2
  obtain ⟨i1, ei1⟩ := is_v a1
  obtain rfl : w1 = (.int i1) := Option.some.inj ei1
  obtain ⟨a2, g4⟩ := and_e g3
  obtain ⟨i2, ei2⟩ := is_v a2
  obtain rfl : w2 = (.int i2) := Option.some.inj ei2
  obtain ⟨a3, g5⟩ := and_e g4
  obtain ⟨i3, ei3⟩ := is_v a3
  obtain rfl : w3 = (.int i3) := Option.some.inj ei3
  obtain ⟨a4, g6⟩ := and_e g5
  obtain ⟨i4, ei4⟩ := is_v a4
  obtain rfl : w4 = (.int i4) := Option.some.inj ei4
  obtain ⟨i5, ei5⟩ := is_v g6
  obtain rfl : w5 = (.int i5) := Option.some.inj ei5
  obtain ⟨τ, hF0, hc1, hs1⟩ := law_ok i0 i1 i2 i3 i4 i5
  have Ad : QAd s.heap.size (fun k => s.heap.size + k) := ⟨fun k _ => rfl, fun i j h => Nat.add_left_cancel h⟩
  have hR : QRep s s.heap.size (fun k => s.heap.size + k) s.heap [] := ⟨Nat.le_refl _, rfl, fun k c h => by cases h⟩
  have T := tF0 (l := l) (Z := s) Ad (QW_ok hw) i0 i1 i2 i3 i4 i5 hF0
  have M := QTri.met (k := 0) (as := [.int i0, .int i1, .int i2, .int i3, .int i4, .int i5]) (by decide) T hR (Nat.le_of_ble_eq_true rfl) (fun q => by cases q) tables_1 (rm := room_1) (by decide) (by decide) hc1 hs1
  obtain ⟨n, o, h1, h2, h3, _, L, rfl, ⟨rfl, R', N⟩, hq⟩ := M p e ha hc hk s m _ below hf ((Spec.applies_iff_loose hf).mp happ).1 ⟨rfl, State.Warmed39.refl s, rfl⟩ trivial
  refine ⟨n, _, h1, h2, h3, hpost _ _ _ _ _ _ ⟨Cond.after_iff.mpr rfl, Cond.after_iff.mpr (eq_i res_at (Term.int_eval (1)) rfl), trivial⟩ ⟨hq.1, hq.2.1, (hq.2.2.sift fun y hy => Or.inr (N y hy)).mono hc1 hs1⟩⟩
theorem main_1_1 : Claimed_1_1 := comes_1 fun _ _ _ _ _ _ h hF => ⟨h.1, hF⟩
theorem main_1_2 : Claimed_1_2 := comes_1 fun _ _ _ _ _ _ h hF => ⟨h.2.1, hF⟩
end Jvm.Pilot.@@N@@
namespace Jvm.Pilot.@@N@@
open Jvm Jvm.ClassFile Sem Op Lib Jvm.Free Jvm.Stand Jvm.Pilot.@@N@@.Jvm.D
/-! MADE BY PROGRAM (witnessworld.py) out of the Statement's table words and the real class files: 9 classes; the members and pool entries that the words name. The judged class is class 1, her method 1. -/
namespace start1
open Jvm.ClassFile
def u (s : String) : CpInfo := .utf8 (stringToUtf16 s)
/-- a pool by its gaps: so many unusable entries, then the entry; so many at the end -/
def gap : Nat → List CpInfo → List CpInfo
  | 0, r => r
  | n + 1, r => .unusable :: gap n r
def poolList (es : List (Nat × CpInfo)) (last : Nat) : List CpInfo := es.foldr (fun e r => gap e.1 (e.2 :: r)) (gap last [])
def pool (es : List (Nat × CpInfo)) (last : Nat) : Array CpInfo := ⟨poolList es last⟩
def fileOf (pool : Array CpInfo) (this : Nat) (attrs : Array Attribute := #[]) (ms : Array MethodInfo := #[]) (fl : Nat := 33) (sup : Nat := 0) (ifs : Array Nat := #[]) (fds : Array FieldInfo := #[]) : ClassFile where
  minorVersion := 0
  majorVersion := 65
  constantPool := pool
  accessFlags := fl
  thisClass := this
  superClass := sup
  interfaces := ifs
  fields := fds
  methods := ms
  attributes := attrs
def plain (name : String) (sup : Option ClassId) : Class where
  name := name
  kind := .ordinary
  loader := none
  accessFlags := 33
  super := sup
  interfaces := #[]
  cf := none
  fields := #[]
  methods := #[]
  instanceTypes := #[]
  staticTypes := #[]
  resolved := #[]
  callSites := []
  init := .initialized
  statics := none
  mirror := none

def pool0 : Array CpInfo := pool [(5, u "<init>"), (0, u "()V"), (1, .class_ 10), (1, u "java/lang/Object")] 113

def k0c0 : Code := { maxStack := 0, maxLocals := 1, code := object_method_1_code, exceptionTable := #[], attributes := #[] }
def k0m0 : Method := { name := "<init>", desc := "()V", sig := { parameters := [], returnType := none }, accessFlags := 1, code := some k0c0 }
/-- java/lang/Object -/
def k0 : Class := { plain "java/lang/Object" none with
  accessFlags := 33
  interfaces := #[]
  cf := some (fileOf pool0 8 #[] #[{ accessFlags := 1, nameIndex := 5, descriptorIndex := 6, attributes := #[] }] 33 0 #[] #[])
  fields := #[]
  methods := #[k0m0]
  instanceTypes := #[]
  staticTypes := #[]
  resolved := Array.replicate 124 none
  statics := none }

def pool1 : Array CpInfo := pool [(2, .class_ 4), (1, u "java/lang/Object"), (0, u "<init>"), (0, u "()V"), (0, .class_ 8), (0, u "ChainLayout"), (0, .methodref 7 10), (0, .nameAndType 5 11), (0, u "(II)V"), (0, .methodref 7 13), (0, .nameAndType 14 15), (0, u "addBlock"), (0, u "(IIII)I"), (0, .methodref 7 17), (0, .nameAndType 18 19), (0, u "setJump"), (0, u "(II)Z"), (0, .methodref 7 21), (0, .nameAndType 22 23), (0, u "run"), (0, u "(I)I"), (0, .methodref 7 25), (0, .nameAndType 26 27), (0, u "setBranch"), (0, u "(IIII)Z"), (0, .methodref 7 29), (0, .nameAndType 30 31), (0, u "edgeCount"), (0, u "(II)I"), (0, .methodref 7 33), (0, .nameAndType 34 31), (0, u "blockInfo"), (0, .class_ 36), (0, u "ChainLayoutL2"), (2, u "law"), (0, u "(IIIIII)Z")] 3

def k1m0 : Method := { name := "<init>", desc := "()V", sig := { parameters := [], returnType := none }, accessFlags := 1, code := none }
def k1c1 : Code := { maxStack := 5, maxLocals := 10, code := code, exceptionTable := #[], attributes := #[] }
def k1m1 : Method := { name := "law", desc := "(IIIIII)Z", sig := { parameters := [.int, .int, .int, .int, .int, .int], returnType := some .boolean }, accessFlags := 9, code := some k1c1 }
/-- ChainLayoutL2 -/
def k1 : Class := { plain "ChainLayoutL2" (some 0) with
  accessFlags := 33
  interfaces := #[]
  cf := some (fileOf pool1 35 #[] #[{ accessFlags := 1, nameIndex := 5, descriptorIndex := 6, attributes := #[] }, { accessFlags := 9, nameIndex := 39, descriptorIndex := 40, attributes := #[] }] 33 2 #[] #[])
  fields := #[]
  methods := #[k1m0, k1m1]
  instanceTypes := #[]
  staticTypes := #[]
  resolved := Array.replicate 44 none
  statics := none }

def pool2 : Array CpInfo := pool [(1, .methodref 2 3), (0, .class_ 4), (0, .nameAndType 5 6), (0, u "java/lang/Object"), (0, u "<init>"), (0, u "()V"), (0, .fieldref 8 9), (0, .class_ 10), (0, .nameAndType 11 12), (0, u "ChainLayout"), (0, u "bOp"), (0, u "[I"), (0, .fieldref 8 14), (0, .nameAndType 15 12), (0, u "bD"), (0, .fieldref 8 17), (0, .nameAndType 18 12), (0, u "bS"), (0, .fieldref 8 20), (0, .nameAndType 21 12), (0, u "bImm"), (0, .fieldref 8 23), (0, .nameAndType 24 12), (0, u "bTerm"), (0, .fieldref 8 26), (0, .nameAndType 27 12), (0, u "bTest"), (0, .fieldref 8 29), (0, .nameAndType 30 12), (0, u "bT0"), (0, .fieldref 8 32), (0, .nameAndType 33 12), (0, u "bT1"), (0, .fieldref 8 35), (0, .nameAndType 36 12), (0, u "cnt0"), (0, .fieldref 8 38), (0, .nameAndType 39 12), (0, u "cnt1"), (0, .fieldref 8 41), (0, .nameAndType 42 12), (0, u "regs"), (0, .fieldref 8 44), (0, .nameAndType 45 12), (0, u "outs"), (0, .fieldref 8 47), (0, .nameAndType 48 12), (0, u "edgeId"), (0, .fieldref 8 50), (0, .nameAndType 51 12), (0, u "edgeW"), (0, .fieldref 8 53), (0, .nameAndType 54 12), (0, u "chNext"), (0, .fieldref 8 56), (0, .nameAndType 57 12), (0, u "chPrev"), (0, .fieldref 8 59), (0, .nameAndType 60 12), (0, u "chHead"), (0, .fieldref 8 62), (0, .nameAndType 63 12), (0, u "heat"), (0, .fieldref 8 65), (0, .nameAndType 66 12), (0, u "posOf"), (0, .fieldref 8 68), (0, .nameAndType 69 12), (0, u "order"), (0, .fieldref 8 71), (0, .nameAndType 72 12), (0, u "cOp"), (0, .fieldref 8 74), (0, .nameAndType 75 12), (0, u "cD"), (0, .fieldref 8 77), (0, .nameAndType 78 12), (0, u "cS"), (0, .fieldref 8 80), (0, .nameAndType 81 12), (0, u "cImm"), (0, .fieldref 8 83), (0, .nameAndType 84 12), (0, u "cKind"), (0, .fieldref 8 86), (0, .nameAndType 87 12), (0, u "cTest"), (0, .fieldref 8 89), (0, .nameAndType 90 12), (0, u "cTaken"), (0, .fieldref 8 92), (0, .nameAndType 93 12), (0, u "cOther"), (0, .fieldref 8 95), (0, .nameAndType 96 97), (0, u "maxBlocks"), (0, u "I"), (0, .fieldref 8 99), (0, .nameAndType 100 97), (0, u "maxSteps"), (0, .fieldref 8 102), (0, .nameAndType 103 97), (0, u "n"), (0, .fieldref 8 105), (0, .nameAndType 106 107), (0, u "arranged"), (0, u "Z"), (0, .fieldref 8 109), (0, .nameAndType 110 97), (0, u "outCount"), (0, .fieldref 8 112), (0, .nameAndType 113 97), (0, u "steps"), (0, .fieldref 8 115), (0, .nameAndType 116 97), (0, u "status"), (0, .methodref 8 118), (0, .nameAndType 119 120), (0, u "writeTerm"), (0, u "(IIII)V"), (0, .methodref 8 122), (0, .nameAndType 123 6), (0, u "clearCounts"), (0, .methodref 8 125), (0, .nameAndType 126 127), (0, u "validBlock"), (0, u "(I)Z"), (3, u "(I)I"), (0, .methodref 8 133), (0, .nameAndType 134 131), (0, u "stepBlock"), (15, .methodref 8 151), (0, .nameAndType 152 120), (0, u "doOp"), (5, u "edgeN"), (6, u "(IIII)Z"), (3, u "(II)V"), (3, u "(II)I"), (3, u "OP_NOP"), (2, u "OP_MOVI"), (1, u "OP_MOV"), (1, u "OP_ADDI"), (1, u "OP_ADD"), (1, u "OP_SUB"), (1, u "OP_SHR"), (1, u "OP_OUT"), (1, u "T_HALT"), (0, u "T_JUMP"), (0, u "T_BRANCH"), (0, u "COND_EQZ"), (0, u "COND_NEZ"), (0, u "COND_LTZ"), (0, u "COND_GEZ"), (0, u "ST_NONE"), (0, u "ST_HALT"), (0, u "ST_STEPS"), (0, u "ST_EMPTY"), (0, u "OUT_CAP"), (1, u "F_OP"), (0, u "F_D"), (0, u "F_S"), (0, u "F_IMM"), (0, u "F_TERM"), (0, u "F_TEST"), (0, u "F_TARGET0"), (0, u "F_TARGET1"), (3, u "addBlock"), (0, u "(IIII)I"), (0, u "setJump"), (0, u "(II)Z"), (0, u "setBranch"), (1, u "run"), (6, u "blockInfo"), (0, u "edgeCount")] 7

def k2c0 : Code := { maxStack := 2, maxLocals := 5, code := prog_1_method_1_code, exceptionTable := #[], attributes := #[] }
def k2m0 : Method := { name := "<init>", desc := "(II)V", sig := { parameters := [.int, .int], returnType := none }, accessFlags := 1, code := some k2c0 }
def k2c1 : Code := { maxStack := 5, maxLocals := 6, code := prog_1_method_2_code, exceptionTable := #[], attributes := #[] }
def k2m1 : Method := { name := "addBlock", desc := "(IIII)I", sig := { parameters := [.int, .int, .int, .int], returnType := some .int }, accessFlags := 1, code := some k2c1 }
def k2c2 : Code := { maxStack := 5, maxLocals := 3, code := prog_1_method_3_code, exceptionTable := #[], attributes := #[] }
def k2m2 : Method := { name := "setJump", desc := "(II)Z", sig := { parameters := [.int, .int], returnType := some .boolean }, accessFlags := 1, code := some k2c2 }
def k2c3 : Code := { maxStack := 5, maxLocals := 5, code := prog_1_method_4_code, exceptionTable := #[], attributes := #[] }
def k2m3 : Method := { name := "setBranch", desc := "(IIII)Z", sig := { parameters := [.int, .int, .int, .int], returnType := some .boolean }, accessFlags := 1, code := some k2c3 }
def k2c4 : Code := { maxStack := 3, maxLocals := 5, code := prog_1_method_6_code, exceptionTable := #[], attributes := #[] }
def k2m4 : Method := { name := "run", desc := "(I)I", sig := { parameters := [.int], returnType := some .int }, accessFlags := 1, code := some k2c4 }
def k2c5 : Code := { maxStack := 2, maxLocals := 3, code := prog_1_method_11_code, exceptionTable := #[], attributes := #[] }
def k2m5 : Method := { name := "blockInfo", desc := "(II)I", sig := { parameters := [.int, .int], returnType := some .int }, accessFlags := 1, code := some k2c5 }
def k2c6 : Code := { maxStack := 2, maxLocals := 3, code := prog_1_method_12_code, exceptionTable := #[], attributes := #[] }
def k2m6 : Method := { name := "edgeCount", desc := "(II)I", sig := { parameters := [.int, .int], returnType := some .int }, accessFlags := 1, code := some k2c6 }
def k2c7 : Code := { maxStack := 2, maxLocals := 2, code := prog_1_method_18_code, exceptionTable := #[], attributes := #[] }
def k2m7 : Method := { name := "validBlock", desc := "(I)Z", sig := { parameters := [.int], returnType := some .boolean }, accessFlags := 2, code := some k2c7 }
def k2c8 : Code := { maxStack := 3, maxLocals := 5, code := prog_1_method_19_code, exceptionTable := #[], attributes := #[] }
def k2m8 : Method := { name := "writeTerm", desc := "(IIII)V", sig := { parameters := [.int, .int, .int, .int], returnType := none }, accessFlags := 2, code := some k2c8 }
def k2c9 : Code := { maxStack := 3, maxLocals := 2, code := prog_1_method_20_code, exceptionTable := #[], attributes := #[] }
def k2m9 : Method := { name := "clearCounts", desc := "()V", sig := { parameters := [], returnType := none }, accessFlags := 2, code := some k2c9 }
def k2c10 : Code := { maxStack := 5, maxLocals := 5, code := prog_1_method_21_code, exceptionTable := #[], attributes := #[] }
def k2m10 : Method := { name := "doOp", desc := "(IIII)V", sig := { parameters := [.int, .int, .int, .int], returnType := none }, accessFlags := 2, code := some k2c10 }
def k2c11 : Code := { maxStack := 6, maxLocals := 3, code := prog_1_method_23_code, exceptionTable := #[], attributes := #[] }
def k2m11 : Method := { name := "stepBlock", desc := "(I)I", sig := { parameters := [.int], returnType := some .int }, accessFlags := 2, code := some k2c11 }
/-- ChainLayout -/
def k2 : Class := { plain "ChainLayout" (some 0) with
  accessFlags := 49
  interfaces := #[]
  cf := some (fileOf pool2 8 #[] #[{ accessFlags := 1, nameIndex := 5, descriptorIndex := 169, attributes := #[] }, { accessFlags := 1, nameIndex := 218, descriptorIndex := 219, attributes := #[] }, { accessFlags := 1, nameIndex := 220, descriptorIndex := 221, attributes := #[] }, { accessFlags := 1, nameIndex := 222, descriptorIndex := 165, attributes := #[] }, { accessFlags := 1, nameIndex := 224, descriptorIndex := 131, attributes := #[] }, { accessFlags := 1, nameIndex := 231, descriptorIndex := 173, attributes := #[] }, { accessFlags := 1, nameIndex := 232, descriptorIndex := 173, attributes := #[] }, { accessFlags := 2, nameIndex := 126, descriptorIndex := 127, attributes := #[] }, { accessFlags := 2, nameIndex := 119, descriptorIndex := 120, attributes := #[] }, { accessFlags := 2, nameIndex := 123, descriptorIndex := 6, attributes := #[] }, { accessFlags := 2, nameIndex := 152, descriptorIndex := 120, attributes := #[] }, { accessFlags := 2, nameIndex := 134, descriptorIndex := 131, attributes := #[] }] 49 2 #[] #[{ accessFlags := 25, nameIndex := 177, descriptorIndex := 97, attributes := #[] }, { accessFlags := 25, nameIndex := 180, descriptorIndex := 97, attributes := #[] }, { accessFlags := 25, nameIndex := 182, descriptorIndex := 97, attributes := #[] }, { accessFlags := 25, nameIndex := 184, descriptorIndex := 97, attributes := #[] }, { accessFlags := 25, nameIndex := 186, descriptorIndex := 97, attributes := #[] }, { accessFlags := 25, nameIndex := 188, descriptorIndex := 97, attributes := #[] }, { accessFlags := 25, nameIndex := 190, descriptorIndex := 97, attributes := #[] }, { accessFlags := 25, nameIndex := 192, descriptorIndex := 97, attributes := #[] }, { accessFlags := 25, nameIndex := 194, descriptorIndex := 97, attributes := #[] }, { accessFlags := 25, nameIndex := 195, descriptorIndex := 97, attributes := #[] }, { accessFlags := 25, nameIndex := 196, descriptorIndex := 97, attributes := #[] }, { accessFlags := 25, nameIndex := 197, descriptorIndex := 97, attributes := #[] }, { accessFlags := 25, nameIndex := 198, descriptorIndex := 97, attributes := #[] }, { accessFlags := 25, nameIndex := 199, descriptorIndex := 97, attributes := #[] }, { accessFlags := 25, nameIndex := 200, descriptorIndex := 97, attributes := #[] }, { accessFlags := 25, nameIndex := 201, descriptorIndex := 97, attributes := #[] }, { accessFlags := 25, nameIndex := 202, descriptorIndex := 97, attributes := #[] }, { accessFlags := 25, nameIndex := 203, descriptorIndex := 97, attributes := #[] }, { accessFlags := 25, nameIndex := 204, descriptorIndex := 97, attributes := #[] }, { accessFlags := 25, nameIndex := 205, descriptorIndex := 97, attributes := #[] }, { accessFlags := 25, nameIndex := 207, descriptorIndex := 97, attributes := #[] }, { accessFlags := 25, nameIndex := 208, descriptorIndex := 97, attributes := #[] }, { accessFlags := 25, nameIndex := 209, descriptorIndex := 97, attributes := #[] }, { accessFlags := 25, nameIndex := 210, descriptorIndex := 97, attributes := #[] }, { accessFlags := 25, nameIndex := 211, descriptorIndex := 97, attributes := #[] }, { accessFlags := 25, nameIndex := 212, descriptorIndex := 97, attributes := #[] }, { accessFlags := 25, nameIndex := 213, descriptorIndex := 97, attributes := #[] }, { accessFlags := 25, nameIndex := 214, descriptorIndex := 97, attributes := #[] }, { accessFlags := 2, nameIndex := 96, descriptorIndex := 97, attributes := #[] }, { accessFlags := 2, nameIndex := 100, descriptorIndex := 97, attributes := #[] }, { accessFlags := 2, nameIndex := 103, descriptorIndex := 97, attributes := #[] }, { accessFlags := 2, nameIndex := 106, descriptorIndex := 107, attributes := #[] }, { accessFlags := 2, nameIndex := 11, descriptorIndex := 12, attributes := #[] }, { accessFlags := 2, nameIndex := 15, descriptorIndex := 12, attributes := #[] }, { accessFlags := 2, nameIndex := 18, descriptorIndex := 12, attributes := #[] }, { accessFlags := 2, nameIndex := 21, descriptorIndex := 12, attributes := #[] }, { accessFlags := 2, nameIndex := 24, descriptorIndex := 12, attributes := #[] }, { accessFlags := 2, nameIndex := 27, descriptorIndex := 12, attributes := #[] }, { accessFlags := 2, nameIndex := 30, descriptorIndex := 12, attributes := #[] }, { accessFlags := 2, nameIndex := 33, descriptorIndex := 12, attributes := #[] }, { accessFlags := 2, nameIndex := 36, descriptorIndex := 12, attributes := #[] }, { accessFlags := 2, nameIndex := 39, descriptorIndex := 12, attributes := #[] }, { accessFlags := 2, nameIndex := 42, descriptorIndex := 12, attributes := #[] }, { accessFlags := 2, nameIndex := 45, descriptorIndex := 12, attributes := #[] }, { accessFlags := 2, nameIndex := 110, descriptorIndex := 97, attributes := #[] }, { accessFlags := 2, nameIndex := 113, descriptorIndex := 97, attributes := #[] }, { accessFlags := 2, nameIndex := 116, descriptorIndex := 97, attributes := #[] }, { accessFlags := 2, nameIndex := 48, descriptorIndex := 12, attributes := #[] }, { accessFlags := 2, nameIndex := 51, descriptorIndex := 12, attributes := #[] }, { accessFlags := 2, nameIndex := 158, descriptorIndex := 97, attributes := #[] }, { accessFlags := 2, nameIndex := 54, descriptorIndex := 12, attributes := #[] }, { accessFlags := 2, nameIndex := 57, descriptorIndex := 12, attributes := #[] }, { accessFlags := 2, nameIndex := 60, descriptorIndex := 12, attributes := #[] }, { accessFlags := 2, nameIndex := 63, descriptorIndex := 12, attributes := #[] }, { accessFlags := 2, nameIndex := 66, descriptorIndex := 12, attributes := #[] }, { accessFlags := 2, nameIndex := 69, descriptorIndex := 12, attributes := #[] }, { accessFlags := 2, nameIndex := 72, descriptorIndex := 12, attributes := #[] }, { accessFlags := 2, nameIndex := 75, descriptorIndex := 12, attributes := #[] }, { accessFlags := 2, nameIndex := 78, descriptorIndex := 12, attributes := #[] }, { accessFlags := 2, nameIndex := 81, descriptorIndex := 12, attributes := #[] }, { accessFlags := 2, nameIndex := 84, descriptorIndex := 12, attributes := #[] }, { accessFlags := 2, nameIndex := 87, descriptorIndex := 12, attributes := #[] }, { accessFlags := 2, nameIndex := 90, descriptorIndex := 12, attributes := #[] }, { accessFlags := 2, nameIndex := 93, descriptorIndex := 12, attributes := #[] }])
  fields := #[{ name := "OP_NOP", type := .int, accessFlags := 25, slot := 0, constantValue := 0 }, { name := "OP_MOVI", type := .int, accessFlags := 25, slot := 1, constantValue := 0 }, { name := "OP_MOV", type := .int, accessFlags := 25, slot := 2, constantValue := 0 }, { name := "OP_ADDI", type := .int, accessFlags := 25, slot := 3, constantValue := 0 }, { name := "OP_ADD", type := .int, accessFlags := 25, slot := 4, constantValue := 0 }, { name := "OP_SUB", type := .int, accessFlags := 25, slot := 5, constantValue := 0 }, { name := "OP_SHR", type := .int, accessFlags := 25, slot := 6, constantValue := 0 }, { name := "OP_OUT", type := .int, accessFlags := 25, slot := 7, constantValue := 0 }, { name := "T_HALT", type := .int, accessFlags := 25, slot := 8, constantValue := 0 }, { name := "T_JUMP", type := .int, accessFlags := 25, slot := 9, constantValue := 0 }, { name := "T_BRANCH", type := .int, accessFlags := 25, slot := 10, constantValue := 0 }, { name := "COND_EQZ", type := .int, accessFlags := 25, slot := 11, constantValue := 0 }, { name := "COND_NEZ", type := .int, accessFlags := 25, slot := 12, constantValue := 0 }, { name := "COND_LTZ", type := .int, accessFlags := 25, slot := 13, constantValue := 0 }, { name := "COND_GEZ", type := .int, accessFlags := 25, slot := 14, constantValue := 0 }, { name := "ST_NONE", type := .int, accessFlags := 25, slot := 15, constantValue := 0 }, { name := "ST_HALT", type := .int, accessFlags := 25, slot := 16, constantValue := 0 }, { name := "ST_STEPS", type := .int, accessFlags := 25, slot := 17, constantValue := 0 }, { name := "ST_EMPTY", type := .int, accessFlags := 25, slot := 18, constantValue := 0 }, { name := "OUT_CAP", type := .int, accessFlags := 25, slot := 19, constantValue := 0 }, { name := "F_OP", type := .int, accessFlags := 25, slot := 20, constantValue := 0 }, { name := "F_D", type := .int, accessFlags := 25, slot := 21, constantValue := 0 }, { name := "F_S", type := .int, accessFlags := 25, slot := 22, constantValue := 0 }, { name := "F_IMM", type := .int, accessFlags := 25, slot := 23, constantValue := 0 }, { name := "F_TERM", type := .int, accessFlags := 25, slot := 24, constantValue := 0 }, { name := "F_TEST", type := .int, accessFlags := 25, slot := 25, constantValue := 0 }, { name := "F_TARGET0", type := .int, accessFlags := 25, slot := 26, constantValue := 0 }, { name := "F_TARGET1", type := .int, accessFlags := 25, slot := 27, constantValue := 0 }, { name := "maxBlocks", type := .int, accessFlags := 2, slot := 0, constantValue := 0 }, { name := "maxSteps", type := .int, accessFlags := 2, slot := 1, constantValue := 0 }, { name := "n", type := .int, accessFlags := 2, slot := 2, constantValue := 0 }, { name := "arranged", type := .boolean, accessFlags := 2, slot := 3, constantValue := 0 }, { name := "bOp", type := (.array .int), accessFlags := 2, slot := 4, constantValue := 0 }, { name := "bD", type := (.array .int), accessFlags := 2, slot := 5, constantValue := 0 }, { name := "bS", type := (.array .int), accessFlags := 2, slot := 6, constantValue := 0 }, { name := "bImm", type := (.array .int), accessFlags := 2, slot := 7, constantValue := 0 }, { name := "bTerm", type := (.array .int), accessFlags := 2, slot := 8, constantValue := 0 }, { name := "bTest", type := (.array .int), accessFlags := 2, slot := 9, constantValue := 0 }, { name := "bT0", type := (.array .int), accessFlags := 2, slot := 10, constantValue := 0 }, { name := "bT1", type := (.array .int), accessFlags := 2, slot := 11, constantValue := 0 }, { name := "cnt0", type := (.array .int), accessFlags := 2, slot := 12, constantValue := 0 }, { name := "cnt1", type := (.array .int), accessFlags := 2, slot := 13, constantValue := 0 }, { name := "regs", type := (.array .int), accessFlags := 2, slot := 14, constantValue := 0 }, { name := "outs", type := (.array .int), accessFlags := 2, slot := 15, constantValue := 0 }, { name := "outCount", type := .int, accessFlags := 2, slot := 16, constantValue := 0 }, { name := "steps", type := .int, accessFlags := 2, slot := 17, constantValue := 0 }, { name := "status", type := .int, accessFlags := 2, slot := 18, constantValue := 0 }, { name := "edgeId", type := (.array .int), accessFlags := 2, slot := 19, constantValue := 0 }, { name := "edgeW", type := (.array .int), accessFlags := 2, slot := 20, constantValue := 0 }, { name := "edgeN", type := .int, accessFlags := 2, slot := 21, constantValue := 0 }, { name := "chNext", type := (.array .int), accessFlags := 2, slot := 22, constantValue := 0 }, { name := "chPrev", type := (.array .int), accessFlags := 2, slot := 23, constantValue := 0 }, { name := "chHead", type := (.array .int), accessFlags := 2, slot := 24, constantValue := 0 }, { name := "heat", type := (.array .int), accessFlags := 2, slot := 25, constantValue := 0 }, { name := "posOf", type := (.array .int), accessFlags := 2, slot := 26, constantValue := 0 }, { name := "order", type := (.array .int), accessFlags := 2, slot := 27, constantValue := 0 }, { name := "cOp", type := (.array .int), accessFlags := 2, slot := 28, constantValue := 0 }, { name := "cD", type := (.array .int), accessFlags := 2, slot := 29, constantValue := 0 }, { name := "cS", type := (.array .int), accessFlags := 2, slot := 30, constantValue := 0 }, { name := "cImm", type := (.array .int), accessFlags := 2, slot := 31, constantValue := 0 }, { name := "cKind", type := (.array .int), accessFlags := 2, slot := 32, constantValue := 0 }, { name := "cTest", type := (.array .int), accessFlags := 2, slot := 33, constantValue := 0 }, { name := "cTaken", type := (.array .int), accessFlags := 2, slot := 34, constantValue := 0 }, { name := "cOther", type := (.array .int), accessFlags := 2, slot := 35, constantValue := 0 }]
  methods := #[k2m0, k2m1, k2m2, k2m3, k2m4, k2m5, k2m6, k2m7, k2m8, k2m9, k2m10, k2m11]
  instanceTypes := #[.int, .int, .int, .boolean, (.array .int), (.array .int), (.array .int), (.array .int), (.array .int), (.array .int), (.array .int), (.array .int), (.array .int), (.array .int), (.array .int), (.array .int), .int, .int, .int, (.array .int), (.array .int), .int, (.array .int), (.array .int), (.array .int), (.array .int), (.array .int), (.array .int), (.array .int), (.array .int), (.array .int), (.array .int), (.array .int), (.array .int), (.array .int), (.array .int)]
  staticTypes := #[.int, .int, .int, .int, .int, .int, .int, .int, .int, .int, .int, .int, .int, .int, .int, .int, .int, .int, .int, .int, .int, .int, .int, .int, .int, .int, .int, .int]
  resolved := Array.replicate 240 none
  statics := none }

def pool3 : Array CpInfo := pool [(1, u "java/lang/Cloneable"), (0, .class_ 1), (0, u "java/lang/Object"), (0, .class_ 3)] 3

/-- java/lang/Cloneable -/
def k3 : Class := { plain "java/lang/Cloneable" (some 0) with
  accessFlags := 1537
  interfaces := #[]
  cf := some (fileOf pool3 2 #[] #[] 1537 4 #[] #[])
  fields := #[]
  methods := #[]
  instanceTypes := #[]
  staticTypes := #[]
  resolved := Array.replicate 8 none
  statics := none }

def pool4 : Array CpInfo := pool [(1, u "java/io/Serializable"), (0, .class_ 1), (0, u "java/lang/Object"), (0, .class_ 3)] 3

/-- java/io/Serializable -/
def k4 : Class := { plain "java/io/Serializable" (some 0) with
  accessFlags := 1537
  interfaces := #[]
  cf := some (fileOf pool4 2 #[] #[] 1537 4 #[] #[])
  fields := #[]
  methods := #[]
  instanceTypes := #[]
  staticTypes := #[]
  resolved := Array.replicate 8 none
  statics := none }

/-- the primitive byte -/
def k5 : Class := { plain "byte" none with kind := .primitive 'B', accessFlags := 0x411 }
/-- [B -/
def k6 : Class := { plain "[B" (some 0) with kind := .array 5 .byte, interfaces := #[3, 4], accessFlags := 1041 }

/-- the primitive int -/
def k7 : Class := { plain "int" none with kind := .primitive 'I', accessFlags := 0x411 }
/-- [I -/
def k8 : Class := { plain "[I" (some 0) with kind := .array 7 .int, interfaces := #[3, 4], accessFlags := 1041 }

def heap : Heap := #[]
def classes : Array Class := #[k0, k1, k2, k3, k4, k5, k6, k7, k8]
def interned : List (Array UInt16 × Addr) := []
def slotsUsed : Nat := 0
def theMethod : MethodId := ⟨1, 1⟩
def args0 : Array Value := #[.int 5, .int 5, .int 5, .int 5, .int 5, .int 5]
def aboutOver (below : List Frame) : State where
  vm := { classes := classes, interned := interned.toArray }
  heap := heap
  slotsUsed := slotsUsed
  threads := #[{ frames := .invoking theMethod args0 :: below }]
def below0 : List Frame := [.native { method := ⟨0, 0⟩, args := #[] }]
def about1 : State := aboutOver below0
def p0 : Program := .bare "" "" ""
def e0 : Env := launch0.env 0 0 0
theorem w_frames : about1.frames = Frame.invoking theMethod args0 :: below0 := rfl
set_option maxRecDepth 65536 in
theorem w_args : argsFit about1.vm theMethod args0 = true := by decide +kernel
set_option maxRecDepth 65536 in
theorem w_heap : heapFits about1 = true := by decide +kernel
set_option maxRecDepth 65536 in
theorem w_runnable : about1.curStatus? = some .runnable := by decide +kernel
set_option maxRecDepth 65536 in
theorem w_alone : about1.alone = true := by decide +kernel
set_option maxRecDepth 65536 in
theorem w_named : about1.methodNamed? x = some theMethod := by decide +kernel
set_option maxRecDepth 65536 in
theorem w_hears : about1.hears theMethod below0 = true := by decide +kernel
set_option maxRecDepth 65536 in
theorem w_ripe : about1.ripe theMethod args0 below0 = true := by decide +kernel
theorem w_running : about1.status = .running := rfl
set_option maxRecDepth 65536 in
theorem w_room : about1.hasRoom e0.platform room_1 = true :=
  launch0.hasRoom_least _ room_1 (by decide +kernel) (by decide +kernel) (by decide +kernel) (by decide +kernel) (by decide +kernel) (by decide +kernel)
theorem allAtoms_all (ts : List Jvm.Cond) (a : Array Jvm.Value) (st : Jvm.State) : (allAtoms ts).before a st = ts.all (fun c => c.before a st) := by
  induction ts with
  | nil => rfl
  | cons c t ih =>
    show (Jvm.Cond.and c (allAtoms t)).before a st = _
    rw [Jvm.Cond.before_and, ih, List.all_cons]
def words1 : List Jvm.Cond := Jvm.Cond.code x code maxLocals ret :: tables_1
/-- a 'code' word, met by the world's own term for the bytes: nothing is compared byte by byte -/
theorem code_word {y : MethodName} {bytes : ByteArray} {mx : Nat} {rt : Option FieldType} {a : Array Value} {s : State} {m : MethodId} {meth : Method} {c : Code} (h1 : s.methodNamed? y = some m) (h2 : s.vm.method? m = some meth) (h3 : meth.code = some c) (h4 : c.code = bytes)
    (h5 : (c.maxLocals == mx && c.exceptionTable.isEmpty && decide (c.maxStack ≤ mostOperands) && decide (meth.sig.returnType = rt) && !meth.locks && decide (parseMethodDescriptor y.desc = some meth.sig)) = true) : (Jvm.Cond.code y bytes mx rt).before a s = true := by
  simp only [Bool.and_eq_true, beq_iff_eq, Bool.not_eq_true', decide_eq_true_eq] at h5
  obtain ⟨⟨⟨⟨⟨g1, g2⟩, g3⟩, g4⟩, g5⟩, g6⟩ := h5
  simp [Cond.before, Cond.holds, Cond.value, h1, h2, h3, h4, g1, g2, g3, g4, g5, g6]
def isCode : Jvm.Cond → Bool
  | .code _ _ _ _ => true
  | _ => false
theorem all_split {L : List Jvm.Cond} {P : Jvm.Cond → Bool} (h1 : L.all (fun c => isCode c || P c) = true) (h2 : ∀ c ∈ L.filter isCode, P c = true) : L.all P = true := by
  refine List.all_eq_true.mpr fun c hc => ?_
  have h := List.all_eq_true.mp h1 c hc
  rcases Bool.eq_false_or_eq_true (isCode c) with hi | hi
  · exact h2 c (List.mem_filter.mpr ⟨hc, hi⟩)
  · simpa [hi] using h
set_option maxRecDepth 65536 in
theorem w_c0 : (Jvm.Cond.code x code maxLocals ret).before args0 about1 = true := code_word (m := ⟨1, 1⟩) (meth := k1m1) (c := k1c1) (by decide +kernel) rfl rfl rfl (by decide +kernel)
set_option maxRecDepth 65536 in
theorem w_c1 : (Jvm.Cond.code ({ cls := "ChainLayout", name := "<init>", desc := "(II)V" } : Jvm.MethodName) prog_1_method_1_code (5 : Nat) (Option.none : Option Jvm.ClassFile.FieldType)).before args0 about1 = true := code_word (m := ⟨2, 0⟩) (meth := k2m0) (c := k2c0) (by decide +kernel) rfl rfl rfl (by decide +kernel)
set_option maxRecDepth 65536 in
theorem w_c2 : (Jvm.Cond.code ({ cls := "java/lang/Object", name := "<init>", desc := "()V" } : Jvm.MethodName) object_method_1_code (1 : Nat) (Option.none : Option Jvm.ClassFile.FieldType)).before args0 about1 = true := code_word (m := ⟨0, 0⟩) (meth := k0m0) (c := k0c0) (by decide +kernel) rfl rfl rfl (by decide +kernel)
set_option maxRecDepth 65536 in
theorem w_c3 : (Jvm.Cond.code ({ cls := "ChainLayout", name := "addBlock", desc := "(IIII)I" } : Jvm.MethodName) prog_1_method_2_code (6 : Nat) (Option.some Jvm.ClassFile.FieldType.int)).before args0 about1 = true := code_word (m := ⟨2, 1⟩) (meth := k2m1) (c := k2c1) (by decide +kernel) rfl rfl rfl (by decide +kernel)
set_option maxRecDepth 65536 in
theorem w_c4 : (Jvm.Cond.code ({ cls := "ChainLayout", name := "writeTerm", desc := "(IIII)V" } : Jvm.MethodName) prog_1_method_19_code (5 : Nat) (Option.none : Option Jvm.ClassFile.FieldType)).before args0 about1 = true := code_word (m := ⟨2, 8⟩) (meth := k2m8) (c := k2c8) (by decide +kernel) rfl rfl rfl (by decide +kernel)
set_option maxRecDepth 65536 in
theorem w_c5 : (Jvm.Cond.code ({ cls := "ChainLayout", name := "clearCounts", desc := "()V" } : Jvm.MethodName) prog_1_method_20_code (2 : Nat) (Option.none : Option Jvm.ClassFile.FieldType)).before args0 about1 = true := code_word (m := ⟨2, 9⟩) (meth := k2m9) (c := k2c9) (by decide +kernel) rfl rfl rfl (by decide +kernel)
set_option maxRecDepth 65536 in
theorem w_c6 : (Jvm.Cond.code ({ cls := "ChainLayout", name := "setJump", desc := "(II)Z" } : Jvm.MethodName) prog_1_method_3_code (3 : Nat) (Option.some Jvm.ClassFile.FieldType.boolean)).before args0 about1 = true := code_word (m := ⟨2, 2⟩) (meth := k2m2) (c := k2c2) (by decide +kernel) rfl rfl rfl (by decide +kernel)
set_option maxRecDepth 65536 in
theorem w_c7 : (Jvm.Cond.code ({ cls := "ChainLayout", name := "validBlock", desc := "(I)Z" } : Jvm.MethodName) prog_1_method_18_code (2 : Nat) (Option.some Jvm.ClassFile.FieldType.boolean)).before args0 about1 = true := code_word (m := ⟨2, 7⟩) (meth := k2m7) (c := k2c7) (by decide +kernel) rfl rfl rfl (by decide +kernel)
set_option maxRecDepth 65536 in
theorem w_c8 : (Jvm.Cond.code ({ cls := "ChainLayout", name := "run", desc := "(I)I" } : Jvm.MethodName) prog_1_method_6_code (5 : Nat) (Option.some Jvm.ClassFile.FieldType.int)).before args0 about1 = true := code_word (m := ⟨2, 4⟩) (meth := k2m4) (c := k2c4) (by decide +kernel) rfl rfl rfl (by decide +kernel)
set_option maxRecDepth 65536 in
theorem w_c9 : (Jvm.Cond.code ({ cls := "ChainLayout", name := "stepBlock", desc := "(I)I" } : Jvm.MethodName) prog_1_method_23_code (3 : Nat) (Option.some Jvm.ClassFile.FieldType.int)).before args0 about1 = true := code_word (m := ⟨2, 11⟩) (meth := k2m11) (c := k2c11) (by decide +kernel) rfl rfl rfl (by decide +kernel)
set_option maxRecDepth 65536 in
theorem w_c10 : (Jvm.Cond.code ({ cls := "ChainLayout", name := "doOp", desc := "(IIII)V" } : Jvm.MethodName) prog_1_method_21_code (5 : Nat) (Option.none : Option Jvm.ClassFile.FieldType)).before args0 about1 = true := code_word (m := ⟨2, 10⟩) (meth := k2m10) (c := k2c10) (by decide +kernel) rfl rfl rfl (by decide +kernel)
set_option maxRecDepth 65536 in
theorem w_c11 : (Jvm.Cond.code ({ cls := "ChainLayout", name := "setBranch", desc := "(IIII)Z" } : Jvm.MethodName) prog_1_method_4_code (5 : Nat) (Option.some Jvm.ClassFile.FieldType.boolean)).before args0 about1 = true := code_word (m := ⟨2, 3⟩) (meth := k2m3) (c := k2c3) (by decide +kernel) rfl rfl rfl (by decide +kernel)
set_option maxRecDepth 65536 in
theorem w_c12 : (Jvm.Cond.code ({ cls := "ChainLayout", name := "edgeCount", desc := "(II)I" } : Jvm.MethodName) prog_1_method_12_code (3 : Nat) (Option.some Jvm.ClassFile.FieldType.int)).before args0 about1 = true := code_word (m := ⟨2, 6⟩) (meth := k2m6) (c := k2c6) (by decide +kernel) rfl rfl rfl (by decide +kernel)
set_option maxRecDepth 65536 in
theorem w_c13 : (Jvm.Cond.code ({ cls := "ChainLayout", name := "blockInfo", desc := "(II)I" } : Jvm.MethodName) prog_1_method_11_code (3 : Nat) (Option.some Jvm.ClassFile.FieldType.int)).before args0 about1 = true := code_word (m := ⟨2, 5⟩) (meth := k2m5) (c := k2c5) (by decide +kernel) rfl rfl rfl (by decide +kernel)
def codes1 : List Jvm.Cond := [Jvm.Cond.code x code maxLocals ret, Jvm.Cond.code ({ cls := "ChainLayout", name := "<init>", desc := "(II)V" } : Jvm.MethodName) prog_1_method_1_code (5 : Nat) (Option.none : Option Jvm.ClassFile.FieldType), Jvm.Cond.code ({ cls := "java/lang/Object", name := "<init>", desc := "()V" } : Jvm.MethodName) object_method_1_code (1 : Nat) (Option.none : Option Jvm.ClassFile.FieldType), Jvm.Cond.code ({ cls := "ChainLayout", name := "addBlock", desc := "(IIII)I" } : Jvm.MethodName) prog_1_method_2_code (6 : Nat) (Option.some Jvm.ClassFile.FieldType.int), Jvm.Cond.code ({ cls := "ChainLayout", name := "writeTerm", desc := "(IIII)V" } : Jvm.MethodName) prog_1_method_19_code (5 : Nat) (Option.none : Option Jvm.ClassFile.FieldType), Jvm.Cond.code ({ cls := "ChainLayout", name := "clearCounts", desc := "()V" } : Jvm.MethodName) prog_1_method_20_code (2 : Nat) (Option.none : Option Jvm.ClassFile.FieldType), Jvm.Cond.code ({ cls := "ChainLayout", name := "setJump", desc := "(II)Z" } : Jvm.MethodName) prog_1_method_3_code (3 : Nat) (Option.some Jvm.ClassFile.FieldType.boolean), Jvm.Cond.code ({ cls := "ChainLayout", name := "validBlock", desc := "(I)Z" } : Jvm.MethodName) prog_1_method_18_code (2 : Nat) (Option.some Jvm.ClassFile.FieldType.boolean), Jvm.Cond.code ({ cls := "ChainLayout", name := "run", desc := "(I)I" } : Jvm.MethodName) prog_1_method_6_code (5 : Nat) (Option.some Jvm.ClassFile.FieldType.int), Jvm.Cond.code ({ cls := "ChainLayout", name := "stepBlock", desc := "(I)I" } : Jvm.MethodName) prog_1_method_23_code (3 : Nat) (Option.some Jvm.ClassFile.FieldType.int), Jvm.Cond.code ({ cls := "ChainLayout", name := "doOp", desc := "(IIII)V" } : Jvm.MethodName) prog_1_method_21_code (5 : Nat) (Option.none : Option Jvm.ClassFile.FieldType), Jvm.Cond.code ({ cls := "ChainLayout", name := "setBranch", desc := "(IIII)Z" } : Jvm.MethodName) prog_1_method_4_code (5 : Nat) (Option.some Jvm.ClassFile.FieldType.boolean), Jvm.Cond.code ({ cls := "ChainLayout", name := "edgeCount", desc := "(II)I" } : Jvm.MethodName) prog_1_method_12_code (3 : Nat) (Option.some Jvm.ClassFile.FieldType.int), Jvm.Cond.code ({ cls := "ChainLayout", name := "blockInfo", desc := "(II)I" } : Jvm.MethodName) prog_1_method_11_code (3 : Nat) (Option.some Jvm.ClassFile.FieldType.int)]
set_option maxRecDepth 65536 in
theorem codes_eq : words1.filter isCode = codes1 := rfl
theorem w_codes : ∀ c ∈ words1.filter isCode, c.before args0 about1 = true := by
  rw [codes_eq]
  intro c hc
  simp only [codes1, List.mem_cons, List.not_mem_nil, or_false] at hc
  rcases hc with rfl | rfl | rfl | rfl | rfl | rfl | rfl | rfl | rfl | rfl | rfl | rfl | rfl | rfl
  · exact w_c0
  · exact w_c1
  · exact w_c2
  · exact w_c3
  · exact w_c4
  · exact w_c5
  · exact w_c6
  · exact w_c7
  · exact w_c8
  · exact w_c9
  · exact w_c10
  · exact w_c11
  · exact w_c12
  · exact w_c13
set_option maxRecDepth 65536 in
theorem w_t1 : (words1.take 24).all (fun c => isCode c || c.before args0 about1) = true := by decide +kernel
set_option maxRecDepth 65536 in
theorem w_t2 : ((words1.drop 24).take 24).all (fun c => isCode c || c.before args0 about1) = true := by decide +kernel
set_option maxRecDepth 65536 in
theorem w_t3 : (((words1.drop 24).drop 24).take 24).all (fun c => isCode c || c.before args0 about1) = true := by decide +kernel
set_option maxRecDepth 65536 in
theorem w_t4 : ((((words1.drop 24).drop 24).drop 24).take 24).all (fun c => isCode c || c.before args0 about1) = true := by decide +kernel
set_option maxRecDepth 65536 in
theorem w_t5 : (((((words1.drop 24).drop 24).drop 24).drop 24).take 24).all (fun c => isCode c || c.before args0 about1) = true := by decide +kernel
set_option maxRecDepth 65536 in
theorem w_t6 : (((((words1.drop 24).drop 24).drop 24).drop 24).drop 24).all (fun c => isCode c || c.before args0 about1) = true := by decide +kernel
theorem w_tables : (allAtoms (Jvm.Cond.code x code maxLocals ret :: tables_1)).before args0 about1 = true := by
  rw [allAtoms_all]
  show words1.all (fun c => c.before args0 about1) = true
  refine all_split ?_ w_codes
  rw [← List.take_append_drop 24 words1, List.all_append, w_t1, ← List.take_append_drop 24 (words1.drop 24), List.all_append, w_t2, ← List.take_append_drop 24 ((words1.drop 24).drop 24), List.all_append, w_t3, ← List.take_append_drop 24 (((words1.drop 24).drop 24).drop 24), List.all_append, w_t4, ← List.take_append_drop 24 ((((words1.drop 24).drop 24).drop 24).drop 24), List.all_append, w_t5, w_t6]
  rfl
set_option maxRecDepth 65536 in
theorem w_case : (Jvm.Cond.and given_1 narrow_1).before args0 about1 = true := by decide +kernel
theorem w_applies : (headSpec (Jvm.Cond.code x code maxLocals ret :: tables_1) room_1).applies x e0.platform about1 = true :=
  (Spec.applies_iff w_frames).mpr ⟨w_running, w_runnable, w_alone, w_named, w_hears, w_ripe, w_room, w_tables⟩
theorem atStart : AtStart classFile x code maxLocals ret World_1 tables_1 room_1 Calls_1 rest_1 Pre_1 launch0 p0 e0 about1 theMethod args0 below0 :=
  ⟨lists_1, trivial, launch0.admits_env _ _ _, launch0.least_env, fairChoices_fair.cas, fairChoices_fair.clock, w_frames, w_args, w_heap, w_applies, trivial, trivial, w_case⟩
end start1
theorem witness_1 : WitnessClaimed_1 := ⟨start1.p0, start1.e0, start1.about1, start1.theMethod, start1.args0, start1.below0, start1.atStart⟩
end Jvm.Pilot.@@N@@
