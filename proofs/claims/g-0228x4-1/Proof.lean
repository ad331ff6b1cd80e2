import JvmDerived
import JvmDerived.Pilot.@@N@@Statement
import JvmDerived.Pilot.@@N@@Code
set_option linter.unusedVariables false
set_option linter.unusedSimpArgs false
namespace Jvm.RoadKit
open Sem ClassFile Op Lib Jvm.Stand Jvm.Free Jvm.LawKit
section New
variable {p : Program} {l : Launch} {e : Env} {R : Room} {s : State} {m : MethodId} {args : Array Value} {below : List Frame} {meth : Method} {c : Code} {T : State} {locs : List Loc} {cells slots : Nat}
theorem retI (X : Stand p l e R s m args below meth c T locs cells slots) (hx : p.tables.exec = Jvm.exec) {pc : Nat} {Ls : Array Slot} {z : Int32} {rest : List Value} (hret : meth.sig.returnType = some .int) (hd : decode c.code pc = .ok (.ireturn, 1)) {fs : List Frame}
    (hl : ∀ (f : JFrame) (acts : List Action), f.method = m → f.locked = none → f.entered = [] → (doReturn e (T.setTop f) acts (some (.int z))).1 = T.setFrames fs) : Steps p.tables e below (T.setTop (mkF m pc Ls (.int z :: rest))) (T.setFrames fs) := by
  have hm' : T.vm.method? m = some meth := X.method'
  have hn : narrow .int (.int z) = .int z := rfl
  show Steps p.tables e below (T.setTop { method := m, pc := pc, locals := Ls, stack := _ :: rest, locked := none }) _
  jvm_step X.here [X.here.top, hx, hd, hm', hret, hn]
  first | (intro acts; rw [hl _ acts rfl rfl rfl]) | rw [hl _ _ rfl rfl rfl]
  exact Steps.refl _
end New
end Jvm.RoadKit
namespace Jvm.Pilot.@@N@@
open Jvm Jvm.ClassFile Sem Op Lib Jvm.Free Jvm.Stand Jvm.LawKit Jvm.RoadKit Bundle Jvm.Pilot.@@N@@.Jvm.D
/-! TABLES of this claim: printed by claim.py -/
def k0 : Nat := 0
def cName : String := "PivotSheet"
def cN : Nat := 21
def nF : Nat := 17
def kName (k : Nat) : String := bif Nat.beq k 0 then "PivotSheetL2" else "PivotSheet"
def fNm (k : Nat) : String := (bif Nat.ble 8 k then (bif Nat.ble 12 k then (bif Nat.ble 14 k then (bif Nat.ble 15 k then (bif Nat.ble 16 k then "gCount" else "gVal") else "last") else (bif Nat.ble 13 k then "nForms" else "nRows")) else (bif Nat.ble 10 k then (bif Nat.ble 11 k then "keys" else "prevFound") else (bif Nat.ble 9 k then "prevVal" else "fCk"))) else (bif Nat.ble 4 k then (bif Nat.ble 6 k then (bif Nat.ble 7 k then "fRk" else "fMode") else (bif Nat.ble 5 k then "ag" else "vf")) else (bif Nat.ble 2 k then (bif Nat.ble 3 k then "cf" else "rf") else (bif Nat.ble 1 k then "filled" else "data"))))
def fDs (k : Nat) : String := (bif Nat.ble 8 k then (bif Nat.ble 12 k then (bif Nat.ble 14 k then (bif Nat.ble 15 k then (bif Nat.ble 16 k then "I" else "I") else "I") else (bif Nat.ble 13 k then "I" else "I")) else (bif Nat.ble 10 k then (bif Nat.ble 11 k then "[I" else "[Z") else (bif Nat.ble 9 k then "[I" else "[I"))) else (bif Nat.ble 4 k then (bif Nat.ble 6 k then (bif Nat.ble 7 k then "[I" else "[I") else (bif Nat.ble 5 k then "I" else "I")) else (bif Nat.ble 2 k then (bif Nat.ble 3 k then "I" else "I") else (bif Nat.ble 1 k then "[Z" else "[I"))))
def fTy (k : Nat) : FieldType := (bif Nat.ble 8 k then (bif Nat.ble 12 k then (bif Nat.ble 14 k then (bif Nat.ble 15 k then (bif Nat.ble 16 k then .int else .int) else .int) else (bif Nat.ble 13 k then .int else .int)) else (bif Nat.ble 10 k then (bif Nat.ble 11 k then (.array .int) else (.array .boolean)) else (bif Nat.ble 9 k then (.array .int) else (.array .int)))) else (bif Nat.ble 4 k then (bif Nat.ble 6 k then (bif Nat.ble 7 k then (.array .int) else (.array .int)) else (bif Nat.ble 5 k then .int else .int)) else (bif Nat.ble 2 k then (bif Nat.ble 3 k then .int else .int) else (bif Nat.ble 1 k then (.array .boolean) else (.array .int)))))
def fFin (k : Nat) : Bool := (bif Nat.ble 8 k then (bif Nat.ble 12 k then (bif Nat.ble 14 k then (bif Nat.ble 15 k then (bif Nat.ble 16 k then false else false) else false) else (bif Nat.ble 13 k then false else false)) else (bif Nat.ble 10 k then (bif Nat.ble 11 k then false else false) else (bif Nat.ble 9 k then false else false))) else (bif Nat.ble 4 k then (bif Nat.ble 6 k then (bif Nat.ble 7 k then false else false) else (bif Nat.ble 5 k then false else false)) else (bif Nat.ble 2 k then (bif Nat.ble 3 k then false else false) else (bif Nat.ble 1 k then false else false))))
def cDef : List Value := [.null, .null, .int 0, .int 0, .int 0, .int 0, .null, .null, .null, .null, .null, .null, .int 0, .int 0, .int 0, .int 0, .int 0]
def cK : List Value := []
def pN : Nat := 14
def pTop : Nat := 230
def pK (m : Nat) : Nat := (bif Nat.ble 7 m then (bif Nat.ble 10 m then (bif Nat.ble 12 m then (bif Nat.ble 13 m then 1 else 1) else (bif Nat.ble 11 m then 1 else 1)) else (bif Nat.ble 8 m then (bif Nat.ble 9 m then 1 else 1) else 1)) else (bif Nat.ble 3 m then (bif Nat.ble 5 m then (bif Nat.ble 6 m then 1 else 1) else (bif Nat.ble 4 m then 1 else 1)) else (bif Nat.ble 1 m then (bif Nat.ble 2 m then 1 else 1) else 0)))
def pNm (m : Nat) : String := (bif Nat.ble 7 m then (bif Nat.ble 10 m then (bif Nat.ble 12 m then (bif Nat.ble 13 m then "clearRow" else "rowKey") else (bif Nat.ble 11 m then "insertKey" else "buildKeys")) else (bif Nat.ble 8 m then (bif Nat.ble 9 m then "rowKeyCount" else "isFilled") else "getCell")) else (bif Nat.ble 3 m then (bif Nat.ble 5 m then (bif Nat.ble 6 m then "countChanged" else "evalFormula") else (bif Nat.ble 4 m then "snapshot" else "validRow")) else (bif Nat.ble 1 m then (bif Nat.ble 2 m then "setCell" else "<init>") else "law")))
def pDs (m : Nat) : String := (bif Nat.ble 7 m then (bif Nat.ble 10 m then (bif Nat.ble 12 m then (bif Nat.ble 13 m then "(I)Z" else "(I)I") else (bif Nat.ble 11 m then "(III)I" else "(II)I")) else (bif Nat.ble 8 m then (bif Nat.ble 9 m then "()I" else "(I)Z") else "(II)I")) else (bif Nat.ble 3 m then (bif Nat.ble 5 m then (bif Nat.ble 6 m then "()I" else "(I)V") else (bif Nat.ble 4 m then "()V" else "(I)Z")) else (bif Nat.ble 1 m then (bif Nat.ble 2 m then "(III)Z" else "(II)V") else "(III)Z")))
def pName (m : Nat) : MethodName := ⟨kName (pK m), pNm m, pDs m⟩
def pBytes (m : Nat) : ByteArray := (bif Nat.ble 7 m then (bif Nat.ble 10 m then (bif Nat.ble 12 m then (bif Nat.ble 13 m then prog_1_method_3_code else prog_1_method_9_code) else (bif Nat.ble 11 m then prog_1_method_21_code else prog_1_method_20_code)) else (bif Nat.ble 8 m then (bif Nat.ble 9 m then prog_1_method_7_code else prog_1_method_5_code) else prog_1_method_4_code)) else (bif Nat.ble 3 m then (bif Nat.ble 5 m then (bif Nat.ble 6 m then prog_1_method_27_code else prog_1_method_25_code) else (bif Nat.ble 4 m then prog_1_method_26_code else prog_1_method_17_code)) else (bif Nat.ble 1 m then (bif Nat.ble 2 m then prog_1_method_2_code else prog_1_method_1_code) else code)))
def pMaxL (m : Nat) : Nat := (bif Nat.ble 7 m then (bif Nat.ble 10 m then (bif Nat.ble 12 m then (bif Nat.ble 13 m then 3 else 3) else (bif Nat.ble 11 m then 6 else 5)) else (bif Nat.ble 8 m then (bif Nat.ble 9 m then 1 else 2) else 3)) else (bif Nat.ble 3 m then (bif Nat.ble 5 m then (bif Nat.ble 6 m then 4 else 5) else (bif Nat.ble 4 m then 2 else 2)) else (bif Nat.ble 1 m then (bif Nat.ble 2 m then 4 else 5) else 16)))
def pRet (m : Nat) : Option FieldType := (bif Nat.ble 7 m then (bif Nat.ble 10 m then (bif Nat.ble 12 m then (bif Nat.ble 13 m then (some .boolean) else (some .int)) else (bif Nat.ble 11 m then (some .int) else (some .int))) else (bif Nat.ble 8 m then (bif Nat.ble 9 m then (some .int) else (some .boolean)) else (some .int))) else (bif Nat.ble 3 m then (bif Nat.ble 5 m then (bif Nat.ble 6 m then (some .int) else none) else (bif Nat.ble 4 m then none else (some .boolean))) else (bif Nat.ble 1 m then (bif Nat.ble 2 m then (some .boolean) else none) else (some .boolean))))
def pNA (m : Nat) : Nat := (bif Nat.ble 7 m then (bif Nat.ble 10 m then (bif Nat.ble 12 m then (bif Nat.ble 13 m then 1 else 1) else (bif Nat.ble 11 m then 3 else 2)) else (bif Nat.ble 8 m then (bif Nat.ble 9 m then 0 else 1) else 2)) else (bif Nat.ble 3 m then (bif Nat.ble 5 m then (bif Nat.ble 6 m then 0 else 1) else (bif Nat.ble 4 m then 0 else 1)) else (bif Nat.ble 1 m then (bif Nat.ble 2 m then 3 else 2) else 3)))
def pFr (m : Nat) : Nat := (bif Nat.ble 7 m then (bif Nat.ble 10 m then (bif Nat.ble 12 m then (bif Nat.ble 13 m then 2 else 2) else (bif Nat.ble 11 m then 0 else 1)) else (bif Nat.ble 8 m then (bif Nat.ble 9 m then 2 else 1) else 1)) else (bif Nat.ble 3 m then (bif Nat.ble 5 m then (bif Nat.ble 6 m then 1 else 0) else (bif Nat.ble 4 m then 1 else 0)) else (bif Nat.ble 1 m then (bif Nat.ble 2 m then 2 else 1) else 3)))
def pLo (m : Nat) : Nat := (bif Nat.ble 7 m then (bif Nat.ble 10 m then (bif Nat.ble 12 m then (bif Nat.ble 13 m then 32 else 33) else (bif Nat.ble 11 m then 0 else 17)) else (bif Nat.ble 8 m then (bif Nat.ble 9 m then 33 else 13) else 13)) else (bif Nat.ble 3 m then (bif Nat.ble 5 m then (bif Nat.ble 6 m then 16 else 0) else (bif Nat.ble 4 m then 16 else 0)) else (bif Nat.ble 1 m then (bif Nat.ble 2 m then 32 else 12) else 47)))
def cd0 (pc : Nat) : Option (Instr × Nat) := (bif Nat.ble 110 pc then (bif Nat.ble 170 pc then (bif Nat.ble 199 pc then (bif Nat.ble 213 pc then (bif Nat.ble 221 pc then (bif Nat.ble 225 pc then (bif Nat.ble 228 pc then (bif Nat.ble 229 pc then (bif Nat.beq pc 229 then some (.ireturn, 0) else none) else (bif Nat.beq pc 228 then some (.iconst 0, 0) else none)) else (bif Nat.beq pc 225 then some (.goto 4, 229) else none)) else (bif Nat.ble 224 pc then (bif Nat.beq pc 224 then some (.iconst 1, 0) else none) else (bif Nat.beq pc 221 then some (.ifCond .ne 7, 228) else none))) else (bif Nat.ble 217 pc then (bif Nat.ble 219 pc then (bif Nat.beq pc 219 then some (.iload 15, 0) else none) else (bif Nat.beq pc 217 then some (.istore 15, 0) else none)) else (bif Nat.ble 214 pc then (bif Nat.beq pc 214 then some (.invokevirtual 24, 9) else none) else (bif Nat.beq pc 213 then some (.aload_n 3, 0) else none)))) else (bif Nat.ble 206 pc then (bif Nat.ble 211 pc then (bif Nat.ble 212 pc then (bif Nat.beq pc 212 then some (.ireturn, 0) else none) else (bif Nat.beq pc 211 then some (.iconst 0, 0) else none)) else (bif Nat.ble 208 pc then (bif Nat.beq pc 208 then some (.ifCond .eq 5, 213) else none) else (bif Nat.beq pc 206 then some (.iload 14, 0) else none))) else (bif Nat.ble 201 pc then (bif Nat.ble 204 pc then (bif Nat.beq pc 204 then some (.istore 14, 0) else none) else (bif Nat.beq pc 201 then some (.invokevirtual 20, 8) else none)) else (bif Nat.ble 200 pc then (bif Nat.beq pc 200 then some (.iload_n 0, 0) else none) else (bif Nat.beq pc 199 then some (.aload_n 3, 0) else none))))) else (bif Nat.ble 185 pc then (bif Nat.ble 192 pc then (bif Nat.ble 197 pc then (bif Nat.ble 198 pc then (bif Nat.beq pc 198 then some (.ireturn, 0) else none) else (bif Nat.beq pc 197 then some (.iconst 0, 0) else none)) else (bif Nat.ble 194 pc then (bif Nat.beq pc 194 then some (.ifCond .eq 5, 199) else none) else (bif Nat.beq pc 192 then some (.iload 13, 0) else none))) else (bif Nat.ble 187 pc then (bif Nat.ble 190 pc then (bif Nat.beq pc 190 then some (.istore 13, 0) else none) else (bif Nat.beq pc 187 then some (.invokevirtual 16, 7) else none)) else (bif Nat.ble 186 pc then (bif Nat.beq pc 186 then some (.iload_n 1, 0) else none) else (bif Nat.beq pc 185 then some (.iload_n 0, 0) else none)))) else (bif Nat.ble 179 pc then (bif Nat.ble 183 pc then (bif Nat.ble 184 pc then (bif Nat.beq pc 184 then some (.aload_n 3, 0) else none) else (bif Nat.beq pc 183 then some (.ireturn, 0) else none)) else (bif Nat.ble 182 pc then (bif Nat.beq pc 182 then some (.iconst 0, 0) else none) else (bif Nat.beq pc 179 then some (.if_icmp .eq 5, 184) else none))) else (bif Nat.ble 175 pc then (bif Nat.ble 177 pc then (bif Nat.beq pc 177 then some (.iload 4, 0) else none) else (bif Nat.beq pc 175 then some (.iload 12, 0) else none)) else (bif Nat.ble 173 pc then (bif Nat.beq pc 173 then some (.istore 12, 0) else none) else (bif Nat.beq pc 170 then some (.invokevirtual 32, 13) else none)))))) else (bif Nat.ble 140 pc then (bif Nat.ble 155 pc then (bif Nat.ble 163 pc then (bif Nat.ble 167 pc then (bif Nat.ble 168 pc then (bif Nat.ble 169 pc then (bif Nat.beq pc 169 then some (.iload_n 0, 0) else none) else (bif Nat.beq pc 168 then some (.aload_n 3, 0) else none)) else (bif Nat.beq pc 167 then some (.ireturn, 0) else none)) else (bif Nat.ble 166 pc then (bif Nat.beq pc 166 then some (.iconst 0, 0) else none) else (bif Nat.beq pc 163 then some (.if_icmp .eq 5, 168) else none))) else (bif Nat.ble 159 pc then (bif Nat.ble 162 pc then (bif Nat.beq pc 162 then some (.iconst 0, 0) else none) else (bif Nat.beq pc 159 then some (.goto 4, 163) else none)) else (bif Nat.ble 158 pc then (bif Nat.beq pc 158 then some (.iload_n 2, 0) else none) else (bif Nat.beq pc 155 then some (.ifCond .ne 7, 162) else none)))) else (bif Nat.ble 147 pc then (bif Nat.ble 151 pc then (bif Nat.ble 154 pc then (bif Nat.beq pc 154 then some (.iload_n 1, 0) else none) else (bif Nat.beq pc 151 then some (.ifCond .eq 11, 162) else none)) else (bif Nat.ble 149 pc then (bif Nat.beq pc 149 then some (.iload 4, 0) else none) else (bif Nat.beq pc 147 then some (.iload 11, 0) else none))) else (bif Nat.ble 142 pc then (bif Nat.ble 145 pc then (bif Nat.beq pc 145 then some (.istore 11, 0) else none) else (bif Nat.beq pc 142 then some (.invokevirtual 28, 12) else none)) else (bif Nat.ble 141 pc then (bif Nat.beq pc 141 then some (.iconst 0, 0) else none) else (bif Nat.beq pc 140 then some (.aload_n 3, 0) else none))))) else (bif Nat.ble 125 pc then (bif Nat.ble 134 pc then (bif Nat.ble 138 pc then (bif Nat.ble 139 pc then (bif Nat.beq pc 139 then some (.ireturn, 0) else none) else (bif Nat.beq pc 138 then some (.iconst 0, 0) else none)) else (bif Nat.ble 135 pc then (bif Nat.beq pc 135 then some (.if_icmp .eq 5, 140) else none) else (bif Nat.beq pc 134 then some (.iconst 0, 0) else none))) else (bif Nat.ble 130 pc then (bif Nat.ble 131 pc then (bif Nat.beq pc 131 then some (.goto 4, 135) else none) else (bif Nat.beq pc 130 then some (.iconst 1, 0) else none)) else (bif Nat.ble 127 pc then (bif Nat.beq pc 127 then some (.ifCond .eq 7, 134) else none) else (bif Nat.beq pc 125 then some (.iload 4, 0) else none)))) else (bif Nat.ble 117 pc then (bif Nat.ble 121 pc then (bif Nat.ble 123 pc then (bif Nat.beq pc 123 then some (.iload 10, 0) else none) else (bif Nat.beq pc 121 then some (.istore 10, 0) else none)) else (bif Nat.ble 118 pc then (bif Nat.beq pc 118 then some (.invokevirtual 24, 9) else none) else (bif Nat.beq pc 117 then some (.aload_n 3, 0) else none))) else (bif Nat.ble 115 pc then (bif Nat.ble 116 pc then (bif Nat.beq pc 116 then some (.ireturn, 0) else none) else (bif Nat.beq pc 115 then some (.iconst 0, 0) else none)) else (bif Nat.ble 112 pc then (bif Nat.beq pc 112 then some (.if_icmp .eq 5, 117) else none) else (bif Nat.beq pc 110 then some (.iload 4, 0) else none))))))) else (bif Nat.ble 51 pc then (bif Nat.ble 80 pc then (bif Nat.ble 94 pc then (bif Nat.ble 101 pc then (bif Nat.ble 103 pc then (bif Nat.ble 106 pc then (bif Nat.ble 108 pc then (bif Nat.beq pc 108 then some (.iload 9, 0) else none) else (bif Nat.beq pc 106 then some (.istore 9, 0) else none)) else (bif Nat.beq pc 103 then some (.invokevirtual 20, 8) else none)) else (bif Nat.ble 102 pc then (bif Nat.beq pc 102 then some (.iload_n 0, 0) else none) else (bif Nat.beq pc 101 then some (.aload_n 3, 0) else none))) else (bif Nat.ble 99 pc then (bif Nat.ble 100 pc then (bif Nat.beq pc 100 then some (.ireturn, 0) else none) else (bif Nat.beq pc 99 then some (.iconst 0, 0) else none)) else (bif Nat.ble 96 pc then (bif Nat.beq pc 96 then some (.ifCond .eq 5, 101) else none) else (bif Nat.beq pc 94 then some (.iload 8, 0) else none)))) else (bif Nat.ble 86 pc then (bif Nat.ble 89 pc then (bif Nat.ble 92 pc then (bif Nat.beq pc 92 then some (.istore 8, 0) else none) else (bif Nat.beq pc 89 then some (.invokevirtual 16, 7) else none)) else (bif Nat.ble 87 pc then (bif Nat.beq pc 87 then some (.iload 5, 0) else none) else (bif Nat.beq pc 86 then some (.iload_n 0, 0) else none))) else (bif Nat.ble 84 pc then (bif Nat.ble 85 pc then (bif Nat.beq pc 85 then some (.aload_n 3, 0) else none) else (bif Nat.beq pc 84 then some (.ireturn, 0) else none)) else (bif Nat.ble 83 pc then (bif Nat.beq pc 83 then some (.iconst 0, 0) else none) else (bif Nat.beq pc 80 then some (.if_icmp .eq 5, 85) else none))))) else (bif Nat.ble 63 pc then (bif Nat.ble 72 pc then (bif Nat.ble 76 pc then (bif Nat.ble 79 pc then (bif Nat.beq pc 79 then some (.iconst 0, 0) else none) else (bif Nat.beq pc 76 then some (.goto 4, 80) else none)) else (bif Nat.ble 75 pc then (bif Nat.beq pc 75 then some (.iload_n 2, 0) else none) else (bif Nat.beq pc 72 then some (.ifCond .eq 7, 79) else none))) else (bif Nat.ble 68 pc then (bif Nat.ble 70 pc then (bif Nat.beq pc 70 then some (.iload 4, 0) else none) else (bif Nat.beq pc 68 then some (.iload 7, 0) else none)) else (bif Nat.ble 66 pc then (bif Nat.beq pc 66 then some (.istore 7, 0) else none) else (bif Nat.beq pc 63 then some (.invokevirtual 16, 7) else none)))) else (bif Nat.ble 59 pc then (bif Nat.ble 61 pc then (bif Nat.ble 62 pc then (bif Nat.beq pc 62 then some (.iload_n 1, 0) else none) else (bif Nat.beq pc 61 then some (.iload_n 0, 0) else none)) else (bif Nat.ble 60 pc then (bif Nat.beq pc 60 then some (.aload_n 3, 0) else none) else (bif Nat.beq pc 59 then some (.ireturn, 0) else none))) else (bif Nat.ble 55 pc then (bif Nat.ble 58 pc then (bif Nat.beq pc 58 then some (.iconst 0, 0) else none) else (bif Nat.beq pc 55 then some (.if_icmp .eq 5, 60) else none)) else (bif Nat.ble 53 pc then (bif Nat.beq pc 53 then some (.iload 4, 0) else none) else (bif Nat.beq pc 51 then some (.iload 6, 0) else none)))))) else (bif Nat.ble 28 pc then (bif Nat.ble 39 pc then (bif Nat.ble 44 pc then (bif Nat.ble 46 pc then (bif Nat.ble 49 pc then (bif Nat.beq pc 49 then some (.istore 6, 0) else none) else (bif Nat.beq pc 46 then some (.invokevirtual 12, 2) else none)) else (bif Nat.ble 45 pc then (bif Nat.beq pc 45 then some (.iload_n 2, 0) else none) else (bif Nat.beq pc 44 then some (.iload_n 1, 0) else none))) else (bif Nat.ble 42 pc then (bif Nat.ble 43 pc then (bif Nat.beq pc 43 then some (.iload_n 0, 0) else none) else (bif Nat.beq pc 42 then some (.aload_n 3, 0) else none)) else (bif Nat.ble 40 pc then (bif Nat.beq pc 40 then some (.istore 5, 0) else none) else (bif Nat.beq pc 39 then some (.iand, 0) else none)))) else (bif Nat.ble 35 pc then (bif Nat.ble 37 pc then (bif Nat.ble 38 pc then (bif Nat.beq pc 38 then some (.iconst 3, 0) else none) else (bif Nat.beq pc 37 then some (.iadd, 0) else none)) else (bif Nat.ble 36 pc then (bif Nat.beq pc 36 then some (.iconst 1, 0) else none) else (bif Nat.beq pc 35 then some (.iload_n 1, 0) else none))) else (bif Nat.ble 32 pc then (bif Nat.ble 33 pc then (bif Nat.beq pc 33 then some (.istore 4, 0) else none) else (bif Nat.beq pc 32 then some (.iconst 0, 0) else none)) else (bif Nat.ble 29 pc then (bif Nat.beq pc 29 then some (.goto 4, 33) else none) else (bif Nat.beq pc 28 then some (.iconst 1, 0) else none))))) else (bif Nat.ble 14 pc then (bif Nat.ble 20 pc then (bif Nat.ble 24 pc then (bif Nat.ble 25 pc then (bif Nat.beq pc 25 then some (.if_icmp .ge 7, 32) else none) else (bif Nat.beq pc 24 then some (.iconst 4, 0) else none)) else (bif Nat.ble 23 pc then (bif Nat.beq pc 23 then some (.iload_n 1, 0) else none) else (bif Nat.beq pc 20 then some (.ifCond .lt 12, 32) else none))) else (bif Nat.ble 16 pc then (bif Nat.ble 19 pc then (bif Nat.beq pc 19 then some (.iload_n 1, 0) else none) else (bif Nat.beq pc 16 then some (.if_icmp .ge 16, 32) else none)) else (bif Nat.ble 15 pc then (bif Nat.beq pc 15 then some (.iconst 4, 0) else none) else (bif Nat.beq pc 14 then some (.iload_n 0, 0) else none)))) else (bif Nat.ble 6 pc then (bif Nat.ble 10 pc then (bif Nat.ble 11 pc then (bif Nat.beq pc 11 then some (.ifCond .lt 21, 32) else none) else (bif Nat.beq pc 10 then some (.iload_n 0, 0) else none)) else (bif Nat.ble 9 pc then (bif Nat.beq pc 9 then some (.astore_n 3, 0) else none) else (bif Nat.beq pc 6 then some (.invokespecial 9, 1) else none))) else (bif Nat.ble 4 pc then (bif Nat.ble 5 pc then (bif Nat.beq pc 5 then some (.iconst 1, 0) else none) else (bif Nat.beq pc 4 then some (.iconst 4, 0) else none)) else (bif Nat.ble 3 pc then (bif Nat.beq pc 3 then some (.dup, 0) else none) else (bif Nat.beq pc 0 then some (.new 7, 0) else none))))))))
def cd1 (pc : Nat) : Option (Instr × Nat) := (bif Nat.ble 76 pc then (bif Nat.ble 110 pc then (bif Nat.ble 130 pc then (bif Nat.ble 138 pc then (bif Nat.ble 142 pc then (bif Nat.ble 143 pc then (bif Nat.ble 146 pc then (bif Nat.beq pc 146 then some (.return_, 0) else none) else (bif Nat.beq pc 143 then some (.putfield 54, 14) else none)) else (bif Nat.beq pc 142 then some (.iconst 0, 0) else none)) else (bif Nat.ble 141 pc then (bif Nat.beq pc 141 then some (.aload_n 0, 0) else none) else (bif Nat.beq pc 138 then some (.putfield 51, 13) else none))) else (bif Nat.ble 132 pc then (bif Nat.ble 135 pc then (bif Nat.ble 136 pc then (bif Nat.beq pc 136 then some (.iload 4, 0) else none) else (bif Nat.beq pc 135 then some (.aload_n 0, 0) else none)) else (bif Nat.beq pc 132 then some (.putfield 48, 12) else none)) else (bif Nat.ble 131 pc then (bif Nat.beq pc 131 then some (.iload_n 3, 0) else none) else (bif Nat.beq pc 130 then some (.aload_n 0, 0) else none)))) else (bif Nat.ble 119 pc then (bif Nat.ble 123 pc then (bif Nat.ble 126 pc then (bif Nat.ble 128 pc then (bif Nat.beq pc 128 then some (.istore 4, 0) else none) else (bif Nat.beq pc 126 then some (.bipush 16, 0) else none)) else (bif Nat.beq pc 123 then some (.if_icmp .le 7, 130) else none)) else (bif Nat.ble 121 pc then (bif Nat.beq pc 121 then some (.bipush 16, 0) else none) else (bif Nat.beq pc 119 then some (.iload 4, 0) else none))) else (bif Nat.ble 113 pc then (bif Nat.ble 116 pc then (bif Nat.ble 117 pc then (bif Nat.beq pc 117 then some (.istore 4, 0) else none) else (bif Nat.beq pc 116 then some (.iconst 1, 0) else none)) else (bif Nat.beq pc 113 then some (.if_icmp .ge 6, 119) else none)) else (bif Nat.ble 112 pc then (bif Nat.beq pc 112 then some (.iconst 1, 0) else none) else (bif Nat.beq pc 110 then some (.iload 4, 0) else none))))) else (bif Nat.ble 93 pc then (bif Nat.ble 101 pc then (bif Nat.ble 106 pc then (bif Nat.ble 107 pc then (bif Nat.ble 108 pc then (bif Nat.beq pc 108 then some (.istore 4, 0) else none) else (bif Nat.beq pc 107 then some (.iload_n 2, 0) else none)) else (bif Nat.beq pc 106 then some (.istore_n 3, 0) else none)) else (bif Nat.ble 104 pc then (bif Nat.beq pc 104 then some (.bipush 32, 0) else none) else (bif Nat.beq pc 101 then some (.if_icmp .le 6, 107) else none))) else (bif Nat.ble 97 pc then (bif Nat.ble 98 pc then (bif Nat.ble 99 pc then (bif Nat.beq pc 99 then some (.bipush 32, 0) else none) else (bif Nat.beq pc 98 then some (.iload_n 3, 0) else none)) else (bif Nat.beq pc 97 then some (.istore_n 3, 0) else none)) else (bif Nat.ble 96 pc then (bif Nat.beq pc 96 then some (.iconst 4, 0) else none) else (bif Nat.beq pc 93 then some (.if_icmp .ge 5, 98) else none)))) else (bif Nat.ble 86 pc then (bif Nat.ble 90 pc then (bif Nat.ble 91 pc then (bif Nat.ble 92 pc then (bif Nat.beq pc 92 then some (.iconst 4, 0) else none) else (bif Nat.beq pc 91 then some (.iload_n 3, 0) else none)) else (bif Nat.beq pc 90 then some (.istore_n 3, 0) else none)) else (bif Nat.ble 89 pc then (bif Nat.beq pc 89 then some (.iload_n 1, 0) else none) else (bif Nat.beq pc 86 then some (.putfield 45, 11) else none))) else (bif Nat.ble 81 pc then (bif Nat.ble 82 pc then (bif Nat.ble 84 pc then (bif Nat.beq pc 84 then some (.newarray .int, 0) else none) else (bif Nat.beq pc 82 then some (.bipush 64, 0) else none)) else (bif Nat.beq pc 81 then some (.aload_n 0, 0) else none)) else (bif Nat.ble 78 pc then (bif Nat.beq pc 78 then some (.putfield 42, 10) else none) else (bif Nat.beq pc 76 then some (.newarray .boolean, 0) else none)))))) else (bif Nat.ble 37 pc then (bif Nat.ble 57 pc then (bif Nat.ble 66 pc then (bif Nat.ble 70 pc then (bif Nat.ble 73 pc then (bif Nat.ble 74 pc then (bif Nat.beq pc 74 then some (.bipush 16, 0) else none) else (bif Nat.beq pc 73 then some (.aload_n 0, 0) else none)) else (bif Nat.beq pc 70 then some (.putfield 39, 9) else none)) else (bif Nat.ble 68 pc then (bif Nat.beq pc 68 then some (.newarray .int, 0) else none) else (bif Nat.beq pc 66 then some (.bipush 16, 0) else none))) else (bif Nat.ble 60 pc then (bif Nat.ble 62 pc then (bif Nat.ble 65 pc then (bif Nat.beq pc 65 then some (.aload_n 0, 0) else none) else (bif Nat.beq pc 62 then some (.putfield 36, 8) else none)) else (bif Nat.beq pc 60 then some (.newarray .int, 0) else none)) else (bif Nat.ble 58 pc then (bif Nat.beq pc 58 then some (.bipush 16, 0) else none) else (bif Nat.beq pc 57 then some (.aload_n 0, 0) else none)))) else (bif Nat.ble 46 pc then (bif Nat.ble 50 pc then (bif Nat.ble 52 pc then (bif Nat.ble 54 pc then (bif Nat.beq pc 54 then some (.putfield 33, 7) else none) else (bif Nat.beq pc 52 then some (.newarray .int, 0) else none)) else (bif Nat.beq pc 50 then some (.bipush 16, 0) else none)) else (bif Nat.ble 49 pc then (bif Nat.beq pc 49 then some (.aload_n 0, 0) else none) else (bif Nat.beq pc 46 then some (.putfield 30, 6) else none))) else (bif Nat.ble 41 pc then (bif Nat.ble 42 pc then (bif Nat.ble 44 pc then (bif Nat.beq pc 44 then some (.newarray .int, 0) else none) else (bif Nat.beq pc 42 then some (.bipush 16, 0) else none)) else (bif Nat.beq pc 41 then some (.aload_n 0, 0) else none)) else (bif Nat.ble 38 pc then (bif Nat.beq pc 38 then some (.putfield 27, 5) else none) else (bif Nat.beq pc 37 then some (.iconst 0, 0) else none))))) else (bif Nat.ble 21 pc then (bif Nat.ble 28 pc then (bif Nat.ble 32 pc then (bif Nat.ble 33 pc then (bif Nat.ble 36 pc then (bif Nat.beq pc 36 then some (.aload_n 0, 0) else none) else (bif Nat.beq pc 33 then some (.putfield 24, 4) else none)) else (bif Nat.beq pc 32 then some (.iconst 2, 0) else none)) else (bif Nat.ble 31 pc then (bif Nat.beq pc 31 then some (.aload_n 0, 0) else none) else (bif Nat.beq pc 28 then some (.putfield 21, 3) else none))) else (bif Nat.ble 23 pc then (bif Nat.ble 26 pc then (bif Nat.ble 27 pc then (bif Nat.beq pc 27 then some (.iconst 1, 0) else none) else (bif Nat.beq pc 26 then some (.aload_n 0, 0) else none)) else (bif Nat.beq pc 23 then some (.putfield 17, 2) else none)) else (bif Nat.ble 22 pc then (bif Nat.beq pc 22 then some (.iconst 0, 0) else none) else (bif Nat.beq pc 21 then some (.aload_n 0, 0) else none)))) else (bif Nat.ble 10 pc then (bif Nat.ble 14 pc then (bif Nat.ble 16 pc then (bif Nat.ble 18 pc then (bif Nat.beq pc 18 then some (.putfield 13, 1) else none) else (bif Nat.beq pc 16 then some (.newarray .boolean, 0) else none)) else (bif Nat.beq pc 14 then some (.bipush 32, 0) else none)) else (bif Nat.ble 13 pc then (bif Nat.beq pc 13 then some (.aload_n 0, 0) else none) else (bif Nat.beq pc 10 then some (.putfield 7, 0) else none))) else (bif Nat.ble 4 pc then (bif Nat.ble 5 pc then (bif Nat.ble 8 pc then (bif Nat.beq pc 8 then some (.newarray .int, 0) else none) else (bif Nat.beq pc 5 then some (.sipush 128, 0) else none)) else (bif Nat.beq pc 4 then some (.aload_n 0, 0) else none)) else (bif Nat.ble 1 pc then (bif Nat.beq pc 1 then some (.invokespecial 1, 0) else none) else (bif Nat.beq pc 0 then some (.aload_n 0, 0) else none)))))))
def cd2 (pc : Nat) : Option (Instr × Nat) := (bif Nat.ble 29 pc then (bif Nat.ble 40 pc then (bif Nat.ble 44 pc then (bif Nat.ble 48 pc then (bif Nat.ble 51 pc then (bif Nat.ble 52 pc then (bif Nat.beq pc 52 then some (.ireturn, 0) else none) else (bif Nat.beq pc 51 then some (.iconst 1, 0) else none)) else (bif Nat.beq pc 48 then some (.putfield 54, 14) else none)) else (bif Nat.ble 45 pc then (bif Nat.beq pc 45 then some (.invokevirtual 64, 6) else none) else (bif Nat.beq pc 44 then some (.aload_n 0, 0) else none))) else (bif Nat.ble 42 pc then (bif Nat.ble 43 pc then (bif Nat.beq pc 43 then some (.aload_n 0, 0) else none) else (bif Nat.beq pc 42 then some (.bastore, 0) else none)) else (bif Nat.ble 41 pc then (bif Nat.beq pc 41 then some (.iconst 1, 0) else none) else (bif Nat.beq pc 40 then some (.iload_n 1, 0) else none)))) else (bif Nat.ble 33 pc then (bif Nat.ble 35 pc then (bif Nat.ble 36 pc then (bif Nat.ble 37 pc then (bif Nat.beq pc 37 then some (.getfield 13, 1) else none) else (bif Nat.beq pc 36 then some (.aload_n 0, 0) else none)) else (bif Nat.beq pc 35 then some (.iastore, 0) else none)) else (bif Nat.ble 34 pc then (bif Nat.beq pc 34 then some (.iload_n 3, 0) else none) else (bif Nat.beq pc 33 then some (.iadd, 0) else none))) else (bif Nat.ble 31 pc then (bif Nat.ble 32 pc then (bif Nat.beq pc 32 then some (.iload_n 2, 0) else none) else (bif Nat.beq pc 31 then some (.imul, 0) else none)) else (bif Nat.ble 30 pc then (bif Nat.beq pc 30 then some (.iconst 4, 0) else none) else (bif Nat.beq pc 29 then some (.iload_n 1, 0) else none))))) else (bif Nat.ble 14 pc then (bif Nat.ble 20 pc then (bif Nat.ble 22 pc then (bif Nat.ble 25 pc then (bif Nat.ble 26 pc then (bif Nat.beq pc 26 then some (.getfield 7, 0) else none) else (bif Nat.beq pc 25 then some (.aload_n 0, 0) else none)) else (bif Nat.beq pc 22 then some (.invokevirtual 61, 4) else none)) else (bif Nat.ble 21 pc then (bif Nat.beq pc 21 then some (.aload_n 0, 0) else none) else (bif Nat.beq pc 20 then some (.ireturn, 0) else none))) else (bif Nat.ble 16 pc then (bif Nat.ble 19 pc then (bif Nat.beq pc 19 then some (.iconst 0, 0) else none) else (bif Nat.beq pc 16 then some (.if_icmp .lt 5, 21) else none)) else (bif Nat.ble 15 pc then (bif Nat.beq pc 15 then some (.iconst 4, 0) else none) else (bif Nat.beq pc 14 then some (.iload_n 2, 0) else none)))) else (bif Nat.ble 8 pc then (bif Nat.ble 10 pc then (bif Nat.ble 11 pc then (bif Nat.beq pc 11 then some (.ifCond .lt 8, 19) else none) else (bif Nat.beq pc 10 then some (.iload_n 2, 0) else none)) else (bif Nat.ble 9 pc then (bif Nat.beq pc 9 then some (.ireturn, 0) else none) else (bif Nat.beq pc 8 then some (.iconst 0, 0) else none))) else (bif Nat.ble 2 pc then (bif Nat.ble 5 pc then (bif Nat.beq pc 5 then some (.ifCond .ne 5, 10) else none) else (bif Nat.beq pc 2 then some (.invokevirtual 57, 3) else none)) else (bif Nat.ble 1 pc then (bif Nat.beq pc 1 then some (.iload_n 1, 0) else none) else (bif Nat.beq pc 0 then some (.aload_n 0, 0) else none))))))
def cd3 (pc : Nat) : Option (Instr × Nat) := (bif Nat.ble 9 pc then (bif Nat.ble 13 pc then (bif Nat.ble 16 pc then (bif Nat.ble 17 pc then (bif Nat.beq pc 17 then some (.ireturn, 0) else none) else (bif Nat.beq pc 16 then some (.iconst 0, 0) else none)) else (bif Nat.beq pc 13 then some (.goto 4, 17) else none)) else (bif Nat.ble 12 pc then (bif Nat.beq pc 12 then some (.iconst 1, 0) else none) else (bif Nat.beq pc 9 then some (.if_icmp .ge 7, 16) else none))) else (bif Nat.ble 4 pc then (bif Nat.ble 5 pc then (bif Nat.ble 6 pc then (bif Nat.beq pc 6 then some (.getfield 48, 12) else none) else (bif Nat.beq pc 5 then some (.aload_n 0, 0) else none)) else (bif Nat.beq pc 4 then some (.iload_n 1, 0) else none)) else (bif Nat.ble 1 pc then (bif Nat.beq pc 1 then some (.ifCond .lt 15, 16) else none) else (bif Nat.beq pc 0 then some (.iload_n 1, 0) else none))))
def cd4 (pc : Nat) : Option (Instr × Nat) := (bif Nat.ble 24 pc then (bif Nat.ble 37 pc then (bif Nat.ble 42 pc then (bif Nat.ble 46 pc then (bif Nat.ble 49 pc then (bif Nat.beq pc 49 then some (.return_, 0) else none) else (bif Nat.beq pc 46 then some (.goto (-44), 2) else none)) else (bif Nat.ble 43 pc then (bif Nat.beq pc 43 then some (.iinc 1 1, 0) else none) else (bif Nat.beq pc 42 then some (.bastore, 0) else none))) else (bif Nat.ble 38 pc then (bif Nat.ble 41 pc then (bif Nat.beq pc 41 then some (.iconst 0, 0) else none) else (bif Nat.beq pc 38 then some (.goto 4, 42) else none)) else (bif Nat.beq pc 37 then some (.iconst 1, 0) else none))) else (bif Nat.ble 29 pc then (bif Nat.ble 31 pc then (bif Nat.ble 34 pc then (bif Nat.beq pc 34 then some (.ifCond .le 7, 41) else none) else (bif Nat.beq pc 31 then some (.getfield 99, 16) else none)) else (bif Nat.ble 30 pc then (bif Nat.beq pc 30 then some (.aload_n 0, 0) else none) else (bif Nat.beq pc 29 then some (.iload_n 1, 0) else none))) else (bif Nat.ble 25 pc then (bif Nat.ble 26 pc then (bif Nat.beq pc 26 then some (.getfield 42, 10) else none) else (bif Nat.beq pc 25 then some (.aload_n 0, 0) else none)) else (bif Nat.beq pc 24 then some (.iastore, 0) else none)))) else (bif Nat.ble 11 pc then (bif Nat.ble 16 pc then (bif Nat.ble 20 pc then (bif Nat.ble 21 pc then (bif Nat.beq pc 21 then some (.getfield 96, 15) else none) else (bif Nat.beq pc 20 then some (.aload_n 0, 0) else none)) else (bif Nat.ble 19 pc then (bif Nat.beq pc 19 then some (.iload_n 1, 0) else none) else (bif Nat.beq pc 16 then some (.getfield 39, 9) else none))) else (bif Nat.ble 12 pc then (bif Nat.ble 15 pc then (bif Nat.beq pc 15 then some (.aload_n 0, 0) else none) else (bif Nat.beq pc 12 then some (.invokevirtual 105, 5) else none)) else (bif Nat.beq pc 11 then some (.iload_n 1, 0) else none))) else (bif Nat.ble 3 pc then (bif Nat.ble 7 pc then (bif Nat.ble 10 pc then (bif Nat.beq pc 10 then some (.aload_n 0, 0) else none) else (bif Nat.beq pc 7 then some (.if_icmp .ge 42, 49) else none)) else (bif Nat.ble 4 pc then (bif Nat.beq pc 4 then some (.getfield 51, 13) else none) else (bif Nat.beq pc 3 then some (.aload_n 0, 0) else none))) else (bif Nat.ble 1 pc then (bif Nat.ble 2 pc then (bif Nat.beq pc 2 then some (.iload_n 1, 0) else none) else (bif Nat.beq pc 1 then some (.istore_n 1, 0) else none)) else (bif Nat.beq pc 0 then some (.iconst 0, 0) else none)))))
def cd5 (pc : Nat) : Option (Instr × Nat) := (bif Nat.ble 37 pc then (bif Nat.ble 55 pc then (bif Nat.ble 63 pc then (bif Nat.ble 69 pc then (bif Nat.ble 70 pc then (bif Nat.ble 74 pc then (bif Nat.beq pc 74 then some (.return_, 0) else none) else (bif Nat.beq pc 70 then some (.iaload, 0) else none)) else (bif Nat.beq pc 69 then some (.iload_n 1, 0) else none)) else (bif Nat.ble 65 pc then (bif Nat.ble 66 pc then (bif Nat.beq pc 66 then some (.getfield 36, 8) else none) else (bif Nat.beq pc 65 then some (.aload_n 0, 0) else none)) else (bif Nat.beq pc 63 then some (.iload 4, 0) else none))) else (bif Nat.ble 58 pc then (bif Nat.ble 61 pc then (bif Nat.ble 62 pc then (bif Nat.beq pc 62 then some (.iaload, 0) else none) else (bif Nat.beq pc 61 then some (.iload_n 1, 0) else none)) else (bif Nat.beq pc 58 then some (.getfield 33, 7) else none)) else (bif Nat.ble 56 pc then (bif Nat.ble 57 pc then (bif Nat.beq pc 57 then some (.aload_n 0, 0) else none) else (bif Nat.beq pc 56 then some (.iload_n 3, 0) else none)) else (bif Nat.beq pc 55 then some (.aload_n 0, 0) else none)))) else (bif Nat.ble 44 pc then (bif Nat.ble 49 pc then (bif Nat.ble 52 pc then (bif Nat.ble 53 pc then (bif Nat.beq pc 53 then some (.istore 4, 0) else none) else (bif Nat.beq pc 52 then some (.iconst 0, 0) else none)) else (bif Nat.beq pc 49 then some (.goto 4, 53) else none)) else (bif Nat.ble 45 pc then (bif Nat.ble 48 pc then (bif Nat.beq pc 48 then some (.iconst 1, 0) else none) else (bif Nat.beq pc 45 then some (.if_icmp .ne 7, 52) else none)) else (bif Nat.beq pc 44 then some (.iconst 3, 0) else none))) else (bif Nat.ble 39 pc then (bif Nat.ble 40 pc then (bif Nat.ble 43 pc then (bif Nat.beq pc 43 then some (.iload_n 2, 0) else none) else (bif Nat.beq pc 40 then some (.if_icmp .eq 8, 48) else none)) else (bif Nat.beq pc 39 then some (.iconst 1, 0) else none)) else (bif Nat.ble 38 pc then (bif Nat.beq pc 38 then some (.iload_n 2, 0) else none) else (bif Nat.beq pc 37 then some (.istore_n 3, 0) else none))))) else (bif Nat.ble 17 pc then (bif Nat.ble 27 pc then (bif Nat.ble 32 pc then (bif Nat.ble 33 pc then (bif Nat.ble 36 pc then (bif Nat.beq pc 36 then some (.iconst 0, 0) else none) else (bif Nat.beq pc 33 then some (.goto 4, 37) else none)) else (bif Nat.beq pc 32 then some (.iconst 1, 0) else none)) else (bif Nat.ble 28 pc then (bif Nat.ble 29 pc then (bif Nat.beq pc 29 then some (.if_icmp .ne 7, 36) else none) else (bif Nat.beq pc 28 then some (.iconst 2, 0) else none)) else (bif Nat.beq pc 27 then some (.iload_n 2, 0) else none))) else (bif Nat.ble 22 pc then (bif Nat.ble 23 pc then (bif Nat.ble 24 pc then (bif Nat.beq pc 24 then some (.if_icmp .eq 8, 32) else none) else (bif Nat.beq pc 23 then some (.iconst 1, 0) else none)) else (bif Nat.beq pc 22 then some (.iload_n 2, 0) else none)) else (bif Nat.ble 18 pc then (bif Nat.ble 21 pc then (bif Nat.beq pc 21 then some (.return_, 0) else none) else (bif Nat.beq pc 18 then some (.putfield 99, 16) else none)) else (bif Nat.beq pc 17 then some (.iconst 0, 0) else none)))) else (bif Nat.ble 7 pc then (bif Nat.ble 12 pc then (bif Nat.ble 13 pc then (bif Nat.ble 16 pc then (bif Nat.beq pc 16 then some (.aload_n 0, 0) else none) else (bif Nat.beq pc 13 then some (.putfield 96, 15) else none)) else (bif Nat.beq pc 12 then some (.iconst 0, 0) else none)) else (bif Nat.ble 8 pc then (bif Nat.ble 11 pc then (bif Nat.beq pc 11 then some (.aload_n 0, 0) else none) else (bif Nat.beq pc 8 then some (.ifCond .ne 14, 22) else none)) else (bif Nat.beq pc 7 then some (.iload_n 2, 0) else none))) else (bif Nat.ble 4 pc then (bif Nat.ble 5 pc then (bif Nat.ble 6 pc then (bif Nat.beq pc 6 then some (.istore_n 2, 0) else none) else (bif Nat.beq pc 5 then some (.iaload, 0) else none)) else (bif Nat.beq pc 4 then some (.iload_n 1, 0) else none)) else (bif Nat.ble 1 pc then (bif Nat.beq pc 1 then some (.getfield 30, 6) else none) else (bif Nat.beq pc 0 then some (.aload_n 0, 0) else none))))))
def cd6 (pc : Nat) : Option (Instr × Nat) := (bif Nat.ble 30 pc then (bif Nat.ble 45 pc then (bif Nat.ble 53 pc then (bif Nat.ble 59 pc then (bif Nat.ble 62 pc then (bif Nat.ble 63 pc then (bif Nat.beq pc 63 then some (.ireturn, 0) else none) else (bif Nat.beq pc 62 then some (.iload_n 1, 0) else none)) else (bif Nat.beq pc 59 then some (.goto (-55), 4) else none)) else (bif Nat.ble 56 pc then (bif Nat.beq pc 56 then some (.iinc 2 1, 0) else none) else (bif Nat.beq pc 53 then some (.iinc 1 1, 0) else none))) else (bif Nat.ble 49 pc then (bif Nat.ble 50 pc then (bif Nat.beq pc 50 then some (.if_icmp .eq 6, 56) else none) else (bif Nat.beq pc 49 then some (.baload, 0) else none)) else (bif Nat.ble 48 pc then (bif Nat.beq pc 48 then some (.iload_n 2, 0) else none) else (bif Nat.beq pc 45 then some (.getfield 42, 10) else none)))) else (bif Nat.ble 38 pc then (bif Nat.ble 40 pc then (bif Nat.ble 43 pc then (bif Nat.ble 44 pc then (bif Nat.beq pc 44 then some (.aload_n 0, 0) else none) else (bif Nat.beq pc 43 then some (.iload_n 3, 0) else none)) else (bif Nat.beq pc 40 then some (.if_icmp .ne 13, 53) else none)) else (bif Nat.ble 39 pc then (bif Nat.beq pc 39 then some (.iaload, 0) else none) else (bif Nat.beq pc 38 then some (.iload_n 2, 0) else none))) else (bif Nat.ble 34 pc then (bif Nat.ble 35 pc then (bif Nat.beq pc 35 then some (.getfield 39, 9) else none) else (bif Nat.beq pc 34 then some (.aload_n 0, 0) else none)) else (bif Nat.ble 31 pc then (bif Nat.beq pc 31 then some (.getfield 96, 15) else none) else (bif Nat.beq pc 30 then some (.aload_n 0, 0) else none))))) else (bif Nat.ble 13 pc then (bif Nat.ble 21 pc then (bif Nat.ble 25 pc then (bif Nat.ble 28 pc then (bif Nat.ble 29 pc then (bif Nat.beq pc 29 then some (.istore_n 3, 0) else none) else (bif Nat.beq pc 28 then some (.iconst 0, 0) else none)) else (bif Nat.beq pc 25 then some (.goto 4, 29) else none)) else (bif Nat.ble 24 pc then (bif Nat.beq pc 24 then some (.iconst 1, 0) else none) else (bif Nat.beq pc 21 then some (.ifCond .le 7, 28) else none))) else (bif Nat.ble 17 pc then (bif Nat.ble 18 pc then (bif Nat.beq pc 18 then some (.getfield 99, 16) else none) else (bif Nat.beq pc 17 then some (.aload_n 0, 0) else none)) else (bif Nat.ble 14 pc then (bif Nat.beq pc 14 then some (.invokevirtual 105, 5) else none) else (bif Nat.beq pc 13 then some (.iload_n 2, 0) else none)))) else (bif Nat.ble 4 pc then (bif Nat.ble 6 pc then (bif Nat.ble 9 pc then (bif Nat.ble 12 pc then (bif Nat.beq pc 12 then some (.aload_n 0, 0) else none) else (bif Nat.beq pc 9 then some (.if_icmp .ge 53, 62) else none)) else (bif Nat.beq pc 6 then some (.getfield 51, 13) else none)) else (bif Nat.ble 5 pc then (bif Nat.beq pc 5 then some (.aload_n 0, 0) else none) else (bif Nat.beq pc 4 then some (.iload_n 2, 0) else none))) else (bif Nat.ble 2 pc then (bif Nat.ble 3 pc then (bif Nat.beq pc 3 then some (.istore_n 2, 0) else none) else (bif Nat.beq pc 2 then some (.iconst 0, 0) else none)) else (bif Nat.ble 1 pc then (bif Nat.beq pc 1 then some (.istore_n 1, 0) else none) else (bif Nat.beq pc 0 then some (.iconst 0, 0) else none))))))
def cd7 (pc : Nat) : Option (Instr × Nat) := (bif Nat.ble 18 pc then (bif Nat.ble 25 pc then (bif Nat.ble 27 pc then (bif Nat.ble 28 pc then (bif Nat.ble 29 pc then (bif Nat.beq pc 29 then some (.ireturn, 0) else none) else (bif Nat.beq pc 28 then some (.iaload, 0) else none)) else (bif Nat.beq pc 27 then some (.iadd, 0) else none)) else (bif Nat.ble 26 pc then (bif Nat.beq pc 26 then some (.iload_n 2, 0) else none) else (bif Nat.beq pc 25 then some (.imul, 0) else none))) else (bif Nat.ble 20 pc then (bif Nat.ble 23 pc then (bif Nat.ble 24 pc then (bif Nat.beq pc 24 then some (.iconst 4, 0) else none) else (bif Nat.beq pc 23 then some (.iload_n 1, 0) else none)) else (bif Nat.beq pc 20 then some (.getfield 7, 0) else none)) else (bif Nat.ble 19 pc then (bif Nat.beq pc 19 then some (.aload_n 0, 0) else none) else (bif Nat.beq pc 18 then some (.ireturn, 0) else none)))) else (bif Nat.ble 9 pc then (bif Nat.ble 13 pc then (bif Nat.ble 14 pc then (bif Nat.ble 17 pc then (bif Nat.beq pc 17 then some (.iconst 0, 0) else none) else (bif Nat.beq pc 14 then some (.if_icmp .lt 5, 19) else none)) else (bif Nat.beq pc 13 then some (.iconst 4, 0) else none)) else (bif Nat.ble 12 pc then (bif Nat.beq pc 12 then some (.iload_n 2, 0) else none) else (bif Nat.beq pc 9 then some (.ifCond .lt 8, 17) else none))) else (bif Nat.ble 2 pc then (bif Nat.ble 5 pc then (bif Nat.ble 8 pc then (bif Nat.beq pc 8 then some (.iload_n 2, 0) else none) else (bif Nat.beq pc 5 then some (.ifCond .eq 12, 17) else none)) else (bif Nat.beq pc 2 then some (.invokevirtual 57, 3) else none)) else (bif Nat.ble 1 pc then (bif Nat.beq pc 1 then some (.iload_n 1, 0) else none) else (bif Nat.beq pc 0 then some (.aload_n 0, 0) else none)))))
def cd8 (pc : Nat) : Option (Instr × Nat) := (bif Nat.ble 9 pc then (bif Nat.ble 14 pc then (bif Nat.ble 15 pc then (bif Nat.ble 16 pc then (bif Nat.beq pc 16 then some (.ireturn, 0) else none) else (bif Nat.beq pc 15 then some (.baload, 0) else none)) else (bif Nat.beq pc 14 then some (.iload_n 1, 0) else none)) else (bif Nat.ble 10 pc then (bif Nat.ble 11 pc then (bif Nat.beq pc 11 then some (.getfield 13, 1) else none) else (bif Nat.beq pc 10 then some (.aload_n 0, 0) else none)) else (bif Nat.beq pc 9 then some (.ireturn, 0) else none))) else (bif Nat.ble 2 pc then (bif Nat.ble 5 pc then (bif Nat.ble 8 pc then (bif Nat.beq pc 8 then some (.iconst 0, 0) else none) else (bif Nat.beq pc 5 then some (.ifCond .ne 5, 10) else none)) else (bif Nat.beq pc 2 then some (.invokevirtual 57, 3) else none)) else (bif Nat.ble 1 pc then (bif Nat.beq pc 1 then some (.iload_n 1, 0) else none) else (bif Nat.beq pc 0 then some (.aload_n 0, 0) else none))))
def cd9 (pc : Nat) : Option (Instr × Nat) := (bif Nat.ble 5 pc then (bif Nat.ble 6 pc then (bif Nat.ble 9 pc then (bif Nat.beq pc 9 then some (.ireturn, 0) else none) else (bif Nat.beq pc 6 then some (.invokevirtual 71, 10) else none)) else (bif Nat.beq pc 5 then some (.iconst 0, 0) else none)) else (bif Nat.ble 1 pc then (bif Nat.ble 2 pc then (bif Nat.beq pc 2 then some (.getfield 17, 2) else none) else (bif Nat.beq pc 1 then some (.aload_n 0, 0) else none)) else (bif Nat.beq pc 0 then some (.aload_n 0, 0) else none)))
def cd10 (pc : Nat) : Option (Instr × Nat) := (bif Nat.ble 26 pc then (bif Nat.ble 36 pc then (bif Nat.ble 42 pc then (bif Nat.ble 48 pc then (bif Nat.ble 49 pc then (bif Nat.beq pc 49 then some (.ireturn, 0) else none) else (bif Nat.beq pc 48 then some (.iload_n 3, 0) else none)) else (bif Nat.ble 45 pc then (bif Nat.beq pc 45 then some (.goto (-40), 5) else none) else (bif Nat.beq pc 42 then some (.iinc 4 1, 0) else none))) else (bif Nat.ble 38 pc then (bif Nat.ble 41 pc then (bif Nat.beq pc 41 then some (.istore_n 3, 0) else none) else (bif Nat.beq pc 38 then some (.invokevirtual 109, 11) else none)) else (bif Nat.ble 37 pc then (bif Nat.beq pc 37 then some (.iaload, 0) else none) else (bif Nat.beq pc 36 then some (.iadd, 0) else none)))) else (bif Nat.ble 31 pc then (bif Nat.ble 34 pc then (bif Nat.ble 35 pc then (bif Nat.beq pc 35 then some (.iload_n 1, 0) else none) else (bif Nat.beq pc 34 then some (.imul, 0) else none)) else (bif Nat.ble 33 pc then (bif Nat.beq pc 33 then some (.iconst 4, 0) else none) else (bif Nat.beq pc 31 then some (.iload 4, 0) else none))) else (bif Nat.ble 27 pc then (bif Nat.ble 28 pc then (bif Nat.beq pc 28 then some (.getfield 7, 0) else none) else (bif Nat.beq pc 27 then some (.aload_n 0, 0) else none)) else (bif Nat.beq pc 26 then some (.iload_n 3, 0) else none)))) else (bif Nat.ble 11 pc then (bif Nat.ble 20 pc then (bif Nat.ble 24 pc then (bif Nat.ble 25 pc then (bif Nat.beq pc 25 then some (.iload_n 2, 0) else none) else (bif Nat.beq pc 24 then some (.aload_n 0, 0) else none)) else (bif Nat.ble 21 pc then (bif Nat.beq pc 21 then some (.ifCond .eq 21, 42) else none) else (bif Nat.beq pc 20 then some (.baload, 0) else none))) else (bif Nat.ble 15 pc then (bif Nat.ble 18 pc then (bif Nat.beq pc 18 then some (.iload 4, 0) else none) else (bif Nat.beq pc 15 then some (.getfield 13, 1) else none)) else (bif Nat.ble 14 pc then (bif Nat.beq pc 14 then some (.aload_n 0, 0) else none) else (bif Nat.beq pc 11 then some (.if_icmp .ge 37, 48) else none)))) else (bif Nat.ble 3 pc then (bif Nat.ble 7 pc then (bif Nat.ble 8 pc then (bif Nat.beq pc 8 then some (.getfield 48, 12) else none) else (bif Nat.beq pc 7 then some (.aload_n 0, 0) else none)) else (bif Nat.ble 5 pc then (bif Nat.beq pc 5 then some (.iload 4, 0) else none) else (bif Nat.beq pc 3 then some (.istore 4, 0) else none))) else (bif Nat.ble 1 pc then (bif Nat.ble 2 pc then (bif Nat.beq pc 2 then some (.iconst 0, 0) else none) else (bif Nat.beq pc 1 then some (.istore_n 3, 0) else none)) else (bif Nat.beq pc 0 then some (.iconst 0, 0) else none)))))
def cd11 (pc : Nat) : Option (Instr × Nat) := (bif Nat.ble 59 pc then (bif Nat.ble 87 pc then (bif Nat.ble 101 pc then (bif Nat.ble 106 pc then (bif Nat.ble 108 pc then (bif Nat.ble 109 pc then (bif Nat.ble 110 pc then (bif Nat.beq pc 110 then some (.ireturn, 0) else none) else (bif Nat.beq pc 109 then some (.iadd, 0) else none)) else (bif Nat.beq pc 108 then some (.iconst 1, 0) else none)) else (bif Nat.ble 107 pc then (bif Nat.beq pc 107 then some (.iload_n 2, 0) else none) else (bif Nat.beq pc 106 then some (.iastore, 0) else none))) else (bif Nat.ble 104 pc then (bif Nat.ble 105 pc then (bif Nat.beq pc 105 then some (.iload_n 3, 0) else none) else (bif Nat.beq pc 104 then some (.iadd, 0) else none)) else (bif Nat.ble 102 pc then (bif Nat.beq pc 102 then some (.iload 4, 0) else none) else (bif Nat.beq pc 101 then some (.iload_n 1, 0) else none)))) else (bif Nat.ble 91 pc then (bif Nat.ble 97 pc then (bif Nat.ble 98 pc then (bif Nat.beq pc 98 then some (.getfield 45, 11) else none) else (bif Nat.beq pc 97 then some (.aload_n 0, 0) else none)) else (bif Nat.ble 94 pc then (bif Nat.beq pc 94 then some (.goto (-30), 64) else none) else (bif Nat.beq pc 91 then some (.iinc 5 (-1), 0) else none))) else (bif Nat.ble 89 pc then (bif Nat.ble 90 pc then (bif Nat.beq pc 90 then some (.iastore, 0) else none) else (bif Nat.beq pc 89 then some (.iaload, 0) else none)) else (bif Nat.ble 88 pc then (bif Nat.beq pc 88 then some (.isub, 0) else none) else (bif Nat.beq pc 87 then some (.iconst 1, 0) else none))))) else (bif Nat.ble 72 pc then (bif Nat.ble 79 pc then (bif Nat.ble 83 pc then (bif Nat.ble 84 pc then (bif Nat.ble 86 pc then (bif Nat.beq pc 86 then some (.iadd, 0) else none) else (bif Nat.beq pc 84 then some (.iload 5, 0) else none)) else (bif Nat.beq pc 83 then some (.iload_n 1, 0) else none)) else (bif Nat.ble 80 pc then (bif Nat.beq pc 80 then some (.getfield 45, 11) else none) else (bif Nat.beq pc 79 then some (.aload_n 0, 0) else none))) else (bif Nat.ble 76 pc then (bif Nat.ble 78 pc then (bif Nat.beq pc 78 then some (.iadd, 0) else none) else (bif Nat.beq pc 76 then some (.iload 5, 0) else none)) else (bif Nat.ble 75 pc then (bif Nat.beq pc 75 then some (.iload_n 1, 0) else none) else (bif Nat.beq pc 72 then some (.getfield 45, 11) else none)))) else (bif Nat.ble 64 pc then (bif Nat.ble 68 pc then (bif Nat.ble 71 pc then (bif Nat.beq pc 71 then some (.aload_n 0, 0) else none) else (bif Nat.beq pc 68 then some (.if_icmp .le 29, 97) else none)) else (bif Nat.ble 66 pc then (bif Nat.beq pc 66 then some (.iload 4, 0) else none) else (bif Nat.beq pc 64 then some (.iload 5, 0) else none))) else (bif Nat.ble 61 pc then (bif Nat.ble 62 pc then (bif Nat.beq pc 62 then some (.istore 5, 0) else none) else (bif Nat.beq pc 61 then some (.iload_n 2, 0) else none)) else (bif Nat.ble 60 pc then (bif Nat.beq pc 60 then some (.ireturn, 0) else none) else (bif Nat.beq pc 59 then some (.iload_n 2, 0) else none)))))) else (bif Nat.ble 28 pc then (bif Nat.ble 43 pc then (bif Nat.ble 51 pc then (bif Nat.ble 54 pc then (bif Nat.ble 55 pc then (bif Nat.ble 56 pc then (bif Nat.beq pc 56 then some (.if_icmp .ne 5, 61) else none) else (bif Nat.beq pc 55 then some (.iload_n 3, 0) else none)) else (bif Nat.beq pc 54 then some (.iaload, 0) else none)) else (bif Nat.ble 53 pc then (bif Nat.beq pc 53 then some (.iadd, 0) else none) else (bif Nat.beq pc 51 then some (.iload 4, 0) else none))) else (bif Nat.ble 47 pc then (bif Nat.ble 50 pc then (bif Nat.beq pc 50 then some (.iload_n 1, 0) else none) else (bif Nat.beq pc 47 then some (.getfield 45, 11) else none)) else (bif Nat.ble 46 pc then (bif Nat.beq pc 46 then some (.aload_n 0, 0) else none) else (bif Nat.beq pc 43 then some (.if_icmp .ge 18, 61) else none)))) else (bif Nat.ble 34 pc then (bif Nat.ble 40 pc then (bif Nat.ble 42 pc then (bif Nat.beq pc 42 then some (.iload_n 2, 0) else none) else (bif Nat.beq pc 40 then some (.iload 4, 0) else none)) else (bif Nat.ble 37 pc then (bif Nat.beq pc 37 then some (.goto (-22), 15) else none) else (bif Nat.beq pc 34 then some (.iinc 4 1, 0) else none))) else (bif Nat.ble 30 pc then (bif Nat.ble 31 pc then (bif Nat.beq pc 31 then some (.if_icmp .ge 9, 40) else none) else (bif Nat.beq pc 30 then some (.iload_n 3, 0) else none)) else (bif Nat.ble 29 pc then (bif Nat.beq pc 29 then some (.iaload, 0) else none) else (bif Nat.beq pc 28 then some (.iadd, 0) else none))))) else (bif Nat.ble 13 pc then (bif Nat.ble 21 pc then (bif Nat.ble 25 pc then (bif Nat.ble 26 pc then (bif Nat.beq pc 26 then some (.iload 4, 0) else none) else (bif Nat.beq pc 25 then some (.iload_n 1, 0) else none)) else (bif Nat.ble 22 pc then (bif Nat.beq pc 22 then some (.getfield 45, 11) else none) else (bif Nat.beq pc 21 then some (.aload_n 0, 0) else none))) else (bif Nat.ble 17 pc then (bif Nat.ble 18 pc then (bif Nat.beq pc 18 then some (.if_icmp .ge 22, 40) else none) else (bif Nat.beq pc 17 then some (.iload_n 2, 0) else none)) else (bif Nat.ble 15 pc then (bif Nat.beq pc 15 then some (.iload 4, 0) else none) else (bif Nat.beq pc 13 then some (.istore 4, 0) else none)))) else (bif Nat.ble 7 pc then (bif Nat.ble 11 pc then (bif Nat.ble 12 pc then (bif Nat.beq pc 12 then some (.iconst 0, 0) else none) else (bif Nat.beq pc 11 then some (.ireturn, 0) else none)) else (bif Nat.ble 10 pc then (bif Nat.beq pc 10 then some (.iload_n 2, 0) else none) else (bif Nat.beq pc 7 then some (.if_icmp .lt 5, 12) else none))) else (bif Nat.ble 4 pc then (bif Nat.ble 5 pc then (bif Nat.beq pc 5 then some (.bipush 32, 0) else none) else (bif Nat.beq pc 4 then some (.iload_n 2, 0) else none)) else (bif Nat.ble 1 pc then (bif Nat.beq pc 1 then some (.ifCond .lt 9, 10) else none) else (bif Nat.beq pc 0 then some (.iload_n 2, 0) else none)))))))
def cd12 (pc : Nat) : Option (Instr × Nat) := (bif Nat.ble 15 pc then (bif Nat.ble 21 pc then (bif Nat.ble 25 pc then (bif Nat.ble 26 pc then (bif Nat.ble 27 pc then (bif Nat.beq pc 27 then some (.ireturn, 0) else none) else (bif Nat.beq pc 26 then some (.iaload, 0) else none)) else (bif Nat.beq pc 25 then some (.iload_n 1, 0) else none)) else (bif Nat.ble 22 pc then (bif Nat.beq pc 22 then some (.getfield 45, 11) else none) else (bif Nat.beq pc 21 then some (.aload_n 0, 0) else none))) else (bif Nat.ble 19 pc then (bif Nat.ble 20 pc then (bif Nat.beq pc 20 then some (.ireturn, 0) else none) else (bif Nat.beq pc 19 then some (.iconst 0, 0) else none)) else (bif Nat.ble 16 pc then (bif Nat.beq pc 16 then some (.if_icmp .lt 5, 21) else none) else (bif Nat.beq pc 15 then some (.iload_n 2, 0) else none)))) else (bif Nat.ble 6 pc then (bif Nat.ble 10 pc then (bif Nat.ble 11 pc then (bif Nat.ble 14 pc then (bif Nat.beq pc 14 then some (.iload_n 1, 0) else none) else (bif Nat.beq pc 11 then some (.ifCond .lt 8, 19) else none)) else (bif Nat.beq pc 10 then some (.iload_n 1, 0) else none)) else (bif Nat.ble 9 pc then (bif Nat.beq pc 9 then some (.istore_n 2, 0) else none) else (bif Nat.beq pc 6 then some (.invokevirtual 71, 10) else none))) else (bif Nat.ble 2 pc then (bif Nat.ble 5 pc then (bif Nat.beq pc 5 then some (.iconst 0, 0) else none) else (bif Nat.beq pc 2 then some (.getfield 17, 2) else none)) else (bif Nat.ble 1 pc then (bif Nat.beq pc 1 then some (.aload_n 0, 0) else none) else (bif Nat.beq pc 0 then some (.aload_n 0, 0) else none)))))
def cd13 (pc : Nat) : Option (Instr × Nat) := (bif Nat.ble 33 pc then (bif Nat.ble 49 pc then (bif Nat.ble 56 pc then (bif Nat.ble 61 pc then (bif Nat.ble 64 pc then (bif Nat.ble 65 pc then (bif Nat.beq pc 65 then some (.ireturn, 0) else none) else (bif Nat.beq pc 64 then some (.iconst 1, 0) else none)) else (bif Nat.beq pc 61 then some (.putfield 54, 14) else none)) else (bif Nat.ble 57 pc then (bif Nat.ble 58 pc then (bif Nat.beq pc 58 then some (.invokevirtual 64, 6) else none) else (bif Nat.beq pc 57 then some (.aload_n 0, 0) else none)) else (bif Nat.beq pc 56 then some (.aload_n 0, 0) else none))) else (bif Nat.ble 53 pc then (bif Nat.ble 54 pc then (bif Nat.ble 55 pc then (bif Nat.beq pc 55 then some (.bastore, 0) else none) else (bif Nat.beq pc 54 then some (.iconst 0, 0) else none)) else (bif Nat.beq pc 53 then some (.iload_n 1, 0) else none)) else (bif Nat.ble 50 pc then (bif Nat.beq pc 50 then some (.getfield 13, 1) else none) else (bif Nat.beq pc 49 then some (.aload_n 0, 0) else none)))) else (bif Nat.ble 40 pc then (bif Nat.ble 42 pc then (bif Nat.ble 43 pc then (bif Nat.ble 46 pc then (bif Nat.beq pc 46 then some (.goto (-19), 27) else none) else (bif Nat.beq pc 43 then some (.iinc 2 1, 0) else none)) else (bif Nat.beq pc 42 then some (.iastore, 0) else none)) else (bif Nat.ble 41 pc then (bif Nat.beq pc 41 then some (.iconst 0, 0) else none) else (bif Nat.beq pc 40 then some (.iadd, 0) else none))) else (bif Nat.ble 37 pc then (bif Nat.ble 38 pc then (bif Nat.ble 39 pc then (bif Nat.beq pc 39 then some (.iload_n 2, 0) else none) else (bif Nat.beq pc 38 then some (.imul, 0) else none)) else (bif Nat.beq pc 37 then some (.iconst 4, 0) else none)) else (bif Nat.ble 36 pc then (bif Nat.beq pc 36 then some (.iload_n 1, 0) else none) else (bif Nat.beq pc 33 then some (.getfield 7, 0) else none))))) else (bif Nat.ble 16 pc then (bif Nat.ble 25 pc then (bif Nat.ble 28 pc then (bif Nat.ble 29 pc then (bif Nat.ble 32 pc then (bif Nat.beq pc 32 then some (.aload_n 0, 0) else none) else (bif Nat.beq pc 29 then some (.if_icmp .ge 20, 49) else none)) else (bif Nat.beq pc 28 then some (.iconst 4, 0) else none)) else (bif Nat.ble 26 pc then (bif Nat.ble 27 pc then (bif Nat.beq pc 27 then some (.iload_n 2, 0) else none) else (bif Nat.beq pc 26 then some (.istore_n 2, 0) else none)) else (bif Nat.beq pc 25 then some (.iconst 0, 0) else none))) else (bif Nat.ble 20 pc then (bif Nat.ble 21 pc then (bif Nat.ble 22 pc then (bif Nat.beq pc 22 then some (.invokevirtual 61, 4) else none) else (bif Nat.beq pc 21 then some (.aload_n 0, 0) else none)) else (bif Nat.beq pc 20 then some (.ireturn, 0) else none)) else (bif Nat.ble 19 pc then (bif Nat.beq pc 19 then some (.iconst 0, 0) else none) else (bif Nat.beq pc 16 then some (.ifCond .ne 5, 21) else none)))) else (bif Nat.ble 9 pc then (bif Nat.ble 11 pc then (bif Nat.ble 14 pc then (bif Nat.ble 15 pc then (bif Nat.beq pc 15 then some (.baload, 0) else none) else (bif Nat.beq pc 14 then some (.iload_n 1, 0) else none)) else (bif Nat.beq pc 11 then some (.getfield 13, 1) else none)) else (bif Nat.ble 10 pc then (bif Nat.beq pc 10 then some (.aload_n 0, 0) else none) else (bif Nat.beq pc 9 then some (.ireturn, 0) else none))) else (bif Nat.ble 2 pc then (bif Nat.ble 5 pc then (bif Nat.ble 8 pc then (bif Nat.beq pc 8 then some (.iconst 0, 0) else none) else (bif Nat.beq pc 5 then some (.ifCond .ne 5, 10) else none)) else (bif Nat.beq pc 2 then some (.invokevirtual 57, 3) else none)) else (bif Nat.ble 1 pc then (bif Nat.beq pc 1 then some (.iload_n 1, 0) else none) else (bif Nat.beq pc 0 then some (.aload_n 0, 0) else none))))))
def pCode (m pc : Nat) : Option (Instr × Nat) := bif Nat.ble pN m then none else bif Nat.ble pTop pc then none else (bif Nat.ble 7 m then (bif Nat.ble 10 m then (bif Nat.ble 12 m then (bif Nat.ble 13 m then cd13 pc else cd12 pc) else (bif Nat.ble 11 m then cd11 pc else cd10 pc)) else (bif Nat.ble 8 m then (bif Nat.ble 9 m then cd9 pc else cd8 pc) else cd7 pc)) else (bif Nat.ble 3 m then (bif Nat.ble 5 m then (bif Nat.ble 6 m then cd6 pc else cd5 pc) else (bif Nat.ble 4 m then cd4 pc else cd3 pc)) else (bif Nat.ble 1 m then (bif Nat.ble 2 m then cd2 pc else cd1 pc) else cd0 pc)))
def lkF : List (Nat × Nat × Nat) := [(1, 7, 0), (1, 13, 1), (1, 17, 2), (1, 21, 3), (1, 24, 4), (1, 27, 5), (1, 30, 6), (1, 33, 7), (1, 36, 8), (1, 39, 9), (1, 42, 10), (1, 45, 11), (1, 48, 12), (1, 51, 13), (1, 54, 14), (1, 96, 15), (1, 99, 16)]
def lkN : List (Nat × Nat) := [(0, 7)]
def lkC : List (Nat × Nat × Nat) := []
def lkD : List (Nat × Nat × Nat) := []
def lkV : List (Nat × Nat × Nat) := [(0, 9, 1), (0, 12, 2), (1, 57, 3), (1, 61, 4), (1, 105, 5), (1, 64, 6), (0, 16, 7), (0, 20, 8), (0, 24, 9), (1, 71, 10), (1, 109, 11), (0, 28, 12), (0, 32, 13)]
def lkO : List (Nat × Nat) := [(1, 1)]
def mV : List Nat := [2, 7, 8, 9, 12, 13]
def mP : List Nat := [3, 4, 5, 6, 10, 11]
def mS : List Nat := []
def mI : List Nat := [1]
def mA : List Nat := [1, 2, 3, 4, 5, 6, 7, 8, 9, 10, 11, 12, 13]
def aTys : List FieldType := [.int, .boolean]
/-! ENGINE: abstract cells, locals, one-step function, and what a triple says of the model. -/
abbrev QCell := List Value ⊕ ((FieldType × List Int32) ⊕ List Int64)
abbrev QHeap := List QCell
abbrev QLoc := List (Option Value)
abbrev vI (x : Int32) : Option Value := some (.int x)
abbrev QSt := Nat × QLoc × List Value × QHeap
def qv (ad : Nat → Addr) : Value → Value
  | .ref k => .ref (ad k)
  | v => v
def qsz : QCell → Nat
  | .inl _ => cN
  | .inr (.inl x) => x.2.length
  | .inr (.inr x) => x.length
def qhs : QHeap → Nat
  | [] => 0
  | c :: t => qsz c + qhs t
def aget {α : Type} (xs : List α) (j : Int32) : Option α := if j < 0 then none else xs[j.toNatClampNeg]?
def aset {α : Type} (xs : List α) (j : Int32) (v : α) : Option (List α) := if j < 0 then none else if j.toNatClampNeg < xs.length then some (xs.set j.toNatClampNeg v) else none
def qnew (n : Int32) : Option Nat := if n < 0 then none else if n.toNatClampNeg ≤ 67108864 then some n.toNatClampNeg else none
def qdiv (x y : Int32) : Option Int32 := if y = 0 then none else some (x / y)
def qrem (x y : Int32) : Option Int32 := if y = 0 then none else some (x % y)
def qboo (x : Int32) : Option Int32 := if x = 0 then some x else if x = 1 then some x else none
def lget : QLoc → Nat → Option Value
  | [], _ => none
  | v :: _, 0 => v
  | _ :: t, k + 1 => lget t k
def hget : QHeap → Nat → Option QCell
  | [], _ => none
  | v :: _, 0 => some v
  | _ :: t, k + 1 => hget t k
def vget : List Value → Nat → Option Value
  | [], _ => none
  | v :: _, 0 => some v
  | _ :: t, k + 1 => vget t k
def lkill (L : QLoc) : Nat → QLoc
  | 0 => L
  | k + 1 => match lget L k with
    | some (.long _) => L.set k none
    | some (.double _) => L.set k none
    | _ => L
def lput (L : QLoc) (k : Nat) (v : Value) : Option QLoc :=
  match v with
  | .long x => bif Nat.ble (k + 2) L.length then some (((lkill L k).set k (some (.long x))).set (k + 1) none) else none
  | .double _ => none
  | v => bif Nat.ble (k + 1) L.length then some ((lkill L k).set k (some v)) else none
/-- push what a local holds, if it is of the kind -/
def qload (pc : Nat) (L : QLoc) (S : List Value) (σ : QHeap) (k : Nat) (ok : Value → Bool) : Option QSt :=
  match lget L k with
  | some v => bif ok v then some (pc, L, v :: S, σ) else none
  | none => none
def isI : Value → Bool | .int _ => true | _ => false
def isJ : Value → Bool | .long _ => true | _ => false
def isR : Value → Bool | .ref _ => true | _ => false
def qstore (pc : Nat) (L : QLoc) (S : List Value) (σ : QHeap) (k : Nat) (ok : Value → Bool) : Option QSt :=
  match S with
  | v :: S' => bif ok v then (match lput L k v with | some L' => some (pc, L', S', σ) | none => none) else none
  | [] => none
def qbin (pc : Nat) (L : QLoc) (S : List Value) (σ : QHeap) (f : Int32 → Int32 → Int32) : Option QSt :=
  match S with
  | .int y :: .int x :: S' => some (pc, L, .int (f x y) :: S', σ)
  | _ => none
def qbino (pc : Nat) (L : QLoc) (S : List Value) (σ : QHeap) (f : Int32 → Int32 → Option Int32) : Option QSt :=
  match S with
  | .int y :: .int x :: S' => (f x y).bind fun z => some (pc, L, .int z :: S', σ)
  | _ => none
def qbinJ (pc : Nat) (L : QLoc) (S : List Value) (σ : QHeap) (f : Int64 → Int64 → Int64) : Option QSt :=
  match S with
  | .long y :: .long x :: S' => some (pc, L, .long (f x y) :: S', σ)
  | _ => none
def qshJ (pc : Nat) (L : QLoc) (S : List Value) (σ : QHeap) (f : Int64 → Int32 → Int64) : Option QSt :=
  match S with
  | .int y :: .long x :: S' => some (pc, L, .long (f x y) :: S', σ)
  | _ => none
def quni (pc : Nat) (L : QLoc) (S : List Value) (σ : QHeap) (f : Int32 → Value) : Option QSt :=
  match S with
  | .int x :: S' => some (pc, L, f x :: S', σ)
  | _ => none
def quniJ (pc : Nat) (L : QLoc) (S : List Value) (σ : QHeap) (f : Int64 → Value) : Option QSt :=
  match S with
  | .long x :: S' => some (pc, L, f x :: S', σ)
  | _ => none
def qald (pc : Nat) (L : QLoc) (S : List Value) (σ : QHeap) (ok : FieldType → Bool) : Option QSt :=
  match S with
  | .int j :: .ref a :: S' => (match hget σ a with
    | some (.inr (.inl x)) => bif ok x.1 then (aget x.2 j).bind fun v => some (pc, L, .int v :: S', σ) else none
    | _ => none)
  | _ => none
def qaldJ (pc : Nat) (L : QLoc) (S : List Value) (σ : QHeap) : Option QSt :=
  match S with
  | .int j :: .ref a :: S' => (match hget σ a with
    | some (.inr (.inr x)) => (aget x j).bind fun v => some (pc, L, .long v :: S', σ)
    | _ => none)
  | _ => none
def qnar : FieldType → Int32 → Int32
  | .boolean, x => x &&& 1
  | .byte, x => x.toInt8.toInt32
  | _, x => x
def qast (pc : Nat) (L : QLoc) (S : List Value) (σ : QHeap) (ok : FieldType → Bool) : Option QSt :=
  match S with
  | .int v :: .int j :: .ref a :: S' => (match hget σ a with
    | some (.inr (.inl x)) => bif ok x.1 && Nat.ble k0 a then (aset x.2 j (qnar x.1 v)).bind fun y => some (pc, L, S', σ.set a (.inr (.inl (x.1, y)))) else none
    | _ => none)
  | _ => none
def qastJ (pc : Nat) (L : QLoc) (S : List Value) (σ : QHeap) : Option QSt :=
  match S with
  | .long v :: .int j :: .ref a :: S' => (match hget σ a with
    | some (.inr (.inr x)) => bif Nat.ble k0 a then (aset x j v).bind fun y => some (pc, L, S', σ.set a (.inr (.inr y))) else none
    | _ => none)
  | _ => none
def tyI : FieldType → Bool | .int => true | _ => false
def tyB : FieldType → Bool | .boolean => true | .byte => true | _ => false
/-- what a value becomes in a field of the type (none: it doesn't fit) -/
def qfit : FieldType → Value → Option Value
  | .int, .int x => some (.int x)
  | .boolean, .int x => (qboo x).bind fun y => some (.int y)
  | .long, .long x => some (.long x)
  | .array t, .ref a => some (.ref a)
  | _, _ => none
def qget (pc : Nat) (L : QLoc) (S : List Value) (σ : QHeap) (k : Nat) : Option QSt :=
  match S with
  | .ref a :: S' => (match hget σ a with
    | some (.inl vs) => (match vget vs k with | some v => some (pc, L, v :: S', σ) | none => none)
    | _ => none)
  | _ => none
def qput (pc : Nat) (L : QLoc) (S : List Value) (σ : QHeap) (k : Nat) : Option QSt :=
  match S with
  | v :: .ref a :: S' => (match hget σ a with
    | some (.inl vs) => bif Nat.ble k0 a && Nat.ble (k + 1) vs.length then (qfit (fTy k) v).bind fun w => some (pc, L, S', σ.set a (.inl (vs.set k w))) else none
    | _ => none)
  | _ => none
def qnewA (pc : Nat) (L : QLoc) (S : List Value) (σ : QHeap) (t : ArrayType) : Option QSt :=
  match S with
  | .int n :: S' => (match t with
    | .int => (qnew n).bind fun k => some (pc, L, .ref σ.length :: S', σ ++ [.inr (.inl (.int, List.replicate k 0))])
    | .boolean => (qnew n).bind fun k => some (pc, L, .ref σ.length :: S', σ ++ [.inr (.inl (.boolean, List.replicate k 0))])
    | .byte => (qnew n).bind fun k => some (pc, L, .ref σ.length :: S', σ ++ [.inr (.inl (.byte, List.replicate k 0))])
    | .long => (qnew n).bind fun k => some (pc, L, .ref σ.length :: S', σ ++ [.inr (.inr (List.replicate k 0))])
    | _ => none)
  | _ => none
def qlen (pc : Nat) (L : QLoc) (S : List Value) (σ : QHeap) : Option QSt :=
  match S with
  | .ref a :: S' => (match hget σ a with
    | some (.inr (.inl x)) => some (pc, L, .int x.2.length.toInt32 :: S', σ)
    | some (.inr (.inr x)) => some (pc, L, .int x.length.toInt32 :: S', σ)
    | _ => none)
  | _ => none
def qdup (pc : Nat) (L : QLoc) (S : List Value) (σ : QHeap) : Option QSt :=
  match S with
  | .int x :: S' => some (pc, L, .int x :: .int x :: S', σ)
  | .ref x :: S' => some (pc, L, .ref x :: .ref x :: S', σ)
  | _ => none
def qdup2 (pc : Nat) (L : QLoc) (S : List Value) (σ : QHeap) : Option QSt :=
  match S with
  | .int x :: .ref y :: S' => some (pc, L, .int x :: .ref y :: .int x :: .ref y :: S', σ)
  | .int x :: .int y :: S' => some (pc, L, .int x :: .int y :: .int x :: .int y :: S', σ)
  | .long x :: S' => some (pc, L, .long x :: .long x :: S', σ)
  | _ => none
def qpop (pc : Nat) (L : QLoc) (S : List Value) (σ : QHeap) : Option QSt :=
  match S with
  | .int _ :: S' => some (pc, L, S', σ)
  | .ref _ :: S' => some (pc, L, S', σ)
  | _ => none
def qif (pc : Nat) (L : QLoc) (S : List Value) (σ : QHeap) (cd : ClassFile.Cond) (tgt : Nat) : Option QSt :=
  match S with
  | .int x :: S' => some (bif ifCond.holds cd x then tgt else pc, L, S', σ)
  | _ => none
def qicmp (pc : Nat) (L : QLoc) (S : List Value) (σ : QHeap) (cd : ClassFile.Cond) (tgt : Nat) : Option QSt :=
  match S with
  | .int y :: .int x :: S' => some (bif if_icmp.holds cd x y then tgt else pc, L, S', σ)
  | _ => none
def qinc (pc : Nat) (L : QLoc) (S : List Value) (σ : QHeap) (k : Nat) (i : Int) : Option QSt :=
  match lget L k with
  | some (.int x) => (match lput L k (.int (x + Int32.ofInt i)) with | some L' => some (pc, L', S, σ) | none => none)
  | _ => none
def qldc (pc : Nat) (L : QLoc) (S : List Value) (σ : QHeap) (k : Nat) : Option QSt :=
  match vget cK k with
  | some v => some (pc, L, v :: S, σ)
  | none => none
def qexec (pc : Nat) (L : QLoc) (S : List Value) (σ : QHeap) (aux : Nat) : Instr → Option QSt
  | .aload_n k => qload (pc + 1) L S σ k.val isR
  | .aload k => qload (pc + 2) L S σ k isR
  | .iload_n k => qload (pc + 1) L S σ k.val isI
  | .iload k => qload (pc + 2) L S σ k isI
  | .lload_n k => qload (pc + 1) L S σ k.val isJ
  | .lload k => qload (pc + 2) L S σ k isJ
  | .iconst i => some (pc + 1, L, .int (Int32.ofInt i) :: S, σ)
  | .bipush i => some (pc + 2, L, .int (Int8.ofInt i).toInt32 :: S, σ)
  | .sipush i => some (pc + 3, L, .int (Int16.ofInt i).toInt32 :: S, σ)
  | .lconst k => some (pc + 1, L, .long (Int64.ofNat k.val) :: S, σ)
  | .ldc _ => qldc (pc + 2) L S σ aux
  | .ldc2_w _ => qldc (pc + 3) L S σ aux
  | .istore_n k => qstore (pc + 1) L S σ k.val isI
  | .istore k => qstore (pc + 2) L S σ k isI
  | .lstore_n k => qstore (pc + 1) L S σ k.val isJ
  | .lstore k => qstore (pc + 2) L S σ k isJ
  | .astore_n k => qstore (pc + 1) L S σ k.val isR
  | .astore k => qstore (pc + 2) L S σ k isR
  | .iinc k i => qinc (pc + 3) L S σ k i
  | .iadd => qbin (pc + 1) L S σ fun x y => x + y
  | .isub => qbin (pc + 1) L S σ fun x y => x - y
  | .imul => qbin (pc + 1) L S σ fun x y => x * y
  | .iand => qbin (pc + 1) L S σ fun x y => x &&& y
  | .ior => qbin (pc + 1) L S σ fun x y => x ||| y
  | .ixor => qbin (pc + 1) L S σ fun x y => x ^^^ y
  | .ishl => qbin (pc + 1) L S σ fun x y => x <<< (y &&& 31)
  | .ishr => qbin (pc + 1) L S σ fun x y => x >>> (y &&& 31)
  | .iushr => qbin (pc + 1) L S σ fun x y => XT.ushr x y
  | .idiv => qbino (pc + 1) L S σ qdiv
  | .irem => qbino (pc + 1) L S σ qrem
  | .ineg => quni (pc + 1) L S σ fun x => .int (-x)
  | .i2l => quni (pc + 1) L S σ fun x => .long x.toInt64
  | .i2b => quni (pc + 1) L S σ fun x => .int x.toInt8.toInt32
  | .l2i => quniJ (pc + 1) L S σ fun x => .int x.toInt32
  | .lneg => quniJ (pc + 1) L S σ fun x => .long (-x)
  | .ladd => qbinJ (pc + 1) L S σ fun x y => x + y
  | .lsub => qbinJ (pc + 1) L S σ fun x y => x - y
  | .lmul => qbinJ (pc + 1) L S σ fun x y => x * y
  | .land => qbinJ (pc + 1) L S σ fun x y => x &&& y
  | .lor => qbinJ (pc + 1) L S σ fun x y => x ||| y
  | .lxor => qbinJ (pc + 1) L S σ fun x y => x ^^^ y
  | .lshl => qshJ (pc + 1) L S σ fun x y => x <<< (y.toInt64 &&& 63)
  | .lshr => qshJ (pc + 1) L S σ fun x y => x >>> (y.toInt64 &&& 63)
  | .lushr => qshJ (pc + 1) L S σ fun x y => XT.ushrL x y
  | .lcmp => (match S with
    | .long y :: .long x :: S' => some (pc + 1, L, .int (XT.cmpL x y) :: S', σ)
    | _ => none)
  | .goto _ => some (aux, L, S, σ)
  | .ifCond cd _ => qif (pc + 3) L S σ cd aux
  | .if_icmp cd _ => qicmp (pc + 3) L S σ cd aux
  | .dup => qdup (pc + 1) L S σ
  | .dup2 => qdup2 (pc + 1) L S σ
  | .pop => qpop (pc + 1) L S σ
  | .getfield _ => qget (pc + 3) L S σ aux
  | .putfield _ => qput (pc + 3) L S σ aux
  | .iaload => qald (pc + 1) L S σ tyI
  | .baload => qald (pc + 1) L S σ tyB
  | .laload => qaldJ (pc + 1) L S σ
  | .iastore => qast (pc + 1) L S σ tyI
  | .bastore => qast (pc + 1) L S σ tyB
  | .lastore => qastJ (pc + 1) L S σ
  | .arraylength => qlen (pc + 1) L S σ
  | .newarray t => qnewA (pc + 2) L S σ t
  | .new _ => some (pc + 3, L, .ref σ.length :: S, σ ++ [.inl cDef])
  | _ => none
def qstep (m : Nat) (st : QSt) : Option QSt :=
  match pCode m st.1 with
  | some (i, aux) => qexec st.1 st.2.1 st.2.2.1 st.2.2.2 aux i
  | none => none
def qsteps (m : Nat) : Nat → QSt → Option QSt
  | 0, st => some st
  | n + 1, st => match qstep m st with | some st' => qsteps m n st' | none => none
def qentry (args : List Value) (mx : Nat) : QLoc := (args.flatMap fun v => match v with | .long x => [some (.long x), none] | .double x => [some (.double x), none] | v => [some v]) ++ List.replicate (mx - (args.map fun v => v.category).sum) none
/-! ## what the abstract state says of the model's -/
def ilen : Instr → Nat
  | .aload _ | .iload _ | .lload _ | .istore _ | .lstore _ | .astore _ | .bipush _ | .ldc _ | .newarray _ => 2
  | .sipush _ | .ldc2_w _ | .iinc _ _ | .goto _ | .ifCond _ _ | .if_icmp _ _ | .getfield _ | .putfield _ | .new _ | .invokevirtual _ | .invokespecial _ | .invokestatic _ => 3
  | _ => 1
def qtgt (pc : Nat) (o : Int) (aux : Nat) : Bool := decide (0 ≤ (pc : Int) + o) && decide (((pc : Int) + o).toNat = aux)
def qlk (m pc : Nat) (i : Instr) (aux : Nat) : Bool :=
  match i with
  | .goto o => qtgt pc o aux
  | .ifCond _ o => qtgt pc o aux
  | .if_icmp _ o => qtgt pc o aux
  | .getfield idx => lkF.contains (pK m, idx, aux)
  | .putfield idx => lkF.contains (pK m, idx, aux) && (!fFin aux || (pK m == 1 && pNm m == "<init>"))
  | .new idx => lkN.contains (pK m, idx)
  | .newarray t => aTys.contains (newarray.typeOf t)
  | .ldc idx => lkC.contains (pK m, idx, aux)
  | .ldc2_w idx => lkD.contains (pK m, idx, aux)
  | _ => true
def qchk (m pc : Nat) (i : Instr) (aux : Nat) : Bool := decide (decode (pBytes m) pc = .ok (i, ilen i)) && qlk m pc i aux
def QCellOk (Z : State) (ad : Nat → Addr) (h : Heap) (a : Addr) : QCell → Prop
  | .inl vs => Exa Z h a cName ∧ vs.length = nF ∧ ∀ (k : Nat) (v : Value), k < nF → vget vs k = some v → Fld Z h a cName (fNm k) (fDs k) (qv ad v)
  | .inr (.inl x) => ∃ c : Cell, Arr Z h a c x.1 ∧ c.slots = (x.2.map Value.int).toArray
  | .inr (.inr x) => ∃ c : Cell, Arr Z h a c .long ∧ c.slots = (x.map Value.long).toArray
def QAd (n0 : Nat) (ad : Nat → Addr) : Prop := (∀ k, k0 ≤ k → ad k = n0 + (k - k0)) ∧ ∀ i j, ad i = ad j → i = j
def QRep (Z : State) (n0 : Nat) (ad : Nat → Addr) (h : Heap) (σ : QHeap) : Prop := k0 ≤ σ.length ∧ h.size = n0 + (σ.length - k0) ∧ ∀ k c, hget σ k = some c → QCellOk Z ad h (ad k) c
def QLocOk (ad : Nat → Addr) (L : QLoc) (C : Array Slot) : Prop :=
  L.length = C.size ∧ (∀ k v, lget L k = some v → C[k]? = some (.val (qv ad v))) ∧ (∀ k w, C[k]? = some (.val w) → w.category = 2 → C[k + 1]? = some .second) ∧ ∀ k, C[k]? = some .second → ∃ j w, k = j + 1 ∧ C[j]? = some (.val w) ∧ w.category = 2
/-- the words of the sheet, as the engine uses them -/
def QW (Z : State) (a0 : Array Value) : Prop :=
  (∀ t ∈ lkF, (Cond.fieldLink (kName t.1) t.2.1 cName (fNm t.2.2) (fDs t.2.2)).before a0 Z = true) ∧
  (∀ t ∈ lkN, (Cond.classLink (kName t.1) t.2 cName).before a0 Z = true) ∧
  (∀ t ∈ lkC, ∃ v, vget cK t.2.2 = some (.int v) ∧ (Cond.constant (kName t.1) t.2.1 v).before a0 Z = true) ∧
  (∀ t ∈ lkD, ∃ v, vget cK t.2.2 = some (.long v) ∧ (Cond.constantLong (kName t.1) t.2.1 v).before a0 Z = true) ∧
  (∀ t ∈ lkV, (Cond.methodLink (kName t.1) t.2.1 (pName t.2.2)).before a0 Z = true) ∧
  (∀ t ∈ lkO, (Cond.methodLink (kName t.1) t.2 Lib.objectInit).before a0 Z = true) ∧
  (∀ m ∈ mV, (Cond.declares (pName m)).before a0 Z = true ∧ (Cond.selects cName (pName m) (pName m)).before a0 Z = true ∧ (Cond.instanceMethod (pName m)).before a0 Z = true) ∧
  (∀ m ∈ mP, (Cond.instanceMethod (pName m)).before a0 Z = true ∧ (Cond.privateMethod (pName m)).before a0 Z = true) ∧
  (∀ m ∈ mS, (Cond.static (pName m)).before a0 Z = true) ∧
  (∀ m ∈ mI, (Cond.instanceMethod (pName m)).before a0 Z = true) ∧
  (∀ m ∈ mA, (Cond.code (pName m) (pBytes m) (pMaxL m) (pRet m)).before a0 Z = true ∧ (Cond.initialized (kName (pK m))).before a0 Z = true) ∧
  (Cond.instanceMethod Lib.objectInit).before a0 Z = true ∧ (Cond.code Lib.objectInit ⟨#[0xb1]⟩ 1 none).before a0 Z = true ∧
  (∀ k, k < nF → bif fFin k then (Cond.laysFinal cName cName (fNm k) (fDs k)).before a0 Z = true else (Cond.lays cName cName (fNm k) (fDs k)).before a0 Z = true) ∧
  (Cond.instantiable cName cN).before a0 Z = true ∧ (Cond.initialized cName).before a0 Z = true ∧
  ∀ ty ∈ aTys, (Cond.arrayClass ty).before a0 Z = true
section Words
variable {Z : State} {a0 : Array Value}
theorem qw_fl (W : QW Z a0) : ∀ t ∈ lkF, (Cond.fieldLink (kName t.1) t.2.1 cName (fNm t.2.2) (fDs t.2.2)).before a0 Z = true := W.1
theorem qw_nw (W : QW Z a0) : ∀ t ∈ lkN, (Cond.classLink (kName t.1) t.2 cName).before a0 Z = true := W.2.1
theorem qw_cI (W : QW Z a0) : ∀ t ∈ lkC, ∃ v, vget cK t.2.2 = some (.int v) ∧ (Cond.constant (kName t.1) t.2.1 v).before a0 Z = true := W.2.2.1
theorem qw_cJ (W : QW Z a0) : ∀ t ∈ lkD, ∃ v, vget cK t.2.2 = some (.long v) ∧ (Cond.constantLong (kName t.1) t.2.1 v).before a0 Z = true := W.2.2.2.1
theorem qw_ml (W : QW Z a0) : ∀ t ∈ lkV, (Cond.methodLink (kName t.1) t.2.1 (pName t.2.2)).before a0 Z = true := W.2.2.2.2.1
theorem qw_mo (W : QW Z a0) : ∀ t ∈ lkO, (Cond.methodLink (kName t.1) t.2 Lib.objectInit).before a0 Z = true := W.2.2.2.2.2.1
theorem qw_vi (W : QW Z a0) : ∀ m ∈ mV, (Cond.declares (pName m)).before a0 Z = true ∧ (Cond.selects cName (pName m) (pName m)).before a0 Z = true ∧ (Cond.instanceMethod (pName m)).before a0 Z = true := W.2.2.2.2.2.2.1
theorem qw_pr (W : QW Z a0) : ∀ m ∈ mP, (Cond.instanceMethod (pName m)).before a0 Z = true ∧ (Cond.privateMethod (pName m)).before a0 Z = true := W.2.2.2.2.2.2.2.1
theorem qw_st (W : QW Z a0) : ∀ m ∈ mS, (Cond.static (pName m)).before a0 Z = true := W.2.2.2.2.2.2.2.2.1
theorem qw_ini (W : QW Z a0) : ∀ m ∈ mI, (Cond.instanceMethod (pName m)).before a0 Z = true := W.2.2.2.2.2.2.2.2.2.1
theorem qw_cod (W : QW Z a0) : ∀ m ∈ mA, (Cond.code (pName m) (pBytes m) (pMaxL m) (pRet m)).before a0 Z = true ∧ (Cond.initialized (kName (pK m))).before a0 Z = true := W.2.2.2.2.2.2.2.2.2.2.1
theorem qw_oi (W : QW Z a0) : (Cond.instanceMethod Lib.objectInit).before a0 Z = true := W.2.2.2.2.2.2.2.2.2.2.2.1
theorem qw_oc (W : QW Z a0) : (Cond.code Lib.objectInit ⟨#[0xb1]⟩ 1 none).before a0 Z = true := W.2.2.2.2.2.2.2.2.2.2.2.2.1
theorem qw_lay (W : QW Z a0) : ∀ k, k < nF → bif fFin k then (Cond.laysFinal cName cName (fNm k) (fDs k)).before a0 Z = true else (Cond.lays cName cName (fNm k) (fDs k)).before a0 Z = true := W.2.2.2.2.2.2.2.2.2.2.2.2.2.1
theorem qw_inst (W : QW Z a0) : (Cond.instantiable cName cN).before a0 Z = true := W.2.2.2.2.2.2.2.2.2.2.2.2.2.2.1
theorem qw_init (W : QW Z a0) : (Cond.initialized cName).before a0 Z = true := W.2.2.2.2.2.2.2.2.2.2.2.2.2.2.2.1
theorem qw_arr (W : QW Z a0) : ∀ ty ∈ aTys, (Cond.arrayClass ty).before a0 Z = true := W.2.2.2.2.2.2.2.2.2.2.2.2.2.2.2.2
end Words
/-! ## small laws of lists -/
theorem hget_eq : ∀ (σ : QHeap) k, hget σ k = σ[k]?
  | [], _ => by simp [hget]
  | _ :: _, 0 => by simp [hget]
  | _ :: t, k + 1 => by simp [hget, hget_eq t k]
theorem vget_eq : ∀ (σ : List Value) k, vget σ k = σ[k]?
  | [], _ => by simp [vget]
  | _ :: _, 0 => by simp [vget]
  | _ :: t, k + 1 => by simp [vget, vget_eq t k]
theorem lget_eq : ∀ (L : QLoc) k, lget L k = (L[k]?).getD none
  | [], _ => by simp [lget]
  | _ :: _, 0 => by simp [lget]
  | _ :: t, k + 1 => by simp [lget, lget_eq t k]
theorem lget_lt {L : QLoc} {k : Nat} {v : Value} (h : lget L k = some v) : k < L.length := by
  rw [lget_eq] at h
  rcases Nat.lt_or_ge k L.length with q | q
  · exact q
  · simp [List.getElem?_eq_none q] at h
theorem lget_set {L : QLoc} {k j : Nat} {o : Option Value} (hk : k < L.length) : lget (L.set k o) j = if j = k then o else lget L j := by
  simp only [lget_eq, List.getElem?_set]
  by_cases e : k = j
  · subst e; simp [hk]
  · simp [e, Ne.symm e]
theorem qhs_app (σ τ : QHeap) : qhs (σ ++ τ) = qhs σ + qhs τ := by
  induction σ with
  | nil => simp [qhs]
  | cons c t ih => simp [qhs, ih, Nat.add_assoc]
theorem qhs_set {σ : QHeap} {k : Nat} {c d : QCell} (h : hget σ k = some c) (hs : qsz d = qsz c) : qhs (σ.set k d) = qhs σ := by
  induction σ generalizing k with
  | nil => simp [hget] at h
  | cons x t ih =>
    cases k with
    | zero => simp only [hget, Option.some.injEq] at h; subst h; simp [qhs, hs]
    | succ k => simp only [hget] at h; simp [qhs, ih h]
theorem hget_set {σ : QHeap} {k j : Nat} {c d : QCell} (h : hget σ k = some c) : hget (σ.set k d) j = if j = k then some d else hget σ j := by
  rw [hget_eq] at h
  have hk := (List.getElem?_eq_some_iff.mp h).1
  simp only [hget_eq, List.getElem?_set]
  by_cases e : k = j
  · subst e; simp [hk]
  · simp [e, Ne.symm e]
theorem lkill_len (L : QLoc) (k : Nat) : (lkill L k).length = L.length := by
  cases k with
  | zero => rfl
  | succ k => simp only [lkill]; split <;> simp
theorem lget_kill {L : QLoc} {k j : Nat} {v : Value} (h : lget (lkill L k) j = some v) : lget L j = some v ∧ (k = j + 1 → v.category ≠ 2) := by
  cases k with
  | zero => exact ⟨h, fun e => by omega⟩
  | succ k =>
    simp only [lkill] at h
    split at h
    · rename_i x q
      rw [lget_set (lget_lt q)] at h
      split at h
      · cases h
      · rename_i ne; exact ⟨h, fun e => absurd (by omega) ne⟩
    · rename_i x q
      rw [lget_set (lget_lt q)] at h
      split at h
      · cases h
      · rename_i ne; exact ⟨h, fun e => absurd (by omega) ne⟩
    · rename_i q1 q2
      refine ⟨h, fun e hc => ?_⟩
      obtain rfl : j = k := by omega
      cases v with
      | long x => exact q1 _ h
      | double x => exact q2 _ h
      | _ => simp [Value.category] at hc
theorem qv_cat (ad : Nat → Addr) (v : Value) : (qv ad v).category = v.category := by cases v <;> rfl
/-! ## storing into a local -/
def kA (C : Array Slot) (k j : Nat) : Prop := k = j + 1 ∧ C[k]? = some .second
def kB (C : Array Slot) (k j : Nat) : Prop := j = k + 1 ∧ ∃ u, C[k]? = some (.val u) ∧ u.category = 2
def kD (C : Array Slot) (k j : Nat) : Prop := j = k + 2 ∧ ∃ u, C[k + 1]? = some (.val u) ∧ u.category = 2
theorem set1_at {C D : Array Slot} {k : Nat} {w : Value} (hk : k < C.size) (hw : w.category = 1) (h : storeLocals C k w = some D) :
    D.size = C.size ∧ D[k]? = some (.val w) ∧ ∀ j, j ≠ k → (D[j]? = C[j]? ∧ ¬ kA C k j ∧ ¬ kB C k j) ∨ D[j]? = some .unset ∧ (kA C k j ∨ kB C k j) := by
  have hck : C[k]? = some C[k] := Array.getElem?_eq_getElem hk
  unfold storeLocals at h
  simp only [hck, Option.bind_eq_bind, Option.bind_some] at h
  have self : ∀ {E : Array Slot}, k < E.size → storeSelf E k w = some D → D = E.setIfInBounds k (.val w) := by
    intro E hE q
    simp only [storeSelf, setAt, hE, if_true, Option.bind_eq_bind, Option.bind_some, hw] at q
    simpa using q.symm
  split at h
  · rename_i q
    have hk1 : k - 1 < C.size := by omega
    simp only [setAt, hk1, if_true, Option.bind_some] at h
    have e := self (by simpa using hk) h
    subst e
    refine ⟨by simp, by simp [hk], fun j hj => ?_⟩
    by_cases ej : k = j + 1
    · refine Or.inr ⟨?_, Or.inl ⟨ej, by rw [hck, q]⟩⟩
      rw [Array.getElem?_setIfInBounds_ne (Ne.symm hj), show j = k - 1 by omega]
      simp [hk1]
    · refine Or.inl ⟨?_, fun x => ej x.1, fun x => ?_⟩
      · rw [Array.getElem?_setIfInBounds_ne (Ne.symm hj), Array.getElem?_setIfInBounds_ne (by omega)]
      · obtain ⟨-, u, x1, -⟩ := x
        rw [hck, q] at x1; cases x1
  · rename_i u q
    split at h
    · rename_i hu
      by_cases hk1 : k + 1 < C.size
      · simp only [setAt, hk1, if_true, Option.bind_some] at h
        have e := self (by simpa using hk) h
        subst e
        refine ⟨by simp, by simp [hk], fun j hj => ?_⟩
        by_cases ej : j = k + 1
        · refine Or.inr ⟨?_, Or.inr ⟨ej, u, by rw [hck, q], hu⟩⟩
          rw [Array.getElem?_setIfInBounds_ne (Ne.symm hj), ej]
          simp [hk1]
        · refine Or.inl ⟨?_, fun x => ?_, fun x => ej x.1⟩
          · rw [Array.getElem?_setIfInBounds_ne (Ne.symm hj), Array.getElem?_setIfInBounds_ne (by omega)]
          · obtain ⟨-, x1⟩ := x
            rw [hck, q] at x1; cases x1
      · simp [setAt, hk1] at h
    · rename_i hu
      have e := self hk h
      subst e
      refine ⟨by simp, by simp [hk], fun j hj => Or.inl ⟨Array.getElem?_setIfInBounds_ne (Ne.symm hj), fun x => ?_, fun x => ?_⟩⟩
      · obtain ⟨-, x1⟩ := x
        rw [hck, q] at x1; cases x1
      · obtain ⟨-, u', x1, x2⟩ := x
        rw [hck, q] at x1; cases x1; exact hu x2
  · rename_i q
    have e := self hk h
    subst e
    refine ⟨by simp, by simp [hk], fun j hj => Or.inl ⟨Array.getElem?_setIfInBounds_ne (Ne.symm hj), fun x => ?_, fun x => ?_⟩⟩
    · obtain ⟨-, x1⟩ := x
      rw [hck, q] at x1; cases x1
    · obtain ⟨-, u', x1, x2⟩ := x
      rw [hck, q] at x1; cases x1
theorem set2_at {C D : Array Slot} {k : Nat} {w : Value} (hk : k + 1 < C.size) (hw : w.category = 2) (wf : ∀ k w, C[k]? = some (.val w) → w.category = 2 → C[k + 1]? = some .second) (h : storeLocals C k w = some D) :
    D.size = C.size ∧ D[k]? = some (.val w) ∧ D[k + 1]? = some .second ∧ ∀ j, j ≠ k → j ≠ k + 1 → (D[j]? = C[j]? ∧ ¬ kA C k j ∧ ¬ kD C k j) ∨ D[j]? = some .unset ∧ (kA C k j ∨ kD C k j) := by
  have hk0 : k < C.size := by omega
  have hck : C[k]? = some C[k] := Array.getElem?_eq_getElem hk0
  unfold storeLocals at h
  simp only [hck, Option.bind_eq_bind, Option.bind_some] at h
  have self : ∀ {E : Array Slot}, E.size = C.size → storeSelf E k w = some D → D.size = C.size ∧ D[k]? = some (.val w) ∧ D[k + 1]? = some .second ∧ ∀ j, j ≠ k → j ≠ k + 1 → (D[j]? = E[j]? ∧ ¬ kD E k j) ∨ D[j]? = some .unset ∧ kD E k j := by
    intro E hs q
    have h1 : k < E.size := by omega
    have h2 : k + 1 < E.size := by omega
    have h3 : (E.setIfInBounds k (.val w))[k + 1]? = some E[k + 1] := by rw [Array.getElem?_setIfInBounds_ne (by omega)]; exact Array.getElem?_eq_getElem h2
    simp only [storeSelf, setAt, h1, if_true, Option.bind_eq_bind, Option.bind_some, hw, h3] at q
    have plain : (¬ ∃ u, E[k + 1]? = some (.val u) ∧ u.category = 2) → some ((E.setIfInBounds k (.val w)).setIfInBounds (k + 1) .second) = some D → D.size = C.size ∧ D[k]? = some (.val w) ∧ D[k + 1]? = some .second ∧ ∀ j, j ≠ k → j ≠ k + 1 → (D[j]? = E[j]? ∧ ¬ kD E k j) ∨ D[j]? = some .unset ∧ kD E k j := by
      intro no q
      cases q
      refine ⟨by simp [hs], ?_, ?_, fun j hj hj1 => Or.inl ⟨?_, fun x => no x.2⟩⟩
      · rw [Array.getElem?_setIfInBounds_ne (by omega)]; simp [h1]
      · simp [h2]
      · rw [Array.getElem?_setIfInBounds_ne (by omega), Array.getElem?_setIfInBounds_ne (by omega)]
    split at q
    · rename_i u hu
      split at q
      · rename_i hu2
        by_cases h5 : k + 2 < E.size
        · simp [h5, h2] at q
          cases q
          refine ⟨by simp [hs], ?_, ?_, fun j hj hj1 => ?_⟩
          · rw [Array.getElem?_setIfInBounds_ne (by omega), Array.getElem?_setIfInBounds_ne (by omega)]; simp [h1]
          · simp [h2]
          · by_cases e : j = k + 2
            · refine Or.inr ⟨?_, e, u, by rw [Array.getElem?_eq_getElem h2, hu], hu2⟩
              rw [Array.getElem?_setIfInBounds_ne (by omega), e]
              simp [h5]
            · refine Or.inl ⟨?_, fun x => e x.1⟩
              rw [Array.getElem?_setIfInBounds_ne (by omega), Array.getElem?_setIfInBounds_ne (by omega), Array.getElem?_setIfInBounds_ne (by omega)]
        · simp [h5] at q
      · rename_i hu2
        refine plain ?_ (by simpa [h2] using q)
        rintro ⟨u', x1, x2⟩
        rw [Array.getElem?_eq_getElem h2, hu] at x1; cases x1; exact hu2 x2
    · rename_i hu
      refine plain ?_ (by simpa [h2] using q)
      rintro ⟨u', x1, x2⟩
      rw [Array.getElem?_eq_getElem h2] at x1; exact hu _ (Option.some.inj x1)
  split at h
  · rename_i q
    have hk1 : k - 1 < C.size := by omega
    simp only [setAt, hk1, if_true, Option.bind_some] at h
    obtain ⟨e1, e2, e3, e4⟩ := self (by simp) h
    refine ⟨e1, e2, e3, fun j hj hj1 => ?_⟩
    have h6 : ∀ i, i + 1 ≠ k ∨ k = 0 → i ≠ k ∨ k ≠ 0 → (C.setIfInBounds (k - 1) Slot.unset)[i]? = C[i]? := fun i hi hi2 => Array.getElem?_setIfInBounds_ne (by omega)
    have h7 : (C.setIfInBounds (k - 1) Slot.unset)[k + 1]? = C[k + 1]? := Array.getElem?_setIfInBounds_ne (by omega)
    rcases e4 j hj hj1 with ⟨r, r'⟩ | ⟨r, r1, u, r2, r3⟩
    · by_cases ej : k = j + 1
      · refine Or.inr ⟨?_, Or.inl ⟨ej, by rw [hck, q]⟩⟩
        rw [r, show j = k - 1 by omega]; simp [hk1]
      · refine Or.inl ⟨by rw [r]; exact h6 _ (by omega) (by omega), fun x => ej x.1, fun x => r' ⟨x.1, ?_⟩⟩
        rw [h7]; exact x.2
    · exact Or.inr ⟨r, Or.inr ⟨r1, u, by rw [← h7]; exact r2, r3⟩⟩
  · rename_i u q
    split at h
    · rename_i hu
      simp only [setAt, hk, if_true, Option.bind_some] at h
      obtain ⟨e1, e2, e3, e4⟩ := self (by simp) h
      have hsec := wf k u (by rw [hck, q]) hu
      refine ⟨e1, e2, e3, fun j hj hj1 => ?_⟩
      rcases e4 j hj hj1 with ⟨r, r'⟩ | ⟨r, r1, u', r2, r3⟩
      · refine Or.inl ⟨by rw [r]; exact Array.getElem?_setIfInBounds_ne (by omega), fun x => ?_, fun x => ?_⟩
        · obtain ⟨-, x1⟩ := x
          rw [hck, q] at x1; cases x1
        · obtain ⟨-, u', x1, x2⟩ := x
          rw [hsec] at x1; cases x1
      · simp [hk] at r2
    · rename_i hu
      obtain ⟨e1, e2, e3, e4⟩ := self rfl h
      refine ⟨e1, e2, e3, fun j hj hj1 => ?_⟩
      rcases e4 j hj hj1 with ⟨r, r'⟩ | ⟨r, r'⟩
      · refine Or.inl ⟨r, fun x => ?_, r'⟩
        obtain ⟨-, x1⟩ := x
        rw [hck, q] at x1; cases x1
      · exact Or.inr ⟨r, Or.inr r'⟩
  · rename_i q
    obtain ⟨e1, e2, e3, e4⟩ := self rfl h
    refine ⟨e1, e2, e3, fun j hj hj1 => ?_⟩
    rcases e4 j hj hj1 with ⟨r, r'⟩ | ⟨r, r'⟩
    · refine Or.inl ⟨r, fun x => ?_, r'⟩
      obtain ⟨-, x1⟩ := x
      rw [hck, q] at x1; cases x1
    · exact Or.inr ⟨r, Or.inr r'⟩
/-- a store succeeds: in a well kept array of locals -/
theorem store_some {C : Array Slot} {k : Nat} {w : Value} (hk : k + (w.category - 1) < C.size) (hc : w.category = 1 ∨ w.category = 2) (wf : ∀ k w, C[k]? = some (.val w) → w.category = 2 → C[k + 1]? = some .second) :
    ∃ D, storeLocals C k w = some D := by
  have hk0 : k < C.size := by omega
  have hck : C[k]? = some C[k] := Array.getElem?_eq_getElem hk0
  have self : ∀ {E : Array Slot}, E.size = C.size → (∀ u, E[k + 1]? = some (.val u) → u.category = 2 → k + 2 < E.size) → ∃ D, storeSelf E k w = some D := by
    intro E hs hn
    have h1 : k < E.size := by omega
    simp only [storeSelf, setAt, h1, if_true, Option.bind_eq_bind, Option.bind_some]
    rcases hc with hc | hc
    · exact ⟨E.setIfInBounds k (.val w), by simp [hc]⟩
    · have h2 : k + 1 < E.size := by omega
      have h3 : (E.setIfInBounds k (.val w))[k + 1]? = some E[k + 1] := by rw [Array.getElem?_setIfInBounds_ne (by omega)]; exact Array.getElem?_eq_getElem h2
      simp only [hc, if_true, h3, Option.bind_some]
      split
      · rename_i u hu
        split
        · rename_i hu2
          have h5 := hn u (by rw [Array.getElem?_eq_getElem h2, hu]) hu2
          exact ⟨_, by simp [h5, h2]; rfl⟩
        · exact ⟨_, by simp [h2]; rfl⟩
      · exact ⟨_, by simp [h2]; rfl⟩
  have next : ∀ u, C[k + 1]? = some (.val u) → u.category = 2 → k + 2 < C.size := fun u h1 h2 => (Array.getElem?_eq_some_iff.mp (wf _ _ h1 h2)).1
  unfold storeLocals
  simp only [hck, Option.bind_eq_bind, Option.bind_some]
  split
  · have hk1 : k - 1 < C.size := by omega
    simp only [setAt, hk1, if_true, Option.bind_some]
    refine self (by simp) fun u h1 h2 => ?_
    rw [Array.getElem?_setIfInBounds_ne (by omega)] at h1
    simpa using next u h1 h2
  · rename_i u q
    split
    · rename_i hu
      have h5 := (Array.getElem?_eq_some_iff.mp (wf k u (by rw [hck, q]) hu)).1
      simp only [setAt, h5, if_true, Option.bind_some]
      refine self (by simp) fun u h1 h2 => ?_
      simp [h5] at h1
    · exact self rfl next
  · exact self rfl next
theorem store_ok1 {ad : Nat → Addr} {L : QLoc} {C : Array Slot} {k : Nat} {v : Value} (H : QLocOk ad L C) (hv : v.category = 1) (hk : k < L.length) :
    ∃ D, storeLocals C k (qv ad v) = some D ∧ QLocOk ad ((lkill L k).set k (some v)) D ∧ D.size = C.size := by
  obtain ⟨H1, H2, H3, H4⟩ := H
  have hc : (qv ad v).category = 1 := by rw [qv_cat, hv]
  obtain ⟨D, hD⟩ := store_some (C := C) (k := k) (w := qv ad v) (by rw [hc]; omega) (Or.inl hc) H3
  obtain ⟨d1, d2, d3⟩ := set1_at (by omega) hc hD
  refine ⟨D, hD, ⟨by simp [lkill_len, H1, d1], fun j u hj => ?_, fun j w hj hw => ?_, fun j hj => ?_⟩, d1⟩
  · rw [lget_set (by rw [lkill_len]; exact hk)] at hj
    split at hj
    · rename_i e; cases hj; rw [e]; exact d2
    · rename_i ne
      obtain ⟨g1, g2⟩ := lget_kill hj
      have g3 := H2 j u g1
      rcases d3 j ne with ⟨r, -, -⟩ | ⟨-, ⟨r1, r2⟩ | ⟨r1, w, r2, r3⟩⟩
      · rw [r]; exact g3
      · obtain ⟨i, w, z1, z2, z3⟩ := H4 k r2
        obtain rfl : i = j := by omega
        rw [g3] at z2
        cases z2
        rw [qv_cat] at z3
        exact absurd z3 (g2 r1)
      · have := H3 k w r2 r3
        rw [← r1, g3] at this
        cases this
  · by_cases e : j = k
    · subst e; rw [d2] at hj; cases hj; rw [hc] at hw; cases hw
    · rcases d3 j e with ⟨r, nA, nB⟩ | ⟨r, -⟩
      · rw [r] at hj
        have g := H3 j w hj hw
        have e2 : j + 1 ≠ k := fun q => nA ⟨q.symm, by rw [← q]; exact g⟩
        rcases d3 (j + 1) e2 with ⟨z, -, -⟩ | ⟨-, ⟨z1, z2⟩ | ⟨z1, -⟩⟩
        · rw [z]; exact g
        · obtain ⟨i, u, y1, y2, y3⟩ := H4 k z2
          obtain rfl : i = j + 1 := by omega
          rw [g] at y2; cases y2
        · omega
      · rw [r] at hj; cases hj
  · by_cases e : j = k
    · subst e; rw [d2] at hj; cases hj
    · rcases d3 j e with ⟨r, nA, nB⟩ | ⟨r, -⟩
      · rw [r] at hj
        obtain ⟨i, w, y1, y2, y3⟩ := H4 j hj
        refine ⟨i, w, y1, ?_, y3⟩
        have ei : i ≠ k := fun q => nB ⟨by omega, w, by rw [← q]; exact y2, y3⟩
        rcases d3 i ei with ⟨z, -, -⟩ | ⟨-, ⟨z1, z2⟩ | ⟨z1, u, z2, z3⟩⟩
        · rw [z]; exact y2
        · omega
        · have := H3 k u z2 z3
          rw [← z1, y2] at this; cases this
      · rw [r] at hj; cases hj
theorem store_ok2 {ad : Nat → Addr} {L : QLoc} {C : Array Slot} {k : Nat} {x : Int64} (H : QLocOk ad L C) (hk : k + 1 < L.length) :
    ∃ D, storeLocals C k (.long x) = some D ∧ QLocOk ad (((lkill L k).set k (some (.long x))).set (k + 1) none) D ∧ D.size = C.size := by
  obtain ⟨H1, H2, H3, H4⟩ := H
  have hc : (Value.long x).category = 2 := rfl
  obtain ⟨D, hD⟩ := store_some (C := C) (k := k) (w := .long x) (by rw [hc]; omega) (Or.inr hc) H3
  obtain ⟨d1, d2, d2', d3⟩ := set2_at (by omega) hc H3 hD
  refine ⟨D, hD, ⟨by simp [lkill_len, H1, d1], fun j u hj => ?_, fun j w hj hw => ?_, fun j hj => ?_⟩, d1⟩
  · rw [lget_set (by simp [lkill_len]; exact hk)] at hj
    split at hj
    · cases hj
    · rename_i ne1
      rw [lget_set (by rw [lkill_len]; omega)] at hj
      split at hj
      · rename_i e; cases hj; rw [e]; exact d2
      · rename_i ne
        obtain ⟨g1, g2⟩ := lget_kill hj
        have g3 := H2 j u g1
        rcases d3 j ne ne1 with ⟨r, -, -⟩ | ⟨-, ⟨r1, r2⟩ | ⟨r1, w, r2, r3⟩⟩
        · rw [r]; exact g3
        · obtain ⟨i, w, z1, z2, z3⟩ := H4 k r2
          obtain rfl : i = j := by omega
          rw [g3] at z2
          cases z2
          rw [qv_cat] at z3
          exact absurd z3 (g2 r1)
        · have := H3 (k + 1) w r2 r3
          rw [show k + 1 + 1 = j by omega, g3] at this
          cases this
  · by_cases e : j = k
    · rw [e]; exact d2'
    · by_cases e1 : j = k + 1
      · rw [e1, d2'] at hj; cases hj
      · rcases d3 j e e1 with ⟨r, nA, nB⟩ | ⟨r, -⟩
        · rw [r] at hj
          have g := H3 j w hj hw
          have e2 : j + 1 ≠ k := fun q => nA ⟨q.symm, by rw [← q]; exact g⟩
          rcases d3 (j + 1) e2 (by omega) with ⟨z, -, -⟩ | ⟨-, ⟨z1, z2⟩ | ⟨z1, -⟩⟩
          · rw [z]; exact g
          · obtain ⟨i, u, y1, y2, y3⟩ := H4 k z2
            obtain rfl : i = j + 1 := by omega
            rw [g] at y2; cases y2
          · omega
        · rw [r] at hj; cases hj
  · by_cases e : j = k
    · rw [e, d2] at hj; cases hj
    · by_cases e1 : j = k + 1
      · exact ⟨k, _, e1, d2, hc⟩
      · rcases d3 j e e1 with ⟨r, nA, nB⟩ | ⟨r, -⟩
        · rw [r] at hj
          obtain ⟨i, w, y1, y2, y3⟩ := H4 j hj
          refine ⟨i, w, y1, ?_, y3⟩
          have ei : i ≠ k := fun q => e1 (by omega)
          have ei1 : i ≠ k + 1 := fun q => nB ⟨by omega, w, by rw [← q]; exact y2, y3⟩
          rcases d3 i ei ei1 with ⟨z, -, -⟩ | ⟨-, ⟨z1, z2⟩ | ⟨z1, u, z2, z3⟩⟩
          · rw [z]; exact y2
          · omega
          · have := H3 (k + 1) u z2 z3
            rw [show k + 1 + 1 = i by omega, y2] at this; cases this
        · rw [r] at hj; cases hj
theorem store_ok {ad : Nat → Addr} {L L' : QLoc} {C : Array Slot} {k : Nat} {v : Value} (H : QLocOk ad L C) (h : lput L k v = some L') :
    ∃ D, storeLocals C k (qv ad v) = some D ∧ QLocOk ad L' D ∧ D.size = C.size := by
  have one : v.category = 1 → (bif Nat.ble (k + 1) L.length then some ((lkill L k).set k (some v)) else none) = some L' → ∃ D, storeLocals C k (qv ad v) = some D ∧ QLocOk ad L' D ∧ D.size = C.size := by
    intro hv h
    cases hb : Nat.ble (k + 1) L.length with
    | false => rw [hb] at h; cases h
    | true => rw [hb] at h; cases h; exact store_ok1 H hv (Nat.le_of_ble_eq_true hb)
  cases v with
  | long x =>
    simp only [lput] at h
    cases hb : Nat.ble (k + 2) L.length with
    | false => rw [hb] at h; cases h
    | true => rw [hb] at h; cases h; exact store_ok2 H (Nat.le_of_ble_eq_true hb)
  | double x => simp [lput] at h
  | int x => exact one rfl h
  | float x => exact one rfl h
  | null => exact one rfl h
  | ref x => exact one rfl h
  | retAddr x => exact one rfl h
/-! ## facts of the tables, by evaluation -/
theorem fInj : ∀ i, i < nF → ∀ j, j < nF → fNm i = fNm j → i = j := by decide +kernel
theorem fPrs : ∀ i, i < nF → parseFieldDescriptor (fDs i) = some (fTy i) := by decide +kernel
theorem cDefs : ∀ i, i < nF → vget cDef i = some (defaultValue (fTy i)) := by decide +kernel
theorem cDefL : cDef.length = nF := by decide +kernel
theorem fDef : ∀ i, i < nF → ∀ a, defaultValue (fTy i) ≠ .ref a := by
  intro i _ a
  cases fTy i <;> simp [defaultValue]
theorem kPlain : ∀ k, k < 2 → plainName (kName k) = true := by
  intro k hk
  rcases k with _ | _ | k
  · first | decide +kernel | (simp [kName, plainName, overriddenIn]; done)
  · first | decide +kernel | (simp [kName, plainName, overriddenIn]; done)
  · omega
theorem pKlt : ∀ m, m < pN → pK m < 2 := by decide +kernel
theorem pSig : ∀ m, m < pN → (parseMethodDescriptor (pDs m)).map (fun sg => sg.parameters.length) = some (pNA m) := by decide +kernel
theorem pOwn : ∀ k, k < 2 → kName k ≠ "java/lang/invoke/MethodHandle" ∧ kName k ≠ "java/lang/invoke/VarHandle" := by decide +kernel
theorem mAlt : ∀ m ∈ mA, m < pN := by decide +kernel
theorem mVlt : ∀ m ∈ mV, m ∈ mA ∧ pK m = 1 := by decide +kernel
theorem mPlt : ∀ m ∈ mP, m ∈ mA ∧ pK m = 1 := by decide +kernel
theorem mSlt : ∀ m ∈ mS, m ∈ mA := by decide +kernel
theorem mIlt : ∀ m ∈ mI, m ∈ mA ∧ pK m = 1 ∧ pNm m = "<init>" ∧ pRet m = none := by decide +kernel
theorem kOne : kName 1 = cName := rfl
set_option maxRecDepth 100000 in
theorem pChk0 : ∀ m, m < pN → ∀ pc, pc < pTop → (match pCode m pc with | some t => qchk m pc t.1 t.2 | none => true) = true := by decide +kernel
theorem pIn {m pc : Nat} {t : Instr × Nat} (h : pCode m pc = some t) : m < pN ∧ pc < pTop := by
  unfold pCode at h
  cases h1 : Nat.ble pN m with
  | true => rw [h1] at h; cases h
  | false =>
    cases h2 : Nat.ble pTop pc with
    | true => rw [h1, h2] at h; cases h
    | false => exact ⟨Nat.lt_of_not_le (fun q => by rw [Nat.ble_eq_true_of_le q] at h1; cases h1), Nat.lt_of_not_le (fun q => by rw [Nat.ble_eq_true_of_le q] at h2; cases h2)⟩
theorem pChk {m pc : Nat} {i : Instr} {aux : Nat} (h : pCode m pc = some (i, aux)) : qchk m pc i aux = true := by
  have q := pChk0 m (pIn h).1 pc (pIn h).2
  rw [h] at q
  exact q
theorem pDec {m pc : Nat} {i : Instr} {aux : Nat} (h : pCode m pc = some (i, aux)) : decode (pBytes m) pc = .ok (i, ilen i) := by
  have q := pChk h
  unfold qchk at q
  exact of_decide_eq_true (Bool.and_eq_true_iff.mp q).1
theorem pDecN {m pc n : Nat} {i : Instr} {aux : Nat} (h : pCode m pc = some (i, aux)) (hn : ilen i = n) : decode (pBytes m) pc = .ok (i, n) := by
  rw [← hn]; exact pDec h
theorem pRest {m pc : Nat} {i : Instr} {aux : Nat} (h : pCode m pc = some (i, aux)) : qlk m pc i aux = true := by
  have q := pChk h
  unfold qchk at q
  exact (Bool.and_eq_true_iff.mp q).2
theorem qtgt_spec {pc : Nat} {o : Int} {aux : Nat} (h : qtgt pc o aux = true) : 0 ≤ (pc : Int) + o ∧ ((pc : Int) + o).toNat = aux := by
  unfold qtgt at h
  have h2 := Bool.and_eq_true_iff.mp h
  exact ⟨of_decide_eq_true h2.1, of_decide_eq_true h2.2⟩
/-! ## triples -/
def QCx (Z : State) (p : Program) (R : Room) (s : State) (mid : MethodId) (meth : Method) (c : Code) (m : Nat) : Prop :=
  p.tables.exec = Jvm.exec ∧ Z.Warmed39 s.vm ∧ c.code = pBytes m ∧ c.maxLocals = pMaxL m ∧ meth.sig.returnType = pRet m ∧ s.vm.findClass (kName (pK m)) = some mid.cls ∧ meth.name = pNm m ∧ pFr m ≤ R.frames ∧ pLo m ≤ R.locals
def QTri (l : Launch) (Z : State) (n0 : Nat) (ad : Nat → Addr) (m : Nat) (st : QSt) (v : Option Value) (σ' : QHeap) : Prop :=
  st.2.2.2.length ≤ σ'.length ∧ qhs st.2.2.2 ≤ qhs σ' ∧
  ∀ (p : Program) (e : Env) (R : Room) (s : State) (mid : MethodId) (args : Array Value) (below : List Frame) (meth : Method) (c : Code) (T : State) (locs : List Loc) (cells slots : Nat) (C : Array Slot),
    QCx Z p R s mid meth c m → Stand p l e R s mid args below meth c T locs cells slots → QRep Z n0 ad T.heap st.2.2.2 → Fr n0 locs → QLocOk ad st.2.1 C → C.size = c.maxLocals →
    n0 + (st.2.2.2.length - k0) = s.heap.size + cells → cells + (σ'.length - st.2.2.2.length) ≤ R.cells → slots + (qhs σ' - qhs st.2.2.2) ≤ R.slots →
    ∃ T' locs', Stand p l e R s mid args below meth c T' locs' (cells + (σ'.length - st.2.2.2.length)) (slots + (qhs σ' - qhs st.2.2.2)) ∧ QRep Z n0 ad T'.heap σ' ∧ Fr n0 locs' ∧
      ∀ fs, (∀ (f : JFrame) (acts : List Action), f.method = mid → f.locked = none → f.entered = [] → (doReturn e (T'.setTop f) acts (v.map (qv ad))).1 = T'.setFrames fs) →
        Steps p.tables e below (T.setTop (mkF mid st.1 C (st.2.2.1.map (qv ad)))) (T'.setFrames fs)
section Triples
variable {l : Launch} {Z : State} {n0 : Nat} {ad : Nat → Addr} {a0 : Array Value} {m : Nat} {v : Option Value} {σ' : QHeap}
theorem QTri.gen {st st' : QSt} (h : QTri l Z n0 ad m st' v σ') (g1 : st.2.2.2.length ≤ st'.2.2.2.length) (g2 : qhs st.2.2.2 ≤ qhs st'.2.2.2)
    (hs : ∀ (p : Program) (e : Env) (R : Room) (s : State) (mid : MethodId) (args : Array Value) (below : List Frame) (meth : Method) (c : Code) (T : State) (locs : List Loc) (cells slots : Nat) (C : Array Slot),
      QCx Z p R s mid meth c m → Stand p l e R s mid args below meth c T locs cells slots → QRep Z n0 ad T.heap st.2.2.2 → Fr n0 locs → QLocOk ad st.2.1 C → C.size = c.maxLocals →
      n0 + (st.2.2.2.length - k0) = s.heap.size + cells → cells + (st'.2.2.2.length - st.2.2.2.length) ≤ R.cells → slots + (qhs st'.2.2.2 - qhs st.2.2.2) ≤ R.slots →
      ∃ T₁ locs₁ C₁, Stand p l e R s mid args below meth c T₁ locs₁ (cells + (st'.2.2.2.length - st.2.2.2.length)) (slots + (qhs st'.2.2.2 - qhs st.2.2.2)) ∧ QRep Z n0 ad T₁.heap st'.2.2.2 ∧ Fr n0 locs₁ ∧ QLocOk ad st'.2.1 C₁ ∧ C₁.size = c.maxLocals ∧
        ∀ target, Steps p.tables e below (T₁.setTop (mkF mid st'.1 C₁ (st'.2.2.1.map (qv ad)))) target → Steps p.tables e below (T.setTop (mkF mid st.1 C (st.2.2.1.map (qv ad)))) target) :
    QTri l Z n0 ad m st v σ' := by
  obtain ⟨h1, h2, h3⟩ := h
  refine ⟨Nat.le_trans g1 h1, Nat.le_trans g2 h2, fun p e R s mid args below meth c T locs cells slots C hcx X hR hF hL hC hn hc hsl => ?_⟩
  obtain ⟨T₁, locs₁, C₁, X₁, R₁, F₁, L₁, C1, S₁⟩ := hs p e R s mid args below meth c T locs cells slots C hcx X hR hF hL hC hn (by omega) (by omega)
  have hk := hR.1
  obtain ⟨T', locs', X', R', F', S'⟩ := h3 p e R s mid args below meth c T₁ locs₁ _ _ C₁ hcx X₁ R₁ F₁ L₁ C1 (by omega) (by omega) (by omega)
  have e1 : cells + (st'.2.2.2.length - st.2.2.2.length) + (σ'.length - st'.2.2.2.length) = cells + (σ'.length - st.2.2.2.length) := by omega
  have e2 : slots + (qhs st'.2.2.2 - qhs st.2.2.2) + (qhs σ' - qhs st'.2.2.2) = slots + (qhs σ' - qhs st.2.2.2) := by omega
  rw [e1, e2] at X'
  exact ⟨T', locs', X', R', F', fun fs hf => S₁ _ (S' fs hf)⟩
theorem QTri.pure {st st' : QSt} (h : QTri l Z n0 ad m st' v σ') (hσ : st'.2.2.2 = st.2.2.2)
    (hs : ∀ (p : Program) (e : Env) (R : Room) (s : State) (mid : MethodId) (args : Array Value) (below : List Frame) (meth : Method) (c : Code) (T : State) (locs : List Loc) (cells slots : Nat) (C : Array Slot),
      QCx Z p R s mid meth c m → Stand p l e R s mid args below meth c T locs cells slots → QRep Z n0 ad T.heap st.2.2.2 → QLocOk ad st.2.1 C → C.size = c.maxLocals →
      ∃ T₁ C₁, Stand p l e R s mid args below meth c T₁ locs cells slots ∧ T₁.heap = T.heap ∧ QLocOk ad st'.2.1 C₁ ∧ C₁.size = c.maxLocals ∧
        ∀ target, Steps p.tables e below (T₁.setTop (mkF mid st'.1 C₁ (st'.2.2.1.map (qv ad)))) target → Steps p.tables e below (T.setTop (mkF mid st.1 C (st.2.2.1.map (qv ad)))) target) :
    QTri l Z n0 ad m st v σ' := by
  refine QTri.gen h (by rw [hσ]; exact Nat.le_refl _) (by rw [hσ]; exact Nat.le_refl _) fun p e R s mid args below meth c T locs cells slots C hcx X hR hF hL hC hn hc hsl => ?_
  obtain ⟨T₁, C₁, X₁, hh, L₁, C1, S₁⟩ := hs p e R s mid args below meth c T locs cells slots C hcx X hR hL hC
  refine ⟨T₁, locs, C₁, ?_, by rw [hσ, hh]; exact hR, hF, L₁, C1, S₁⟩
  rw [hσ, Nat.sub_self, Nat.sub_self]
  exact X₁
/-- a step of the frame alone -/
theorem QTri.frame {pc pc' : Nat} {L L' : QLoc} {S S' : List Value} {σ : QHeap} (h : QTri l Z n0 ad m (pc', L', S', σ) v σ')
    (hs : ∀ (p : Program) (e : Env) (R : Room) (s : State) (mid : MethodId) (args : Array Value) (below : List Frame) (meth : Method) (c : Code) (T : State) (locs : List Loc) (cells slots : Nat) (C : Array Slot),
      QCx Z p R s mid meth c m → Stand p l e R s mid args below meth c T locs cells slots → QRep Z n0 ad T.heap σ → QLocOk ad L C → C.size = c.maxLocals →
      ∃ C₁, QLocOk ad L' C₁ ∧ C₁.size = c.maxLocals ∧ ∀ target, Steps p.tables e below (T.setTop (mkF mid pc' C₁ (S'.map (qv ad)))) target → Steps p.tables e below (T.setTop (mkF mid pc C (S.map (qv ad)))) target) :
    QTri l Z n0 ad m (pc, L, S, σ) v σ' :=
  QTri.pure h rfl fun p e R s mid args below meth c T locs cells slots C hcx X hR hL hC => by
    obtain ⟨C₁, h1, h2, h3⟩ := hs p e R s mid args below meth c T locs cells slots C hcx X hR hL hC
    exact ⟨T, C₁, X, rfl, h1, h2, h3⟩
/-- a step of pc and stack alone -/
theorem QTri.stack {pc pc' : Nat} {L : QLoc} {S S' : List Value} {σ : QHeap} (h : QTri l Z n0 ad m (pc', L, S', σ) v σ')
    (hs : ∀ (p : Program) (e : Env) (R : Room) (s : State) (mid : MethodId) (args : Array Value) (below : List Frame) (meth : Method) (c : Code) (T : State) (locs : List Loc) (cells slots : Nat) (C : Array Slot) (target : State),
      p.tables.exec = Jvm.exec → Z.Warmed39 s.vm → c.code = pBytes m → s.vm.findClass (kName (pK m)) = some mid.cls → Stand p l e R s mid args below meth c T locs cells slots → QRep Z n0 ad T.heap σ → QLocOk ad L C →
      Steps p.tables e below (T.setTop (mkF mid pc' C (S'.map (qv ad)))) target → Steps p.tables e below (T.setTop (mkF mid pc C (S.map (qv ad)))) target) :
    QTri l Z n0 ad m (pc, L, S, σ) v σ' :=
  QTri.frame h fun p e R s mid args below meth c T locs cells slots C hcx X hR hL hC => ⟨C, hL, hC, fun target k => hs p e R s mid args below meth c T locs cells slots C target hcx.1 hcx.2.1 hcx.2.2.1 hcx.2.2.2.2.2.1 X hR hL k⟩
/-! ### what each helper says -/
theorem qload_inv {pc : Nat} {L : QLoc} {S : List Value} {σ : QHeap} {k : Nat} {ok : Value → Bool} {st' : QSt} (h : qload pc L S σ k ok = some st') : ∃ v, lget L k = some v ∧ ok v = true ∧ st' = (pc, L, v :: S, σ) := by
  unfold qload at h
  split at h
  · rename_i v hv
    cases ho : ok v with
    | true => rw [ho] at h; cases h; exact ⟨v, hv, ho, rfl⟩
    | false => rw [ho] at h; cases h
  · cases h
theorem qstore_inv {pc : Nat} {L : QLoc} {S : List Value} {σ : QHeap} {k : Nat} {ok : Value → Bool} {st' : QSt} (h : qstore pc L S σ k ok = some st') : ∃ v S' L', S = v :: S' ∧ ok v = true ∧ lput L k v = some L' ∧ st' = (pc, L', S', σ) := by
  unfold qstore at h
  split at h
  · rename_i v S'
    cases ho : ok v with
    | true =>
      rw [ho] at h
      simp only [cond_true] at h
      split at h
      · rename_i L' hL'
        cases h; exact ⟨v, S', L', rfl, ho, hL', rfl⟩
      · cases h
    | false => rw [ho] at h; cases h
  · cases h
theorem qbin_inv {pc : Nat} {L : QLoc} {S : List Value} {σ : QHeap} {f : Int32 → Int32 → Int32} {st' : QSt} (h : qbin pc L S σ f = some st') : ∃ x y S', S = .int y :: .int x :: S' ∧ st' = (pc, L, .int (f x y) :: S', σ) := by
  unfold qbin at h
  split at h
  · cases h; exact ⟨_, _, _, rfl, rfl⟩
  · cases h
theorem qbino_inv {pc : Nat} {L : QLoc} {S : List Value} {σ : QHeap} {f : Int32 → Int32 → Option Int32} {st' : QSt} (h : qbino pc L S σ f = some st') : ∃ x y z S', S = .int y :: .int x :: S' ∧ f x y = some z ∧ st' = (pc, L, .int z :: S', σ) := by
  unfold qbino at h
  split at h
  · obtain ⟨z, hz, h⟩ := Option.bind_eq_some_iff.mp h
    cases h; exact ⟨_, _, _, _, rfl, hz, rfl⟩
  · cases h
theorem qbinJ_inv {pc : Nat} {L : QLoc} {S : List Value} {σ : QHeap} {f : Int64 → Int64 → Int64} {st' : QSt} (h : qbinJ pc L S σ f = some st') : ∃ x y S', S = .long y :: .long x :: S' ∧ st' = (pc, L, .long (f x y) :: S', σ) := by
  unfold qbinJ at h
  split at h
  · cases h; exact ⟨_, _, _, rfl, rfl⟩
  · cases h
theorem qshJ_inv {pc : Nat} {L : QLoc} {S : List Value} {σ : QHeap} {f : Int64 → Int32 → Int64} {st' : QSt} (h : qshJ pc L S σ f = some st') : ∃ x y S', S = .int y :: .long x :: S' ∧ st' = (pc, L, .long (f x y) :: S', σ) := by
  unfold qshJ at h
  split at h
  · cases h; exact ⟨_, _, _, rfl, rfl⟩
  · cases h
theorem quni_inv {pc : Nat} {L : QLoc} {S : List Value} {σ : QHeap} {f : Int32 → Value} {st' : QSt} (h : quni pc L S σ f = some st') : ∃ x S', S = .int x :: S' ∧ st' = (pc, L, f x :: S', σ) := by
  unfold quni at h
  split at h
  · cases h; exact ⟨_, _, rfl, rfl⟩
  · cases h
theorem quniJ_inv {pc : Nat} {L : QLoc} {S : List Value} {σ : QHeap} {f : Int64 → Value} {st' : QSt} (h : quniJ pc L S σ f = some st') : ∃ x S', S = .long x :: S' ∧ st' = (pc, L, f x :: S', σ) := by
  unfold quniJ at h
  split at h
  · cases h; exact ⟨_, _, rfl, rfl⟩
  · cases h
theorem qif_inv {pc : Nat} {L : QLoc} {S : List Value} {σ : QHeap} {cd : ClassFile.Cond} {t : Nat} {st' : QSt} (h : qif pc L S σ cd t = some st') : ∃ x S', S = .int x :: S' ∧ st' = (bif ifCond.holds cd x then t else pc, L, S', σ) := by
  unfold qif at h
  split at h
  · cases h; exact ⟨_, _, rfl, rfl⟩
  · cases h
theorem qicmp_inv {pc : Nat} {L : QLoc} {S : List Value} {σ : QHeap} {cd : ClassFile.Cond} {t : Nat} {st' : QSt} (h : qicmp pc L S σ cd t = some st') : ∃ x y S', S = .int y :: .int x :: S' ∧ st' = (bif if_icmp.holds cd x y then t else pc, L, S', σ) := by
  unfold qicmp at h
  split at h
  · cases h; exact ⟨_, _, _, rfl, rfl⟩
  · cases h
theorem qget_inv {pc : Nat} {L : QLoc} {S : List Value} {σ : QHeap} {k : Nat} {st' : QSt} (h : qget pc L S σ k = some st') : ∃ a S' vs v, S = .ref a :: S' ∧ hget σ a = some (.inl vs) ∧ vget vs k = some v ∧ st' = (pc, L, v :: S', σ) := by
  unfold qget at h
  split at h
  · split at h
    · split at h
      · cases h; exact ⟨_, _, _, _, rfl, by assumption, by assumption, rfl⟩
      · cases h
    · cases h
  · cases h
theorem qput_inv {pc : Nat} {L : QLoc} {S : List Value} {σ : QHeap} {k : Nat} {st' : QSt} (h : qput pc L S σ k = some st') : ∃ v a S' vs w, S = v :: .ref a :: S' ∧ hget σ a = some (.inl vs) ∧ k0 ≤ a ∧ k < vs.length ∧ qfit (fTy k) v = some w ∧ st' = (pc, L, S', σ.set a (.inl (vs.set k w))) := by
  unfold qput at h
  split at h
  · rename_i v a S'
    split at h
    · rename_i vs hvs
      cases hbb : (Nat.ble k0 a && Nat.ble (k + 1) vs.length) with
      | false => rw [hbb] at h; cases h
      | true =>
        rw [hbb] at h
        simp only [cond_true] at h
        obtain ⟨u, hu, h⟩ := Option.bind_eq_some_iff.mp h
        cases h
        obtain ⟨b1, b2⟩ := Bool.and_eq_true_iff.mp hbb
        exact ⟨v, a, S', vs, u, rfl, hvs, Nat.le_of_ble_eq_true b1, Nat.le_of_ble_eq_true b2, hu, rfl⟩
    · cases h
  · cases h
theorem qald_inv {pc : Nat} {L : QLoc} {S : List Value} {σ : QHeap} {ok : FieldType → Bool} {st' : QSt} (h : qald pc L S σ ok = some st') : ∃ j a S' ty xs v, S = .int j :: .ref a :: S' ∧ hget σ a = some (.inr (.inl (ty, xs))) ∧ ok ty = true ∧ aget xs j = some v ∧ st' = (pc, L, .int v :: S', σ) := by
  unfold qald at h
  split at h
  · rename_i j a S'
    split at h
    · rename_i x hx
      cases ht : ok x.1 with
      | false => rw [ht] at h; cases h
      | true =>
        rw [ht] at h
        simp only [cond_true] at h
        obtain ⟨u, hu, h⟩ := Option.bind_eq_some_iff.mp h
        cases h
        exact ⟨j, a, S', x.1, x.2, u, rfl, hx, ht, hu, rfl⟩
    · cases h
  · cases h
theorem qaldJ_inv {pc : Nat} {L : QLoc} {S : List Value} {σ : QHeap} {st' : QSt} (h : qaldJ pc L S σ = some st') : ∃ j a S' xs v, S = .int j :: .ref a :: S' ∧ hget σ a = some (.inr (.inr xs)) ∧ aget xs j = some v ∧ st' = (pc, L, .long v :: S', σ) := by
  unfold qaldJ at h
  split at h
  · rename_i j a S'
    split at h
    · rename_i x hx
      obtain ⟨u, hu, h⟩ := Option.bind_eq_some_iff.mp h
      cases h
      exact ⟨j, a, S', x, u, rfl, hx, hu, rfl⟩
    · cases h
  · cases h
theorem qast_inv {pc : Nat} {L : QLoc} {S : List Value} {σ : QHeap} {ok : FieldType → Bool} {st' : QSt} (h : qast pc L S σ ok = some st') : ∃ v j a S' ty xs ys, S = .int v :: .int j :: .ref a :: S' ∧ hget σ a = some (.inr (.inl (ty, xs))) ∧ ok ty = true ∧ k0 ≤ a ∧ aset xs j (qnar ty v) = some ys ∧ st' = (pc, L, S', σ.set a (.inr (.inl (ty, ys)))) := by
  unfold qast at h
  split at h
  · rename_i v j a S'
    split at h
    · rename_i x hx
      cases ht : (ok x.1 && Nat.ble k0 a) with
      | false => rw [ht] at h; cases h
      | true =>
        rw [ht] at h
        simp only [cond_true] at h
        obtain ⟨u, hu, h⟩ := Option.bind_eq_some_iff.mp h
        cases h
        obtain ⟨b1, b2⟩ := Bool.and_eq_true_iff.mp ht
        exact ⟨v, j, a, S', x.1, x.2, u, rfl, hx, b1, Nat.le_of_ble_eq_true b2, hu, rfl⟩
    · cases h
  · cases h
theorem qastJ_inv {pc : Nat} {L : QLoc} {S : List Value} {σ : QHeap} {st' : QSt} (h : qastJ pc L S σ = some st') : ∃ v j a S' xs ys, S = .long v :: .int j :: .ref a :: S' ∧ hget σ a = some (.inr (.inr xs)) ∧ k0 ≤ a ∧ aset xs j v = some ys ∧ st' = (pc, L, S', σ.set a (.inr (.inr ys))) := by
  unfold qastJ at h
  split at h
  · rename_i v j a S'
    split at h
    · rename_i x hx
      cases ht : (Nat.ble k0 a) with
      | false => rw [ht] at h; cases h
      | true =>
        rw [ht] at h
        simp only [cond_true] at h
        obtain ⟨u, hu, h⟩ := Option.bind_eq_some_iff.mp h
        cases h
        exact ⟨v, j, a, S', x, u, rfl, hx, Nat.le_of_ble_eq_true ht, hu, rfl⟩
    · cases h
  · cases h
theorem qlen_inv {pc : Nat} {L : QLoc} {S : List Value} {σ : QHeap} {st' : QSt} (h : qlen pc L S σ = some st') : ∃ a S' n, S = .ref a :: S' ∧ ((∃ ty xs, hget σ a = some (.inr (.inl (ty, xs))) ∧ n = xs.length) ∨ ∃ xs, hget σ a = some (.inr (.inr xs)) ∧ n = xs.length) ∧ st' = (pc, L, .int n.toInt32 :: S', σ) := by
  unfold qlen at h
  split at h
  · rename_i a S'
    split at h
    · rename_i x hx
      cases h; exact ⟨a, S', _, rfl, Or.inl ⟨x.1, x.2, hx, rfl⟩, rfl⟩
    · rename_i x hx
      cases h; exact ⟨a, S', _, rfl, Or.inr ⟨x, hx, rfl⟩, rfl⟩
    · cases h
  · cases h
theorem isI_inv {v : Value} (h : isI v = true) : ∃ x, v = .int x := by cases v <;> simp [isI] at h; exact ⟨_, rfl⟩
theorem isJ_inv {v : Value} (h : isJ v = true) : ∃ x, v = .long x := by cases v <;> simp [isJ] at h; exact ⟨_, rfl⟩
theorem isR_inv {v : Value} (h : isR v = true) : ∃ x, v = .ref x := by cases v <;> simp [isR] at h; exact ⟨_, rfl⟩
theorem aget_inv {α : Type} {xs : List α} {j : Int32} {x : α} (h : aget xs j = some x) : ¬ j < 0 ∧ xs[j.toNatClampNeg]? = some x := by
  unfold aget at h
  split at h
  · cases h
  · rename_i q; exact ⟨q, h⟩
theorem aset_inv {α : Type} {xs ys : List α} {j : Int32} {x : α} (h : aset xs j x = some ys) : ¬ j < 0 ∧ j.toNatClampNeg < xs.length ∧ ys = xs.set j.toNatClampNeg x := by
  unfold aset at h
  split at h
  · cases h
  · rename_i q
    split at h
    · rename_i q2; cases h; exact ⟨q, q2, rfl⟩
    · cases h
theorem qnew_inv {n : Int32} {k : Nat} (h : qnew n = some k) : ¬ n < 0 ∧ n.toNatClampNeg = k ∧ k ≤ 67108864 := by
  unfold qnew at h
  split at h
  · cases h
  · rename_i q
    split at h
    · rename_i q2; cases h; exact ⟨q, rfl, q2⟩
    · cases h
/-! ### the heap's facts over a step -/
theorem QCellOk.other {h h' : Heap} {a b : Addr} {sl : Nat} {w : Value} {c : QCell} (H : QCellOk Z ad h b c) (W : Wr h h' a sl w) (ne : b ≠ a) : QCellOk Z ad h' b c := by
  rcases c with vs | ⟨ty, xs⟩ | xs
  · obtain ⟨h1, h2, h3⟩ := H
    exact ⟨h1.wr W, h2, fun k u hk hu => (h3 k u hk hu).other W (Or.inl ne)⟩
  · obtain ⟨c, h1, h2⟩ := H
    exact ⟨c, h1.other W ne, h2⟩
  · obtain ⟨c, h1, h2⟩ := H
    exact ⟨c, h1.other W ne, h2⟩
theorem QCellOk.ext {h h' : Heap} {b : Addr} {c : QCell} (H : QCellOk Z ad h b c) (E : Ext h h') : QCellOk Z ad h' b c := by
  rcases c with vs | ⟨ty, xs⟩ | xs
  · obtain ⟨h1, h2, h3⟩ := H
    exact ⟨h1.ext E, h2, fun k u hk hu => (h3 k u hk hu).ext E⟩
  · obtain ⟨c, h1, h2⟩ := H
    exact ⟨c, h1.ext E, h2⟩
  · obtain ⟨c, h1, h2⟩ := H
    exact ⟨c, h1.ext E, h2⟩
theorem QRep.set {h h' : Heap} {σ : QHeap} {a : Nat} {sl : Nat} {w : Value} {c d : QCell} (H : QRep Z n0 ad h σ) (Ad : QAd n0 ad) (W : Wr h h' (ad a) sl w) (hc : hget σ a = some c) (hd : QCellOk Z ad h' (ad a) d) : QRep Z n0 ad h' (σ.set a d) := by
  obtain ⟨h1, h2, h3⟩ := H
  refine ⟨by simpa using h1, by rw [W.size, h2]; simp, fun k e he => ?_⟩
  rw [hget_set hc] at he
  split at he
  · rename_i q; cases he; rw [q]; exact hd
  · rename_i q; exact (h3 k e he).other W fun z => q (Ad.2 _ _ z)
theorem QRep.push {h h' : Heap} {σ : QHeap} {c : QCell} (H : QRep Z n0 ad h σ) (Ad : QAd n0 ad) (E : Ext h h') (hs : h'.size = h.size + 1) (hc : QCellOk Z ad h' h.size c) : QRep Z n0 ad h' (σ ++ [c]) := by
  obtain ⟨h1, h2, h3⟩ := H
  refine ⟨by simp; omega, by rw [hs, h2]; simp; omega, fun k e he => ?_⟩
  rw [hget_eq] at he
  rcases Nat.lt_or_ge k σ.length with q | q
  · rw [List.getElem?_append_left q, ← hget_eq] at he
    exact (h3 k e he).ext E
  · rw [List.getElem?_append_right q] at he
    obtain rfl : k = σ.length := by
      rcases Nat.lt_or_ge (k - σ.length) 1 with z | z
      · omega
      · rw [List.getElem?_eq_none (by simpa using z)] at he; cases he
    simp at he
    rw [← he, Ad.1 _ h1, ← h2]
    exact hc
theorem mem_of_contains {α : Type} [BEq α] [LawfulBEq α] {L : List α} {a : α} (h : L.contains a = true) : a ∈ L := by simpa using h
theorem lkF_lt : ∀ t ∈ lkF, t.2.2 < nF := by decide +kernel
theorem laid_of (W : QW Z a0) {k : Nat} (hk : k < nF) : Laid Z a0 cName cName (fNm k) (fDs k) := by
  have q := (qw_lay W) k hk
  cases hf : fFin k with
  | true => rw [hf] at q; exact Or.inr q
  | false => rw [hf] at q; exact Or.inl q
theorem qfit_inv {ty : FieldType} {v w : Value} (h : qfit ty v = some w) : v = w ∧ narrow ty (qv ad w) = qv ad w ∧ fits ty (qv ad w) = true := by
  unfold qfit at h
  split at h
  · cases h; exact ⟨rfl, rfl, rfl⟩
  · rename_i x
    obtain ⟨y, hy, h⟩ := Option.bind_eq_some_iff.mp h
    cases h
    unfold qboo at hy
    split at hy
    · rename_i e; cases hy; subst e; exact ⟨rfl, rfl, rfl⟩
    · split at hy
      · rename_i e; cases hy; subst e; exact ⟨rfl, rfl, rfl⟩
      · cases hy
  · cases h; exact ⟨rfl, rfl, rfl⟩
  · cases h; exact ⟨rfl, rfl, rfl⟩
  · cases h
theorem vget_set {vs : List Value} {k j : Nat} {w : Value} (hk : k < vs.length) : vget (vs.set k w) j = if j = k then some w else vget vs j := by
  simp only [vget_eq, List.getElem?_set]
  by_cases e : k = j
  · subst e; simp [hk]
  · simp [e, Ne.symm e]
theorem ald_in {α : Type} {f : α → Value} {xs : List α} {c : Cell} {j : Int32} {x : α} (hc : c.slots = (xs.map f).toArray) (h : aget xs j = some x) : ¬ (j < 0 ∨ c.slots.size ≤ j.toNatClampNeg) ∧ c.slots[j.toNatClampNeg]? = some (f x) := by
  obtain ⟨h1, h2⟩ := aget_inv h
  have h3 := (List.getElem?_eq_some_iff.mp h2).1
  refine ⟨fun q => ?_, by rw [hc]; simp [h2]⟩
  rcases q with q | q
  · exact h1 q
  · rw [hc] at q; simp at q; omega
theorem ast_in {α : Type} {f : α → Value} {xs ys : List α} {c : Cell} {j : Int32} {x : α} (hc : c.slots = (xs.map f).toArray) (h : aset xs j x = some ys) : ¬ (j < 0 ∨ c.slots.size ≤ j.toNatClampNeg) ∧ (c.setSlot j.toNatClampNeg (f x)).slots = (ys.map f).toArray := by
  obtain ⟨h1, h2, rfl⟩ := aset_inv h
  refine ⟨fun q => ?_, by simp [Cell.setSlot, hc, List.map_set]⟩
  rcases q with q | q
  · exact h1 q
  · rw [hc] at q; simp at q; omega
theorem qgrow {σ : QHeap} {c : QCell} : qhs (σ ++ [c]) - qhs σ = qsz c := by rw [qhs_app]; simp [qhs]
set_option maxHeartbeats 4000000 in
theorem QTri.newArr (Ad : QAd n0 ad) (W : QW Z a0) {pc aux : Nat} {L : QLoc} {S : List Value} {σ : QHeap} {aty : ArrayType} {n : Int32} {k : Nat} {c : QCell} (hk : qnew n = some k) (hc : pCode m pc = some (.newarray aty, aux)) (hz : qsz c = k)
    (hq : ∀ (h' : Heap) (a : Addr) (cA : ClassId), Arr Z h' a (newA cA (newarray.typeOf aty) n) (newarray.typeOf aty) → QCellOk Z ad h' a c)
    (h : QTri l Z n0 ad m (pc + 2, L, .ref σ.length :: S, σ ++ [c]) v σ') : QTri l Z n0 ad m (pc, L, .int n :: S, σ) v σ' := by
  have hd : decode (pBytes m) pc = .ok (.newarray aty, 2) := pDecN hc rfl
  obtain ⟨n1, n2, n3⟩ := qnew_inv hk
  refine QTri.gen h (by simp) (by simp [qhs_app]) fun p e R s mid args below meth c' T locs cells slots C hcx X hR hF hL hC hn hc1 hsl => ?_
  obtain ⟨hx, hZ, hby, hml, hret, hown, hnm, hfr, hlo⟩ := hcx
  have hd2 : decode c'.code pc = .ok (.newarray aty, 2) := by rw [hby]; exact hd
  simp only [List.length_append, List.length_singleton, Nat.add_sub_cancel_left, qgrow, hz] at hc1 hsl ⊢
  obtain ⟨T₁, h₁, cA, X₁, e₁, E₁, A₁, st⟩ := newP X hx hZ (aty := aty) (qw_arr W (newarray.typeOf aty) (mem_of_contains (show aTys.contains (newarray.typeOf aty) = true from pRest hc))) rfl (g := mkF mid pc C (.int n :: S.map (qv ad))) rfl hd2 rfl n1 (cap := k) (by omega) (by omega) hc1 hsl
  have hsz : h₁.size = T.heap.size + 1 := by
    have q1 := X₁.heapSize
    have q2 : T.heap.size < h₁.size := A₁.lt
    have q3 := hR.2.1
    rw [e₁] at q1
    have : n0 + (σ.length - k0) = s.heap.size + cells := hn
    have q3' : T.heap.size = n0 + (σ.length - k0) := q3
    omega
  refine ⟨T₁, locs, C, X₁, ?_, hF, hL, hC, fun target q => ?_⟩
  · rw [e₁]; exact QRep.push hR Ad E₁ hsz (hq _ _ _ A₁)
  · refine st _ ?_
    have e2 : ad σ.length = T.heap.size := by rw [Ad.1 _ hR.1]; exact hR.2.1.symm
    simp only [List.map_cons, qv, e2] at q
    exact q
set_option maxHeartbeats 4000000 in
theorem QTri.getfield (W : QW Z a0) {pc idx aux : Nat} {L : QLoc} {S : List Value} {σ : QHeap} {st' : QSt} (h : QTri l Z n0 ad m st' v σ') (hc : pCode m pc = some (.getfield idx, aux)) (hs : qget (pc + 3) L S σ aux = some st') : QTri l Z n0 ad m (pc, L, S, σ) v σ' := by
  have hd : decode (pBytes m) pc = .ok (.getfield idx, 3) := pDecN hc rfl
  obtain ⟨a, S', vs, w, rfl, hvs, hw, rfl⟩ := qget_inv hs
  have hm := mem_of_contains (show lkF.contains (pK m, idx, aux) = true from pRest hc)
  have hlt := lkF_lt _ hm
  refine QTri.pure h rfl fun p e R s mid args below meth c T locs cells slots C hcx X hR hL hC => ?_
  obtain ⟨hx, hZ, hby, hml, hret, hown, hnm, hfr, hlo⟩ := hcx
  have hd2 : decode c.code pc = .ok (.getfield idx, 3) := by rw [hby]; exact hd
  have F := (hR.2.2 _ _ hvs).2.2 aux w hlt hw
  obtain ⟨T₁, X₁, e₁, st⟩ := getF X hx hZ hown (host := "") (index := idx) (Or.inl (qw_fl W (pK m, idx, aux) hm)) Via.refl rfl F (g := mkF mid pc C (List.map (qv ad) (.ref a :: S'))) rfl rfl hd2
  exact ⟨T₁, C, X₁, e₁, hL, hC, st⟩
set_option maxHeartbeats 4000000 in
theorem QTri.putfield (Ad : QAd n0 ad) (W : QW Z a0) {pc idx aux : Nat} {L : QLoc} {S : List Value} {σ : QHeap} {st' : QSt} (h : QTri l Z n0 ad m st' v σ') (hc : pCode m pc = some (.putfield idx, aux)) (hs : qput (pc + 3) L S σ aux = some st') : QTri l Z n0 ad m (pc, L, S, σ) v σ' := by
  have hd : decode (pBytes m) pc = .ok (.putfield idx, 3) := pDecN hc rfl
  obtain ⟨w, a, S', vs, u, rfl, hvs, b1, b2, hu, rfl⟩ := qput_inv hs
  obtain ⟨r1, r2⟩ := Bool.and_eq_true_iff.mp (show (lkF.contains (pK m, idx, aux) && (!fFin aux || (pK m == 1 && pNm m == "<init>"))) = true from pRest hc)
  have hm := mem_of_contains r1
  have hlt := lkF_lt _ hm
  obtain ⟨rfl, q2, q3⟩ := qfit_inv (ad := ad) hu
  have hsz : qhs (σ.set a (Sum.inl (vs.set aux w))) = qhs σ := qhs_set hvs rfl
  refine QTri.gen h (by simp) (by show qhs σ ≤ qhs (σ.set a (Sum.inl (vs.set aux w))); rw [hsz]; exact Nat.le_refl _) fun p e R s mid args below meth c T locs cells slots C hcx X hR hF hL hC hn hc1 hsl => ?_
  obtain ⟨hx, hZ, hby, hml, hret, hown, hnm, hfr, hlo⟩ := hcx
  have hd2 : decode c.code pc = .ok (.putfield idx, 3) := by rw [hby]; exact hd
  obtain ⟨E, l1, Fs⟩ := hR.2.2 _ _ hvs
  obtain ⟨old, hold⟩ : ∃ old, vget vs aux = some old := by rw [vget_eq]; exact ⟨_, List.getElem?_eq_getElem b2⟩
  have lay : (Cond.lays cName cName (fNm aux) (fDs aux)).before a0 Z = true ∨ ((Cond.laysFinal cName cName (fNm aux) (fDs aux)).before a0 Z = true ∧ kName (pK m) = cName ∧ meth.name = "<init>") := by
    have q := (qw_lay W) aux hlt
    cases hf : fFin aux with
    | false => rw [hf] at q; exact Or.inl q
    | true =>
      rw [hf] at q r2
      simp at r2
      exact Or.inr ⟨q, by rw [r2.1]; exact kOne, by rw [hnm]; exact r2.2⟩
  obtain ⟨T₁, h₁, X₁, e₁, W₁, st⟩ := putF X hx hZ hown (host := "") (index := idx) (Or.inl (qw_fl W (pK m, idx, aux) hm)) Via.refl rfl (Fs aux old hlt hold) E lay ((qw_inst W)) (fPrs aux hlt) q2 q3 (g := mkF mid pc C (List.map (qv ad) (w :: .ref a :: S'))) rfl rfl hd2
  refine ⟨T₁, _, C, ?_, ?_, Fr.snoc X₁ hF (by rw [Ad.1 a b1]; exact Nat.le_add_right _ _), hL, hC, st⟩
  · show Stand _ _ _ _ _ _ _ _ _ _ _ _ (cells + ((σ.set a (Sum.inl (vs.set aux w))).length - σ.length)) (slots + (qhs (σ.set a (Sum.inl (vs.set aux w))) - qhs σ))
    rw [hsz, Nat.sub_self, List.length_set, Nat.sub_self]
    exact X₁
  · rw [e₁]
    refine QRep.set hR Ad W₁ hvs ⟨E.wr W₁, by simpa using l1, fun k u hk hu => ?_⟩
    rw [vget_set b2] at hu
    split at hu
    · rename_i e; cases hu; rw [e]; exact (Fs aux old hlt hold).same W₁
    · rename_i ne
      exact (Fs k u hk hu).other W₁ (Or.inr (slot_ne (laid_of W hk) (laid_of W hlt) (fun z => ne (fInj _ hk _ hlt z)) (fPrs _ hk) (fPrs _ hlt)))
theorem tyI_inv {ty : FieldType} (h : tyI ty = true) : ty = .int := by cases ty <;> simp [tyI] at h; rfl
theorem tyB_inv {ty : FieldType} (h : tyB ty = true) : ty = .boolean ∨ ty = .byte := by cases ty <;> simp [tyB] at h <;> simp
set_option maxHeartbeats 4000000 in
theorem QTri.iaload {pc aux : Nat} {L : QLoc} {S : List Value} {σ : QHeap} {st' : QSt} (h : QTri l Z n0 ad m st' v σ') (hc : pCode m pc = some (.iaload, aux)) (hs : qald (pc + 1) L S σ tyI = some st') : QTri l Z n0 ad m (pc, L, S, σ) v σ' := by
  have hd : decode (pBytes m) pc = .ok (.iaload, 1) := pDecN hc rfl
  obtain ⟨j, a, S', ty, xs, w, rfl, hx1, ht, hw, rfl⟩ := qald_inv hs
  obtain rfl := tyI_inv ht
  refine QTri.stack h fun p e R s mid args below meth c T locs cells slots C target hx hZ hby hown X hR hL k => ?_
  have hd2 : decode c.code pc = .ok (.iaload, 1) := by rw [hby]; exact hd
  obtain ⟨cl, A, hsl⟩ := hR.2.2 _ _ hx1
  obtain ⟨i1, i2⟩ := ald_in hsl hw
  exact X.iaload hx A.1 (State.isArrayOf_alike hZ.alike A.2.1) A.2.2 i1 i2 (g := mkF mid pc C (List.map (qv ad) (.int j :: .ref a :: S'))) rfl rfl hd2 _ k
set_option maxHeartbeats 4000000 in
theorem QTri.baload {pc aux : Nat} {L : QLoc} {S : List Value} {σ : QHeap} {st' : QSt} (h : QTri l Z n0 ad m st' v σ') (hc : pCode m pc = some (.baload, aux)) (hs : qald (pc + 1) L S σ tyB = some st') : QTri l Z n0 ad m (pc, L, S, σ) v σ' := by
  have hd : decode (pBytes m) pc = .ok (.baload, 1) := pDecN hc rfl
  obtain ⟨j, a, S', ty, xs, w, rfl, hx1, ht, hw, rfl⟩ := qald_inv hs
  refine QTri.stack h fun p e R s mid args below meth c T locs cells slots C target hx hZ hby hown X hR hL k => ?_
  have hd2 : decode c.code pc = .ok (.baload, 1) := by rw [hby]; exact hd
  obtain ⟨cl, A, hsl⟩ := hR.2.2 _ _ hx1
  obtain ⟨i1, i2⟩ := ald_in hsl hw
  rcases tyB_inv ht with rfl | rfl
  · exact X.baloadBooleans hx A.1 (State.isArrayOf_alike hZ.alike A.2.1) A.2.2 i1 i2 (g := mkF mid pc C (List.map (qv ad) (.int j :: .ref a :: S'))) rfl rfl hd2 _ k
  · exact X.baloadBytes hx A.1 (State.isArrayOf_alike hZ.alike A.2.1) A.2.2 i1 i2 (g := mkF mid pc C (List.map (qv ad) (.int j :: .ref a :: S'))) rfl rfl hd2 _ k
set_option maxHeartbeats 4000000 in
theorem QTri.laload {pc aux : Nat} {L : QLoc} {S : List Value} {σ : QHeap} {st' : QSt} (h : QTri l Z n0 ad m st' v σ') (hc : pCode m pc = some (.laload, aux)) (hs : qaldJ (pc + 1) L S σ = some st') : QTri l Z n0 ad m (pc, L, S, σ) v σ' := by
  have hd : decode (pBytes m) pc = .ok (.laload, 1) := pDecN hc rfl
  obtain ⟨j, a, S', xs, w, rfl, hx1, hw, rfl⟩ := qaldJ_inv hs
  refine QTri.stack h fun p e R s mid args below meth c T locs cells slots C target hx hZ hby hown X hR hL k => ?_
  have hd2 : decode c.code pc = .ok (.laload, 1) := by rw [hby]; exact hd
  obtain ⟨cl, A, hsl⟩ := hR.2.2 _ _ hx1
  obtain ⟨i1, i2⟩ := ald_in hsl hw
  exact X.laload hx A.1 (State.isArrayOf_alike hZ.alike A.2.1) A.2.2 i1 i2 (g := mkF mid pc C (List.map (qv ad) (.int j :: .ref a :: S'))) rfl rfl hd2 _ k
/-- behind a store into an array -/
theorem QTri.stored (Ad : QAd n0 ad) {pc : Nat} {L : QLoc} {S S' : List Value} {σ : QHeap} {a j : Nat} {w : Value} {c d : QCell} (hx1 : hget σ a = some c) (b1 : k0 ≤ a) (hz : qsz d = qsz c) (h : QTri l Z n0 ad m (pc + 1, L, S', σ.set a d) v σ')
    (hs : ∀ (p : Program) (e : Env) (R : Room) (s : State) (mid : MethodId) (args : Array Value) (below : List Frame) (meth : Method) (c : Code) (T : State) (locs : List Loc) (cells slots : Nat) (C : Array Slot),
      QCx Z p R s mid meth c m → Stand p l e R s mid args below meth c T locs cells slots → QRep Z n0 ad T.heap σ →
      ∃ T' h', Stand p l e R s mid args below meth c T' (locs ++ [⟨ad a, j⟩]) cells slots ∧ T'.heap = h' ∧ Wr T.heap h' (ad a) j w ∧ QCellOk Z ad h' (ad a) d ∧ ∀ target, Steps p.tables e below (T'.setTop (mkF mid (pc + 1) C (S'.map (qv ad)))) target → Steps p.tables e below (T.setTop (mkF mid pc C (S.map (qv ad)))) target) :
    QTri l Z n0 ad m (pc, L, S, σ) v σ' := by
  have hsz : qhs (σ.set a d) = qhs σ := qhs_set hx1 hz
  refine QTri.gen h (by simp) (by show qhs σ ≤ qhs (σ.set a d); rw [hsz]; exact Nat.le_refl _) fun p e R s mid args below meth c T locs cells slots C hcx X hR hF hL hC hn hc1 hsl => ?_
  obtain ⟨T₁, h₁, X₁, e₁, W₁, Q₁, st⟩ := hs p e R s mid args below meth c T locs cells slots C hcx X hR
  refine ⟨T₁, _, C, ?_, ?_, Fr.snoc X₁ hF (by rw [Ad.1 a b1]; exact Nat.le_add_right _ _), hL, hC, st⟩
  · show Stand _ _ _ _ _ _ _ _ _ _ _ _ (cells + ((σ.set a d).length - σ.length)) (slots + (qhs (σ.set a d) - qhs σ))
    rw [hsz, Nat.sub_self, List.length_set, Nat.sub_self]
    exact X₁
  · rw [e₁]
    exact QRep.set hR Ad W₁ hx1 Q₁
set_option maxHeartbeats 4000000 in
theorem QTri.iastore (Ad : QAd n0 ad) {pc aux : Nat} {L : QLoc} {S : List Value} {σ : QHeap} {st' : QSt} (h : QTri l Z n0 ad m st' v σ') (hc : pCode m pc = some (.iastore, aux)) (hs : qast (pc + 1) L S σ tyI = some st') : QTri l Z n0 ad m (pc, L, S, σ) v σ' := by
  have hd : decode (pBytes m) pc = .ok (.iastore, 1) := pDecN hc rfl
  obtain ⟨w, j, a, S', ty, xs, ys, rfl, hx1, ht, b1, hw, rfl⟩ := qast_inv hs
  obtain rfl := tyI_inv ht
  refine QTri.stored Ad (j := j.toNatClampNeg) (w := .int w) hx1 b1 (by rw [(aset_inv hw).2.2]; simp [qsz]) h fun p e R s mid args below meth c T locs cells slots C hcx X hR => ?_
  have hd2 : decode c.code pc = .ok (.iastore, 1) := by rw [hcx.2.2.1]; exact hd
  obtain ⟨cl, A, hsl⟩ := hR.2.2 _ _ hx1
  obtain ⟨i1, i2⟩ := ast_in hsl hw
  obtain ⟨T₁, h₁, X₁, e₁, W₁, st⟩ := stI X hcx.1 hcx.2.1 rfl A i1 (g := mkF mid pc C (List.map (qv ad) (.int w :: .int j :: .ref a :: S'))) rfl rfl hd2
  exact ⟨T₁, h₁, X₁, e₁, W₁, ⟨_, A.same W₁, i2⟩, st⟩
set_option maxHeartbeats 4000000 in
theorem QTri.bastore (Ad : QAd n0 ad) {pc aux : Nat} {L : QLoc} {S : List Value} {σ : QHeap} {st' : QSt} (h : QTri l Z n0 ad m st' v σ') (hc : pCode m pc = some (.bastore, aux)) (hs : qast (pc + 1) L S σ tyB = some st') : QTri l Z n0 ad m (pc, L, S, σ) v σ' := by
  have hd : decode (pBytes m) pc = .ok (.bastore, 1) := pDecN hc rfl
  obtain ⟨w, j, a, S', ty, xs, ys, rfl, hx1, ht, b1, hw, rfl⟩ := qast_inv hs
  refine QTri.stored Ad (j := j.toNatClampNeg) (w := .int (qnar ty w)) hx1 b1 (by rw [(aset_inv hw).2.2]; simp [qsz]) h fun p e R s mid args below meth c T locs cells slots C hcx X hR => ?_
  have hd2 : decode c.code pc = .ok (.bastore, 1) := by rw [hcx.2.2.1]; exact hd
  obtain ⟨cl, A, hsl⟩ := hR.2.2 _ _ hx1
  obtain ⟨i1, i2⟩ := ast_in hsl hw
  rcases tyB_inv ht with rfl | rfl
  · obtain ⟨T₁, h₁, X₁, e₁, W₁, st⟩ := stZ X hcx.1 hcx.2.1 rfl A i1 (g := mkF mid pc C (List.map (qv ad) (.int w :: .int j :: .ref a :: S'))) rfl rfl hd2
    exact ⟨T₁, h₁, X₁, e₁, W₁, ⟨_, A.same W₁, i2⟩, st⟩
  · obtain ⟨T₁, h₁, X₁, e₁, W₁, st⟩ := stB X hcx.1 hcx.2.1 rfl A i1 (g := mkF mid pc C (List.map (qv ad) (.int w :: .int j :: .ref a :: S'))) rfl rfl hd2
    exact ⟨T₁, h₁, X₁, e₁, W₁, ⟨_, A.same W₁, i2⟩, st⟩
set_option maxHeartbeats 4000000 in
theorem QTri.lastore (Ad : QAd n0 ad) {pc aux : Nat} {L : QLoc} {S : List Value} {σ : QHeap} {st' : QSt} (h : QTri l Z n0 ad m st' v σ') (hc : pCode m pc = some (.lastore, aux)) (hs : qastJ (pc + 1) L S σ = some st') : QTri l Z n0 ad m (pc, L, S, σ) v σ' := by
  have hd : decode (pBytes m) pc = .ok (.lastore, 1) := pDecN hc rfl
  obtain ⟨w, j, a, S', xs, ys, rfl, hx1, b1, hw, rfl⟩ := qastJ_inv hs
  refine QTri.stored Ad (j := j.toNatClampNeg) (w := .long w) hx1 b1 (by rw [(aset_inv hw).2.2]; simp [qsz]) h fun p e R s mid args below meth c T locs cells slots C hcx X hR => ?_
  have hd2 : decode c.code pc = .ok (.lastore, 1) := by rw [hcx.2.2.1]; exact hd
  obtain ⟨cl, A, hsl⟩ := hR.2.2 _ _ hx1
  obtain ⟨i1, i2⟩ := ast_in hsl hw
  obtain ⟨T₁, h₁, X₁, e₁, W₁, st⟩ := stJ X hcx.1 hcx.2.1 rfl A i1 (g := mkF mid pc C (List.map (qv ad) (.long w :: .int j :: .ref a :: S'))) rfl rfl hd2
  exact ⟨T₁, h₁, X₁, e₁, W₁, ⟨_, A.same W₁, i2⟩, st⟩
set_option maxHeartbeats 4000000 in
theorem QTri.alen {pc aux : Nat} {L : QLoc} {S : List Value} {σ : QHeap} {st' : QSt} (h : QTri l Z n0 ad m st' v σ') (hc : pCode m pc = some (.arraylength, aux)) (hs : qlen (pc + 1) L S σ = some st') : QTri l Z n0 ad m (pc, L, S, σ) v σ' := by
  have hd : decode (pBytes m) pc = .ok (.arraylength, 1) := pDecN hc rfl
  obtain ⟨a, S', n, rfl, hx1, rfl⟩ := qlen_inv hs
  refine QTri.stack h fun p e R s mid args below meth c T locs cells slots C target hx hZ hby hown X hR hL k => ?_
  have hd2 : decode c.code pc = .ok (.arraylength, 1) := by rw [hby]; exact hd
  rcases hx1 with ⟨ty, xs, hx1, rfl⟩ | ⟨xs, hx1, rfl⟩
  · obtain ⟨cl, A, hsl⟩ := hR.2.2 _ _ hx1
    have e1 : cl.slots.size = xs.length := by rw [hsl]; simp
    rw [← e1] at k
    exact X.arraylength hx A.1 (State.isArrayOf_alike hZ.alike A.2.1) (g := mkF mid pc C (List.map (qv ad) (.ref a :: S'))) rfl rfl hd2 _ k
  · obtain ⟨cl, A, hsl⟩ := hR.2.2 _ _ hx1
    have e1 : cl.slots.size = xs.length := by rw [hsl]; simp
    rw [← e1] at k
    exact X.arraylength hx A.1 (State.isArrayOf_alike hZ.alike A.2.1) (g := mkF mid pc C (List.map (qv ad) (.ref a :: S'))) rfl rfl hd2 _ k
set_option maxHeartbeats 4000000 in
theorem QTri.newObj (Ad : QAd n0 ad) (W : QW Z a0) {pc idx aux : Nat} {L : QLoc} {S : List Value} {σ : QHeap} (h : QTri l Z n0 ad m (pc + 3, L, .ref σ.length :: S, σ ++ [.inl cDef]) v σ') (hc : pCode m pc = some (.new idx, aux)) : QTri l Z n0 ad m (pc, L, S, σ) v σ' := by
  have hd : decode (pBytes m) pc = .ok (.new idx, 3) := pDecN hc rfl
  have hm := mem_of_contains (show lkN.contains (pK m, idx) = true from pRest hc)
  refine QTri.gen h (by simp) (by simp [qhs_app]) fun p e R s mid args below meth c T locs cells slots C hcx X hR hF hL hC hn hc1 hsl => ?_
  obtain ⟨hx, hZ, hby, hml, hret, hown, hnm, hfr, hlo⟩ := hcx
  have hd2 : decode c.code pc = .ok (.new idx, 3) := by rw [hby]; exact hd
  simp only [List.length_append, List.length_singleton, Nat.add_sub_cancel_left, qgrow, qsz] at hc1 hsl ⊢
  obtain ⟨T₁, h₁, X₁, e₁, E₁, A₁, D₁, -, st⟩ := newO X hx hZ hown (index := idx) (qw_nw W (pK m, idx) hm) ((qw_inst W)) ((qw_init W)) rfl (g := mkF mid pc C (S.map (qv ad))) rfl hd2 hc1 hsl
  have hsz : h₁.size = T.heap.size + 1 := by
    have q1 := X₁.heapSize
    have q2 : T.heap.size < h₁.size := A₁.lt
    have q3 : T.heap.size = n0 + (σ.length - k0) := hR.2.1
    rw [e₁] at q1
    have : n0 + (σ.length - k0) = s.heap.size + cells := hn
    omega
  refine ⟨T₁, locs, C, X₁, ?_, hF, hL, hC, fun target q => ?_⟩
  · rw [e₁]
    refine QRep.push hR Ad E₁ hsz ⟨A₁, cDefL, fun k u hk hu => ?_⟩
    rw [cDefs k hk] at hu
    cases hu
    have e3 : qv ad (defaultValue (fTy k)) = defaultValue (fTy k) := by
      cases hq : defaultValue (fTy k) with
      | ref a => exact absurd hq (fDef k hk a)
      | _ => rfl
    rw [e3]
    exact D₁ (laid_of W hk) (fPrs k hk)
  · refine st _ ?_
    have e2 : ad σ.length = T.heap.size := by rw [Ad.1 _ hR.1]; exact hR.2.1.symm
    simp only [List.map_cons, qv, e2] at q
    exact q
set_option maxHeartbeats 8000000 in
theorem QTri.step (Ad : QAd n0 ad) (W : QW Z a0) {st st' : QSt} (h : QTri l Z n0 ad m st' v σ') (hs : qstep m st = some st') : QTri l Z n0 ad m st v σ' := by
  obtain ⟨pc, L, S, σ⟩ := st
  unfold qstep at hs
  dsimp only at hs
  split at hs
  rotate_left
  · cases hs
  rename_i i aux hc
  have hd := pDecN hc rfl
  have hr := pRest hc
  unfold qexec at hs
  split at hs
  · -- aload_n
    obtain ⟨w, h1, h2, rfl⟩ := qload_inv hs
    obtain ⟨a, rfl⟩ := isR_inv h2
    exact QTri.stack h fun p e R s mid args below meth c T locs cells slots C target hx hZ hby hown X hR hL k => XS.aloadN X.here hx rfl (hb hby hd) (hL.2.1 _ _ h1) rfl k
  · obtain ⟨w, h1, h2, rfl⟩ := qload_inv hs
    obtain ⟨a, rfl⟩ := isR_inv h2
    exact QTri.stack h fun p e R s mid args below meth c T locs cells slots C target hx hZ hby hown X hR hL k => XS.aload X.here hx rfl (hb hby hd) (hL.2.1 _ _ h1) rfl k
  · obtain ⟨w, h1, h2, rfl⟩ := qload_inv hs
    obtain ⟨a, rfl⟩ := isI_inv h2
    exact QTri.stack h fun p e R s mid args below meth c T locs cells slots C target hx hZ hby hown X hR hL k => XS.iloadN X.here hx rfl (hb hby hd) (hL.2.1 _ _ h1) k
  · obtain ⟨w, h1, h2, rfl⟩ := qload_inv hs
    obtain ⟨a, rfl⟩ := isI_inv h2
    exact QTri.stack h fun p e R s mid args below meth c T locs cells slots C target hx hZ hby hown X hR hL k => XS.iload X.here hx rfl (hb hby hd) (hL.2.1 _ _ h1) k
  · obtain ⟨w, h1, h2, rfl⟩ := qload_inv hs
    obtain ⟨a, rfl⟩ := isJ_inv h2
    exact QTri.stack h fun p e R s mid args below meth c T locs cells slots C target hx hZ hby hown X hR hL k => XT.lloadN X.here hx rfl (hb hby hd) (hL.2.1 _ _ h1) k
  · obtain ⟨w, h1, h2, rfl⟩ := qload_inv hs
    obtain ⟨a, rfl⟩ := isJ_inv h2
    exact QTri.stack h fun p e R s mid args below meth c T locs cells slots C target hx hZ hby hown X hR hL k => XT.lload X.here hx rfl (hb hby hd) (hL.2.1 _ _ h1) k
  · cases hs -- iconst
    exact QTri.stack h fun p e R s mid args below meth c T locs cells slots C target hx hZ hby hown X hR hL k => XS.iconst X.here hx rfl (hb hby hd) k
  · cases hs
    exact QTri.stack h fun p e R s mid args below meth c T locs cells slots C target hx hZ hby hown X hR hL k => XS.bipush X.here hx rfl (hb hby hd) k
  · cases hs
    exact QTri.stack h fun p e R s mid args below meth c T locs cells slots C target hx hZ hby hown X hR hL k => XS.sipush X.here hx rfl (hb hby hd) k
  · cases hs
    exact QTri.stack h fun p e R s mid args below meth c T locs cells slots C target hx hZ hby hown X hR hL k => XT.lconst X.here hx rfl (hb hby hd) k
  · -- ldc
    unfold qldc at hs
    split at hs
    · rename_i w hw
      cases hs
      obtain ⟨x, hx1, hx2⟩ := qw_cI W (pK m, _, aux) (mem_of_contains (show lkC.contains (pK m, _, aux) = true from hr))
      rw [show vget cK aux = some w from hw] at hx1
      cases hx1
      exact QTri.stack h fun p e R s mid args below meth c T locs cells slots C target hx hZ hby hown X hR hL k => X.ldcI hx hown (mv hZ hx2) rfl (hb hby hd) k
    · cases hs
  · unfold qldc at hs
    split at hs
    · rename_i w hw
      cases hs
      obtain ⟨x, hx1, hx2⟩ := qw_cJ W (pK m, _, aux) (mem_of_contains (show lkD.contains (pK m, _, aux) = true from hr))
      rw [show vget cK aux = some w from hw] at hx1
      cases hx1
      exact QTri.stack h fun p e R s mid args below meth c T locs cells slots C target hx hZ hby hown X hR hL k => X.ldc2J hx hown (mv hZ hx2) rfl (hb hby hd) k
    · cases hs
  · -- istore_n
    obtain ⟨w, S', L', rfl, h2, h3, rfl⟩ := qstore_inv hs
    obtain ⟨a, rfl⟩ := isI_inv h2
    exact QTri.frame h fun p e R s mid args below meth c T locs cells slots C hcx X hR hL hC => by
      obtain ⟨D, d1, d2, d3⟩ := store_ok hL h3
      exact ⟨D, d2, d3.trans hC, fun target k => XS.istoreN X.here hcx.1 rfl (hb hcx.2.2.1 hd) rfl d1 k⟩
  · obtain ⟨w, S', L', rfl, h2, h3, rfl⟩ := qstore_inv hs
    obtain ⟨a, rfl⟩ := isI_inv h2
    exact QTri.frame h fun p e R s mid args below meth c T locs cells slots C hcx X hR hL hC => by
      obtain ⟨D, d1, d2, d3⟩ := store_ok hL h3
      exact ⟨D, d2, d3.trans hC, fun target k => XS.istore X.here hcx.1 rfl (hb hcx.2.2.1 hd) rfl d1 k⟩
  · obtain ⟨w, S', L', rfl, h2, h3, rfl⟩ := qstore_inv hs
    obtain ⟨a, rfl⟩ := isJ_inv h2
    exact QTri.frame h fun p e R s mid args below meth c T locs cells slots C hcx X hR hL hC => by
      obtain ⟨D, d1, d2, d3⟩ := store_ok hL h3
      exact ⟨D, d2, d3.trans hC, fun target k => XT.lstoreN X.here hcx.1 rfl (hb hcx.2.2.1 hd) rfl d1 k⟩
  · obtain ⟨w, S', L', rfl, h2, h3, rfl⟩ := qstore_inv hs
    obtain ⟨a, rfl⟩ := isJ_inv h2
    exact QTri.frame h fun p e R s mid args below meth c T locs cells slots C hcx X hR hL hC => by
      obtain ⟨D, d1, d2, d3⟩ := store_ok hL h3
      exact ⟨D, d2, d3.trans hC, fun target k => XT.lstore X.here hcx.1 rfl (hb hcx.2.2.1 hd) rfl d1 k⟩
  · obtain ⟨w, S', L', rfl, h2, h3, rfl⟩ := qstore_inv hs
    obtain ⟨a, rfl⟩ := isR_inv h2
    exact QTri.frame h fun p e R s mid args below meth c T locs cells slots C hcx X hR hL hC => by
      obtain ⟨D, d1, d2, d3⟩ := store_ok hL h3
      exact ⟨D, d2, d3.trans hC, fun target k => XS.astoreN X.here hcx.1 rfl (hb hcx.2.2.1 hd) rfl rfl d1 k⟩
  · obtain ⟨w, S', L', rfl, h2, h3, rfl⟩ := qstore_inv hs
    obtain ⟨a, rfl⟩ := isR_inv h2
    exact QTri.frame h fun p e R s mid args below meth c T locs cells slots C hcx X hR hL hC => by
      obtain ⟨D, d1, d2, d3⟩ := store_ok hL h3
      exact ⟨D, d2, d3.trans hC, fun target k => XS.astore X.here hcx.1 rfl (hb hcx.2.2.1 hd) rfl rfl d1 k⟩
  · -- iinc
    unfold qinc at hs
    split at hs
    · rename_i x hx1
      split at hs
      · rename_i L' hL'
        cases hs
        exact QTri.frame h fun p e R s mid args below meth c T locs cells slots C hcx X hR hL hC => by
          obtain ⟨D, d1, d2, d3⟩ := store_ok hL hL'
          exact ⟨D, d2, d3.trans hC, fun target k => XS.iinc X.here hcx.1 rfl (hb hcx.2.2.1 hd) (hL.2.1 _ _ hx1) d1 k⟩
      · cases hs
    · cases hs
  · obtain ⟨x, y, S', rfl, rfl⟩ := qbin_inv hs -- iadd
    exact QTri.stack h fun p e R s mid args below meth c T locs cells slots C target hx hZ hby hown X hR hL k => XS.iadd X.here hx rfl (hb hby hd) rfl k
  · obtain ⟨x, y, S', rfl, rfl⟩ := qbin_inv hs
    exact QTri.stack h fun p e R s mid args below meth c T locs cells slots C target hx hZ hby hown X hR hL k => XS.isub X.here hx rfl (hb hby hd) rfl k
  · obtain ⟨x, y, S', rfl, rfl⟩ := qbin_inv hs
    exact QTri.stack h fun p e R s mid args below meth c T locs cells slots C target hx hZ hby hown X hR hL k => XS.imul X.here hx rfl (hb hby hd) rfl k
  · obtain ⟨x, y, S', rfl, rfl⟩ := qbin_inv hs
    exact QTri.stack h fun p e R s mid args below meth c T locs cells slots C target hx hZ hby hown X hR hL k => XS.iand X.here hx rfl (hb hby hd) rfl k
  · obtain ⟨x, y, S', rfl, rfl⟩ := qbin_inv hs
    exact QTri.stack h fun p e R s mid args below meth c T locs cells slots C target hx hZ hby hown X hR hL k => XT.ior X.here hx rfl (hb hby hd) rfl k
  · obtain ⟨x, y, S', rfl, rfl⟩ := qbin_inv hs
    exact QTri.stack h fun p e R s mid args below meth c T locs cells slots C target hx hZ hby hown X hR hL k => XT.ixor X.here hx rfl (hb hby hd) rfl k
  · obtain ⟨x, y, S', rfl, rfl⟩ := qbin_inv hs
    exact QTri.stack h fun p e R s mid args below meth c T locs cells slots C target hx hZ hby hown X hR hL k => XT.ishl X.here hx rfl (hb hby hd) rfl k
  · obtain ⟨x, y, S', rfl, rfl⟩ := qbin_inv hs
    exact QTri.stack h fun p e R s mid args below meth c T locs cells slots C target hx hZ hby hown X hR hL k => XT.ishr X.here hx rfl (hb hby hd) rfl k
  · obtain ⟨x, y, S', rfl, rfl⟩ := qbin_inv hs
    exact QTri.stack h fun p e R s mid args below meth c T locs cells slots C target hx hZ hby hown X hR hL k => XT.iushr X.here hx rfl (hb hby hd) rfl k
  · obtain ⟨x, y, z, S', rfl, hz, rfl⟩ := qbino_inv hs -- idiv
    unfold qdiv at hz
    split at hz
    · cases hz
    · rename_i hy
      cases hz
      exact QTri.stack h fun p e R s mid args below meth c T locs cells slots C target hx hZ hby hown X hR hL k => XS.idiv X.here hx rfl (hb hby hd) rfl hy k
  · obtain ⟨x, y, z, S', rfl, hz, rfl⟩ := qbino_inv hs
    unfold qrem at hz
    split at hz
    · cases hz
    · rename_i hy
      cases hz
      exact QTri.stack h fun p e R s mid args below meth c T locs cells slots C target hx hZ hby hown X hR hL k => iremM X hx rfl (hb hby hd) rfl hy k
  · obtain ⟨x, S', rfl, rfl⟩ := quni_inv hs -- ineg
    exact QTri.stack h fun p e R s mid args below meth c T locs cells slots C target hx hZ hby hown X hR hL k => XS.ineg X.here hx rfl (hb hby hd) rfl k
  · obtain ⟨x, S', rfl, rfl⟩ := quni_inv hs
    exact QTri.stack h fun p e R s mid args below meth c T locs cells slots C target hx hZ hby hown X hR hL k => XT.i2l X.here hx rfl (hb hby hd) rfl k
  · obtain ⟨x, S', rfl, rfl⟩ := quni_inv hs
    exact QTri.stack h fun p e R s mid args below meth c T locs cells slots C target hx hZ hby hown X hR hL k => XT.i2b X.here hx rfl (hb hby hd) rfl k
  · obtain ⟨x, S', rfl, rfl⟩ := quniJ_inv hs
    exact QTri.stack h fun p e R s mid args below meth c T locs cells slots C target hx hZ hby hown X hR hL k => XT.l2i X.here hx rfl (hb hby hd) rfl k
  · obtain ⟨x, S', rfl, rfl⟩ := quniJ_inv hs
    exact QTri.stack h fun p e R s mid args below meth c T locs cells slots C target hx hZ hby hown X hR hL k => XT.lneg X.here hx rfl (hb hby hd) rfl k
  · obtain ⟨x, y, S', rfl, rfl⟩ := qbinJ_inv hs
    exact QTri.stack h fun p e R s mid args below meth c T locs cells slots C target hx hZ hby hown X hR hL k => XT.ladd X.here hx rfl (hb hby hd) rfl k
  · obtain ⟨x, y, S', rfl, rfl⟩ := qbinJ_inv hs
    exact QTri.stack h fun p e R s mid args below meth c T locs cells slots C target hx hZ hby hown X hR hL k => XT.lsub X.here hx rfl (hb hby hd) rfl k
  · obtain ⟨x, y, S', rfl, rfl⟩ := qbinJ_inv hs
    exact QTri.stack h fun p e R s mid args below meth c T locs cells slots C target hx hZ hby hown X hR hL k => XT.lmul X.here hx rfl (hb hby hd) rfl k
  · obtain ⟨x, y, S', rfl, rfl⟩ := qbinJ_inv hs
    exact QTri.stack h fun p e R s mid args below meth c T locs cells slots C target hx hZ hby hown X hR hL k => XT.land X.here hx rfl (hb hby hd) rfl k
  · obtain ⟨x, y, S', rfl, rfl⟩ := qbinJ_inv hs
    exact QTri.stack h fun p e R s mid args below meth c T locs cells slots C target hx hZ hby hown X hR hL k => XT.lor X.here hx rfl (hb hby hd) rfl k
  · obtain ⟨x, y, S', rfl, rfl⟩ := qbinJ_inv hs
    exact QTri.stack h fun p e R s mid args below meth c T locs cells slots C target hx hZ hby hown X hR hL k => XT.lxor X.here hx rfl (hb hby hd) rfl k
  · obtain ⟨x, y, S', rfl, rfl⟩ := qshJ_inv hs
    exact QTri.stack h fun p e R s mid args below meth c T locs cells slots C target hx hZ hby hown X hR hL k => XT.lshl X.here hx rfl (hb hby hd) rfl k
  · obtain ⟨x, y, S', rfl, rfl⟩ := qshJ_inv hs
    exact QTri.stack h fun p e R s mid args below meth c T locs cells slots C target hx hZ hby hown X hR hL k => XT.lshr X.here hx rfl (hb hby hd) rfl k
  · obtain ⟨x, y, S', rfl, rfl⟩ := qshJ_inv hs
    exact QTri.stack h fun p e R s mid args below meth c T locs cells slots C target hx hZ hby hown X hR hL k => XT.lushr X.here hx rfl (hb hby hd) rfl k
  · split at hs -- lcmp
    · cases hs
      exact QTri.stack h fun p e R s mid args below meth c T locs cells slots C target hx hZ hby hown X hR hL k => XT.lcmp X.here hx rfl (hb hby hd) rfl k
    · cases hs
  · cases hs -- goto
    obtain ⟨t1, t2⟩ := qtgt_spec hr
    exact QTri.stack h fun p e R s mid args below meth c T locs cells slots C target hx hZ hby hown X hR hL k => XS.goto X.here hx rfl rfl (hb hby hd) t1 t2 k
  · obtain ⟨x, S', rfl, rfl⟩ := qif_inv hs
    obtain ⟨t1, t2⟩ := qtgt_spec hr
    cases hh : ifCond.holds _ x with
    | true => rw [hh] at h; exact QTri.stack h fun p e R s mid args below meth c T locs cells slots C target hx hZ hby hown X hR hL k => XS.ifYes X.here hx rfl rfl (hb hby hd) rfl hh t1 t2 k
    | false => rw [hh] at h; exact QTri.stack h fun p e R s mid args below meth c T locs cells slots C target hx hZ hby hown X hR hL k => XS.ifNo X.here hx rfl (hb hby hd) rfl hh k
  · obtain ⟨x, y, S', rfl, rfl⟩ := qicmp_inv hs
    obtain ⟨t1, t2⟩ := qtgt_spec hr
    cases hh : if_icmp.holds _ x y with
    | true => rw [hh] at h; exact QTri.stack h fun p e R s mid args below meth c T locs cells slots C target hx hZ hby hown X hR hL k => XS.icmpYes X.here hx rfl rfl (hb hby hd) rfl hh t1 t2 k
    | false => rw [hh] at h; exact QTri.stack h fun p e R s mid args below meth c T locs cells slots C target hx hZ hby hown X hR hL k => XS.icmpNo X.here hx rfl (hb hby hd) rfl hh k
  · unfold qdup at hs
    split at hs
    · cases hs
      exact QTri.stack h fun p e R s mid args below meth c T locs cells slots C target hx hZ hby hown X hR hL k => XS.dup X.here hx rfl (hb hby hd) rfl rfl k
    · cases hs
      exact QTri.stack h fun p e R s mid args below meth c T locs cells slots C target hx hZ hby hown X hR hL k => XS.dup X.here hx rfl (hb hby hd) rfl rfl k
    · cases hs
  · unfold qdup2 at hs
    split at hs
    · cases hs
      exact QTri.stack h fun p e R s mid args below meth c T locs cells slots C target hx hZ hby hown X hR hL k => XT.dup2 X.here hx rfl (hb hby hd) rfl rfl rfl k
    · cases hs
      exact QTri.stack h fun p e R s mid args below meth c T locs cells slots C target hx hZ hby hown X hR hL k => XT.dup2 X.here hx rfl (hb hby hd) rfl rfl rfl k
    · cases hs
      exact QTri.stack h fun p e R s mid args below meth c T locs cells slots C target hx hZ hby hown X hR hL k => XT.dup2L X.here hx rfl (hb hby hd) rfl k
    · cases hs
  · unfold qpop at hs
    split at hs
    · cases hs
      exact QTri.stack h fun p e R s mid args below meth c T locs cells slots C target hx hZ hby hown X hR hL k => XT.pop X.here hx rfl (hb hby hd) rfl rfl k
    · cases hs
      exact QTri.stack h fun p e R s mid args below meth c T locs cells slots C target hx hZ hby hown X hR hL k => XT.pop X.here hx rfl (hb hby hd) rfl rfl k
    · cases hs
  · exact QTri.getfield W h hc hs
  · exact QTri.putfield Ad W h hc hs
  · exact QTri.iaload h hc hs
  · exact QTri.baload h hc hs
  · exact QTri.laload h hc hs
  · exact QTri.iastore Ad h hc hs
  · exact QTri.bastore Ad h hc hs
  · exact QTri.lastore Ad h hc hs
  · exact QTri.alen h hc hs
  · -- newarray
    unfold qnewA at hs
    split at hs
    · split at hs
      · obtain ⟨k, hk, hs⟩ := Option.bind_eq_some_iff.mp hs
        cases hs
        exact QTri.newArr (c := .inr (.inl (.int, List.replicate k 0))) Ad W hk hc (by simp [qsz]) (fun h' a cA A => ⟨_, A, by simp [newA, (qnew_inv hk).2.1]; exact Or.inr rfl⟩) h
      · obtain ⟨k, hk, hs⟩ := Option.bind_eq_some_iff.mp hs
        cases hs
        exact QTri.newArr (c := .inr (.inl (.boolean, List.replicate k 0))) Ad W hk hc (by simp [qsz]) (fun h' a cA A => ⟨_, A, by simp [newA, (qnew_inv hk).2.1]; exact Or.inr rfl⟩) h
      · obtain ⟨k, hk, hs⟩ := Option.bind_eq_some_iff.mp hs
        cases hs
        exact QTri.newArr (c := .inr (.inl (.byte, List.replicate k 0))) Ad W hk hc (by simp [qsz]) (fun h' a cA A => ⟨_, A, by simp [newA, (qnew_inv hk).2.1]; exact Or.inr rfl⟩) h
      · obtain ⟨k, hk, hs⟩ := Option.bind_eq_some_iff.mp hs
        cases hs
        exact QTri.newArr (c := .inr (.inr (List.replicate k 0))) Ad W hk hc (by simp [qsz]) (fun h' a cA A => ⟨_, A, by simp [newA, (qnew_inv hk).2.1]; exact Or.inr rfl⟩) h
      · cases hs
    · cases hs
  · cases hs; exact QTri.newObj Ad W h hc
  · cases hs
theorem QTri.steps (Ad : QAd n0 ad) (W : QW Z a0) : ∀ (n : Nat) {st st' : QSt}, qsteps m n st = some st' → QTri l Z n0 ad m st' v σ' → QTri l Z n0 ad m st v σ'
  | 0, st, st', h, k => by cases h; exact k
  | n + 1, st, st', h, k => by
    simp only [qsteps] at h
    split at h
    · rename_i st₁ h1
      exact QTri.step Ad W (QTri.steps Ad W n h k) h1
    · cases h
/-! ## returns, masks, calls -/
def lmask : List Bool → QLoc → QLoc
  | b :: t, x :: u => (bif b then x else none) :: lmask t u
  | _, L => L.map fun _ => none
theorem lmask_len : ∀ (b : List Bool) (L : QLoc), (lmask b L).length = L.length
  | [], L => by simp [lmask]
  | _ :: _, [] => by simp [lmask]
  | _ :: t, _ :: u => by simp [lmask, lmask_len t u]
theorem lmask_get : ∀ (b : List Bool) (L : QLoc) (k : Nat) (v : Value), lget (lmask b L) k = some v → lget L k = some v
  | [], L, k, v, h => by
    simp only [lmask, lget_eq, List.getElem?_map] at h
    cases hq : L[k]? <;> simp [hq] at h
  | _ :: _, [], k, v, h => by simp [lmask, lget] at h
  | b :: t, x :: u, 0, v, h => by
    simp only [lmask, lget] at h ⊢
    cases b
    · cases h
    · exact h
  | b :: t, x :: u, k + 1, v, h => by
    simp only [lmask, lget] at h ⊢
    exact lmask_get t u k v h
theorem QTri.mask {pc : Nat} {L : QLoc} {S : List Value} {σ : QHeap} (b : List Bool) (h : QTri l Z n0 ad m (pc, lmask b L, S, σ) v σ') : QTri l Z n0 ad m (pc, L, S, σ) v σ' :=
  QTri.frame h fun p e R s mid args below meth c T locs cells slots C hcx X hR hL hC => ⟨C, ⟨by rw [lmask_len]; exact hL.1, fun k u hk => hL.2.1 k u (lmask_get b L k u hk), hL.2.2⟩, hC, fun target k => k⟩
theorem QTri.ret0 {pc aux : Nat} {L : QLoc} {σ : QHeap} (hc : pCode m pc = some (.return_, aux)) (hr : pRet m = none) : QTri l Z n0 ad m (pc, L, [], σ) none σ :=
  have hd : decode (pBytes m) pc = .ok (.return_, 1) := pDecN hc rfl
  ⟨Nat.le_refl _, Nat.le_refl _, fun p e R s mid args below meth c T locs cells slots C hcx X hR hF hL hC hn hc1 hsl => ⟨T, locs, by simpa using X, hR, hF, fun fs hf => X.returnOut hcx.1 (hcx.2.2.2.2.1.trans hr) (hb hcx.2.2.1 hd) hf⟩⟩
theorem QTri.retI {pc aux : Nat} {L : QLoc} {S : List Value} {σ : QHeap} {x : Int32} (hc : pCode m pc = some (.ireturn, aux)) (hr : pRet m = some .int) : QTri l Z n0 ad m (pc, L, .int x :: S, σ) (some (.int x)) σ :=
  have hd : decode (pBytes m) pc = .ok (.ireturn, 1) := pDecN hc rfl
  ⟨Nat.le_refl _, Nat.le_refl _, fun p e R s mid args below meth c T locs cells slots C hcx X hR hF hL hC hn hc1 hsl => ⟨T, locs, by simpa using X, hR, hF, fun fs hf => Jvm.RoadKit.retI X hcx.1 (hcx.2.2.2.2.1.trans hr) (hb hcx.2.2.1 hd) hf⟩⟩
theorem QTri.retZ {pc aux : Nat} {L : QLoc} {S : List Value} {σ : QHeap} {x : Int32} (hc : pCode m pc = some (.ireturn, aux)) (hr : pRet m = some .boolean) : QTri l Z n0 ad m (pc, L, .int x :: S, σ) (some (.int (x &&& 1))) σ :=
  have hd : decode (pBytes m) pc = .ok (.ireturn, 1) := pDecN hc rfl
  ⟨Nat.le_refl _, Nat.le_refl _, fun p e R s mid args below meth c T locs cells slots C hcx X hR hF hL hC hn hc1 hsl => ⟨T, locs, by simpa using X, hR, hF, fun fs hf => retN X hcx.1 (t := .boolean) (hcx.2.2.2.2.1.trans hr) (by simp) (hb hcx.2.2.1 hd) hf⟩⟩
theorem QTri.retJ {pc aux : Nat} {L : QLoc} {S : List Value} {σ : QHeap} {x : Int64} (hc : pCode m pc = some (.lreturn, aux)) (hr : pRet m = some .long) : QTri l Z n0 ad m (pc, L, .long x :: S, σ) (some (.long x)) σ :=
  have hd : decode (pBytes m) pc = .ok (.lreturn, 1) := pDecN hc rfl
  ⟨Nat.le_refl _, Nat.le_refl _, fun p e R s mid args below meth c T locs cells slots C hcx X hR hF hL hC hn hc1 hsl => ⟨T, locs, by simpa using X, hR, hF, fun fs hf => retOut X hcx.1 (t := .long) (hcx.2.2.2.2.1.trans hr) rfl (Or.inr (Or.inl ⟨rfl, rfl, _, rfl⟩)) (hb hcx.2.2.1 hd) hf⟩⟩
def LOk (ad : Nat → Addr) (L : QLoc) (C : List Slot) : Prop :=
  L.length = C.length ∧ (∀ k v, lget L k = some v → C[k]? = some (.val (qv ad v))) ∧ (∀ k w, C[k]? = some (.val w) → w.category = 2 → C[k + 1]? = some .second) ∧ ∀ k, C[k]? = some .second → ∃ j w, k = j + 1 ∧ C[j]? = some (.val w) ∧ w.category = 2
theorem LOk.base (ad : Nat → Addr) (n : Nat) : LOk ad (List.replicate n none) (List.replicate n .unset) := by
  refine ⟨by simp, fun k u h => ?_, fun k w h => ?_, fun k h => ?_⟩
  · rw [lget_eq] at h
    rcases Nat.lt_or_ge k n with q | q
    · simp [List.getElem?_replicate, q] at h
    · simp [List.getElem?_eq_none, q] at h
  · rcases Nat.lt_or_ge k n with q | q
    · simp [List.getElem?_replicate, q] at h
    · simp [List.getElem?_eq_none, q] at h
  · rcases Nat.lt_or_ge k n with q | q
    · simp [List.getElem?_replicate, q] at h
    · simp [List.getElem?_eq_none, q] at h
theorem LOk.one {L : QLoc} {C : List Slot} (H : LOk ad L C) {u : Value} (hu : u.category = 1) : LOk ad (some u :: L) (.val (qv ad u) :: C) := by
  obtain ⟨h1, h2, h3, h4⟩ := H
  refine ⟨by simp [h1], fun k w h => ?_, fun k w h hw => ?_, fun k h => ?_⟩
  · cases k with
    | zero => simp only [lget] at h; cases h; simp
    | succ k => simp only [lget] at h; simpa using h2 k w h
  · cases k with
    | zero => simp at h; rw [← h, qv_cat, hu] at hw; cases hw
    | succ k => simpa using h3 k w (by simpa using h) hw
  · cases k with
    | zero => simp at h
    | succ k =>
      obtain ⟨j, w, z1, z2, z3⟩ := h4 k (by simpa using h)
      exact ⟨j + 1, w, by omega, by simpa using z2, z3⟩
theorem LOk.two {L : QLoc} {C : List Slot} (H : LOk ad L C) {u : Value} (hu : u.category = 2) : LOk ad (some u :: none :: L) (.val (qv ad u) :: .second :: C) := by
  obtain ⟨h1, h2, h3, h4⟩ := H
  refine ⟨by simp [h1], fun k w h => ?_, fun k w h hw => ?_, fun k h => ?_⟩
  · rcases k with _ | _ | k
    · simp only [lget] at h; cases h; simp
    · simp [lget] at h
    · simp only [lget] at h; simpa using h2 k w h
  · rcases k with _ | _ | k
    · simp
    · simp at h
    · simpa using h3 k w (by simpa using h) hw
  · rcases k with _ | _ | k
    · simp at h
    · exact ⟨0, qv ad u, rfl, by simp, by rw [qv_cat]; exact hu⟩
    · obtain ⟨j, w, z1, z2, z3⟩ := h4 k (by simpa using h)
      exact ⟨j + 2, w, by omega, by simpa using z2, z3⟩
def slotsOf (u : Value) : List Slot := if u.category = 2 then [.val u, .second] else [.val u]
theorem fold_slots : ∀ (as : List Value) (acc : Array Slot), (as.foldl (fun acc v => if v.category = 2 then (acc.push (.val v)).push .second else acc.push (.val v)) acc).toList = acc.toList ++ as.flatMap slotsOf
  | [], acc => by simp
  | u :: t, acc => by
    rw [List.foldl_cons, fold_slots t]
    by_cases hc : u.category = 2 <;> simp [slotsOf, hc]
theorem slots_len : ∀ (as : List Value), (as.flatMap slotsOf).length = (as.map fun v => v.category).sum
  | [] => rfl
  | u :: t => by
    rw [List.flatMap_cons, List.length_append, slots_len t, List.map_cons, List.sum_cons]
    cases u <;> simp [slotsOf, Value.category]
theorem cats_qv (as : List Value) : ((as.map (qv ad)).map fun v => v.category).sum = (as.map fun v => v.category).sum := by
  rw [List.map_map]
  congr 1
  exact List.map_congr_left fun x _ => qv_cat ad x
theorem entry_list : ∀ (as : List Value) (n : Nat), LOk ad ((as.flatMap fun v => match v with | .long x => [some (.long x), none] | .double x => [some (.double x), none] | v => [some v]) ++ List.replicate n none) ((as.map (qv ad)).flatMap slotsOf ++ List.replicate n .unset)
  | [], n => by simpa using LOk.base ad n
  | u :: t, n => by
    have ih := entry_list t n
    cases u with
    | long x => exact LOk.two ih rfl
    | double x => exact LOk.two ih rfl
    | int x => exact LOk.one ih rfl
    | float x => exact LOk.one ih rfl
    | null => exact LOk.one ih rfl
    | ref x => exact LOk.one ih rfl
    | retAddr x => exact LOk.one ih rfl
theorem qentry_ok (as : List Value) (mx : Nat) (h : (as.map fun v => v.category).sum ≤ mx) : QLocOk ad (qentry as mx) (argsToLocals (as.map (qv ad)).toArray mx) ∧ (argsToLocals (as.map (qv ad)).toArray mx).size = mx := by
  have e : (argsToLocals (as.map (qv ad)).toArray mx).toList = (as.map (qv ad)).flatMap slotsOf ++ List.replicate (mx - (as.map fun v => v.category).sum) .unset := by
    unfold argsToLocals
    have q := fold_slots (as.map (qv ad)) #[]
    simp only [List.foldl_toArray', Array.toList_append, Array.toList_replicate]
    have q2 : ((as.map (qv ad)).foldl (fun (acc : Array Slot) (v : Value) => if v.category = 2 then (acc.push (.val v)).push .second else acc.push (.val v)) #[]).size = (as.map fun v => v.category).sum := by
      rw [← Array.length_toList, q]
      simp only [List.nil_append]
      rw [slots_len, cats_qv]
    rw [q, q2]
    simp
  have H := entry_list (ad := ad) as (mx - (as.map fun v => v.category).sum)
  rw [← e] at H
  obtain ⟨h1, h2, h3, h4⟩ := H
  have hs : (argsToLocals (as.map (qv ad)).toArray mx).size = mx := by
    rw [← Array.length_toList, e, List.length_append, slots_len, cats_qv, List.length_replicate]
    omega
  refine ⟨⟨h1.trans Array.length_toList, fun k u hk => ?_, fun k w hk hw => ?_, fun k hk => ?_⟩, hs⟩
  · have := h2 k u hk; rwa [Array.getElem?_toList] at this
  · have := h3 k w (by rw [Array.getElem?_toList]; exact hk) hw; rwa [Array.getElem?_toList] at this
  · obtain ⟨j, w, z1, z2, z3⟩ := h4 k (by rw [Array.getElem?_toList]; exact hk)
    exact ⟨j, w, z1, by rwa [Array.getElem?_toList] at z2, z3⟩
set_option maxHeartbeats 4000000 in
theorem QTri.met {k : Nat} {as : List Value} {σ σ₁ : QHeap} {w : Option Value} {h0 : Heap} (hk : k < pN) (h : QTri l Z n0 ad k (0, qentry as (pMaxL k), [], σ) w σ₁) (hR : QRep Z n0 ad h0 σ) (hlen : (as.map fun v => v.category).sum ≤ pMaxL k) (hret : pRet k = none → w = none) (ws : List Jvm.Cond) {rm : Room}
    (r1 : pFr k ≤ rm.frames) (r2 : pLo k ≤ rm.locals) (r3 : σ₁.length - σ.length ≤ rm.cells) (r4 : qhs σ₁ - qhs σ ≤ rm.slots) :
    MetFree l (pName k) (head1 (Jvm.Cond.code (pName k) (pBytes k) (pMaxL k) (pRet k) :: ws) rm) (fun a U => a = (as.map (qv ad)).toArray ∧ Z.Warmed39 U.vm ∧ U.heap = h0) (fun _ _ _ _ _ => True)
      (fun _ U o U' => ∃ v L, o = .returned v ∧ (v = w.map (qv ad) ∧ QRep Z n0 ad U'.heap σ₁ ∧ Fr n0 L) ∧ FrameEnd U o U' L (σ₁.length - σ.length) (qhs σ₁ - qhs σ)) := by
  refine MetFree.of_bodySF (plainFor_of_name (kPlain _ (pKlt k hk))) hisR ?_
  intro p e s mid args below meth c s₁ Bd hml0 hP hK
  obtain ⟨rfl, hZ, hh⟩ := hP
  have e0 : s₁.heap = h0 := by rw [← hh, Bd.state]; rfl
  obtain ⟨hl1, hl2⟩ := qentry_ok (ad := ad) as (pMaxL k) hlen
  have hX : Stand p l e rm s mid (as.map (qv ad)).toArray below meth c s₁ [] 0 0 := Stand.of_body Bd
  obtain ⟨T', locs', X', R', F', S'⟩ := h.2.2 p e rm s mid _ below meth c s₁ [] 0 0 _ ⟨Bd.exec, hZ, Bd.bytes, hml0, Bd.returns, findClass_of_methodNamed Bd.named, (name_of_methodNamed Bd.named Bd.method).1, r1, r2⟩ hX (by rw [e0]; exact hR) (Fr.nil _) hl1 (hl2.trans hml0.symm) (by rw [hh, Nat.add_zero]; exact hR.2.1.symm) (by rw [Nat.zero_add]; exact r3) (by rw [Nat.zero_add]; exact r4)
  obtain ⟨fs, hr, hrun, hended, hW, hsame⟩ := X'.leave (v := w.map (qv ad)) (fun q => by rw [hret (Bd.returns.symm.trans q)]; rfl)
  refine ⟨_, _, S' fs hr, hrun, hended, _, _, rfl, ⟨rfl, R', F'⟩, ⟨_, rfl⟩, hW, ?_⟩
  simp only [Nat.zero_add] at hsame
  exact hsame
theorem QTri.room {k : Nat} {σ σ₁ : QHeap} {rest : List Value} {R : Room} (hroom : (Nat.ble (pFr k + 1) (pFr m) && Nat.ble ((rest.map fun v => v.category).sum + (pMaxL k + 11) + pLo k) (pLo m)) = true) (hfr : pFr m ≤ R.frames) (hlo : pLo m ≤ R.locals) :
    pFr k + 1 ≤ R.frames ∧ (rest.map fun v => v.category).sum + (pMaxL k + 11) + pLo k ≤ R.locals := by
  obtain ⟨q1, q2⟩ := Bool.and_eq_true_iff.mp hroom
  exact ⟨Nat.le_trans (Nat.le_of_ble_eq_true q1) hfr, Nat.le_trans (Nat.le_of_ble_eq_true q2) hlo⟩
theorem sig_len {k : Nat} (hk : k < pN) {as : List Value} (hna : as.length = pNA k) : ∀ sig, parseMethodDescriptor (pName k).desc = some sig → (as.map (qv ad)).length = sig.parameters.length := fun sig hs => by
  have q := pSig k hk
  rw [show parseMethodDescriptor (pDs k) = some sig from hs] at q
  simp at q
  simp [hna, q]
theorem ret_map (w : Option Value) (rest : List Value) : (w.toList ++ rest).map (qv ad) = (w.map (qv ad)).toList ++ rest.map (qv ad) := by cases w <;> simp
theorem QTri.after {as0 : List Value} {pc : Nat} {L : QLoc} {S rest : List Value} {σ σ₁ : QHeap} {w : Option Value} {k : Nat} (hcal : QTri l Z n0 ad k (0, qentry as0 (pMaxL k), [], σ) w σ₁) (h : QTri l Z n0 ad m (pc + 3, L, w.toList ++ rest, σ₁) v σ')
    (hs : ∀ (p : Program) (e : Env) (R : Room) (s : State) (mid : MethodId) (args : Array Value) (below : List Frame) (meth : Method) (c : Code) (T : State) (locs : List Loc) (cells slots : Nat) (C : Array Slot),
      QCx Z p R s mid meth c m → Stand p l e R s mid args below meth c T locs cells slots → QRep Z n0 ad T.heap σ → C.size = c.maxLocals → cells + (σ₁.length - σ.length) ≤ R.cells → slots + (qhs σ₁ - qhs σ) ≤ R.slots →
      ∃ T₁ Lc, Stand p l e R s mid args below meth c T₁ (locs ++ Lc) (cells + (σ₁.length - σ.length)) (slots + (qhs σ₁ - qhs σ)) ∧ QRep Z n0 ad T₁.heap σ₁ ∧ Fr n0 Lc ∧
        ∀ target, Steps p.tables e below (T₁.setTop (mkF mid (pc + 3) C ((w.map (qv ad)).toList ++ rest.map (qv ad)))) target → Steps p.tables e below (T.setTop (mkF mid pc C (S.map (qv ad)))) target) :
    QTri l Z n0 ad m (pc, L, S, σ) v σ' := by
  refine QTri.gen h hcal.1 hcal.2.1 fun p e R s mid args below meth c T locs cells slots C hcx X hR hF hL hC hn hc1 hsl => ?_
  obtain ⟨T₁, Lc, X₁, R₁, F₁, st⟩ := hs p e R s mid args below meth c T locs cells slots C hcx X hR hC hc1 hsl
  refine ⟨T₁, locs ++ Lc, C, X₁, R₁, hF.app F₁, hL, hC, fun target q => st target ?_⟩
  rw [← ret_map]
  exact q
set_option maxHeartbeats 4000000 in
theorem QTri.callV (W : QW Z a0) {pc idx k a : Nat} {L : QLoc} {S as rest vs : List Value} {σ σ₁ : QHeap} {w : Option Value} (hc : pCode m pc = some (.invokevirtual idx, k)) (hm : (lkV.contains (pK m, idx, k) && mV.contains k) = true) (hcell : hget σ a = some (.inl vs)) (hS : S = as.reverse ++ .ref a :: rest)
    (hna : as.length = pNA k) (hlen : Nat.ble (((Value.ref a :: as).map fun v => v.category).sum) (pMaxL k) = true) (hroom : (Nat.ble (pFr k + 1) (pFr m) && Nat.ble ((rest.map fun v => v.category).sum + (pMaxL k + 11) + pLo k) (pLo m)) = true) (hrb : (w.isNone || (pRet k).isSome) = true)
    (hcal : QTri l Z n0 ad k (0, qentry (.ref a :: as) (pMaxL k), [], σ) w σ₁) (h : QTri l Z n0 ad m (pc + 3, L, w.toList ++ rest, σ₁) v σ') : QTri l Z n0 ad m (pc, L, S, σ) v σ' := by
  have hd : decode (pBytes m) pc = .ok (.invokevirtual idx, 3) := pDecN hc rfl
  subst hS
  obtain ⟨m1, m2⟩ := Bool.and_eq_true_iff.mp hm
  have m1 := mem_of_contains m1
  have m2 := mem_of_contains m2
  have hkA := (mVlt k m2).1
  have hkN := mAlt k hkA
  have hret : pRet k = none → w = none := fun q => by
    rw [q] at hrb
    cases w with
    | none => rfl
    | some w => simp at hrb
  refine QTri.after hcal h fun p e R s mid args below meth c T locs cells slots C hcx X hR hC hc1 hsl => ?_
  obtain ⟨hx, hZ, hby, hml, hret', hown, hnm, hfr, hlo⟩ := hcx
  have hd2 : decode c.code pc = .ok (.invokevirtual idx, 3) := by rw [hby]; exact hd
  obtain ⟨f1, f2⟩ := QTri.room (σ := σ) (σ₁ := σ₁) hroom hfr hlo
  obtain ⟨cq, kq, q1, q2, q3⟩ := isOf hZ rfl (hR.2.2 _ _ hcell).1
  obtain ⟨w1, w2, w3⟩ := (qw_vi W) k m2
  obtain ⟨c1, c2⟩ := (qw_cod W) k hkA
  obtain ⟨_, _, ⟨T₁, L₁, k₁, n₁⟩, -, X₁, ⟨Lc, ⟨rfl, hR1, hF1⟩, l₁, y₁, z₁⟩, st⟩ := X.virtualBack hx (own := kName (pK m)) (index := idx) (y := pName k) (z := pName k) hown (mvT hZ (qw_ml W (pK m, idx, k) m1)) (mvT hZ w1) (notFace_of_selects (args := #[]) (mvT hZ w2)) (mvT hZ w2) (mvT hZ w3) (pOwn _ (pKlt k hkN))
    (backOf (W := (rest.map fun v => v.category).sum) (rm := ⟨pFr k, σ₁.length - σ.length, qhs σ₁ - qhs σ, pLo k⟩) (Q := fun v h L => v = Option.map (qv ad) w ∧ QRep Z n0 ad h σ₁ ∧ Fr n0 L) (QTri.met hkN hcal hR (Nat.le_of_ble_eq_true hlen) hret [] (Nat.le_refl _) (Nat.le_refl _) (Nat.le_refl _) (Nat.le_refl _)) hZ c1 c2 f1 f2) q1 q3 (g := mkF mid pc C (List.map (qv ad) (as.reverse ++ .ref a :: rest))) rfl hC (Steps.refl _) (argsL := as.map (qv ad)) (rest := rest.map (qv ad)) (sig_len hkN hna) (by simp [qv]) (by show 2 * 0 + _ ≤ _; rw [cats_qv]; omega) hd2 (fun _ _ => ⟨rfl, rfl, hc1, hsl⟩)
  dsimp only [Pt.U, Pt.locs, Pt.cells, Pt.slots] at X₁ l₁ y₁ z₁ st hR1
  subst l₁ y₁ z₁
  exact ⟨T₁, Lc, X₁, hR1, hF1, fun target q => st.trans q⟩
set_option maxHeartbeats 4000000 in
theorem QTri.callI (W : QW Z a0) {pc idx k a : Nat} {L : QLoc} {S as rest : List Value} {σ σ₁ : QHeap} (hc : pCode m pc = some (.invokespecial idx, k)) (hm : (lkV.contains (pK m, idx, k) && mI.contains k) = true) (hS : S = as.reverse ++ .ref a :: rest)
    (hna : as.length = pNA k) (hlen : Nat.ble (((Value.ref a :: as).map fun v => v.category).sum) (pMaxL k) = true) (hroom : (Nat.ble (pFr k + 1) (pFr m) && Nat.ble ((rest.map fun v => v.category).sum + (pMaxL k + 11) + pLo k) (pLo m)) = true)
    (hcal : QTri l Z n0 ad k (0, qentry (.ref a :: as) (pMaxL k), [], σ) none σ₁) (h : QTri l Z n0 ad m (pc + 3, L, rest, σ₁) v σ') : QTri l Z n0 ad m (pc, L, S, σ) v σ' := by
  have hd : decode (pBytes m) pc = .ok (.invokespecial idx, 3) := pDecN hc rfl
  subst hS
  obtain ⟨m1, m2⟩ := Bool.and_eq_true_iff.mp hm
  have m1 := mem_of_contains m1
  have m2 := mem_of_contains m2
  obtain ⟨hkA, -, hin, hrt⟩ := mIlt k m2
  have hkN := mAlt k hkA
  refine QTri.after (w := none) hcal h fun p e R s mid args below meth c T locs cells slots C hcx X hR hC hc1 hsl => ?_
  obtain ⟨hx, hZ, hby, hml, hret', hown, hnm, hfr, hlo⟩ := hcx
  have hd2 : decode c.code pc = .ok (.invokespecial idx, 3) := by rw [hby]; exact hd
  obtain ⟨f1, f2⟩ := QTri.room (σ := σ) (σ₁ := σ₁) hroom hfr hlo
  obtain ⟨c1, c2⟩ := (qw_cod W) k hkA
  have c1' := c1
  rw [hrt] at c1'
  obtain ⟨_, _, ⟨T₁, L₁, k₁, n₁⟩, -, X₁, ⟨Lc, ⟨rfl, hR1, hF1⟩, l₁, y₁, z₁⟩, st⟩ := X.specialBack hx (own := kName (pK m)) (index := idx) (y := pName k) hin hown (mvT hZ (qw_ml W (pK m, idx, k) m1)) (mvT hZ ((qw_ini W) k m2)) (mvT hZ c1') (pOwn _ (pKlt k hkN))
    (backOf (W := (rest.map fun v => v.category).sum) (rm := ⟨pFr k, σ₁.length - σ.length, qhs σ₁ - qhs σ, pLo k⟩) (Q := fun v h L => v = Option.map (qv ad) none ∧ QRep Z n0 ad h σ₁ ∧ Fr n0 L) (QTri.met hkN hcal hR (Nat.le_of_ble_eq_true hlen) (fun _ => rfl) [] (Nat.le_refl _) (Nat.le_refl _) (Nat.le_refl _) (Nat.le_refl _)) hZ c1 c2 f1 f2) (g := mkF mid pc C (List.map (qv ad) (as.reverse ++ .ref a :: rest))) rfl hC (Steps.refl _) (a := ad a) (argsL := as.map (qv ad)) (rest := rest.map (qv ad)) (sig_len hkN hna) (by simp [qv]) (by show 2 * 0 + _ ≤ _; rw [cats_qv]; omega) hd2 (fun _ _ => ⟨rfl, rfl, hc1, hsl⟩)
  dsimp only [Pt.U, Pt.locs, Pt.cells, Pt.slots] at X₁ l₁ y₁ z₁ st hR1
  subst l₁ y₁ z₁
  exact ⟨T₁, Lc, X₁, hR1, hF1, fun target q => st.trans q⟩
set_option maxHeartbeats 4000000 in
theorem QTri.callP (W : QW Z a0) {pc idx k a : Nat} {L : QLoc} {S as rest vs : List Value} {σ σ₁ : QHeap} {w : Option Value} (hc : pCode m pc = some (.invokevirtual idx, k)) (hm : (lkV.contains (pK m, idx, k) && mP.contains k) = true) (hcell : hget σ a = some (.inl vs)) (hS : S = as.reverse ++ .ref a :: rest)
    (hna : as.length = pNA k) (hlen : Nat.ble (((Value.ref a :: as).map fun v => v.category).sum) (pMaxL k) = true) (hroom : (Nat.ble (pFr k + 1) (pFr m) && Nat.ble ((rest.map fun v => v.category).sum + (pMaxL k + 11) + pLo k) (pLo m)) = true) (hrb : (w.isNone || (pRet k).isSome) = true)
    (hcal : QTri l Z n0 ad k (0, qentry (.ref a :: as) (pMaxL k), [], σ) w σ₁) (h : QTri l Z n0 ad m (pc + 3, L, w.toList ++ rest, σ₁) v σ') : QTri l Z n0 ad m (pc, L, S, σ) v σ' := by
  have hd : decode (pBytes m) pc = .ok (.invokevirtual idx, 3) := pDecN hc rfl
  subst hS
  obtain ⟨m1, m2⟩ := Bool.and_eq_true_iff.mp hm
  have m1 := mem_of_contains m1
  have m2 := mem_of_contains m2
  obtain ⟨hkA, hk1⟩ := mPlt k m2
  have hkN := mAlt k hkA
  have hret : pRet k = none → w = none := fun q => by
    rw [q] at hrb
    cases w with
    | none => rfl
    | some w => simp at hrb
  refine QTri.after hcal h fun p e R s mid args below meth c T locs cells slots C hcx X hR hC hc1 hsl => ?_
  obtain ⟨hx, hZ, hby, hml, hret', hown, hnm, hfr, hlo⟩ := hcx
  have hd2 : decode c.code pc = .ok (.invokevirtual idx, 3) := by rw [hby]; exact hd
  obtain ⟨f1, f2⟩ := QTri.room (σ := σ) (σ₁ := σ₁) hroom hfr hlo
  obtain ⟨cell, h1, h2⟩ := (hR.2.2 _ _ hcell).1.cell
  obtain ⟨w1, w2⟩ := (qw_pr W) k m2
  obtain ⟨c1, c2⟩ := (qw_cod W) k hkA
  have hpr : s.PrivateAt (pName k) := Cond.privateMethod_at (mvP hZ w2 (args := #[]))
  obtain ⟨cC, kC, i1, i2, i3, i4⟩ := Cond.instantiable_spec (args := #[]) (mvT hZ (qw_inst W))
  have hsel : (Cond.selects (pName k).cls (pName k) (pName k)).before args s = true := selects_self_of_private (c := cC) (k := kC) (by show s.vm.findClass (kName (pK k)) = _; rw [hk1]; exact i1) i2 (by have q := i4.1; cases hq : kC.isInterface with | false => rfl | true => rw [hq] at q; simp at q) hpr (mvT hZ w1) (pOwn _ (pKlt k hkN))
  obtain ⟨_, _, ⟨T₁, L₁, k₁, n₁⟩, -, X₁, ⟨Lc, ⟨rfl, hR1, hF1⟩, l₁, y₁, z₁⟩, st⟩ := X.privateBack hx (own := kName (pK m)) (index := idx) (y := pName k) hown (mvT hZ (qw_ml W (pK m, idx, k) m1)) (mvT hZ w1) hsel hpr (mvT hZ c1) (pOwn _ (pKlt k hkN))
    (backOf (W := (rest.map fun v => v.category).sum) (rm := ⟨pFr k, σ₁.length - σ.length, qhs σ₁ - qhs σ, pLo k⟩) (Q := fun v h L => v = Option.map (qv ad) w ∧ QRep Z n0 ad h σ₁ ∧ Fr n0 L) (QTri.met hkN hcal hR (Nat.le_of_ble_eq_true hlen) hret [] (Nat.le_refl _) (Nat.le_refl _) (Nat.le_refl _) (Nat.le_refl _)) hZ c1 c2 f1 f2) (g := mkF mid pc C (List.map (qv ad) (as.reverse ++ .ref a :: rest))) rfl hC (Steps.refl _) (a := ad a) h1 h2 (argsL := as.map (qv ad)) (rest := rest.map (qv ad)) (sig_len hkN hna) (by simp [qv]) (by show 2 * 0 + _ ≤ _; rw [cats_qv]; omega) hd2 (fun _ _ => ⟨rfl, rfl, hc1, hsl⟩)
  dsimp only [Pt.U, Pt.locs, Pt.cells, Pt.slots] at X₁ l₁ y₁ z₁ st hR1
  subst l₁ y₁ z₁
  exact ⟨T₁, Lc, X₁, hR1, hF1, fun target q => st.trans q⟩
set_option maxHeartbeats 4000000 in
theorem QTri.callS (W : QW Z a0) {pc idx k : Nat} {L : QLoc} {S as rest : List Value} {σ σ₁ : QHeap} {w : Option Value} (hc : pCode m pc = some (.invokestatic idx, k)) (hm : (lkV.contains (pK m, idx, k) && mS.contains k) = true) (hS : S = as.reverse ++ rest)
    (hna : as.length = pNA k) (hlen : Nat.ble ((as.map fun v => v.category).sum) (pMaxL k) = true) (hroom : (Nat.ble (pFr k + 1) (pFr m) && Nat.ble ((rest.map fun v => v.category).sum + (pMaxL k + 11) + pLo k) (pLo m)) = true) (hrb : (w.isNone || (pRet k).isSome) = true)
    (hcal : QTri l Z n0 ad k (0, qentry as (pMaxL k), [], σ) w σ₁) (h : QTri l Z n0 ad m (pc + 3, L, w.toList ++ rest, σ₁) v σ') : QTri l Z n0 ad m (pc, L, S, σ) v σ' := by
  have hd : decode (pBytes m) pc = .ok (.invokestatic idx, 3) := pDecN hc rfl
  subst hS
  obtain ⟨m1, m2⟩ := Bool.and_eq_true_iff.mp hm
  have m1 := mem_of_contains m1
  have m2 := mem_of_contains m2
  have hkA := mSlt k m2
  have hkN := mAlt k hkA
  have hret : pRet k = none → w = none := fun q => by
    rw [q] at hrb
    cases w with
    | none => rfl
    | some w => simp at hrb
  refine QTri.after hcal h fun p e R s mid args below meth c T locs cells slots C hcx X hR hC hc1 hsl => ?_
  obtain ⟨hx, hZ, hby, hml, hret', hown, hnm, hfr, hlo⟩ := hcx
  have hd2 : decode c.code pc = .ok (.invokestatic idx, 3) := by rw [hby]; exact hd
  obtain ⟨f1, f2⟩ := QTri.room (σ := σ) (σ₁ := σ₁) hroom hfr hlo
  obtain ⟨c1, c2⟩ := (qw_cod W) k hkA
  obtain ⟨_, _, ⟨T₁, L₁, k₁, n₁⟩, -, X₁, ⟨Lc, ⟨rfl, hR1, hF1⟩, l₁, y₁, z₁⟩, st⟩ := Jvm.LawKit.callS X hx (own := kName (pK m)) (index := idx) (y := pName k) hown (mvT hZ (qw_ml W (pK m, idx, k) m1)) (mvT hZ ((qw_st W) k m2)) (mvT hZ c2) (mvT hZ c1) (pOwn _ (pKlt k hkN))
    (backOf (W := (rest.map fun v => v.category).sum) (rm := ⟨pFr k, σ₁.length - σ.length, qhs σ₁ - qhs σ, pLo k⟩) (Q := fun v h L => v = Option.map (qv ad) w ∧ QRep Z n0 ad h σ₁ ∧ Fr n0 L) (QTri.met hkN hcal hR (Nat.le_of_ble_eq_true hlen) hret [] (Nat.le_refl _) (Nat.le_refl _) (Nat.le_refl _) (Nat.le_refl _)) hZ c1 c2 f1 f2) (g := mkF mid pc C (List.map (qv ad) (as.reverse ++ rest))) rfl hC (argsL := as.map (qv ad)) (rest := rest.map (qv ad)) (sig_len hkN hna) (by simp) (by show 2 * 0 + _ ≤ _; rw [cats_qv]; omega) hd2 (fun _ _ => ⟨rfl, rfl, hc1, hsl⟩)
  dsimp only [Pt.U, Pt.locs, Pt.cells, Pt.slots] at X₁ l₁ y₁ z₁ st hR1
  subst l₁ y₁ z₁
  exact ⟨T₁, Lc, X₁, hR1, hF1, fun target q => st target q⟩
set_option maxHeartbeats 4000000 in
theorem QTri.callO (W : QW Z a0) {pc idx k a : Nat} {L : QLoc} {rest : List Value} {σ : QHeap} (hc : pCode m pc = some (.invokespecial idx, k)) (hm : lkO.contains (pK m, idx) = true) (hroom : (Nat.ble 1 (pFr m) && Nat.ble ((rest.map fun v => v.category).sum + 12) (pLo m)) = true)
    (h : QTri l Z n0 ad m (pc + 3, L, rest, σ) v σ') : QTri l Z n0 ad m (pc, L, .ref a :: rest, σ) v σ' :=
  have hd : decode (pBytes m) pc = .ok (.invokespecial idx, 3) := pDecN hc rfl
  QTri.pure h rfl fun p e R s mid args below meth c T locs cells slots C hcx X hR hL hC => by
    obtain ⟨hx, hZ, hby, hml, hret', hown, hnm, hfr, hlo⟩ := hcx
    have hd2 : decode c.code pc = .ok (.invokespecial idx, 3) := by rw [hby]; exact hd
    obtain ⟨q1, q2⟩ := Bool.and_eq_true_iff.mp hroom
    obtain ⟨T₁, X₁, e₁, st⟩ := initO X hx hZ hown (idx := idx) (qw_mo W (pK m, idx) (mem_of_contains hm)) ((qw_oi W)) ((qw_oc W)) rfl (g := mkF mid pc C (List.map (qv ad) (.ref a :: rest))) rfl hC rfl hd2 (Nat.le_trans (Nat.le_of_ble_eq_true q1) hfr) (W := (rest.map fun v => v.category).sum) (by show 2 * 0 + _ ≤ _; rw [cats_qv]; omega) (Nat.le_trans (Nat.le_of_ble_eq_true q2) hlo)
    exact ⟨T₁, C, X₁, e₁, hL, hC, st⟩
theorem QTri.brT (Ad : QAd n0 ad) (W : QW Z a0) {st : QSt} {t f : Nat} {L : QLoc} {S : List Value} {σ : QHeap} {b : Bool} (hs : qstep m st = some (bif b then t else f, L, S, σ)) (hb : b = true) (h : QTri l Z n0 ad m (t, L, S, σ) v σ') : QTri l Z n0 ad m st v σ' := by
  subst hb; exact QTri.step Ad W h hs
theorem QTri.brF (Ad : QAd n0 ad) (W : QW Z a0) {st : QSt} {t f : Nat} {L : QLoc} {S : List Value} {σ : QHeap} {b : Bool} (hs : qstep m st = some (bif b then t else f, L, S, σ)) (hb : b = false) (h : QTri l Z n0 ad m (f, L, S, σ) v σ') : QTri l Z n0 ad m st v σ' := by
  subst hb; exact QTri.step Ad W h hs
theorem QTri.bnd {α : Type} (Ad : QAd n0 ad) (W : QW Z a0) {st : QSt} {x : Option α} {f : α → QSt} {a : α} (hs : qstep m st = x.bind fun v => some (f v)) (hx : x = some a) (h : QTri l Z n0 ad m (f a) v σ') : QTri l Z n0 ad m st v σ' :=
  QTri.step Ad W h (by rw [hs, hx]; rfl)
theorem QTri.bndB (Ad : QAd n0 ad) (W : QW Z a0) {st : QSt} {x y : Int32} {g : Value → QSt} (hs : qstep m st = ((qboo x).bind fun y => some (Value.int y)).bind fun w => some (g w)) (hx : qboo x = some y) (h : QTri l Z n0 ad m (g (.int y)) v σ') : QTri l Z n0 ad m st v σ' :=
  QTri.step Ad W h (by rw [hs, hx]; rfl)
end Triples
/-! ## plain: branches and loops -/
theorem qite {α : Type} {c : Prop} [Decidable c] {a b : Option α} {r : α} (h : (if c then a else b) = some r) : (c ∧ a = some r) ∨ (¬ c ∧ b = some r) := by
  by_cases hc : c
  · exact Or.inl ⟨hc, by rwa [if_pos hc] at h⟩
  · exact Or.inr ⟨hc, by rwa [if_neg hc] at h⟩
def qN : Nat := 4000
def loopN {V E : Type} (B : V → Option (E ⊕ V)) : Nat → V → Option E
  | 0, _ => none
  | n + 1, v => match B v with
    | none => none
    | some (.inl e) => some e
    | some (.inr v') => loopN B n v'
theorem loopN_tri {V E : Type} {B : V → Option (E ⊕ V)} {T : V → Prop} {KE : E → Prop} (hB : ∀ v r, B v = some r → (∀ e, r = .inl e → KE e) → (∀ v', r = .inr v' → T v') → T v) : ∀ (n : Nat) (v : V) (e : E), loopN B n v = some e → KE e → T v
  | 0, _, _, h, _ => by cases h
  | n + 1, v, e, h, k => by
    simp only [loopN] at h
    split at h
    · cases h
    · rename_i e' he
      cases h
      exact hB v _ he (fun e q => by cases q; exact k) (fun v' q => by cases q)
    · rename_i v' he
      exact hB v _ he (fun e q => by cases q) (fun v'' q => by cases q; exact loopN_tri hB n v' e h k)
/-- a loop: an invariant, a measure -/
theorem loopN_inv {V E : Type} {B : V → Option (E ⊕ V)} (I : V → Prop) (P : E → Prop) (μ : V → Nat) (hB : ∀ v, I v → (∃ e, B v = some (.inl e) ∧ P e) ∨ ∃ v', B v = some (.inr v') ∧ I v' ∧ μ v' < μ v) : ∀ (n : Nat) (v : V), I v → μ v < n → ∃ e, loopN B n v = some e ∧ P e
  | 0, _, _, h => absurd h (Nat.not_lt_zero _)
  | n + 1, v, hv, hm => by
    rcases hB v hv with ⟨e, h1, h2⟩ | ⟨v', h1, h2, h3⟩
    · exact ⟨e, by simp only [loopN, h1], h2⟩
    · obtain ⟨e, g1, g2⟩ := loopN_inv I P μ hB n v' h2 (by omega)
      exact ⟨e, by simp only [loopN, h1]; exact g1, g2⟩
theorem qfn {α : Type} {P : α → Prop} : ∀ t ∈ ([] : List α), P t := fun _ h => nomatch h
theorem qfc {α : Type} {P : α → Prop} {a : α} {t : List α} (h : P a) (ht : ∀ x ∈ t, P x) : ∀ x ∈ a :: t, P x := fun x hx => by rcases List.mem_cons.mp hx with rfl | q; exact h; exact ht x q
theorem QW_ok {Z : State} {a0 : Array Value} (hw : ∀ d ∈ tables_1, d.before a0 Z = true) : QW Z a0 := by
  have w0 : ∀ k ∈ List.range nF, bif fFin k then (Jvm.Cond.laysFinal cName cName (fNm k) (fDs k)).before a0 Z = true else (Jvm.Cond.lays cName cName (fNm k) (fDs k)).before a0 Z = true :=
    show ∀ k ∈ [0, 1, 2, 3, 4, 5, 6, 7, 8, 9, 10, 11, 12, 13, 14, 15, 16], bif fFin k then (Jvm.Cond.laysFinal cName cName (fNm k) (fDs k)).before a0 Z = true else (Jvm.Cond.lays cName cName (fNm k) (fDs k)).before a0 Z = true from
    (qfc (hw _ (List.mem_of_getElem? (i := 11) rfl)) (qfc (hw _ (List.mem_of_getElem? (i := 14) rfl)) (qfc (hw _ (List.mem_of_getElem? (i := 16) rfl)) (qfc (hw _ (List.mem_of_getElem? (i := 18) rfl)) (qfc (hw _ (List.mem_of_getElem? (i := 20) rfl)) (qfc (hw _ (List.mem_of_getElem? (i := 22) rfl)) (qfc (hw _ (List.mem_of_getElem? (i := 24) rfl)) (qfc (hw _ (List.mem_of_getElem? (i := 26) rfl)) (qfc (hw _ (List.mem_of_getElem? (i := 28) rfl)) (qfc (hw _ (List.mem_of_getElem? (i := 30) rfl)) (qfc (hw _ (List.mem_of_getElem? (i := 32) rfl)) (qfc (hw _ (List.mem_of_getElem? (i := 34) rfl)) (qfc (hw _ (List.mem_of_getElem? (i := 36) rfl)) (qfc (hw _ (List.mem_of_getElem? (i := 38) rfl)) (qfc (hw _ (List.mem_of_getElem? (i := 40) rfl)) (qfc (hw _ (List.mem_of_getElem? (i := 59) rfl)) (qfc (hw _ (List.mem_of_getElem? (i := 61) rfl)) qfn)))))))))))))))))
  refine ⟨?_, ?_, ?_, ?_, ?_, ?_, ?_, ?_, ?_, ?_, ?_, ?_, ?_, (fun k hk => w0 k (List.mem_range.mpr hk)), ?_, ?_, ?_⟩
  · exact (qfc (hw _ (List.mem_of_getElem? (i := 10) rfl)) (qfc (hw _ (List.mem_of_getElem? (i := 13) rfl)) (qfc (hw _ (List.mem_of_getElem? (i := 15) rfl)) (qfc (hw _ (List.mem_of_getElem? (i := 17) rfl)) (qfc (hw _ (List.mem_of_getElem? (i := 19) rfl)) (qfc (hw _ (List.mem_of_getElem? (i := 21) rfl)) (qfc (hw _ (List.mem_of_getElem? (i := 23) rfl)) (qfc (hw _ (List.mem_of_getElem? (i := 25) rfl)) (qfc (hw _ (List.mem_of_getElem? (i := 27) rfl)) (qfc (hw _ (List.mem_of_getElem? (i := 29) rfl)) (qfc (hw _ (List.mem_of_getElem? (i := 31) rfl)) (qfc (hw _ (List.mem_of_getElem? (i := 33) rfl)) (qfc (hw _ (List.mem_of_getElem? (i := 35) rfl)) (qfc (hw _ (List.mem_of_getElem? (i := 37) rfl)) (qfc (hw _ (List.mem_of_getElem? (i := 39) rfl)) (qfc (hw _ (List.mem_of_getElem? (i := 58) rfl)) (qfc (hw _ (List.mem_of_getElem? (i := 60) rfl)) qfn)))))))))))))))))
  · exact (qfc (hw _ (List.mem_of_getElem? (i := 0) rfl)) qfn)
  · exact qfn
  · exact qfn
  · exact (qfc (hw _ (List.mem_of_getElem? (i := 3) rfl)) (qfc (hw _ (List.mem_of_getElem? (i := 41) rfl)) (qfc (hw _ (List.mem_of_getElem? (i := 46) rfl)) (qfc (hw _ (List.mem_of_getElem? (i := 50) rfl)) (qfc (hw _ (List.mem_of_getElem? (i := 54) rfl)) (qfc (hw _ (List.mem_of_getElem? (i := 62) rfl)) (qfc (hw _ (List.mem_of_getElem? (i := 66) rfl)) (qfc (hw _ (List.mem_of_getElem? (i := 71) rfl)) (qfc (hw _ (List.mem_of_getElem? (i := 76) rfl)) (qfc (hw _ (List.mem_of_getElem? (i := 81) rfl)) (qfc (hw _ (List.mem_of_getElem? (i := 85) rfl)) (qfc (hw _ (List.mem_of_getElem? (i := 89) rfl)) (qfc (hw _ (List.mem_of_getElem? (i := 94) rfl)) qfn)))))))))))))
  · exact (qfc (hw _ (List.mem_of_getElem? (i := 6) rfl)) qfn)
  · exact (qfc ⟨(hw _ (List.mem_of_getElem? (i := 42) rfl)), (hw _ (List.mem_of_getElem? (i := 44) rfl)), (hw _ (List.mem_of_getElem? (i := 43) rfl))⟩ (qfc ⟨(hw _ (List.mem_of_getElem? (i := 67) rfl)), (hw _ (List.mem_of_getElem? (i := 69) rfl)), (hw _ (List.mem_of_getElem? (i := 68) rfl))⟩ (qfc ⟨(hw _ (List.mem_of_getElem? (i := 72) rfl)), (hw _ (List.mem_of_getElem? (i := 74) rfl)), (hw _ (List.mem_of_getElem? (i := 73) rfl))⟩ (qfc ⟨(hw _ (List.mem_of_getElem? (i := 77) rfl)), (hw _ (List.mem_of_getElem? (i := 79) rfl)), (hw _ (List.mem_of_getElem? (i := 78) rfl))⟩ (qfc ⟨(hw _ (List.mem_of_getElem? (i := 90) rfl)), (hw _ (List.mem_of_getElem? (i := 92) rfl)), (hw _ (List.mem_of_getElem? (i := 91) rfl))⟩ (qfc ⟨(hw _ (List.mem_of_getElem? (i := 95) rfl)), (hw _ (List.mem_of_getElem? (i := 97) rfl)), (hw _ (List.mem_of_getElem? (i := 96) rfl))⟩ qfn))))))
  · exact (qfc ⟨(hw _ (List.mem_of_getElem? (i := 47) rfl)), (hw _ (List.mem_of_getElem? (i := 48) rfl))⟩ (qfc ⟨(hw _ (List.mem_of_getElem? (i := 51) rfl)), (hw _ (List.mem_of_getElem? (i := 52) rfl))⟩ (qfc ⟨(hw _ (List.mem_of_getElem? (i := 55) rfl)), (hw _ (List.mem_of_getElem? (i := 56) rfl))⟩ (qfc ⟨(hw _ (List.mem_of_getElem? (i := 63) rfl)), (hw _ (List.mem_of_getElem? (i := 64) rfl))⟩ (qfc ⟨(hw _ (List.mem_of_getElem? (i := 82) rfl)), (hw _ (List.mem_of_getElem? (i := 83) rfl))⟩ (qfc ⟨(hw _ (List.mem_of_getElem? (i := 86) rfl)), (hw _ (List.mem_of_getElem? (i := 87) rfl))⟩ qfn))))))
  · exact qfn
  · exact (qfc (hw _ (List.mem_of_getElem? (i := 4) rfl)) qfn)
  · exact (qfc ⟨(hw _ (List.mem_of_getElem? (i := 5) rfl)), (hw _ (List.mem_of_getElem? (i := 2) rfl))⟩ (qfc ⟨(hw _ (List.mem_of_getElem? (i := 45) rfl)), (hw _ (List.mem_of_getElem? (i := 2) rfl))⟩ (qfc ⟨(hw _ (List.mem_of_getElem? (i := 49) rfl)), (hw _ (List.mem_of_getElem? (i := 2) rfl))⟩ (qfc ⟨(hw _ (List.mem_of_getElem? (i := 53) rfl)), (hw _ (List.mem_of_getElem? (i := 2) rfl))⟩ (qfc ⟨(hw _ (List.mem_of_getElem? (i := 57) rfl)), (hw _ (List.mem_of_getElem? (i := 2) rfl))⟩ (qfc ⟨(hw _ (List.mem_of_getElem? (i := 65) rfl)), (hw _ (List.mem_of_getElem? (i := 2) rfl))⟩ (qfc ⟨(hw _ (List.mem_of_getElem? (i := 70) rfl)), (hw _ (List.mem_of_getElem? (i := 2) rfl))⟩ (qfc ⟨(hw _ (List.mem_of_getElem? (i := 75) rfl)), (hw _ (List.mem_of_getElem? (i := 2) rfl))⟩ (qfc ⟨(hw _ (List.mem_of_getElem? (i := 80) rfl)), (hw _ (List.mem_of_getElem? (i := 2) rfl))⟩ (qfc ⟨(hw _ (List.mem_of_getElem? (i := 84) rfl)), (hw _ (List.mem_of_getElem? (i := 2) rfl))⟩ (qfc ⟨(hw _ (List.mem_of_getElem? (i := 88) rfl)), (hw _ (List.mem_of_getElem? (i := 2) rfl))⟩ (qfc ⟨(hw _ (List.mem_of_getElem? (i := 93) rfl)), (hw _ (List.mem_of_getElem? (i := 2) rfl))⟩ (qfc ⟨(hw _ (List.mem_of_getElem? (i := 98) rfl)), (hw _ (List.mem_of_getElem? (i := 2) rfl))⟩ qfn)))))))))))))
  · exact (hw _ (List.mem_of_getElem? (i := 7) rfl))
  · exact (hw _ (List.mem_of_getElem? (i := 8) rfl))
  · exact (hw _ (List.mem_of_getElem? (i := 1) rfl))
  · exact (hw _ (List.mem_of_getElem? (i := 2) rfl))
  · exact (qfc (hw _ (List.mem_of_getElem? (i := 9) rfl)) (qfc (hw _ (List.mem_of_getElem? (i := 12) rfl)) qfn))
abbrev Ob := List Int32 × List Int32 × Int32 × Int32 × Int32 × Int32 × List Int32 × List Int32 × List Int32 × List Int32 × List Int32 × List Int32 × Int32 × Int32 × Int32 × Int32 × Int32
def f_data (o : Ob) : List Int32 := o.1
def f_filled (o : Ob) : List Int32 := o.2.1
def f_rf (o : Ob) : Int32 := o.2.2.1
def f_cf (o : Ob) : Int32 := o.2.2.2.1
def f_vf (o : Ob) : Int32 := o.2.2.2.2.1
def f_ag (o : Ob) : Int32 := o.2.2.2.2.2.1
def f_fMode (o : Ob) : List Int32 := o.2.2.2.2.2.2.1
def f_fRk (o : Ob) : List Int32 := o.2.2.2.2.2.2.2.1
def f_fCk (o : Ob) : List Int32 := o.2.2.2.2.2.2.2.2.1
def f_prevVal (o : Ob) : List Int32 := o.2.2.2.2.2.2.2.2.2.1
def f_prevFound (o : Ob) : List Int32 := o.2.2.2.2.2.2.2.2.2.2.1
def f_keys (o : Ob) : List Int32 := o.2.2.2.2.2.2.2.2.2.2.2.1
def f_nRows (o : Ob) : Int32 := o.2.2.2.2.2.2.2.2.2.2.2.2.1
def f_nForms (o : Ob) : Int32 := o.2.2.2.2.2.2.2.2.2.2.2.2.2.1
def f_last (o : Ob) : Int32 := o.2.2.2.2.2.2.2.2.2.2.2.2.2.2.1
def f_gVal (o : Ob) : Int32 := o.2.2.2.2.2.2.2.2.2.2.2.2.2.2.2.1
def f_gCount (o : Ob) : Int32 := o.2.2.2.2.2.2.2.2.2.2.2.2.2.2.2.2
def s_data (o : Ob) (v : List Int32) : Ob := (v, o.2.1, o.2.2.1, o.2.2.2.1, o.2.2.2.2.1, o.2.2.2.2.2.1, o.2.2.2.2.2.2.1, o.2.2.2.2.2.2.2.1, o.2.2.2.2.2.2.2.2.1, o.2.2.2.2.2.2.2.2.2.1, o.2.2.2.2.2.2.2.2.2.2.1, o.2.2.2.2.2.2.2.2.2.2.2.1, o.2.2.2.2.2.2.2.2.2.2.2.2.1, o.2.2.2.2.2.2.2.2.2.2.2.2.2.1, o.2.2.2.2.2.2.2.2.2.2.2.2.2.2.1, o.2.2.2.2.2.2.2.2.2.2.2.2.2.2.2.1, o.2.2.2.2.2.2.2.2.2.2.2.2.2.2.2.2)
def s_filled (o : Ob) (v : List Int32) : Ob := (o.1, v, o.2.2.1, o.2.2.2.1, o.2.2.2.2.1, o.2.2.2.2.2.1, o.2.2.2.2.2.2.1, o.2.2.2.2.2.2.2.1, o.2.2.2.2.2.2.2.2.1, o.2.2.2.2.2.2.2.2.2.1, o.2.2.2.2.2.2.2.2.2.2.1, o.2.2.2.2.2.2.2.2.2.2.2.1, o.2.2.2.2.2.2.2.2.2.2.2.2.1, o.2.2.2.2.2.2.2.2.2.2.2.2.2.1, o.2.2.2.2.2.2.2.2.2.2.2.2.2.2.1, o.2.2.2.2.2.2.2.2.2.2.2.2.2.2.2.1, o.2.2.2.2.2.2.2.2.2.2.2.2.2.2.2.2)
def s_rf (o : Ob) (v : Int32) : Ob := (o.1, o.2.1, v, o.2.2.2.1, o.2.2.2.2.1, o.2.2.2.2.2.1, o.2.2.2.2.2.2.1, o.2.2.2.2.2.2.2.1, o.2.2.2.2.2.2.2.2.1, o.2.2.2.2.2.2.2.2.2.1, o.2.2.2.2.2.2.2.2.2.2.1, o.2.2.2.2.2.2.2.2.2.2.2.1, o.2.2.2.2.2.2.2.2.2.2.2.2.1, o.2.2.2.2.2.2.2.2.2.2.2.2.2.1, o.2.2.2.2.2.2.2.2.2.2.2.2.2.2.1, o.2.2.2.2.2.2.2.2.2.2.2.2.2.2.2.1, o.2.2.2.2.2.2.2.2.2.2.2.2.2.2.2.2)
def s_cf (o : Ob) (v : Int32) : Ob := (o.1, o.2.1, o.2.2.1, v, o.2.2.2.2.1, o.2.2.2.2.2.1, o.2.2.2.2.2.2.1, o.2.2.2.2.2.2.2.1, o.2.2.2.2.2.2.2.2.1, o.2.2.2.2.2.2.2.2.2.1, o.2.2.2.2.2.2.2.2.2.2.1, o.2.2.2.2.2.2.2.2.2.2.2.1, o.2.2.2.2.2.2.2.2.2.2.2.2.1, o.2.2.2.2.2.2.2.2.2.2.2.2.2.1, o.2.2.2.2.2.2.2.2.2.2.2.2.2.2.1, o.2.2.2.2.2.2.2.2.2.2.2.2.2.2.2.1, o.2.2.2.2.2.2.2.2.2.2.2.2.2.2.2.2)
def s_vf (o : Ob) (v : Int32) : Ob := (o.1, o.2.1, o.2.2.1, o.2.2.2.1, v, o.2.2.2.2.2.1, o.2.2.2.2.2.2.1, o.2.2.2.2.2.2.2.1, o.2.2.2.2.2.2.2.2.1, o.2.2.2.2.2.2.2.2.2.1, o.2.2.2.2.2.2.2.2.2.2.1, o.2.2.2.2.2.2.2.2.2.2.2.1, o.2.2.2.2.2.2.2.2.2.2.2.2.1, o.2.2.2.2.2.2.2.2.2.2.2.2.2.1, o.2.2.2.2.2.2.2.2.2.2.2.2.2.2.1, o.2.2.2.2.2.2.2.2.2.2.2.2.2.2.2.1, o.2.2.2.2.2.2.2.2.2.2.2.2.2.2.2.2)
def s_ag (o : Ob) (v : Int32) : Ob := (o.1, o.2.1, o.2.2.1, o.2.2.2.1, o.2.2.2.2.1, v, o.2.2.2.2.2.2.1, o.2.2.2.2.2.2.2.1, o.2.2.2.2.2.2.2.2.1, o.2.2.2.2.2.2.2.2.2.1, o.2.2.2.2.2.2.2.2.2.2.1, o.2.2.2.2.2.2.2.2.2.2.2.1, o.2.2.2.2.2.2.2.2.2.2.2.2.1, o.2.2.2.2.2.2.2.2.2.2.2.2.2.1, o.2.2.2.2.2.2.2.2.2.2.2.2.2.2.1, o.2.2.2.2.2.2.2.2.2.2.2.2.2.2.2.1, o.2.2.2.2.2.2.2.2.2.2.2.2.2.2.2.2)
def s_fMode (o : Ob) (v : List Int32) : Ob := (o.1, o.2.1, o.2.2.1, o.2.2.2.1, o.2.2.2.2.1, o.2.2.2.2.2.1, v, o.2.2.2.2.2.2.2.1, o.2.2.2.2.2.2.2.2.1, o.2.2.2.2.2.2.2.2.2.1, o.2.2.2.2.2.2.2.2.2.2.1, o.2.2.2.2.2.2.2.2.2.2.2.1, o.2.2.2.2.2.2.2.2.2.2.2.2.1, o.2.2.2.2.2.2.2.2.2.2.2.2.2.1, o.2.2.2.2.2.2.2.2.2.2.2.2.2.2.1, o.2.2.2.2.2.2.2.2.2.2.2.2.2.2.2.1, o.2.2.2.2.2.2.2.2.2.2.2.2.2.2.2.2)
def s_fRk (o : Ob) (v : List Int32) : Ob := (o.1, o.2.1, o.2.2.1, o.2.2.2.1, o.2.2.2.2.1, o.2.2.2.2.2.1, o.2.2.2.2.2.2.1, v, o.2.2.2.2.2.2.2.2.1, o.2.2.2.2.2.2.2.2.2.1, o.2.2.2.2.2.2.2.2.2.2.1, o.2.2.2.2.2.2.2.2.2.2.2.1, o.2.2.2.2.2.2.2.2.2.2.2.2.1, o.2.2.2.2.2.2.2.2.2.2.2.2.2.1, o.2.2.2.2.2.2.2.2.2.2.2.2.2.2.1, o.2.2.2.2.2.2.2.2.2.2.2.2.2.2.2.1, o.2.2.2.2.2.2.2.2.2.2.2.2.2.2.2.2)
def s_fCk (o : Ob) (v : List Int32) : Ob := (o.1, o.2.1, o.2.2.1, o.2.2.2.1, o.2.2.2.2.1, o.2.2.2.2.2.1, o.2.2.2.2.2.2.1, o.2.2.2.2.2.2.2.1, v, o.2.2.2.2.2.2.2.2.2.1, o.2.2.2.2.2.2.2.2.2.2.1, o.2.2.2.2.2.2.2.2.2.2.2.1, o.2.2.2.2.2.2.2.2.2.2.2.2.1, o.2.2.2.2.2.2.2.2.2.2.2.2.2.1, o.2.2.2.2.2.2.2.2.2.2.2.2.2.2.1, o.2.2.2.2.2.2.2.2.2.2.2.2.2.2.2.1, o.2.2.2.2.2.2.2.2.2.2.2.2.2.2.2.2)
def s_prevVal (o : Ob) (v : List Int32) : Ob := (o.1, o.2.1, o.2.2.1, o.2.2.2.1, o.2.2.2.2.1, o.2.2.2.2.2.1, o.2.2.2.2.2.2.1, o.2.2.2.2.2.2.2.1, o.2.2.2.2.2.2.2.2.1, v, o.2.2.2.2.2.2.2.2.2.2.1, o.2.2.2.2.2.2.2.2.2.2.2.1, o.2.2.2.2.2.2.2.2.2.2.2.2.1, o.2.2.2.2.2.2.2.2.2.2.2.2.2.1, o.2.2.2.2.2.2.2.2.2.2.2.2.2.2.1, o.2.2.2.2.2.2.2.2.2.2.2.2.2.2.2.1, o.2.2.2.2.2.2.2.2.2.2.2.2.2.2.2.2)
def s_prevFound (o : Ob) (v : List Int32) : Ob := (o.1, o.2.1, o.2.2.1, o.2.2.2.1, o.2.2.2.2.1, o.2.2.2.2.2.1, o.2.2.2.2.2.2.1, o.2.2.2.2.2.2.2.1, o.2.2.2.2.2.2.2.2.1, o.2.2.2.2.2.2.2.2.2.1, v, o.2.2.2.2.2.2.2.2.2.2.2.1, o.2.2.2.2.2.2.2.2.2.2.2.2.1, o.2.2.2.2.2.2.2.2.2.2.2.2.2.1, o.2.2.2.2.2.2.2.2.2.2.2.2.2.2.1, o.2.2.2.2.2.2.2.2.2.2.2.2.2.2.2.1, o.2.2.2.2.2.2.2.2.2.2.2.2.2.2.2.2)
def s_keys (o : Ob) (v : List Int32) : Ob := (o.1, o.2.1, o.2.2.1, o.2.2.2.1, o.2.2.2.2.1, o.2.2.2.2.2.1, o.2.2.2.2.2.2.1, o.2.2.2.2.2.2.2.1, o.2.2.2.2.2.2.2.2.1, o.2.2.2.2.2.2.2.2.2.1, o.2.2.2.2.2.2.2.2.2.2.1, v, o.2.2.2.2.2.2.2.2.2.2.2.2.1, o.2.2.2.2.2.2.2.2.2.2.2.2.2.1, o.2.2.2.2.2.2.2.2.2.2.2.2.2.2.1, o.2.2.2.2.2.2.2.2.2.2.2.2.2.2.2.1, o.2.2.2.2.2.2.2.2.2.2.2.2.2.2.2.2)
def s_nRows (o : Ob) (v : Int32) : Ob := (o.1, o.2.1, o.2.2.1, o.2.2.2.1, o.2.2.2.2.1, o.2.2.2.2.2.1, o.2.2.2.2.2.2.1, o.2.2.2.2.2.2.2.1, o.2.2.2.2.2.2.2.2.1, o.2.2.2.2.2.2.2.2.2.1, o.2.2.2.2.2.2.2.2.2.2.1, o.2.2.2.2.2.2.2.2.2.2.2.1, v, o.2.2.2.2.2.2.2.2.2.2.2.2.2.1, o.2.2.2.2.2.2.2.2.2.2.2.2.2.2.1, o.2.2.2.2.2.2.2.2.2.2.2.2.2.2.2.1, o.2.2.2.2.2.2.2.2.2.2.2.2.2.2.2.2)
def s_nForms (o : Ob) (v : Int32) : Ob := (o.1, o.2.1, o.2.2.1, o.2.2.2.1, o.2.2.2.2.1, o.2.2.2.2.2.1, o.2.2.2.2.2.2.1, o.2.2.2.2.2.2.2.1, o.2.2.2.2.2.2.2.2.1, o.2.2.2.2.2.2.2.2.2.1, o.2.2.2.2.2.2.2.2.2.2.1, o.2.2.2.2.2.2.2.2.2.2.2.1, o.2.2.2.2.2.2.2.2.2.2.2.2.1, v, o.2.2.2.2.2.2.2.2.2.2.2.2.2.2.1, o.2.2.2.2.2.2.2.2.2.2.2.2.2.2.2.1, o.2.2.2.2.2.2.2.2.2.2.2.2.2.2.2.2)
def s_last (o : Ob) (v : Int32) : Ob := (o.1, o.2.1, o.2.2.1, o.2.2.2.1, o.2.2.2.2.1, o.2.2.2.2.2.1, o.2.2.2.2.2.2.1, o.2.2.2.2.2.2.2.1, o.2.2.2.2.2.2.2.2.1, o.2.2.2.2.2.2.2.2.2.1, o.2.2.2.2.2.2.2.2.2.2.1, o.2.2.2.2.2.2.2.2.2.2.2.1, o.2.2.2.2.2.2.2.2.2.2.2.2.1, o.2.2.2.2.2.2.2.2.2.2.2.2.2.1, v, o.2.2.2.2.2.2.2.2.2.2.2.2.2.2.2.1, o.2.2.2.2.2.2.2.2.2.2.2.2.2.2.2.2)
def s_gVal (o : Ob) (v : Int32) : Ob := (o.1, o.2.1, o.2.2.1, o.2.2.2.1, o.2.2.2.2.1, o.2.2.2.2.2.1, o.2.2.2.2.2.2.1, o.2.2.2.2.2.2.2.1, o.2.2.2.2.2.2.2.2.1, o.2.2.2.2.2.2.2.2.2.1, o.2.2.2.2.2.2.2.2.2.2.1, o.2.2.2.2.2.2.2.2.2.2.2.1, o.2.2.2.2.2.2.2.2.2.2.2.2.1, o.2.2.2.2.2.2.2.2.2.2.2.2.2.1, o.2.2.2.2.2.2.2.2.2.2.2.2.2.2.1, v, o.2.2.2.2.2.2.2.2.2.2.2.2.2.2.2.2)
def s_gCount (o : Ob) (v : Int32) : Ob := (o.1, o.2.1, o.2.2.1, o.2.2.2.1, o.2.2.2.2.1, o.2.2.2.2.2.1, o.2.2.2.2.2.2.1, o.2.2.2.2.2.2.2.1, o.2.2.2.2.2.2.2.2.1, o.2.2.2.2.2.2.2.2.2.1, o.2.2.2.2.2.2.2.2.2.2.1, o.2.2.2.2.2.2.2.2.2.2.2.1, o.2.2.2.2.2.2.2.2.2.2.2.2.1, o.2.2.2.2.2.2.2.2.2.2.2.2.2.1, o.2.2.2.2.2.2.2.2.2.2.2.2.2.2.1, o.2.2.2.2.2.2.2.2.2.2.2.2.2.2.2.1, v)
def ob0 : Ob := ([], [], 0, 0, 0, 0, [], [], [], [], [], [], 0, 0, 0, 0, 0)
section Walks
variable {l : Launch} {Z : State} {n0 : Nat} {ad : Nat → Addr} {a0 : Array Value}
set_option maxRecDepth 20000
def H0 (o0 : Ob) : QHeap := [.inl [.ref 1, .ref 2, .int (f_rf o0), .int (f_cf o0), .int (f_vf o0), .int (f_ag o0), .ref 3, .ref 4, .ref 5, .ref 6, .ref 7, .ref 8, .int (f_nRows o0), .int (f_nForms o0), .int (f_last o0), .int (f_gVal o0), .int (f_gCount o0)], .inr (.inl (.int, (f_data o0))), .inr (.inl (.boolean, (f_filled o0))), .inr (.inl (.int, (f_fMode o0))), .inr (.inl (.int, (f_fRk o0))), .inr (.inl (.int, (f_fCk o0))), .inr (.inl (.int, (f_prevVal o0))), .inr (.inl (.boolean, (f_prevFound o0))), .inr (.inl (.int, (f_keys o0)))]
/-- init(II)V -/
def F1 (x1 : Int32) (x2 : Int32) : Option (Ob) :=
  some (s_last (s_nForms (s_nRows (s_keys (s_prevFound (s_prevVal (s_fCk (s_fRk (s_fMode (s_ag (s_vf (s_cf (s_rf (s_filled (s_data ob0 (List.replicate 128 0)) (List.replicate 32 0)) (0 : Int32)) (1 : Int32)) (2 : Int32)) (0 : Int32)) (List.replicate 16 0)) (List.replicate 16 0)) (List.replicate 16 0)) (List.replicate 16 0)) (List.replicate 16 0)) (List.replicate 64 0)) (if (32 : Int32) < (if x1 < (4 : Int32) then (4 : Int32) else x1) then (32 : Int32) else (if x1 < (4 : Int32) then (4 : Int32) else x1))) (if (16 : Int32) < (if x2 < (1 : Int32) then (1 : Int32) else x2) then (16 : Int32) else (if x2 < (1 : Int32) then (1 : Int32) else x2))) (0 : Int32))
theorem tF1 (Ad : QAd n0 ad) (W : QW Z a0) (x1 : Int32) (x2 : Int32) {r : Ob} (h : F1 x1 x2 = some r) : QTri l Z n0 ad 1 (0, qentry [.ref 0, .int x1, .int x2] (pMaxL 1), [], [.inl [.null, .null, .int (f_rf ob0), .int (f_cf ob0), .int (f_vf ob0), .int (f_ag ob0), .null, .null, .null, .null, .null, .null, .int (f_nRows ob0), .int (f_nForms ob0), .int (f_last ob0), .int (f_gVal ob0), .int (f_gCount ob0)]]) (none : Option Value) (H0 r) := by
  unfold F1 at h
  refine QTri.steps Ad W 1 (st' := (1, [some (.ref 0), some (.int x1), some (.int x2), none, none], [.ref 0], [.inl [.null, .null, .int (f_rf ob0), .int (f_cf ob0), .int (f_vf ob0), .int (f_ag ob0), .null, .null, .null, .null, .null, .null, .int (f_nRows ob0), .int (f_nForms ob0), .int (f_last ob0), .int (f_gVal ob0), .int (f_gCount ob0)]])) rfl ?_
  refine QTri.callO W rfl rfl rfl ?_
  refine QTri.steps Ad W 3 (st' := (10, [some (.ref 0), some (.int x1), some (.int x2), none, none], [.ref 1, .ref 0], [.inl [.null, .null, .int (f_rf ob0), .int (f_cf ob0), .int (f_vf ob0), .int (f_ag ob0), .null, .null, .null, .null, .null, .null, .int (f_nRows ob0), .int (f_nForms ob0), .int (f_last ob0), .int (f_gVal ob0), .int (f_gCount ob0)], .inr (.inl (.int, (List.replicate 128 0)))])) rfl ?_
  refine QTri.steps Ad W 1 (st' := (13, [some (.ref 0), some (.int x1), some (.int x2), none, none], [], [.inl [.ref 1, .null, .int (f_rf ob0), .int (f_cf ob0), .int (f_vf ob0), .int (f_ag ob0), .null, .null, .null, .null, .null, .null, .int (f_nRows ob0), .int (f_nForms ob0), .int (f_last ob0), .int (f_gVal ob0), .int (f_gCount ob0)], .inr (.inl (.int, (List.replicate 128 0)))])) rfl ?_
  refine QTri.steps Ad W 3 (st' := (18, [some (.ref 0), some (.int x1), some (.int x2), none, none], [.ref 2, .ref 0], [.inl [.ref 1, .null, .int (f_rf ob0), .int (f_cf ob0), .int (f_vf ob0), .int (f_ag ob0), .null, .null, .null, .null, .null, .null, .int (f_nRows ob0), .int (f_nForms ob0), .int (f_last ob0), .int (f_gVal ob0), .int (f_gCount ob0)], .inr (.inl (.int, (List.replicate 128 0))), .inr (.inl (.boolean, (List.replicate 32 0)))])) rfl ?_
  refine QTri.steps Ad W 1 (st' := (21, [some (.ref 0), some (.int x1), some (.int x2), none, none], [], [.inl [.ref 1, .ref 2, .int (f_rf ob0), .int (f_cf ob0), .int (f_vf ob0), .int (f_ag ob0), .null, .null, .null, .null, .null, .null, .int (f_nRows ob0), .int (f_nForms ob0), .int (f_last ob0), .int (f_gVal ob0), .int (f_gCount ob0)], .inr (.inl (.int, (List.replicate 128 0))), .inr (.inl (.boolean, (List.replicate 32 0)))])) rfl ?_
  refine QTri.steps Ad W 3 (st' := (26, [some (.ref 0), some (.int x1), some (.int x2), none, none], [], [.inl [.ref 1, .ref 2, .int (0 : Int32), .int (f_cf ob0), .int (f_vf ob0), .int (f_ag ob0), .null, .null, .null, .null, .null, .null, .int (f_nRows ob0), .int (f_nForms ob0), .int (f_last ob0), .int (f_gVal ob0), .int (f_gCount ob0)], .inr (.inl (.int, (List.replicate 128 0))), .inr (.inl (.boolean, (List.replicate 32 0)))])) rfl ?_
  refine QTri.steps Ad W 3 (st' := (31, [some (.ref 0), some (.int x1), some (.int x2), none, none], [], [.inl [.ref 1, .ref 2, .int (0 : Int32), .int (1 : Int32), .int (f_vf ob0), .int (f_ag ob0), .null, .null, .null, .null, .null, .null, .int (f_nRows ob0), .int (f_nForms ob0), .int (f_last ob0), .int (f_gVal ob0), .int (f_gCount ob0)], .inr (.inl (.int, (List.replicate 128 0))), .inr (.inl (.boolean, (List.replicate 32 0)))])) rfl ?_
  refine QTri.steps Ad W 3 (st' := (36, [some (.ref 0), some (.int x1), some (.int x2), none, none], [], [.inl [.ref 1, .ref 2, .int (0 : Int32), .int (1 : Int32), .int (2 : Int32), .int (f_ag ob0), .null, .null, .null, .null, .null, .null, .int (f_nRows ob0), .int (f_nForms ob0), .int (f_last ob0), .int (f_gVal ob0), .int (f_gCount ob0)], .inr (.inl (.int, (List.replicate 128 0))), .inr (.inl (.boolean, (List.replicate 32 0)))])) rfl ?_
  refine QTri.steps Ad W 3 (st' := (41, [some (.ref 0), some (.int x1), some (.int x2), none, none], [], [.inl [.ref 1, .ref 2, .int (0 : Int32), .int (1 : Int32), .int (2 : Int32), .int (0 : Int32), .null, .null, .null, .null, .null, .null, .int (f_nRows ob0), .int (f_nForms ob0), .int (f_last ob0), .int (f_gVal ob0), .int (f_gCount ob0)], .inr (.inl (.int, (List.replicate 128 0))), .inr (.inl (.boolean, (List.replicate 32 0)))])) rfl ?_
  refine QTri.steps Ad W 3 (st' := (46, [some (.ref 0), some (.int x1), some (.int x2), none, none], [.ref 3, .ref 0], [.inl [.ref 1, .ref 2, .int (0 : Int32), .int (1 : Int32), .int (2 : Int32), .int (0 : Int32), .null, .null, .null, .null, .null, .null, .int (f_nRows ob0), .int (f_nForms ob0), .int (f_last ob0), .int (f_gVal ob0), .int (f_gCount ob0)], .inr (.inl (.int, (List.replicate 128 0))), .inr (.inl (.boolean, (List.replicate 32 0))), .inr (.inl (.int, (List.replicate 16 0)))])) rfl ?_
  refine QTri.steps Ad W 1 (st' := (49, [some (.ref 0), some (.int x1), some (.int x2), none, none], [], [.inl [.ref 1, .ref 2, .int (0 : Int32), .int (1 : Int32), .int (2 : Int32), .int (0 : Int32), .ref 3, .null, .null, .null, .null, .null, .int (f_nRows ob0), .int (f_nForms ob0), .int (f_last ob0), .int (f_gVal ob0), .int (f_gCount ob0)], .inr (.inl (.int, (List.replicate 128 0))), .inr (.inl (.boolean, (List.replicate 32 0))), .inr (.inl (.int, (List.replicate 16 0)))])) rfl ?_
  refine QTri.steps Ad W 3 (st' := (54, [some (.ref 0), some (.int x1), some (.int x2), none, none], [.ref 4, .ref 0], [.inl [.ref 1, .ref 2, .int (0 : Int32), .int (1 : Int32), .int (2 : Int32), .int (0 : Int32), .ref 3, .null, .null, .null, .null, .null, .int (f_nRows ob0), .int (f_nForms ob0), .int (f_last ob0), .int (f_gVal ob0), .int (f_gCount ob0)], .inr (.inl (.int, (List.replicate 128 0))), .inr (.inl (.boolean, (List.replicate 32 0))), .inr (.inl (.int, (List.replicate 16 0))), .inr (.inl (.int, (List.replicate 16 0)))])) rfl ?_
  refine QTri.steps Ad W 1 (st' := (57, [some (.ref 0), some (.int x1), some (.int x2), none, none], [], [.inl [.ref 1, .ref 2, .int (0 : Int32), .int (1 : Int32), .int (2 : Int32), .int (0 : Int32), .ref 3, .ref 4, .null, .null, .null, .null, .int (f_nRows ob0), .int (f_nForms ob0), .int (f_last ob0), .int (f_gVal ob0), .int (f_gCount ob0)], .inr (.inl (.int, (List.replicate 128 0))), .inr (.inl (.boolean, (List.replicate 32 0))), .inr (.inl (.int, (List.replicate 16 0))), .inr (.inl (.int, (List.replicate 16 0)))])) rfl ?_
  refine QTri.steps Ad W 3 (st' := (62, [some (.ref 0), some (.int x1), some (.int x2), none, none], [.ref 5, .ref 0], [.inl [.ref 1, .ref 2, .int (0 : Int32), .int (1 : Int32), .int (2 : Int32), .int (0 : Int32), .ref 3, .ref 4, .null, .null, .null, .null, .int (f_nRows ob0), .int (f_nForms ob0), .int (f_last ob0), .int (f_gVal ob0), .int (f_gCount ob0)], .inr (.inl (.int, (List.replicate 128 0))), .inr (.inl (.boolean, (List.replicate 32 0))), .inr (.inl (.int, (List.replicate 16 0))), .inr (.inl (.int, (List.replicate 16 0))), .inr (.inl (.int, (List.replicate 16 0)))])) rfl ?_
  refine QTri.steps Ad W 1 (st' := (65, [some (.ref 0), some (.int x1), some (.int x2), none, none], [], [.inl [.ref 1, .ref 2, .int (0 : Int32), .int (1 : Int32), .int (2 : Int32), .int (0 : Int32), .ref 3, .ref 4, .ref 5, .null, .null, .null, .int (f_nRows ob0), .int (f_nForms ob0), .int (f_last ob0), .int (f_gVal ob0), .int (f_gCount ob0)], .inr (.inl (.int, (List.replicate 128 0))), .inr (.inl (.boolean, (List.replicate 32 0))), .inr (.inl (.int, (List.replicate 16 0))), .inr (.inl (.int, (List.replicate 16 0))), .inr (.inl (.int, (List.replicate 16 0)))])) rfl ?_
  refine QTri.steps Ad W 3 (st' := (70, [some (.ref 0), some (.int x1), some (.int x2), none, none], [.ref 6, .ref 0], [.inl [.ref 1, .ref 2, .int (0 : Int32), .int (1 : Int32), .int (2 : Int32), .int (0 : Int32), .ref 3, .ref 4, .ref 5, .null, .null, .null, .int (f_nRows ob0), .int (f_nForms ob0), .int (f_last ob0), .int (f_gVal ob0), .int (f_gCount ob0)], .inr (.inl (.int, (List.replicate 128 0))), .inr (.inl (.boolean, (List.replicate 32 0))), .inr (.inl (.int, (List.replicate 16 0))), .inr (.inl (.int, (List.replicate 16 0))), .inr (.inl (.int, (List.replicate 16 0))), .inr (.inl (.int, (List.replicate 16 0)))])) rfl ?_
  refine QTri.steps Ad W 1 (st' := (73, [some (.ref 0), some (.int x1), some (.int x2), none, none], [], [.inl [.ref 1, .ref 2, .int (0 : Int32), .int (1 : Int32), .int (2 : Int32), .int (0 : Int32), .ref 3, .ref 4, .ref 5, .ref 6, .null, .null, .int (f_nRows ob0), .int (f_nForms ob0), .int (f_last ob0), .int (f_gVal ob0), .int (f_gCount ob0)], .inr (.inl (.int, (List.replicate 128 0))), .inr (.inl (.boolean, (List.replicate 32 0))), .inr (.inl (.int, (List.replicate 16 0))), .inr (.inl (.int, (List.replicate 16 0))), .inr (.inl (.int, (List.replicate 16 0))), .inr (.inl (.int, (List.replicate 16 0)))])) rfl ?_
  refine QTri.steps Ad W 3 (st' := (78, [some (.ref 0), some (.int x1), some (.int x2), none, none], [.ref 7, .ref 0], [.inl [.ref 1, .ref 2, .int (0 : Int32), .int (1 : Int32), .int (2 : Int32), .int (0 : Int32), .ref 3, .ref 4, .ref 5, .ref 6, .null, .null, .int (f_nRows ob0), .int (f_nForms ob0), .int (f_last ob0), .int (f_gVal ob0), .int (f_gCount ob0)], .inr (.inl (.int, (List.replicate 128 0))), .inr (.inl (.boolean, (List.replicate 32 0))), .inr (.inl (.int, (List.replicate 16 0))), .inr (.inl (.int, (List.replicate 16 0))), .inr (.inl (.int, (List.replicate 16 0))), .inr (.inl (.int, (List.replicate 16 0))), .inr (.inl (.boolean, (List.replicate 16 0)))])) rfl ?_
  refine QTri.steps Ad W 1 (st' := (81, [some (.ref 0), some (.int x1), some (.int x2), none, none], [], [.inl [.ref 1, .ref 2, .int (0 : Int32), .int (1 : Int32), .int (2 : Int32), .int (0 : Int32), .ref 3, .ref 4, .ref 5, .ref 6, .ref 7, .null, .int (f_nRows ob0), .int (f_nForms ob0), .int (f_last ob0), .int (f_gVal ob0), .int (f_gCount ob0)], .inr (.inl (.int, (List.replicate 128 0))), .inr (.inl (.boolean, (List.replicate 32 0))), .inr (.inl (.int, (List.replicate 16 0))), .inr (.inl (.int, (List.replicate 16 0))), .inr (.inl (.int, (List.replicate 16 0))), .inr (.inl (.int, (List.replicate 16 0))), .inr (.inl (.boolean, (List.replicate 16 0)))])) rfl ?_
  refine QTri.steps Ad W 3 (st' := (86, [some (.ref 0), some (.int x1), some (.int x2), none, none], [.ref 8, .ref 0], [.inl [.ref 1, .ref 2, .int (0 : Int32), .int (1 : Int32), .int (2 : Int32), .int (0 : Int32), .ref 3, .ref 4, .ref 5, .ref 6, .ref 7, .null, .int (f_nRows ob0), .int (f_nForms ob0), .int (f_last ob0), .int (f_gVal ob0), .int (f_gCount ob0)], .inr (.inl (.int, (List.replicate 128 0))), .inr (.inl (.boolean, (List.replicate 32 0))), .inr (.inl (.int, (List.replicate 16 0))), .inr (.inl (.int, (List.replicate 16 0))), .inr (.inl (.int, (List.replicate 16 0))), .inr (.inl (.int, (List.replicate 16 0))), .inr (.inl (.boolean, (List.replicate 16 0))), .inr (.inl (.int, (List.replicate 64 0)))])) rfl ?_
  refine QTri.steps Ad W 1 (st' := (89, [some (.ref 0), some (.int x1), some (.int x2), none, none], [], [.inl [.ref 1, .ref 2, .int (0 : Int32), .int (1 : Int32), .int (2 : Int32), .int (0 : Int32), .ref 3, .ref 4, .ref 5, .ref 6, .ref 7, .ref 8, .int (f_nRows ob0), .int (f_nForms ob0), .int (f_last ob0), .int (f_gVal ob0), .int (f_gCount ob0)], .inr (.inl (.int, (List.replicate 128 0))), .inr (.inl (.boolean, (List.replicate 32 0))), .inr (.inl (.int, (List.replicate 16 0))), .inr (.inl (.int, (List.replicate 16 0))), .inr (.inl (.int, (List.replicate 16 0))), .inr (.inl (.int, (List.replicate 16 0))), .inr (.inl (.boolean, (List.replicate 16 0))), .inr (.inl (.int, (List.replicate 64 0)))])) rfl ?_
  refine QTri.steps Ad W 4 (st' := (93, [some (.ref 0), some (.int x1), some (.int x2), some (.int x1), none], [.int (4 : Int32), .int x1], [.inl [.ref 1, .ref 2, .int (0 : Int32), .int (1 : Int32), .int (2 : Int32), .int (0 : Int32), .ref 3, .ref 4, .ref 5, .ref 6, .ref 7, .ref 8, .int (f_nRows ob0), .int (f_nForms ob0), .int (f_last ob0), .int (f_gVal ob0), .int (f_gCount ob0)], .inr (.inl (.int, (List.replicate 128 0))), .inr (.inl (.boolean, (List.replicate 32 0))), .inr (.inl (.int, (List.replicate 16 0))), .inr (.inl (.int, (List.replicate 16 0))), .inr (.inl (.int, (List.replicate 16 0))), .inr (.inl (.int, (List.replicate 16 0))), .inr (.inl (.boolean, (List.replicate 16 0))), .inr (.inl (.int, (List.replicate 64 0)))])) rfl ?_
  have K2 : ∀ z1 : Int32, z1 = (if x1 < (4 : Int32) then (4 : Int32) else x1) → QTri l Z n0 ad 1 (98, [some (.ref 0), none, some (.int x2), some (.int z1), none], [], [.inl [.ref 1, .ref 2, .int (0 : Int32), .int (1 : Int32), .int (2 : Int32), .int (0 : Int32), .ref 3, .ref 4, .ref 5, .ref 6, .ref 7, .ref 8, .int (f_nRows ob0), .int (f_nForms ob0), .int (f_last ob0), .int (f_gVal ob0), .int (f_gCount ob0)], .inr (.inl (.int, (List.replicate 128 0))), .inr (.inl (.boolean, (List.replicate 32 0))), .inr (.inl (.int, (List.replicate 16 0))), .inr (.inl (.int, (List.replicate 16 0))), .inr (.inl (.int, (List.replicate 16 0))), .inr (.inl (.int, (List.replicate 16 0))), .inr (.inl (.boolean, (List.replicate 16 0))), .inr (.inl (.int, (List.replicate 64 0)))]) (none : Option Value) (H0 r) := by
    intro z1 ez1
    subst ez1
    refine QTri.steps Ad W 2 (st' := (101, [some (.ref 0), none, some (.int x2), some (.int (if x1 < (4 : Int32) then (4 : Int32) else x1)), none], [.int (32 : Int32), .int (if x1 < (4 : Int32) then (4 : Int32) else x1)], [.inl [.ref 1, .ref 2, .int (0 : Int32), .int (1 : Int32), .int (2 : Int32), .int (0 : Int32), .ref 3, .ref 4, .ref 5, .ref 6, .ref 7, .ref 8, .int (f_nRows ob0), .int (f_nForms ob0), .int (f_last ob0), .int (f_gVal ob0), .int (f_gCount ob0)], .inr (.inl (.int, (List.replicate 128 0))), .inr (.inl (.boolean, (List.replicate 32 0))), .inr (.inl (.int, (List.replicate 16 0))), .inr (.inl (.int, (List.replicate 16 0))), .inr (.inl (.int, (List.replicate 16 0))), .inr (.inl (.int, (List.replicate 16 0))), .inr (.inl (.boolean, (List.replicate 16 0))), .inr (.inl (.int, (List.replicate 64 0)))])) rfl ?_
    have K5 : ∀ z4 : Int32, z4 = (if (32 : Int32) < (if x1 < (4 : Int32) then (4 : Int32) else x1) then (32 : Int32) else (if x1 < (4 : Int32) then (4 : Int32) else x1)) → QTri l Z n0 ad 1 (107, [some (.ref 0), none, some (.int x2), some (.int z4), none], [], [.inl [.ref 1, .ref 2, .int (0 : Int32), .int (1 : Int32), .int (2 : Int32), .int (0 : Int32), .ref 3, .ref 4, .ref 5, .ref 6, .ref 7, .ref 8, .int (f_nRows ob0), .int (f_nForms ob0), .int (f_last ob0), .int (f_gVal ob0), .int (f_gCount ob0)], .inr (.inl (.int, (List.replicate 128 0))), .inr (.inl (.boolean, (List.replicate 32 0))), .inr (.inl (.int, (List.replicate 16 0))), .inr (.inl (.int, (List.replicate 16 0))), .inr (.inl (.int, (List.replicate 16 0))), .inr (.inl (.int, (List.replicate 16 0))), .inr (.inl (.boolean, (List.replicate 16 0))), .inr (.inl (.int, (List.replicate 64 0)))]) (none : Option Value) (H0 r) := by
      intro z4 ez4
      subst ez4
      refine QTri.steps Ad W 4 (st' := (113, [some (.ref 0), none, some (.int x2), some (.int (if (32 : Int32) < (if x1 < (4 : Int32) then (4 : Int32) else x1) then (32 : Int32) else (if x1 < (4 : Int32) then (4 : Int32) else x1))), some (.int x2)], [.int (1 : Int32), .int x2], [.inl [.ref 1, .ref 2, .int (0 : Int32), .int (1 : Int32), .int (2 : Int32), .int (0 : Int32), .ref 3, .ref 4, .ref 5, .ref 6, .ref 7, .ref 8, .int (f_nRows ob0), .int (f_nForms ob0), .int (f_last ob0), .int (f_gVal ob0), .int (f_gCount ob0)], .inr (.inl (.int, (List.replicate 128 0))), .inr (.inl (.boolean, (List.replicate 32 0))), .inr (.inl (.int, (List.replicate 16 0))), .inr (.inl (.int, (List.replicate 16 0))), .inr (.inl (.int, (List.replicate 16 0))), .inr (.inl (.int, (List.replicate 16 0))), .inr (.inl (.boolean, (List.replicate 16 0))), .inr (.inl (.int, (List.replicate 64 0)))])) rfl ?_
      have K8 : ∀ z7 : Int32, z7 = (if x2 < (1 : Int32) then (1 : Int32) else x2) → QTri l Z n0 ad 1 (119, [some (.ref 0), none, none, some (.int (if (32 : Int32) < (if x1 < (4 : Int32) then (4 : Int32) else x1) then (32 : Int32) else (if x1 < (4 : Int32) then (4 : Int32) else x1))), some (.int z7)], [], [.inl [.ref 1, .ref 2, .int (0 : Int32), .int (1 : Int32), .int (2 : Int32), .int (0 : Int32), .ref 3, .ref 4, .ref 5, .ref 6, .ref 7, .ref 8, .int (f_nRows ob0), .int (f_nForms ob0), .int (f_last ob0), .int (f_gVal ob0), .int (f_gCount ob0)], .inr (.inl (.int, (List.replicate 128 0))), .inr (.inl (.boolean, (List.replicate 32 0))), .inr (.inl (.int, (List.replicate 16 0))), .inr (.inl (.int, (List.replicate 16 0))), .inr (.inl (.int, (List.replicate 16 0))), .inr (.inl (.int, (List.replicate 16 0))), .inr (.inl (.boolean, (List.replicate 16 0))), .inr (.inl (.int, (List.replicate 64 0)))]) (none : Option Value) (H0 r) := by
        intro z7 ez7
        subst ez7
        refine QTri.steps Ad W 2 (st' := (123, [some (.ref 0), none, none, some (.int (if (32 : Int32) < (if x1 < (4 : Int32) then (4 : Int32) else x1) then (32 : Int32) else (if x1 < (4 : Int32) then (4 : Int32) else x1))), some (.int (if x2 < (1 : Int32) then (1 : Int32) else x2))], [.int (16 : Int32), .int (if x2 < (1 : Int32) then (1 : Int32) else x2)], [.inl [.ref 1, .ref 2, .int (0 : Int32), .int (1 : Int32), .int (2 : Int32), .int (0 : Int32), .ref 3, .ref 4, .ref 5, .ref 6, .ref 7, .ref 8, .int (f_nRows ob0), .int (f_nForms ob0), .int (f_last ob0), .int (f_gVal ob0), .int (f_gCount ob0)], .inr (.inl (.int, (List.replicate 128 0))), .inr (.inl (.boolean, (List.replicate 32 0))), .inr (.inl (.int, (List.replicate 16 0))), .inr (.inl (.int, (List.replicate 16 0))), .inr (.inl (.int, (List.replicate 16 0))), .inr (.inl (.int, (List.replicate 16 0))), .inr (.inl (.boolean, (List.replicate 16 0))), .inr (.inl (.int, (List.replicate 64 0)))])) rfl ?_
        have K11 : ∀ z10 : Int32, z10 = (if (16 : Int32) < (if x2 < (1 : Int32) then (1 : Int32) else x2) then (16 : Int32) else (if x2 < (1 : Int32) then (1 : Int32) else x2)) → QTri l Z n0 ad 1 (130, [some (.ref 0), none, none, some (.int (if (32 : Int32) < (if x1 < (4 : Int32) then (4 : Int32) else x1) then (32 : Int32) else (if x1 < (4 : Int32) then (4 : Int32) else x1))), some (.int z10)], [], [.inl [.ref 1, .ref 2, .int (0 : Int32), .int (1 : Int32), .int (2 : Int32), .int (0 : Int32), .ref 3, .ref 4, .ref 5, .ref 6, .ref 7, .ref 8, .int (f_nRows ob0), .int (f_nForms ob0), .int (f_last ob0), .int (f_gVal ob0), .int (f_gCount ob0)], .inr (.inl (.int, (List.replicate 128 0))), .inr (.inl (.boolean, (List.replicate 32 0))), .inr (.inl (.int, (List.replicate 16 0))), .inr (.inl (.int, (List.replicate 16 0))), .inr (.inl (.int, (List.replicate 16 0))), .inr (.inl (.int, (List.replicate 16 0))), .inr (.inl (.boolean, (List.replicate 16 0))), .inr (.inl (.int, (List.replicate 64 0)))]) (none : Option Value) (H0 r) := by
          intro z10 ez10
          subst ez10
          refine QTri.steps Ad W 3 (st' := (135, [some (.ref 0), none, none, some (.int (if (32 : Int32) < (if x1 < (4 : Int32) then (4 : Int32) else x1) then (32 : Int32) else (if x1 < (4 : Int32) then (4 : Int32) else x1))), some (.int (if (16 : Int32) < (if x2 < (1 : Int32) then (1 : Int32) else x2) then (16 : Int32) else (if x2 < (1 : Int32) then (1 : Int32) else x2)))], [], [.inl [.ref 1, .ref 2, .int (0 : Int32), .int (1 : Int32), .int (2 : Int32), .int (0 : Int32), .ref 3, .ref 4, .ref 5, .ref 6, .ref 7, .ref 8, .int (if (32 : Int32) < (if x1 < (4 : Int32) then (4 : Int32) else x1) then (32 : Int32) else (if x1 < (4 : Int32) then (4 : Int32) else x1)), .int (f_nForms ob0), .int (f_last ob0), .int (f_gVal ob0), .int (f_gCount ob0)], .inr (.inl (.int, (List.replicate 128 0))), .inr (.inl (.boolean, (List.replicate 32 0))), .inr (.inl (.int, (List.replicate 16 0))), .inr (.inl (.int, (List.replicate 16 0))), .inr (.inl (.int, (List.replicate 16 0))), .inr (.inl (.int, (List.replicate 16 0))), .inr (.inl (.boolean, (List.replicate 16 0))), .inr (.inl (.int, (List.replicate 64 0)))])) rfl ?_
          refine QTri.steps Ad W 3 (st' := (141, [some (.ref 0), none, none, some (.int (if (32 : Int32) < (if x1 < (4 : Int32) then (4 : Int32) else x1) then (32 : Int32) else (if x1 < (4 : Int32) then (4 : Int32) else x1))), some (.int (if (16 : Int32) < (if x2 < (1 : Int32) then (1 : Int32) else x2) then (16 : Int32) else (if x2 < (1 : Int32) then (1 : Int32) else x2)))], [], [.inl [.ref 1, .ref 2, .int (0 : Int32), .int (1 : Int32), .int (2 : Int32), .int (0 : Int32), .ref 3, .ref 4, .ref 5, .ref 6, .ref 7, .ref 8, .int (if (32 : Int32) < (if x1 < (4 : Int32) then (4 : Int32) else x1) then (32 : Int32) else (if x1 < (4 : Int32) then (4 : Int32) else x1)), .int (if (16 : Int32) < (if x2 < (1 : Int32) then (1 : Int32) else x2) then (16 : Int32) else (if x2 < (1 : Int32) then (1 : Int32) else x2)), .int (f_last ob0), .int (f_gVal ob0), .int (f_gCount ob0)], .inr (.inl (.int, (List.replicate 128 0))), .inr (.inl (.boolean, (List.replicate 32 0))), .inr (.inl (.int, (List.replicate 16 0))), .inr (.inl (.int, (List.replicate 16 0))), .inr (.inl (.int, (List.replicate 16 0))), .inr (.inl (.int, (List.replicate 16 0))), .inr (.inl (.boolean, (List.replicate 16 0))), .inr (.inl (.int, (List.replicate 64 0)))])) rfl ?_
          refine QTri.steps Ad W 3 (st' := (146, [some (.ref 0), none, none, some (.int (if (32 : Int32) < (if x1 < (4 : Int32) then (4 : Int32) else x1) then (32 : Int32) else (if x1 < (4 : Int32) then (4 : Int32) else x1))), some (.int (if (16 : Int32) < (if x2 < (1 : Int32) then (1 : Int32) else x2) then (16 : Int32) else (if x2 < (1 : Int32) then (1 : Int32) else x2)))], [], [.inl [.ref 1, .ref 2, .int (0 : Int32), .int (1 : Int32), .int (2 : Int32), .int (0 : Int32), .ref 3, .ref 4, .ref 5, .ref 6, .ref 7, .ref 8, .int (if (32 : Int32) < (if x1 < (4 : Int32) then (4 : Int32) else x1) then (32 : Int32) else (if x1 < (4 : Int32) then (4 : Int32) else x1)), .int (if (16 : Int32) < (if x2 < (1 : Int32) then (1 : Int32) else x2) then (16 : Int32) else (if x2 < (1 : Int32) then (1 : Int32) else x2)), .int (0 : Int32), .int (f_gVal ob0), .int (f_gCount ob0)], .inr (.inl (.int, (List.replicate 128 0))), .inr (.inl (.boolean, (List.replicate 32 0))), .inr (.inl (.int, (List.replicate 16 0))), .inr (.inl (.int, (List.replicate 16 0))), .inr (.inl (.int, (List.replicate 16 0))), .inr (.inl (.int, (List.replicate 16 0))), .inr (.inl (.boolean, (List.replicate 16 0))), .inr (.inl (.int, (List.replicate 64 0)))])) rfl ?_
          have E13 : ([.inl [.ref 1, .ref 2, .int (0 : Int32), .int (1 : Int32), .int (2 : Int32), .int (0 : Int32), .ref 3, .ref 4, .ref 5, .ref 6, .ref 7, .ref 8, .int (if (32 : Int32) < (if x1 < (4 : Int32) then (4 : Int32) else x1) then (32 : Int32) else (if x1 < (4 : Int32) then (4 : Int32) else x1)), .int (if (16 : Int32) < (if x2 < (1 : Int32) then (1 : Int32) else x2) then (16 : Int32) else (if x2 < (1 : Int32) then (1 : Int32) else x2)), .int (0 : Int32), .int (f_gVal ob0), .int (f_gCount ob0)], .inr (.inl (.int, (List.replicate 128 0))), .inr (.inl (.boolean, (List.replicate 32 0))), .inr (.inl (.int, (List.replicate 16 0))), .inr (.inl (.int, (List.replicate 16 0))), .inr (.inl (.int, (List.replicate 16 0))), .inr (.inl (.int, (List.replicate 16 0))), .inr (.inl (.boolean, (List.replicate 16 0))), .inr (.inl (.int, (List.replicate 64 0)))] : QHeap) = (H0 (s_last (s_nForms (s_nRows (s_keys (s_prevFound (s_prevVal (s_fCk (s_fRk (s_fMode (s_ag (s_vf (s_cf (s_rf (s_filled (s_data ob0 (List.replicate 128 0)) (List.replicate 32 0)) (0 : Int32)) (1 : Int32)) (2 : Int32)) (0 : Int32)) (List.replicate 16 0)) (List.replicate 16 0)) (List.replicate 16 0)) (List.replicate 16 0)) (List.replicate 16 0)) (List.replicate 64 0)) (if (32 : Int32) < (if x1 < (4 : Int32) then (4 : Int32) else x1) then (32 : Int32) else (if x1 < (4 : Int32) then (4 : Int32) else x1))) (if (16 : Int32) < (if x2 < (1 : Int32) then (1 : Int32) else x2) then (16 : Int32) else (if x2 < (1 : Int32) then (1 : Int32) else x2))) (0 : Int32))) := by dsimp only [H0, f_data, f_filled, f_rf, f_cf, f_vf, f_ag, f_fMode, f_fRk, f_fCk, f_prevVal, f_prevFound, f_keys, f_nRows, f_nForms, f_last, f_gVal, f_gCount, s_data, s_filled, s_rf, s_cf, s_vf, s_ag, s_fMode, s_fRk, s_fCk, s_prevVal, s_prevFound, s_keys, s_nRows, s_nForms, s_last, ob0]
          rw [E13]
          obtain rfl := Option.some.inj h
          exact QTri.ret0 rfl rfl
        rcases Classical.em ((16 : Int32) < (if x2 < (1 : Int32) then (1 : Int32) else x2)) with hc12 | hc12
        · refine QTri.brF Ad W (t := 130) (f := 126) (L := [some (.ref 0), none, none, some (.int (if (32 : Int32) < (if x1 < (4 : Int32) then (4 : Int32) else x1) then (32 : Int32) else (if x1 < (4 : Int32) then (4 : Int32) else x1))), some (.int (if x2 < (1 : Int32) then (1 : Int32) else x2))]) (S := []) (σ := [.inl [.ref 1, .ref 2, .int (0 : Int32), .int (1 : Int32), .int (2 : Int32), .int (0 : Int32), .ref 3, .ref 4, .ref 5, .ref 6, .ref 7, .ref 8, .int (f_nRows ob0), .int (f_nForms ob0), .int (f_last ob0), .int (f_gVal ob0), .int (f_gCount ob0)], .inr (.inl (.int, (List.replicate 128 0))), .inr (.inl (.boolean, (List.replicate 32 0))), .inr (.inl (.int, (List.replicate 16 0))), .inr (.inl (.int, (List.replicate 16 0))), .inr (.inl (.int, (List.replicate 16 0))), .inr (.inl (.int, (List.replicate 16 0))), .inr (.inl (.boolean, (List.replicate 16 0))), .inr (.inl (.int, (List.replicate 64 0)))]) rfl (XT.ii_le_f hc12) ?_
          refine QTri.steps Ad W 2 (st' := (130, [some (.ref 0), none, none, some (.int (if (32 : Int32) < (if x1 < (4 : Int32) then (4 : Int32) else x1) then (32 : Int32) else (if x1 < (4 : Int32) then (4 : Int32) else x1))), some (.int (16 : Int32))], [], [.inl [.ref 1, .ref 2, .int (0 : Int32), .int (1 : Int32), .int (2 : Int32), .int (0 : Int32), .ref 3, .ref 4, .ref 5, .ref 6, .ref 7, .ref 8, .int (f_nRows ob0), .int (f_nForms ob0), .int (f_last ob0), .int (f_gVal ob0), .int (f_gCount ob0)], .inr (.inl (.int, (List.replicate 128 0))), .inr (.inl (.boolean, (List.replicate 32 0))), .inr (.inl (.int, (List.replicate 16 0))), .inr (.inl (.int, (List.replicate 16 0))), .inr (.inl (.int, (List.replicate 16 0))), .inr (.inl (.int, (List.replicate 16 0))), .inr (.inl (.boolean, (List.replicate 16 0))), .inr (.inl (.int, (List.replicate 64 0)))])) rfl ?_
          exact QTri.mask [true, false, false, true, true] (K11 _ (if_pos hc12).symm)
        · refine QTri.brT Ad W (t := 130) (f := 126) (L := [some (.ref 0), none, none, some (.int (if (32 : Int32) < (if x1 < (4 : Int32) then (4 : Int32) else x1) then (32 : Int32) else (if x1 < (4 : Int32) then (4 : Int32) else x1))), some (.int (if x2 < (1 : Int32) then (1 : Int32) else x2))]) (S := []) (σ := [.inl [.ref 1, .ref 2, .int (0 : Int32), .int (1 : Int32), .int (2 : Int32), .int (0 : Int32), .ref 3, .ref 4, .ref 5, .ref 6, .ref 7, .ref 8, .int (f_nRows ob0), .int (f_nForms ob0), .int (f_last ob0), .int (f_gVal ob0), .int (f_gCount ob0)], .inr (.inl (.int, (List.replicate 128 0))), .inr (.inl (.boolean, (List.replicate 32 0))), .inr (.inl (.int, (List.replicate 16 0))), .inr (.inl (.int, (List.replicate 16 0))), .inr (.inl (.int, (List.replicate 16 0))), .inr (.inl (.int, (List.replicate 16 0))), .inr (.inl (.boolean, (List.replicate 16 0))), .inr (.inl (.int, (List.replicate 64 0)))]) rfl (XT.ii_le_t hc12) ?_
          exact QTri.mask [true, false, false, true, true] (K11 _ (if_neg hc12).symm)
      rcases Classical.em (x2 < (1 : Int32)) with hc9 | hc9
      · refine QTri.brF Ad W (t := 119) (f := 116) (L := [some (.ref 0), none, some (.int x2), some (.int (if (32 : Int32) < (if x1 < (4 : Int32) then (4 : Int32) else x1) then (32 : Int32) else (if x1 < (4 : Int32) then (4 : Int32) else x1))), some (.int x2)]) (S := []) (σ := [.inl [.ref 1, .ref 2, .int (0 : Int32), .int (1 : Int32), .int (2 : Int32), .int (0 : Int32), .ref 3, .ref 4, .ref 5, .ref 6, .ref 7, .ref 8, .int (f_nRows ob0), .int (f_nForms ob0), .int (f_last ob0), .int (f_gVal ob0), .int (f_gCount ob0)], .inr (.inl (.int, (List.replicate 128 0))), .inr (.inl (.boolean, (List.replicate 32 0))), .inr (.inl (.int, (List.replicate 16 0))), .inr (.inl (.int, (List.replicate 16 0))), .inr (.inl (.int, (List.replicate 16 0))), .inr (.inl (.int, (List.replicate 16 0))), .inr (.inl (.boolean, (List.replicate 16 0))), .inr (.inl (.int, (List.replicate 64 0)))]) rfl (XT.ii_ge_f hc9) ?_
        refine QTri.steps Ad W 2 (st' := (119, [some (.ref 0), none, some (.int x2), some (.int (if (32 : Int32) < (if x1 < (4 : Int32) then (4 : Int32) else x1) then (32 : Int32) else (if x1 < (4 : Int32) then (4 : Int32) else x1))), some (.int (1 : Int32))], [], [.inl [.ref 1, .ref 2, .int (0 : Int32), .int (1 : Int32), .int (2 : Int32), .int (0 : Int32), .ref 3, .ref 4, .ref 5, .ref 6, .ref 7, .ref 8, .int (f_nRows ob0), .int (f_nForms ob0), .int (f_last ob0), .int (f_gVal ob0), .int (f_gCount ob0)], .inr (.inl (.int, (List.replicate 128 0))), .inr (.inl (.boolean, (List.replicate 32 0))), .inr (.inl (.int, (List.replicate 16 0))), .inr (.inl (.int, (List.replicate 16 0))), .inr (.inl (.int, (List.replicate 16 0))), .inr (.inl (.int, (List.replicate 16 0))), .inr (.inl (.boolean, (List.replicate 16 0))), .inr (.inl (.int, (List.replicate 64 0)))])) rfl ?_
        exact QTri.mask [true, false, false, true, true] (K8 _ (if_pos hc9).symm)
      · refine QTri.brT Ad W (t := 119) (f := 116) (L := [some (.ref 0), none, some (.int x2), some (.int (if (32 : Int32) < (if x1 < (4 : Int32) then (4 : Int32) else x1) then (32 : Int32) else (if x1 < (4 : Int32) then (4 : Int32) else x1))), some (.int x2)]) (S := []) (σ := [.inl [.ref 1, .ref 2, .int (0 : Int32), .int (1 : Int32), .int (2 : Int32), .int (0 : Int32), .ref 3, .ref 4, .ref 5, .ref 6, .ref 7, .ref 8, .int (f_nRows ob0), .int (f_nForms ob0), .int (f_last ob0), .int (f_gVal ob0), .int (f_gCount ob0)], .inr (.inl (.int, (List.replicate 128 0))), .inr (.inl (.boolean, (List.replicate 32 0))), .inr (.inl (.int, (List.replicate 16 0))), .inr (.inl (.int, (List.replicate 16 0))), .inr (.inl (.int, (List.replicate 16 0))), .inr (.inl (.int, (List.replicate 16 0))), .inr (.inl (.boolean, (List.replicate 16 0))), .inr (.inl (.int, (List.replicate 64 0)))]) rfl (XT.ii_ge_t hc9) ?_
        exact QTri.mask [true, false, false, true, true] (K8 _ (if_neg hc9).symm)
    rcases Classical.em ((32 : Int32) < (if x1 < (4 : Int32) then (4 : Int32) else x1)) with hc6 | hc6
    · refine QTri.brF Ad W (t := 107) (f := 104) (L := [some (.ref 0), none, some (.int x2), some (.int (if x1 < (4 : Int32) then (4 : Int32) else x1)), none]) (S := []) (σ := [.inl [.ref 1, .ref 2, .int (0 : Int32), .int (1 : Int32), .int (2 : Int32), .int (0 : Int32), .ref 3, .ref 4, .ref 5, .ref 6, .ref 7, .ref 8, .int (f_nRows ob0), .int (f_nForms ob0), .int (f_last ob0), .int (f_gVal ob0), .int (f_gCount ob0)], .inr (.inl (.int, (List.replicate 128 0))), .inr (.inl (.boolean, (List.replicate 32 0))), .inr (.inl (.int, (List.replicate 16 0))), .inr (.inl (.int, (List.replicate 16 0))), .inr (.inl (.int, (List.replicate 16 0))), .inr (.inl (.int, (List.replicate 16 0))), .inr (.inl (.boolean, (List.replicate 16 0))), .inr (.inl (.int, (List.replicate 64 0)))]) rfl (XT.ii_le_f hc6) ?_
      refine QTri.steps Ad W 2 (st' := (107, [some (.ref 0), none, some (.int x2), some (.int (32 : Int32)), none], [], [.inl [.ref 1, .ref 2, .int (0 : Int32), .int (1 : Int32), .int (2 : Int32), .int (0 : Int32), .ref 3, .ref 4, .ref 5, .ref 6, .ref 7, .ref 8, .int (f_nRows ob0), .int (f_nForms ob0), .int (f_last ob0), .int (f_gVal ob0), .int (f_gCount ob0)], .inr (.inl (.int, (List.replicate 128 0))), .inr (.inl (.boolean, (List.replicate 32 0))), .inr (.inl (.int, (List.replicate 16 0))), .inr (.inl (.int, (List.replicate 16 0))), .inr (.inl (.int, (List.replicate 16 0))), .inr (.inl (.int, (List.replicate 16 0))), .inr (.inl (.boolean, (List.replicate 16 0))), .inr (.inl (.int, (List.replicate 64 0)))])) rfl ?_
      exact QTri.mask [true, false, true, true, false] (K5 _ (if_pos hc6).symm)
    · refine QTri.brT Ad W (t := 107) (f := 104) (L := [some (.ref 0), none, some (.int x2), some (.int (if x1 < (4 : Int32) then (4 : Int32) else x1)), none]) (S := []) (σ := [.inl [.ref 1, .ref 2, .int (0 : Int32), .int (1 : Int32), .int (2 : Int32), .int (0 : Int32), .ref 3, .ref 4, .ref 5, .ref 6, .ref 7, .ref 8, .int (f_nRows ob0), .int (f_nForms ob0), .int (f_last ob0), .int (f_gVal ob0), .int (f_gCount ob0)], .inr (.inl (.int, (List.replicate 128 0))), .inr (.inl (.boolean, (List.replicate 32 0))), .inr (.inl (.int, (List.replicate 16 0))), .inr (.inl (.int, (List.replicate 16 0))), .inr (.inl (.int, (List.replicate 16 0))), .inr (.inl (.int, (List.replicate 16 0))), .inr (.inl (.boolean, (List.replicate 16 0))), .inr (.inl (.int, (List.replicate 64 0)))]) rfl (XT.ii_le_t hc6) ?_
      exact QTri.mask [true, false, true, true, false] (K5 _ (if_neg hc6).symm)
  rcases Classical.em (x1 < (4 : Int32)) with hc3 | hc3
  · refine QTri.brF Ad W (t := 98) (f := 96) (L := [some (.ref 0), some (.int x1), some (.int x2), some (.int x1), none]) (S := []) (σ := [.inl [.ref 1, .ref 2, .int (0 : Int32), .int (1 : Int32), .int (2 : Int32), .int (0 : Int32), .ref 3, .ref 4, .ref 5, .ref 6, .ref 7, .ref 8, .int (f_nRows ob0), .int (f_nForms ob0), .int (f_last ob0), .int (f_gVal ob0), .int (f_gCount ob0)], .inr (.inl (.int, (List.replicate 128 0))), .inr (.inl (.boolean, (List.replicate 32 0))), .inr (.inl (.int, (List.replicate 16 0))), .inr (.inl (.int, (List.replicate 16 0))), .inr (.inl (.int, (List.replicate 16 0))), .inr (.inl (.int, (List.replicate 16 0))), .inr (.inl (.boolean, (List.replicate 16 0))), .inr (.inl (.int, (List.replicate 64 0)))]) rfl (XT.ii_ge_f hc3) ?_
    refine QTri.steps Ad W 2 (st' := (98, [some (.ref 0), some (.int x1), some (.int x2), some (.int (4 : Int32)), none], [], [.inl [.ref 1, .ref 2, .int (0 : Int32), .int (1 : Int32), .int (2 : Int32), .int (0 : Int32), .ref 3, .ref 4, .ref 5, .ref 6, .ref 7, .ref 8, .int (f_nRows ob0), .int (f_nForms ob0), .int (f_last ob0), .int (f_gVal ob0), .int (f_gCount ob0)], .inr (.inl (.int, (List.replicate 128 0))), .inr (.inl (.boolean, (List.replicate 32 0))), .inr (.inl (.int, (List.replicate 16 0))), .inr (.inl (.int, (List.replicate 16 0))), .inr (.inl (.int, (List.replicate 16 0))), .inr (.inl (.int, (List.replicate 16 0))), .inr (.inl (.boolean, (List.replicate 16 0))), .inr (.inl (.int, (List.replicate 64 0)))])) rfl ?_
    exact QTri.mask [true, false, true, true, false] (K2 _ (if_pos hc3).symm)
  · refine QTri.brT Ad W (t := 98) (f := 96) (L := [some (.ref 0), some (.int x1), some (.int x2), some (.int x1), none]) (S := []) (σ := [.inl [.ref 1, .ref 2, .int (0 : Int32), .int (1 : Int32), .int (2 : Int32), .int (0 : Int32), .ref 3, .ref 4, .ref 5, .ref 6, .ref 7, .ref 8, .int (f_nRows ob0), .int (f_nForms ob0), .int (f_last ob0), .int (f_gVal ob0), .int (f_gCount ob0)], .inr (.inl (.int, (List.replicate 128 0))), .inr (.inl (.boolean, (List.replicate 32 0))), .inr (.inl (.int, (List.replicate 16 0))), .inr (.inl (.int, (List.replicate 16 0))), .inr (.inl (.int, (List.replicate 16 0))), .inr (.inl (.int, (List.replicate 16 0))), .inr (.inl (.boolean, (List.replicate 16 0))), .inr (.inl (.int, (List.replicate 64 0)))]) rfl (XT.ii_ge_t hc3) ?_
    exact QTri.mask [true, false, true, true, false] (K2 _ (if_neg hc3).symm)
/-- validRow(I)Z -/
def F3 (o : Ob) (x1 : Int32) : Option (Int32) :=
  (if x1 < (0 : Int32) then some (0 : Int32) else (if x1 < (f_nRows o) then some (1 : Int32) else some (0 : Int32)))
theorem tF3 (Ad : QAd n0 ad) (W : QW Z a0) (o : Ob) (x1 : Int32) {r : Int32} (h : F3 o x1 = some r) : QTri l Z n0 ad 3 (0, qentry [.ref 0, .int x1] (pMaxL 3), [], (H0 o)) (some (Value.int r)) (H0 o) := by
  unfold F3 at h
  refine QTri.steps Ad W 1 (st' := (1, [some (.ref 0), some (.int x1)], [.int x1], (H0 o))) rfl ?_
  rcases qite h with ⟨hc21, h⟩ | ⟨hc21, h⟩
  · refine QTri.brT Ad W (t := 16) (f := 4) (L := [some (.ref 0), some (.int x1)]) (S := []) (σ := (H0 o)) rfl (XT.i0_lt_t hc21) ?_
    refine QTri.steps Ad W 1 (st' := (17, [some (.ref 0), some (.int x1)], [.int (0 : Int32)], (H0 o))) rfl ?_
    obtain rfl := Option.some.inj h
    exact QTri.retZ rfl rfl
  · refine QTri.brF Ad W (t := 16) (f := 4) (L := [some (.ref 0), some (.int x1)]) (S := []) (σ := (H0 o)) rfl (XT.i0_lt_f hc21) ?_
    refine QTri.steps Ad W 3 (st' := (9, [some (.ref 0), some (.int x1)], [.int (f_nRows o), .int x1], (H0 o))) rfl ?_
    rcases qite h with ⟨hc22, h⟩ | ⟨hc22, h⟩
    · refine QTri.brF Ad W (t := 16) (f := 12) (L := [some (.ref 0), some (.int x1)]) (S := []) (σ := (H0 o)) rfl (XT.ii_ge_f hc22) ?_
      refine QTri.steps Ad W 2 (st' := (17, [some (.ref 0), some (.int x1)], [.int (1 : Int32)], (H0 o))) rfl ?_
      obtain rfl := Option.some.inj h
      exact QTri.retZ rfl rfl
    · refine QTri.brT Ad W (t := 16) (f := 12) (L := [some (.ref 0), some (.int x1)]) (S := []) (σ := (H0 o)) rfl (XT.ii_ge_t hc22) ?_
      refine QTri.steps Ad W 1 (st' := (17, [some (.ref 0), some (.int x1)], [.int (0 : Int32)], (H0 o))) rfl ?_
      obtain rfl := Option.some.inj h
      exact QTri.retZ rfl rfl
/-- evalFormula(I)V -/
def F5 (o : Ob) (x1 : Int32) : Option (Ob) :=
  (aget (f_fMode o) x1).bind fun y28 => (if y28 = (0 : Int32) then some (s_gCount (s_gVal o (0 : Int32)) (0 : Int32)) else (aget (f_fRk o) x1).bind fun y39 => (aget (f_fCk o) x1).bind fun y40 => none)
theorem tF5 (Ad : QAd n0 ad) (W : QW Z a0) (o : Ob) (x1 : Int32) {r : Ob} (h : F5 o x1 = some r) : QTri l Z n0 ad 5 (0, qentry [.ref 0, .int x1] (pMaxL 5), [], (H0 o)) (none : Option Value) (H0 r) := by
  unfold F5 at h
  refine QTri.steps Ad W 3 (st' := (5, [some (.ref 0), some (.int x1), none, none, none], [.int x1, .ref 3], (H0 o))) rfl ?_
  obtain ⟨y28, hy28, h⟩ := Option.bind_eq_some_iff.mp h
  refine QTri.bnd Ad W (f := fun y28 => (6, [some (.ref 0), some (.int x1), none, none, none], [.int y28], (H0 o))) rfl hy28 ?_
  refine QTri.steps Ad W 2 (st' := (8, [some (.ref 0), some (.int x1), some (.int y28), none, none], [.int y28], (H0 o))) rfl ?_
  rcases qite h with ⟨hc29, h⟩ | ⟨hc29, h⟩
  · refine QTri.brF Ad W (t := 22) (f := 11) (L := [some (.ref 0), some (.int x1), some (.int y28), none, none]) (S := []) (σ := (H0 o)) rfl (XT.i0_ne_f hc29) ?_
    refine QTri.steps Ad W 3 (st' := (16, [some (.ref 0), some (.int x1), some (.int y28), none, none], [], [.inl [.ref 1, .ref 2, .int (f_rf o), .int (f_cf o), .int (f_vf o), .int (f_ag o), .ref 3, .ref 4, .ref 5, .ref 6, .ref 7, .ref 8, .int (f_nRows o), .int (f_nForms o), .int (f_last o), .int (0 : Int32), .int (f_gCount o)], .inr (.inl (.int, (f_data o))), .inr (.inl (.boolean, (f_filled o))), .inr (.inl (.int, (f_fMode o))), .inr (.inl (.int, (f_fRk o))), .inr (.inl (.int, (f_fCk o))), .inr (.inl (.int, (f_prevVal o))), .inr (.inl (.boolean, (f_prevFound o))), .inr (.inl (.int, (f_keys o)))])) rfl ?_
    refine QTri.steps Ad W 3 (st' := (21, [some (.ref 0), some (.int x1), some (.int y28), none, none], [], [.inl [.ref 1, .ref 2, .int (f_rf o), .int (f_cf o), .int (f_vf o), .int (f_ag o), .ref 3, .ref 4, .ref 5, .ref 6, .ref 7, .ref 8, .int (f_nRows o), .int (f_nForms o), .int (f_last o), .int (0 : Int32), .int (0 : Int32)], .inr (.inl (.int, (f_data o))), .inr (.inl (.boolean, (f_filled o))), .inr (.inl (.int, (f_fMode o))), .inr (.inl (.int, (f_fRk o))), .inr (.inl (.int, (f_fCk o))), .inr (.inl (.int, (f_prevVal o))), .inr (.inl (.boolean, (f_prevFound o))), .inr (.inl (.int, (f_keys o)))])) rfl ?_
    have E30 : ([.inl [.ref 1, .ref 2, .int (f_rf o), .int (f_cf o), .int (f_vf o), .int (f_ag o), .ref 3, .ref 4, .ref 5, .ref 6, .ref 7, .ref 8, .int (f_nRows o), .int (f_nForms o), .int (f_last o), .int (0 : Int32), .int (0 : Int32)], .inr (.inl (.int, (f_data o))), .inr (.inl (.boolean, (f_filled o))), .inr (.inl (.int, (f_fMode o))), .inr (.inl (.int, (f_fRk o))), .inr (.inl (.int, (f_fCk o))), .inr (.inl (.int, (f_prevVal o))), .inr (.inl (.boolean, (f_prevFound o))), .inr (.inl (.int, (f_keys o)))] : QHeap) = (H0 (s_gCount (s_gVal o (0 : Int32)) (0 : Int32))) := by dsimp only [H0, f_data, f_filled, f_rf, f_cf, f_vf, f_ag, f_fMode, f_fRk, f_fCk, f_prevVal, f_prevFound, f_keys, f_nRows, f_nForms, f_last, f_gVal, f_gCount, s_gVal, s_gCount]
    rw [E30]
    obtain rfl := Option.some.inj h
    exact QTri.ret0 rfl rfl
  · refine QTri.brT Ad W (t := 22) (f := 11) (L := [some (.ref 0), some (.int x1), some (.int y28), none, none]) (S := []) (σ := (H0 o)) rfl (XT.i0_ne_t hc29) ?_
    refine QTri.steps Ad W 2 (st' := (24, [some (.ref 0), some (.int x1), some (.int y28), none, none], [.int (1 : Int32), .int y28], (H0 o))) rfl ?_
    have K32 : ∀ z31 : Int32, z31 = (if y28 = (1 : Int32) then (1 : Int32) else (if y28 = (2 : Int32) then (1 : Int32) else (0 : Int32))) → QTri l Z n0 ad 5 (37, [some (.ref 0), some (.int x1), some (.int y28), none, none], [.int z31], (H0 o)) (none : Option Value) (H0 r) := by
      intro z31 ez31
      subst ez31
      refine QTri.steps Ad W 3 (st' := (40, [some (.ref 0), some (.int x1), some (.int y28), some (.int (if y28 = (1 : Int32) then (1 : Int32) else (if y28 = (2 : Int32) then (1 : Int32) else (0 : Int32)))), none], [.int (1 : Int32), .int y28], (H0 o))) rfl ?_
      have K36 : ∀ z35 : Int32, z35 = (if y28 = (1 : Int32) then (1 : Int32) else (if y28 = (3 : Int32) then (1 : Int32) else (0 : Int32))) → QTri l Z n0 ad 5 (53, [some (.ref 0), some (.int x1), none, some (.int (if y28 = (1 : Int32) then (1 : Int32) else (if y28 = (2 : Int32) then (1 : Int32) else (0 : Int32)))), none], [.int z35], (H0 o)) (none : Option Value) (H0 r) := by
        intro z35 ez35
        subst ez35
        refine QTri.steps Ad W 6 (st' := (62, [some (.ref 0), some (.int x1), none, some (.int (if y28 = (1 : Int32) then (1 : Int32) else (if y28 = (2 : Int32) then (1 : Int32) else (0 : Int32)))), some (.int (if y28 = (1 : Int32) then (1 : Int32) else (if y28 = (3 : Int32) then (1 : Int32) else (0 : Int32))))], [.int x1, .ref 4, .int (if y28 = (1 : Int32) then (1 : Int32) else (if y28 = (2 : Int32) then (1 : Int32) else (0 : Int32))), .ref 0], (H0 o))) rfl ?_
        obtain ⟨y39, hy39, h⟩ := Option.bind_eq_some_iff.mp h
        refine QTri.bnd Ad W (f := fun y39 => (63, [some (.ref 0), some (.int x1), none, some (.int (if y28 = (1 : Int32) then (1 : Int32) else (if y28 = (2 : Int32) then (1 : Int32) else (0 : Int32)))), some (.int (if y28 = (1 : Int32) then (1 : Int32) else (if y28 = (3 : Int32) then (1 : Int32) else (0 : Int32))))], [.int y39, .int (if y28 = (1 : Int32) then (1 : Int32) else (if y28 = (2 : Int32) then (1 : Int32) else (0 : Int32))), .ref 0], (H0 o))) rfl hy39 ?_
        refine QTri.steps Ad W 4 (st' := (70, [some (.ref 0), some (.int x1), none, some (.int (if y28 = (1 : Int32) then (1 : Int32) else (if y28 = (2 : Int32) then (1 : Int32) else (0 : Int32)))), some (.int (if y28 = (1 : Int32) then (1 : Int32) else (if y28 = (3 : Int32) then (1 : Int32) else (0 : Int32))))], [.int x1, .ref 5, .int (if y28 = (1 : Int32) then (1 : Int32) else (if y28 = (3 : Int32) then (1 : Int32) else (0 : Int32))), .int y39, .int (if y28 = (1 : Int32) then (1 : Int32) else (if y28 = (2 : Int32) then (1 : Int32) else (0 : Int32))), .ref 0], (H0 o))) rfl ?_
        obtain ⟨y40, hy40, h⟩ := Option.bind_eq_some_iff.mp h
        refine QTri.bnd Ad W (f := fun y40 => (71, [some (.ref 0), some (.int x1), none, some (.int (if y28 = (1 : Int32) then (1 : Int32) else (if y28 = (2 : Int32) then (1 : Int32) else (0 : Int32)))), some (.int (if y28 = (1 : Int32) then (1 : Int32) else (if y28 = (3 : Int32) then (1 : Int32) else (0 : Int32))))], [.int y40, .int (if y28 = (1 : Int32) then (1 : Int32) else (if y28 = (3 : Int32) then (1 : Int32) else (0 : Int32))), .int y39, .int (if y28 = (1 : Int32) then (1 : Int32) else (if y28 = (2 : Int32) then (1 : Int32) else (0 : Int32))), .ref 0], (H0 o))) rfl hy40 ?_
        cases h
      rcases Classical.em (y28 = (1 : Int32)) with hc37 | hc37
      · refine QTri.brT Ad W (t := 48) (f := 43) (L := [some (.ref 0), some (.int x1), some (.int y28), some (.int (if y28 = (1 : Int32) then (1 : Int32) else (if y28 = (2 : Int32) then (1 : Int32) else (0 : Int32)))), none]) (S := []) (σ := (H0 o)) rfl (XT.ii_eq_t hc37) ?_
        refine QTri.steps Ad W 2 (st' := (53, [some (.ref 0), some (.int x1), some (.int y28), some (.int (if y28 = (1 : Int32) then (1 : Int32) else (if y28 = (2 : Int32) then (1 : Int32) else (0 : Int32)))), none], [.int (1 : Int32)], (H0 o))) rfl ?_
        exact QTri.mask [true, true, false, true, false] (K36 _ (if_pos hc37).symm)
      · refine QTri.brF Ad W (t := 48) (f := 43) (L := [some (.ref 0), some (.int x1), some (.int y28), some (.int (if y28 = (1 : Int32) then (1 : Int32) else (if y28 = (2 : Int32) then (1 : Int32) else (0 : Int32)))), none]) (S := []) (σ := (H0 o)) rfl (XT.ii_eq_f hc37) ?_
        refine QTri.steps Ad W 2 (st' := (45, [some (.ref 0), some (.int x1), some (.int y28), some (.int (if y28 = (1 : Int32) then (1 : Int32) else (if y28 = (2 : Int32) then (1 : Int32) else (0 : Int32)))), none], [.int (3 : Int32), .int y28], (H0 o))) rfl ?_
        rcases Classical.em (y28 = (3 : Int32)) with hc38 | hc38
        · refine QTri.brF Ad W (t := 52) (f := 48) (L := [some (.ref 0), some (.int x1), some (.int y28), some (.int (if y28 = (1 : Int32) then (1 : Int32) else (if y28 = (2 : Int32) then (1 : Int32) else (0 : Int32)))), none]) (S := []) (σ := (H0 o)) rfl (XT.ii_ne_f hc38) ?_
          refine QTri.steps Ad W 2 (st' := (53, [some (.ref 0), some (.int x1), some (.int y28), some (.int (if y28 = (1 : Int32) then (1 : Int32) else (if y28 = (2 : Int32) then (1 : Int32) else (0 : Int32)))), none], [.int (1 : Int32)], (H0 o))) rfl ?_
          exact QTri.mask [true, true, false, true, false] (K36 _ ((if_neg hc37).trans (if_pos hc38)).symm)
        · refine QTri.brT Ad W (t := 52) (f := 48) (L := [some (.ref 0), some (.int x1), some (.int y28), some (.int (if y28 = (1 : Int32) then (1 : Int32) else (if y28 = (2 : Int32) then (1 : Int32) else (0 : Int32)))), none]) (S := []) (σ := (H0 o)) rfl (XT.ii_ne_t hc38) ?_
          refine QTri.steps Ad W 1 (st' := (53, [some (.ref 0), some (.int x1), some (.int y28), some (.int (if y28 = (1 : Int32) then (1 : Int32) else (if y28 = (2 : Int32) then (1 : Int32) else (0 : Int32)))), none], [.int (0 : Int32)], (H0 o))) rfl ?_
          exact QTri.mask [true, true, false, true, false] (K36 _ ((if_neg hc37).trans (if_neg hc38)).symm)
    rcases Classical.em (y28 = (1 : Int32)) with hc33 | hc33
    · refine QTri.brT Ad W (t := 32) (f := 27) (L := [some (.ref 0), some (.int x1), some (.int y28), none, none]) (S := []) (σ := (H0 o)) rfl (XT.ii_eq_t hc33) ?_
      refine QTri.steps Ad W 2 (st' := (37, [some (.ref 0), some (.int x1), some (.int y28), none, none], [.int (1 : Int32)], (H0 o))) rfl ?_
      exact QTri.mask [true, true, true, false, false] (K32 _ (if_pos hc33).symm)
    · refine QTri.brF Ad W (t := 32) (f := 27) (L := [some (.ref 0), some (.int x1), some (.int y28), none, none]) (S := []) (σ := (H0 o)) rfl (XT.ii_eq_f hc33) ?_
      refine QTri.steps Ad W 2 (st' := (29, [some (.ref 0), some (.int x1), some (.int y28), none, none], [.int (2 : Int32), .int y28], (H0 o))) rfl ?_
      rcases Classical.em (y28 = (2 : Int32)) with hc34 | hc34
      · refine QTri.brF Ad W (t := 36) (f := 32) (L := [some (.ref 0), some (.int x1), some (.int y28), none, none]) (S := []) (σ := (H0 o)) rfl (XT.ii_ne_f hc34) ?_
        refine QTri.steps Ad W 2 (st' := (37, [some (.ref 0), some (.int x1), some (.int y28), none, none], [.int (1 : Int32)], (H0 o))) rfl ?_
        exact QTri.mask [true, true, true, false, false] (K32 _ ((if_neg hc33).trans (if_pos hc34)).symm)
      · refine QTri.brT Ad W (t := 36) (f := 32) (L := [some (.ref 0), some (.int x1), some (.int y28), none, none]) (S := []) (σ := (H0 o)) rfl (XT.ii_ne_t hc34) ?_
        refine QTri.steps Ad W 1 (st' := (37, [some (.ref 0), some (.int x1), some (.int y28), none, none], [.int (0 : Int32)], (H0 o))) rfl ?_
        exact QTri.mask [true, true, true, false, false] (K32 _ ((if_neg hc33).trans (if_neg hc34)).symm)
def B4_2 (v : Int32 × Ob) : Option (((Ob)) ⊕ (Int32 × Ob)) :=
  (if v.1 < (f_nForms v.2) then (F5 v.2 v.1).bind fun r41 => (aset (f_prevVal r41) v.1 (f_gVal r41)).bind fun y42 => (aset (f_prevFound r41) v.1 ((if (0 : Int32) < (f_gCount r41) then (1 : Int32) else (0 : Int32)) &&& 1)).bind fun y46 => some (.inr ((v.1 + (1 : Int32)), (s_prevFound (s_prevVal r41 y42) y46))) else some (.inl v.2))
theorem tB4_2 (Ad : QAd n0 ad) (W : QW Z a0) (v : Int32 × Ob) {r : ((Ob)) ⊕ (Int32 × Ob)} {u : Option Value} {τ : QHeap} (h : B4_2 v = some r) (hx0 : ∀ x : Ob, r = .inl x → u = (none : Option Value) ∧ τ = (H0 x)) (hc : ∀ x : Int32 × Ob, r = .inr x → QTri l Z n0 ad 4 (2, [some (.ref 0), some (.int x.1)], [], (H0 x.2)) u τ) : QTri l Z n0 ad 4 (2, [some (.ref 0), some (.int v.1)], [], (H0 v.2)) u τ := by
  unfold B4_2 at h
  refine QTri.steps Ad W 3 (st' := (7, [some (.ref 0), some (.int v.1)], [.int (f_nForms v.2), .int v.1], (H0 v.2))) rfl ?_
  rcases qite h with ⟨hc27, h⟩ | ⟨hc27, h⟩
  · refine QTri.brF Ad W (t := 49) (f := 10) (L := [some (.ref 0), some (.int v.1)]) (S := []) (σ := (H0 v.2)) rfl (XT.ii_ge_f hc27) ?_
    refine QTri.steps Ad W 2 (st' := (12, [some (.ref 0), some (.int v.1)], [.int v.1, .ref 0], (H0 v.2))) rfl ?_
    obtain ⟨r41, hr41, h⟩ := Option.bind_eq_some_iff.mp h
    refine QTri.callP W (a := 0) (as := [.int v.1]) (rest := []) (w := none) (σ₁ := (H0 r41)) rfl rfl rfl rfl rfl rfl rfl rfl (tF5 Ad W v.2 v.1 hr41) ?_
    refine QTri.steps Ad W 5 (st' := (24, [some (.ref 0), some (.int v.1)], [.int (f_gVal r41), .int v.1, .ref 6], (H0 r41))) rfl ?_
    obtain ⟨y42, hy42, h⟩ := Option.bind_eq_some_iff.mp h
    refine QTri.bnd Ad W (f := fun y42 => (25, [some (.ref 0), some (.int v.1)], [], [.inl [.ref 1, .ref 2, .int (f_rf r41), .int (f_cf r41), .int (f_vf r41), .int (f_ag r41), .ref 3, .ref 4, .ref 5, .ref 6, .ref 7, .ref 8, .int (f_nRows r41), .int (f_nForms r41), .int (f_last r41), .int (f_gVal r41), .int (f_gCount r41)], .inr (.inl (.int, (f_data r41))), .inr (.inl (.boolean, (f_filled r41))), .inr (.inl (.int, (f_fMode r41))), .inr (.inl (.int, (f_fRk r41))), .inr (.inl (.int, (f_fCk r41))), .inr (.inl (.int, y42)), .inr (.inl (.boolean, (f_prevFound r41))), .inr (.inl (.int, (f_keys r41)))])) rfl hy42 ?_
    refine QTri.steps Ad W 5 (st' := (34, [some (.ref 0), some (.int v.1)], [.int (f_gCount r41), .int v.1, .ref 7], [.inl [.ref 1, .ref 2, .int (f_rf r41), .int (f_cf r41), .int (f_vf r41), .int (f_ag r41), .ref 3, .ref 4, .ref 5, .ref 6, .ref 7, .ref 8, .int (f_nRows r41), .int (f_nForms r41), .int (f_last r41), .int (f_gVal r41), .int (f_gCount r41)], .inr (.inl (.int, (f_data r41))), .inr (.inl (.boolean, (f_filled r41))), .inr (.inl (.int, (f_fMode r41))), .inr (.inl (.int, (f_fRk r41))), .inr (.inl (.int, (f_fCk r41))), .inr (.inl (.int, y42)), .inr (.inl (.boolean, (f_prevFound r41))), .inr (.inl (.int, (f_keys r41)))])) rfl ?_
    have K44 : ∀ z43 : Int32, z43 = (if (0 : Int32) < (f_gCount r41) then (1 : Int32) else (0 : Int32)) → QTri l Z n0 ad 4 (42, [some (.ref 0), some (.int v.1)], [.int z43, .int v.1, .ref 7], [.inl [.ref 1, .ref 2, .int (f_rf r41), .int (f_cf r41), .int (f_vf r41), .int (f_ag r41), .ref 3, .ref 4, .ref 5, .ref 6, .ref 7, .ref 8, .int (f_nRows r41), .int (f_nForms r41), .int (f_last r41), .int (f_gVal r41), .int (f_gCount r41)], .inr (.inl (.int, (f_data r41))), .inr (.inl (.boolean, (f_filled r41))), .inr (.inl (.int, (f_fMode r41))), .inr (.inl (.int, (f_fRk r41))), .inr (.inl (.int, (f_fCk r41))), .inr (.inl (.int, y42)), .inr (.inl (.boolean, (f_prevFound r41))), .inr (.inl (.int, (f_keys r41)))]) u τ := by
      intro z43 ez43
      subst ez43
      obtain ⟨y46, hy46, h⟩ := Option.bind_eq_some_iff.mp h
      refine QTri.bnd Ad W (f := fun y46 => (43, [some (.ref 0), some (.int v.1)], [], [.inl [.ref 1, .ref 2, .int (f_rf r41), .int (f_cf r41), .int (f_vf r41), .int (f_ag r41), .ref 3, .ref 4, .ref 5, .ref 6, .ref 7, .ref 8, .int (f_nRows r41), .int (f_nForms r41), .int (f_last r41), .int (f_gVal r41), .int (f_gCount r41)], .inr (.inl (.int, (f_data r41))), .inr (.inl (.boolean, (f_filled r41))), .inr (.inl (.int, (f_fMode r41))), .inr (.inl (.int, (f_fRk r41))), .inr (.inl (.int, (f_fCk r41))), .inr (.inl (.int, y42)), .inr (.inl (.boolean, y46)), .inr (.inl (.int, (f_keys r41)))])) rfl hy46 ?_
      refine QTri.steps Ad W 2 (st' := (2, [some (.ref 0), some (.int (v.1 + (1 : Int32)))], [], [.inl [.ref 1, .ref 2, .int (f_rf r41), .int (f_cf r41), .int (f_vf r41), .int (f_ag r41), .ref 3, .ref 4, .ref 5, .ref 6, .ref 7, .ref 8, .int (f_nRows r41), .int (f_nForms r41), .int (f_last r41), .int (f_gVal r41), .int (f_gCount r41)], .inr (.inl (.int, (f_data r41))), .inr (.inl (.boolean, (f_filled r41))), .inr (.inl (.int, (f_fMode r41))), .inr (.inl (.int, (f_fRk r41))), .inr (.inl (.int, (f_fCk r41))), .inr (.inl (.int, y42)), .inr (.inl (.boolean, y46)), .inr (.inl (.int, (f_keys r41)))])) rfl ?_
      have E47 : ([.inl [.ref 1, .ref 2, .int (f_rf r41), .int (f_cf r41), .int (f_vf r41), .int (f_ag r41), .ref 3, .ref 4, .ref 5, .ref 6, .ref 7, .ref 8, .int (f_nRows r41), .int (f_nForms r41), .int (f_last r41), .int (f_gVal r41), .int (f_gCount r41)], .inr (.inl (.int, (f_data r41))), .inr (.inl (.boolean, (f_filled r41))), .inr (.inl (.int, (f_fMode r41))), .inr (.inl (.int, (f_fRk r41))), .inr (.inl (.int, (f_fCk r41))), .inr (.inl (.int, y42)), .inr (.inl (.boolean, y46)), .inr (.inl (.int, (f_keys r41)))] : QHeap) = (H0 (s_prevFound (s_prevVal r41 y42) y46)) := by dsimp only [H0, f_data, f_filled, f_rf, f_cf, f_vf, f_ag, f_fMode, f_fRk, f_fCk, f_prevVal, f_prevFound, f_keys, f_nRows, f_nForms, f_last, f_gVal, f_gCount, s_prevVal, s_prevFound]
      rw [E47]
      obtain rfl := Option.some.inj h
      exact QTri.mask [true, true] (hc ((v.1 + (1 : Int32)), (s_prevFound (s_prevVal r41 y42) y46)) rfl)
    rcases Classical.em ((0 : Int32) < (f_gCount r41)) with hc45 | hc45
    · refine QTri.brF Ad W (t := 41) (f := 37) (L := [some (.ref 0), some (.int v.1)]) (S := [.int v.1, .ref 7]) (σ := [.inl [.ref 1, .ref 2, .int (f_rf r41), .int (f_cf r41), .int (f_vf r41), .int (f_ag r41), .ref 3, .ref 4, .ref 5, .ref 6, .ref 7, .ref 8, .int (f_nRows r41), .int (f_nForms r41), .int (f_last r41), .int (f_gVal r41), .int (f_gCount r41)], .inr (.inl (.int, (f_data r41))), .inr (.inl (.boolean, (f_filled r41))), .inr (.inl (.int, (f_fMode r41))), .inr (.inl (.int, (f_fRk r41))), .inr (.inl (.int, (f_fCk r41))), .inr (.inl (.int, y42)), .inr (.inl (.boolean, (f_prevFound r41))), .inr (.inl (.int, (f_keys r41)))]) rfl (XT.i0_le_f hc45) ?_
      refine QTri.steps Ad W 2 (st' := (42, [some (.ref 0), some (.int v.1)], [.int (1 : Int32), .int v.1, .ref 7], [.inl [.ref 1, .ref 2, .int (f_rf r41), .int (f_cf r41), .int (f_vf r41), .int (f_ag r41), .ref 3, .ref 4, .ref 5, .ref 6, .ref 7, .ref 8, .int (f_nRows r41), .int (f_nForms r41), .int (f_last r41), .int (f_gVal r41), .int (f_gCount r41)], .inr (.inl (.int, (f_data r41))), .inr (.inl (.boolean, (f_filled r41))), .inr (.inl (.int, (f_fMode r41))), .inr (.inl (.int, (f_fRk r41))), .inr (.inl (.int, (f_fCk r41))), .inr (.inl (.int, y42)), .inr (.inl (.boolean, (f_prevFound r41))), .inr (.inl (.int, (f_keys r41)))])) rfl ?_
      exact QTri.mask [true, true] (K44 _ (if_pos hc45).symm)
    · refine QTri.brT Ad W (t := 41) (f := 37) (L := [some (.ref 0), some (.int v.1)]) (S := [.int v.1, .ref 7]) (σ := [.inl [.ref 1, .ref 2, .int (f_rf r41), .int (f_cf r41), .int (f_vf r41), .int (f_ag r41), .ref 3, .ref 4, .ref 5, .ref 6, .ref 7, .ref 8, .int (f_nRows r41), .int (f_nForms r41), .int (f_last r41), .int (f_gVal r41), .int (f_gCount r41)], .inr (.inl (.int, (f_data r41))), .inr (.inl (.boolean, (f_filled r41))), .inr (.inl (.int, (f_fMode r41))), .inr (.inl (.int, (f_fRk r41))), .inr (.inl (.int, (f_fCk r41))), .inr (.inl (.int, y42)), .inr (.inl (.boolean, (f_prevFound r41))), .inr (.inl (.int, (f_keys r41)))]) rfl (XT.i0_le_t hc45) ?_
      refine QTri.steps Ad W 1 (st' := (42, [some (.ref 0), some (.int v.1)], [.int (0 : Int32), .int v.1, .ref 7], [.inl [.ref 1, .ref 2, .int (f_rf r41), .int (f_cf r41), .int (f_vf r41), .int (f_ag r41), .ref 3, .ref 4, .ref 5, .ref 6, .ref 7, .ref 8, .int (f_nRows r41), .int (f_nForms r41), .int (f_last r41), .int (f_gVal r41), .int (f_gCount r41)], .inr (.inl (.int, (f_data r41))), .inr (.inl (.boolean, (f_filled r41))), .inr (.inl (.int, (f_fMode r41))), .inr (.inl (.int, (f_fRk r41))), .inr (.inl (.int, (f_fCk r41))), .inr (.inl (.int, y42)), .inr (.inl (.boolean, (f_prevFound r41))), .inr (.inl (.int, (f_keys r41)))])) rfl ?_
      exact QTri.mask [true, true] (K44 _ (if_neg hc45).symm)
  · refine QTri.brT Ad W (t := 49) (f := 10) (L := [some (.ref 0), some (.int v.1)]) (S := []) (σ := (H0 v.2)) rfl (XT.ii_ge_t hc27) ?_
    obtain rfl := Option.some.inj h
    obtain ⟨rfl, rfl⟩ := hx0 v.2 rfl
    exact QTri.ret0 rfl rfl
/-- snapshot()V -/
def F4 (o : Ob) : Option (Ob) :=
  (loopN (B4_2) qN ((0 : Int32), o)).bind fun e48 => some e48
theorem tF4 (Ad : QAd n0 ad) (W : QW Z a0) (o : Ob) {r : Ob} (h : F4 o = some r) : QTri l Z n0 ad 4 (0, qentry [.ref 0] (pMaxL 4), [], (H0 o)) (none : Option Value) (H0 r) := by
  unfold F4 at h
  refine QTri.steps Ad W 2 (st' := (2, [some (.ref 0), some (.int (0 : Int32))], [], (H0 o))) rfl ?_
  obtain ⟨e48, he48, h⟩ := Option.bind_eq_some_iff.mp h
  refine QTri.mask [true, true] (loopN_tri (B := B4_2) (T := fun lv49 => QTri l Z n0 ad 4 (2, [some (.ref 0), some (.int lv49.1)], [], (H0 lv49.2)) (none : Option Value) (H0 r)) (KE := fun e48a => (none : Option Value) = (none : Option Value) ∧ (H0 r) = (H0 e48a)) (fun lv49 r hB hE hC => tB4_2 Ad W  lv49 hB (fun x q => hE _ q) (fun x q => hC x q)) qN ((0 : Int32), o) e48 he48 ?_)
  obtain rfl := Option.some.inj h
  exact ⟨rfl, rfl⟩
def J6_56 (o : Ob) (x1 : Int32) (x2 : Int32) : Option (((Int32 × Ob)) ⊕ (Int32 × Int32 × Ob)) :=
  some (.inr (x1, (x2 + (1 : Int32)), o))
theorem tJ6_56 (Ad : QAd n0 ad) (W : QW Z a0) (o : Ob) (x1 : Int32) (x2 : Int32) {r : ((Int32 × Ob)) ⊕ (Int32 × Int32 × Ob)} {u : Option Value} {τ : QHeap} (h : J6_56 o x1 x2 = some r) (hx0 : ∀ x : Int32 × Ob, r = .inl x → u = (some (Value.int x.1)) ∧ τ = (H0 x.2)) (hc : ∀ x : Int32 × Int32 × Ob, r = .inr x → QTri l Z n0 ad 6 (4, [some (.ref 0), some (.int x.1), some (.int x.2.1), none], [], (H0 x.2.2)) u τ) : QTri l Z n0 ad 6 (56, [some (.ref 0), some (.int x1), some (.int x2), none], [], (H0 o)) u τ := by
  unfold J6_56 at h
  refine QTri.steps Ad W 2 (st' := (4, [some (.ref 0), some (.int x1), some (.int (x2 + (1 : Int32))), none], [], (H0 o))) rfl ?_
  obtain rfl := Option.some.inj h
  exact QTri.mask [true, true, true, false] (hc (x1, (x2 + (1 : Int32)), o) rfl)
def J6_53 (o : Ob) (x1 : Int32) (x2 : Int32) : Option (((Int32 × Ob)) ⊕ (Int32 × Int32 × Ob)) :=
  (J6_56 o (x1 + (1 : Int32)) x2)
theorem tJ6_53 (Ad : QAd n0 ad) (W : QW Z a0) (o : Ob) (x1 : Int32) (x2 : Int32) {r : ((Int32 × Ob)) ⊕ (Int32 × Int32 × Ob)} {u : Option Value} {τ : QHeap} (h : J6_53 o x1 x2 = some r) (hx0 : ∀ x : Int32 × Ob, r = .inl x → u = (some (Value.int x.1)) ∧ τ = (H0 x.2)) (hc : ∀ x : Int32 × Int32 × Ob, r = .inr x → QTri l Z n0 ad 6 (4, [some (.ref 0), some (.int x.1), some (.int x.2.1), none], [], (H0 x.2.2)) u τ) : QTri l Z n0 ad 6 (53, [some (.ref 0), some (.int x1), some (.int x2), none], [], (H0 o)) u τ := by
  unfold J6_53 at h
  refine QTri.steps Ad W 1 (st' := (56, [some (.ref 0), some (.int (x1 + (1 : Int32))), some (.int x2), none], [], (H0 o))) rfl ?_
  exact QTri.mask [true, true, true, false] (tJ6_56 Ad W o (x1 + (1 : Int32)) x2 h hx0 hc)
def B6_4 (v : Int32 × Int32 × Ob) : Option (((Int32 × Ob)) ⊕ (Int32 × Int32 × Ob)) :=
  (if v.2.1 < (f_nForms v.2.2) then (F5 v.2.2 v.2.1).bind fun r55 => (aget (f_prevVal r55) v.2.1).bind fun y59 => (if (f_gVal r55) = y59 then (aget (f_prevFound r55) v.2.1).bind fun y61 => some (.inr ((if (if (0 : Int32) < (f_gCount r55) then (1 : Int32) else (0 : Int32)) = y61 then v.1 else (v.1 + (1 : Int32))), (v.2.1 + (1 : Int32)), r55)) else (J6_53 r55 v.1 v.2.1)) else some (.inl (v.1, v.2.2)))
theorem tB6_4 (Ad : QAd n0 ad) (W : QW Z a0) (v : Int32 × Int32 × Ob) {r : ((Int32 × Ob)) ⊕ (Int32 × Int32 × Ob)} {u : Option Value} {τ : QHeap} (h : B6_4 v = some r) (hx0 : ∀ x : Int32 × Ob, r = .inl x → u = (some (Value.int x.1)) ∧ τ = (H0 x.2)) (hc : ∀ x : Int32 × Int32 × Ob, r = .inr x → QTri l Z n0 ad 6 (4, [some (.ref 0), some (.int x.1), some (.int x.2.1), none], [], (H0 x.2.2)) u τ) : QTri l Z n0 ad 6 (4, [some (.ref 0), some (.int v.1), some (.int v.2.1), none], [], (H0 v.2.2)) u τ := by
  unfold B6_4 at h
  refine QTri.steps Ad W 3 (st' := (9, [some (.ref 0), some (.int v.1), some (.int v.2.1), none], [.int (f_nForms v.2.2), .int v.2.1], (H0 v.2.2))) rfl ?_
  rcases qite h with ⟨hc54, h⟩ | ⟨hc54, h⟩
  · refine QTri.brF Ad W (t := 62) (f := 12) (L := [some (.ref 0), some (.int v.1), some (.int v.2.1), none]) (S := []) (σ := (H0 v.2.2)) rfl (XT.ii_ge_f hc54) ?_
    refine QTri.steps Ad W 2 (st' := (14, [some (.ref 0), some (.int v.1), some (.int v.2.1), none], [.int v.2.1, .ref 0], (H0 v.2.2))) rfl ?_
    obtain ⟨r55, hr55, h⟩ := Option.bind_eq_some_iff.mp h
    refine QTri.callP W (a := 0) (as := [.int v.2.1]) (rest := []) (w := none) (σ₁ := (H0 r55)) rfl rfl rfl rfl rfl rfl rfl rfl (tF5 Ad W v.2.2 v.2.1 hr55) ?_
    refine QTri.steps Ad W 2 (st' := (21, [some (.ref 0), some (.int v.1), some (.int v.2.1), none], [.int (f_gCount r55)], (H0 r55))) rfl ?_
    have K57 : ∀ z56 : Int32, z56 = (if (0 : Int32) < (f_gCount r55) then (1 : Int32) else (0 : Int32)) → QTri l Z n0 ad 6 (29, [some (.ref 0), some (.int v.1), some (.int v.2.1), none], [.int z56], (H0 r55)) u τ := by
      intro z56 ez56
      subst ez56
      refine QTri.steps Ad W 6 (st' := (39, [some (.ref 0), some (.int v.1), some (.int v.2.1), some (.int (if (0 : Int32) < (f_gCount r55) then (1 : Int32) else (0 : Int32)))], [.int v.2.1, .ref 6, .int (f_gVal r55)], (H0 r55))) rfl ?_
      obtain ⟨y59, hy59, h⟩ := Option.bind_eq_some_iff.mp h
      refine QTri.bnd Ad W (f := fun y59 => (40, [some (.ref 0), some (.int v.1), some (.int v.2.1), some (.int (if (0 : Int32) < (f_gCount r55) then (1 : Int32) else (0 : Int32)))], [.int y59, .int (f_gVal r55)], (H0 r55))) rfl hy59 ?_
      rcases qite h with ⟨hc60, h⟩ | ⟨hc60, h⟩
      · refine QTri.brF Ad W (t := 53) (f := 43) (L := [some (.ref 0), some (.int v.1), some (.int v.2.1), some (.int (if (0 : Int32) < (f_gCount r55) then (1 : Int32) else (0 : Int32)))]) (S := []) (σ := (H0 r55)) rfl (XT.ii_ne_f hc60) ?_
        refine QTri.steps Ad W 4 (st' := (49, [some (.ref 0), some (.int v.1), some (.int v.2.1), some (.int (if (0 : Int32) < (f_gCount r55) then (1 : Int32) else (0 : Int32)))], [.int v.2.1, .ref 7, .int (if (0 : Int32) < (f_gCount r55) then (1 : Int32) else (0 : Int32))], (H0 r55))) rfl ?_
        obtain ⟨y61, hy61, h⟩ := Option.bind_eq_some_iff.mp h
        refine QTri.bnd Ad W (f := fun y61 => (50, [some (.ref 0), some (.int v.1), some (.int v.2.1), some (.int (if (0 : Int32) < (f_gCount r55) then (1 : Int32) else (0 : Int32)))], [.int y61, .int (if (0 : Int32) < (f_gCount r55) then (1 : Int32) else (0 : Int32))], (H0 r55))) rfl hy61 ?_
        have K63 : ∀ z62 : Int32, z62 = (if (if (0 : Int32) < (f_gCount r55) then (1 : Int32) else (0 : Int32)) = y61 then v.1 else (v.1 + (1 : Int32))) → QTri l Z n0 ad 6 (56, [some (.ref 0), some (.int z62), some (.int v.2.1), none], [], (H0 r55)) u τ := by
          intro z62 ez62
          subst ez62
          refine QTri.steps Ad W 2 (st' := (4, [some (.ref 0), some (.int (if (if (0 : Int32) < (f_gCount r55) then (1 : Int32) else (0 : Int32)) = y61 then v.1 else (v.1 + (1 : Int32)))), some (.int (v.2.1 + (1 : Int32))), none], [], (H0 r55))) rfl ?_
          obtain rfl := Option.some.inj h
          exact QTri.mask [true, true, true, false] (hc ((if (if (0 : Int32) < (f_gCount r55) then (1 : Int32) else (0 : Int32)) = y61 then v.1 else (v.1 + (1 : Int32))), (v.2.1 + (1 : Int32)), r55) rfl)
        rcases Classical.em ((if (0 : Int32) < (f_gCount r55) then (1 : Int32) else (0 : Int32)) = y61) with hc64 | hc64
        · refine QTri.brT Ad W (t := 56) (f := 53) (L := [some (.ref 0), some (.int v.1), some (.int v.2.1), some (.int (if (0 : Int32) < (f_gCount r55) then (1 : Int32) else (0 : Int32)))]) (S := []) (σ := (H0 r55)) rfl (XT.ii_eq_t hc64) ?_
          exact QTri.mask [true, true, true, false] (K63 _ (if_pos hc64).symm)
        · refine QTri.brF Ad W (t := 56) (f := 53) (L := [some (.ref 0), some (.int v.1), some (.int v.2.1), some (.int (if (0 : Int32) < (f_gCount r55) then (1 : Int32) else (0 : Int32)))]) (S := []) (σ := (H0 r55)) rfl (XT.ii_eq_f hc64) ?_
          refine QTri.steps Ad W 1 (st' := (56, [some (.ref 0), some (.int (v.1 + (1 : Int32))), some (.int v.2.1), some (.int (if (0 : Int32) < (f_gCount r55) then (1 : Int32) else (0 : Int32)))], [], (H0 r55))) rfl ?_
          exact QTri.mask [true, true, true, false] (K63 _ (if_neg hc64).symm)
      · refine QTri.brT Ad W (t := 53) (f := 43) (L := [some (.ref 0), some (.int v.1), some (.int v.2.1), some (.int (if (0 : Int32) < (f_gCount r55) then (1 : Int32) else (0 : Int32)))]) (S := []) (σ := (H0 r55)) rfl (XT.ii_ne_t hc60) ?_
        exact QTri.mask [true, true, true, false] (tJ6_53 Ad W r55 v.1 v.2.1 h hx0 hc)
    rcases Classical.em ((0 : Int32) < (f_gCount r55)) with hc58 | hc58
    · refine QTri.brF Ad W (t := 28) (f := 24) (L := [some (.ref 0), some (.int v.1), some (.int v.2.1), none]) (S := []) (σ := (H0 r55)) rfl (XT.i0_le_f hc58) ?_
      refine QTri.steps Ad W 2 (st' := (29, [some (.ref 0), some (.int v.1), some (.int v.2.1), none], [.int (1 : Int32)], (H0 r55))) rfl ?_
      exact QTri.mask [true, true, true, false] (K57 _ (if_pos hc58).symm)
    · refine QTri.brT Ad W (t := 28) (f := 24) (L := [some (.ref 0), some (.int v.1), some (.int v.2.1), none]) (S := []) (σ := (H0 r55)) rfl (XT.i0_le_t hc58) ?_
      refine QTri.steps Ad W 1 (st' := (29, [some (.ref 0), some (.int v.1), some (.int v.2.1), none], [.int (0 : Int32)], (H0 r55))) rfl ?_
      exact QTri.mask [true, true, true, false] (K57 _ (if_neg hc58).symm)
  · refine QTri.brT Ad W (t := 62) (f := 12) (L := [some (.ref 0), some (.int v.1), some (.int v.2.1), none]) (S := []) (σ := (H0 v.2.2)) rfl (XT.ii_ge_t hc54) ?_
    refine QTri.steps Ad W 1 (st' := (63, [some (.ref 0), some (.int v.1), some (.int v.2.1), none], [.int v.1], (H0 v.2.2))) rfl ?_
    obtain rfl := Option.some.inj h
    obtain ⟨rfl, rfl⟩ := hx0 (v.1, v.2.2) rfl
    exact QTri.retI rfl rfl
/-- countChanged()I -/
def F6 (o : Ob) : Option (Int32 × Ob) :=
  (loopN (B6_4) qN ((0 : Int32), (0 : Int32), o)).bind fun e65 => some e65
theorem tF6 (Ad : QAd n0 ad) (W : QW Z a0) (o : Ob) {r : Int32 × Ob} (h : F6 o = some r) : QTri l Z n0 ad 6 (0, qentry [.ref 0] (pMaxL 6), [], (H0 o)) (some (Value.int r.1)) (H0 r.2) := by
  unfold F6 at h
  refine QTri.steps Ad W 4 (st' := (4, [some (.ref 0), some (.int (0 : Int32)), some (.int (0 : Int32)), none], [], (H0 o))) rfl ?_
  obtain ⟨e65, he65, h⟩ := Option.bind_eq_some_iff.mp h
  refine QTri.mask [true, true, true, false] (loopN_tri (B := B6_4) (T := fun lv66 => QTri l Z n0 ad 6 (4, [some (.ref 0), some (.int lv66.1), some (.int lv66.2.1), none], [], (H0 lv66.2.2)) (some (Value.int r.1)) (H0 r.2)) (KE := fun e65a => (some (Value.int r.1)) = (some (Value.int e65a.1)) ∧ (H0 r.2) = (H0 e65a.2)) (fun lv66 r hB hE hC => tB6_4 Ad W  lv66 hB (fun x q => hE _ q) (fun x q => hC x q)) qN ((0 : Int32), (0 : Int32), o) e65 he65 ?_)
  obtain rfl := Option.some.inj h
  exact ⟨rfl, rfl⟩
/-- setCell(III)Z -/
def F2 (o : Ob) (x1 : Int32) (x2 : Int32) (x3 : Int32) : Option (Int32 × Ob) :=
  (F3 o x1).bind fun r23 => (if r23 = (0 : Int32) then some ((0 : Int32), o) else (if x2 < (0 : Int32) then some ((0 : Int32), o) else (if x2 < (4 : Int32) then (F4 o).bind fun r50 => (aset (f_data r50) ((x1 * (4 : Int32)) + x2) x3).bind fun y51 => (aset (f_filled r50) x1 (1 : Int32)).bind fun y52 => (F6 (s_filled (s_data r50 y51) y52)).bind fun r67 => some ((1 : Int32), (s_last r67.2 r67.1)) else some ((0 : Int32), o))))
theorem tF2 (Ad : QAd n0 ad) (W : QW Z a0) (o : Ob) (x1 : Int32) (x2 : Int32) (x3 : Int32) {r : Int32 × Ob} (h : F2 o x1 x2 x3 = some r) : QTri l Z n0 ad 2 (0, qentry [.ref 0, .int x1, .int x2, .int x3] (pMaxL 2), [], (H0 o)) (some (Value.int r.1)) (H0 r.2) := by
  unfold F2 at h
  refine QTri.steps Ad W 2 (st' := (2, [some (.ref 0), some (.int x1), some (.int x2), some (.int x3)], [.int x1, .ref 0], (H0 o))) rfl ?_
  obtain ⟨r23, hr23, h⟩ := Option.bind_eq_some_iff.mp h
  refine QTri.callP W (a := 0) (as := [.int x1]) (rest := []) (w := (some (.int r23))) (σ₁ := (H0 o)) rfl rfl rfl rfl rfl rfl rfl rfl (tF3 Ad W o x1 hr23) ?_
  rcases qite h with ⟨hc24, h⟩ | ⟨hc24, h⟩
  · refine QTri.brF Ad W (t := 10) (f := 8) (L := [some (.ref 0), some (.int x1), some (.int x2), some (.int x3)]) (S := []) (σ := (H0 o)) rfl (XT.i0_ne_f hc24) ?_
    refine QTri.steps Ad W 1 (st' := (9, [some (.ref 0), some (.int x1), some (.int x2), some (.int x3)], [.int (0 : Int32)], (H0 o))) rfl ?_
    obtain rfl := Option.some.inj h
    exact QTri.retZ rfl rfl
  · refine QTri.brT Ad W (t := 10) (f := 8) (L := [some (.ref 0), some (.int x1), some (.int x2), some (.int x3)]) (S := []) (σ := (H0 o)) rfl (XT.i0_ne_t hc24) ?_
    refine QTri.steps Ad W 1 (st' := (11, [some (.ref 0), some (.int x1), some (.int x2), some (.int x3)], [.int x2], (H0 o))) rfl ?_
    rcases qite h with ⟨hc25, h⟩ | ⟨hc25, h⟩
    · refine QTri.brT Ad W (t := 19) (f := 14) (L := [some (.ref 0), some (.int x1), some (.int x2), some (.int x3)]) (S := []) (σ := (H0 o)) rfl (XT.i0_lt_t hc25) ?_
      refine QTri.steps Ad W 1 (st' := (20, [some (.ref 0), some (.int x1), some (.int x2), some (.int x3)], [.int (0 : Int32)], (H0 o))) rfl ?_
      obtain rfl := Option.some.inj h
      exact QTri.retZ rfl rfl
    · refine QTri.brF Ad W (t := 19) (f := 14) (L := [some (.ref 0), some (.int x1), some (.int x2), some (.int x3)]) (S := []) (σ := (H0 o)) rfl (XT.i0_lt_f hc25) ?_
      refine QTri.steps Ad W 2 (st' := (16, [some (.ref 0), some (.int x1), some (.int x2), some (.int x3)], [.int (4 : Int32), .int x2], (H0 o))) rfl ?_
      rcases qite h with ⟨hc26, h⟩ | ⟨hc26, h⟩
      · refine QTri.brT Ad W (t := 21) (f := 19) (L := [some (.ref 0), some (.int x1), some (.int x2), some (.int x3)]) (S := []) (σ := (H0 o)) rfl (XT.ii_lt_t hc26) ?_
        refine QTri.steps Ad W 1 (st' := (22, [some (.ref 0), some (.int x1), some (.int x2), some (.int x3)], [.ref 0], (H0 o))) rfl ?_
        obtain ⟨r50, hr50, h⟩ := Option.bind_eq_some_iff.mp h
        refine QTri.callP W (a := 0) (as := []) (rest := []) (w := none) (σ₁ := (H0 r50)) rfl rfl rfl rfl rfl rfl rfl rfl (tF4 Ad W o hr50) ?_
        refine QTri.steps Ad W 8 (st' := (35, [some (.ref 0), some (.int x1), some (.int x2), some (.int x3)], [.int x3, .int ((x1 * (4 : Int32)) + x2), .ref 1], (H0 r50))) rfl ?_
        obtain ⟨y51, hy51, h⟩ := Option.bind_eq_some_iff.mp h
        refine QTri.bnd Ad W (f := fun y51 => (36, [some (.ref 0), some (.int x1), some (.int x2), some (.int x3)], [], [.inl [.ref 1, .ref 2, .int (f_rf r50), .int (f_cf r50), .int (f_vf r50), .int (f_ag r50), .ref 3, .ref 4, .ref 5, .ref 6, .ref 7, .ref 8, .int (f_nRows r50), .int (f_nForms r50), .int (f_last r50), .int (f_gVal r50), .int (f_gCount r50)], .inr (.inl (.int, y51)), .inr (.inl (.boolean, (f_filled r50))), .inr (.inl (.int, (f_fMode r50))), .inr (.inl (.int, (f_fRk r50))), .inr (.inl (.int, (f_fCk r50))), .inr (.inl (.int, (f_prevVal r50))), .inr (.inl (.boolean, (f_prevFound r50))), .inr (.inl (.int, (f_keys r50)))])) rfl hy51 ?_
        refine QTri.steps Ad W 4 (st' := (42, [some (.ref 0), some (.int x1), some (.int x2), some (.int x3)], [.int (1 : Int32), .int x1, .ref 2], [.inl [.ref 1, .ref 2, .int (f_rf r50), .int (f_cf r50), .int (f_vf r50), .int (f_ag r50), .ref 3, .ref 4, .ref 5, .ref 6, .ref 7, .ref 8, .int (f_nRows r50), .int (f_nForms r50), .int (f_last r50), .int (f_gVal r50), .int (f_gCount r50)], .inr (.inl (.int, y51)), .inr (.inl (.boolean, (f_filled r50))), .inr (.inl (.int, (f_fMode r50))), .inr (.inl (.int, (f_fRk r50))), .inr (.inl (.int, (f_fCk r50))), .inr (.inl (.int, (f_prevVal r50))), .inr (.inl (.boolean, (f_prevFound r50))), .inr (.inl (.int, (f_keys r50)))])) rfl ?_
        obtain ⟨y52, hy52, h⟩ := Option.bind_eq_some_iff.mp h
        refine QTri.bnd Ad W (f := fun y52 => (43, [some (.ref 0), some (.int x1), some (.int x2), some (.int x3)], [], [.inl [.ref 1, .ref 2, .int (f_rf r50), .int (f_cf r50), .int (f_vf r50), .int (f_ag r50), .ref 3, .ref 4, .ref 5, .ref 6, .ref 7, .ref 8, .int (f_nRows r50), .int (f_nForms r50), .int (f_last r50), .int (f_gVal r50), .int (f_gCount r50)], .inr (.inl (.int, y51)), .inr (.inl (.boolean, y52)), .inr (.inl (.int, (f_fMode r50))), .inr (.inl (.int, (f_fRk r50))), .inr (.inl (.int, (f_fCk r50))), .inr (.inl (.int, (f_prevVal r50))), .inr (.inl (.boolean, (f_prevFound r50))), .inr (.inl (.int, (f_keys r50)))])) rfl hy52 ?_
        refine QTri.steps Ad W 2 (st' := (45, [some (.ref 0), some (.int x1), some (.int x2), some (.int x3)], [.ref 0, .ref 0], [.inl [.ref 1, .ref 2, .int (f_rf r50), .int (f_cf r50), .int (f_vf r50), .int (f_ag r50), .ref 3, .ref 4, .ref 5, .ref 6, .ref 7, .ref 8, .int (f_nRows r50), .int (f_nForms r50), .int (f_last r50), .int (f_gVal r50), .int (f_gCount r50)], .inr (.inl (.int, y51)), .inr (.inl (.boolean, y52)), .inr (.inl (.int, (f_fMode r50))), .inr (.inl (.int, (f_fRk r50))), .inr (.inl (.int, (f_fCk r50))), .inr (.inl (.int, (f_prevVal r50))), .inr (.inl (.boolean, (f_prevFound r50))), .inr (.inl (.int, (f_keys r50)))])) rfl ?_
        have E53 : ([.inl [.ref 1, .ref 2, .int (f_rf r50), .int (f_cf r50), .int (f_vf r50), .int (f_ag r50), .ref 3, .ref 4, .ref 5, .ref 6, .ref 7, .ref 8, .int (f_nRows r50), .int (f_nForms r50), .int (f_last r50), .int (f_gVal r50), .int (f_gCount r50)], .inr (.inl (.int, y51)), .inr (.inl (.boolean, y52)), .inr (.inl (.int, (f_fMode r50))), .inr (.inl (.int, (f_fRk r50))), .inr (.inl (.int, (f_fCk r50))), .inr (.inl (.int, (f_prevVal r50))), .inr (.inl (.boolean, (f_prevFound r50))), .inr (.inl (.int, (f_keys r50)))] : QHeap) = (H0 (s_filled (s_data r50 y51) y52)) := by dsimp only [H0, f_data, f_filled, f_rf, f_cf, f_vf, f_ag, f_fMode, f_fRk, f_fCk, f_prevVal, f_prevFound, f_keys, f_nRows, f_nForms, f_last, f_gVal, f_gCount, s_data, s_filled]
        rw [E53]
        obtain ⟨r67, hr67, h⟩ := Option.bind_eq_some_iff.mp h
        refine QTri.callP W (a := 0) (as := []) (rest := [.ref 0]) (w := (some (.int r67.1))) (σ₁ := (H0 r67.2)) rfl rfl rfl rfl rfl rfl rfl rfl (tF6 Ad W (s_filled (s_data r50 y51) y52) hr67) ?_
        refine QTri.steps Ad W 1 (st' := (51, [some (.ref 0), some (.int x1), some (.int x2), some (.int x3)], [], [.inl [.ref 1, .ref 2, .int (f_rf r67.2), .int (f_cf r67.2), .int (f_vf r67.2), .int (f_ag r67.2), .ref 3, .ref 4, .ref 5, .ref 6, .ref 7, .ref 8, .int (f_nRows r67.2), .int (f_nForms r67.2), .int r67.1, .int (f_gVal r67.2), .int (f_gCount r67.2)], .inr (.inl (.int, (f_data r67.2))), .inr (.inl (.boolean, (f_filled r67.2))), .inr (.inl (.int, (f_fMode r67.2))), .inr (.inl (.int, (f_fRk r67.2))), .inr (.inl (.int, (f_fCk r67.2))), .inr (.inl (.int, (f_prevVal r67.2))), .inr (.inl (.boolean, (f_prevFound r67.2))), .inr (.inl (.int, (f_keys r67.2)))])) rfl ?_
        refine QTri.steps Ad W 1 (st' := (52, [some (.ref 0), some (.int x1), some (.int x2), some (.int x3)], [.int (1 : Int32)], [.inl [.ref 1, .ref 2, .int (f_rf r67.2), .int (f_cf r67.2), .int (f_vf r67.2), .int (f_ag r67.2), .ref 3, .ref 4, .ref 5, .ref 6, .ref 7, .ref 8, .int (f_nRows r67.2), .int (f_nForms r67.2), .int r67.1, .int (f_gVal r67.2), .int (f_gCount r67.2)], .inr (.inl (.int, (f_data r67.2))), .inr (.inl (.boolean, (f_filled r67.2))), .inr (.inl (.int, (f_fMode r67.2))), .inr (.inl (.int, (f_fRk r67.2))), .inr (.inl (.int, (f_fCk r67.2))), .inr (.inl (.int, (f_prevVal r67.2))), .inr (.inl (.boolean, (f_prevFound r67.2))), .inr (.inl (.int, (f_keys r67.2)))])) rfl ?_
        have E68 : ([.inl [.ref 1, .ref 2, .int (f_rf r67.2), .int (f_cf r67.2), .int (f_vf r67.2), .int (f_ag r67.2), .ref 3, .ref 4, .ref 5, .ref 6, .ref 7, .ref 8, .int (f_nRows r67.2), .int (f_nForms r67.2), .int r67.1, .int (f_gVal r67.2), .int (f_gCount r67.2)], .inr (.inl (.int, (f_data r67.2))), .inr (.inl (.boolean, (f_filled r67.2))), .inr (.inl (.int, (f_fMode r67.2))), .inr (.inl (.int, (f_fRk r67.2))), .inr (.inl (.int, (f_fCk r67.2))), .inr (.inl (.int, (f_prevVal r67.2))), .inr (.inl (.boolean, (f_prevFound r67.2))), .inr (.inl (.int, (f_keys r67.2)))] : QHeap) = (H0 (s_last r67.2 r67.1)) := by dsimp only [H0, f_data, f_filled, f_rf, f_cf, f_vf, f_ag, f_fMode, f_fRk, f_fCk, f_prevVal, f_prevFound, f_keys, f_nRows, f_nForms, f_last, f_gVal, f_gCount, s_last]
        rw [E68]
        obtain rfl := Option.some.inj h
        exact QTri.retZ rfl rfl
      · refine QTri.brF Ad W (t := 21) (f := 19) (L := [some (.ref 0), some (.int x1), some (.int x2), some (.int x3)]) (S := []) (σ := (H0 o)) rfl (XT.ii_lt_f hc26) ?_
        refine QTri.steps Ad W 1 (st' := (20, [some (.ref 0), some (.int x1), some (.int x2), some (.int x3)], [.int (0 : Int32)], (H0 o))) rfl ?_
        obtain rfl := Option.some.inj h
        exact QTri.retZ rfl rfl
/-- getCell(II)I -/
def F7 (o : Ob) (x1 : Int32) (x2 : Int32) : Option (Int32) :=
  (F3 o x1).bind fun r71 => (if r71 = (0 : Int32) then some (0 : Int32) else (if x2 < (0 : Int32) then some (0 : Int32) else (if x2 < (4 : Int32) then (aget (f_data o) ((x1 * (4 : Int32)) + x2)).bind fun y75 => some y75 else some (0 : Int32))))
theorem tF7 (Ad : QAd n0 ad) (W : QW Z a0) (o : Ob) (x1 : Int32) (x2 : Int32) {r : Int32} (h : F7 o x1 x2 = some r) : QTri l Z n0 ad 7 (0, qentry [.ref 0, .int x1, .int x2] (pMaxL 7), [], (H0 o)) (some (Value.int r)) (H0 o) := by
  unfold F7 at h
  refine QTri.steps Ad W 2 (st' := (2, [some (.ref 0), some (.int x1), some (.int x2)], [.int x1, .ref 0], (H0 o))) rfl ?_
  obtain ⟨r71, hr71, h⟩ := Option.bind_eq_some_iff.mp h
  refine QTri.callP W (a := 0) (as := [.int x1]) (rest := []) (w := (some (.int r71))) (σ₁ := (H0 o)) rfl rfl rfl rfl rfl rfl rfl rfl (tF3 Ad W o x1 hr71) ?_
  rcases qite h with ⟨hc72, h⟩ | ⟨hc72, h⟩
  · refine QTri.brT Ad W (t := 17) (f := 8) (L := [some (.ref 0), some (.int x1), some (.int x2)]) (S := []) (σ := (H0 o)) rfl (XT.i0_eq_t hc72) ?_
    refine QTri.steps Ad W 1 (st' := (18, [some (.ref 0), some (.int x1), some (.int x2)], [.int (0 : Int32)], (H0 o))) rfl ?_
    obtain rfl := Option.some.inj h
    exact QTri.retI rfl rfl
  · refine QTri.brF Ad W (t := 17) (f := 8) (L := [some (.ref 0), some (.int x1), some (.int x2)]) (S := []) (σ := (H0 o)) rfl (XT.i0_eq_f hc72) ?_
    refine QTri.steps Ad W 1 (st' := (9, [some (.ref 0), some (.int x1), some (.int x2)], [.int x2], (H0 o))) rfl ?_
    rcases qite h with ⟨hc73, h⟩ | ⟨hc73, h⟩
    · refine QTri.brT Ad W (t := 17) (f := 12) (L := [some (.ref 0), some (.int x1), some (.int x2)]) (S := []) (σ := (H0 o)) rfl (XT.i0_lt_t hc73) ?_
      refine QTri.steps Ad W 1 (st' := (18, [some (.ref 0), some (.int x1), some (.int x2)], [.int (0 : Int32)], (H0 o))) rfl ?_
      obtain rfl := Option.some.inj h
      exact QTri.retI rfl rfl
    · refine QTri.brF Ad W (t := 17) (f := 12) (L := [some (.ref 0), some (.int x1), some (.int x2)]) (S := []) (σ := (H0 o)) rfl (XT.i0_lt_f hc73) ?_
      refine QTri.steps Ad W 2 (st' := (14, [some (.ref 0), some (.int x1), some (.int x2)], [.int (4 : Int32), .int x2], (H0 o))) rfl ?_
      rcases qite h with ⟨hc74, h⟩ | ⟨hc74, h⟩
      · refine QTri.brT Ad W (t := 19) (f := 17) (L := [some (.ref 0), some (.int x1), some (.int x2)]) (S := []) (σ := (H0 o)) rfl (XT.ii_lt_t hc74) ?_
        refine QTri.steps Ad W 7 (st' := (28, [some (.ref 0), some (.int x1), some (.int x2)], [.int ((x1 * (4 : Int32)) + x2), .ref 1], (H0 o))) rfl ?_
        obtain ⟨y75, hy75, h⟩ := Option.bind_eq_some_iff.mp h
        refine QTri.bnd Ad W (f := fun y75 => (29, [some (.ref 0), some (.int x1), some (.int x2)], [.int y75], (H0 o))) rfl hy75 ?_
        obtain rfl := Option.some.inj h
        exact QTri.retI rfl rfl
      · refine QTri.brF Ad W (t := 19) (f := 17) (L := [some (.ref 0), some (.int x1), some (.int x2)]) (S := []) (σ := (H0 o)) rfl (XT.ii_lt_f hc74) ?_
        refine QTri.steps Ad W 1 (st' := (18, [some (.ref 0), some (.int x1), some (.int x2)], [.int (0 : Int32)], (H0 o))) rfl ?_
        obtain rfl := Option.some.inj h
        exact QTri.retI rfl rfl
/-- isFilled(I)Z -/
def F8 (o : Ob) (x1 : Int32) : Option (Int32) :=
  (F3 o x1).bind fun r83 => (if r83 = (0 : Int32) then some (0 : Int32) else (aget (f_filled o) x1).bind fun y85 => some (y85 &&& 1))
theorem tF8 (Ad : QAd n0 ad) (W : QW Z a0) (o : Ob) (x1 : Int32) {r : Int32} (h : F8 o x1 = some r) : QTri l Z n0 ad 8 (0, qentry [.ref 0, .int x1] (pMaxL 8), [], (H0 o)) (some (Value.int r)) (H0 o) := by
  unfold F8 at h
  refine QTri.steps Ad W 2 (st' := (2, [some (.ref 0), some (.int x1)], [.int x1, .ref 0], (H0 o))) rfl ?_
  obtain ⟨r83, hr83, h⟩ := Option.bind_eq_some_iff.mp h
  refine QTri.callP W (a := 0) (as := [.int x1]) (rest := []) (w := (some (.int r83))) (σ₁ := (H0 o)) rfl rfl rfl rfl rfl rfl rfl rfl (tF3 Ad W o x1 hr83) ?_
  rcases qite h with ⟨hc84, h⟩ | ⟨hc84, h⟩
  · refine QTri.brF Ad W (t := 10) (f := 8) (L := [some (.ref 0), some (.int x1)]) (S := []) (σ := (H0 o)) rfl (XT.i0_ne_f hc84) ?_
    refine QTri.steps Ad W 1 (st' := (9, [some (.ref 0), some (.int x1)], [.int (0 : Int32)], (H0 o))) rfl ?_
    obtain rfl := Option.some.inj h
    exact QTri.retZ rfl rfl
  · refine QTri.brT Ad W (t := 10) (f := 8) (L := [some (.ref 0), some (.int x1)]) (S := []) (σ := (H0 o)) rfl (XT.i0_ne_t hc84) ?_
    refine QTri.steps Ad W 3 (st' := (15, [some (.ref 0), some (.int x1)], [.int x1, .ref 2], (H0 o))) rfl ?_
    obtain ⟨y85, hy85, h⟩ := Option.bind_eq_some_iff.mp h
    refine QTri.bnd Ad W (f := fun y85 => (16, [some (.ref 0), some (.int x1)], [.int y85], (H0 o))) rfl hy85 ?_
    obtain rfl := Option.some.inj h
    exact QTri.retZ rfl rfl
def J10_42 (o : Ob) (x1 : Int32) (x2 : Int32) (x3 : Int32) (x4 : Int32) : Option (((Int32 × Ob)) ⊕ (Int32 × Int32 × Ob)) :=
  some (.inr (x3, (x4 + (1 : Int32)), o))
theorem tJ10_42 (Ad : QAd n0 ad) (W : QW Z a0) (o : Ob) (x1 : Int32) (x2 : Int32) (x3 : Int32) (x4 : Int32) {r : ((Int32 × Ob)) ⊕ (Int32 × Int32 × Ob)} {u : Option Value} {τ : QHeap} (h : J10_42 o x1 x2 x3 x4 = some r) (hx0 : ∀ x : Int32 × Ob, r = .inl x → u = (some (Value.int x.1)) ∧ τ = (H0 x.2)) (hc : ∀ x : Int32 × Int32 × Ob, r = .inr x → QTri l Z n0 ad 10 (5, [some (.ref 0), some (.int x1), some (.int x2), some (.int x.1), some (.int x.2.1)], [], (H0 x.2.2)) u τ) : QTri l Z n0 ad 10 (42, [some (.ref 0), some (.int x1), some (.int x2), some (.int x3), some (.int x4)], [], (H0 o)) u τ := by
  unfold J10_42 at h
  refine QTri.steps Ad W 2 (st' := (5, [some (.ref 0), some (.int x1), some (.int x2), some (.int x3), some (.int (x4 + (1 : Int32)))], [], (H0 o))) rfl ?_
  obtain rfl := Option.some.inj h
  exact QTri.mask [true, true, true, true, true] (hc (x3, (x4 + (1 : Int32)), o) rfl)
def B11_15 (o : Ob) (x1 : Int32) (x2 : Int32) (x3 : Int32) (v : Int32) : Option (((Int32)) ⊕ (Int32)) :=
  (if v < x2 then (aget (f_keys o) (x1 + v)).bind fun y95 => (if y95 < x3 then some (.inr (v + (1 : Int32))) else some (.inl v)) else some (.inl v))
theorem tB11_15 (Ad : QAd n0 ad) (W : QW Z a0) (o : Ob) (x1 : Int32) (x2 : Int32) (x3 : Int32) (v : Int32) {r : ((Int32)) ⊕ (Int32)} {u : Option Value} {τ : QHeap} (h : B11_15 o x1 x2 x3 v = some r) (hx0 : ∀ x : Int32, r = .inl x → QTri l Z n0 ad 11 (40, [some (.ref 0), some (.int x1), some (.int x2), some (.int x3), some (.int x), none], [], (H0 o)) u τ) (hc : ∀ x : Int32, r = .inr x → QTri l Z n0 ad 11 (15, [some (.ref 0), some (.int x1), some (.int x2), some (.int x3), some (.int x), none], [], (H0 o)) u τ) : QTri l Z n0 ad 11 (15, [some (.ref 0), some (.int x1), some (.int x2), some (.int x3), some (.int v), none], [], (H0 o)) u τ := by
  unfold B11_15 at h
  refine QTri.steps Ad W 2 (st' := (18, [some (.ref 0), some (.int x1), some (.int x2), some (.int x3), some (.int v), none], [.int x2, .int v], (H0 o))) rfl ?_
  rcases qite h with ⟨hc94, h⟩ | ⟨hc94, h⟩
  · refine QTri.brF Ad W (t := 40) (f := 21) (L := [some (.ref 0), some (.int x1), some (.int x2), some (.int x3), some (.int v), none]) (S := []) (σ := (H0 o)) rfl (XT.ii_ge_f hc94) ?_
    refine QTri.steps Ad W 5 (st' := (29, [some (.ref 0), some (.int x1), some (.int x2), some (.int x3), some (.int v), none], [.int (x1 + v), .ref 8], (H0 o))) rfl ?_
    obtain ⟨y95, hy95, h⟩ := Option.bind_eq_some_iff.mp h
    refine QTri.bnd Ad W (f := fun y95 => (30, [some (.ref 0), some (.int x1), some (.int x2), some (.int x3), some (.int v), none], [.int y95], (H0 o))) rfl hy95 ?_
    refine QTri.steps Ad W 1 (st' := (31, [some (.ref 0), some (.int x1), some (.int x2), some (.int x3), some (.int v), none], [.int x3, .int y95], (H0 o))) rfl ?_
    rcases qite h with ⟨hc96, h⟩ | ⟨hc96, h⟩
    · refine QTri.brF Ad W (t := 40) (f := 34) (L := [some (.ref 0), some (.int x1), some (.int x2), some (.int x3), some (.int v), none]) (S := []) (σ := (H0 o)) rfl (XT.ii_ge_f hc96) ?_
      refine QTri.steps Ad W 2 (st' := (15, [some (.ref 0), some (.int x1), some (.int x2), some (.int x3), some (.int (v + (1 : Int32))), none], [], (H0 o))) rfl ?_
      obtain rfl := Option.some.inj h
      exact QTri.mask [true, true, true, true, true, false] (hc (v + (1 : Int32)) rfl)
    · refine QTri.brT Ad W (t := 40) (f := 34) (L := [some (.ref 0), some (.int x1), some (.int x2), some (.int x3), some (.int v), none]) (S := []) (σ := (H0 o)) rfl (XT.ii_ge_t hc96) ?_
      obtain rfl := Option.some.inj h
      exact QTri.mask [true, true, true, true, true, false] (hx0 v rfl)
  · refine QTri.brT Ad W (t := 40) (f := 21) (L := [some (.ref 0), some (.int x1), some (.int x2), some (.int x3), some (.int v), none]) (S := []) (σ := (H0 o)) rfl (XT.ii_ge_t hc94) ?_
    obtain rfl := Option.some.inj h
    exact QTri.mask [true, true, true, true, true, false] (hx0 v rfl)
def B11_64 (x1 : Int32) (x2 : Int32) (x3 : Int32) (x4 : Int32) (v : Int32 × Ob) : Option (((Ob)) ⊕ (Int32 × Ob)) :=
  (if x4 < v.1 then (aget (f_keys v.2) ((x1 + v.1) - (1 : Int32))).bind fun y103 => (aset (f_keys v.2) (x1 + v.1) y103).bind fun y104 => some (.inr ((v.1 + (-1 : Int32)), (s_keys v.2 y104))) else some (.inl v.2))
theorem tB11_64 (Ad : QAd n0 ad) (W : QW Z a0) (x1 : Int32) (x2 : Int32) (x3 : Int32) (x4 : Int32) (v : Int32 × Ob) {r : ((Ob)) ⊕ (Int32 × Ob)} {u : Option Value} {τ : QHeap} (h : B11_64 x1 x2 x3 x4 v = some r) (hx0 : ∀ x : Ob, r = .inl x → QTri l Z n0 ad 11 (97, [some (.ref 0), some (.int x1), some (.int x2), some (.int x3), some (.int x4), none], [], (H0 x)) u τ) (hc : ∀ x : Int32 × Ob, r = .inr x → QTri l Z n0 ad 11 (64, [some (.ref 0), some (.int x1), some (.int x2), some (.int x3), some (.int x4), some (.int x.1)], [], (H0 x.2)) u τ) : QTri l Z n0 ad 11 (64, [some (.ref 0), some (.int x1), some (.int x2), some (.int x3), some (.int x4), some (.int v.1)], [], (H0 v.2)) u τ := by
  unfold B11_64 at h
  refine QTri.steps Ad W 2 (st' := (68, [some (.ref 0), some (.int x1), some (.int x2), some (.int x3), some (.int x4), some (.int v.1)], [.int x4, .int v.1], (H0 v.2))) rfl ?_
  rcases qite h with ⟨hc102, h⟩ | ⟨hc102, h⟩
  · refine QTri.brF Ad W (t := 97) (f := 71) (L := [some (.ref 0), some (.int x1), some (.int x2), some (.int x3), some (.int x4), some (.int v.1)]) (S := []) (σ := (H0 v.2)) rfl (XT.ii_le_f hc102) ?_
    refine QTri.steps Ad W 12 (st' := (89, [some (.ref 0), some (.int x1), some (.int x2), some (.int x3), some (.int x4), some (.int v.1)], [.int ((x1 + v.1) - (1 : Int32)), .ref 8, .int (x1 + v.1), .ref 8], (H0 v.2))) rfl ?_
    obtain ⟨y103, hy103, h⟩ := Option.bind_eq_some_iff.mp h
    refine QTri.bnd Ad W (f := fun y103 => (90, [some (.ref 0), some (.int x1), some (.int x2), some (.int x3), some (.int x4), some (.int v.1)], [.int y103, .int (x1 + v.1), .ref 8], (H0 v.2))) rfl hy103 ?_
    obtain ⟨y104, hy104, h⟩ := Option.bind_eq_some_iff.mp h
    refine QTri.bnd Ad W (f := fun y104 => (91, [some (.ref 0), some (.int x1), some (.int x2), some (.int x3), some (.int x4), some (.int v.1)], [], [.inl [.ref 1, .ref 2, .int (f_rf v.2), .int (f_cf v.2), .int (f_vf v.2), .int (f_ag v.2), .ref 3, .ref 4, .ref 5, .ref 6, .ref 7, .ref 8, .int (f_nRows v.2), .int (f_nForms v.2), .int (f_last v.2), .int (f_gVal v.2), .int (f_gCount v.2)], .inr (.inl (.int, (f_data v.2))), .inr (.inl (.boolean, (f_filled v.2))), .inr (.inl (.int, (f_fMode v.2))), .inr (.inl (.int, (f_fRk v.2))), .inr (.inl (.int, (f_fCk v.2))), .inr (.inl (.int, (f_prevVal v.2))), .inr (.inl (.boolean, (f_prevFound v.2))), .inr (.inl (.int, y104))])) rfl hy104 ?_
    refine QTri.steps Ad W 2 (st' := (64, [some (.ref 0), some (.int x1), some (.int x2), some (.int x3), some (.int x4), some (.int (v.1 + (-1 : Int32)))], [], [.inl [.ref 1, .ref 2, .int (f_rf v.2), .int (f_cf v.2), .int (f_vf v.2), .int (f_ag v.2), .ref 3, .ref 4, .ref 5, .ref 6, .ref 7, .ref 8, .int (f_nRows v.2), .int (f_nForms v.2), .int (f_last v.2), .int (f_gVal v.2), .int (f_gCount v.2)], .inr (.inl (.int, (f_data v.2))), .inr (.inl (.boolean, (f_filled v.2))), .inr (.inl (.int, (f_fMode v.2))), .inr (.inl (.int, (f_fRk v.2))), .inr (.inl (.int, (f_fCk v.2))), .inr (.inl (.int, (f_prevVal v.2))), .inr (.inl (.boolean, (f_prevFound v.2))), .inr (.inl (.int, y104))])) rfl ?_
    have E105 : ([.inl [.ref 1, .ref 2, .int (f_rf v.2), .int (f_cf v.2), .int (f_vf v.2), .int (f_ag v.2), .ref 3, .ref 4, .ref 5, .ref 6, .ref 7, .ref 8, .int (f_nRows v.2), .int (f_nForms v.2), .int (f_last v.2), .int (f_gVal v.2), .int (f_gCount v.2)], .inr (.inl (.int, (f_data v.2))), .inr (.inl (.boolean, (f_filled v.2))), .inr (.inl (.int, (f_fMode v.2))), .inr (.inl (.int, (f_fRk v.2))), .inr (.inl (.int, (f_fCk v.2))), .inr (.inl (.int, (f_prevVal v.2))), .inr (.inl (.boolean, (f_prevFound v.2))), .inr (.inl (.int, y104))] : QHeap) = (H0 (s_keys v.2 y104)) := by dsimp only [H0, f_data, f_filled, f_rf, f_cf, f_vf, f_ag, f_fMode, f_fRk, f_fCk, f_prevVal, f_prevFound, f_keys, f_nRows, f_nForms, f_last, f_gVal, f_gCount, s_keys]
    rw [E105]
    obtain rfl := Option.some.inj h
    exact QTri.mask [true, true, true, true, true, true] (hc ((v.1 + (-1 : Int32)), (s_keys v.2 y104)) rfl)
  · refine QTri.brT Ad W (t := 97) (f := 71) (L := [some (.ref 0), some (.int x1), some (.int x2), some (.int x3), some (.int x4), some (.int v.1)]) (S := []) (σ := (H0 v.2)) rfl (XT.ii_le_t hc102) ?_
    obtain rfl := Option.some.inj h
    exact QTri.mask [true, true, true, true, true, false] (hx0 v.2 rfl)
def J11_61 (o : Ob) (x1 : Int32) (x2 : Int32) (x3 : Int32) (x4 : Int32) : Option (Int32 × Ob) :=
  (loopN (B11_64 x1 x2 x3 x4) qN (x2, o)).bind fun e106 => (aset (f_keys e106) (x1 + x4) x3).bind fun y108 => some ((x2 + (1 : Int32)), (s_keys e106 y108))
theorem tJ11_61 (Ad : QAd n0 ad) (W : QW Z a0) (o : Ob) (x1 : Int32) (x2 : Int32) (x3 : Int32) (x4 : Int32) {r : Int32 × Ob} (h : J11_61 o x1 x2 x3 x4 = some r) : QTri l Z n0 ad 11 (61, [some (.ref 0), some (.int x1), some (.int x2), some (.int x3), some (.int x4), none], [], (H0 o)) (some (Value.int r.1)) (H0 r.2) := by
  unfold J11_61 at h
  refine QTri.steps Ad W 2 (st' := (64, [some (.ref 0), some (.int x1), some (.int x2), some (.int x3), some (.int x4), some (.int x2)], [], (H0 o))) rfl ?_
  obtain ⟨e106, he106, h⟩ := Option.bind_eq_some_iff.mp h
  refine QTri.mask [true, true, true, true, true, true] (loopN_tri (B := B11_64 x1 x2 x3 x4) (T := fun lv107 => QTri l Z n0 ad 11 (64, [some (.ref 0), some (.int x1), some (.int x2), some (.int x3), some (.int x4), some (.int lv107.1)], [], (H0 lv107.2)) (some (Value.int r.1)) (H0 r.2)) (KE := fun e106a => QTri l Z n0 ad 11 (97, [some (.ref 0), some (.int x1), some (.int x2), some (.int x3), some (.int x4), none], [], (H0 e106a)) (some (Value.int r.1)) (H0 r.2)) (fun lv107 r hB hE hC => tB11_64 Ad W x1 x2 x3 x4 lv107 hB (fun x q => hE _ q) (fun x q => hC x q)) qN (x2, o) e106 he106 ?_)
  refine QTri.steps Ad W 6 (st' := (106, [some (.ref 0), some (.int x1), some (.int x2), some (.int x3), some (.int x4), none], [.int x3, .int (x1 + x4), .ref 8], (H0 e106))) rfl ?_
  obtain ⟨y108, hy108, h⟩ := Option.bind_eq_some_iff.mp h
  refine QTri.bnd Ad W (f := fun y108 => (107, [some (.ref 0), some (.int x1), some (.int x2), some (.int x3), some (.int x4), none], [], [.inl [.ref 1, .ref 2, .int (f_rf e106), .int (f_cf e106), .int (f_vf e106), .int (f_ag e106), .ref 3, .ref 4, .ref 5, .ref 6, .ref 7, .ref 8, .int (f_nRows e106), .int (f_nForms e106), .int (f_last e106), .int (f_gVal e106), .int (f_gCount e106)], .inr (.inl (.int, (f_data e106))), .inr (.inl (.boolean, (f_filled e106))), .inr (.inl (.int, (f_fMode e106))), .inr (.inl (.int, (f_fRk e106))), .inr (.inl (.int, (f_fCk e106))), .inr (.inl (.int, (f_prevVal e106))), .inr (.inl (.boolean, (f_prevFound e106))), .inr (.inl (.int, y108))])) rfl hy108 ?_
  refine QTri.steps Ad W 3 (st' := (110, [some (.ref 0), some (.int x1), some (.int x2), some (.int x3), some (.int x4), none], [.int (x2 + (1 : Int32))], [.inl [.ref 1, .ref 2, .int (f_rf e106), .int (f_cf e106), .int (f_vf e106), .int (f_ag e106), .ref 3, .ref 4, .ref 5, .ref 6, .ref 7, .ref 8, .int (f_nRows e106), .int (f_nForms e106), .int (f_last e106), .int (f_gVal e106), .int (f_gCount e106)], .inr (.inl (.int, (f_data e106))), .inr (.inl (.boolean, (f_filled e106))), .inr (.inl (.int, (f_fMode e106))), .inr (.inl (.int, (f_fRk e106))), .inr (.inl (.int, (f_fCk e106))), .inr (.inl (.int, (f_prevVal e106))), .inr (.inl (.boolean, (f_prevFound e106))), .inr (.inl (.int, y108))])) rfl ?_
  have E109 : ([.inl [.ref 1, .ref 2, .int (f_rf e106), .int (f_cf e106), .int (f_vf e106), .int (f_ag e106), .ref 3, .ref 4, .ref 5, .ref 6, .ref 7, .ref 8, .int (f_nRows e106), .int (f_nForms e106), .int (f_last e106), .int (f_gVal e106), .int (f_gCount e106)], .inr (.inl (.int, (f_data e106))), .inr (.inl (.boolean, (f_filled e106))), .inr (.inl (.int, (f_fMode e106))), .inr (.inl (.int, (f_fRk e106))), .inr (.inl (.int, (f_fCk e106))), .inr (.inl (.int, (f_prevVal e106))), .inr (.inl (.boolean, (f_prevFound e106))), .inr (.inl (.int, y108))] : QHeap) = (H0 (s_keys e106 y108)) := by dsimp only [H0, f_data, f_filled, f_rf, f_cf, f_vf, f_ag, f_fMode, f_fRk, f_fCk, f_prevVal, f_prevFound, f_keys, f_nRows, f_nForms, f_last, f_gVal, f_gCount, s_keys]
  rw [E109]
  obtain rfl := Option.some.inj h
  exact QTri.retI rfl rfl
def J11_40 (o : Ob) (x1 : Int32) (x2 : Int32) (x3 : Int32) (x4 : Int32) : Option (Int32 × Ob) :=
  (if x4 < x2 then (aget (f_keys o) (x1 + x4)).bind fun y100 => (if y100 = x3 then some (x2, o) else (J11_61 o x1 x2 x3 x4)) else (J11_61 o x1 x2 x3 x4))
theorem tJ11_40 (Ad : QAd n0 ad) (W : QW Z a0) (o : Ob) (x1 : Int32) (x2 : Int32) (x3 : Int32) (x4 : Int32) {r : Int32 × Ob} (h : J11_40 o x1 x2 x3 x4 = some r) : QTri l Z n0 ad 11 (40, [some (.ref 0), some (.int x1), some (.int x2), some (.int x3), some (.int x4), none], [], (H0 o)) (some (Value.int r.1)) (H0 r.2) := by
  unfold J11_40 at h
  refine QTri.steps Ad W 2 (st' := (43, [some (.ref 0), some (.int x1), some (.int x2), some (.int x3), some (.int x4), none], [.int x2, .int x4], (H0 o))) rfl ?_
  rcases qite h with ⟨hc99, h⟩ | ⟨hc99, h⟩
  · refine QTri.brF Ad W (t := 61) (f := 46) (L := [some (.ref 0), some (.int x1), some (.int x2), some (.int x3), some (.int x4), none]) (S := []) (σ := (H0 o)) rfl (XT.ii_ge_f hc99) ?_
    refine QTri.steps Ad W 5 (st' := (54, [some (.ref 0), some (.int x1), some (.int x2), some (.int x3), some (.int x4), none], [.int (x1 + x4), .ref 8], (H0 o))) rfl ?_
    obtain ⟨y100, hy100, h⟩ := Option.bind_eq_some_iff.mp h
    refine QTri.bnd Ad W (f := fun y100 => (55, [some (.ref 0), some (.int x1), some (.int x2), some (.int x3), some (.int x4), none], [.int y100], (H0 o))) rfl hy100 ?_
    refine QTri.steps Ad W 1 (st' := (56, [some (.ref 0), some (.int x1), some (.int x2), some (.int x3), some (.int x4), none], [.int x3, .int y100], (H0 o))) rfl ?_
    rcases qite h with ⟨hc101, h⟩ | ⟨hc101, h⟩
    · refine QTri.brF Ad W (t := 61) (f := 59) (L := [some (.ref 0), some (.int x1), some (.int x2), some (.int x3), some (.int x4), none]) (S := []) (σ := (H0 o)) rfl (XT.ii_ne_f hc101) ?_
      refine QTri.steps Ad W 1 (st' := (60, [some (.ref 0), some (.int x1), some (.int x2), some (.int x3), some (.int x4), none], [.int x2], (H0 o))) rfl ?_
      obtain rfl := Option.some.inj h
      exact QTri.retI rfl rfl
    · refine QTri.brT Ad W (t := 61) (f := 59) (L := [some (.ref 0), some (.int x1), some (.int x2), some (.int x3), some (.int x4), none]) (S := []) (σ := (H0 o)) rfl (XT.ii_ne_t hc101) ?_
      exact QTri.mask [true, true, true, true, true, false] (tJ11_61 Ad W o x1 x2 x3 x4 h)
  · refine QTri.brT Ad W (t := 61) (f := 46) (L := [some (.ref 0), some (.int x1), some (.int x2), some (.int x3), some (.int x4), none]) (S := []) (σ := (H0 o)) rfl (XT.ii_ge_t hc99) ?_
    exact QTri.mask [true, true, true, true, true, false] (tJ11_61 Ad W o x1 x2 x3 x4 h)
/-- insertKey(III)I -/
def F11 (o : Ob) (x1 : Int32) (x2 : Int32) (x3 : Int32) : Option (Int32 × Ob) :=
  (if x2 < (0 : Int32) then some (x2, o) else (if x2 < (32 : Int32) then (loopN (B11_15 o x1 x2 x3) qN (0 : Int32)).bind fun e97 => (J11_40 o x1 x2 x3 e97) else some (x2, o)))
theorem tF11 (Ad : QAd n0 ad) (W : QW Z a0) (o : Ob) (x1 : Int32) (x2 : Int32) (x3 : Int32) {r : Int32 × Ob} (h : F11 o x1 x2 x3 = some r) : QTri l Z n0 ad 11 (0, qentry [.ref 0, .int x1, .int x2, .int x3] (pMaxL 11), [], (H0 o)) (some (Value.int r.1)) (H0 r.2) := by
  unfold F11 at h
  refine QTri.steps Ad W 1 (st' := (1, [some (.ref 0), some (.int x1), some (.int x2), some (.int x3), none, none], [.int x2], (H0 o))) rfl ?_
  rcases qite h with ⟨hc92, h⟩ | ⟨hc92, h⟩
  · refine QTri.brT Ad W (t := 10) (f := 4) (L := [some (.ref 0), some (.int x1), some (.int x2), some (.int x3), none, none]) (S := []) (σ := (H0 o)) rfl (XT.i0_lt_t hc92) ?_
    refine QTri.steps Ad W 1 (st' := (11, [some (.ref 0), some (.int x1), some (.int x2), some (.int x3), none, none], [.int x2], (H0 o))) rfl ?_
    obtain rfl := Option.some.inj h
    exact QTri.retI rfl rfl
  · refine QTri.brF Ad W (t := 10) (f := 4) (L := [some (.ref 0), some (.int x1), some (.int x2), some (.int x3), none, none]) (S := []) (σ := (H0 o)) rfl (XT.i0_lt_f hc92) ?_
    refine QTri.steps Ad W 2 (st' := (7, [some (.ref 0), some (.int x1), some (.int x2), some (.int x3), none, none], [.int (32 : Int32), .int x2], (H0 o))) rfl ?_
    rcases qite h with ⟨hc93, h⟩ | ⟨hc93, h⟩
    · refine QTri.brT Ad W (t := 12) (f := 10) (L := [some (.ref 0), some (.int x1), some (.int x2), some (.int x3), none, none]) (S := []) (σ := (H0 o)) rfl (XT.ii_lt_t hc93) ?_
      refine QTri.steps Ad W 2 (st' := (15, [some (.ref 0), some (.int x1), some (.int x2), some (.int x3), some (.int (0 : Int32)), none], [], (H0 o))) rfl ?_
      obtain ⟨e97, he97, h⟩ := Option.bind_eq_some_iff.mp h
      refine QTri.mask [true, true, true, true, true, false] (loopN_tri (B := B11_15 o x1 x2 x3) (T := fun lv98 => QTri l Z n0 ad 11 (15, [some (.ref 0), some (.int x1), some (.int x2), some (.int x3), some (.int lv98), none], [], (H0 o)) (some (Value.int r.1)) (H0 r.2)) (KE := fun e97a => QTri l Z n0 ad 11 (40, [some (.ref 0), some (.int x1), some (.int x2), some (.int x3), some (.int e97a), none], [], (H0 o)) (some (Value.int r.1)) (H0 r.2)) (fun lv98 r hB hE hC => tB11_15 Ad W o x1 x2 x3 lv98 hB (fun x q => hE _ q) (fun x q => hC x q)) qN (0 : Int32) e97 he97 ?_)
      exact QTri.mask [true, true, true, true, true, false] (tJ11_40 Ad W o x1 x2 x3 e97 h)
    · refine QTri.brF Ad W (t := 12) (f := 10) (L := [some (.ref 0), some (.int x1), some (.int x2), some (.int x3), none, none]) (S := []) (σ := (H0 o)) rfl (XT.ii_lt_f hc93) ?_
      refine QTri.steps Ad W 1 (st' := (11, [some (.ref 0), some (.int x1), some (.int x2), some (.int x3), none, none], [.int x2], (H0 o))) rfl ?_
      obtain rfl := Option.some.inj h
      exact QTri.retI rfl rfl
def B10_5 (x1 : Int32) (x2 : Int32) (v : Int32 × Int32 × Ob) : Option (((Int32 × Ob)) ⊕ (Int32 × Int32 × Ob)) :=
  (if v.2.1 < (f_nRows v.2.2) then (aget (f_filled v.2.2) v.2.1).bind fun y89 => (if y89 = (0 : Int32) then (J10_42 v.2.2 x1 x2 v.1 v.2.1) else (aget (f_data v.2.2) ((v.2.1 * (4 : Int32)) + x1)).bind fun y91 => (F11 v.2.2 x2 v.1 y91).bind fun r110 => (J10_42 r110.2 x1 x2 r110.1 v.2.1)) else some (.inl (v.1, v.2.2)))
theorem tB10_5 (Ad : QAd n0 ad) (W : QW Z a0) (x1 : Int32) (x2 : Int32) (v : Int32 × Int32 × Ob) {r : ((Int32 × Ob)) ⊕ (Int32 × Int32 × Ob)} {u : Option Value} {τ : QHeap} (h : B10_5 x1 x2 v = some r) (hx0 : ∀ x : Int32 × Ob, r = .inl x → u = (some (Value.int x.1)) ∧ τ = (H0 x.2)) (hc : ∀ x : Int32 × Int32 × Ob, r = .inr x → QTri l Z n0 ad 10 (5, [some (.ref 0), some (.int x1), some (.int x2), some (.int x.1), some (.int x.2.1)], [], (H0 x.2.2)) u τ) : QTri l Z n0 ad 10 (5, [some (.ref 0), some (.int x1), some (.int x2), some (.int v.1), some (.int v.2.1)], [], (H0 v.2.2)) u τ := by
  unfold B10_5 at h
  refine QTri.steps Ad W 3 (st' := (11, [some (.ref 0), some (.int x1), some (.int x2), some (.int v.1), some (.int v.2.1)], [.int (f_nRows v.2.2), .int v.2.1], (H0 v.2.2))) rfl ?_
  rcases qite h with ⟨hc88, h⟩ | ⟨hc88, h⟩
  · refine QTri.brF Ad W (t := 48) (f := 14) (L := [some (.ref 0), some (.int x1), some (.int x2), some (.int v.1), some (.int v.2.1)]) (S := []) (σ := (H0 v.2.2)) rfl (XT.ii_ge_f hc88) ?_
    refine QTri.steps Ad W 3 (st' := (20, [some (.ref 0), some (.int x1), some (.int x2), some (.int v.1), some (.int v.2.1)], [.int v.2.1, .ref 2], (H0 v.2.2))) rfl ?_
    obtain ⟨y89, hy89, h⟩ := Option.bind_eq_some_iff.mp h
    refine QTri.bnd Ad W (f := fun y89 => (21, [some (.ref 0), some (.int x1), some (.int x2), some (.int v.1), some (.int v.2.1)], [.int y89], (H0 v.2.2))) rfl hy89 ?_
    rcases qite h with ⟨hc90, h⟩ | ⟨hc90, h⟩
    · refine QTri.brT Ad W (t := 42) (f := 24) (L := [some (.ref 0), some (.int x1), some (.int x2), some (.int v.1), some (.int v.2.1)]) (S := []) (σ := (H0 v.2.2)) rfl (XT.i0_eq_t hc90) ?_
      exact QTri.mask [true, true, true, true, true] (tJ10_42 Ad W v.2.2 x1 x2 v.1 v.2.1 h hx0 hc)
    · refine QTri.brF Ad W (t := 42) (f := 24) (L := [some (.ref 0), some (.int x1), some (.int x2), some (.int v.1), some (.int v.2.1)]) (S := []) (σ := (H0 v.2.2)) rfl (XT.i0_eq_f hc90) ?_
      refine QTri.steps Ad W 10 (st' := (37, [some (.ref 0), some (.int x1), some (.int x2), some (.int v.1), some (.int v.2.1)], [.int ((v.2.1 * (4 : Int32)) + x1), .ref 1, .int v.1, .int x2, .ref 0], (H0 v.2.2))) rfl ?_
      obtain ⟨y91, hy91, h⟩ := Option.bind_eq_some_iff.mp h
      refine QTri.bnd Ad W (f := fun y91 => (38, [some (.ref 0), some (.int x1), some (.int x2), some (.int v.1), some (.int v.2.1)], [.int y91, .int v.1, .int x2, .ref 0], (H0 v.2.2))) rfl hy91 ?_
      obtain ⟨r110, hr110, h⟩ := Option.bind_eq_some_iff.mp h
      refine QTri.callP W (a := 0) (as := [.int x2, .int v.1, .int y91]) (rest := []) (w := (some (.int r110.1))) (σ₁ := (H0 r110.2)) rfl rfl rfl rfl rfl rfl rfl rfl (tF11 Ad W v.2.2 x2 v.1 y91 hr110) ?_
      refine QTri.steps Ad W 1 (st' := (42, [some (.ref 0), some (.int x1), some (.int x2), some (.int r110.1), some (.int v.2.1)], [], (H0 r110.2))) rfl ?_
      exact QTri.mask [true, true, true, true, true] (tJ10_42 Ad W r110.2 x1 x2 r110.1 v.2.1 h hx0 hc)
  · refine QTri.brT Ad W (t := 48) (f := 14) (L := [some (.ref 0), some (.int x1), some (.int x2), some (.int v.1), some (.int v.2.1)]) (S := []) (σ := (H0 v.2.2)) rfl (XT.ii_ge_t hc88) ?_
    refine QTri.steps Ad W 1 (st' := (49, [some (.ref 0), some (.int x1), some (.int x2), some (.int v.1), some (.int v.2.1)], [.int v.1], (H0 v.2.2))) rfl ?_
    obtain rfl := Option.some.inj h
    obtain ⟨rfl, rfl⟩ := hx0 (v.1, v.2.2) rfl
    exact QTri.retI rfl rfl
/-- buildKeys(II)I -/
def F10 (o : Ob) (x1 : Int32) (x2 : Int32) : Option (Int32 × Ob) :=
  (loopN (B10_5 x1 x2) qN ((0 : Int32), (0 : Int32), o)).bind fun e111 => some e111
theorem tF10 (Ad : QAd n0 ad) (W : QW Z a0) (o : Ob) (x1 : Int32) (x2 : Int32) {r : Int32 × Ob} (h : F10 o x1 x2 = some r) : QTri l Z n0 ad 10 (0, qentry [.ref 0, .int x1, .int x2] (pMaxL 10), [], (H0 o)) (some (Value.int r.1)) (H0 r.2) := by
  unfold F10 at h
  refine QTri.steps Ad W 4 (st' := (5, [some (.ref 0), some (.int x1), some (.int x2), some (.int (0 : Int32)), some (.int (0 : Int32))], [], (H0 o))) rfl ?_
  obtain ⟨e111, he111, h⟩ := Option.bind_eq_some_iff.mp h
  refine QTri.mask [true, true, true, true, true] (loopN_tri (B := B10_5 x1 x2) (T := fun lv112 => QTri l Z n0 ad 10 (5, [some (.ref 0), some (.int x1), some (.int x2), some (.int lv112.1), some (.int lv112.2.1)], [], (H0 lv112.2.2)) (some (Value.int r.1)) (H0 r.2)) (KE := fun e111a => (some (Value.int r.1)) = (some (Value.int e111a.1)) ∧ (H0 r.2) = (H0 e111a.2)) (fun lv112 r hB hE hC => tB10_5 Ad W x1 x2 lv112 hB (fun x q => hE _ q) (fun x q => hC x q)) qN ((0 : Int32), (0 : Int32), o) e111 he111 ?_)
  obtain rfl := Option.some.inj h
  exact ⟨rfl, rfl⟩
/-- rowKeyCount()I -/
def F9 (o : Ob) : Option (Int32 × Ob) :=
  (F10 o (f_rf o) (0 : Int32)).bind fun r113 => some (r113.1, r113.2)
theorem tF9 (Ad : QAd n0 ad) (W : QW Z a0) (o : Ob) {r : Int32 × Ob} (h : F9 o = some r) : QTri l Z n0 ad 9 (0, qentry [.ref 0] (pMaxL 9), [], (H0 o)) (some (Value.int r.1)) (H0 r.2) := by
  unfold F9 at h
  refine QTri.steps Ad W 4 (st' := (6, [some (.ref 0)], [.int (0 : Int32), .int (f_rf o), .ref 0], (H0 o))) rfl ?_
  obtain ⟨r113, hr113, h⟩ := Option.bind_eq_some_iff.mp h
  refine QTri.callP W (a := 0) (as := [.int (f_rf o), .int (0 : Int32)]) (rest := []) (w := (some (.int r113.1))) (σ₁ := (H0 r113.2)) rfl rfl rfl rfl rfl rfl rfl rfl (tF10 Ad W o (f_rf o) (0 : Int32) hr113) ?_
  obtain rfl := Option.some.inj h
  exact QTri.retI rfl rfl
/-- rowKey(I)I -/
def F12 (o : Ob) (x1 : Int32) : Option (Int32 × Ob) :=
  (F10 o (f_rf o) (0 : Int32)).bind fun r119 => (if x1 < (0 : Int32) then some ((0 : Int32), r119.2) else (if x1 < r119.1 then (aget (f_keys r119.2) x1).bind fun y122 => some (y122, r119.2) else some ((0 : Int32), r119.2)))
theorem tF12 (Ad : QAd n0 ad) (W : QW Z a0) (o : Ob) (x1 : Int32) {r : Int32 × Ob} (h : F12 o x1 = some r) : QTri l Z n0 ad 12 (0, qentry [.ref 0, .int x1] (pMaxL 12), [], (H0 o)) (some (Value.int r.1)) (H0 r.2) := by
  unfold F12 at h
  refine QTri.steps Ad W 4 (st' := (6, [some (.ref 0), some (.int x1), none], [.int (0 : Int32), .int (f_rf o), .ref 0], (H0 o))) rfl ?_
  obtain ⟨r119, hr119, h⟩ := Option.bind_eq_some_iff.mp h
  refine QTri.callP W (a := 0) (as := [.int (f_rf o), .int (0 : Int32)]) (rest := []) (w := (some (.int r119.1))) (σ₁ := (H0 r119.2)) rfl rfl rfl rfl rfl rfl rfl rfl (tF10 Ad W o (f_rf o) (0 : Int32) hr119) ?_
  refine QTri.steps Ad W 2 (st' := (11, [some (.ref 0), some (.int x1), some (.int r119.1)], [.int x1], (H0 r119.2))) rfl ?_
  rcases qite h with ⟨hc120, h⟩ | ⟨hc120, h⟩
  · refine QTri.brT Ad W (t := 19) (f := 14) (L := [some (.ref 0), some (.int x1), some (.int r119.1)]) (S := []) (σ := (H0 r119.2)) rfl (XT.i0_lt_t hc120) ?_
    refine QTri.steps Ad W 1 (st' := (20, [some (.ref 0), some (.int x1), some (.int r119.1)], [.int (0 : Int32)], (H0 r119.2))) rfl ?_
    obtain rfl := Option.some.inj h
    exact QTri.retI rfl rfl
  · refine QTri.brF Ad W (t := 19) (f := 14) (L := [some (.ref 0), some (.int x1), some (.int r119.1)]) (S := []) (σ := (H0 r119.2)) rfl (XT.i0_lt_f hc120) ?_
    refine QTri.steps Ad W 2 (st' := (16, [some (.ref 0), some (.int x1), some (.int r119.1)], [.int r119.1, .int x1], (H0 r119.2))) rfl ?_
    rcases qite h with ⟨hc121, h⟩ | ⟨hc121, h⟩
    · refine QTri.brT Ad W (t := 21) (f := 19) (L := [some (.ref 0), some (.int x1), some (.int r119.1)]) (S := []) (σ := (H0 r119.2)) rfl (XT.ii_lt_t hc121) ?_
      refine QTri.steps Ad W 3 (st' := (26, [some (.ref 0), some (.int x1), some (.int r119.1)], [.int x1, .ref 8], (H0 r119.2))) rfl ?_
      obtain ⟨y122, hy122, h⟩ := Option.bind_eq_some_iff.mp h
      refine QTri.bnd Ad W (f := fun y122 => (27, [some (.ref 0), some (.int x1), some (.int r119.1)], [.int y122], (H0 r119.2))) rfl hy122 ?_
      obtain rfl := Option.some.inj h
      exact QTri.retI rfl rfl
    · refine QTri.brF Ad W (t := 21) (f := 19) (L := [some (.ref 0), some (.int x1), some (.int r119.1)]) (S := []) (σ := (H0 r119.2)) rfl (XT.ii_lt_f hc121) ?_
      refine QTri.steps Ad W 1 (st' := (20, [some (.ref 0), some (.int x1), some (.int r119.1)], [.int (0 : Int32)], (H0 r119.2))) rfl ?_
      obtain rfl := Option.some.inj h
      exact QTri.retI rfl rfl
def B13_27 (x1 : Int32) (v : Int32 × Ob) : Option (((Ob)) ⊕ (Int32 × Ob)) :=
  (if v.1 < (4 : Int32) then (aset (f_data v.2) ((x1 * (4 : Int32)) + v.1) (0 : Int32)).bind fun y135 => some (.inr ((v.1 + (1 : Int32)), (s_data v.2 y135))) else some (.inl v.2))
theorem tB13_27 (Ad : QAd n0 ad) (W : QW Z a0) (x1 : Int32) (v : Int32 × Ob) {r : ((Ob)) ⊕ (Int32 × Ob)} {u : Option Value} {τ : QHeap} (h : B13_27 x1 v = some r) (hx0 : ∀ x : Ob, r = .inl x → QTri l Z n0 ad 13 (49, [some (.ref 0), some (.int x1), none], [], (H0 x)) u τ) (hc : ∀ x : Int32 × Ob, r = .inr x → QTri l Z n0 ad 13 (27, [some (.ref 0), some (.int x1), some (.int x.1)], [], (H0 x.2)) u τ) : QTri l Z n0 ad 13 (27, [some (.ref 0), some (.int x1), some (.int v.1)], [], (H0 v.2)) u τ := by
  unfold B13_27 at h
  refine QTri.steps Ad W 2 (st' := (29, [some (.ref 0), some (.int x1), some (.int v.1)], [.int (4 : Int32), .int v.1], (H0 v.2))) rfl ?_
  rcases qite h with ⟨hc134, h⟩ | ⟨hc134, h⟩
  · refine QTri.brF Ad W (t := 49) (f := 32) (L := [some (.ref 0), some (.int x1), some (.int v.1)]) (S := []) (σ := (H0 v.2)) rfl (XT.ii_ge_f hc134) ?_
    refine QTri.steps Ad W 8 (st' := (42, [some (.ref 0), some (.int x1), some (.int v.1)], [.int (0 : Int32), .int ((x1 * (4 : Int32)) + v.1), .ref 1], (H0 v.2))) rfl ?_
    obtain ⟨y135, hy135, h⟩ := Option.bind_eq_some_iff.mp h
    refine QTri.bnd Ad W (f := fun y135 => (43, [some (.ref 0), some (.int x1), some (.int v.1)], [], [.inl [.ref 1, .ref 2, .int (f_rf v.2), .int (f_cf v.2), .int (f_vf v.2), .int (f_ag v.2), .ref 3, .ref 4, .ref 5, .ref 6, .ref 7, .ref 8, .int (f_nRows v.2), .int (f_nForms v.2), .int (f_last v.2), .int (f_gVal v.2), .int (f_gCount v.2)], .inr (.inl (.int, y135)), .inr (.inl (.boolean, (f_filled v.2))), .inr (.inl (.int, (f_fMode v.2))), .inr (.inl (.int, (f_fRk v.2))), .inr (.inl (.int, (f_fCk v.2))), .inr (.inl (.int, (f_prevVal v.2))), .inr (.inl (.boolean, (f_prevFound v.2))), .inr (.inl (.int, (f_keys v.2)))])) rfl hy135 ?_
    refine QTri.steps Ad W 2 (st' := (27, [some (.ref 0), some (.int x1), some (.int (v.1 + (1 : Int32)))], [], [.inl [.ref 1, .ref 2, .int (f_rf v.2), .int (f_cf v.2), .int (f_vf v.2), .int (f_ag v.2), .ref 3, .ref 4, .ref 5, .ref 6, .ref 7, .ref 8, .int (f_nRows v.2), .int (f_nForms v.2), .int (f_last v.2), .int (f_gVal v.2), .int (f_gCount v.2)], .inr (.inl (.int, y135)), .inr (.inl (.boolean, (f_filled v.2))), .inr (.inl (.int, (f_fMode v.2))), .inr (.inl (.int, (f_fRk v.2))), .inr (.inl (.int, (f_fCk v.2))), .inr (.inl (.int, (f_prevVal v.2))), .inr (.inl (.boolean, (f_prevFound v.2))), .inr (.inl (.int, (f_keys v.2)))])) rfl ?_
    have E136 : ([.inl [.ref 1, .ref 2, .int (f_rf v.2), .int (f_cf v.2), .int (f_vf v.2), .int (f_ag v.2), .ref 3, .ref 4, .ref 5, .ref 6, .ref 7, .ref 8, .int (f_nRows v.2), .int (f_nForms v.2), .int (f_last v.2), .int (f_gVal v.2), .int (f_gCount v.2)], .inr (.inl (.int, y135)), .inr (.inl (.boolean, (f_filled v.2))), .inr (.inl (.int, (f_fMode v.2))), .inr (.inl (.int, (f_fRk v.2))), .inr (.inl (.int, (f_fCk v.2))), .inr (.inl (.int, (f_prevVal v.2))), .inr (.inl (.boolean, (f_prevFound v.2))), .inr (.inl (.int, (f_keys v.2)))] : QHeap) = (H0 (s_data v.2 y135)) := by dsimp only [H0, f_data, f_filled, f_rf, f_cf, f_vf, f_ag, f_fMode, f_fRk, f_fCk, f_prevVal, f_prevFound, f_keys, f_nRows, f_nForms, f_last, f_gVal, f_gCount, s_data]
    rw [E136]
    obtain rfl := Option.some.inj h
    exact QTri.mask [true, true, true] (hc ((v.1 + (1 : Int32)), (s_data v.2 y135)) rfl)
  · refine QTri.brT Ad W (t := 49) (f := 32) (L := [some (.ref 0), some (.int x1), some (.int v.1)]) (S := []) (σ := (H0 v.2)) rfl (XT.ii_ge_t hc134) ?_
    obtain rfl := Option.some.inj h
    exact QTri.mask [true, true, false] (hx0 v.2 rfl)
/-- clearRow(I)Z -/
def F13 (o : Ob) (x1 : Int32) : Option (Int32 × Ob) :=
  (F3 o x1).bind fun r129 => (if r129 = (0 : Int32) then some ((0 : Int32), o) else (aget (f_filled o) x1).bind fun y131 => (if y131 = (0 : Int32) then some ((0 : Int32), o) else (F4 o).bind fun r133 => (loopN (B13_27 x1) qN ((0 : Int32), r133)).bind fun e137 => (aset (f_filled e137) x1 (0 : Int32)).bind fun y139 => (F6 (s_filled e137 y139)).bind fun r141 => some ((1 : Int32), (s_last r141.2 r141.1))))
theorem tF13 (Ad : QAd n0 ad) (W : QW Z a0) (o : Ob) (x1 : Int32) {r : Int32 × Ob} (h : F13 o x1 = some r) : QTri l Z n0 ad 13 (0, qentry [.ref 0, .int x1] (pMaxL 13), [], (H0 o)) (some (Value.int r.1)) (H0 r.2) := by
  unfold F13 at h
  refine QTri.steps Ad W 2 (st' := (2, [some (.ref 0), some (.int x1), none], [.int x1, .ref 0], (H0 o))) rfl ?_
  obtain ⟨r129, hr129, h⟩ := Option.bind_eq_some_iff.mp h
  refine QTri.callP W (a := 0) (as := [.int x1]) (rest := []) (w := (some (.int r129))) (σ₁ := (H0 o)) rfl rfl rfl rfl rfl rfl rfl rfl (tF3 Ad W o x1 hr129) ?_
  rcases qite h with ⟨hc130, h⟩ | ⟨hc130, h⟩
  · refine QTri.brF Ad W (t := 10) (f := 8) (L := [some (.ref 0), some (.int x1), none]) (S := []) (σ := (H0 o)) rfl (XT.i0_ne_f hc130) ?_
    refine QTri.steps Ad W 1 (st' := (9, [some (.ref 0), some (.int x1), none], [.int (0 : Int32)], (H0 o))) rfl ?_
    obtain rfl := Option.some.inj h
    exact QTri.retZ rfl rfl
  · refine QTri.brT Ad W (t := 10) (f := 8) (L := [some (.ref 0), some (.int x1), none]) (S := []) (σ := (H0 o)) rfl (XT.i0_ne_t hc130) ?_
    refine QTri.steps Ad W 3 (st' := (15, [some (.ref 0), some (.int x1), none], [.int x1, .ref 2], (H0 o))) rfl ?_
    obtain ⟨y131, hy131, h⟩ := Option.bind_eq_some_iff.mp h
    refine QTri.bnd Ad W (f := fun y131 => (16, [some (.ref 0), some (.int x1), none], [.int y131], (H0 o))) rfl hy131 ?_
    rcases qite h with ⟨hc132, h⟩ | ⟨hc132, h⟩
    · refine QTri.brF Ad W (t := 21) (f := 19) (L := [some (.ref 0), some (.int x1), none]) (S := []) (σ := (H0 o)) rfl (XT.i0_ne_f hc132) ?_
      refine QTri.steps Ad W 1 (st' := (20, [some (.ref 0), some (.int x1), none], [.int (0 : Int32)], (H0 o))) rfl ?_
      obtain rfl := Option.some.inj h
      exact QTri.retZ rfl rfl
    · refine QTri.brT Ad W (t := 21) (f := 19) (L := [some (.ref 0), some (.int x1), none]) (S := []) (σ := (H0 o)) rfl (XT.i0_ne_t hc132) ?_
      refine QTri.steps Ad W 1 (st' := (22, [some (.ref 0), some (.int x1), none], [.ref 0], (H0 o))) rfl ?_
      obtain ⟨r133, hr133, h⟩ := Option.bind_eq_some_iff.mp h
      refine QTri.callP W (a := 0) (as := []) (rest := []) (w := none) (σ₁ := (H0 r133)) rfl rfl rfl rfl rfl rfl rfl rfl (tF4 Ad W o hr133) ?_
      refine QTri.steps Ad W 2 (st' := (27, [some (.ref 0), some (.int x1), some (.int (0 : Int32))], [], (H0 r133))) rfl ?_
      obtain ⟨e137, he137, h⟩ := Option.bind_eq_some_iff.mp h
      refine QTri.mask [true, true, true] (loopN_tri (B := B13_27 x1) (T := fun lv138 => QTri l Z n0 ad 13 (27, [some (.ref 0), some (.int x1), some (.int lv138.1)], [], (H0 lv138.2)) (some (Value.int r.1)) (H0 r.2)) (KE := fun e137a => QTri l Z n0 ad 13 (49, [some (.ref 0), some (.int x1), none], [], (H0 e137a)) (some (Value.int r.1)) (H0 r.2)) (fun lv138 r hB hE hC => tB13_27 Ad W x1 lv138 hB (fun x q => hE _ q) (fun x q => hC x q)) qN ((0 : Int32), r133) e137 he137 ?_)
      refine QTri.steps Ad W 4 (st' := (55, [some (.ref 0), some (.int x1), none], [.int (0 : Int32), .int x1, .ref 2], (H0 e137))) rfl ?_
      obtain ⟨y139, hy139, h⟩ := Option.bind_eq_some_iff.mp h
      refine QTri.bnd Ad W (f := fun y139 => (56, [some (.ref 0), some (.int x1), none], [], [.inl [.ref 1, .ref 2, .int (f_rf e137), .int (f_cf e137), .int (f_vf e137), .int (f_ag e137), .ref 3, .ref 4, .ref 5, .ref 6, .ref 7, .ref 8, .int (f_nRows e137), .int (f_nForms e137), .int (f_last e137), .int (f_gVal e137), .int (f_gCount e137)], .inr (.inl (.int, (f_data e137))), .inr (.inl (.boolean, y139)), .inr (.inl (.int, (f_fMode e137))), .inr (.inl (.int, (f_fRk e137))), .inr (.inl (.int, (f_fCk e137))), .inr (.inl (.int, (f_prevVal e137))), .inr (.inl (.boolean, (f_prevFound e137))), .inr (.inl (.int, (f_keys e137)))])) rfl hy139 ?_
      refine QTri.steps Ad W 2 (st' := (58, [some (.ref 0), some (.int x1), none], [.ref 0, .ref 0], [.inl [.ref 1, .ref 2, .int (f_rf e137), .int (f_cf e137), .int (f_vf e137), .int (f_ag e137), .ref 3, .ref 4, .ref 5, .ref 6, .ref 7, .ref 8, .int (f_nRows e137), .int (f_nForms e137), .int (f_last e137), .int (f_gVal e137), .int (f_gCount e137)], .inr (.inl (.int, (f_data e137))), .inr (.inl (.boolean, y139)), .inr (.inl (.int, (f_fMode e137))), .inr (.inl (.int, (f_fRk e137))), .inr (.inl (.int, (f_fCk e137))), .inr (.inl (.int, (f_prevVal e137))), .inr (.inl (.boolean, (f_prevFound e137))), .inr (.inl (.int, (f_keys e137)))])) rfl ?_
      have E140 : ([.inl [.ref 1, .ref 2, .int (f_rf e137), .int (f_cf e137), .int (f_vf e137), .int (f_ag e137), .ref 3, .ref 4, .ref 5, .ref 6, .ref 7, .ref 8, .int (f_nRows e137), .int (f_nForms e137), .int (f_last e137), .int (f_gVal e137), .int (f_gCount e137)], .inr (.inl (.int, (f_data e137))), .inr (.inl (.boolean, y139)), .inr (.inl (.int, (f_fMode e137))), .inr (.inl (.int, (f_fRk e137))), .inr (.inl (.int, (f_fCk e137))), .inr (.inl (.int, (f_prevVal e137))), .inr (.inl (.boolean, (f_prevFound e137))), .inr (.inl (.int, (f_keys e137)))] : QHeap) = (H0 (s_filled e137 y139)) := by dsimp only [H0, f_data, f_filled, f_rf, f_cf, f_vf, f_ag, f_fMode, f_fRk, f_fCk, f_prevVal, f_prevFound, f_keys, f_nRows, f_nForms, f_last, f_gVal, f_gCount, s_filled]
      rw [E140]
      obtain ⟨r141, hr141, h⟩ := Option.bind_eq_some_iff.mp h
      refine QTri.callP W (a := 0) (as := []) (rest := [.ref 0]) (w := (some (.int r141.1))) (σ₁ := (H0 r141.2)) rfl rfl rfl rfl rfl rfl rfl rfl (tF6 Ad W (s_filled e137 y139) hr141) ?_
      refine QTri.steps Ad W 1 (st' := (64, [some (.ref 0), some (.int x1), none], [], [.inl [.ref 1, .ref 2, .int (f_rf r141.2), .int (f_cf r141.2), .int (f_vf r141.2), .int (f_ag r141.2), .ref 3, .ref 4, .ref 5, .ref 6, .ref 7, .ref 8, .int (f_nRows r141.2), .int (f_nForms r141.2), .int r141.1, .int (f_gVal r141.2), .int (f_gCount r141.2)], .inr (.inl (.int, (f_data r141.2))), .inr (.inl (.boolean, (f_filled r141.2))), .inr (.inl (.int, (f_fMode r141.2))), .inr (.inl (.int, (f_fRk r141.2))), .inr (.inl (.int, (f_fCk r141.2))), .inr (.inl (.int, (f_prevVal r141.2))), .inr (.inl (.boolean, (f_prevFound r141.2))), .inr (.inl (.int, (f_keys r141.2)))])) rfl ?_
      refine QTri.steps Ad W 1 (st' := (65, [some (.ref 0), some (.int x1), none], [.int (1 : Int32)], [.inl [.ref 1, .ref 2, .int (f_rf r141.2), .int (f_cf r141.2), .int (f_vf r141.2), .int (f_ag r141.2), .ref 3, .ref 4, .ref 5, .ref 6, .ref 7, .ref 8, .int (f_nRows r141.2), .int (f_nForms r141.2), .int r141.1, .int (f_gVal r141.2), .int (f_gCount r141.2)], .inr (.inl (.int, (f_data r141.2))), .inr (.inl (.boolean, (f_filled r141.2))), .inr (.inl (.int, (f_fMode r141.2))), .inr (.inl (.int, (f_fRk r141.2))), .inr (.inl (.int, (f_fCk r141.2))), .inr (.inl (.int, (f_prevVal r141.2))), .inr (.inl (.boolean, (f_prevFound r141.2))), .inr (.inl (.int, (f_keys r141.2)))])) rfl ?_
      have E142 : ([.inl [.ref 1, .ref 2, .int (f_rf r141.2), .int (f_cf r141.2), .int (f_vf r141.2), .int (f_ag r141.2), .ref 3, .ref 4, .ref 5, .ref 6, .ref 7, .ref 8, .int (f_nRows r141.2), .int (f_nForms r141.2), .int r141.1, .int (f_gVal r141.2), .int (f_gCount r141.2)], .inr (.inl (.int, (f_data r141.2))), .inr (.inl (.boolean, (f_filled r141.2))), .inr (.inl (.int, (f_fMode r141.2))), .inr (.inl (.int, (f_fRk r141.2))), .inr (.inl (.int, (f_fCk r141.2))), .inr (.inl (.int, (f_prevVal r141.2))), .inr (.inl (.boolean, (f_prevFound r141.2))), .inr (.inl (.int, (f_keys r141.2)))] : QHeap) = (H0 (s_last r141.2 r141.1)) := by dsimp only [H0, f_data, f_filled, f_rf, f_cf, f_vf, f_ag, f_fMode, f_fRk, f_fCk, f_prevVal, f_prevFound, f_keys, f_nRows, f_nForms, f_last, f_gVal, f_gCount, s_last]
      rw [E142]
      obtain rfl := Option.some.inj h
      exact QTri.retZ rfl rfl
/-- the law -/
def F0 (x0 : Int32) (x1 : Int32) (x2 : Int32) : Option (Int32 × QHeap) :=
  (F1 (4 : Int32) (1 : Int32)).bind fun r14 => (F2 r14 x0 x1 x2).bind fun r69 => (if r69.1 = (if x0 < (0 : Int32) then (0 : Int32) else (if x0 < (4 : Int32) then (if x1 < (0 : Int32) then (0 : Int32) else (if x1 < (4 : Int32) then (1 : Int32) else (0 : Int32))) else (0 : Int32))) then (F7 r69.2 x0 x1).bind fun r76 => (if r76 = (if (if x0 < (0 : Int32) then (0 : Int32) else (if x0 < (4 : Int32) then (if x1 < (0 : Int32) then (0 : Int32) else (if x1 < (4 : Int32) then (1 : Int32) else (0 : Int32))) else (0 : Int32))) = (0 : Int32) then (0 : Int32) else x2) then (F7 r69.2 x0 ((x1 + (1 : Int32)) &&& (3 : Int32))).bind fun r81 => (if r81 = (0 : Int32) then (F8 r69.2 x0).bind fun r86 => (if r86 = (if x0 < (0 : Int32) then (0 : Int32) else (if x0 < (4 : Int32) then (if x1 < (0 : Int32) then (0 : Int32) else (if x1 < (4 : Int32) then (1 : Int32) else (0 : Int32))) else (0 : Int32))) then (F9 r69.2).bind fun r114 => (if r114.1 = (if (if x0 < (0 : Int32) then (0 : Int32) else (if x0 < (4 : Int32) then (if x1 < (0 : Int32) then (0 : Int32) else (if x1 < (4 : Int32) then (1 : Int32) else (0 : Int32))) else (0 : Int32))) = (0 : Int32) then (0 : Int32) else (1 : Int32)) then (F12 r114.2 (0 : Int32)).bind fun r123 => (if r123.1 = (if (if x0 < (0 : Int32) then (0 : Int32) else (if x0 < (4 : Int32) then (if x1 < (0 : Int32) then (0 : Int32) else (if x1 < (4 : Int32) then (1 : Int32) else (0 : Int32))) else (0 : Int32))) = (0 : Int32) then (0 : Int32) else (if x1 = (0 : Int32) then x2 else (0 : Int32))) then (F13 r123.2 x0).bind fun r143 => (if r143.1 = (if x0 < (0 : Int32) then (0 : Int32) else (if x0 < (4 : Int32) then (if x1 < (0 : Int32) then (0 : Int32) else (if x1 < (4 : Int32) then (1 : Int32) else (0 : Int32))) else (0 : Int32))) then (F7 r143.2 x0 x1).bind fun r145 => (if r145 = (0 : Int32) then (F8 r143.2 x0).bind fun r147 => (if r147 = (0 : Int32) then (F9 r143.2).bind fun r149 => (if r149.1 = (0 : Int32) then some ((1 : Int32), (H0 r149.2)) else some ((0 : Int32), (H0 r149.2))) else some ((0 : Int32), (H0 r143.2))) else some ((0 : Int32), (H0 r143.2))) else some ((0 : Int32), (H0 r143.2))) else some ((0 : Int32), (H0 r123.2))) else some ((0 : Int32), (H0 r114.2))) else some ((0 : Int32), (H0 r69.2))) else some ((0 : Int32), (H0 r69.2))) else some ((0 : Int32), (H0 r69.2))) else some ((0 : Int32), (H0 r69.2)))
theorem tF0 (Ad : QAd n0 ad) (W : QW Z a0) (x0 : Int32) (x1 : Int32) (x2 : Int32) {r : Int32 × QHeap} (h : F0 x0 x1 x2 = some r) : QTri l Z n0 ad 0 (0, qentry [.int x0, .int x1, .int x2] (pMaxL 0), [], []) (some (Value.int r.1)) r.2 := by
  unfold F0 at h
  refine QTri.steps Ad W 1 (st' := (3, [some (.int x0), some (.int x1), some (.int x2), none, none, none, none, none, none, none, none, none, none, none, none, none], [.ref 0], [.inl [.null, .null, .int (f_rf ob0), .int (f_cf ob0), .int (f_vf ob0), .int (f_ag ob0), .null, .null, .null, .null, .null, .null, .int (f_nRows ob0), .int (f_nForms ob0), .int (f_last ob0), .int (f_gVal ob0), .int (f_gCount ob0)]])) rfl ?_
  refine QTri.steps Ad W 3 (st' := (6, [some (.int x0), some (.int x1), some (.int x2), none, none, none, none, none, none, none, none, none, none, none, none, none], [.int (1 : Int32), .int (4 : Int32), .ref 0, .ref 0], [.inl [.null, .null, .int (f_rf ob0), .int (f_cf ob0), .int (f_vf ob0), .int (f_ag ob0), .null, .null, .null, .null, .null, .null, .int (f_nRows ob0), .int (f_nForms ob0), .int (f_last ob0), .int (f_gVal ob0), .int (f_gCount ob0)]])) rfl ?_
  obtain ⟨r14, hr14, h⟩ := Option.bind_eq_some_iff.mp h
  refine QTri.callI W (a := 0) (as := [.int (4 : Int32), .int (1 : Int32)]) (rest := [.ref 0]) (σ₁ := (H0 r14)) rfl rfl rfl rfl rfl rfl (tF1 Ad W (4 : Int32) (1 : Int32) hr14) ?_
  refine QTri.steps Ad W 2 (st' := (11, [some (.int x0), some (.int x1), some (.int x2), some (.ref 0), none, none, none, none, none, none, none, none, none, none, none, none], [.int x0], (H0 r14))) rfl ?_
  have K16 : ∀ z15 : Int32, z15 = (if x0 < (0 : Int32) then (0 : Int32) else (if x0 < (4 : Int32) then (if x1 < (0 : Int32) then (0 : Int32) else (if x1 < (4 : Int32) then (1 : Int32) else (0 : Int32))) else (0 : Int32))) → QTri l Z n0 ad 0 (33, [some (.int x0), some (.int x1), some (.int x2), some (.ref 0), none, none, none, none, none, none, none, none, none, none, none, none], [.int z15], (H0 r14)) (some (Value.int r.1)) r.2 := by
    intro z15 ez15
    subst ez15
    refine QTri.steps Ad W 7 (st' := (42, [some (.int x0), some (.int x1), some (.int x2), some (.ref 0), some (.int (if x0 < (0 : Int32) then (0 : Int32) else (if x0 < (4 : Int32) then (if x1 < (0 : Int32) then (0 : Int32) else (if x1 < (4 : Int32) then (1 : Int32) else (0 : Int32))) else (0 : Int32)))), some (.int ((x1 + (1 : Int32)) &&& (3 : Int32))), none, none, none, none, none, none, none, none, none, none], [], (H0 r14))) rfl ?_
    refine QTri.steps Ad W 4 (st' := (46, [some (.int x0), some (.int x1), some (.int x2), some (.ref 0), some (.int (if x0 < (0 : Int32) then (0 : Int32) else (if x0 < (4 : Int32) then (if x1 < (0 : Int32) then (0 : Int32) else (if x1 < (4 : Int32) then (1 : Int32) else (0 : Int32))) else (0 : Int32)))), some (.int ((x1 + (1 : Int32)) &&& (3 : Int32))), none, none, none, none, none, none, none, none, none, none], [.int x2, .int x1, .int x0, .ref 0], (H0 r14))) rfl ?_
    obtain ⟨r69, hr69, h⟩ := Option.bind_eq_some_iff.mp h
    refine QTri.callV W (a := 0) (as := [.int x0, .int x1, .int x2]) (rest := []) (w := (some (.int r69.1))) (σ₁ := (H0 r69.2)) rfl rfl rfl rfl rfl rfl rfl rfl (tF2 Ad W r14 x0 x1 x2 hr69) ?_
    refine QTri.steps Ad W 3 (st' := (55, [some (.int x0), some (.int x1), some (.int x2), some (.ref 0), some (.int (if x0 < (0 : Int32) then (0 : Int32) else (if x0 < (4 : Int32) then (if x1 < (0 : Int32) then (0 : Int32) else (if x1 < (4 : Int32) then (1 : Int32) else (0 : Int32))) else (0 : Int32)))), some (.int ((x1 + (1 : Int32)) &&& (3 : Int32))), some (.int r69.1), none, none, none, none, none, none, none, none, none], [.int (if x0 < (0 : Int32) then (0 : Int32) else (if x0 < (4 : Int32) then (if x1 < (0 : Int32) then (0 : Int32) else (if x1 < (4 : Int32) then (1 : Int32) else (0 : Int32))) else (0 : Int32))), .int r69.1], (H0 r69.2))) rfl ?_
    rcases qite h with ⟨hc70, h⟩ | ⟨hc70, h⟩
    · refine QTri.brT Ad W (t := 60) (f := 58) (L := [some (.int x0), some (.int x1), some (.int x2), some (.ref 0), some (.int (if x0 < (0 : Int32) then (0 : Int32) else (if x0 < (4 : Int32) then (if x1 < (0 : Int32) then (0 : Int32) else (if x1 < (4 : Int32) then (1 : Int32) else (0 : Int32))) else (0 : Int32)))), some (.int ((x1 + (1 : Int32)) &&& (3 : Int32))), some (.int r69.1), none, none, none, none, none, none, none, none, none]) (S := []) (σ := (H0 r69.2)) rfl (XT.ii_eq_t hc70) ?_
      refine QTri.steps Ad W 3 (st' := (63, [some (.int x0), some (.int x1), some (.int x2), some (.ref 0), some (.int (if x0 < (0 : Int32) then (0 : Int32) else (if x0 < (4 : Int32) then (if x1 < (0 : Int32) then (0 : Int32) else (if x1 < (4 : Int32) then (1 : Int32) else (0 : Int32))) else (0 : Int32)))), some (.int ((x1 + (1 : Int32)) &&& (3 : Int32))), some (.int r69.1), none, none, none, none, none, none, none, none, none], [.int x1, .int x0, .ref 0], (H0 r69.2))) rfl ?_
      obtain ⟨r76, hr76, h⟩ := Option.bind_eq_some_iff.mp h
      refine QTri.callV W (a := 0) (as := [.int x0, .int x1]) (rest := []) (w := (some (.int r76))) (σ₁ := (H0 r69.2)) rfl rfl rfl rfl rfl rfl rfl rfl (tF7 Ad W r69.2 x0 x1 hr76) ?_
      refine QTri.steps Ad W 3 (st' := (72, [some (.int x0), some (.int x1), some (.int x2), some (.ref 0), some (.int (if x0 < (0 : Int32) then (0 : Int32) else (if x0 < (4 : Int32) then (if x1 < (0 : Int32) then (0 : Int32) else (if x1 < (4 : Int32) then (1 : Int32) else (0 : Int32))) else (0 : Int32)))), some (.int ((x1 + (1 : Int32)) &&& (3 : Int32))), some (.int r69.1), some (.int r76), none, none, none, none, none, none, none, none], [.int (if x0 < (0 : Int32) then (0 : Int32) else (if x0 < (4 : Int32) then (if x1 < (0 : Int32) then (0 : Int32) else (if x1 < (4 : Int32) then (1 : Int32) else (0 : Int32))) else (0 : Int32))), .int r76], (H0 r69.2))) rfl ?_
      have K78 : ∀ z77 : Int32, z77 = (if (if x0 < (0 : Int32) then (0 : Int32) else (if x0 < (4 : Int32) then (if x1 < (0 : Int32) then (0 : Int32) else (if x1 < (4 : Int32) then (1 : Int32) else (0 : Int32))) else (0 : Int32))) = (0 : Int32) then (0 : Int32) else x2) → QTri l Z n0 ad 0 (80, [some (.int x0), some (.int x1), some (.int x2), some (.ref 0), some (.int (if x0 < (0 : Int32) then (0 : Int32) else (if x0 < (4 : Int32) then (if x1 < (0 : Int32) then (0 : Int32) else (if x1 < (4 : Int32) then (1 : Int32) else (0 : Int32))) else (0 : Int32)))), some (.int ((x1 + (1 : Int32)) &&& (3 : Int32))), none, none, none, none, none, none, none, none, none, none], [.int z77, .int r76], (H0 r69.2)) (some (Value.int r.1)) r.2 := by
        intro z77 ez77
        subst ez77
        rcases qite h with ⟨hc80, h⟩ | ⟨hc80, h⟩
        · refine QTri.brT Ad W (t := 85) (f := 83) (L := [some (.int x0), some (.int x1), some (.int x2), some (.ref 0), some (.int (if x0 < (0 : Int32) then (0 : Int32) else (if x0 < (4 : Int32) then (if x1 < (0 : Int32) then (0 : Int32) else (if x1 < (4 : Int32) then (1 : Int32) else (0 : Int32))) else (0 : Int32)))), some (.int ((x1 + (1 : Int32)) &&& (3 : Int32))), none, none, none, none, none, none, none, none, none, none]) (S := []) (σ := (H0 r69.2)) rfl (XT.ii_eq_t hc80) ?_
          refine QTri.steps Ad W 3 (st' := (89, [some (.int x0), some (.int x1), some (.int x2), some (.ref 0), some (.int (if x0 < (0 : Int32) then (0 : Int32) else (if x0 < (4 : Int32) then (if x1 < (0 : Int32) then (0 : Int32) else (if x1 < (4 : Int32) then (1 : Int32) else (0 : Int32))) else (0 : Int32)))), some (.int ((x1 + (1 : Int32)) &&& (3 : Int32))), none, none, none, none, none, none, none, none, none, none], [.int ((x1 + (1 : Int32)) &&& (3 : Int32)), .int x0, .ref 0], (H0 r69.2))) rfl ?_
          obtain ⟨r81, hr81, h⟩ := Option.bind_eq_some_iff.mp h
          refine QTri.callV W (a := 0) (as := [.int x0, .int ((x1 + (1 : Int32)) &&& (3 : Int32))]) (rest := []) (w := (some (.int r81))) (σ₁ := (H0 r69.2)) rfl rfl rfl rfl rfl rfl rfl rfl (tF7 Ad W r69.2 x0 ((x1 + (1 : Int32)) &&& (3 : Int32)) hr81) ?_
          refine QTri.steps Ad W 2 (st' := (96, [some (.int x0), some (.int x1), some (.int x2), some (.ref 0), some (.int (if x0 < (0 : Int32) then (0 : Int32) else (if x0 < (4 : Int32) then (if x1 < (0 : Int32) then (0 : Int32) else (if x1 < (4 : Int32) then (1 : Int32) else (0 : Int32))) else (0 : Int32)))), some (.int ((x1 + (1 : Int32)) &&& (3 : Int32))), none, none, some (.int r81), none, none, none, none, none, none, none], [.int r81], (H0 r69.2))) rfl ?_
          rcases qite h with ⟨hc82, h⟩ | ⟨hc82, h⟩
          · refine QTri.brT Ad W (t := 101) (f := 99) (L := [some (.int x0), some (.int x1), some (.int x2), some (.ref 0), some (.int (if x0 < (0 : Int32) then (0 : Int32) else (if x0 < (4 : Int32) then (if x1 < (0 : Int32) then (0 : Int32) else (if x1 < (4 : Int32) then (1 : Int32) else (0 : Int32))) else (0 : Int32)))), some (.int ((x1 + (1 : Int32)) &&& (3 : Int32))), none, none, some (.int r81), none, none, none, none, none, none, none]) (S := []) (σ := (H0 r69.2)) rfl (XT.i0_eq_t hc82) ?_
            refine QTri.steps Ad W 2 (st' := (103, [some (.int x0), some (.int x1), some (.int x2), some (.ref 0), some (.int (if x0 < (0 : Int32) then (0 : Int32) else (if x0 < (4 : Int32) then (if x1 < (0 : Int32) then (0 : Int32) else (if x1 < (4 : Int32) then (1 : Int32) else (0 : Int32))) else (0 : Int32)))), some (.int ((x1 + (1 : Int32)) &&& (3 : Int32))), none, none, some (.int r81), none, none, none, none, none, none, none], [.int x0, .ref 0], (H0 r69.2))) rfl ?_
            obtain ⟨r86, hr86, h⟩ := Option.bind_eq_some_iff.mp h
            refine QTri.callV W (a := 0) (as := [.int x0]) (rest := []) (w := (some (.int r86))) (σ₁ := (H0 r69.2)) rfl rfl rfl rfl rfl rfl rfl rfl (tF8 Ad W r69.2 x0 hr86) ?_
            refine QTri.steps Ad W 3 (st' := (112, [some (.int x0), some (.int x1), some (.int x2), some (.ref 0), some (.int (if x0 < (0 : Int32) then (0 : Int32) else (if x0 < (4 : Int32) then (if x1 < (0 : Int32) then (0 : Int32) else (if x1 < (4 : Int32) then (1 : Int32) else (0 : Int32))) else (0 : Int32)))), some (.int ((x1 + (1 : Int32)) &&& (3 : Int32))), none, none, some (.int r81), some (.int r86), none, none, none, none, none, none], [.int (if x0 < (0 : Int32) then (0 : Int32) else (if x0 < (4 : Int32) then (if x1 < (0 : Int32) then (0 : Int32) else (if x1 < (4 : Int32) then (1 : Int32) else (0 : Int32))) else (0 : Int32))), .int r86], (H0 r69.2))) rfl ?_
            rcases qite h with ⟨hc87, h⟩ | ⟨hc87, h⟩
            · refine QTri.brT Ad W (t := 117) (f := 115) (L := [some (.int x0), some (.int x1), some (.int x2), some (.ref 0), some (.int (if x0 < (0 : Int32) then (0 : Int32) else (if x0 < (4 : Int32) then (if x1 < (0 : Int32) then (0 : Int32) else (if x1 < (4 : Int32) then (1 : Int32) else (0 : Int32))) else (0 : Int32)))), some (.int ((x1 + (1 : Int32)) &&& (3 : Int32))), none, none, some (.int r81), some (.int r86), none, none, none, none, none, none]) (S := []) (σ := (H0 r69.2)) rfl (XT.ii_eq_t hc87) ?_
              refine QTri.steps Ad W 1 (st' := (118, [some (.int x0), some (.int x1), some (.int x2), some (.ref 0), some (.int (if x0 < (0 : Int32) then (0 : Int32) else (if x0 < (4 : Int32) then (if x1 < (0 : Int32) then (0 : Int32) else (if x1 < (4 : Int32) then (1 : Int32) else (0 : Int32))) else (0 : Int32)))), some (.int ((x1 + (1 : Int32)) &&& (3 : Int32))), none, none, some (.int r81), some (.int r86), none, none, none, none, none, none], [.ref 0], (H0 r69.2))) rfl ?_
              obtain ⟨r114, hr114, h⟩ := Option.bind_eq_some_iff.mp h
              refine QTri.callV W (a := 0) (as := []) (rest := []) (w := (some (.int r114.1))) (σ₁ := (H0 r114.2)) rfl rfl rfl rfl rfl rfl rfl rfl (tF9 Ad W r69.2 hr114) ?_
              refine QTri.steps Ad W 3 (st' := (127, [some (.int x0), some (.int x1), some (.int x2), some (.ref 0), some (.int (if x0 < (0 : Int32) then (0 : Int32) else (if x0 < (4 : Int32) then (if x1 < (0 : Int32) then (0 : Int32) else (if x1 < (4 : Int32) then (1 : Int32) else (0 : Int32))) else (0 : Int32)))), some (.int ((x1 + (1 : Int32)) &&& (3 : Int32))), none, none, some (.int r81), some (.int r86), some (.int r114.1), none, none, none, none, none], [.int (if x0 < (0 : Int32) then (0 : Int32) else (if x0 < (4 : Int32) then (if x1 < (0 : Int32) then (0 : Int32) else (if x1 < (4 : Int32) then (1 : Int32) else (0 : Int32))) else (0 : Int32))), .int r114.1], (H0 r114.2))) rfl ?_
              have K116 : ∀ z115 : Int32, z115 = (if (if x0 < (0 : Int32) then (0 : Int32) else (if x0 < (4 : Int32) then (if x1 < (0 : Int32) then (0 : Int32) else (if x1 < (4 : Int32) then (1 : Int32) else (0 : Int32))) else (0 : Int32))) = (0 : Int32) then (0 : Int32) else (1 : Int32)) → QTri l Z n0 ad 0 (135, [some (.int x0), some (.int x1), some (.int x2), some (.ref 0), some (.int (if x0 < (0 : Int32) then (0 : Int32) else (if x0 < (4 : Int32) then (if x1 < (0 : Int32) then (0 : Int32) else (if x1 < (4 : Int32) then (1 : Int32) else (0 : Int32))) else (0 : Int32)))), none, none, none, none, none, none, none, none, none, none, none], [.int z115, .int r114.1], (H0 r114.2)) (some (Value.int r.1)) r.2 := by
                intro z115 ez115
                subst ez115
                rcases qite h with ⟨hc118, h⟩ | ⟨hc118, h⟩
                · refine QTri.brT Ad W (t := 140) (f := 138) (L := [some (.int x0), some (.int x1), some (.int x2), some (.ref 0), some (.int (if x0 < (0 : Int32) then (0 : Int32) else (if x0 < (4 : Int32) then (if x1 < (0 : Int32) then (0 : Int32) else (if x1 < (4 : Int32) then (1 : Int32) else (0 : Int32))) else (0 : Int32)))), none, none, none, none, none, none, none, none, none, none, none]) (S := []) (σ := (H0 r114.2)) rfl (XT.ii_eq_t hc118) ?_
                  refine QTri.steps Ad W 2 (st' := (142, [some (.int x0), some (.int x1), some (.int x2), some (.ref 0), some (.int (if x0 < (0 : Int32) then (0 : Int32) else (if x0 < (4 : Int32) then (if x1 < (0 : Int32) then (0 : Int32) else (if x1 < (4 : Int32) then (1 : Int32) else (0 : Int32))) else (0 : Int32)))), none, none, none, none, none, none, none, none, none, none, none], [.int (0 : Int32), .ref 0], (H0 r114.2))) rfl ?_
                  obtain ⟨r123, hr123, h⟩ := Option.bind_eq_some_iff.mp h
                  refine QTri.callV W (a := 0) (as := [.int (0 : Int32)]) (rest := []) (w := (some (.int r123.1))) (σ₁ := (H0 r123.2)) rfl rfl rfl rfl rfl rfl rfl rfl (tF12 Ad W r114.2 (0 : Int32) hr123) ?_
                  refine QTri.steps Ad W 3 (st' := (151, [some (.int x0), some (.int x1), some (.int x2), some (.ref 0), some (.int (if x0 < (0 : Int32) then (0 : Int32) else (if x0 < (4 : Int32) then (if x1 < (0 : Int32) then (0 : Int32) else (if x1 < (4 : Int32) then (1 : Int32) else (0 : Int32))) else (0 : Int32)))), none, none, none, none, none, none, some (.int r123.1), none, none, none, none], [.int (if x0 < (0 : Int32) then (0 : Int32) else (if x0 < (4 : Int32) then (if x1 < (0 : Int32) then (0 : Int32) else (if x1 < (4 : Int32) then (1 : Int32) else (0 : Int32))) else (0 : Int32))), .int r123.1], (H0 r123.2))) rfl ?_
                  have K125 : ∀ z124 : Int32, z124 = (if (if x0 < (0 : Int32) then (0 : Int32) else (if x0 < (4 : Int32) then (if x1 < (0 : Int32) then (0 : Int32) else (if x1 < (4 : Int32) then (1 : Int32) else (0 : Int32))) else (0 : Int32))) = (0 : Int32) then (0 : Int32) else (if x1 = (0 : Int32) then x2 else (0 : Int32))) → QTri l Z n0 ad 0 (163, [some (.int x0), some (.int x1), none, some (.ref 0), some (.int (if x0 < (0 : Int32) then (0 : Int32) else (if x0 < (4 : Int32) then (if x1 < (0 : Int32) then (0 : Int32) else (if x1 < (4 : Int32) then (1 : Int32) else (0 : Int32))) else (0 : Int32)))), none, none, none, none, none, none, none, none, none, none, none], [.int z124, .int r123.1], (H0 r123.2)) (some (Value.int r.1)) r.2 := by
                    intro z124 ez124
                    subst ez124
                    rcases qite h with ⟨hc128, h⟩ | ⟨hc128, h⟩
                    · refine QTri.brT Ad W (t := 168) (f := 166) (L := [some (.int x0), some (.int x1), none, some (.ref 0), some (.int (if x0 < (0 : Int32) then (0 : Int32) else (if x0 < (4 : Int32) then (if x1 < (0 : Int32) then (0 : Int32) else (if x1 < (4 : Int32) then (1 : Int32) else (0 : Int32))) else (0 : Int32)))), none, none, none, none, none, none, none, none, none, none, none]) (S := []) (σ := (H0 r123.2)) rfl (XT.ii_eq_t hc128) ?_
                      refine QTri.steps Ad W 2 (st' := (170, [some (.int x0), some (.int x1), none, some (.ref 0), some (.int (if x0 < (0 : Int32) then (0 : Int32) else (if x0 < (4 : Int32) then (if x1 < (0 : Int32) then (0 : Int32) else (if x1 < (4 : Int32) then (1 : Int32) else (0 : Int32))) else (0 : Int32)))), none, none, none, none, none, none, none, none, none, none, none], [.int x0, .ref 0], (H0 r123.2))) rfl ?_
                      obtain ⟨r143, hr143, h⟩ := Option.bind_eq_some_iff.mp h
                      refine QTri.callV W (a := 0) (as := [.int x0]) (rest := []) (w := (some (.int r143.1))) (σ₁ := (H0 r143.2)) rfl rfl rfl rfl rfl rfl rfl rfl (tF13 Ad W r123.2 x0 hr143) ?_
                      refine QTri.steps Ad W 3 (st' := (179, [some (.int x0), some (.int x1), none, some (.ref 0), some (.int (if x0 < (0 : Int32) then (0 : Int32) else (if x0 < (4 : Int32) then (if x1 < (0 : Int32) then (0 : Int32) else (if x1 < (4 : Int32) then (1 : Int32) else (0 : Int32))) else (0 : Int32)))), none, none, none, none, none, none, none, some (.int r143.1), none, none, none], [.int (if x0 < (0 : Int32) then (0 : Int32) else (if x0 < (4 : Int32) then (if x1 < (0 : Int32) then (0 : Int32) else (if x1 < (4 : Int32) then (1 : Int32) else (0 : Int32))) else (0 : Int32))), .int r143.1], (H0 r143.2))) rfl ?_
                      rcases qite h with ⟨hc144, h⟩ | ⟨hc144, h⟩
                      · refine QTri.brT Ad W (t := 184) (f := 182) (L := [some (.int x0), some (.int x1), none, some (.ref 0), some (.int (if x0 < (0 : Int32) then (0 : Int32) else (if x0 < (4 : Int32) then (if x1 < (0 : Int32) then (0 : Int32) else (if x1 < (4 : Int32) then (1 : Int32) else (0 : Int32))) else (0 : Int32)))), none, none, none, none, none, none, none, some (.int r143.1), none, none, none]) (S := []) (σ := (H0 r143.2)) rfl (XT.ii_eq_t hc144) ?_
                        refine QTri.steps Ad W 3 (st' := (187, [some (.int x0), some (.int x1), none, some (.ref 0), some (.int (if x0 < (0 : Int32) then (0 : Int32) else (if x0 < (4 : Int32) then (if x1 < (0 : Int32) then (0 : Int32) else (if x1 < (4 : Int32) then (1 : Int32) else (0 : Int32))) else (0 : Int32)))), none, none, none, none, none, none, none, some (.int r143.1), none, none, none], [.int x1, .int x0, .ref 0], (H0 r143.2))) rfl ?_
                        obtain ⟨r145, hr145, h⟩ := Option.bind_eq_some_iff.mp h
                        refine QTri.callV W (a := 0) (as := [.int x0, .int x1]) (rest := []) (w := (some (.int r145))) (σ₁ := (H0 r143.2)) rfl rfl rfl rfl rfl rfl rfl rfl (tF7 Ad W r143.2 x0 x1 hr145) ?_
                        refine QTri.steps Ad W 2 (st' := (194, [some (.int x0), some (.int x1), none, some (.ref 0), some (.int (if x0 < (0 : Int32) then (0 : Int32) else (if x0 < (4 : Int32) then (if x1 < (0 : Int32) then (0 : Int32) else (if x1 < (4 : Int32) then (1 : Int32) else (0 : Int32))) else (0 : Int32)))), none, none, none, none, none, none, none, some (.int r143.1), some (.int r145), none, none], [.int r145], (H0 r143.2))) rfl ?_
                        rcases qite h with ⟨hc146, h⟩ | ⟨hc146, h⟩
                        · refine QTri.brT Ad W (t := 199) (f := 197) (L := [some (.int x0), some (.int x1), none, some (.ref 0), some (.int (if x0 < (0 : Int32) then (0 : Int32) else (if x0 < (4 : Int32) then (if x1 < (0 : Int32) then (0 : Int32) else (if x1 < (4 : Int32) then (1 : Int32) else (0 : Int32))) else (0 : Int32)))), none, none, none, none, none, none, none, some (.int r143.1), some (.int r145), none, none]) (S := []) (σ := (H0 r143.2)) rfl (XT.i0_eq_t hc146) ?_
                          refine QTri.steps Ad W 2 (st' := (201, [some (.int x0), some (.int x1), none, some (.ref 0), some (.int (if x0 < (0 : Int32) then (0 : Int32) else (if x0 < (4 : Int32) then (if x1 < (0 : Int32) then (0 : Int32) else (if x1 < (4 : Int32) then (1 : Int32) else (0 : Int32))) else (0 : Int32)))), none, none, none, none, none, none, none, some (.int r143.1), some (.int r145), none, none], [.int x0, .ref 0], (H0 r143.2))) rfl ?_
                          obtain ⟨r147, hr147, h⟩ := Option.bind_eq_some_iff.mp h
                          refine QTri.callV W (a := 0) (as := [.int x0]) (rest := []) (w := (some (.int r147))) (σ₁ := (H0 r143.2)) rfl rfl rfl rfl rfl rfl rfl rfl (tF8 Ad W r143.2 x0 hr147) ?_
                          refine QTri.steps Ad W 2 (st' := (208, [some (.int x0), some (.int x1), none, some (.ref 0), some (.int (if x0 < (0 : Int32) then (0 : Int32) else (if x0 < (4 : Int32) then (if x1 < (0 : Int32) then (0 : Int32) else (if x1 < (4 : Int32) then (1 : Int32) else (0 : Int32))) else (0 : Int32)))), none, none, none, none, none, none, none, some (.int r143.1), some (.int r145), some (.int r147), none], [.int r147], (H0 r143.2))) rfl ?_
                          rcases qite h with ⟨hc148, h⟩ | ⟨hc148, h⟩
                          · refine QTri.brT Ad W (t := 213) (f := 211) (L := [some (.int x0), some (.int x1), none, some (.ref 0), some (.int (if x0 < (0 : Int32) then (0 : Int32) else (if x0 < (4 : Int32) then (if x1 < (0 : Int32) then (0 : Int32) else (if x1 < (4 : Int32) then (1 : Int32) else (0 : Int32))) else (0 : Int32)))), none, none, none, none, none, none, none, some (.int r143.1), some (.int r145), some (.int r147), none]) (S := []) (σ := (H0 r143.2)) rfl (XT.i0_eq_t hc148) ?_
                            refine QTri.steps Ad W 1 (st' := (214, [some (.int x0), some (.int x1), none, some (.ref 0), some (.int (if x0 < (0 : Int32) then (0 : Int32) else (if x0 < (4 : Int32) then (if x1 < (0 : Int32) then (0 : Int32) else (if x1 < (4 : Int32) then (1 : Int32) else (0 : Int32))) else (0 : Int32)))), none, none, none, none, none, none, none, some (.int r143.1), some (.int r145), some (.int r147), none], [.ref 0], (H0 r143.2))) rfl ?_
                            obtain ⟨r149, hr149, h⟩ := Option.bind_eq_some_iff.mp h
                            refine QTri.callV W (a := 0) (as := []) (rest := []) (w := (some (.int r149.1))) (σ₁ := (H0 r149.2)) rfl rfl rfl rfl rfl rfl rfl rfl (tF9 Ad W r143.2 hr149) ?_
                            refine QTri.steps Ad W 2 (st' := (221, [some (.int x0), some (.int x1), none, some (.ref 0), some (.int (if x0 < (0 : Int32) then (0 : Int32) else (if x0 < (4 : Int32) then (if x1 < (0 : Int32) then (0 : Int32) else (if x1 < (4 : Int32) then (1 : Int32) else (0 : Int32))) else (0 : Int32)))), none, none, none, none, none, none, none, some (.int r143.1), some (.int r145), some (.int r147), some (.int r149.1)], [.int r149.1], (H0 r149.2))) rfl ?_
                            rcases qite h with ⟨hc150, h⟩ | ⟨hc150, h⟩
                            · refine QTri.brF Ad W (t := 228) (f := 224) (L := [some (.int x0), some (.int x1), none, some (.ref 0), some (.int (if x0 < (0 : Int32) then (0 : Int32) else (if x0 < (4 : Int32) then (if x1 < (0 : Int32) then (0 : Int32) else (if x1 < (4 : Int32) then (1 : Int32) else (0 : Int32))) else (0 : Int32)))), none, none, none, none, none, none, none, some (.int r143.1), some (.int r145), some (.int r147), some (.int r149.1)]) (S := []) (σ := (H0 r149.2)) rfl (XT.i0_ne_f hc150) ?_
                              refine QTri.steps Ad W 2 (st' := (229, [some (.int x0), some (.int x1), none, some (.ref 0), some (.int (if x0 < (0 : Int32) then (0 : Int32) else (if x0 < (4 : Int32) then (if x1 < (0 : Int32) then (0 : Int32) else (if x1 < (4 : Int32) then (1 : Int32) else (0 : Int32))) else (0 : Int32)))), none, none, none, none, none, none, none, some (.int r143.1), some (.int r145), some (.int r147), some (.int r149.1)], [.int (1 : Int32)], (H0 r149.2))) rfl ?_
                              obtain rfl := Option.some.inj h
                              exact QTri.retZ rfl rfl
                            · refine QTri.brT Ad W (t := 228) (f := 224) (L := [some (.int x0), some (.int x1), none, some (.ref 0), some (.int (if x0 < (0 : Int32) then (0 : Int32) else (if x0 < (4 : Int32) then (if x1 < (0 : Int32) then (0 : Int32) else (if x1 < (4 : Int32) then (1 : Int32) else (0 : Int32))) else (0 : Int32)))), none, none, none, none, none, none, none, some (.int r143.1), some (.int r145), some (.int r147), some (.int r149.1)]) (S := []) (σ := (H0 r149.2)) rfl (XT.i0_ne_t hc150) ?_
                              refine QTri.steps Ad W 1 (st' := (229, [some (.int x0), some (.int x1), none, some (.ref 0), some (.int (if x0 < (0 : Int32) then (0 : Int32) else (if x0 < (4 : Int32) then (if x1 < (0 : Int32) then (0 : Int32) else (if x1 < (4 : Int32) then (1 : Int32) else (0 : Int32))) else (0 : Int32)))), none, none, none, none, none, none, none, some (.int r143.1), some (.int r145), some (.int r147), some (.int r149.1)], [.int (0 : Int32)], (H0 r149.2))) rfl ?_
                              obtain rfl := Option.some.inj h
                              exact QTri.retZ rfl rfl
                          · refine QTri.brF Ad W (t := 213) (f := 211) (L := [some (.int x0), some (.int x1), none, some (.ref 0), some (.int (if x0 < (0 : Int32) then (0 : Int32) else (if x0 < (4 : Int32) then (if x1 < (0 : Int32) then (0 : Int32) else (if x1 < (4 : Int32) then (1 : Int32) else (0 : Int32))) else (0 : Int32)))), none, none, none, none, none, none, none, some (.int r143.1), some (.int r145), some (.int r147), none]) (S := []) (σ := (H0 r143.2)) rfl (XT.i0_eq_f hc148) ?_
                            refine QTri.steps Ad W 1 (st' := (212, [some (.int x0), some (.int x1), none, some (.ref 0), some (.int (if x0 < (0 : Int32) then (0 : Int32) else (if x0 < (4 : Int32) then (if x1 < (0 : Int32) then (0 : Int32) else (if x1 < (4 : Int32) then (1 : Int32) else (0 : Int32))) else (0 : Int32)))), none, none, none, none, none, none, none, some (.int r143.1), some (.int r145), some (.int r147), none], [.int (0 : Int32)], (H0 r143.2))) rfl ?_
                            obtain rfl := Option.some.inj h
                            exact QTri.retZ rfl rfl
                        · refine QTri.brF Ad W (t := 199) (f := 197) (L := [some (.int x0), some (.int x1), none, some (.ref 0), some (.int (if x0 < (0 : Int32) then (0 : Int32) else (if x0 < (4 : Int32) then (if x1 < (0 : Int32) then (0 : Int32) else (if x1 < (4 : Int32) then (1 : Int32) else (0 : Int32))) else (0 : Int32)))), none, none, none, none, none, none, none, some (.int r143.1), some (.int r145), none, none]) (S := []) (σ := (H0 r143.2)) rfl (XT.i0_eq_f hc146) ?_
                          refine QTri.steps Ad W 1 (st' := (198, [some (.int x0), some (.int x1), none, some (.ref 0), some (.int (if x0 < (0 : Int32) then (0 : Int32) else (if x0 < (4 : Int32) then (if x1 < (0 : Int32) then (0 : Int32) else (if x1 < (4 : Int32) then (1 : Int32) else (0 : Int32))) else (0 : Int32)))), none, none, none, none, none, none, none, some (.int r143.1), some (.int r145), none, none], [.int (0 : Int32)], (H0 r143.2))) rfl ?_
                          obtain rfl := Option.some.inj h
                          exact QTri.retZ rfl rfl
                      · refine QTri.brF Ad W (t := 184) (f := 182) (L := [some (.int x0), some (.int x1), none, some (.ref 0), some (.int (if x0 < (0 : Int32) then (0 : Int32) else (if x0 < (4 : Int32) then (if x1 < (0 : Int32) then (0 : Int32) else (if x1 < (4 : Int32) then (1 : Int32) else (0 : Int32))) else (0 : Int32)))), none, none, none, none, none, none, none, some (.int r143.1), none, none, none]) (S := []) (σ := (H0 r143.2)) rfl (XT.ii_eq_f hc144) ?_
                        refine QTri.steps Ad W 1 (st' := (183, [some (.int x0), some (.int x1), none, some (.ref 0), some (.int (if x0 < (0 : Int32) then (0 : Int32) else (if x0 < (4 : Int32) then (if x1 < (0 : Int32) then (0 : Int32) else (if x1 < (4 : Int32) then (1 : Int32) else (0 : Int32))) else (0 : Int32)))), none, none, none, none, none, none, none, some (.int r143.1), none, none, none], [.int (0 : Int32)], (H0 r143.2))) rfl ?_
                        obtain rfl := Option.some.inj h
                        exact QTri.retZ rfl rfl
                    · refine QTri.brF Ad W (t := 168) (f := 166) (L := [some (.int x0), some (.int x1), none, some (.ref 0), some (.int (if x0 < (0 : Int32) then (0 : Int32) else (if x0 < (4 : Int32) then (if x1 < (0 : Int32) then (0 : Int32) else (if x1 < (4 : Int32) then (1 : Int32) else (0 : Int32))) else (0 : Int32)))), none, none, none, none, none, none, none, none, none, none, none]) (S := []) (σ := (H0 r123.2)) rfl (XT.ii_eq_f hc128) ?_
                      refine QTri.steps Ad W 1 (st' := (167, [some (.int x0), some (.int x1), none, some (.ref 0), some (.int (if x0 < (0 : Int32) then (0 : Int32) else (if x0 < (4 : Int32) then (if x1 < (0 : Int32) then (0 : Int32) else (if x1 < (4 : Int32) then (1 : Int32) else (0 : Int32))) else (0 : Int32)))), none, none, none, none, none, none, none, none, none, none, none], [.int (0 : Int32)], (H0 r123.2))) rfl ?_
                      obtain rfl := Option.some.inj h
                      exact QTri.retZ rfl rfl
                  rcases Classical.em ((if x0 < (0 : Int32) then (0 : Int32) else (if x0 < (4 : Int32) then (if x1 < (0 : Int32) then (0 : Int32) else (if x1 < (4 : Int32) then (1 : Int32) else (0 : Int32))) else (0 : Int32))) = (0 : Int32)) with hc126 | hc126
                  · refine QTri.brT Ad W (t := 162) (f := 154) (L := [some (.int x0), some (.int x1), some (.int x2), some (.ref 0), some (.int (if x0 < (0 : Int32) then (0 : Int32) else (if x0 < (4 : Int32) then (if x1 < (0 : Int32) then (0 : Int32) else (if x1 < (4 : Int32) then (1 : Int32) else (0 : Int32))) else (0 : Int32)))), none, none, none, none, none, none, some (.int r123.1), none, none, none, none]) (S := [.int r123.1]) (σ := (H0 r123.2)) rfl (XT.i0_eq_t hc126) ?_
                    refine QTri.steps Ad W 1 (st' := (163, [some (.int x0), some (.int x1), some (.int x2), some (.ref 0), some (.int (if x0 < (0 : Int32) then (0 : Int32) else (if x0 < (4 : Int32) then (if x1 < (0 : Int32) then (0 : Int32) else (if x1 < (4 : Int32) then (1 : Int32) else (0 : Int32))) else (0 : Int32)))), none, none, none, none, none, none, some (.int r123.1), none, none, none, none], [.int (0 : Int32), .int r123.1], (H0 r123.2))) rfl ?_
                    exact QTri.mask [true, true, false, true, true, false, false, false, false, false, false, false, false, false, false, false] (K125 _ (if_pos hc126).symm)
                  · refine QTri.brF Ad W (t := 162) (f := 154) (L := [some (.int x0), some (.int x1), some (.int x2), some (.ref 0), some (.int (if x0 < (0 : Int32) then (0 : Int32) else (if x0 < (4 : Int32) then (if x1 < (0 : Int32) then (0 : Int32) else (if x1 < (4 : Int32) then (1 : Int32) else (0 : Int32))) else (0 : Int32)))), none, none, none, none, none, none, some (.int r123.1), none, none, none, none]) (S := [.int r123.1]) (σ := (H0 r123.2)) rfl (XT.i0_eq_f hc126) ?_
                    refine QTri.steps Ad W 1 (st' := (155, [some (.int x0), some (.int x1), some (.int x2), some (.ref 0), some (.int (if x0 < (0 : Int32) then (0 : Int32) else (if x0 < (4 : Int32) then (if x1 < (0 : Int32) then (0 : Int32) else (if x1 < (4 : Int32) then (1 : Int32) else (0 : Int32))) else (0 : Int32)))), none, none, none, none, none, none, some (.int r123.1), none, none, none, none], [.int x1, .int r123.1], (H0 r123.2))) rfl ?_
                    rcases Classical.em (x1 = (0 : Int32)) with hc127 | hc127
                    · refine QTri.brF Ad W (t := 162) (f := 158) (L := [some (.int x0), some (.int x1), some (.int x2), some (.ref 0), some (.int (if x0 < (0 : Int32) then (0 : Int32) else (if x0 < (4 : Int32) then (if x1 < (0 : Int32) then (0 : Int32) else (if x1 < (4 : Int32) then (1 : Int32) else (0 : Int32))) else (0 : Int32)))), none, none, none, none, none, none, some (.int r123.1), none, none, none, none]) (S := [.int r123.1]) (σ := (H0 r123.2)) rfl (XT.i0_ne_f hc127) ?_
                      refine QTri.steps Ad W 2 (st' := (163, [some (.int x0), some (.int x1), some (.int x2), some (.ref 0), some (.int (if x0 < (0 : Int32) then (0 : Int32) else (if x0 < (4 : Int32) then (if x1 < (0 : Int32) then (0 : Int32) else (if x1 < (4 : Int32) then (1 : Int32) else (0 : Int32))) else (0 : Int32)))), none, none, none, none, none, none, some (.int r123.1), none, none, none, none], [.int x2, .int r123.1], (H0 r123.2))) rfl ?_
                      exact QTri.mask [true, true, false, true, true, false, false, false, false, false, false, false, false, false, false, false] (K125 _ ((if_neg hc126).trans (if_pos hc127)).symm)
                    · refine QTri.brT Ad W (t := 162) (f := 158) (L := [some (.int x0), some (.int x1), some (.int x2), some (.ref 0), some (.int (if x0 < (0 : Int32) then (0 : Int32) else (if x0 < (4 : Int32) then (if x1 < (0 : Int32) then (0 : Int32) else (if x1 < (4 : Int32) then (1 : Int32) else (0 : Int32))) else (0 : Int32)))), none, none, none, none, none, none, some (.int r123.1), none, none, none, none]) (S := [.int r123.1]) (σ := (H0 r123.2)) rfl (XT.i0_ne_t hc127) ?_
                      refine QTri.steps Ad W 1 (st' := (163, [some (.int x0), some (.int x1), some (.int x2), some (.ref 0), some (.int (if x0 < (0 : Int32) then (0 : Int32) else (if x0 < (4 : Int32) then (if x1 < (0 : Int32) then (0 : Int32) else (if x1 < (4 : Int32) then (1 : Int32) else (0 : Int32))) else (0 : Int32)))), none, none, none, none, none, none, some (.int r123.1), none, none, none, none], [.int (0 : Int32), .int r123.1], (H0 r123.2))) rfl ?_
                      exact QTri.mask [true, true, false, true, true, false, false, false, false, false, false, false, false, false, false, false] (K125 _ ((if_neg hc126).trans (if_neg hc127)).symm)
                · refine QTri.brF Ad W (t := 140) (f := 138) (L := [some (.int x0), some (.int x1), some (.int x2), some (.ref 0), some (.int (if x0 < (0 : Int32) then (0 : Int32) else (if x0 < (4 : Int32) then (if x1 < (0 : Int32) then (0 : Int32) else (if x1 < (4 : Int32) then (1 : Int32) else (0 : Int32))) else (0 : Int32)))), none, none, none, none, none, none, none, none, none, none, none]) (S := []) (σ := (H0 r114.2)) rfl (XT.ii_eq_f hc118) ?_
                  refine QTri.steps Ad W 1 (st' := (139, [some (.int x0), some (.int x1), some (.int x2), some (.ref 0), some (.int (if x0 < (0 : Int32) then (0 : Int32) else (if x0 < (4 : Int32) then (if x1 < (0 : Int32) then (0 : Int32) else (if x1 < (4 : Int32) then (1 : Int32) else (0 : Int32))) else (0 : Int32)))), none, none, none, none, none, none, none, none, none, none, none], [.int (0 : Int32)], (H0 r114.2))) rfl ?_
                  obtain rfl := Option.some.inj h
                  exact QTri.retZ rfl rfl
              rcases Classical.em ((if x0 < (0 : Int32) then (0 : Int32) else (if x0 < (4 : Int32) then (if x1 < (0 : Int32) then (0 : Int32) else (if x1 < (4 : Int32) then (1 : Int32) else (0 : Int32))) else (0 : Int32))) = (0 : Int32)) with hc117 | hc117
              · refine QTri.brT Ad W (t := 134) (f := 130) (L := [some (.int x0), some (.int x1), some (.int x2), some (.ref 0), some (.int (if x0 < (0 : Int32) then (0 : Int32) else (if x0 < (4 : Int32) then (if x1 < (0 : Int32) then (0 : Int32) else (if x1 < (4 : Int32) then (1 : Int32) else (0 : Int32))) else (0 : Int32)))), some (.int ((x1 + (1 : Int32)) &&& (3 : Int32))), none, none, some (.int r81), some (.int r86), some (.int r114.1), none, none, none, none, none]) (S := [.int r114.1]) (σ := (H0 r114.2)) rfl (XT.i0_eq_t hc117) ?_
                refine QTri.steps Ad W 1 (st' := (135, [some (.int x0), some (.int x1), some (.int x2), some (.ref 0), some (.int (if x0 < (0 : Int32) then (0 : Int32) else (if x0 < (4 : Int32) then (if x1 < (0 : Int32) then (0 : Int32) else (if x1 < (4 : Int32) then (1 : Int32) else (0 : Int32))) else (0 : Int32)))), some (.int ((x1 + (1 : Int32)) &&& (3 : Int32))), none, none, some (.int r81), some (.int r86), some (.int r114.1), none, none, none, none, none], [.int (0 : Int32), .int r114.1], (H0 r114.2))) rfl ?_
                exact QTri.mask [true, true, true, true, true, false, false, false, false, false, false, false, false, false, false, false] (K116 _ (if_pos hc117).symm)
              · refine QTri.brF Ad W (t := 134) (f := 130) (L := [some (.int x0), some (.int x1), some (.int x2), some (.ref 0), some (.int (if x0 < (0 : Int32) then (0 : Int32) else (if x0 < (4 : Int32) then (if x1 < (0 : Int32) then (0 : Int32) else (if x1 < (4 : Int32) then (1 : Int32) else (0 : Int32))) else (0 : Int32)))), some (.int ((x1 + (1 : Int32)) &&& (3 : Int32))), none, none, some (.int r81), some (.int r86), some (.int r114.1), none, none, none, none, none]) (S := [.int r114.1]) (σ := (H0 r114.2)) rfl (XT.i0_eq_f hc117) ?_
                refine QTri.steps Ad W 2 (st' := (135, [some (.int x0), some (.int x1), some (.int x2), some (.ref 0), some (.int (if x0 < (0 : Int32) then (0 : Int32) else (if x0 < (4 : Int32) then (if x1 < (0 : Int32) then (0 : Int32) else (if x1 < (4 : Int32) then (1 : Int32) else (0 : Int32))) else (0 : Int32)))), some (.int ((x1 + (1 : Int32)) &&& (3 : Int32))), none, none, some (.int r81), some (.int r86), some (.int r114.1), none, none, none, none, none], [.int (1 : Int32), .int r114.1], (H0 r114.2))) rfl ?_
                exact QTri.mask [true, true, true, true, true, false, false, false, false, false, false, false, false, false, false, false] (K116 _ (if_neg hc117).symm)
            · refine QTri.brF Ad W (t := 117) (f := 115) (L := [some (.int x0), some (.int x1), some (.int x2), some (.ref 0), some (.int (if x0 < (0 : Int32) then (0 : Int32) else (if x0 < (4 : Int32) then (if x1 < (0 : Int32) then (0 : Int32) else (if x1 < (4 : Int32) then (1 : Int32) else (0 : Int32))) else (0 : Int32)))), some (.int ((x1 + (1 : Int32)) &&& (3 : Int32))), none, none, some (.int r81), some (.int r86), none, none, none, none, none, none]) (S := []) (σ := (H0 r69.2)) rfl (XT.ii_eq_f hc87) ?_
              refine QTri.steps Ad W 1 (st' := (116, [some (.int x0), some (.int x1), some (.int x2), some (.ref 0), some (.int (if x0 < (0 : Int32) then (0 : Int32) else (if x0 < (4 : Int32) then (if x1 < (0 : Int32) then (0 : Int32) else (if x1 < (4 : Int32) then (1 : Int32) else (0 : Int32))) else (0 : Int32)))), some (.int ((x1 + (1 : Int32)) &&& (3 : Int32))), none, none, some (.int r81), some (.int r86), none, none, none, none, none, none], [.int (0 : Int32)], (H0 r69.2))) rfl ?_
              obtain rfl := Option.some.inj h
              exact QTri.retZ rfl rfl
          · refine QTri.brF Ad W (t := 101) (f := 99) (L := [some (.int x0), some (.int x1), some (.int x2), some (.ref 0), some (.int (if x0 < (0 : Int32) then (0 : Int32) else (if x0 < (4 : Int32) then (if x1 < (0 : Int32) then (0 : Int32) else (if x1 < (4 : Int32) then (1 : Int32) else (0 : Int32))) else (0 : Int32)))), some (.int ((x1 + (1 : Int32)) &&& (3 : Int32))), none, none, some (.int r81), none, none, none, none, none, none, none]) (S := []) (σ := (H0 r69.2)) rfl (XT.i0_eq_f hc82) ?_
            refine QTri.steps Ad W 1 (st' := (100, [some (.int x0), some (.int x1), some (.int x2), some (.ref 0), some (.int (if x0 < (0 : Int32) then (0 : Int32) else (if x0 < (4 : Int32) then (if x1 < (0 : Int32) then (0 : Int32) else (if x1 < (4 : Int32) then (1 : Int32) else (0 : Int32))) else (0 : Int32)))), some (.int ((x1 + (1 : Int32)) &&& (3 : Int32))), none, none, some (.int r81), none, none, none, none, none, none, none], [.int (0 : Int32)], (H0 r69.2))) rfl ?_
            obtain rfl := Option.some.inj h
            exact QTri.retZ rfl rfl
        · refine QTri.brF Ad W (t := 85) (f := 83) (L := [some (.int x0), some (.int x1), some (.int x2), some (.ref 0), some (.int (if x0 < (0 : Int32) then (0 : Int32) else (if x0 < (4 : Int32) then (if x1 < (0 : Int32) then (0 : Int32) else (if x1 < (4 : Int32) then (1 : Int32) else (0 : Int32))) else (0 : Int32)))), some (.int ((x1 + (1 : Int32)) &&& (3 : Int32))), none, none, none, none, none, none, none, none, none, none]) (S := []) (σ := (H0 r69.2)) rfl (XT.ii_eq_f hc80) ?_
          refine QTri.steps Ad W 1 (st' := (84, [some (.int x0), some (.int x1), some (.int x2), some (.ref 0), some (.int (if x0 < (0 : Int32) then (0 : Int32) else (if x0 < (4 : Int32) then (if x1 < (0 : Int32) then (0 : Int32) else (if x1 < (4 : Int32) then (1 : Int32) else (0 : Int32))) else (0 : Int32)))), some (.int ((x1 + (1 : Int32)) &&& (3 : Int32))), none, none, none, none, none, none, none, none, none, none], [.int (0 : Int32)], (H0 r69.2))) rfl ?_
          obtain rfl := Option.some.inj h
          exact QTri.retZ rfl rfl
      rcases Classical.em ((if x0 < (0 : Int32) then (0 : Int32) else (if x0 < (4 : Int32) then (if x1 < (0 : Int32) then (0 : Int32) else (if x1 < (4 : Int32) then (1 : Int32) else (0 : Int32))) else (0 : Int32))) = (0 : Int32)) with hc79 | hc79
      · refine QTri.brT Ad W (t := 79) (f := 75) (L := [some (.int x0), some (.int x1), some (.int x2), some (.ref 0), some (.int (if x0 < (0 : Int32) then (0 : Int32) else (if x0 < (4 : Int32) then (if x1 < (0 : Int32) then (0 : Int32) else (if x1 < (4 : Int32) then (1 : Int32) else (0 : Int32))) else (0 : Int32)))), some (.int ((x1 + (1 : Int32)) &&& (3 : Int32))), some (.int r69.1), some (.int r76), none, none, none, none, none, none, none, none]) (S := [.int r76]) (σ := (H0 r69.2)) rfl (XT.i0_eq_t hc79) ?_
        refine QTri.steps Ad W 1 (st' := (80, [some (.int x0), some (.int x1), some (.int x2), some (.ref 0), some (.int (if x0 < (0 : Int32) then (0 : Int32) else (if x0 < (4 : Int32) then (if x1 < (0 : Int32) then (0 : Int32) else (if x1 < (4 : Int32) then (1 : Int32) else (0 : Int32))) else (0 : Int32)))), some (.int ((x1 + (1 : Int32)) &&& (3 : Int32))), some (.int r69.1), some (.int r76), none, none, none, none, none, none, none, none], [.int (0 : Int32), .int r76], (H0 r69.2))) rfl ?_
        exact QTri.mask [true, true, true, true, true, true, false, false, false, false, false, false, false, false, false, false] (K78 _ (if_pos hc79).symm)
      · refine QTri.brF Ad W (t := 79) (f := 75) (L := [some (.int x0), some (.int x1), some (.int x2), some (.ref 0), some (.int (if x0 < (0 : Int32) then (0 : Int32) else (if x0 < (4 : Int32) then (if x1 < (0 : Int32) then (0 : Int32) else (if x1 < (4 : Int32) then (1 : Int32) else (0 : Int32))) else (0 : Int32)))), some (.int ((x1 + (1 : Int32)) &&& (3 : Int32))), some (.int r69.1), some (.int r76), none, none, none, none, none, none, none, none]) (S := [.int r76]) (σ := (H0 r69.2)) rfl (XT.i0_eq_f hc79) ?_
        refine QTri.steps Ad W 2 (st' := (80, [some (.int x0), some (.int x1), some (.int x2), some (.ref 0), some (.int (if x0 < (0 : Int32) then (0 : Int32) else (if x0 < (4 : Int32) then (if x1 < (0 : Int32) then (0 : Int32) else (if x1 < (4 : Int32) then (1 : Int32) else (0 : Int32))) else (0 : Int32)))), some (.int ((x1 + (1 : Int32)) &&& (3 : Int32))), some (.int r69.1), some (.int r76), none, none, none, none, none, none, none, none], [.int x2, .int r76], (H0 r69.2))) rfl ?_
        exact QTri.mask [true, true, true, true, true, true, false, false, false, false, false, false, false, false, false, false] (K78 _ (if_neg hc79).symm)
    · refine QTri.brF Ad W (t := 60) (f := 58) (L := [some (.int x0), some (.int x1), some (.int x2), some (.ref 0), some (.int (if x0 < (0 : Int32) then (0 : Int32) else (if x0 < (4 : Int32) then (if x1 < (0 : Int32) then (0 : Int32) else (if x1 < (4 : Int32) then (1 : Int32) else (0 : Int32))) else (0 : Int32)))), some (.int ((x1 + (1 : Int32)) &&& (3 : Int32))), some (.int r69.1), none, none, none, none, none, none, none, none, none]) (S := []) (σ := (H0 r69.2)) rfl (XT.ii_eq_f hc70) ?_
      refine QTri.steps Ad W 1 (st' := (59, [some (.int x0), some (.int x1), some (.int x2), some (.ref 0), some (.int (if x0 < (0 : Int32) then (0 : Int32) else (if x0 < (4 : Int32) then (if x1 < (0 : Int32) then (0 : Int32) else (if x1 < (4 : Int32) then (1 : Int32) else (0 : Int32))) else (0 : Int32)))), some (.int ((x1 + (1 : Int32)) &&& (3 : Int32))), some (.int r69.1), none, none, none, none, none, none, none, none, none], [.int (0 : Int32)], (H0 r69.2))) rfl ?_
      obtain rfl := Option.some.inj h
      exact QTri.retZ rfl rfl
  rcases Classical.em (x0 < (0 : Int32)) with hc17 | hc17
  · refine QTri.brT Ad W (t := 32) (f := 14) (L := [some (.int x0), some (.int x1), some (.int x2), some (.ref 0), none, none, none, none, none, none, none, none, none, none, none, none]) (S := []) (σ := (H0 r14)) rfl (XT.i0_lt_t hc17) ?_
    refine QTri.steps Ad W 1 (st' := (33, [some (.int x0), some (.int x1), some (.int x2), some (.ref 0), none, none, none, none, none, none, none, none, none, none, none, none], [.int (0 : Int32)], (H0 r14))) rfl ?_
    exact QTri.mask [true, true, true, true, false, false, false, false, false, false, false, false, false, false, false, false] (K16 _ (if_pos hc17).symm)
  · refine QTri.brF Ad W (t := 32) (f := 14) (L := [some (.int x0), some (.int x1), some (.int x2), some (.ref 0), none, none, none, none, none, none, none, none, none, none, none, none]) (S := []) (σ := (H0 r14)) rfl (XT.i0_lt_f hc17) ?_
    refine QTri.steps Ad W 2 (st' := (16, [some (.int x0), some (.int x1), some (.int x2), some (.ref 0), none, none, none, none, none, none, none, none, none, none, none, none], [.int (4 : Int32), .int x0], (H0 r14))) rfl ?_
    rcases Classical.em (x0 < (4 : Int32)) with hc18 | hc18
    · refine QTri.brF Ad W (t := 32) (f := 19) (L := [some (.int x0), some (.int x1), some (.int x2), some (.ref 0), none, none, none, none, none, none, none, none, none, none, none, none]) (S := []) (σ := (H0 r14)) rfl (XT.ii_ge_f hc18) ?_
      refine QTri.steps Ad W 1 (st' := (20, [some (.int x0), some (.int x1), some (.int x2), some (.ref 0), none, none, none, none, none, none, none, none, none, none, none, none], [.int x1], (H0 r14))) rfl ?_
      rcases Classical.em (x1 < (0 : Int32)) with hc19 | hc19
      · refine QTri.brT Ad W (t := 32) (f := 23) (L := [some (.int x0), some (.int x1), some (.int x2), some (.ref 0), none, none, none, none, none, none, none, none, none, none, none, none]) (S := []) (σ := (H0 r14)) rfl (XT.i0_lt_t hc19) ?_
        refine QTri.steps Ad W 1 (st' := (33, [some (.int x0), some (.int x1), some (.int x2), some (.ref 0), none, none, none, none, none, none, none, none, none, none, none, none], [.int (0 : Int32)], (H0 r14))) rfl ?_
        exact QTri.mask [true, true, true, true, false, false, false, false, false, false, false, false, false, false, false, false] (K16 _ ((if_neg hc17).trans ((if_pos hc18).trans (if_pos hc19))).symm)
      · refine QTri.brF Ad W (t := 32) (f := 23) (L := [some (.int x0), some (.int x1), some (.int x2), some (.ref 0), none, none, none, none, none, none, none, none, none, none, none, none]) (S := []) (σ := (H0 r14)) rfl (XT.i0_lt_f hc19) ?_
        refine QTri.steps Ad W 2 (st' := (25, [some (.int x0), some (.int x1), some (.int x2), some (.ref 0), none, none, none, none, none, none, none, none, none, none, none, none], [.int (4 : Int32), .int x1], (H0 r14))) rfl ?_
        rcases Classical.em (x1 < (4 : Int32)) with hc20 | hc20
        · refine QTri.brF Ad W (t := 32) (f := 28) (L := [some (.int x0), some (.int x1), some (.int x2), some (.ref 0), none, none, none, none, none, none, none, none, none, none, none, none]) (S := []) (σ := (H0 r14)) rfl (XT.ii_ge_f hc20) ?_
          refine QTri.steps Ad W 2 (st' := (33, [some (.int x0), some (.int x1), some (.int x2), some (.ref 0), none, none, none, none, none, none, none, none, none, none, none, none], [.int (1 : Int32)], (H0 r14))) rfl ?_
          exact QTri.mask [true, true, true, true, false, false, false, false, false, false, false, false, false, false, false, false] (K16 _ ((if_neg hc17).trans ((if_pos hc18).trans ((if_neg hc19).trans (if_pos hc20)))).symm)
        · refine QTri.brT Ad W (t := 32) (f := 28) (L := [some (.int x0), some (.int x1), some (.int x2), some (.ref 0), none, none, none, none, none, none, none, none, none, none, none, none]) (S := []) (σ := (H0 r14)) rfl (XT.ii_ge_t hc20) ?_
          refine QTri.steps Ad W 1 (st' := (33, [some (.int x0), some (.int x1), some (.int x2), some (.ref 0), none, none, none, none, none, none, none, none, none, none, none, none], [.int (0 : Int32)], (H0 r14))) rfl ?_
          exact QTri.mask [true, true, true, true, false, false, false, false, false, false, false, false, false, false, false, false] (K16 _ ((if_neg hc17).trans ((if_pos hc18).trans ((if_neg hc19).trans (if_neg hc20)))).symm)
    · refine QTri.brT Ad W (t := 32) (f := 19) (L := [some (.int x0), some (.int x1), some (.int x2), some (.ref 0), none, none, none, none, none, none, none, none, none, none, none, none]) (S := []) (σ := (H0 r14)) rfl (XT.ii_ge_t hc18) ?_
      refine QTri.steps Ad W 1 (st' := (33, [some (.int x0), some (.int x1), some (.int x2), some (.ref 0), none, none, none, none, none, none, none, none, none, none, none, none], [.int (0 : Int32)], (H0 r14))) rfl ?_
      exact QTri.mask [true, true, true, true, false, false, false, false, false, false, false, false, false, false, false, false] (K16 _ ((if_neg hc17).trans (if_neg hc18)).symm)
end Walks
/-! ## ints, plainly -/
theorem i_lt {x y : Int32} : x < y ↔ x.toInt < y.toInt := Int32.lt_iff_toInt_lt
theorem i_eq {x y : Int32} : x = y ↔ x.toInt = y.toInt := Int32.toInt_inj.symm
theorem i_lo (x : Int32) : -2147483648 ≤ x.toInt := Int32.le_toInt x
theorem i_hi (x : Int32) : x.toInt < 2147483648 := Int32.toInt_lt x
theorem i_add {x y : Int32} (h1 : -2147483648 ≤ x.toInt + y.toInt) (h2 : x.toInt + y.toInt < 2147483648) : (x + y).toInt = x.toInt + y.toInt := XT.add32 ⟨h1, by omega⟩
theorem i_sub {x y : Int32} (h1 : -2147483648 ≤ x.toInt - y.toInt) (h2 : x.toInt - y.toInt < 2147483648) : (x - y).toInt = x.toInt - y.toInt := XT.sub32 ⟨h1, by omega⟩
theorem i_mul {x y : Int32} (h1 : -2147483648 ≤ x.toInt * y.toInt) (h2 : x.toInt * y.toInt < 2147483648) : (x * y).toInt = x.toInt * y.toInt := XT.mul32 ⟨h1, by omega⟩
theorem i_nat (x : Int32) : x.toNatClampNeg = x.toInt.toNat := rfl
theorem aget_at {α : Type} {xs : List α} {j : Int32} {n : Nat} (hj : j.toInt = n) (hn : n < xs.length) : aget xs j = some xs[n] := by
  have h0 : ¬ j < 0 := by rw [i_lt]; show ¬ j.toInt < 0; omega
  unfold aget
  rw [if_neg h0, i_nat, hj]
  simp [hn]
theorem aget_rep {α : Type} {m : Nat} {a : α} {j : Int32} (h0 : 0 ≤ j.toInt) (h1 : j.toInt < m) : aget (List.replicate m a) j = some a := by
  rw [aget_at (n := j.toInt.toNat) (by omega) (by rw [List.length_replicate]; omega)]
  simp
theorem aset_at {α : Type} {xs : List α} {j : Int32} {n : Nat} {v : α} (hj : j.toInt = n) (hn : n < xs.length) : aset xs j v = some (xs.set n v) := by
  have h0 : ¬ j < 0 := by rw [i_lt]; show ¬ j.toInt < 0; omega
  unfold aset
  have e : j.toNatClampNeg = n := by rw [i_nat, hj]; simp
  rw [if_neg h0, e, if_pos hn]
theorem rep_set {α : Type} (m k : Nat) (a : α) : (List.replicate m a).set k a = List.replicate m a := by
  apply List.ext_getElem (by simp)
  intro i h1 h2
  rw [List.getElem_set]
  split <;> simp
theorem small_cases {x : Int32} (h0 : 0 ≤ x.toInt) {n : Nat} (h1 : x.toInt < n) {P : Int32 → Prop} (h : ∀ m : Nat, m < n → P (Int32.ofInt m)) : P x := by
  have e : Int32.ofInt (x.toInt.toNat : Nat) = x := by
    rw [Int.toNat_of_nonneg h0, Int32.ofInt_toInt]
  rw [← e]
  exact h _ (by omega)
theorem bit_ne {x : Int32} (h0 : 0 ≤ x.toInt) (h1 : x.toInt < 32) : ¬ (((1 : Int32) <<< (x &&& 31)) &&& ((1 : Int32) <<< (x &&& 31))) = 0 :=
  small_cases (P := fun x => ¬ (((1 : Int32) <<< (x &&& 31)) &&& ((1 : Int32) <<< (x &&& 31))) = 0) h0 (n := 32) h1 (by decide)
/-! ## a plain run that succeeds, and what it gives -/
def okP {α : Type} (m : Option α) (P : α → Prop) : Prop := ∃ a, m = some a ∧ P a
theorem okP.some {α : Type} {a : α} {P : α → Prop} (h : P a) : okP (some a) P := ⟨a, rfl, h⟩
theorem okP.bind {α β : Type} {m : Option α} {f : α → Option β} {P : β → Prop} (h : okP m fun a => okP (f a) P) : okP (m.bind f) P := by
  obtain ⟨a, e, b, e2, h2⟩ := h
  exact ⟨b, by rw [e]; exact e2, h2⟩
theorem okP.ite {α : Type} {c : Prop} [Decidable c] {a b : Option α} {P : α → Prop} (h1 : c → okP a P) (h2 : ¬ c → okP b P) : okP (if c then a else b) P := by
  by_cases h : c
  · rw [if_pos h]; exact h1 h
  · rw [if_neg h]; exact h2 h
theorem okP.mono {α : Type} {m : Option α} {P Q : α → Prop} (h : okP m P) (k : ∀ a, P a → Q a) : okP m Q := by
  obtain ⟨a, e, h⟩ := h
  exact ⟨a, e, k a h⟩
theorem okP.of {α : Type} {m : Option α} {a : α} {P : α → Prop} (e : m = Option.some a) (h : P a) : okP m P := ⟨a, e, h⟩
theorem okP.aget {α : Type} {xs : List α} {j : Int32} {P : α → Prop} (h0 : 0 ≤ j.toInt) (h1 : j.toInt < xs.length) (k : ∀ v, xs[j.toInt.toNat]? = Option.some v → P v) : okP (aget xs j) P :=
  ⟨_, aget_at (n := j.toInt.toNat) (by omega) (by omega), k _ (List.getElem?_eq_getElem _)⟩
theorem okP.aset {α : Type} {xs : List α} {j : Int32} {v : α} {P : List α → Prop} (h0 : 0 ≤ j.toInt) (h1 : j.toInt < xs.length) (k : P (xs.set j.toInt.toNat v)) : okP (aset xs j v) P :=
  ⟨_, aset_at (n := j.toInt.toNat) (by omega) (by omega), k⟩
theorem okP.loop {V E : Type} {B : V → Option (E ⊕ V)} {P : E → Prop} {n : Nat} {v : V} (I : V → Prop) (μ : V → Nat) (hv : I v) (hm : μ v < n) (hB : ∀ v, I v → okP (B v) (fun r => Sum.elim P (fun v' => I v' ∧ μ v' < μ v) r)) : okP (loopN B n v) P := by
  refine loopN_inv I P μ ?_ n v hv hm
  intro v hv
  obtain ⟨r, e, h⟩ := hB v hv
  cases r with
  | inl x => exact Or.inl ⟨x, e, h⟩
  | inr x => exact Or.inr ⟨x, e, h⟩
theorem len_i {n : Nat} (h : n ≤ 1000) : (n.toInt32).toInt = n := by
  have e : n.toInt32 = Int32.ofInt n := rfl
  rw [e, Int32.toInt_ofInt_of_le (by show _ ≤ (n : Int); omega) (by show (n : Int) < _; omega)]
theorem and1 (x : Int32) : x &&& 1 = 0 ∨ x &&& 1 = 1 := by
  have e : (x &&& 1).toBitVec = x.toBitVec &&& 1#32 := rfl
  have h := BitVec.and_one_eq_setWidth_ofBool_getLsbD (x := x.toBitVec)
  cases g : x.toBitVec.getLsbD 0
  · left; apply Int32.toBitVec_inj.1; rw [e, h, g]; rfl
  · right; apply Int32.toBitVec_inj.1; rw [e, h, g]; rfl
theorem okP.not {α : Type} {m : Option α} {a : α} {P : α → Prop} (h : okP m P) (e : m = Option.some a) : P a := by
  obtain ⟨b, e2, h⟩ := h
  rw [e] at e2
  exact (Option.some.inj e2) ▸ h
theorem and_rng {x m : Int32} (hm : 0 ≤ m.toInt) : 0 ≤ (x &&& m).toInt ∧ (x &&& m).toInt ≤ m.toInt := by
  have e : (x &&& m).toBitVec.toNat = x.toBitVec.toNat &&& m.toBitVec.toNat := BitVec.toNat_and ..
  have l : (x &&& m).toBitVec.toNat ≤ m.toBitVec.toNat := by rw [e]; exact Nat.and_le_right
  have c1 : m.toInt = if 2 * m.toBitVec.toNat < 2 ^ 32 then (m.toBitVec.toNat : Int) else m.toBitVec.toNat - (2 ^ 32 : Nat) := BitVec.toInt_eq_toNat_cond m.toBitVec
  have c2 : (x &&& m).toInt = if 2 * (x &&& m).toBitVec.toNat < 2 ^ 32 then ((x &&& m).toBitVec.toNat : Int) else (x &&& m).toBitVec.toNat - (2 ^ 32 : Nat) := BitVec.toInt_eq_toNat_cond (x &&& m).toBitVec
  have b : m.toBitVec.toNat < 2 ^ 32 := m.toBitVec.isLt
  by_cases h : 2 * m.toBitVec.toNat < 2 ^ 32
  · rw [if_pos h] at c1
    rw [if_pos (by omega)] at c2
    omega
  · rw [if_neg h] at c1
    omega
theorem mod_rng {x m : Int32} (hx : 0 ≤ x.toInt) (hm : 0 < m.toInt) : 0 ≤ (x % m).toInt ∧ (x % m).toInt < m.toInt := by
  rw [Int32.toInt_mod, Int.tmod_eq_emod_of_nonneg hx]
  exact ⟨Int.emod_nonneg _ (by omega), Int.emod_lt_of_pos _ hm⟩
/-- the law's own room, over the script's array -/
def sFit (s : List Int32) (τ : QHeap) : Prop := τ.length - List.length ([Sum.inr (Sum.inl (FieldType.int, s))] : QHeap) ≤ room_1.cells ∧ qhs τ - qhs [Sum.inr (Sum.inl (FieldType.int, s))] ≤ room_1.slots
def Sh (D : List Int32) (G : List Int32) (o : Ob) : Prop := (f_fRk o).length = 16 ∧ (f_fCk o).length = 16 ∧ (f_prevVal o).length = 16 ∧ (f_prevFound o).length = 16 ∧ (f_keys o).length = 64 ∧ f_data o = D ∧ f_filled o = G ∧ f_nRows o = 4 ∧ f_nForms o = 1 ∧ f_rf o = 0 ∧ f_fMode o = List.replicate 16 0
theorem Sh_cf {D : List Int32} {G : List Int32} {o : Ob} {x : Int32} (h : Sh D G o) : Sh D G (s_cf o x) := by
  dsimp only [Sh, f_data, f_filled, f_rf, f_fMode, f_fRk, f_fCk, f_prevVal, f_prevFound, f_keys, f_nRows, f_nForms, s_cf] at h ⊢
  exact h
theorem Sh_vf {D : List Int32} {G : List Int32} {o : Ob} {x : Int32} (h : Sh D G o) : Sh D G (s_vf o x) := by
  dsimp only [Sh, f_data, f_filled, f_rf, f_fMode, f_fRk, f_fCk, f_prevVal, f_prevFound, f_keys, f_nRows, f_nForms, s_vf] at h ⊢
  exact h
theorem Sh_ag {D : List Int32} {G : List Int32} {o : Ob} {x : Int32} (h : Sh D G o) : Sh D G (s_ag o x) := by
  dsimp only [Sh, f_data, f_filled, f_rf, f_fMode, f_fRk, f_fCk, f_prevVal, f_prevFound, f_keys, f_nRows, f_nForms, s_ag] at h ⊢
  exact h
theorem Sh_fRk {D : List Int32} {G : List Int32} {o : Ob} {x : List Int32} (h : Sh D G o) (hx : x.length = 16) : Sh D G (s_fRk o x) := by
  dsimp only [Sh, f_data, f_filled, f_rf, f_fMode, f_fRk, f_fCk, f_prevVal, f_prevFound, f_keys, f_nRows, f_nForms, s_fRk] at h ⊢
  exact ⟨hx, h.2.1, h.2.2.1, h.2.2.2.1, h.2.2.2.2.1, h.2.2.2.2.2⟩
theorem Sh_l_fRk {D : List Int32} {G : List Int32} {o : Ob} (h : Sh D G o) : (f_fRk o).length = 16 := h.1
theorem Sh_fCk {D : List Int32} {G : List Int32} {o : Ob} {x : List Int32} (h : Sh D G o) (hx : x.length = 16) : Sh D G (s_fCk o x) := by
  dsimp only [Sh, f_data, f_filled, f_rf, f_fMode, f_fRk, f_fCk, f_prevVal, f_prevFound, f_keys, f_nRows, f_nForms, s_fCk] at h ⊢
  exact ⟨h.1, hx, h.2.2.1, h.2.2.2.1, h.2.2.2.2.1, h.2.2.2.2.2⟩
theorem Sh_l_fCk {D : List Int32} {G : List Int32} {o : Ob} (h : Sh D G o) : (f_fCk o).length = 16 := h.2.1
theorem Sh_prevVal {D : List Int32} {G : List Int32} {o : Ob} {x : List Int32} (h : Sh D G o) (hx : x.length = 16) : Sh D G (s_prevVal o x) := by
  dsimp only [Sh, f_data, f_filled, f_rf, f_fMode, f_fRk, f_fCk, f_prevVal, f_prevFound, f_keys, f_nRows, f_nForms, s_prevVal] at h ⊢
  exact ⟨h.1, h.2.1, hx, h.2.2.2.1, h.2.2.2.2.1, h.2.2.2.2.2⟩
theorem Sh_l_prevVal {D : List Int32} {G : List Int32} {o : Ob} (h : Sh D G o) : (f_prevVal o).length = 16 := h.2.2.1
theorem Sh_prevFound {D : List Int32} {G : List Int32} {o : Ob} {x : List Int32} (h : Sh D G o) (hx : x.length = 16) : Sh D G (s_prevFound o x) := by
  dsimp only [Sh, f_data, f_filled, f_rf, f_fMode, f_fRk, f_fCk, f_prevVal, f_prevFound, f_keys, f_nRows, f_nForms, s_prevFound] at h ⊢
  exact ⟨h.1, h.2.1, h.2.2.1, hx, h.2.2.2.2.1, h.2.2.2.2.2⟩
theorem Sh_l_prevFound {D : List Int32} {G : List Int32} {o : Ob} (h : Sh D G o) : (f_prevFound o).length = 16 := h.2.2.2.1
theorem Sh_keys {D : List Int32} {G : List Int32} {o : Ob} {x : List Int32} (h : Sh D G o) (hx : x.length = 64) : Sh D G (s_keys o x) := by
  dsimp only [Sh, f_data, f_filled, f_rf, f_fMode, f_fRk, f_fCk, f_prevVal, f_prevFound, f_keys, f_nRows, f_nForms, s_keys] at h ⊢
  exact ⟨h.1, h.2.1, h.2.2.1, h.2.2.2.1, hx, h.2.2.2.2.2⟩
theorem Sh_l_keys {D : List Int32} {G : List Int32} {o : Ob} (h : Sh D G o) : (f_keys o).length = 64 := h.2.2.2.2.1
theorem Sh_last {D : List Int32} {G : List Int32} {o : Ob} {x : Int32} (h : Sh D G o) : Sh D G (s_last o x) := by
  dsimp only [Sh, f_data, f_filled, f_rf, f_fMode, f_fRk, f_fCk, f_prevVal, f_prevFound, f_keys, f_nRows, f_nForms, s_last] at h ⊢
  exact h
theorem Sh_gVal {D : List Int32} {G : List Int32} {o : Ob} {x : Int32} (h : Sh D G o) : Sh D G (s_gVal o x) := by
  dsimp only [Sh, f_data, f_filled, f_rf, f_fMode, f_fRk, f_fCk, f_prevVal, f_prevFound, f_keys, f_nRows, f_nForms, s_gVal] at h ⊢
  exact h
theorem Sh_gCount {D : List Int32} {G : List Int32} {o : Ob} {x : Int32} (h : Sh D G o) : Sh D G (s_gCount o x) := by
  dsimp only [Sh, f_data, f_filled, f_rf, f_fMode, f_fRk, f_fCk, f_prevVal, f_prevFound, f_keys, f_nRows, f_nForms, s_gCount] at h ⊢
  exact h
theorem gs_data (o : Ob) (v : List Int32) : f_data (s_data o v) = v ∧ f_filled (s_data o v) = f_filled o ∧ f_rf (s_data o v) = f_rf o ∧ f_cf (s_data o v) = f_cf o ∧ f_vf (s_data o v) = f_vf o ∧ f_ag (s_data o v) = f_ag o ∧ f_fMode (s_data o v) = f_fMode o ∧ f_fRk (s_data o v) = f_fRk o ∧ f_fCk (s_data o v) = f_fCk o ∧ f_prevVal (s_data o v) = f_prevVal o ∧ f_prevFound (s_data o v) = f_prevFound o ∧ f_keys (s_data o v) = f_keys o ∧ f_nRows (s_data o v) = f_nRows o ∧ f_nForms (s_data o v) = f_nForms o ∧ f_last (s_data o v) = f_last o ∧ f_gVal (s_data o v) = f_gVal o ∧ f_gCount (s_data o v) = f_gCount o := by
  simp only [f_data, f_filled, f_rf, f_cf, f_vf, f_ag, f_fMode, f_fRk, f_fCk, f_prevVal, f_prevFound, f_keys, f_nRows, f_nForms, f_last, f_gVal, f_gCount, s_data, and_self]
theorem gs_filled (o : Ob) (v : List Int32) : f_data (s_filled o v) = f_data o ∧ f_filled (s_filled o v) = v ∧ f_rf (s_filled o v) = f_rf o ∧ f_cf (s_filled o v) = f_cf o ∧ f_vf (s_filled o v) = f_vf o ∧ f_ag (s_filled o v) = f_ag o ∧ f_fMode (s_filled o v) = f_fMode o ∧ f_fRk (s_filled o v) = f_fRk o ∧ f_fCk (s_filled o v) = f_fCk o ∧ f_prevVal (s_filled o v) = f_prevVal o ∧ f_prevFound (s_filled o v) = f_prevFound o ∧ f_keys (s_filled o v) = f_keys o ∧ f_nRows (s_filled o v) = f_nRows o ∧ f_nForms (s_filled o v) = f_nForms o ∧ f_last (s_filled o v) = f_last o ∧ f_gVal (s_filled o v) = f_gVal o ∧ f_gCount (s_filled o v) = f_gCount o := by
  simp only [f_data, f_filled, f_rf, f_cf, f_vf, f_ag, f_fMode, f_fRk, f_fCk, f_prevVal, f_prevFound, f_keys, f_nRows, f_nForms, f_last, f_gVal, f_gCount, s_filled, and_self]
theorem inc1 {x : Int32} (h : x.toInt < 2147483647) : (x + 1).toInt = x.toInt + 1 := by
  have := i_lo x
  have e1 : (1 : Int32).toInt = 1 := rfl
  rw [i_add (by omega) (by omega), e1]
theorem Sh_dat {D G D' : List Int32} {o : Ob} (h : Sh D G o) : Sh D' G (s_data o D') := by
  dsimp only [Sh, f_data, f_filled, f_rf, f_cf, f_vf, f_ag, f_fMode, f_fRk, f_fCk, f_prevVal, f_prevFound, f_keys, f_nRows, f_nForms, f_last, f_gVal, f_gCount, s_data] at h ⊢
  exact ⟨h.1, h.2.1, h.2.2.1, h.2.2.2.1, h.2.2.2.2.1, rfl, h.2.2.2.2.2.2⟩
theorem Sh_fil {D G G' : List Int32} {o : Ob} (h : Sh D G o) : Sh D G' (s_filled o G') := by
  dsimp only [Sh, f_data, f_filled, f_rf, f_cf, f_vf, f_ag, f_fMode, f_fRk, f_fCk, f_prevVal, f_prevFound, f_keys, f_nRows, f_nForms, f_last, f_gVal, f_gCount, s_filled] at h ⊢
  exact ⟨h.1, h.2.1, h.2.2.1, h.2.2.2.1, h.2.2.2.2.1, h.2.2.2.2.2.1, rfl, h.2.2.2.2.2.2.2⟩
theorem row_ok {D G : List Int32} {o : Ob} (h : Sh D G o) (x : Int32) : F3 o x = some (if 0 ≤ x.toInt ∧ x.toInt < 4 then 1 else 0) := by
  have z0 : (0 : Int32).toInt = 0 := rfl
  have z4 : (4 : Int32).toInt = 4 := rfl
  unfold F3
  rw [h.2.2.2.2.2.2.2.1]
  by_cases a : x < 0
  · rw [if_pos a, if_neg (by rw [i_lt, z0] at a; omega)]
  · rw [if_neg a]
    rw [i_lt, z0] at a
    by_cases b : x < 4
    · rw [if_pos b, if_pos (by rw [i_lt, z4] at b; omega)]
    · rw [if_neg b, if_neg (by rw [i_lt, z4] at b; omega)]
theorem eval_ok {D G : List Int32} {o : Ob} (h : Sh D G o) : okP (F5 o 0) (fun r => Sh D G r) := by
  unfold F5
  rw [h.2.2.2.2.2.2.2.2.2.2, aget_rep (by decide) (by decide)]
  simp only [Option.bind_some, if_true]
  apply okP.some
  exact Sh_gCount (Sh_gVal h)
theorem snap_ok {D G : List Int32} {o : Ob} (h : Sh D G o) : okP (F4 o) (fun r => Sh D G r) := by
  unfold F4
  apply okP.bind
  have z1 : (1 : Int32).toInt = 1 := rfl
  refine okP.loop (fun w => (w.1 = 0 ∨ w.1 = 1) ∧ Sh D G w.2) (fun w => (1 - w.1.toInt).toNat) ⟨Or.inl rfl, h⟩ (by show (1 - (0 : Int)).toNat < 4000; decide) ?_
  rintro ⟨w, p⟩ ⟨a, hp⟩
  simp only at a hp
  unfold B4_2
  simp only
  rw [hp.2.2.2.2.2.2.2.2.1]
  rcases a with rfl | rfl
  · rw [if_pos (by decide)]
    apply okP.bind
    refine okP.mono (eval_ok hp) (fun r hr => ?_)
    apply okP.bind
    refine okP.aset (by decide) (by rw [Sh_l_prevVal hr]; decide) ?_
    apply okP.bind
    refine okP.aset (by decide) (by rw [Sh_l_prevFound hr]; decide) ?_
    apply okP.some
    refine ⟨⟨Or.inr rfl, ?_⟩, by show (1 - (0 + 1 : Int32).toInt).toNat < (1 - (0 : Int32).toInt).toNat; decide⟩
    exact Sh_prevFound (Sh_prevVal hr (by rw [List.length_set]; exact Sh_l_prevVal hr)) (by rw [List.length_set]; exact Sh_l_prevFound hr)
  · rw [if_neg (by decide)]
    apply okP.some
    exact okP.some hp
theorem count_ok {D G : List Int32} {o : Ob} (h : Sh D G o) : okP (F6 o) (fun r => Sh D G r.2) := by
  unfold F6
  apply okP.bind
  refine okP.loop (fun w => (w.2.1 = 0 ∨ w.2.1 = 1) ∧ Sh D G w.2.2) (fun w => (1 - w.2.1.toInt).toNat) ⟨Or.inl rfl, h⟩ (by show (1 - (0 : Int)).toNat < 4000; decide) ?_
  rintro ⟨c, w, p⟩ ⟨a, hp⟩
  simp only at a hp
  unfold B6_4 J6_53 J6_56
  simp only
  rw [hp.2.2.2.2.2.2.2.2.1]
  rcases a with rfl | rfl
  · rw [if_pos (by decide)]
    apply okP.bind
    refine okP.mono (eval_ok hp) (fun r hr => ?_)
    apply okP.bind
    refine okP.aget (by decide) (by rw [Sh_l_prevVal hr]; decide) (fun v _ => ?_)
    apply okP.ite <;> intro _
    · apply okP.bind
      refine okP.aget (by decide) (by rw [Sh_l_prevFound hr]; decide) (fun u _ => ?_)
      apply okP.some
      exact ⟨⟨Or.inr rfl, hr⟩, by show (1 - (0 + 1 : Int32).toInt).toNat < (1 - (0 : Int32).toInt).toNat; decide⟩
    · apply okP.some
      exact ⟨⟨Or.inr rfl, hr⟩, by show (1 - (0 + 1 : Int32).toInt).toNat < (1 - (0 : Int32).toInt).toNat; decide⟩
  · rw [if_neg (by decide)]
    apply okP.some
    exact okP.some hp
theorem idx {r f : Int32} (h : 0 ≤ r.toInt ∧ r.toInt < 4) (g : 0 ≤ f.toInt ∧ f.toInt < 4) : (r * 4 + f).toInt = r.toInt * 4 + f.toInt := by
  have e4 : (r * 4).toInt = r.toInt * 4 := i_mul (x := r) (y := 4) (by show _ ≤ r.toInt * 4; omega) (by show r.toInt * 4 < _; omega)
  rw [i_add (by omega) (by omega), e4]
/-- a list of zeros with one place set -/
def zs (n i : Nat) (v : Int32) : List Int32 := (List.replicate n 0).set i v
theorem zs_len (n i : Nat) (v : Int32) : (zs n i v).length = n := by unfold zs; rw [List.length_set, List.length_replicate]
theorem zs_get {n i : Nat} {v : Int32} {j : Int32} (h0 : 0 ≤ j.toInt) (h1 : j.toInt < n) (hi : i < n) : aget (zs n i v) j = some (if i = j.toInt.toNat then v else 0) := by
  rw [aget_at (n := j.toInt.toNat) (by omega) (by rw [zs_len]; omega)]
  congr 1
  unfold zs
  rw [List.getElem_set]
  split <;> simp
theorem zs_zero (n i : Nat) : zs n i 0 = List.replicate n 0 := by unfold zs; exact rep_set n i 0
theorem zs_set {n i j : Nat} {v : Int32} (h : i ≠ j) : (zs n i v).set j 0 = zs n i v := by
  unfold zs
  rw [List.set_comm _ _ h, rep_set]
theorem zs_same {n i : Nat} {v w : Int32} : (zs n i v).set i w = zs n i w := by
  unfold zs
  rw [List.set_set]
theorem keys0 {D : List Int32} {o : Ob} (h : Sh D (List.replicate 32 0) o) : okP (F10 o 0 0) (fun r => r = (0, o)) := by
  unfold F10
  apply okP.bind
  have z4 : (4 : Int32).toInt = 4 := rfl
  refine okP.loop (fun w => w.1 = 0 ∧ 0 ≤ w.2.1.toInt ∧ w.2.1.toInt ≤ 4 ∧ w.2.2 = o) (fun w => (4 - w.2.1.toInt).toNat) ⟨rfl, by show (0 : Int) ≤ 0; decide, by show (0 : Int) ≤ 4; decide, rfl⟩ (by show (4 - (0 : Int)).toNat < 4000; decide) ?_
  rintro ⟨c, w, p⟩ ⟨a0, a1, a2, a3⟩
  simp only at a0 a1 a2 a3
  subst a3
  subst a0
  unfold B10_5 J10_42
  simp only
  rw [h.2.2.2.2.2.2.2.1, h.2.2.2.2.2.2.1]
  apply okP.ite <;> intro c
  · rw [i_lt, z4] at c
    have e2 : (w + 1).toInt = w.toInt + 1 := inc1 (by omega)
    rw [aget_rep (by omega) (by omega)]
    simp only [Option.bind_some, if_true]
    apply okP.some
    exact ⟨⟨rfl, by simp only; omega, by simp only; omega, rfl⟩, by simp only; omega⟩
  · apply okP.some
    exact okP.some rfl
theorem ins_ok {D G : List Int32} {o : Ob} (h : Sh D G o) (v : Int32) : F11 o 0 0 v = some (1, s_keys o ((f_keys o).set 0 v)) := by
  unfold F11
  rw [if_neg (by decide), if_pos (by decide)]
  have l1 : loopN (B11_15 o 0 0 v) qN 0 = some 0 := by
    show loopN (B11_15 o 0 0 v) (3999 + 1) 0 = some 0
    have : B11_15 o 0 0 v 0 = some (.inl 0) := by unfold B11_15; rfl
    simp only [loopN, this]
  rw [l1]
  simp only [Option.bind_some]
  unfold J11_40
  rw [if_neg (by decide)]
  unfold J11_61
  have l2 : loopN (B11_64 0 0 v 0) qN (0, o) = some o := by
    show loopN (B11_64 0 0 v 0) (3999 + 1) (0, o) = some o
    have : B11_64 0 0 v 0 (0, o) = some (.inl o) := by unfold B11_64; rfl
    simp only [loopN, this]
  rw [l2]
  simp only [Option.bind_some]
  rw [aset_at (n := 0) (by decide) (by rw [Sh_l_keys h]; decide)]
  rfl
theorem keys1 {r i : Nat} {v : Int32} {o : Ob} (hr : r < 4) (hi : i < 128) (h : Sh (zs 128 i v) (zs 32 r 1) o) : okP (F10 o 0 0) (fun q => q.1 = 1 ∧ Sh (zs 128 i v) (zs 32 r 1) q.2 ∧ (f_keys q.2)[0]? = some (if i = r * 4 then v else 0)) := by
  unfold F10
  apply okP.bind
  have z4 : (4 : Int32).toInt = 4 := rfl
  refine okP.loop (fun w => 0 ≤ w.2.1.toInt ∧ w.2.1.toInt ≤ 4 ∧ Sh (zs 128 i v) (zs 32 r 1) w.2.2 ∧ (w.2.1.toInt ≤ r → w.1 = 0) ∧ (r < w.2.1.toInt → w.1 = 1 ∧ (f_keys w.2.2)[0]? = some (if i = r * 4 then v else 0))) (fun w => (4 - w.2.1.toInt).toNat) ⟨by show (0 : Int) ≤ 0; decide, by show (0 : Int) ≤ 4; decide, h, fun _ => rfl, fun q => absurd q (by show ¬ (r : Int) < 0; omega)⟩ (by show (4 - (0 : Int)).toNat < 4000; decide) ?_
  rintro ⟨c, w, p⟩ ⟨a1, a2, a3, a4, a5⟩
  simp only at a1 a2 a3 a4 a5
  unfold B10_5 J10_42
  simp only
  rw [a3.2.2.2.2.2.2.2.1, a3.2.2.2.2.2.2.1, a3.2.2.2.2.2.1]
  apply okP.ite <;> intro cc
  · rw [i_lt, z4] at cc
    have e2 : (w + 1).toInt = w.toInt + 1 := inc1 (by omega)
    rw [zs_get a1 (by omega) (by omega)]
    simp only [Option.bind_some]
    by_cases hw : r = w.toInt.toNat
    · rw [if_pos hw, if_neg (by decide)]
      have e4 : (w * 4 + 0).toInt = w.toInt * 4 + 0 := idx ⟨a1, cc⟩ (by decide)
      rw [zs_get (by omega) (by omega) hi]
      simp only [Option.bind_some]
      have c0 := a4 (by omega)
      subst c0
      rw [ins_ok a3]
      simp only [Option.bind_some]
      apply okP.some
      refine ⟨⟨by simp only; omega, by simp only; omega, ?_, ?_, ?_⟩, by simp only; omega⟩
      · exact Sh_keys a3 (by rw [List.length_set]; exact Sh_l_keys a3)
      · intro q; simp only at q; omega
      · intro _
        refine ⟨rfl, ?_⟩
        show (List.set (f_keys p) 0 _)[0]? = _
        rw [List.getElem?_set_self (by rw [Sh_l_keys a3]; decide)]
        have : (w * 4 + 0).toInt.toNat = r * 4 := by omega
        rw [this]
    · rw [if_neg hw]
      simp only [if_true]
      apply okP.some
      refine ⟨⟨by simp only; omega, by simp only; omega, a3, ?_, ?_⟩, by simp only; omega⟩
      · intro q; simp only at q ⊢; exact a4 (by omega)
      · intro q; simp only at q ⊢; exact a5 (by omega)
  · rw [i_lt, z4] at cc
    apply okP.some
    apply okP.some
    have t := a5 (by omega)
    exact ⟨t.1, a3, t.2⟩
theorem siz {D G : List Int32} {o : Ob} (h : Sh D G o) (hD : D.length = 128) (hG : G.length = 32) : qhs (H0 o) ≤ 400 := by
  obtain ⟨z1, z2, z3, z4, z5, z6, z7, z8, z9, z10, z11⟩ := h
  simp only [H0, qhs, qsz, z1, z2, z3, z4, z5, z6, z7, z11, hD, hG, cN, List.length_replicate]
  omega
theorem get_ok {D G : List Int32} {o : Ob} (h : Sh D G o) (x y : Int32) : F7 o x y = (if (0 ≤ x.toInt ∧ x.toInt < 4) ∧ (0 ≤ y.toInt ∧ y.toInt < 4) then aget D (x * 4 + y) else some 0) := by
  have z0 : (0 : Int32).toInt = 0 := rfl
  have z4 : (4 : Int32).toInt = 4 := rfl
  unfold F7
  rw [row_ok h]
  simp only [Option.bind_some]
  by_cases a : 0 ≤ x.toInt ∧ x.toInt < 4
  · rw [if_pos a, if_neg (by decide)]
    by_cases b : y < 0
    · rw [if_pos b, if_neg (by rw [i_lt, z0] at b; omega)]
    · rw [if_neg b]
      rw [i_lt, z0] at b
      by_cases c : y < 4
      · rw [if_pos c, if_pos (by rw [i_lt, z4] at c; omega), h.2.2.2.2.2.1]
        cases aget D (x * 4 + y) <;> rfl
      · rw [if_neg c, if_neg (by rw [i_lt, z4] at c; omega)]
  · rw [if_neg a, if_pos rfl, if_neg (fun q => a q.1)]
theorem law_ok (x0 x1 x2 : Int32) : ∃ τ, F0 x0 x1 x2 = some (1, τ) ∧ τ.length - List.length ([] : QHeap) ≤ room_1.cells ∧ qhs τ - qhs [] ≤ room_1.slots := by
  have z0 : (0 : Int32).toInt = 0 := rfl
  have z4 : (4 : Int32).toInt = 4 := rfl
  obtain ⟨o, ho, hS⟩ : ∃ o, F1 4 1 = some o ∧ Sh (List.replicate 128 0) (List.replicate 32 0) o := ⟨_, rfl, by refine ⟨?_, ?_, ?_, ?_, ?_, rfl, rfl, rfl, rfl, rfl, rfl⟩ <;> exact List.length_replicate⟩
  have okc : (if x0 < 0 then (0 : Int32) else if x0 < 4 then (if x1 < 0 then 0 else if x1 < 4 then 1 else 0) else 0) = (if (0 ≤ x0.toInt ∧ x0.toInt < 4) ∧ (0 ≤ x1.toInt ∧ x1.toInt < 4) then 1 else 0) := by
    simp only [i_lt, z0, z4]
    by_cases a : x0.toInt < 0
    · rw [if_pos a, if_neg (by omega)]
    · rw [if_neg a]
      by_cases b : x0.toInt < 4
      · rw [if_pos b]
        by_cases c : x1.toInt < 0
        · rw [if_pos c, if_neg (by omega)]
        · rw [if_neg c]
          by_cases d : x1.toInt < 4
          · rw [if_pos d, if_pos (by omega)]
          · rw [if_neg d, if_neg (by omega)]
      · rw [if_neg b, if_neg (by omega)]
  have k3 := and_rng (x := x1 + 1) (m := 3) (by decide)
  have e3 : (3 : Int32).toInt = 3 := rfl
  rw [e3] at k3
  unfold F0
  rw [ho]
  simp only [Option.bind_some]
  simp only [okc]
  by_cases v : (0 ≤ x0.toInt ∧ x0.toInt < 4) ∧ (0 ≤ x1.toInt ∧ x1.toInt < 4)
  · obtain ⟨v0, v1⟩ := id v
    have ei := idx v0 v1
    have kne : ((x1 + 1) &&& 3).toInt ≠ x1.toInt := small_cases (P := fun x => ((x + 1) &&& 3).toInt ≠ x.toInt) v1.1 (n := 4) v1.2 (by decide)
    have ek := idx v0 (r := x0) (f := (x1 + 1) &&& 3) ⟨k3.1, by omega⟩
    obtain ⟨D, hD⟩ : ∃ D, D = zs 128 (x0.toInt.toNat * 4 + x1.toInt.toNat) x2 := ⟨_, rfl⟩
    obtain ⟨G, hG⟩ : ∃ G, G = zs 32 x0.toInt.toNat 1 := ⟨_, rfl⟩
    obtain ⟨⟨r, p⟩, hp, q1, q2⟩ : okP (F2 o x0 x1 x2) (fun r => r.1 = 1 ∧ Sh D G r.2) := by
      unfold F2
      rw [row_ok hS, if_pos v0]
      simp only [Option.bind_some]
      rw [if_neg (by decide), if_neg (by rw [i_lt, z0]; omega), if_pos (by rw [i_lt, z4]; omega)]
      apply okP.bind
      refine okP.mono (snap_ok hS) (fun p hp => ?_)
      rw [hp.2.2.2.2.2.1, hp.2.2.2.2.2.2.1]
      apply okP.bind
      refine okP.aset (by omega) (by rw [List.length_replicate]; omega) ?_
      apply okP.bind
      refine okP.aset (by omega) (by rw [List.length_replicate]; omega) ?_
      have g : Sh D G (s_filled (s_data p ((List.replicate 128 0).set (x0 * 4 + x1).toInt.toNat x2)) ((List.replicate 32 0).set x0.toInt.toNat 1)) := by
        have e : (List.replicate 128 0).set (x0 * 4 + x1).toInt.toNat x2 = D := by
          rw [hD, ei]; unfold zs; congr 1; omega
        have e' : (List.replicate 32 0).set x0.toInt.toNat 1 = G := by rw [hG]; rfl
        rw [e, e']
        exact Sh_fil (Sh_dat hp)
      apply okP.bind
      refine okP.mono (count_ok g) (fun q hq => ?_)
      apply okP.some
      exact ⟨rfl, Sh_last hq⟩
    simp only at q1 q2
    subst q1
    have c1 : F7 p x0 x1 = some x2 := by
      rw [get_ok q2, if_pos v, hD, zs_get (by omega) (by omega) (by omega), if_pos (by omega)]
    have c2 : F7 p x0 ((x1 + 1) &&& 3) = some 0 := by
      rw [get_ok q2, if_pos ⟨v0, k3.1, by omega⟩, hD, zs_get (by omega) (by omega) (by omega), if_neg (by omega)]
    have c3 : F8 p x0 = some 1 := by
      unfold F8
      rw [row_ok q2, if_pos v0]
      simp only [Option.bind_some]
      rw [if_neg (by decide), q2.2.2.2.2.2.2.1, hG, zs_get (by omega) (by omega) (by omega), if_pos rfl]; rfl
    have kk : ∀ q, Sh D G q → okP (F10 q 0 0) (fun w => w.1 = 1 ∧ Sh D G w.2 ∧ (f_keys w.2)[0]? = some (if x1 = 0 then x2 else 0)) := by
      intro q hq
      rw [hD, hG] at hq ⊢
      refine okP.mono (keys1 (by omega) (by omega) hq) (fun w hw => ?_)
      refine ⟨hw.1, hw.2.1, ?_⟩
      rw [hw.2.2]
      congr 1
      by_cases e : x1 = 0
      · rw [if_pos e, if_pos (by rw [e, z0]; omega)]
      · rw [if_neg e, if_neg (by rw [i_eq, z0] at e; omega)]
    obtain ⟨⟨r2, p2⟩, hp2, q3, q4, q5⟩ := kk p q2
    simp only at q3 q4 q5
    subst q3
    have c4 : F9 p = some (1, p2) := by
      unfold F9
      rw [q2.2.2.2.2.2.2.2.2.2.1, hp2]; rfl
    obtain ⟨⟨r3, p3⟩, hp3, q6, q7, q8⟩ := kk p2 q4
    simp only at q6 q7 q8
    subst q6
    have c5 : F12 p2 0 = some ((if x1 = 0 then x2 else 0), p3) := by
      unfold F12
      rw [q4.2.2.2.2.2.2.2.2.2.1, hp3]
      simp only [Option.bind_some]
      have a0 : aget (f_keys p3) 0 = some (if x1 = 0 then x2 else 0) := by
        unfold aget
        rw [if_neg (by decide)]
        exact q8
      rw [if_neg (by decide), if_pos (by decide), a0]; rfl
    obtain ⟨⟨r4, p4⟩, hp4, q9, q10⟩ : okP (F13 p3 x0) (fun r => r.1 = 1 ∧ Sh (List.replicate 128 0) (List.replicate 32 0) r.2) := by
      unfold F13
      rw [row_ok q7, if_pos v0]
      simp only [Option.bind_some]
      rw [if_neg (by decide), q7.2.2.2.2.2.2.1, hG, zs_get (by omega) (by omega) (by omega), if_pos rfl]
      simp only [Option.bind_some]
      rw [if_neg (by decide)]
      apply okP.bind
      refine okP.mono (snap_ok q7) (fun p hp => ?_)
      apply okP.bind
      have e0 : ∀ k : Int, 0 ≤ k → k ≤ 4 → True := fun _ _ _ => trivial
      refine okP.loop (fun w => 0 ≤ w.1.toInt ∧ w.1.toInt ≤ 4 ∧ Sh (zs 128 (x0.toInt.toNat * 4 + x1.toInt.toNat) (if x1.toInt < w.1.toInt then 0 else x2)) G w.2) (fun w => (4 - w.1.toInt).toNat) ⟨by show (0 : Int) ≤ 0; decide, by show (0 : Int) ≤ 4; decide, by rw [if_neg (by show ¬ x1.toInt < 0; omega), ← hD]; exact hp⟩ (by show (4 - (0 : Int)).toNat < 4000; decide) ?_
      rintro ⟨w, p⟩ ⟨a1, a2, a3⟩
      simp only at a1 a2 a3
      unfold B13_27
      simp only
      rw [a3.2.2.2.2.2.1]
      apply okP.ite <;> intro cc
      · rw [i_lt, z4] at cc
        have e2 : (w + 1).toInt = w.toInt + 1 := inc1 (by omega)
        have e5 := idx v0 (r := x0) (f := w) ⟨a1, cc⟩
        apply okP.bind
        refine okP.aset (by omega) (by rw [zs_len]; omega) ?_
        apply okP.some
        refine ⟨⟨by simp only; omega, by simp only; omega, ?_⟩, by simp only; omega⟩
        simp only
        by_cases hw : w.toInt = x1.toInt
        · have e6 : (x0 * 4 + w).toInt.toNat = x0.toInt.toNat * 4 + x1.toInt.toNat := by omega
          rw [e6, zs_same, if_pos (by omega)]
          exact Sh_dat a3
        · rw [zs_set (by omega)]
          have : (if x1.toInt < (w + 1).toInt then (0 : Int32) else x2) = (if x1.toInt < w.toInt then 0 else x2) := by
            by_cases g : x1.toInt < w.toInt
            · rw [if_pos g, if_pos (by omega)]
            · rw [if_neg g, if_neg (by omega)]
          rw [this]
          exact Sh_dat a3
      · rw [i_lt, z4] at cc
        apply okP.some
        rw [if_pos (by omega), zs_zero] at a3
        simp only [Sum.elim_inl]
        rw [a3.2.2.2.2.2.2.1, hG]
        apply okP.bind
        refine okP.aset (by omega) (by rw [zs_len]; omega) ?_
        rw [zs_same, zs_zero]
        apply okP.bind
        refine okP.mono (count_ok (Sh_fil a3)) (fun q hq => ?_)
        apply okP.some
        exact ⟨rfl, Sh_last hq⟩
    simp only at q9 q10
    subst q9
    have c6 : F7 p4 x0 x1 = some 0 := by
      rw [get_ok q10, if_pos v, aget_rep (by omega) (by omega)]
    have c7 : F8 p4 x0 = some 0 := by
      unfold F8
      rw [row_ok q10, if_pos v0]
      simp only [Option.bind_some]
      rw [if_neg (by decide), q10.2.2.2.2.2.2.1, aget_rep (by omega) (by omega)]; rfl
    have c8 : F9 p4 = some (0, p4) := by
      obtain ⟨w, hw, rfl⟩ := keys0 q10
      unfold F9
      rw [q10.2.2.2.2.2.2.2.2.2.1, hw]; rfl
    refine ⟨H0 p4, ?_, by show 9 - 0 ≤ _; decide, by have := siz q10 List.length_replicate List.length_replicate; have e : room_1.slots = 768 := rfl; show qhs (H0 p4) - 0 ≤ room_1.slots; rw [e]; omega⟩
    simp only [hp, Option.bind_some, if_pos v, c1, c2, c3, c4, c5, hp4, c6, c7, c8]
    simp +decide
  · have c0 : F2 o x0 x1 x2 = some (0, o) := by
      unfold F2
      rw [row_ok hS]
      simp only [Option.bind_some]
      by_cases a : 0 ≤ x0.toInt ∧ x0.toInt < 4
      · rw [if_pos a, if_neg (by decide)]
        by_cases b : x1 < 0
        · rw [if_pos b]
        · rw [if_neg b]
          rw [i_lt, z0] at b
          rw [if_neg (by rw [i_lt, z4]; omega)]
      · rw [if_neg a]; rfl
    have c1 : ∀ y, F7 o x0 y = some 0 := by
      intro y
      rw [get_ok hS]
      by_cases a : (0 ≤ x0.toInt ∧ x0.toInt < 4) ∧ (0 ≤ y.toInt ∧ y.toInt < 4)
      · have e := idx a.1 a.2
        rw [if_pos a, aget_rep (by omega) (by omega)]
      · rw [if_neg a]
    have c3 : F8 o x0 = some 0 := by
      unfold F8
      rw [row_ok hS]
      simp only [Option.bind_some]
      by_cases a : 0 ≤ x0.toInt ∧ x0.toInt < 4
      · rw [if_pos a, if_neg (by decide), hS.2.2.2.2.2.2.1, aget_rep (by omega) (by omega)]; rfl
      · rw [if_neg a]; rfl
    obtain ⟨w, hw, rfl⟩ := keys0 hS
    have c4 : F9 o = some (0, o) := by
      unfold F9
      rw [hS.2.2.2.2.2.2.2.2.2.1, hw]; rfl
    have c5 : F12 o 0 = some (0, o) := by
      unfold F12
      rw [hS.2.2.2.2.2.2.2.2.2.1, hw]; rfl
    have c6 : F13 o x0 = some (0, o) := by
      unfold F13
      rw [row_ok hS]
      simp only [Option.bind_some]
      by_cases a : 0 ≤ x0.toInt ∧ x0.toInt < 4
      · rw [if_pos a, if_neg (by decide), hS.2.2.2.2.2.2.1, aget_rep (by omega) (by omega)]; rfl
      · rw [if_neg a]; rfl
    refine ⟨H0 o, ?_, by show 9 - 0 ≤ _; decide, by have := siz hS List.length_replicate List.length_replicate; have e : room_1.slots = 768 := rfl; show qhs (H0 o) - 0 ≤ room_1.slots; rw [e]; omega⟩
    simp only [c0, Option.bind_some, if_neg v, c1, c3, c4, c5, c6]
    simp +decide
set_option maxRecDepth 65536 in
theorem comes_1 {Post : Tables → Env → Array Value → State → Outcome → State → Prop} (hpost : ∀ tb e args s v u, (limb_1_1.after args s (.returned v) u = true ∧ limb_1_2.after args s (.returned v) u = true ∧ True) → FrameEnd s (.returned v) u (Jvm.fieldLocs frame_1_writes args s ++ Jvm.arrayLocs frame_1_arrays args s ++ Jvm.staticLocs frame_1_statics s) 32 768 → Post tb e args s (.returned v) u) :
    ArmFor flags0 classFile x code maxLocals ret World_1 tables_1 room_1 Calls_1 rest_1 Pre_1 Post := by
  intro l hfl _ _ p e ha hc hk s m args below hf hA hF happ hP
  obtain ⟨hcalls, hrest, hpre⟩ := hP
  obtain ⟨-, -, -, hnamed, -, -, -, hat⟩ := (Spec.applies_iff hf).mp happ
  obtain ⟨hg, hn⟩ := and_e (Cond.before_iff.mp (show (Jvm.Cond.and given_1 narrow_1).before args s = true from hpre))
  obtain ⟨g0, g1⟩ := and_e hg
  obtain ⟨w0, w1, w2, rfl⟩ : ∃ w0 w1 w2 : Value, args = #[w0, w1, w2] := by
    have hs : args.size = 3 := by simpa [Cond.value, given_1] using g0
    obtain ⟨L⟩ := args
    match L, hs with
    | [w0, w1, w2], _ => exact ⟨w0, w1, w2, rfl⟩
  have hw := fun d (hd : d ∈ tables_1) => atoms_spec (ws := Jvm.Cond.code x code maxLocals ret :: tables_1) hat d (List.mem_cons_of_mem _ hd)
  obtain ⟨a0, g2⟩ := and_e g1
  obtain ⟨i0, ei0⟩ := is_v a0
  obtain rfl : w0 = (.int i0) := Option.some.inj ei0
  obtain ⟨a1, g3⟩ := and_e g2
  obtain ⟨i1, ei1⟩ := is_v a1
  obtain rfl : w1 = (.int i1) := Option.some.inj ei1
  obtain ⟨i2, ei2⟩ := is_v g3
  obtain rfl : w2 = (.int i2) := Option.some.inj ei2
  obtain ⟨τ, hF0, hc1, hs1⟩ := law_ok i0 i1 i2
  have Ad : QAd s.heap.size (fun k => s.heap.size + k) := ⟨fun k _ => rfl, fun i j h => Nat.add_left_cancel h⟩
  have hR : QRep s s.heap.size (fun k => s.heap.size + k) s.heap [] := ⟨Nat.le_refl _, rfl, fun k c h => by cases h⟩
  have T := tF0 (l := l) (Z := s) Ad (QW_ok hw) i0 i1 i2 hF0
  have M := QTri.met (k := 0) (as := [.int i0, .int i1, .int i2]) (by decide) T hR (Nat.le_of_ble_eq_true rfl) (fun q => by cases q) tables_1 (rm := room_1) (by decide) (by decide) hc1 hs1
  obtain ⟨n, o, h1, h2, h3, _, L, rfl, ⟨rfl, R', N⟩, hq⟩ := M p e ha hc hk s m _ below hf ((Spec.applies_iff_loose hf).mp happ).1 ⟨rfl, State.Warmed39.refl s, rfl⟩ trivial
  refine ⟨n, _, h1, h2, h3, hpost _ _ _ _ _ _ ⟨Cond.after_iff.mpr rfl, Cond.after_iff.mpr (eq_i res_at (Term.int_eval (1)) rfl), trivial⟩ ⟨hq.1, hq.2.1, (hq.2.2.sift fun y hy => Or.inr (N y hy)).mono hc1 hs1⟩⟩
theorem main_1_1 : Claimed_1_1 := comes_1 fun _ _ _ _ _ _ h hF => ⟨h.1, hF⟩
theorem main_1_2 : Claimed_1_2 := comes_1 fun _ _ _ _ _ _ h hF => ⟨h.2.1, hF⟩
end Jvm.Pilot.@@N@@
namespace Jvm.Pilot.@@N@@
open Jvm Jvm.ClassFile Sem Op Lib Jvm.Free Jvm.Stand Jvm.Pilot.@@N@@.Jvm.D
/-! MADE BY PROGRAM (witnessworld.py) out of the Statement's table words and the real class files: 11 classes; the members and pool entries that the words name. The judged class is class 1, her method 1. -/
namespace start1
open Jvm.ClassFile
def u (s : String) : CpInfo := .utf8 (stringToUtf16 s)
/-- a pool by its gaps: so many unusable entries, then the entry; so many at the end -/
def gap : Nat → List CpInfo → List CpInfo
  | 0, r => r
  | n + 1, r => .unusable :: gap n r
def poolList (es : List (Nat × CpInfo)) (last : Nat) : List CpInfo := es.foldr (fun e r => gap e.1 (e.2 :: r)) (gap last [])
def pool (es : List (Nat × CpInfo)) (last : Nat) : Array CpInfo := ⟨poolList es last⟩
def fileOf (pool : Array CpInfo) (this : Nat) (attrs : Array Attribute := #[]) (ms : Array MethodInfo := #[]) (fl : Nat := 33) (sup : Nat := 0) (ifs : Array Nat := #[]) (fds : Array FieldInfo := #[]) : ClassFile where
  minorVersion := 0
  majorVersion := 65
  constantPool := pool
  accessFlags := fl
  thisClass := this
  superClass := sup
  interfaces := ifs
  fields := fds
  methods := ms
  attributes := attrs
def plain (name : String) (sup : Option ClassId) : Class where
  name := name
  kind := .ordinary
  loader := none
  accessFlags := 33
  super := sup
  interfaces := #[]
  cf := none
  fields := #[]
  methods := #[]
  instanceTypes := #[]
  staticTypes := #[]
  resolved := #[]
  callSites := []
  init := .initialized
  statics := none
  mirror := none

def pool0 : Array CpInfo := pool [(5, u "<init>"), (0, u "()V"), (1, .class_ 10), (1, u "java/lang/Object")] 113

def k0c0 : Code := { maxStack := 0, maxLocals := 1, code := object_method_1_code, exceptionTable := #[], attributes := #[] }
def k0m0 : Method := { name := "<init>", desc := "()V", sig := { parameters := [], returnType := none }, accessFlags := 1, code := some k0c0 }
/-- java/lang/Object -/
def k0 : Class := { plain "java/lang/Object" none with
  accessFlags := 33
  interfaces := #[]
  cf := some (fileOf pool0 8 #[] #[{ accessFlags := 1, nameIndex := 5, descriptorIndex := 6, attributes := #[] }] 33 0 #[] #[])
  fields := #[]
  methods := #[k0m0]
  instanceTypes := #[]
  staticTypes := #[]
  resolved := Array.replicate 124 none
  statics := none }

def pool1 : Array CpInfo := pool [(2, .class_ 4), (1, u "java/lang/Object"), (0, u "<init>"), (0, u "()V"), (0, .class_ 8), (0, u "PivotSheet"), (0, .methodref 7 10), (0, .nameAndType 5 11), (0, u "(II)V"), (0, .methodref 7 13), (0, .nameAndType 14 15), (0, u "setCell"), (0, u "(III)Z"), (0, .methodref 7 17), (0, .nameAndType 18 19), (0, u "getCell"), (0, u "(II)I"), (0, .methodref 7 21), (0, .nameAndType 22 23), (0, u "isFilled"), (0, u "(I)Z"), (0, .methodref 7 25), (0, .nameAndType 26 27), (0, u "rowKeyCount"), (0, u "()I"), (0, .methodref 7 29), (0, .nameAndType 30 31), (0, u "rowKey"), (0, u "(I)I"), (0, .methodref 7 33), (0, .nameAndType 34 23), (0, u "clearRow"), (0, .class_ 36), (0, u "PivotSheetL2"), (2, u "law")] 3

def k1m0 : Method := { name := "<init>", desc := "()V", sig := { parameters := [], returnType := none }, accessFlags := 1, code := none }
def k1c1 : Code := { maxStack := 4, maxLocals := 16, code := code, exceptionTable := #[], attributes := #[] }
def k1m1 : Method := { name := "law", desc := "(III)Z", sig := { parameters := [.int, .int, .int], returnType := some .boolean }, accessFlags := 9, code := some k1c1 }
/-- PivotSheetL2 -/
def k1 : Class := { plain "PivotSheetL2" (some 0) with
  accessFlags := 49
  interfaces := #[]
  cf := some (fileOf pool1 35 #[] #[{ accessFlags := 1, nameIndex := 5, descriptorIndex := 6, attributes := #[] }, { accessFlags := 9, nameIndex := 39, descriptorIndex := 15, attributes := #[] }] 49 2 #[] #[])
  fields := #[]
  methods := #[k1m0, k1m1]
  instanceTypes := #[]
  staticTypes := #[]
  resolved := Array.replicate 43 none
  statics := none }

def pool2 : Array CpInfo := pool [(1, .methodref 2 3), (0, .class_ 4), (0, .nameAndType 5 6), (0, u "java/lang/Object"), (0, u "<init>"), (0, u "()V"), (0, .fieldref 8 9), (0, .class_ 10), (0, .nameAndType 11 12), (0, u "PivotSheet"), (0, u "data"), (0, u "[I"), (0, .fieldref 8 14), (0, .nameAndType 15 16), (0, u "filled"), (0, u "[Z"), (0, .fieldref 8 18), (0, .nameAndType 19 20), (0, u "rf"), (0, u "I"), (0, .fieldref 8 22), (0, .nameAndType 23 20), (0, u "cf"), (0, .fieldref 8 25), (0, .nameAndType 26 20), (0, u "vf"), (0, .fieldref 8 28), (0, .nameAndType 29 20), (0, u "ag"), (0, .fieldref 8 31), (0, .nameAndType 32 12), (0, u "fMode"), (0, .fieldref 8 34), (0, .nameAndType 35 12), (0, u "fRk"), (0, .fieldref 8 37), (0, .nameAndType 38 12), (0, u "fCk"), (0, .fieldref 8 40), (0, .nameAndType 41 12), (0, u "prevVal"), (0, .fieldref 8 43), (0, .nameAndType 44 16), (0, u "prevFound"), (0, .fieldref 8 46), (0, .nameAndType 47 12), (0, u "keys"), (0, .fieldref 8 49), (0, .nameAndType 50 20), (0, u "nRows"), (0, .fieldref 8 52), (0, .nameAndType 53 20), (0, u "nForms"), (0, .fieldref 8 55), (0, .nameAndType 56 20), (0, u "last"), (0, .methodref 8 58), (0, .nameAndType 59 60), (0, u "validRow"), (0, u "(I)Z"), (0, .methodref 8 62), (0, .nameAndType 63 6), (0, u "snapshot"), (0, .methodref 8 65), (0, .nameAndType 66 67), (0, u "countChanged"), (0, u "()I"), (3, .methodref 8 72), (0, .nameAndType 73 74), (0, u "buildKeys"), (0, u "(II)I"), (6, u "selUseR"), (0, u "Z"), (2, u "selRk"), (2, u "selUseC"), (2, u "selCk"), (4, .fieldref 8 97), (0, .nameAndType 98 20), (0, u "gVal"), (0, .fieldref 8 100), (0, .nameAndType 101 20), (0, u "gCount"), (3, .methodref 8 106), (0, .nameAndType 107 108), (0, u "evalFormula"), (0, u "(I)V"), (0, .methodref 8 110), (0, .nameAndType 111 112), (0, u "insertKey"), (0, u "(III)I"), (4, u "SUM"), (2, u "COUNT"), (1, u "MIN"), (1, u "MAX"), (1, u "FIELDS"), (1, u "ALL"), (1, u "F_NONE"), (0, u "F_CELL"), (0, u "F_ROW"), (0, u "F_COL"), (0, u "F_GRAND"), (0, u "MAX_ROWS"), (1, u "MAX_FORMS"), (1, u "COL_BASE"), (0, u "(II)V"), (3, u "setCell"), (0, u "(III)Z"), (0, u "clearRow"), (0, u "getCell"), (0, u "isFilled"), (2, u "rowKeyCount"), (1, u "rowKey"), (0, u "(I)I")] 10

def k2c0 : Code := { maxStack := 2, maxLocals := 5, code := prog_1_method_1_code, exceptionTable := #[], attributes := #[] }
def k2m0 : Method := { name := "<init>", desc := "(II)V", sig := { parameters := [.int, .int], returnType := none }, accessFlags := 1, code := some k2c0 }
def k2c1 : Code := { maxStack := 3, maxLocals := 4, code := prog_1_method_2_code, exceptionTable := #[], attributes := #[] }
def k2m1 : Method := { name := "setCell", desc := "(III)Z", sig := { parameters := [.int, .int, .int], returnType := some .boolean }, accessFlags := 1, code := some k2c1 }
def k2c2 : Code := { maxStack := 3, maxLocals := 3, code := prog_1_method_3_code, exceptionTable := #[], attributes := #[] }
def k2m2 : Method := { name := "clearRow", desc := "(I)Z", sig := { parameters := [.int], returnType := some .boolean }, accessFlags := 1, code := some k2c2 }
def k2c3 : Code := { maxStack := 3, maxLocals := 3, code := prog_1_method_4_code, exceptionTable := #[], attributes := #[] }
def k2m3 : Method := { name := "getCell", desc := "(II)I", sig := { parameters := [.int, .int], returnType := some .int }, accessFlags := 1, code := some k2c3 }
def k2c4 : Code := { maxStack := 2, maxLocals := 2, code := prog_1_method_5_code, exceptionTable := #[], attributes := #[] }
def k2m4 : Method := { name := "isFilled", desc := "(I)Z", sig := { parameters := [.int], returnType := some .boolean }, accessFlags := 1, code := some k2c4 }
def k2c5 : Code := { maxStack := 3, maxLocals := 1, code := prog_1_method_7_code, exceptionTable := #[], attributes := #[] }
def k2m5 : Method := { name := "rowKeyCount", desc := "()I", sig := { parameters := [], returnType := some .int }, accessFlags := 1, code := some k2c5 }
def k2c6 : Code := { maxStack := 3, maxLocals := 3, code := prog_1_method_9_code, exceptionTable := #[], attributes := #[] }
def k2m6 : Method := { name := "rowKey", desc := "(I)I", sig := { parameters := [.int], returnType := some .int }, accessFlags := 1, code := some k2c6 }
def k2c7 : Code := { maxStack := 2, maxLocals := 2, code := prog_1_method_17_code, exceptionTable := #[], attributes := #[] }
def k2m7 : Method := { name := "validRow", desc := "(I)Z", sig := { parameters := [.int], returnType := some .boolean }, accessFlags := 2, code := some k2c7 }
def k2c8 : Code := { maxStack := 6, maxLocals := 5, code := prog_1_method_20_code, exceptionTable := #[], attributes := #[] }
def k2m8 : Method := { name := "buildKeys", desc := "(II)I", sig := { parameters := [.int, .int], returnType := some .int }, accessFlags := 2, code := some k2c8 }
def k2c9 : Code := { maxStack := 5, maxLocals := 6, code := prog_1_method_21_code, exceptionTable := #[], attributes := #[] }
def k2m9 : Method := { name := "insertKey", desc := "(III)I", sig := { parameters := [.int, .int, .int], returnType := some .int }, accessFlags := 2, code := some k2c9 }
def k2c10 : Code := { maxStack := 6, maxLocals := 5, code := prog_1_method_25_code, exceptionTable := #[], attributes := #[] }
def k2m10 : Method := { name := "evalFormula", desc := "(I)V", sig := { parameters := [.int], returnType := none }, accessFlags := 2, code := some k2c10 }
def k2c11 : Code := { maxStack := 3, maxLocals := 2, code := prog_1_method_26_code, exceptionTable := #[], attributes := #[] }
def k2m11 : Method := { name := "snapshot", desc := "()V", sig := { parameters := [], returnType := none }, accessFlags := 2, code := some k2c11 }
def k2c12 : Code := { maxStack := 3, maxLocals := 4, code := prog_1_method_27_code, exceptionTable := #[], attributes := #[] }
def k2m12 : Method := { name := "countChanged", desc := "()I", sig := { parameters := [], returnType := some .int }, accessFlags := 2, code := some k2c12 }
/-- PivotSheet -/
def k2 : Class := { plain "PivotSheet" (some 0) with
  accessFlags := 49
  interfaces := #[]
  cf := some (fileOf pool2 8 #[] #[{ accessFlags := 1, nameIndex := 5, descriptorIndex := 140, attributes := #[] }, { accessFlags := 1, nameIndex := 144, descriptorIndex := 145, attributes := #[] }, { accessFlags := 1, nameIndex := 146, descriptorIndex := 60, attributes := #[] }, { accessFlags := 1, nameIndex := 147, descriptorIndex := 74, attributes := #[] }, { accessFlags := 1, nameIndex := 148, descriptorIndex := 60, attributes := #[] }, { accessFlags := 1, nameIndex := 151, descriptorIndex := 67, attributes := #[] }, { accessFlags := 1, nameIndex := 153, descriptorIndex := 154, attributes := #[] }, { accessFlags := 2, nameIndex := 59, descriptorIndex := 60, attributes := #[] }, { accessFlags := 2, nameIndex := 73, descriptorIndex := 74, attributes := #[] }, { accessFlags := 2, nameIndex := 111, descriptorIndex := 112, attributes := #[] }, { accessFlags := 2, nameIndex := 107, descriptorIndex := 108, attributes := #[] }, { accessFlags := 2, nameIndex := 63, descriptorIndex := 6, attributes := #[] }, { accessFlags := 2, nameIndex := 66, descriptorIndex := 67, attributes := #[] }] 49 2 #[] #[{ accessFlags := 25, nameIndex := 117, descriptorIndex := 20, attributes := #[] }, { accessFlags := 25, nameIndex := 120, descriptorIndex := 20, attributes := #[] }, { accessFlags := 25, nameIndex := 122, descriptorIndex := 20, attributes := #[] }, { accessFlags := 25, nameIndex := 124, descriptorIndex := 20, attributes := #[] }, { accessFlags := 25, nameIndex := 126, descriptorIndex := 20, attributes := #[] }, { accessFlags := 25, nameIndex := 128, descriptorIndex := 20, attributes := #[] }, { accessFlags := 25, nameIndex := 130, descriptorIndex := 20, attributes := #[] }, { accessFlags := 25, nameIndex := 131, descriptorIndex := 20, attributes := #[] }, { accessFlags := 25, nameIndex := 132, descriptorIndex := 20, attributes := #[] }, { accessFlags := 25, nameIndex := 133, descriptorIndex := 20, attributes := #[] }, { accessFlags := 25, nameIndex := 134, descriptorIndex := 20, attributes := #[] }, { accessFlags := 26, nameIndex := 135, descriptorIndex := 20, attributes := #[] }, { accessFlags := 26, nameIndex := 137, descriptorIndex := 20, attributes := #[] }, { accessFlags := 26, nameIndex := 139, descriptorIndex := 20, attributes := #[] }, { accessFlags := 2, nameIndex := 50, descriptorIndex := 20, attributes := #[] }, { accessFlags := 2, nameIndex := 53, descriptorIndex := 20, attributes := #[] }, { accessFlags := 2, nameIndex := 11, descriptorIndex := 12, attributes := #[] }, { accessFlags := 2, nameIndex := 15, descriptorIndex := 16, attributes := #[] }, { accessFlags := 2, nameIndex := 19, descriptorIndex := 20, attributes := #[] }, { accessFlags := 2, nameIndex := 23, descriptorIndex := 20, attributes := #[] }, { accessFlags := 2, nameIndex := 26, descriptorIndex := 20, attributes := #[] }, { accessFlags := 2, nameIndex := 29, descriptorIndex := 20, attributes := #[] }, { accessFlags := 2, nameIndex := 32, descriptorIndex := 12, attributes := #[] }, { accessFlags := 2, nameIndex := 35, descriptorIndex := 12, attributes := #[] }, { accessFlags := 2, nameIndex := 38, descriptorIndex := 12, attributes := #[] }, { accessFlags := 2, nameIndex := 41, descriptorIndex := 12, attributes := #[] }, { accessFlags := 2, nameIndex := 44, descriptorIndex := 16, attributes := #[] }, { accessFlags := 2, nameIndex := 47, descriptorIndex := 12, attributes := #[] }, { accessFlags := 2, nameIndex := 56, descriptorIndex := 20, attributes := #[] }, { accessFlags := 2, nameIndex := 98, descriptorIndex := 20, attributes := #[] }, { accessFlags := 2, nameIndex := 101, descriptorIndex := 20, attributes := #[] }, { accessFlags := 2, nameIndex := 81, descriptorIndex := 82, attributes := #[] }, { accessFlags := 2, nameIndex := 85, descriptorIndex := 20, attributes := #[] }, { accessFlags := 2, nameIndex := 88, descriptorIndex := 82, attributes := #[] }, { accessFlags := 2, nameIndex := 91, descriptorIndex := 20, attributes := #[] }])
  fields := #[{ name := "SUM", type := .int, accessFlags := 25, slot := 0, constantValue := 0 }, { name := "COUNT", type := .int, accessFlags := 25, slot := 1, constantValue := 0 }, { name := "MIN", type := .int, accessFlags := 25, slot := 2, constantValue := 0 }, { name := "MAX", type := .int, accessFlags := 25, slot := 3, constantValue := 0 }, { name := "FIELDS", type := .int, accessFlags := 25, slot := 4, constantValue := 0 }, { name := "ALL", type := .int, accessFlags := 25, slot := 5, constantValue := 0 }, { name := "F_NONE", type := .int, accessFlags := 25, slot := 6, constantValue := 0 }, { name := "F_CELL", type := .int, accessFlags := 25, slot := 7, constantValue := 0 }, { name := "F_ROW", type := .int, accessFlags := 25, slot := 8, constantValue := 0 }, { name := "F_COL", type := .int, accessFlags := 25, slot := 9, constantValue := 0 }, { name := "F_GRAND", type := .int, accessFlags := 25, slot := 10, constantValue := 0 }, { name := "MAX_ROWS", type := .int, accessFlags := 26, slot := 11, constantValue := 0 }, { name := "MAX_FORMS", type := .int, accessFlags := 26, slot := 12, constantValue := 0 }, { name := "COL_BASE", type := .int, accessFlags := 26, slot := 13, constantValue := 0 }, { name := "nRows", type := .int, accessFlags := 2, slot := 0, constantValue := 0 }, { name := "nForms", type := .int, accessFlags := 2, slot := 1, constantValue := 0 }, { name := "data", type := (.array .int), accessFlags := 2, slot := 2, constantValue := 0 }, { name := "filled", type := (.array .boolean), accessFlags := 2, slot := 3, constantValue := 0 }, { name := "rf", type := .int, accessFlags := 2, slot := 4, constantValue := 0 }, { name := "cf", type := .int, accessFlags := 2, slot := 5, constantValue := 0 }, { name := "vf", type := .int, accessFlags := 2, slot := 6, constantValue := 0 }, { name := "ag", type := .int, accessFlags := 2, slot := 7, constantValue := 0 }, { name := "fMode", type := (.array .int), accessFlags := 2, slot := 8, constantValue := 0 }, { name := "fRk", type := (.array .int), accessFlags := 2, slot := 9, constantValue := 0 }, { name := "fCk", type := (.array .int), accessFlags := 2, slot := 10, constantValue := 0 }, { name := "prevVal", type := (.array .int), accessFlags := 2, slot := 11, constantValue := 0 }, { name := "prevFound", type := (.array .boolean), accessFlags := 2, slot := 12, constantValue := 0 }, { name := "keys", type := (.array .int), accessFlags := 2, slot := 13, constantValue := 0 }, { name := "last", type := .int, accessFlags := 2, slot := 14, constantValue := 0 }, { name := "gVal", type := .int, accessFlags := 2, slot := 15, constantValue := 0 }, { name := "gCount", type := .int, accessFlags := 2, slot := 16, constantValue := 0 }, { name := "selUseR", type := .boolean, accessFlags := 2, slot := 17, constantValue := 0 }, { name := "selRk", type := .int, accessFlags := 2, slot := 18, constantValue := 0 }, { name := "selUseC", type := .boolean, accessFlags := 2, slot := 19, constantValue := 0 }, { name := "selCk", type := .int, accessFlags := 2, slot := 20, constantValue := 0 }]
  methods := #[k2m0, k2m1, k2m2, k2m3, k2m4, k2m5, k2m6, k2m7, k2m8, k2m9, k2m10, k2m11, k2m12]
  instanceTypes := #[.int, .int, (.array .int), (.array .boolean), .int, .int, .int, .int, (.array .int), (.array .int), (.array .int), (.array .int), (.array .boolean), (.array .int), .int, .int, .int, .boolean, .int, .boolean, .int]
  staticTypes := #[.int, .int, .int, .int, .int, .int, .int, .int, .int, .int, .int, .int, .int, .int]
  resolved := Array.replicate 165 none
  statics := none }

def pool3 : Array CpInfo := pool [(1, u "java/lang/Cloneable"), (0, .class_ 1), (0, u "java/lang/Object"), (0, .class_ 3)] 3

/-- java/lang/Cloneable -/
def k3 : Class := { plain "java/lang/Cloneable" (some 0) with
  accessFlags := 1537
  interfaces := #[]
  cf := some (fileOf pool3 2 #[] #[] 1537 4 #[] #[])
  fields := #[]
  methods := #[]
  instanceTypes := #[]
  staticTypes := #[]
  resolved := Array.replicate 8 none
  statics := none }

def pool4 : Array CpInfo := pool [(1, u "java/io/Serializable"), (0, .class_ 1), (0, u "java/lang/Object"), (0, .class_ 3)] 3

/-- java/io/Serializable -/
def k4 : Class := { plain "java/io/Serializable" (some 0) with
  accessFlags := 1537
  interfaces := #[]
  cf := some (fileOf pool4 2 #[] #[] 1537 4 #[] #[])
  fields := #[]
  methods := #[]
  instanceTypes := #[]
  staticTypes := #[]
  resolved := Array.replicate 8 none
  statics := none }

/-- the primitive boolean -/
def k5 : Class := { plain "boolean" none with kind := .primitive 'Z', accessFlags := 0x411 }
/-- [Z -/
def k6 : Class := { plain "[Z" (some 0) with kind := .array 5 .boolean, interfaces := #[3, 4], accessFlags := 1041 }

/-- the primitive byte -/
def k7 : Class := { plain "byte" none with kind := .primitive 'B', accessFlags := 0x411 }
/-- [B -/
def k8 : Class := { plain "[B" (some 0) with kind := .array 7 .byte, interfaces := #[3, 4], accessFlags := 1041 }

/-- the primitive int -/
def k9 : Class := { plain "int" none with kind := .primitive 'I', accessFlags := 0x411 }
/-- [I -/
def k10 : Class := { plain "[I" (some 0) with kind := .array 9 .int, interfaces := #[3, 4], accessFlags := 1041 }

def heap : Heap := #[]
def classes : Array Class := #[k0, k1, k2, k3, k4, k5, k6, k7, k8, k9, k10]
def interned : List (Array UInt16 × Addr) := []
def slotsUsed : Nat := 0
def theMethod : MethodId := ⟨1, 1⟩
def args0 : Array Value := #[.int 5, .int 5, .int 5]
def aboutOver (below : List Frame) : State where
  vm := { classes := classes, interned := interned.toArray }
  heap := heap
  slotsUsed := slotsUsed
  threads := #[{ frames := .invoking theMethod args0 :: below }]
def below0 : List Frame := [.native { method := ⟨0, 0⟩, args := #[] }]
def about1 : State := aboutOver below0
def p0 : Program := .bare "" "" ""
def e0 : Env := launch0.env 0 0 0
theorem w_frames : about1.frames = Frame.invoking theMethod args0 :: below0 := rfl
set_option maxRecDepth 65536 in
theorem w_args : argsFit about1.vm theMethod args0 = true := by decide +kernel
set_option maxRecDepth 65536 in
theorem w_heap : heapFits about1 = true := by decide +kernel
set_option maxRecDepth 65536 in
theorem w_runnable : about1.curStatus? = some .runnable := by decide +kernel
set_option maxRecDepth 65536 in
theorem w_alone : about1.alone = true := by decide +kernel
set_option maxRecDepth 65536 in
theorem w_named : about1.methodNamed? x = some theMethod := by decide +kernel
set_option maxRecDepth 65536 in
theorem w_hears : about1.hears theMethod below0 = true := by decide +kernel
set_option maxRecDepth 65536 in
theorem w_ripe : about1.ripe theMethod args0 below0 = true := by decide +kernel
theorem w_running : about1.status = .running := rfl
set_option maxRecDepth 65536 in
theorem w_room : about1.hasRoom e0.platform room_1 = true :=
  launch0.hasRoom_least _ room_1 (by decide +kernel) (by decide +kernel) (by decide +kernel) (by decide +kernel) (by decide +kernel) (by decide +kernel)
theorem allAtoms_all (ts : List Jvm.Cond) (a : Array Jvm.Value) (st : Jvm.State) : (allAtoms ts).before a st = ts.all (fun c => c.before a st) := by
  induction ts with
  | nil => rfl
  | cons c t ih =>
    show (Jvm.Cond.and c (allAtoms t)).before a st = _
    rw [Jvm.Cond.before_and, ih, List.all_cons]
def words1 : List Jvm.Cond := Jvm.Cond.code x code maxLocals ret :: tables_1
/-- a 'code' word, met by the world's own term for the bytes: nothing is compared byte by byte -/
theorem code_word {y : MethodName} {bytes : ByteArray} {mx : Nat} {rt : Option FieldType} {a : Array Value} {s : State} {m : MethodId} {meth : Method} {c : Code} (h1 : s.methodNamed? y = some m) (h2 : s.vm.method? m = some meth) (h3 : meth.code = some c) (h4 : c.code = bytes)
    (h5 : (c.maxLocals == mx && c.exceptionTable.isEmpty && decide (c.maxStack ≤ mostOperands) && decide (meth.sig.returnType = rt) && !meth.locks && decide (parseMethodDescriptor y.desc = some meth.sig)) = true) : (Jvm.Cond.code y bytes mx rt).before a s = true := by
  simp only [Bool.and_eq_true, beq_iff_eq, Bool.not_eq_true', decide_eq_true_eq] at h5
  obtain ⟨⟨⟨⟨⟨g1, g2⟩, g3⟩, g4⟩, g5⟩, g6⟩ := h5
  simp [Cond.before, Cond.holds, Cond.value, h1, h2, h3, h4, g1, g2, g3, g4, g5, g6]
def isCode : Jvm.Cond → Bool
  | .code _ _ _ _ => true
  | _ => false
theorem all_split {L : List Jvm.Cond} {P : Jvm.Cond → Bool} (h1 : L.all (fun c => isCode c || P c) = true) (h2 : ∀ c ∈ L.filter isCode, P c = true) : L.all P = true := by
  refine List.all_eq_true.mpr fun c hc => ?_
  have h := List.all_eq_true.mp h1 c hc
  rcases Bool.eq_false_or_eq_true (isCode c) with hi | hi
  · exact h2 c (List.mem_filter.mpr ⟨hc, hi⟩)
  · simpa [hi] using h
set_option maxRecDepth 65536 in
theorem w_c0 : (Jvm.Cond.code x code maxLocals ret).before args0 about1 = true := code_word (m := ⟨1, 1⟩) (meth := k1m1) (c := k1c1) (by decide +kernel) rfl rfl rfl (by decide +kernel)
set_option maxRecDepth 65536 in
theorem w_c1 : (Jvm.Cond.code ({ cls := "PivotSheet", name := "<init>", desc := "(II)V" } : Jvm.MethodName) prog_1_method_1_code (5 : Nat) (Option.none : Option Jvm.ClassFile.FieldType)).before args0 about1 = true := code_word (m := ⟨2, 0⟩) (meth := k2m0) (c := k2c0) (by decide +kernel) rfl rfl rfl (by decide +kernel)
set_option maxRecDepth 65536 in
theorem w_c2 : (Jvm.Cond.code ({ cls := "java/lang/Object", name := "<init>", desc := "()V" } : Jvm.MethodName) object_method_1_code (1 : Nat) (Option.none : Option Jvm.ClassFile.FieldType)).before args0 about1 = true := code_word (m := ⟨0, 0⟩) (meth := k0m0) (c := k0c0) (by decide +kernel) rfl rfl rfl (by decide +kernel)
set_option maxRecDepth 65536 in
theorem w_c3 : (Jvm.Cond.code ({ cls := "PivotSheet", name := "setCell", desc := "(III)Z" } : Jvm.MethodName) prog_1_method_2_code (4 : Nat) (Option.some Jvm.ClassFile.FieldType.boolean)).before args0 about1 = true := code_word (m := ⟨2, 1⟩) (meth := k2m1) (c := k2c1) (by decide +kernel) rfl rfl rfl (by decide +kernel)
set_option maxRecDepth 65536 in
theorem w_c4 : (Jvm.Cond.code ({ cls := "PivotSheet", name := "validRow", desc := "(I)Z" } : Jvm.MethodName) prog_1_method_17_code (2 : Nat) (Option.some Jvm.ClassFile.FieldType.boolean)).before args0 about1 = true := code_word (m := ⟨2, 7⟩) (meth := k2m7) (c := k2c7) (by decide +kernel) rfl rfl rfl (by decide +kernel)
set_option maxRecDepth 65536 in
theorem w_c5 : (Jvm.Cond.code ({ cls := "PivotSheet", name := "snapshot", desc := "()V" } : Jvm.MethodName) prog_1_method_26_code (2 : Nat) (Option.none : Option Jvm.ClassFile.FieldType)).before args0 about1 = true := code_word (m := ⟨2, 11⟩) (meth := k2m11) (c := k2c11) (by decide +kernel) rfl rfl rfl (by decide +kernel)
set_option maxRecDepth 65536 in
theorem w_c6 : (Jvm.Cond.code ({ cls := "PivotSheet", name := "evalFormula", desc := "(I)V" } : Jvm.MethodName) prog_1_method_25_code (5 : Nat) (Option.none : Option Jvm.ClassFile.FieldType)).before args0 about1 = true := code_word (m := ⟨2, 10⟩) (meth := k2m10) (c := k2c10) (by decide +kernel) rfl rfl rfl (by decide +kernel)
set_option maxRecDepth 65536 in
theorem w_c7 : (Jvm.Cond.code ({ cls := "PivotSheet", name := "countChanged", desc := "()I" } : Jvm.MethodName) prog_1_method_27_code (4 : Nat) (Option.some Jvm.ClassFile.FieldType.int)).before args0 about1 = true := code_word (m := ⟨2, 12⟩) (meth := k2m12) (c := k2c12) (by decide +kernel) rfl rfl rfl (by decide +kernel)
set_option maxRecDepth 65536 in
theorem w_c8 : (Jvm.Cond.code ({ cls := "PivotSheet", name := "getCell", desc := "(II)I" } : Jvm.MethodName) prog_1_method_4_code (3 : Nat) (Option.some Jvm.ClassFile.FieldType.int)).before args0 about1 = true := code_word (m := ⟨2, 3⟩) (meth := k2m3) (c := k2c3) (by decide +kernel) rfl rfl rfl (by decide +kernel)
set_option maxRecDepth 65536 in
theorem w_c9 : (Jvm.Cond.code ({ cls := "PivotSheet", name := "isFilled", desc := "(I)Z" } : Jvm.MethodName) prog_1_method_5_code (2 : Nat) (Option.some Jvm.ClassFile.FieldType.boolean)).before args0 about1 = true := code_word (m := ⟨2, 4⟩) (meth := k2m4) (c := k2c4) (by decide +kernel) rfl rfl rfl (by decide +kernel)
set_option maxRecDepth 65536 in
theorem w_c10 : (Jvm.Cond.code ({ cls := "PivotSheet", name := "rowKeyCount", desc := "()I" } : Jvm.MethodName) prog_1_method_7_code (1 : Nat) (Option.some Jvm.ClassFile.FieldType.int)).before args0 about1 = true := code_word (m := ⟨2, 5⟩) (meth := k2m5) (c := k2c5) (by decide +kernel) rfl rfl rfl (by decide +kernel)
set_option maxRecDepth 65536 in
theorem w_c11 : (Jvm.Cond.code ({ cls := "PivotSheet", name := "buildKeys", desc := "(II)I" } : Jvm.MethodName) prog_1_method_20_code (5 : Nat) (Option.some Jvm.ClassFile.FieldType.int)).before args0 about1 = true := code_word (m := ⟨2, 8⟩) (meth := k2m8) (c := k2c8) (by decide +kernel) rfl rfl rfl (by decide +kernel)
set_option maxRecDepth 65536 in
theorem w_c12 : (Jvm.Cond.code ({ cls := "PivotSheet", name := "insertKey", desc := "(III)I" } : Jvm.MethodName) prog_1_method_21_code (6 : Nat) (Option.some Jvm.ClassFile.FieldType.int)).before args0 about1 = true := code_word (m := ⟨2, 9⟩) (meth := k2m9) (c := k2c9) (by decide +kernel) rfl rfl rfl (by decide +kernel)
set_option maxRecDepth 65536 in
theorem w_c13 : (Jvm.Cond.code ({ cls := "PivotSheet", name := "rowKey", desc := "(I)I" } : Jvm.MethodName) prog_1_method_9_code (3 : Nat) (Option.some Jvm.ClassFile.FieldType.int)).before args0 about1 = true := code_word (m := ⟨2, 6⟩) (meth := k2m6) (c := k2c6) (by decide +kernel) rfl rfl rfl (by decide +kernel)
set_option maxRecDepth 65536 in
theorem w_c14 : (Jvm.Cond.code ({ cls := "PivotSheet", name := "clearRow", desc := "(I)Z" } : Jvm.MethodName) prog_1_method_3_code (3 : Nat) (Option.some Jvm.ClassFile.FieldType.boolean)).before args0 about1 = true := code_word (m := ⟨2, 2⟩) (meth := k2m2) (c := k2c2) (by decide +kernel) rfl rfl rfl (by decide +kernel)
def codes1 : List Jvm.Cond := [Jvm.Cond.code x code maxLocals ret, Jvm.Cond.code ({ cls := "PivotSheet", name := "<init>", desc := "(II)V" } : Jvm.MethodName) prog_1_method_1_code (5 : Nat) (Option.none : Option Jvm.ClassFile.FieldType), Jvm.Cond.code ({ cls := "java/lang/Object", name := "<init>", desc := "()V" } : Jvm.MethodName) object_method_1_code (1 : Nat) (Option.none : Option Jvm.ClassFile.FieldType), Jvm.Cond.code ({ cls := "PivotSheet", name := "setCell", desc := "(III)Z" } : Jvm.MethodName) prog_1_method_2_code (4 : Nat) (Option.some Jvm.ClassFile.FieldType.boolean), Jvm.Cond.code ({ cls := "PivotSheet", name := "validRow", desc := "(I)Z" } : Jvm.MethodName) prog_1_method_17_code (2 : Nat) (Option.some Jvm.ClassFile.FieldType.boolean), Jvm.Cond.code ({ cls := "PivotSheet", name := "snapshot", desc := "()V" } : Jvm.MethodName) prog_1_method_26_code (2 : Nat) (Option.none : Option Jvm.ClassFile.FieldType), Jvm.Cond.code ({ cls := "PivotSheet", name := "evalFormula", desc := "(I)V" } : Jvm.MethodName) prog_1_method_25_code (5 : Nat) (Option.none : Option Jvm.ClassFile.FieldType), Jvm.Cond.code ({ cls := "PivotSheet", name := "countChanged", desc := "()I" } : Jvm.MethodName) prog_1_method_27_code (4 : Nat) (Option.some Jvm.ClassFile.FieldType.int), Jvm.Cond.code ({ cls := "PivotSheet", name := "getCell", desc := "(II)I" } : Jvm.MethodName) prog_1_method_4_code (3 : Nat) (Option.some Jvm.ClassFile.FieldType.int), Jvm.Cond.code ({ cls := "PivotSheet", name := "isFilled", desc := "(I)Z" } : Jvm.MethodName) prog_1_method_5_code (2 : Nat) (Option.some Jvm.ClassFile.FieldType.boolean), Jvm.Cond.code ({ cls := "PivotSheet", name := "rowKeyCount", desc := "()I" } : Jvm.MethodName) prog_1_method_7_code (1 : Nat) (Option.some Jvm.ClassFile.FieldType.int), Jvm.Cond.code ({ cls := "PivotSheet", name := "buildKeys", desc := "(II)I" } : Jvm.MethodName) prog_1_method_20_code (5 : Nat) (Option.some Jvm.ClassFile.FieldType.int), Jvm.Cond.code ({ cls := "PivotSheet", name := "insertKey", desc := "(III)I" } : Jvm.MethodName) prog_1_method_21_code (6 : Nat) (Option.some Jvm.ClassFile.FieldType.int), Jvm.Cond.code ({ cls := "PivotSheet", name := "rowKey", desc := "(I)I" } : Jvm.MethodName) prog_1_method_9_code (3 : Nat) (Option.some Jvm.ClassFile.FieldType.int), Jvm.Cond.code ({ cls := "PivotSheet", name := "clearRow", desc := "(I)Z" } : Jvm.MethodName) prog_1_method_3_code (3 : Nat) (Option.some Jvm.ClassFile.FieldType.boolean)]
set_option maxRecDepth 65536 in
theorem codes_eq : words1.filter isCode = codes1 := rfl
theorem w_codes : ∀ c ∈ words1.filter isCode, c.before args0 about1 = true := by
  rw [codes_eq]
  intro c hc
  simp only [codes1, List.mem_cons, List.not_mem_nil, or_false] at hc
  rcases hc with rfl | rfl | rfl | rfl | rfl | rfl | rfl | rfl | rfl | rfl | rfl | rfl | rfl | rfl | rfl
  · exact w_c0
  · exact w_c1
  · exact w_c2
  · exact w_c3
  · exact w_c4
  · exact w_c5
  · exact w_c6
  · exact w_c7
  · exact w_c8
  · exact w_c9
  · exact w_c10
  · exact w_c11
  · exact w_c12
  · exact w_c13
  · exact w_c14
set_option maxRecDepth 65536 in
theorem w_t1 : (words1.take 24).all (fun c => isCode c || c.before args0 about1) = true := by decide +kernel
set_option maxRecDepth 65536 in
theorem w_t2 : ((words1.drop 24).take 24).all (fun c => isCode c || c.before args0 about1) = true := by decide +kernel
set_option maxRecDepth 65536 in
theorem w_t3 : (((words1.drop 24).drop 24).take 24).all (fun c => isCode c || c.before args0 about1) = true := by decide +kernel
set_option maxRecDepth 65536 in
theorem w_t4 : ((((words1.drop 24).drop 24).drop 24).take 24).all (fun c => isCode c || c.before args0 about1) = true := by decide +kernel
set_option maxRecDepth 65536 in
theorem w_t5 : ((((words1.drop 24).drop 24).drop 24).drop 24).all (fun c => isCode c || c.before args0 about1) = true := by decide +kernel
theorem w_tables : (allAtoms (Jvm.Cond.code x code maxLocals ret :: tables_1)).before args0 about1 = true := by
  rw [allAtoms_all]
  show words1.all (fun c => c.before args0 about1) = true
  refine all_split ?_ w_codes
  rw [← List.take_append_drop 24 words1, List.all_append, w_t1, ← List.take_append_drop 24 (words1.drop 24), List.all_append, w_t2, ← List.take_append_drop 24 ((words1.drop 24).drop 24), List.all_append, w_t3, ← List.take_append_drop 24 (((words1.drop 24).drop 24).drop 24), List.all_append, w_t4, w_t5]
  rfl
set_option maxRecDepth 65536 in
theorem w_case : (Jvm.Cond.and given_1 narrow_1).before args0 about1 = true := by decide +kernel
theorem w_applies : (headSpec (Jvm.Cond.code x code maxLocals ret :: tables_1) room_1).applies x e0.platform about1 = true :=
  (Spec.applies_iff w_frames).mpr ⟨w_running, w_runnable, w_alone, w_named, w_hears, w_ripe, w_room, w_tables⟩
theorem atStart : AtStart classFile x code maxLocals ret World_1 tables_1 room_1 Calls_1 rest_1 Pre_1 launch0 p0 e0 about1 theMethod args0 below0 :=
  ⟨lists_1, trivial, launch0.admits_env _ _ _, launch0.least_env, fairChoices_fair.cas, fairChoices_fair.clock, w_frames, w_args, w_heap, w_applies, trivial, trivial, w_case⟩
end start1
theorem witness_1 : WitnessClaimed_1 := ⟨start1.p0, start1.e0, start1.about1, start1.theMethod, start1.args0, start1.below0, start1.atStart⟩
end Jvm.Pilot.@@N@@
