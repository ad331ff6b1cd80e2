import JvmDerived
import JvmDerived.Pilot.@@N@@Statement
import JvmDerived.Pilot.@@N@@Code
set_option linter.unusedVariables false
set_option linter.unusedSimpArgs false
namespace Jvm.RoadKit
open Sem ClassFile Op Lib Jvm.Stand Jvm.Free Jvm.LawKit
section New
variable {p : Program} {l : Launch} {e : Env} {R : Room} {s : State} {m : MethodId} {args : Array Value} {below : List Frame} {meth : Method} {c : Code} {T : State} {locs : List Loc} {cells slots : Nat}
theorem retI (X : Stand p l e R s m args below meth c T locs cells slots) (hx : p.tables.exec = Jvm.exec) {pc : Nat} {Ls : Array Slot} {z : Int32} {rest : List Value} (hret : meth.sig.returnType = some .int) (hd : decode c.code pc = .ok (.ireturn, 1)) {fs : List Frame}
    (hl : ∀ (f : JFrame) (acts : List Action), f.method = m → f.locked = none → f.entered = [] → (doReturn e (T.setTop f) acts (some (.int z))).1 = T.setFrames fs) : Steps p.tables e below (T.setTop (mkF m pc Ls (.int z :: rest))) (T.setFrames fs) := by
  have hm' : T.vm.method? m = some meth := X.method'
  have hn : narrow .int (.int z) = .int z := rfl
  show Steps p.tables e below (T.setTop { method := m, pc := pc, locals := Ls, stack := _ :: rest, locked := none }) _
  jvm_step X.here [X.here.top, hx, hd, hm', hret, hn]
  first | (intro acts; rw [hl _ acts rfl rfl rfl]) | rw [hl _ _ rfl rfl rfl]
  exact Steps.refl _
end New
end Jvm.RoadKit
namespace Jvm.Pilot.@@N@@
open Jvm Jvm.ClassFile Sem Op Lib Jvm.Free Jvm.Stand Jvm.LawKit Jvm.RoadKit Bundle Jvm.Pilot.@@N@@.Jvm.D
/-! TABLES of this claim: printed by claim.py -/
def k0 : Nat := 0
def cName : String := "WindowFuncEngine"
def cN : Nat := 27
def nF : Nat := 20
def kName (k : Nat) : String := bif Nat.beq k 0 then "WindowFuncEngineL2" else "WindowFuncEngine"
def fNm (k : Nat) : String := (bif Nat.ble 10 k then (bif Nat.ble 15 k then (bif Nat.ble 17 k then (bif Nat.ble 18 k then (bif Nat.ble 19 k then "computed" else "fnArg") else "fn") else (bif Nat.ble 16 k then "endOff" else "endKind")) else (bif Nat.ble 12 k then (bif Nat.ble 13 k then (bif Nat.ble 14 k then "startOff" else "startKind") else "mode") else (bif Nat.ble 11 k then "nulls" else "direction"))) else (bif Nat.ble 5 k then (bif Nat.ble 7 k then (bif Nat.ble 8 k then (bif Nat.ble 9 k then "rows" else "cap") else "sorted") else (bif Nat.ble 6 k then "frameCnt" else "resNull")) else (bif Nat.ble 2 k then (bif Nat.ble 3 k then (bif Nat.ble 4 k then "res" else "flg") else "vals") else (bif Nat.ble 1 k then "keys" else "part"))))
def fDs (k : Nat) : String := (bif Nat.ble 10 k then (bif Nat.ble 15 k then (bif Nat.ble 17 k then (bif Nat.ble 18 k then (bif Nat.ble 19 k then "Z" else "I") else "I") else (bif Nat.ble 16 k then "I" else "I")) else (bif Nat.ble 12 k then (bif Nat.ble 13 k then (bif Nat.ble 14 k then "I" else "I") else "I") else (bif Nat.ble 11 k then "I" else "I"))) else (bif Nat.ble 5 k then (bif Nat.ble 7 k then (bif Nat.ble 8 k then (bif Nat.ble 9 k then "I" else "I") else "[I") else (bif Nat.ble 6 k then "[I" else "[Z")) else (bif Nat.ble 2 k then (bif Nat.ble 3 k then (bif Nat.ble 4 k then "[J" else "[I") else "[I") else (bif Nat.ble 1 k then "[I" else "[I"))))
def fTy (k : Nat) : FieldType := (bif Nat.ble 10 k then (bif Nat.ble 15 k then (bif Nat.ble 17 k then (bif Nat.ble 18 k then (bif Nat.ble 19 k then .boolean else .int) else .int) else (bif Nat.ble 16 k then .int else .int)) else (bif Nat.ble 12 k then (bif Nat.ble 13 k then (bif Nat.ble 14 k then .int else .int) else .int) else (bif Nat.ble 11 k then .int else .int))) else (bif Nat.ble 5 k then (bif Nat.ble 7 k then (bif Nat.ble 8 k then (bif Nat.ble 9 k then .int else .int) else (.array .int)) else (bif Nat.ble 6 k then (.array .int) else (.array .boolean))) else (bif Nat.ble 2 k then (bif Nat.ble 3 k then (bif Nat.ble 4 k then (.array .long) else (.array .int)) else (.array .int)) else (bif Nat.ble 1 k then (.array .int) else (.array .int)))))
def fFin (k : Nat) : Bool := (bif Nat.ble 10 k then (bif Nat.ble 15 k then (bif Nat.ble 17 k then (bif Nat.ble 18 k then (bif Nat.ble 19 k then false else false) else false) else (bif Nat.ble 16 k then false else false)) else (bif Nat.ble 12 k then (bif Nat.ble 13 k then (bif Nat.ble 14 k then false else false) else false) else (bif Nat.ble 11 k then false else false))) else (bif Nat.ble 5 k then (bif Nat.ble 7 k then (bif Nat.ble 8 k then (bif Nat.ble 9 k then false else false) else false) else (bif Nat.ble 6 k then false else false)) else (bif Nat.ble 2 k then (bif Nat.ble 3 k then (bif Nat.ble 4 k then false else false) else false) else (bif Nat.ble 1 k then false else false))))
def cDef : List Value := [.null, .null, .null, .null, .null, .null, .null, .null, .int 0, .int 0, .int 0, .int 0, .int 0, .int 0, .int 0, .int 0, .int 0, .int 0, .int 0, .int 0]
def cK : List Value := []
def pN : Nat := 9
def pTop : Nat := 224
def pK (m : Nat) : Nat := (bif Nat.ble 4 m then (bif Nat.ble 6 m then (bif Nat.ble 7 m then (bif Nat.ble 8 m then 1 else 1) else 1) else (bif Nat.ble 5 m then 1 else 1)) else (bif Nat.ble 2 m then (bif Nat.ble 3 m then 1 else 1) else (bif Nat.ble 1 m then 1 else 0)))
def pNm (m : Nat) : String := (bif Nat.ble 4 m then (bif Nat.ble 6 m then (bif Nat.ble 7 m then (bif Nat.ble 8 m then "getRowField" else "rowCount") else "isComputed") else (bif Nat.ble 5 m then "addRow" else "needsOrder")) else (bif Nat.ble 2 m then (bif Nat.ble 3 m then "compute" else "resetSpec") else (bif Nat.ble 1 m then "<init>" else "law")))
def pDs (m : Nat) : String := (bif Nat.ble 4 m then (bif Nat.ble 6 m then (bif Nat.ble 7 m then (bif Nat.ble 8 m then "(II)I" else "()I") else "()Z") else (bif Nat.ble 5 m then "(IIII)I" else "()Z")) else (bif Nat.ble 2 m then (bif Nat.ble 3 m then "()I" else "()V") else (bif Nat.ble 1 m then "(I)V" else "(IIIII)Z")))
def pName (m : Nat) : MethodName := ⟨kName (pK m), pNm m, pDs m⟩
def pBytes (m : Nat) : ByteArray := (bif Nat.ble 4 m then (bif Nat.ble 6 m then (bif Nat.ble 7 m then (bif Nat.ble 8 m then prog_1_method_17_code else prog_1_method_5_code) else prog_1_method_13_code) else (bif Nat.ble 5 m then prog_1_method_3_code else prog_1_method_12_code)) else (bif Nat.ble 2 m then (bif Nat.ble 3 m then prog_1_method_11_code else prog_1_method_2_code) else (bif Nat.ble 1 m then prog_1_method_1_code else code)))
def pMaxL (m : Nat) : Nat := (bif Nat.ble 4 m then (bif Nat.ble 6 m then (bif Nat.ble 7 m then (bif Nat.ble 8 m then 3 else 1) else 1) else (bif Nat.ble 5 m then 6 else 3)) else (bif Nat.ble 2 m then (bif Nat.ble 3 m then 2 else 1) else (bif Nat.ble 1 m then 3 else 16)))
def pRet (m : Nat) : Option FieldType := (bif Nat.ble 4 m then (bif Nat.ble 6 m then (bif Nat.ble 7 m then (bif Nat.ble 8 m then (some .int) else (some .int)) else (some .boolean)) else (bif Nat.ble 5 m then (some .int) else (some .boolean))) else (bif Nat.ble 2 m then (bif Nat.ble 3 m then (some .int) else none) else (bif Nat.ble 1 m then none else (some .boolean))))
def pNA (m : Nat) : Nat := (bif Nat.ble 4 m then (bif Nat.ble 6 m then (bif Nat.ble 7 m then (bif Nat.ble 8 m then 2 else 0) else 0) else (bif Nat.ble 5 m then 4 else 0)) else (bif Nat.ble 2 m then (bif Nat.ble 3 m then 0 else 0) else (bif Nat.ble 1 m then 1 else 5)))
def pFr (m : Nat) : Nat := (bif Nat.ble 4 m then (bif Nat.ble 6 m then (bif Nat.ble 7 m then (bif Nat.ble 8 m then 0 else 0) else 0) else (bif Nat.ble 5 m then 0 else 0)) else (bif Nat.ble 2 m then (bif Nat.ble 3 m then 1 else 0) else (bif Nat.ble 1 m then 1 else 2)))
def pLo (m : Nat) : Nat := (bif Nat.ble 4 m then (bif Nat.ble 6 m then (bif Nat.ble 7 m then (bif Nat.ble 8 m then 0 else 0) else 0) else (bif Nat.ble 5 m then 0 else 0)) else (bif Nat.ble 2 m then (bif Nat.ble 3 m then 14 else 0) else (bif Nat.ble 1 m then 12 else 27)))
def cd0 (pc : Nat) : Option (Instr × Nat) := (bif Nat.ble 108 pc then (bif Nat.ble 165 pc then (bif Nat.ble 194 pc then (bif Nat.ble 211 pc then (bif Nat.ble 218 pc then (bif Nat.ble 222 pc then (bif Nat.ble 223 pc then (bif Nat.beq pc 223 then some (.ireturn, 0) else none) else (bif Nat.beq pc 222 then some (.iconst 0, 0) else none)) else (bif Nat.ble 219 pc then (bif Nat.beq pc 219 then some (.goto 4, 223) else none) else (bif Nat.beq pc 218 then some (.iconst 1, 0) else none))) else (bif Nat.ble 213 pc then (bif Nat.ble 215 pc then (bif Nat.beq pc 215 then some (.if_icmp .ne 7, 222) else none) else (bif Nat.beq pc 213 then some (.iload 4, 0) else none)) else (bif Nat.beq pc 211 then some (.iload 12, 0) else none))) else (bif Nat.ble 201 pc then (bif Nat.ble 206 pc then (bif Nat.ble 208 pc then (bif Nat.beq pc 208 then some (.if_icmp .ne 14, 222) else none) else (bif Nat.beq pc 206 then some (.iload 15, 0) else none)) else (bif Nat.ble 204 pc then (bif Nat.beq pc 204 then some (.iload 11, 0) else none) else (bif Nat.beq pc 201 then some (.if_icmp .ne 21, 222) else none))) else (bif Nat.ble 197 pc then (bif Nat.ble 199 pc then (bif Nat.beq pc 199 then some (.iload 14, 0) else none) else (bif Nat.beq pc 197 then some (.iload 10, 0) else none)) else (bif Nat.beq pc 194 then some (.if_icmp .ne 28, 222) else none)))) else (bif Nat.ble 180 pc then (bif Nat.ble 187 pc then (bif Nat.ble 191 pc then (bif Nat.ble 193 pc then (bif Nat.beq pc 193 then some (.iload_n 1, 0) else none) else (bif Nat.beq pc 191 then some (.iload 9, 0) else none)) else (bif Nat.ble 188 pc then (bif Nat.beq pc 188 then some (.if_icmp .ne 34, 222) else none) else (bif Nat.beq pc 187 then some (.iconst 1, 0) else none))) else (bif Nat.ble 182 pc then (bif Nat.ble 185 pc then (bif Nat.beq pc 185 then some (.iload 8, 0) else none) else (bif Nat.beq pc 182 then some (.ifCond .ne 40, 222) else none)) else (bif Nat.beq pc 180 then some (.iload 7, 0) else none))) else (bif Nat.ble 172 pc then (bif Nat.ble 175 pc then (bif Nat.ble 177 pc then (bif Nat.beq pc 177 then some (.ifCond .ne 45, 222) else none) else (bif Nat.beq pc 175 then some (.iload 6, 0) else none)) else (bif Nat.ble 173 pc then (bif Nat.beq pc 173 then some (.istore 15, 0) else none) else (bif Nat.beq pc 172 then some (.iload_n 3, 0) else none))) else (bif Nat.ble 168 pc then (bif Nat.ble 169 pc then (bif Nat.beq pc 169 then some (.goto 4, 173) else none) else (bif Nat.beq pc 168 then some (.iconst 0, 0) else none)) else (bif Nat.beq pc 165 then some (.ifCond .eq 7, 172) else none))))) else (bif Nat.ble 142 pc then (bif Nat.ble 154 pc then (bif Nat.ble 159 pc then (bif Nat.ble 163 pc then (bif Nat.ble 164 pc then (bif Nat.beq pc 164 then some (.iand, 0) else none) else (bif Nat.beq pc 163 then some (.iconst 2, 0) else none)) else (bif Nat.ble 161 pc then (bif Nat.beq pc 161 then some (.iload 4, 0) else none) else (bif Nat.beq pc 159 then some (.istore 14, 0) else none))) else (bif Nat.ble 155 pc then (bif Nat.ble 158 pc then (bif Nat.beq pc 158 then some (.iload_n 2, 0) else none) else (bif Nat.beq pc 155 then some (.goto 4, 159) else none)) else (bif Nat.beq pc 154 then some (.iconst 0, 0) else none))) else (bif Nat.ble 147 pc then (bif Nat.ble 150 pc then (bif Nat.ble 151 pc then (bif Nat.beq pc 151 then some (.ifCond .eq 7, 158) else none) else (bif Nat.beq pc 150 then some (.iand, 0) else none)) else (bif Nat.ble 149 pc then (bif Nat.beq pc 149 then some (.iconst 1, 0) else none) else (bif Nat.beq pc 147 then some (.iload 4, 0) else none))) else (bif Nat.ble 145 pc then (bif Nat.ble 146 pc then (bif Nat.beq pc 146 then some (.ireturn, 0) else none) else (bif Nat.beq pc 145 then some (.iconst 0, 0) else none)) else (bif Nat.beq pc 142 then some (.goto 4, 146) else none)))) else (bif Nat.ble 126 pc then (bif Nat.ble 133 pc then (bif Nat.ble 138 pc then (bif Nat.ble 141 pc then (bif Nat.beq pc 141 then some (.iconst 1, 0) else none) else (bif Nat.beq pc 138 then some (.ifCond .ne 7, 145) else none)) else (bif Nat.ble 136 pc then (bif Nat.beq pc 136 then some (.iload 12, 0) else none) else (bif Nat.beq pc 133 then some (.ifCond .ne 12, 145) else none))) else (bif Nat.ble 128 pc then (bif Nat.ble 131 pc then (bif Nat.beq pc 131 then some (.iload 11, 0) else none) else (bif Nat.beq pc 128 then some (.ifCond .ne 17, 145) else none)) else (bif Nat.beq pc 126 then some (.iload 10, 0) else none))) else (bif Nat.ble 116 pc then (bif Nat.ble 121 pc then (bif Nat.ble 123 pc then (bif Nat.beq pc 123 then some (.ifCond .ne 22, 145) else none) else (bif Nat.beq pc 121 then some (.iload 9, 0) else none)) else (bif Nat.ble 118 pc then (bif Nat.beq pc 118 then some (.ifCond .ne 27, 145) else none) else (bif Nat.beq pc 116 then some (.iload 8, 0) else none))) else (bif Nat.ble 111 pc then (bif Nat.ble 113 pc then (bif Nat.beq pc 113 then some (.ifCond .eq 32, 145) else none) else (bif Nat.beq pc 111 then some (.iload 7, 0) else none)) else (bif Nat.beq pc 108 then some (.if_icmp .ne 37, 145) else none)))))) else (bif Nat.ble 55 pc then (bif Nat.ble 80 pc then (bif Nat.ble 94 pc then (bif Nat.ble 100 pc then (bif Nat.ble 105 pc then (bif Nat.ble 107 pc then (bif Nat.beq pc 107 then some (.iconst (-1), 0) else none) else (bif Nat.beq pc 105 then some (.iload 6, 0) else none)) else (bif Nat.ble 102 pc then (bif Nat.beq pc 102 then some (.ifCond .ne 45, 147) else none) else (bif Nat.beq pc 100 then some (.iload 13, 0) else none))) else (bif Nat.ble 97 pc then (bif Nat.ble 98 pc then (bif Nat.beq pc 98 then some (.istore 13, 0) else none) else (bif Nat.beq pc 97 then some (.iconst 0, 0) else none)) else (bif Nat.beq pc 94 then some (.goto 4, 98) else none))) else (bif Nat.ble 87 pc then (bif Nat.ble 90 pc then (bif Nat.ble 93 pc then (bif Nat.beq pc 93 then some (.iconst 1, 0) else none) else (bif Nat.beq pc 90 then some (.if_icmp .gt 7, 97) else none)) else (bif Nat.ble 89 pc then (bif Nat.beq pc 89 then some (.iconst 3, 0) else none) else (bif Nat.beq pc 87 then some (.iload 4, 0) else none))) else (bif Nat.ble 82 pc then (bif Nat.ble 84 pc then (bif Nat.beq pc 84 then some (.ifCond .lt 13, 97) else none) else (bif Nat.beq pc 82 then some (.iload 4, 0) else none)) else (bif Nat.beq pc 80 then some (.istore 12, 0) else none)))) else (bif Nat.ble 67 pc then (bif Nat.ble 73 pc then (bif Nat.ble 76 pc then (bif Nat.ble 77 pc then (bif Nat.beq pc 77 then some (.invokevirtual 27, 8) else none) else (bif Nat.beq pc 76 then some (.iconst 3, 0) else none)) else (bif Nat.ble 75 pc then (bif Nat.beq pc 75 then some (.iconst 0, 0) else none) else (bif Nat.beq pc 73 then some (.aload 5, 0) else none))) else (bif Nat.ble 68 pc then (bif Nat.ble 71 pc then (bif Nat.beq pc 71 then some (.istore 11, 0) else none) else (bif Nat.beq pc 68 then some (.invokevirtual 27, 8) else none)) else (bif Nat.beq pc 67 then some (.iconst 2, 0) else none))) else (bif Nat.ble 59 pc then (bif Nat.ble 64 pc then (bif Nat.ble 66 pc then (bif Nat.beq pc 66 then some (.iconst 0, 0) else none) else (bif Nat.beq pc 64 then some (.aload 5, 0) else none)) else (bif Nat.ble 62 pc then (bif Nat.beq pc 62 then some (.istore 10, 0) else none) else (bif Nat.beq pc 59 then some (.invokevirtual 27, 8) else none))) else (bif Nat.ble 57 pc then (bif Nat.ble 58 pc then (bif Nat.beq pc 58 then some (.iconst 1, 0) else none) else (bif Nat.beq pc 57 then some (.iconst 0, 0) else none)) else (bif Nat.beq pc 55 then some (.aload 5, 0) else none))))) else (bif Nat.ble 25 pc then (bif Nat.ble 41 pc then (bif Nat.ble 48 pc then (bif Nat.ble 50 pc then (bif Nat.ble 53 pc then (bif Nat.beq pc 53 then some (.istore 9, 0) else none) else (bif Nat.beq pc 50 then some (.invokevirtual 27, 8) else none)) else (bif Nat.ble 49 pc then (bif Nat.beq pc 49 then some (.iconst 0, 0) else none) else (bif Nat.beq pc 48 then some (.iconst 0, 0) else none))) else (bif Nat.ble 44 pc then (bif Nat.ble 46 pc then (bif Nat.beq pc 46 then some (.aload 5, 0) else none) else (bif Nat.beq pc 44 then some (.istore 8, 0) else none)) else (bif Nat.beq pc 41 then some (.invokevirtual 24, 7) else none))) else (bif Nat.ble 32 pc then (bif Nat.ble 37 pc then (bif Nat.ble 39 pc then (bif Nat.beq pc 39 then some (.aload 5, 0) else none) else (bif Nat.beq pc 37 then some (.istore 7, 0) else none)) else (bif Nat.ble 34 pc then (bif Nat.beq pc 34 then some (.invokevirtual 20, 6) else none) else (bif Nat.beq pc 32 then some (.aload 5, 0) else none))) else (bif Nat.ble 27 pc then (bif Nat.ble 30 pc then (bif Nat.beq pc 30 then some (.istore 6, 0) else none) else (bif Nat.beq pc 27 then some (.invokevirtual 16, 5) else none)) else (bif Nat.beq pc 25 then some (.iload 4, 0) else none)))) else (bif Nat.ble 15 pc then (bif Nat.ble 20 pc then (bif Nat.ble 23 pc then (bif Nat.ble 24 pc then (bif Nat.beq pc 24 then some (.iload_n 3, 0) else none) else (bif Nat.beq pc 23 then some (.iload_n 2, 0) else none)) else (bif Nat.ble 22 pc then (bif Nat.beq pc 22 then some (.iload_n 1, 0) else none) else (bif Nat.beq pc 20 then some (.aload 5, 0) else none))) else (bif Nat.ble 18 pc then (bif Nat.ble 19 pc then (bif Nat.beq pc 19 then some (.ireturn, 0) else none) else (bif Nat.beq pc 18 then some (.iconst 0, 0) else none)) else (bif Nat.beq pc 15 then some (.ifCond .eq 5, 20) else none))) else (bif Nat.ble 5 pc then (bif Nat.ble 10 pc then (bif Nat.ble 12 pc then (bif Nat.beq pc 12 then some (.invokevirtual 12, 3) else none) else (bif Nat.beq pc 10 then some (.aload 5, 0) else none)) else (bif Nat.ble 8 pc then (bif Nat.beq pc 8 then some (.astore 5, 0) else none) else (bif Nat.beq pc 5 then some (.invokespecial 9, 1) else none))) else (bif Nat.ble 3 pc then (bif Nat.ble 4 pc then (bif Nat.beq pc 4 then some (.iload_n 0, 0) else none) else (bif Nat.beq pc 3 then some (.dup, 0) else none)) else (bif Nat.beq pc 0 then some (.new 7, 0) else none)))))))
def cd1 (pc : Nat) : Option (Instr × Nat) := (bif Nat.ble 57 pc then (bif Nat.ble 82 pc then (bif Nat.ble 94 pc then (bif Nat.ble 102 pc then (bif Nat.ble 104 pc then (bif Nat.ble 107 pc then (bif Nat.beq pc 107 then some (.return_, 0) else none) else (bif Nat.beq pc 104 then some (.putfield 46, 19) else none)) else (bif Nat.ble 103 pc then (bif Nat.beq pc 103 then some (.iconst 0, 0) else none) else (bif Nat.beq pc 102 then some (.aload_n 0, 0) else none))) else (bif Nat.ble 98 pc then (bif Nat.ble 99 pc then (bif Nat.beq pc 99 then some (.invokevirtual 43, 2) else none) else (bif Nat.beq pc 98 then some (.aload_n 0, 0) else none)) else (bif Nat.ble 95 pc then (bif Nat.beq pc 95 then some (.putfield 40, 9) else none) else (bif Nat.beq pc 94 then some (.iconst 0, 0) else none)))) else (bif Nat.ble 88 pc then (bif Nat.ble 90 pc then (bif Nat.ble 93 pc then (bif Nat.beq pc 93 then some (.aload_n 0, 0) else none) else (bif Nat.beq pc 90 then some (.putfield 36, 8) else none)) else (bif Nat.ble 89 pc then (bif Nat.beq pc 89 then some (.iload_n 2, 0) else none) else (bif Nat.beq pc 88 then some (.aload_n 0, 0) else none))) else (bif Nat.ble 85 pc then (bif Nat.ble 87 pc then (bif Nat.beq pc 87 then some (.istore_n 2, 0) else none) else (bif Nat.beq pc 85 then some (.bipush 32, 0) else none)) else (bif Nat.beq pc 82 then some (.if_icmp .le 6, 88) else none)))) else (bif Nat.ble 70 pc then (bif Nat.ble 76 pc then (bif Nat.ble 79 pc then (bif Nat.ble 80 pc then (bif Nat.beq pc 80 then some (.bipush 32, 0) else none) else (bif Nat.beq pc 79 then some (.iload_n 2, 0) else none)) else (bif Nat.ble 78 pc then (bif Nat.beq pc 78 then some (.istore_n 2, 0) else none) else (bif Nat.beq pc 76 then some (.bipush 8, 0) else none))) else (bif Nat.ble 71 pc then (bif Nat.ble 73 pc then (bif Nat.beq pc 73 then some (.if_icmp .ge 6, 79) else none) else (bif Nat.beq pc 71 then some (.bipush 8, 0) else none)) else (bif Nat.beq pc 70 then some (.iload_n 2, 0) else none))) else (bif Nat.ble 63 pc then (bif Nat.ble 68 pc then (bif Nat.ble 69 pc then (bif Nat.beq pc 69 then some (.istore_n 2, 0) else none) else (bif Nat.beq pc 68 then some (.iload_n 1, 0) else none)) else (bif Nat.ble 65 pc then (bif Nat.beq pc 65 then some (.putfield 33, 7) else none) else (bif Nat.beq pc 63 then some (.newarray .int, 0) else none))) else (bif Nat.ble 60 pc then (bif Nat.ble 61 pc then (bif Nat.beq pc 61 then some (.bipush 32, 0) else none) else (bif Nat.beq pc 60 then some (.aload_n 0, 0) else none)) else (bif Nat.beq pc 57 then some (.putfield 30, 6) else none))))) else (bif Nat.ble 28 pc then (bif Nat.ble 41 pc then (bif Nat.ble 49 pc then (bif Nat.ble 53 pc then (bif Nat.ble 55 pc then (bif Nat.beq pc 55 then some (.newarray .int, 0) else none) else (bif Nat.beq pc 53 then some (.bipush 32, 0) else none)) else (bif Nat.ble 52 pc then (bif Nat.beq pc 52 then some (.aload_n 0, 0) else none) else (bif Nat.beq pc 49 then some (.putfield 26, 5) else none))) else (bif Nat.ble 45 pc then (bif Nat.ble 47 pc then (bif Nat.beq pc 47 then some (.newarray .boolean, 0) else none) else (bif Nat.beq pc 45 then some (.bipush 32, 0) else none)) else (bif Nat.ble 44 pc then (bif Nat.beq pc 44 then some (.aload_n 0, 0) else none) else (bif Nat.beq pc 41 then some (.putfield 22, 4) else none)))) else (bif Nat.ble 33 pc then (bif Nat.ble 37 pc then (bif Nat.ble 39 pc then (bif Nat.beq pc 39 then some (.newarray .long, 0) else none) else (bif Nat.beq pc 37 then some (.bipush 32, 0) else none)) else (bif Nat.ble 36 pc then (bif Nat.beq pc 36 then some (.aload_n 0, 0) else none) else (bif Nat.beq pc 33 then some (.putfield 19, 3) else none))) else (bif Nat.ble 29 pc then (bif Nat.ble 31 pc then (bif Nat.beq pc 31 then some (.newarray .int, 0) else none) else (bif Nat.beq pc 29 then some (.bipush 32, 0) else none)) else (bif Nat.beq pc 28 then some (.aload_n 0, 0) else none)))) else (bif Nat.ble 13 pc then (bif Nat.ble 20 pc then (bif Nat.ble 23 pc then (bif Nat.ble 25 pc then (bif Nat.beq pc 25 then some (.putfield 16, 2) else none) else (bif Nat.beq pc 23 then some (.newarray .int, 0) else none)) else (bif Nat.ble 21 pc then (bif Nat.beq pc 21 then some (.bipush 32, 0) else none) else (bif Nat.beq pc 20 then some (.aload_n 0, 0) else none))) else (bif Nat.ble 15 pc then (bif Nat.ble 17 pc then (bif Nat.beq pc 17 then some (.putfield 13, 1) else none) else (bif Nat.beq pc 15 then some (.newarray .int, 0) else none)) else (bif Nat.beq pc 13 then some (.bipush 32, 0) else none))) else (bif Nat.ble 5 pc then (bif Nat.ble 9 pc then (bif Nat.ble 12 pc then (bif Nat.beq pc 12 then some (.aload_n 0, 0) else none) else (bif Nat.beq pc 9 then some (.putfield 7, 0) else none)) else (bif Nat.ble 7 pc then (bif Nat.beq pc 7 then some (.newarray .int, 0) else none) else (bif Nat.beq pc 5 then some (.bipush 32, 0) else none))) else (bif Nat.ble 1 pc then (bif Nat.ble 4 pc then (bif Nat.beq pc 4 then some (.aload_n 0, 0) else none) else (bif Nat.beq pc 1 then some (.invokespecial 1, 0) else none)) else (bif Nat.beq pc 0 then some (.aload_n 0, 0) else none))))))
def cd2 (pc : Nat) : Option (Instr × Nat) := (bif Nat.ble 22 pc then (bif Nat.ble 35 pc then (bif Nat.ble 40 pc then (bif Nat.ble 42 pc then (bif Nat.ble 45 pc then (bif Nat.beq pc 45 then some (.return_, 0) else none) else (bif Nat.beq pc 42 then some (.putfield 74, 18) else none)) else (bif Nat.ble 41 pc then (bif Nat.beq pc 41 then some (.iconst 0, 0) else none) else (bif Nat.beq pc 40 then some (.aload_n 0, 0) else none))) else (bif Nat.ble 36 pc then (bif Nat.ble 37 pc then (bif Nat.beq pc 37 then some (.putfield 71, 17) else none) else (bif Nat.beq pc 36 then some (.iconst 0, 0) else none)) else (bif Nat.beq pc 35 then some (.aload_n 0, 0) else none))) else (bif Nat.ble 27 pc then (bif Nat.ble 31 pc then (bif Nat.ble 32 pc then (bif Nat.beq pc 32 then some (.putfield 68, 16) else none) else (bif Nat.beq pc 31 then some (.iconst 0, 0) else none)) else (bif Nat.ble 30 pc then (bif Nat.beq pc 30 then some (.aload_n 0, 0) else none) else (bif Nat.beq pc 27 then some (.putfield 65, 15) else none))) else (bif Nat.ble 25 pc then (bif Nat.ble 26 pc then (bif Nat.beq pc 26 then some (.iconst 2, 0) else none) else (bif Nat.beq pc 25 then some (.aload_n 0, 0) else none)) else (bif Nat.beq pc 22 then some (.putfield 62, 14) else none)))) else (bif Nat.ble 11 pc then (bif Nat.ble 16 pc then (bif Nat.ble 20 pc then (bif Nat.ble 21 pc then (bif Nat.beq pc 21 then some (.iconst 0, 0) else none) else (bif Nat.beq pc 20 then some (.aload_n 0, 0) else none)) else (bif Nat.ble 17 pc then (bif Nat.beq pc 17 then some (.putfield 59, 13) else none) else (bif Nat.beq pc 16 then some (.iconst 0, 0) else none))) else (bif Nat.ble 12 pc then (bif Nat.ble 15 pc then (bif Nat.beq pc 15 then some (.aload_n 0, 0) else none) else (bif Nat.beq pc 12 then some (.putfield 56, 12) else none)) else (bif Nat.beq pc 11 then some (.iconst 1, 0) else none))) else (bif Nat.ble 5 pc then (bif Nat.ble 7 pc then (bif Nat.ble 10 pc then (bif Nat.beq pc 10 then some (.aload_n 0, 0) else none) else (bif Nat.beq pc 7 then some (.putfield 53, 11) else none)) else (bif Nat.ble 6 pc then (bif Nat.beq pc 6 then some (.iconst 1, 0) else none) else (bif Nat.beq pc 5 then some (.aload_n 0, 0) else none))) else (bif Nat.ble 1 pc then (bif Nat.ble 2 pc then (bif Nat.beq pc 2 then some (.putfield 50, 10) else none) else (bif Nat.beq pc 1 then some (.iconst 1, 0) else none)) else (bif Nat.beq pc 0 then some (.aload_n 0, 0) else none)))))
def cd3 (pc : Nat) : Option (Instr × Nat) := (bif Nat.ble 16 pc then (bif Nat.ble 30 pc then (bif Nat.ble 32 pc then (bif Nat.ble 35 pc then (bif Nat.ble 36 pc then (bif Nat.beq pc 36 then some (.ireturn, 0) else none) else (bif Nat.beq pc 35 then some (.iconst 0, 0) else none)) else (bif Nat.beq pc 32 then some (.putfield 46, 19) else none)) else (bif Nat.ble 31 pc then (bif Nat.beq pc 31 then some (.iconst 1, 0) else none) else (bif Nat.beq pc 30 then some (.aload_n 0, 0) else none))) else (bif Nat.ble 20 pc then (bif Nat.ble 24 pc then (bif Nat.ble 27 pc then (bif Nat.beq pc 27 then some (.goto (-16), 11) else none) else (bif Nat.beq pc 24 then some (.iinc 1 1, 0) else none)) else (bif Nat.beq pc 20 then some (.iload_n 1, 0) else none)) else (bif Nat.ble 19 pc then (bif Nat.beq pc 19 then some (.aload_n 0, 0) else none) else (bif Nat.beq pc 16 then some (.if_icmp .ge 14, 30) else none)))) else (bif Nat.ble 9 pc then (bif Nat.ble 11 pc then (bif Nat.ble 12 pc then (bif Nat.ble 13 pc then (bif Nat.beq pc 13 then some (.getfield 40, 9) else none) else (bif Nat.beq pc 12 then some (.aload_n 0, 0) else none)) else (bif Nat.beq pc 11 then some (.iload_n 1, 0) else none)) else (bif Nat.ble 10 pc then (bif Nat.beq pc 10 then some (.istore_n 1, 0) else none) else (bif Nat.beq pc 9 then some (.iconst 0, 0) else none))) else (bif Nat.ble 4 pc then (bif Nat.ble 7 pc then (bif Nat.ble 8 pc then (bif Nat.beq pc 8 then some (.ireturn, 0) else none) else (bif Nat.beq pc 7 then some (.iconst (-1), 0) else none)) else (bif Nat.beq pc 4 then some (.ifCond .eq 5, 9) else none)) else (bif Nat.ble 1 pc then (bif Nat.beq pc 1 then some (.invokevirtual 77, 4) else none) else (bif Nat.beq pc 0 then some (.aload_n 0, 0) else none)))))
def cd4 (pc : Nat) : Option (Instr × Nat) := (bif Nat.ble 38 pc then (bif Nat.ble 56 pc then (bif Nat.ble 65 pc then (bif Nat.ble 70 pc then (bif Nat.ble 73 pc then (bif Nat.ble 74 pc then (bif Nat.beq pc 74 then some (.ireturn, 0) else none) else (bif Nat.beq pc 73 then some (.iconst 0, 0) else none)) else (bif Nat.beq pc 70 then some (.goto 4, 74) else none)) else (bif Nat.ble 66 pc then (bif Nat.ble 69 pc then (bif Nat.beq pc 69 then some (.iconst 1, 0) else none) else (bif Nat.beq pc 66 then some (.ifCond .eq 7, 73) else none)) else (bif Nat.beq pc 65 then some (.iload_n 2, 0) else none))) else (bif Nat.ble 60 pc then (bif Nat.ble 61 pc then (bif Nat.ble 62 pc then (bif Nat.beq pc 62 then some (.ifCond .ne 7, 69) else none) else (bif Nat.beq pc 61 then some (.iload_n 1, 0) else none)) else (bif Nat.beq pc 60 then some (.istore_n 2, 0) else none)) else (bif Nat.ble 59 pc then (bif Nat.beq pc 59 then some (.iconst 0, 0) else none) else (bif Nat.beq pc 56 then some (.goto 4, 60) else none)))) else (bif Nat.ble 47 pc then (bif Nat.ble 51 pc then (bif Nat.ble 52 pc then (bif Nat.ble 55 pc then (bif Nat.beq pc 55 then some (.iconst 1, 0) else none) else (bif Nat.beq pc 52 then some (.if_icmp .ne 7, 59) else none)) else (bif Nat.beq pc 51 then some (.iconst 3, 0) else none)) else (bif Nat.ble 48 pc then (bif Nat.beq pc 48 then some (.getfield 65, 15) else none) else (bif Nat.beq pc 47 then some (.aload_n 0, 0) else none))) else (bif Nat.ble 40 pc then (bif Nat.ble 43 pc then (bif Nat.ble 44 pc then (bif Nat.beq pc 44 then some (.if_icmp .eq 11, 55) else none) else (bif Nat.beq pc 43 then some (.iconst 1, 0) else none)) else (bif Nat.beq pc 40 then some (.getfield 65, 15) else none)) else (bif Nat.ble 39 pc then (bif Nat.beq pc 39 then some (.aload_n 0, 0) else none) else (bif Nat.beq pc 38 then some (.istore_n 1, 0) else none))))) else (bif Nat.ble 18 pc then (bif Nat.ble 29 pc then (bif Nat.ble 33 pc then (bif Nat.ble 34 pc then (bif Nat.ble 37 pc then (bif Nat.beq pc 37 then some (.iconst 0, 0) else none) else (bif Nat.beq pc 34 then some (.goto 4, 38) else none)) else (bif Nat.beq pc 33 then some (.iconst 1, 0) else none)) else (bif Nat.ble 30 pc then (bif Nat.beq pc 30 then some (.if_icmp .ne 7, 37) else none) else (bif Nat.beq pc 29 then some (.iconst 3, 0) else none))) else (bif Nat.ble 22 pc then (bif Nat.ble 25 pc then (bif Nat.ble 26 pc then (bif Nat.beq pc 26 then some (.getfield 59, 13) else none) else (bif Nat.beq pc 25 then some (.aload_n 0, 0) else none)) else (bif Nat.beq pc 22 then some (.if_icmp .eq 11, 33) else none)) else (bif Nat.ble 21 pc then (bif Nat.beq pc 21 then some (.iconst 1, 0) else none) else (bif Nat.beq pc 18 then some (.getfield 59, 13) else none)))) else (bif Nat.ble 9 pc then (bif Nat.ble 15 pc then (bif Nat.ble 16 pc then (bif Nat.ble 17 pc then (bif Nat.beq pc 17 then some (.aload_n 0, 0) else none) else (bif Nat.beq pc 16 then some (.ireturn, 0) else none)) else (bif Nat.beq pc 15 then some (.iconst 0, 0) else none)) else (bif Nat.ble 12 pc then (bif Nat.beq pc 12 then some (.ifCond .eq 5, 17) else none) else (bif Nat.beq pc 9 then some (.getfield 50, 10) else none))) else (bif Nat.ble 4 pc then (bif Nat.ble 5 pc then (bif Nat.ble 8 pc then (bif Nat.beq pc 8 then some (.aload_n 0, 0) else none) else (bif Nat.beq pc 5 then some (.if_icmp .ne 10, 15) else none)) else (bif Nat.beq pc 4 then some (.iconst 1, 0) else none)) else (bif Nat.ble 1 pc then (bif Nat.beq pc 1 then some (.getfield 56, 12) else none) else (bif Nat.beq pc 0 then some (.aload_n 0, 0) else none))))))
def cd5 (pc : Nat) : Option (Instr × Nat) := (bif Nat.ble 53 pc then (bif Nat.ble 78 pc then (bif Nat.ble 90 pc then (bif Nat.ble 96 pc then (bif Nat.ble 100 pc then (bif Nat.ble 102 pc then (bif Nat.beq pc 102 then some (.ireturn, 0) else none) else (bif Nat.beq pc 100 then some (.iload 5, 0) else none)) else (bif Nat.ble 97 pc then (bif Nat.beq pc 97 then some (.putfield 46, 19) else none) else (bif Nat.beq pc 96 then some (.iconst 0, 0) else none))) else (bif Nat.ble 92 pc then (bif Nat.ble 95 pc then (bif Nat.beq pc 95 then some (.aload_n 0, 0) else none) else (bif Nat.beq pc 92 then some (.putfield 40, 9) else none)) else (bif Nat.ble 91 pc then (bif Nat.beq pc 91 then some (.iadd, 0) else none) else (bif Nat.beq pc 90 then some (.iconst 1, 0) else none)))) else (bif Nat.ble 84 pc then (bif Nat.ble 87 pc then (bif Nat.ble 88 pc then (bif Nat.beq pc 88 then some (.iload 5, 0) else none) else (bif Nat.beq pc 87 then some (.aload_n 0, 0) else none)) else (bif Nat.ble 86 pc then (bif Nat.beq pc 86 then some (.iastore, 0) else none) else (bif Nat.beq pc 84 then some (.iload 4, 0) else none))) else (bif Nat.ble 79 pc then (bif Nat.ble 82 pc then (bif Nat.beq pc 82 then some (.iload 5, 0) else none) else (bif Nat.beq pc 79 then some (.getfield 19, 3) else none)) else (bif Nat.beq pc 78 then some (.aload_n 0, 0) else none)))) else (bif Nat.ble 65 pc then (bif Nat.ble 72 pc then (bif Nat.ble 76 pc then (bif Nat.ble 77 pc then (bif Nat.beq pc 77 then some (.iastore, 0) else none) else (bif Nat.beq pc 76 then some (.iload_n 3, 0) else none)) else (bif Nat.ble 73 pc then (bif Nat.beq pc 73 then some (.goto 4, 77) else none) else (bif Nat.beq pc 72 then some (.iconst 0, 0) else none))) else (bif Nat.ble 68 pc then (bif Nat.ble 69 pc then (bif Nat.beq pc 69 then some (.ifCond .eq 7, 76) else none) else (bif Nat.beq pc 68 then some (.iand, 0) else none)) else (bif Nat.ble 67 pc then (bif Nat.beq pc 67 then some (.iconst 2, 0) else none) else (bif Nat.beq pc 65 then some (.iload 4, 0) else none)))) else (bif Nat.ble 58 pc then (bif Nat.ble 60 pc then (bif Nat.ble 63 pc then (bif Nat.beq pc 63 then some (.iload 5, 0) else none) else (bif Nat.beq pc 60 then some (.getfield 16, 2) else none)) else (bif Nat.ble 59 pc then (bif Nat.beq pc 59 then some (.aload_n 0, 0) else none) else (bif Nat.beq pc 58 then some (.iastore, 0) else none))) else (bif Nat.ble 54 pc then (bif Nat.ble 57 pc then (bif Nat.beq pc 57 then some (.iload_n 2, 0) else none) else (bif Nat.beq pc 54 then some (.goto 4, 58) else none)) else (bif Nat.beq pc 53 then some (.iconst 0, 0) else none))))) else (bif Nat.ble 26 pc then (bif Nat.ble 39 pc then (bif Nat.ble 46 pc then (bif Nat.ble 49 pc then (bif Nat.ble 50 pc then (bif Nat.beq pc 50 then some (.ifCond .eq 7, 57) else none) else (bif Nat.beq pc 49 then some (.iand, 0) else none)) else (bif Nat.ble 48 pc then (bif Nat.beq pc 48 then some (.iconst 1, 0) else none) else (bif Nat.beq pc 46 then some (.iload 4, 0) else none))) else (bif Nat.ble 41 pc then (bif Nat.ble 44 pc then (bif Nat.beq pc 44 then some (.iload 5, 0) else none) else (bif Nat.beq pc 41 then some (.getfield 13, 1) else none)) else (bif Nat.ble 40 pc then (bif Nat.beq pc 40 then some (.aload_n 0, 0) else none) else (bif Nat.beq pc 39 then some (.iastore, 0) else none)))) else (bif Nat.ble 32 pc then (bif Nat.ble 36 pc then (bif Nat.ble 38 pc then (bif Nat.beq pc 38 then some (.iload_n 1, 0) else none) else (bif Nat.beq pc 36 then some (.iload 5, 0) else none)) else (bif Nat.ble 33 pc then (bif Nat.beq pc 33 then some (.getfield 7, 0) else none) else (bif Nat.beq pc 32 then some (.aload_n 0, 0) else none))) else (bif Nat.ble 27 pc then (bif Nat.ble 30 pc then (bif Nat.beq pc 30 then some (.istore 5, 0) else none) else (bif Nat.beq pc 27 then some (.getfield 40, 9) else none)) else (bif Nat.beq pc 26 then some (.aload_n 0, 0) else none)))) else (bif Nat.ble 13 pc then (bif Nat.ble 18 pc then (bif Nat.ble 24 pc then (bif Nat.ble 25 pc then (bif Nat.beq pc 25 then some (.ireturn, 0) else none) else (bif Nat.beq pc 24 then some (.iconst (-1), 0) else none)) else (bif Nat.ble 21 pc then (bif Nat.beq pc 21 then some (.if_icmp .lt 5, 26) else none) else (bif Nat.beq pc 18 then some (.getfield 36, 8) else none))) else (bif Nat.ble 14 pc then (bif Nat.ble 17 pc then (bif Nat.beq pc 17 then some (.aload_n 0, 0) else none) else (bif Nat.beq pc 14 then some (.getfield 40, 9) else none)) else (bif Nat.beq pc 13 then some (.aload_n 0, 0) else none))) else (bif Nat.ble 7 pc then (bif Nat.ble 11 pc then (bif Nat.ble 12 pc then (bif Nat.beq pc 12 then some (.ireturn, 0) else none) else (bif Nat.beq pc 11 then some (.iconst (-1), 0) else none)) else (bif Nat.ble 8 pc then (bif Nat.beq pc 8 then some (.if_icmp .le 5, 13) else none) else (bif Nat.beq pc 7 then some (.iconst 3, 0) else none))) else (bif Nat.ble 2 pc then (bif Nat.ble 5 pc then (bif Nat.beq pc 5 then some (.iload 4, 0) else none) else (bif Nat.beq pc 2 then some (.ifCond .lt 9, 11) else none)) else (bif Nat.beq pc 0 then some (.iload 4, 0) else none))))))
def cd6 (pc : Nat) : Option (Instr × Nat) := (bif Nat.ble 1 pc then (bif Nat.ble 4 pc then (bif Nat.beq pc 4 then some (.ireturn, 0) else none) else (bif Nat.beq pc 1 then some (.getfield 46, 19) else none)) else (bif Nat.beq pc 0 then some (.aload_n 0, 0) else none))
def cd7 (pc : Nat) : Option (Instr × Nat) := (bif Nat.ble 1 pc then (bif Nat.ble 4 pc then (bif Nat.beq pc 4 then some (.ireturn, 0) else none) else (bif Nat.beq pc 1 then some (.getfield 40, 9) else none)) else (bif Nat.beq pc 0 then some (.aload_n 0, 0) else none))
def cd8 (pc : Nat) : Option (Instr × Nat) := (bif Nat.ble 34 pc then (bif Nat.ble 48 pc then (bif Nat.ble 55 pc then (bif Nat.ble 60 pc then (bif Nat.ble 61 pc then (bif Nat.ble 62 pc then (bif Nat.beq pc 62 then some (.ireturn, 0) else none) else (bif Nat.beq pc 61 then some (.iconst 0, 0) else none)) else (bif Nat.beq pc 60 then some (.ireturn, 0) else none)) else (bif Nat.ble 58 pc then (bif Nat.ble 59 pc then (bif Nat.beq pc 59 then some (.iaload, 0) else none) else (bif Nat.beq pc 58 then some (.iload_n 1, 0) else none)) else (bif Nat.beq pc 55 then some (.getfield 19, 3) else none))) else (bif Nat.ble 50 pc then (bif Nat.ble 51 pc then (bif Nat.ble 54 pc then (bif Nat.beq pc 54 then some (.aload_n 0, 0) else none) else (bif Nat.beq pc 51 then some (.if_icmp .ne 10, 61) else none)) else (bif Nat.beq pc 50 then some (.iconst 3, 0) else none)) else (bif Nat.ble 49 pc then (bif Nat.beq pc 49 then some (.iload_n 2, 0) else none) else (bif Nat.beq pc 48 then some (.ireturn, 0) else none)))) else (bif Nat.ble 39 pc then (bif Nat.ble 43 pc then (bif Nat.ble 46 pc then (bif Nat.ble 47 pc then (bif Nat.beq pc 47 then some (.iaload, 0) else none) else (bif Nat.beq pc 46 then some (.iload_n 1, 0) else none)) else (bif Nat.beq pc 43 then some (.getfield 16, 2) else none)) else (bif Nat.ble 42 pc then (bif Nat.beq pc 42 then some (.aload_n 0, 0) else none) else (bif Nat.beq pc 39 then some (.if_icmp .ne 10, 49) else none))) else (bif Nat.ble 36 pc then (bif Nat.ble 37 pc then (bif Nat.ble 38 pc then (bif Nat.beq pc 38 then some (.iconst 2, 0) else none) else (bif Nat.beq pc 37 then some (.iload_n 2, 0) else none)) else (bif Nat.beq pc 36 then some (.ireturn, 0) else none)) else (bif Nat.ble 35 pc then (bif Nat.beq pc 35 then some (.iaload, 0) else none) else (bif Nat.beq pc 34 then some (.iload_n 1, 0) else none))))) else (bif Nat.ble 18 pc then (bif Nat.ble 25 pc then (bif Nat.ble 27 pc then (bif Nat.ble 30 pc then (bif Nat.ble 31 pc then (bif Nat.beq pc 31 then some (.getfield 13, 1) else none) else (bif Nat.beq pc 30 then some (.aload_n 0, 0) else none)) else (bif Nat.beq pc 27 then some (.if_icmp .ne 10, 37) else none)) else (bif Nat.ble 26 pc then (bif Nat.beq pc 26 then some (.iconst 1, 0) else none) else (bif Nat.beq pc 25 then some (.iload_n 2, 0) else none))) else (bif Nat.ble 22 pc then (bif Nat.ble 23 pc then (bif Nat.ble 24 pc then (bif Nat.beq pc 24 then some (.ireturn, 0) else none) else (bif Nat.beq pc 23 then some (.iaload, 0) else none)) else (bif Nat.beq pc 22 then some (.iload_n 1, 0) else none)) else (bif Nat.ble 19 pc then (bif Nat.beq pc 19 then some (.getfield 7, 0) else none) else (bif Nat.beq pc 18 then some (.aload_n 0, 0) else none)))) else (bif Nat.ble 9 pc then (bif Nat.ble 13 pc then (bif Nat.ble 14 pc then (bif Nat.ble 15 pc then (bif Nat.beq pc 15 then some (.ifCond .ne 10, 25) else none) else (bif Nat.beq pc 14 then some (.iload_n 2, 0) else none)) else (bif Nat.beq pc 13 then some (.ireturn, 0) else none)) else (bif Nat.ble 12 pc then (bif Nat.beq pc 12 then some (.iconst 0, 0) else none) else (bif Nat.beq pc 9 then some (.if_icmp .lt 5, 14) else none))) else (bif Nat.ble 4 pc then (bif Nat.ble 5 pc then (bif Nat.ble 6 pc then (bif Nat.beq pc 6 then some (.getfield 40, 9) else none) else (bif Nat.beq pc 5 then some (.aload_n 0, 0) else none)) else (bif Nat.beq pc 4 then some (.iload_n 1, 0) else none)) else (bif Nat.ble 1 pc then (bif Nat.beq pc 1 then some (.ifCond .lt 11, 12) else none) else (bif Nat.beq pc 0 then some (.iload_n 1, 0) else none))))))
def pCode (m pc : Nat) : Option (Instr × Nat) := bif Nat.ble pN m then none else bif Nat.ble pTop pc then none else (bif Nat.ble 4 m then (bif Nat.ble 6 m then (bif Nat.ble 7 m then (bif Nat.ble 8 m then cd8 pc else cd7 pc) else cd6 pc) else (bif Nat.ble 5 m then cd5 pc else cd4 pc)) else (bif Nat.ble 2 m then (bif Nat.ble 3 m then cd3 pc else cd2 pc) else (bif Nat.ble 1 m then cd1 pc else cd0 pc)))
def lkF : List (Nat × Nat × Nat) := [(1, 7, 0), (1, 13, 1), (1, 16, 2), (1, 19, 3), (1, 22, 4), (1, 26, 5), (1, 30, 6), (1, 33, 7), (1, 36, 8), (1, 40, 9), (1, 50, 10), (1, 53, 11), (1, 56, 12), (1, 59, 13), (1, 62, 14), (1, 65, 15), (1, 68, 16), (1, 71, 17), (1, 74, 18), (1, 46, 19)]
def lkN : List (Nat × Nat) := [(0, 7)]
def lkC : List (Nat × Nat × Nat) := []
def lkD : List (Nat × Nat × Nat) := []
def lkV : List (Nat × Nat × Nat) := [(0, 9, 1), (1, 43, 2), (0, 12, 3), (1, 77, 4), (0, 16, 5), (0, 20, 6), (0, 24, 7), (0, 27, 8)]
def lkO : List (Nat × Nat) := [(1, 1)]
def mV : List Nat := [3, 5, 6, 7, 8]
def mP : List Nat := [2, 4]
def mS : List Nat := []
def mI : List Nat := [1]
def mA : List Nat := [1, 2, 3, 4, 5, 6, 7, 8]
def aTys : List FieldType := [.int, .long, .boolean]
/-! ENGINE: abstract cells, locals, one-step function, and what a triple says of the model. -/
abbrev QCell := List Value ⊕ ((FieldType × List Int32) ⊕ List Int64)
abbrev QHeap := List QCell
abbrev QLoc := List (Option Value)
abbrev QSt := Nat × QLoc × List Value × QHeap
def qv (ad : Nat → Addr) : Value → Value
  | .ref k => .ref (ad k)
  | v => v
def qsz : QCell → Nat
  | .inl _ => cN
  | .inr (.inl x) => x.2.length
  | .inr (.inr x) => x.length
def qhs : QHeap → Nat
  | [] => 0
  | c :: t => qsz c + qhs t
def aget {α : Type} (xs : List α) (j : Int32) : Option α := if j < 0 then none else xs[j.toNatClampNeg]?
def aset {α : Type} (xs : List α) (j : Int32) (v : α) : Option (List α) := if j < 0 then none else if j.toNatClampNeg < xs.length then some (xs.set j.toNatClampNeg v) else none
def qnew (n : Int32) : Option Nat := if n < 0 then none else if n.toNatClampNeg ≤ 67108864 then some n.toNatClampNeg else none
def qdiv (x y : Int32) : Option Int32 := if y = 0 then none else some (x / y)
def qrem (x y : Int32) : Option Int32 := if y = 0 then none else some (x % y)
def qboo (x : Int32) : Option Int32 := if x = 0 then some x else if x = 1 then some x else none
def lget : QLoc → Nat → Option Value
  | [], _ => none
  | v :: _, 0 => v
  | _ :: t, k + 1 => lget t k
def hget : QHeap → Nat → Option QCell
  | [], _ => none
  | v :: _, 0 => some v
  | _ :: t, k + 1 => hget t k
def vget : List Value → Nat → Option Value
  | [], _ => none
  | v :: _, 0 => some v
  | _ :: t, k + 1 => vget t k
def lkill (L : QLoc) : Nat → QLoc
  | 0 => L
  | k + 1 => match lget L k with
    | some (.long _) => L.set k none
    | some (.double _) => L.set k none
    | _ => L
def lput (L : QLoc) (k : Nat) (v : Value) : Option QLoc :=
  match v with
  | .long x => bif Nat.ble (k + 2) L.length then some (((lkill L k).set k (some (.long x))).set (k + 1) none) else none
  | .double _ => none
  | v => bif Nat.ble (k + 1) L.length then some ((lkill L k).set k (some v)) else none
/-- push what a local holds, if it is of the kind -/
def qload (pc : Nat) (L : QLoc) (S : List Value) (σ : QHeap) (k : Nat) (ok : Value → Bool) : Option QSt :=
  match lget L k with
  | some v => bif ok v then some (pc, L, v :: S, σ) else none
  | none => none
def isI : Value → Bool | .int _ => true | _ => false
def isJ : Value → Bool | .long _ => true | _ => false
def isR : Value → Bool | .ref _ => true | _ => false
def qstore (pc : Nat) (L : QLoc) (S : List Value) (σ : QHeap) (k : Nat) (ok : Value → Bool) : Option QSt :=
  match S with
  | v :: S' => bif ok v then (match lput L k v with | some L' => some (pc, L', S', σ) | none => none) else none
  | [] => none
def qbin (pc : Nat) (L : QLoc) (S : List Value) (σ : QHeap) (f : Int32 → Int32 → Int32) : Option QSt :=
  match S with
  | .int y :: .int x :: S' => some (pc, L, .int (f x y) :: S', σ)
  | _ => none
def qbino (pc : Nat) (L : QLoc) (S : List Value) (σ : QHeap) (f : Int32 → Int32 → Option Int32) : Option QSt :=
  match S with
  | .int y :: .int x :: S' => (f x y).bind fun z => some (pc, L, .int z :: S', σ)
  | _ => none
def qbinJ (pc : Nat) (L : QLoc) (S : List Value) (σ : QHeap) (f : Int64 → Int64 → Int64) : Option QSt :=
  match S with
  | .long y :: .long x :: S' => some (pc, L, .long (f x y) :: S', σ)
  | _ => none
def qshJ (pc : Nat) (L : QLoc) (S : List Value) (σ : QHeap) (f : Int64 → Int32 → Int64) : Option QSt :=
  match S with
  | .int y :: .long x :: S' => some (pc, L, .long (f x y) :: S', σ)
  | _ => none
def quni (pc : Nat) (L : QLoc) (S : List Value) (σ : QHeap) (f : Int32 → Value) : Option QSt :=
  match S with
  | .int x :: S' => some (pc, L, f x :: S', σ)
  | _ => none
def quniJ (pc : Nat) (L : QLoc) (S : List Value) (σ : QHeap) (f : Int64 → Value) : Option QSt :=
  match S with
  | .long x :: S' => some (pc, L, f x :: S', σ)
  | _ => none
def qald (pc : Nat) (L : QLoc) (S : List Value) (σ : QHeap) (ok : FieldType → Bool) : Option QSt :=
  match S with
  | .int j :: .ref a :: S' => (match hget σ a with
    | some (.inr (.inl x)) => bif ok x.1 then (aget x.2 j).bind fun v => some (pc, L, .int v :: S', σ) else none
    | _ => none)
  | _ => none
def qaldJ (pc : Nat) (L : QLoc) (S : List Value) (σ : QHeap) : Option QSt :=
  match S with
  | .int j :: .ref a :: S' => (match hget σ a with
    | some (.inr (.inr x)) => (aget x j).bind fun v => some (pc, L, .long v :: S', σ)
    | _ => none)
  | _ => none
def qnar : FieldType → Int32 → Int32
  | .boolean, x => x &&& 1
  | .byte, x => x.toInt8.toInt32
  | _, x => x
def qast (pc : Nat) (L : QLoc) (S : List Value) (σ : QHeap) (ok : FieldType → Bool) : Option QSt :=
  match S with
  | .int v :: .int j :: .ref a :: S' => (match hget σ a with
    | some (.inr (.inl x)) => bif ok x.1 && Nat.ble k0 a then (aset x.2 j (qnar x.1 v)).bind fun y => some (pc, L, S', σ.set a (.inr (.inl (x.1, y)))) else none
    | _ => none)
  | _ => none
def qastJ (pc : Nat) (L : QLoc) (S : List Value) (σ : QHeap) : Option QSt :=
  match S with
  | .long v :: .int j :: .ref a :: S' => (match hget σ a with
    | some (.inr (.inr x)) => bif Nat.ble k0 a then (aset x j v).bind fun y => some (pc, L, S', σ.set a (.inr (.inr y))) else none
    | _ => none)
  | _ => none
def tyI : FieldType → Bool | .int => true | _ => false
def tyB : FieldType → Bool | .boolean => true | .byte => true | _ => false
/-- what a value becomes in a field of the type (none: it doesn't fit) -/
def qfit : FieldType → Value → Option Value
  | .int, .int x => some (.int x)
  | .boolean, .int x => (qboo x).bind fun y => some (.int y)
  | .long, .long x => some (.long x)
  | .array t, .ref a => some (.ref a)
  | _, _ => none
def qget (pc : Nat) (L : QLoc) (S : List Value) (σ : QHeap) (k : Nat) : Option QSt :=
  match S with
  | .ref a :: S' => (match hget σ a with
    | some (.inl vs) => (match vget vs k with | some v => some (pc, L, v :: S', σ) | none => none)
    | _ => none)
  | _ => none
def qput (pc : Nat) (L : QLoc) (S : List Value) (σ : QHeap) (k : Nat) : Option QSt :=
  match S with
  | v :: .ref a :: S' => (match hget σ a with
    | some (.inl vs) => bif Nat.ble k0 a && Nat.ble (k + 1) vs.length then (qfit (fTy k) v).bind fun w => some (pc, L, S', σ.set a (.inl (vs.set k w))) else none
    | _ => none)
  | _ => none
def qnewA (pc : Nat) (L : QLoc) (S : List Value) (σ : QHeap) (t : ArrayType) : Option QSt :=
  match S with
  | .int n :: S' => (match t with
    | .int => (qnew n).bind fun k => some (pc, L, .ref σ.length :: S', σ ++ [.inr (.inl (.int, List.replicate k 0))])
    | .boolean => (qnew n).bind fun k => some (pc, L, .ref σ.length :: S', σ ++ [.inr (.inl (.boolean, List.replicate k 0))])
    | .byte => (qnew n).bind fun k => some (pc, L, .ref σ.length :: S', σ ++ [.inr (.inl (.byte, List.replicate k 0))])
    | .long => (qnew n).bind fun k => some (pc, L, .ref σ.length :: S', σ ++ [.inr (.inr (List.replicate k 0))])
    | _ => none)
  | _ => none
def qlen (pc : Nat) (L : QLoc) (S : List Value) (σ : QHeap) : Option QSt :=
  match S with
  | .ref a :: S' => (match hget σ a with
    | some (.inr (.inl x)) => some (pc, L, .int x.2.length.toInt32 :: S', σ)
    | some (.inr (.inr x)) => some (pc, L, .int x.length.toInt32 :: S', σ)
    | _ => none)
  | _ => none
def qdup (pc : Nat) (L : QLoc) (S : List Value) (σ : QHeap) : Option QSt :=
  match S with
  | .int x :: S' => some (pc, L, .int x :: .int x :: S', σ)
  | .ref x :: S' => some (pc, L, .ref x :: .ref x :: S', σ)
  | _ => none
def qdup2 (pc : Nat) (L : QLoc) (S : List Value) (σ : QHeap) : Option QSt :=
  match S with
  | .int x :: .ref y :: S' => some (pc, L, .int x :: .ref y :: .int x :: .ref y :: S', σ)
  | .int x :: .int y :: S' => some (pc, L, .int x :: .int y :: .int x :: .int y :: S', σ)
  | .long x :: S' => some (pc, L, .long x :: .long x :: S', σ)
  | _ => none
def qpop (pc : Nat) (L : QLoc) (S : List Value) (σ : QHeap) : Option QSt :=
  match S with
  | .int _ :: S' => some (pc, L, S', σ)
  | .ref _ :: S' => some (pc, L, S', σ)
  | _ => none
def qif (pc : Nat) (L : QLoc) (S : List Value) (σ : QHeap) (cd : ClassFile.Cond) (tgt : Nat) : Option QSt :=
  match S with
  | .int x :: S' => some (bif ifCond.holds cd x then tgt else pc, L, S', σ)
  | _ => none
def qicmp (pc : Nat) (L : QLoc) (S : List Value) (σ : QHeap) (cd : ClassFile.Cond) (tgt : Nat) : Option QSt :=
  match S with
  | .int y :: .int x :: S' => some (bif if_icmp.holds cd x y then tgt else pc, L, S', σ)
  | _ => none
def qinc (pc : Nat) (L : QLoc) (S : List Value) (σ : QHeap) (k : Nat) (i : Int) : Option QSt :=
  match lget L k with
  | some (.int x) => (match lput L k (.int (x + Int32.ofInt i)) with | some L' => some (pc, L', S, σ) | none => none)
  | _ => none
def qldc (pc : Nat) (L : QLoc) (S : List Value) (σ : QHeap) (k : Nat) : Option QSt :=
  match vget cK k with
  | some v => some (pc, L, v :: S, σ)
  | none => none
def qexec (pc : Nat) (L : QLoc) (S : List Value) (σ : QHeap) (aux : Nat) : Instr → Option QSt
  | .aload_n k => qload (pc + 1) L S σ k.val isR
  | .aload k => qload (pc + 2) L S σ k isR
  | .iload_n k => qload (pc + 1) L S σ k.val isI
  | .iload k => qload (pc + 2) L S σ k isI
  | .lload_n k => qload (pc + 1) L S σ k.val isJ
  | .lload k => qload (pc + 2) L S σ k isJ
  | .iconst i => some (pc + 1, L, .int (Int32.ofInt i) :: S, σ)
  | .bipush i => some (pc + 2, L, .int (Int8.ofInt i).toInt32 :: S, σ)
  | .sipush i => some (pc + 3, L, .int (Int16.ofInt i).toInt32 :: S, σ)
  | .lconst k => some (pc + 1, L, .long (Int64.ofNat k.val) :: S, σ)
  | .ldc _ => qldc (pc + 2) L S σ aux
  | .ldc2_w _ => qldc (pc + 3) L S σ aux
  | .istore_n k => qstore (pc + 1) L S σ k.val isI
  | .istore k => qstore (pc + 2) L S σ k isI
  | .lstore_n k => qstore (pc + 1) L S σ k.val isJ
  | .lstore k => qstore (pc + 2) L S σ k isJ
  | .astore_n k => qstore (pc + 1) L S σ k.val isR
  | .astore k => qstore (pc + 2) L S σ k isR
  | .iinc k i => qinc (pc + 3) L S σ k i
  | .iadd => qbin (pc + 1) L S σ fun x y => x + y
  | .isub => qbin (pc + 1) L S σ fun x y => x - y
  | .imul => qbin (pc + 1) L S σ fun x y => x * y
  | .iand => qbin (pc + 1) L S σ fun x y => x &&& y
  | .ior => qbin (pc + 1) L S σ fun x y => x ||| y
  | .ixor => qbin (pc + 1) L S σ fun x y => x ^^^ y
  | .ishl => qbin (pc + 1) L S σ fun x y => x <<< (y &&& 31)
  | .ishr => qbin (pc + 1) L S σ fun x y => x >>> (y &&& 31)
  | .iushr => qbin (pc + 1) L S σ fun x y => XT.ushr x y
  | .idiv => qbino (pc + 1) L S σ qdiv
  | .irem => qbino (pc + 1) L S σ qrem
  | .ineg => quni (pc + 1) L S σ fun x => .int (-x)
  | .i2l => quni (pc + 1) L S σ fun x => .long x.toInt64
  | .i2b => quni (pc + 1) L S σ fun x => .int x.toInt8.toInt32
  | .l2i => quniJ (pc + 1) L S σ fun x => .int x.toInt32
  | .lneg => quniJ (pc + 1) L S σ fun x => .long (-x)
  | .ladd => qbinJ (pc + 1) L S σ fun x y => x + y
  | .lsub => qbinJ (pc + 1) L S σ fun x y => x - y
  | .lmul => qbinJ (pc + 1) L S σ fun x y => x * y
  | .land => qbinJ (pc + 1) L S σ fun x y => x &&& y
  | .lor => qbinJ (pc + 1) L S σ fun x y => x ||| y
  | .lxor => qbinJ (pc + 1) L S σ fun x y => x ^^^ y
  | .lshl => qshJ (pc + 1) L S σ fun x y => x <<< (y.toInt64 &&& 63)
  | .lshr => qshJ (pc + 1) L S σ fun x y => x >>> (y.toInt64 &&& 63)
  | .lushr => qshJ (pc + 1) L S σ fun x y => XT.ushrL x y
  | .lcmp => (match S with
    | .long y :: .long x :: S' => some (pc + 1, L, .int (XT.cmpL x y) :: S', σ)
    | _ => none)
  | .goto _ => some (aux, L, S, σ)
  | .ifCond cd _ => qif (pc + 3) L S σ cd aux
  | .if_icmp cd _ => qicmp (pc + 3) L S σ cd aux
  | .dup => qdup (pc + 1) L S σ
  | .dup2 => qdup2 (pc + 1) L S σ
  | .pop => qpop (pc + 1) L S σ
  | .getfield _ => qget (pc + 3) L S σ aux
  | .putfield _ => qput (pc + 3) L S σ aux
  | .iaload => qald (pc + 1) L S σ tyI
  | .baload => qald (pc + 1) L S σ tyB
  | .laload => qaldJ (pc + 1) L S σ
  | .iastore => qast (pc + 1) L S σ tyI
  | .bastore => qast (pc + 1) L S σ tyB
  | .lastore => qastJ (pc + 1) L S σ
  | .arraylength => qlen (pc + 1) L S σ
  | .newarray t => qnewA (pc + 2) L S σ t
  | .new _ => some (pc + 3, L, .ref σ.length :: S, σ ++ [.inl cDef])
  | _ => none
def qstep (m : Nat) (st : QSt) : Option QSt :=
  match pCode m st.1 with
  | some (i, aux) => qexec st.1 st.2.1 st.2.2.1 st.2.2.2 aux i
  | none => none
def qsteps (m : Nat) : Nat → QSt → Option QSt
  | 0, st => some st
  | n + 1, st => match qstep m st with | some st' => qsteps m n st' | none => none
def qentry (args : List Value) (mx : Nat) : QLoc := (args.flatMap fun v => match v with | .long x => [some (.long x), none] | .double x => [some (.double x), none] | v => [some v]) ++ List.replicate (mx - (args.map fun v => v.category).sum) none
/-! ## what the abstract state says of the model's -/
def ilen : Instr → Nat
  | .aload _ | .iload _ | .lload _ | .istore _ | .lstore _ | .astore _ | .bipush _ | .ldc _ | .newarray _ => 2
  | .sipush _ | .ldc2_w _ | .iinc _ _ | .goto _ | .ifCond _ _ | .if_icmp _ _ | .getfield _ | .putfield _ | .new _ | .invokevirtual _ | .invokespecial _ | .invokestatic _ => 3
  | _ => 1
def qtgt (pc : Nat) (o : Int) (aux : Nat) : Bool := decide (0 ≤ (pc : Int) + o) && decide (((pc : Int) + o).toNat = aux)
def qlk (m pc : Nat) (i : Instr) (aux : Nat) : Bool :=
  match i with
  | .goto o => qtgt pc o aux
  | .ifCond _ o => qtgt pc o aux
  | .if_icmp _ o => qtgt pc o aux
  | .getfield idx => lkF.contains (pK m, idx, aux)
  | .putfield idx => lkF.contains (pK m, idx, aux) && (!fFin aux || (pK m == 1 && pNm m == "<init>"))
  | .new idx => lkN.contains (pK m, idx)
  | .newarray t => aTys.contains (newarray.typeOf t)
  | .ldc idx => lkC.contains (pK m, idx, aux)
  | .ldc2_w idx => lkD.contains (pK m, idx, aux)
  | _ => true
def qchk (m pc : Nat) (i : Instr) (aux : Nat) : Bool := decide (decode (pBytes m) pc = .ok (i, ilen i)) && qlk m pc i aux
def QCellOk (Z : State) (ad : Nat → Addr) (h : Heap) (a : Addr) : QCell → Prop
  | .inl vs => Exa Z h a cName ∧ vs.length = nF ∧ ∀ (k : Nat) (v : Value), k < nF → vget vs k = some v → Fld Z h a cName (fNm k) (fDs k) (qv ad v)
  | .inr (.inl x) => ∃ c : Cell, Arr Z h a c x.1 ∧ c.slots = (x.2.map Value.int).toArray
  | .inr (.inr x) => ∃ c : Cell, Arr Z h a c .long ∧ c.slots = (x.map Value.long).toArray
def QAd (n0 : Nat) (ad : Nat → Addr) : Prop := (∀ k, k0 ≤ k → ad k = n0 + (k - k0)) ∧ ∀ i j, ad i = ad j → i = j
def QRep (Z : State) (n0 : Nat) (ad : Nat → Addr) (h : Heap) (σ : QHeap) : Prop := k0 ≤ σ.length ∧ h.size = n0 + (σ.length - k0) ∧ ∀ k c, hget σ k = some c → QCellOk Z ad h (ad k) c
def QLocOk (ad : Nat → Addr) (L : QLoc) (C : Array Slot) : Prop :=
  L.length = C.size ∧ (∀ k v, lget L k = some v → C[k]? = some (.val (qv ad v))) ∧ (∀ k w, C[k]? = some (.val w) → w.category = 2 → C[k + 1]? = some .second) ∧ ∀ k, C[k]? = some .second → ∃ j w, k = j + 1 ∧ C[j]? = some (.val w) ∧ w.category = 2
/-- the words of the sheet, as the engine uses them -/
def QW (Z : State) (a0 : Array Value) : Prop :=
  (∀ t ∈ lkF, (Cond.fieldLink (kName t.1) t.2.1 cName (fNm t.2.2) (fDs t.2.2)).before a0 Z = true) ∧
  (∀ t ∈ lkN, (Cond.classLink (kName t.1) t.2 cName).before a0 Z = true) ∧
  (∀ t ∈ lkC, ∃ v, vget cK t.2.2 = some (.int v) ∧ (Cond.constant (kName t.1) t.2.1 v).before a0 Z = true) ∧
  (∀ t ∈ lkD, ∃ v, vget cK t.2.2 = some (.long v) ∧ (Cond.constantLong (kName t.1) t.2.1 v).before a0 Z = true) ∧
  (∀ t ∈ lkV, (Cond.methodLink (kName t.1) t.2.1 (pName t.2.2)).before a0 Z = true) ∧
  (∀ t ∈ lkO, (Cond.methodLink (kName t.1) t.2 Lib.objectInit).before a0 Z = true) ∧
  (∀ m ∈ mV, (Cond.declares (pName m)).before a0 Z = true ∧ (Cond.selects cName (pName m) (pName m)).before a0 Z = true ∧ (Cond.instanceMethod (pName m)).before a0 Z = true) ∧
  (∀ m ∈ mP, (Cond.instanceMethod (pName m)).before a0 Z = true ∧ (Cond.privateMethod (pName m)).before a0 Z = true) ∧
  (∀ m ∈ mS, (Cond.static (pName m)).before a0 Z = true) ∧
  (∀ m ∈ mI, (Cond.instanceMethod (pName m)).before a0 Z = true) ∧
  (∀ m ∈ mA, (Cond.code (pName m) (pBytes m) (pMaxL m) (pRet m)).before a0 Z = true ∧ (Cond.initialized (kName (pK m))).before a0 Z = true) ∧
  (Cond.instanceMethod Lib.objectInit).before a0 Z = true ∧ (Cond.code Lib.objectInit ⟨#[0xb1]⟩ 1 none).before a0 Z = true ∧
  (∀ k, k < nF → bif fFin k then (Cond.laysFinal cName cName (fNm k) (fDs k)).before a0 Z = true else (Cond.lays cName cName (fNm k) (fDs k)).before a0 Z = true) ∧
  (Cond.instantiable cName cN).before a0 Z = true ∧ (Cond.initialized cName).before a0 Z = true ∧
  ∀ ty ∈ aTys, (Cond.arrayClass ty).before a0 Z = true
section Words
variable {Z : State} {a0 : Array Value}
theorem qw_fl (W : QW Z a0) : ∀ t ∈ lkF, (Cond.fieldLink (kName t.1) t.2.1 cName (fNm t.2.2) (fDs t.2.2)).before a0 Z = true := W.1
theorem qw_nw (W : QW Z a0) : ∀ t ∈ lkN, (Cond.classLink (kName t.1) t.2 cName).before a0 Z = true := W.2.1
theorem qw_cI (W : QW Z a0) : ∀ t ∈ lkC, ∃ v, vget cK t.2.2 = some (.int v) ∧ (Cond.constant (kName t.1) t.2.1 v).before a0 Z = true := W.2.2.1
theorem qw_cJ (W : QW Z a0) : ∀ t ∈ lkD, ∃ v, vget cK t.2.2 = some (.long v) ∧ (Cond.constantLong (kName t.1) t.2.1 v).before a0 Z = true := W.2.2.2.1
theorem qw_ml (W : QW Z a0) : ∀ t ∈ lkV, (Cond.methodLink (kName t.1) t.2.1 (pName t.2.2)).before a0 Z = true := W.2.2.2.2.1
theorem qw_mo (W : QW Z a0) : ∀ t ∈ lkO, (Cond.methodLink (kName t.1) t.2 Lib.objectInit).before a0 Z = true := W.2.2.2.2.2.1
theorem qw_vi (W : QW Z a0) : ∀ m ∈ mV, (Cond.declares (pName m)).before a0 Z = true ∧ (Cond.selects cName (pName m) (pName m)).before a0 Z = true ∧ (Cond.instanceMethod (pName m)).before a0 Z = true := W.2.2.2.2.2.2.1
theorem qw_pr (W : QW Z a0) : ∀ m ∈ mP, (Cond.instanceMethod (pName m)).before a0 Z = true ∧ (Cond.privateMethod (pName m)).before a0 Z = true := W.2.2.2.2.2.2.2.1
theorem qw_st (W : QW Z a0) : ∀ m ∈ mS, (Cond.static (pName m)).before a0 Z = true := W.2.2.2.2.2.2.2.2.1
theorem qw_ini (W : QW Z a0) : ∀ m ∈ mI, (Cond.instanceMethod (pName m)).before a0 Z = true := W.2.2.2.2.2.2.2.2.2.1
theorem qw_cod (W : QW Z a0) : ∀ m ∈ mA, (Cond.code (pName m) (pBytes m) (pMaxL m) (pRet m)).before a0 Z = true ∧ (Cond.initialized (kName (pK m))).before a0 Z = true := W.2.2.2.2.2.2.2.2.2.2.1
theorem qw_oi (W : QW Z a0) : (Cond.instanceMethod Lib.objectInit).before a0 Z = true := W.2.2.2.2.2.2.2.2.2.2.2.1
theorem qw_oc (W : QW Z a0) : (Cond.code Lib.objectInit ⟨#[0xb1]⟩ 1 none).before a0 Z = true := W.2.2.2.2.2.2.2.2.2.2.2.2.1
theorem qw_lay (W : QW Z a0) : ∀ k, k < nF → bif fFin k then (Cond.laysFinal cName cName (fNm k) (fDs k)).before a0 Z = true else (Cond.lays cName cName (fNm k) (fDs k)).before a0 Z = true := W.2.2.2.2.2.2.2.2.2.2.2.2.2.1
theorem qw_inst (W : QW Z a0) : (Cond.instantiable cName cN).before a0 Z = true := W.2.2.2.2.2.2.2.2.2.2.2.2.2.2.1
theorem qw_init (W : QW Z a0) : (Cond.initialized cName).before a0 Z = true := W.2.2.2.2.2.2.2.2.2.2.2.2.2.2.2.1
theorem qw_arr (W : QW Z a0) : ∀ ty ∈ aTys, (Cond.arrayClass ty).before a0 Z = true := W.2.2.2.2.2.2.2.2.2.2.2.2.2.2.2.2
end Words
/-! ## small laws of lists -/
theorem hget_eq : ∀ (σ : QHeap) k, hget σ k = σ[k]?
  | [], _ => by simp [hget]
  | _ :: _, 0 => by simp [hget]
  | _ :: t, k + 1 => by simp [hget, hget_eq t k]
theorem vget_eq : ∀ (σ : List Value) k, vget σ k = σ[k]?
  | [], _ => by simp [vget]
  | _ :: _, 0 => by simp [vget]
  | _ :: t, k + 1 => by simp [vget, vget_eq t k]
theorem lget_eq : ∀ (L : QLoc) k, lget L k = (L[k]?).getD none
  | [], _ => by simp [lget]
  | _ :: _, 0 => by simp [lget]
  | _ :: t, k + 1 => by simp [lget, lget_eq t k]
theorem lget_lt {L : QLoc} {k : Nat} {v : Value} (h : lget L k = some v) : k < L.length := by
  rw [lget_eq] at h
  rcases Nat.lt_or_ge k L.length with q | q
  · exact q
  · simp [List.getElem?_eq_none q] at h
theorem lget_set {L : QLoc} {k j : Nat} {o : Option Value} (hk : k < L.length) : lget (L.set k o) j = if j = k then o else lget L j := by
  simp only [lget_eq, List.getElem?_set]
  by_cases e : k = j
  · subst e; simp [hk]
  · simp [e, Ne.symm e]
theorem qhs_app (σ τ : QHeap) : qhs (σ ++ τ) = qhs σ + qhs τ := by
  induction σ with
  | nil => simp [qhs]
  | cons c t ih => simp [qhs, ih, Nat.add_assoc]
theorem qhs_set {σ : QHeap} {k : Nat} {c d : QCell} (h : hget σ k = some c) (hs : qsz d = qsz c) : qhs (σ.set k d) = qhs σ := by
  induction σ generalizing k with
  | nil => simp [hget] at h
  | cons x t ih =>
    cases k with
    | zero => simp only [hget, Option.some.injEq] at h; subst h; simp [qhs, hs]
    | succ k => simp only [hget] at h; simp [qhs, ih h]
theorem hget_set {σ : QHeap} {k j : Nat} {c d : QCell} (h : hget σ k = some c) : hget (σ.set k d) j = if j = k then some d else hget σ j := by
  rw [hget_eq] at h
  have hk := (List.getElem?_eq_some_iff.mp h).1
  simp only [hget_eq, List.getElem?_set]
  by_cases e : k = j
  · subst e; simp [hk]
  · simp [e, Ne.symm e]
theorem lkill_len (L : QLoc) (k : Nat) : (lkill L k).length = L.length := by
  cases k with
  | zero => rfl
  | succ k => simp only [lkill]; split <;> simp
theorem lget_kill {L : QLoc} {k j : Nat} {v : Value} (h : lget (lkill L k) j = some v) : lget L j = some v ∧ (k = j + 1 → v.category ≠ 2) := by
  cases k with
  | zero => exact ⟨h, fun e => by omega⟩
  | succ k =>
    simp only [lkill] at h
    split at h
    · rename_i x q
      rw [lget_set (lget_lt q)] at h
      split at h
      · cases h
      · rename_i ne; exact ⟨h, fun e => absurd (by omega) ne⟩
    · rename_i x q
      rw [lget_set (lget_lt q)] at h
      split at h
      · cases h
      · rename_i ne; exact ⟨h, fun e => absurd (by omega) ne⟩
    · rename_i q1 q2
      refine ⟨h, fun e hc => ?_⟩
      obtain rfl : j = k := by omega
      cases v with
      | long x => exact q1 _ h
      | double x => exact q2 _ h
      | _ => simp [Value.category] at hc
theorem qv_cat (ad : Nat → Addr) (v : Value) : (qv ad v).category = v.category := by cases v <;> rfl
/-! ## storing into a local -/
def kA (C : Array Slot) (k j : Nat) : Prop := k = j + 1 ∧ C[k]? = some .second
def kB (C : Array Slot) (k j : Nat) : Prop := j = k + 1 ∧ ∃ u, C[k]? = some (.val u) ∧ u.category = 2
def kD (C : Array Slot) (k j : Nat) : Prop := j = k + 2 ∧ ∃ u, C[k + 1]? = some (.val u) ∧ u.category = 2
theorem set1_at {C D : Array Slot} {k : Nat} {w : Value} (hk : k < C.size) (hw : w.category = 1) (h : storeLocals C k w = some D) :
    D.size = C.size ∧ D[k]? = some (.val w) ∧ ∀ j, j ≠ k → (D[j]? = C[j]? ∧ ¬ kA C k j ∧ ¬ kB C k j) ∨ D[j]? = some .unset ∧ (kA C k j ∨ kB C k j) := by
  have hck : C[k]? = some C[k] := Array.getElem?_eq_getElem hk
  unfold storeLocals at h
  simp only [hck, Option.bind_eq_bind, Option.bind_some] at h
  have self : ∀ {E : Array Slot}, k < E.size → storeSelf E k w = some D → D = E.setIfInBounds k (.val w) := by
    intro E hE q
    simp only [storeSelf, setAt, hE, if_true, Option.bind_eq_bind, Option.bind_some, hw] at q
    simpa using q.symm
  split at h
  · rename_i q
    have hk1 : k - 1 < C.size := by omega
    simp only [setAt, hk1, if_true, Option.bind_some] at h
    have e := self (by simpa using hk) h
    subst e
    refine ⟨by simp, by simp [hk], fun j hj => ?_⟩
    by_cases ej : k = j + 1
    · refine Or.inr ⟨?_, Or.inl ⟨ej, by rw [hck, q]⟩⟩
      rw [Array.getElem?_setIfInBounds_ne (Ne.symm hj), show j = k - 1 by omega]
      simp [hk1]
    · refine Or.inl ⟨?_, fun x => ej x.1, fun x => ?_⟩
      · rw [Array.getElem?_setIfInBounds_ne (Ne.symm hj), Array.getElem?_setIfInBounds_ne (by omega)]
      · obtain ⟨-, u, x1, -⟩ := x
        rw [hck, q] at x1; cases x1
  · rename_i u q
    split at h
    · rename_i hu
      by_cases hk1 : k + 1 < C.size
      · simp only [setAt, hk1, if_true, Option.bind_some] at h
        have e := self (by simpa using hk) h
        subst e
        refine ⟨by simp, by simp [hk], fun j hj => ?_⟩
        by_cases ej : j = k + 1
        · refine Or.inr ⟨?_, Or.inr ⟨ej, u, by rw [hck, q], hu⟩⟩
          rw [Array.getElem?_setIfInBounds_ne (Ne.symm hj), ej]
          simp [hk1]
        · refine Or.inl ⟨?_, fun x => ?_, fun x => ej x.1⟩
          · rw [Array.getElem?_setIfInBounds_ne (Ne.symm hj), Array.getElem?_setIfInBounds_ne (by omega)]
          · obtain ⟨-, x1⟩ := x
            rw [hck, q] at x1; cases x1
      · simp [setAt, hk1] at h
    · rename_i hu
      have e := self hk h
      subst e
      refine ⟨by simp, by simp [hk], fun j hj => Or.inl ⟨Array.getElem?_setIfInBounds_ne (Ne.symm hj), fun x => ?_, fun x => ?_⟩⟩
      · obtain ⟨-, x1⟩ := x
        rw [hck, q] at x1; cases x1
      · obtain ⟨-, u', x1, x2⟩ := x
        rw [hck, q] at x1; cases x1; exact hu x2
  · rename_i q
    have e := self hk h
    subst e
    refine ⟨by simp, by simp [hk], fun j hj => Or.inl ⟨Array.getElem?_setIfInBounds_ne (Ne.symm hj), fun x => ?_, fun x => ?_⟩⟩
    · obtain ⟨-, x1⟩ := x
      rw [hck, q] at x1; cases x1
    · obtain ⟨-, u', x1, x2⟩ := x
      rw [hck, q] at x1; cases x1
theorem set2_at {C D : Array Slot} {k : Nat} {w : Value} (hk : k + 1 < C.size) (hw : w.category = 2) (wf : ∀ k w, C[k]? = some (.val w) → w.category = 2 → C[k + 1]? = some .second) (h : storeLocals C k w = some D) :
    D.size = C.size ∧ D[k]? = some (.val w) ∧ D[k + 1]? = some .second ∧ ∀ j, j ≠ k → j ≠ k + 1 → (D[j]? = C[j]? ∧ ¬ kA C k j ∧ ¬ kD C k j) ∨ D[j]? = some .unset ∧ (kA C k j ∨ kD C k j) := by
  have hk0 : k < C.size := by omega
  have hck : C[k]? = some C[k] := Array.getElem?_eq_getElem hk0
  unfold storeLocals at h
  simp only [hck, Option.bind_eq_bind, Option.bind_some] at h
  have self : ∀ {E : Array Slot}, E.size = C.size → storeSelf E k w = some D → D.size = C.size ∧ D[k]? = some (.val w) ∧ D[k + 1]? = some .second ∧ ∀ j, j ≠ k → j ≠ k + 1 → (D[j]? = E[j]? ∧ ¬ kD E k j) ∨ D[j]? = some .unset ∧ kD E k j := by
    intro E hs q
    have h1 : k < E.size := by omega
    have h2 : k + 1 < E.size := by omega
    have h3 : (E.setIfInBounds k (.val w))[k + 1]? = some E[k + 1] := by rw [Array.getElem?_setIfInBounds_ne (by omega)]; exact Array.getElem?_eq_getElem h2
    simp only [storeSelf, setAt, h1, if_true, Option.bind_eq_bind, Option.bind_some, hw, h3] at q
    have plain : (¬ ∃ u, E[k + 1]? = some (.val u) ∧ u.category = 2) → some ((E.setIfInBounds k (.val w)).setIfInBounds (k + 1) .second) = some D → D.size = C.size ∧ D[k]? = some (.val w) ∧ D[k + 1]? = some .second ∧ ∀ j, j ≠ k → j ≠ k + 1 → (D[j]? = E[j]? ∧ ¬ kD E k j) ∨ D[j]? = some .unset ∧ kD E k j := by
      intro no q
      cases q
      refine ⟨by simp [hs], ?_, ?_, fun j hj hj1 => Or.inl ⟨?_, fun x => no x.2⟩⟩
      · rw [Array.getElem?_setIfInBounds_ne (by omega)]; simp [h1]
      · simp [h2]
      · rw [Array.getElem?_setIfInBounds_ne (by omega), Array.getElem?_setIfInBounds_ne (by omega)]
    split at q
    · rename_i u hu
      split at q
      · rename_i hu2
        by_cases h5 : k + 2 < E.size
        · simp [h5, h2] at q
          cases q
          refine ⟨by simp [hs], ?_, ?_, fun j hj hj1 => ?_⟩
          · rw [Array.getElem?_setIfInBounds_ne (by omega), Array.getElem?_setIfInBounds_ne (by omega)]; simp [h1]
          · simp [h2]
          · by_cases e : j = k + 2
            · refine Or.inr ⟨?_, e, u, by rw [Array.getElem?_eq_getElem h2, hu], hu2⟩
              rw [Array.getElem?_setIfInBounds_ne (by omega), e]
              simp [h5]
            · refine Or.inl ⟨?_, fun x => e x.1⟩
              rw [Array.getElem?_setIfInBounds_ne (by omega), Array.getElem?_setIfInBounds_ne (by omega), Array.getElem?_setIfInBounds_ne (by omega)]
        · simp [h5] at q
      · rename_i hu2
        refine plain ?_ (by simpa [h2] using q)
        rintro ⟨u', x1, x2⟩
        rw [Array.getElem?_eq_getElem h2, hu] at x1; cases x1; exact hu2 x2
    · rename_i hu
      refine plain ?_ (by simpa [h2] using q)
      rintro ⟨u', x1, x2⟩
      rw [Array.getElem?_eq_getElem h2] at x1; exact hu _ (Option.some.inj x1)
  split at h
  · rename_i q
    have hk1 : k - 1 < C.size := by omega
    simp only [setAt, hk1, if_true, Option.bind_some] at h
    obtain ⟨e1, e2, e3, e4⟩ := self (by simp) h
    refine ⟨e1, e2, e3, fun j hj hj1 => ?_⟩
    have h6 : ∀ i, i + 1 ≠ k ∨ k = 0 → i ≠ k ∨ k ≠ 0 → (C.setIfInBounds (k - 1) Slot.unset)[i]? = C[i]? := fun i hi hi2 => Array.getElem?_setIfInBounds_ne (by omega)
    have h7 : (C.setIfInBounds (k - 1) Slot.unset)[k + 1]? = C[k + 1]? := Array.getElem?_setIfInBounds_ne (by omega)
    rcases e4 j hj hj1 with ⟨r, r'⟩ | ⟨r, r1, u, r2, r3⟩
    · by_cases ej : k = j + 1
      · refine Or.inr ⟨?_, Or.inl ⟨ej, by rw [hck, q]⟩⟩
        rw [r, show j = k - 1 by omega]; simp [hk1]
      · refine Or.inl ⟨by rw [r]; exact h6 _ (by omega) (by omega), fun x => ej x.1, fun x => r' ⟨x.1, ?_⟩⟩
        rw [h7]; exact x.2
    · exact Or.inr ⟨r, Or.inr ⟨r1, u, by rw [← h7]; exact r2, r3⟩⟩
  · rename_i u q
    split at h
    · rename_i hu
      simp only [setAt, hk, if_true, Option.bind_some] at h
      obtain ⟨e1, e2, e3, e4⟩ := self (by simp) h
      have hsec := wf k u (by rw [hck, q]) hu
      refine ⟨e1, e2, e3, fun j hj hj1 => ?_⟩
      rcases e4 j hj hj1 with ⟨r, r'⟩ | ⟨r, r1, u', r2, r3⟩
      · refine Or.inl ⟨by rw [r]; exact Array.getElem?_setIfInBounds_ne (by omega), fun x => ?_, fun x => ?_⟩
        · obtain ⟨-, x1⟩ := x
          rw [hck, q] at x1; cases x1
        · obtain ⟨-, u', x1, x2⟩ := x
          rw [hsec] at x1; cases x1
      · simp [hk] at r2
    · rename_i hu
      obtain ⟨e1, e2, e3, e4⟩ := self rfl h
      refine ⟨e1, e2, e3, fun j hj hj1 => ?_⟩
      rcases e4 j hj hj1 with ⟨r, r'⟩ | ⟨r, r'⟩
      · refine Or.inl ⟨r, fun x => ?_, r'⟩
        obtain ⟨-, x1⟩ := x
        rw [hck, q] at x1; cases x1
      · exact Or.inr ⟨r, Or.inr r'⟩
  · rename_i q
    obtain ⟨e1, e2, e3, e4⟩ := self rfl h
    refine ⟨e1, e2, e3, fun j hj hj1 => ?_⟩
    rcases e4 j hj hj1 with ⟨r, r'⟩ | ⟨r, r'⟩
    · refine Or.inl ⟨r, fun x => ?_, r'⟩
      obtain ⟨-, x1⟩ := x
      rw [hck, q] at x1; cases x1
    · exact Or.inr ⟨r, Or.inr r'⟩
/-- a store succeeds: in a well kept array of locals -/
theorem store_some {C : Array Slot} {k : Nat} {w : Value} (hk : k + (w.category - 1) < C.size) (hc : w.category = 1 ∨ w.category = 2) (wf : ∀ k w, C[k]? = some (.val w) → w.category = 2 → C[k + 1]? = some .second) :
    ∃ D, storeLocals C k w = some D := by
  have hk0 : k < C.size := by omega
  have hck : C[k]? = some C[k] := Array.getElem?_eq_getElem hk0
  have self : ∀ {E : Array Slot}, E.size = C.size → (∀ u, E[k + 1]? = some (.val u) → u.category = 2 → k + 2 < E.size) → ∃ D, storeSelf E k w = some D := by
    intro E hs hn
    have h1 : k < E.size := by omega
    simp only [storeSelf, setAt, h1, if_true, Option.bind_eq_bind, Option.bind_some]
    rcases hc with hc | hc
    · exact ⟨E.setIfInBounds k (.val w), by simp [hc]⟩
    · have h2 : k + 1 < E.size := by omega
      have h3 : (E.setIfInBounds k (.val w))[k + 1]? = some E[k + 1] := by rw [Array.getElem?_setIfInBounds_ne (by omega)]; exact Array.getElem?_eq_getElem h2
      simp only [hc, if_true, h3, Option.bind_some]
      split
      · rename_i u hu
        split
        · rename_i hu2
          have h5 := hn u (by rw [Array.getElem?_eq_getElem h2, hu]) hu2
          exact ⟨_, by simp [h5, h2]; rfl⟩
        · exact ⟨_, by simp [h2]; rfl⟩
      · exact ⟨_, by simp [h2]; rfl⟩
  have next : ∀ u, C[k + 1]? = some (.val u) → u.category = 2 → k + 2 < C.size := fun u h1 h2 => (Array.getElem?_eq_some_iff.mp (wf _ _ h1 h2)).1
  unfold storeLocals
  simp only [hck, Option.bind_eq_bind, Option.bind_some]
  split
  · have hk1 : k - 1 < C.size := by omega
    simp only [setAt, hk1, if_true, Option.bind_some]
    refine self (by simp) fun u h1 h2 => ?_
    rw [Array.getElem?_setIfInBounds_ne (by omega)] at h1
    simpa using next u h1 h2
  · rename_i u q
    split
    · rename_i hu
      have h5 := (Array.getElem?_eq_some_iff.mp (wf k u (by rw [hck, q]) hu)).1
      simp only [setAt, h5, if_true, Option.bind_some]
      refine self (by simp) fun u h1 h2 => ?_
      simp [h5] at h1
    · exact self rfl next
  · exact self rfl next
theorem store_ok1 {ad : Nat → Addr} {L : QLoc} {C : Array Slot} {k : Nat} {v : Value} (H : QLocOk ad L C) (hv : v.category = 1) (hk : k < L.length) :
    ∃ D, storeLocals C k (qv ad v) = some D ∧ QLocOk ad ((lkill L k).set k (some v)) D ∧ D.size = C.size := by
  obtain ⟨H1, H2, H3, H4⟩ := H
  have hc : (qv ad v).category = 1 := by rw [qv_cat, hv]
  obtain ⟨D, hD⟩ := store_some (C := C) (k := k) (w := qv ad v) (by rw [hc]; omega) (Or.inl hc) H3
  obtain ⟨d1, d2, d3⟩ := set1_at (by omega) hc hD
  refine ⟨D, hD, ⟨by simp [lkill_len, H1, d1], fun j u hj => ?_, fun j w hj hw => ?_, fun j hj => ?_⟩, d1⟩
  · rw [lget_set (by rw [lkill_len]; exact hk)] at hj
    split at hj
    · rename_i e; cases hj; rw [e]; exact d2
    · rename_i ne
      obtain ⟨g1, g2⟩ := lget_kill hj
      have g3 := H2 j u g1
      rcases d3 j ne with ⟨r, -, -⟩ | ⟨-, ⟨r1, r2⟩ | ⟨r1, w, r2, r3⟩⟩
      · rw [r]; exact g3
      · obtain ⟨i, w, z1, z2, z3⟩ := H4 k r2
        obtain rfl : i = j := by omega
        rw [g3] at z2
        cases z2
        rw [qv_cat] at z3
        exact absurd z3 (g2 r1)
      · have := H3 k w r2 r3
        rw [← r1, g3] at this
        cases this
  · by_cases e : j = k
    · subst e; rw [d2] at hj; cases hj; rw [hc] at hw; cases hw
    · rcases d3 j e with ⟨r, nA, nB⟩ | ⟨r, -⟩
      · rw [r] at hj
        have g := H3 j w hj hw
        have e2 : j + 1 ≠ k := fun q => nA ⟨q.symm, by rw [← q]; exact g⟩
        rcases d3 (j + 1) e2 with ⟨z, -, -⟩ | ⟨-, ⟨z1, z2⟩ | ⟨z1, -⟩⟩
        · rw [z]; exact g
        · obtain ⟨i, u, y1, y2, y3⟩ := H4 k z2
          obtain rfl : i = j + 1 := by omega
          rw [g] at y2; cases y2
        · omega
      · rw [r] at hj; cases hj
  · by_cases e : j = k
    · subst e; rw [d2] at hj; cases hj
    · rcases d3 j e with ⟨r, nA, nB⟩ | ⟨r, -⟩
      · rw [r] at hj
        obtain ⟨i, w, y1, y2, y3⟩ := H4 j hj
        refine ⟨i, w, y1, ?_, y3⟩
        have ei : i ≠ k := fun q => nB ⟨by omega, w, by rw [← q]; exact y2, y3⟩
        rcases d3 i ei with ⟨z, -, -⟩ | ⟨-, ⟨z1, z2⟩ | ⟨z1, u, z2, z3⟩⟩
        · rw [z]; exact y2
        · omega
        · have := H3 k u z2 z3
          rw [← z1, y2] at this; cases this
      · rw [r] at hj; cases hj
theorem store_ok2 {ad : Nat → Addr} {L : QLoc} {C : Array Slot} {k : Nat} {x : Int64} (H : QLocOk ad L C) (hk : k + 1 < L.length) :
    ∃ D, storeLocals C k (.long x) = some D ∧ QLocOk ad (((lkill L k).set k (some (.long x))).set (k + 1) none) D ∧ D.size = C.size := by
  obtain ⟨H1, H2, H3, H4⟩ := H
  have hc : (Value.long x).category = 2 := rfl
  obtain ⟨D, hD⟩ := store_some (C := C) (k := k) (w := .long x) (by rw [hc]; omega) (Or.inr hc) H3
  obtain ⟨d1, d2, d2', d3⟩ := set2_at (by omega) hc H3 hD
  refine ⟨D, hD, ⟨by simp [lkill_len, H1, d1], fun j u hj => ?_, fun j w hj hw => ?_, fun j hj => ?_⟩, d1⟩
  · rw [lget_set (by simp [lkill_len]; exact hk)] at hj
    split at hj
    · cases hj
    · rename_i ne1
      rw [lget_set (by rw [lkill_len]; omega)] at hj
      split at hj
      · rename_i e; cases hj; rw [e]; exact d2
      · rename_i ne
        obtain ⟨g1, g2⟩ := lget_kill hj
        have g3 := H2 j u g1
        rcases d3 j ne ne1 with ⟨r, -, -⟩ | ⟨-, ⟨r1, r2⟩ | ⟨r1, w, r2, r3⟩⟩
        · rw [r]; exact g3
        · obtain ⟨i, w, z1, z2, z3⟩ := H4 k r2
          obtain rfl : i = j := by omega
          rw [g3] at z2
          cases z2
          rw [qv_cat] at z3
          exact absurd z3 (g2 r1)
        · have := H3 (k + 1) w r2 r3
          rw [show k + 1 + 1 = j by omega, g3] at this
          cases this
  · by_cases e : j = k
    · rw [e]; exact d2'
    · by_cases e1 : j = k + 1
      · rw [e1, d2'] at hj; cases hj
      · rcases d3 j e e1 with ⟨r, nA, nB⟩ | ⟨r, -⟩
        · rw [r] at hj
          have g := H3 j w hj hw
          have e2 : j + 1 ≠ k := fun q => nA ⟨q.symm, by rw [← q]; exact g⟩
          rcases d3 (j + 1) e2 (by omega) with ⟨z, -, -⟩ | ⟨-, ⟨z1, z2⟩ | ⟨z1, -⟩⟩
          · rw [z]; exact g
          · obtain ⟨i, u, y1, y2, y3⟩ := H4 k z2
            obtain rfl : i = j + 1 := by omega
            rw [g] at y2; cases y2
          · omega
        · rw [r] at hj; cases hj
  · by_cases e : j = k
    · rw [e, d2] at hj; cases hj
    · by_cases e1 : j = k + 1
      · exact ⟨k, _, e1, d2, hc⟩
      · rcases d3 j e e1 with ⟨r, nA, nB⟩ | ⟨r, -⟩
        · rw [r] at hj
          obtain ⟨i, w, y1, y2, y3⟩ := H4 j hj
          refine ⟨i, w, y1, ?_, y3⟩
          have ei : i ≠ k := fun q => e1 (by omega)
          have ei1 : i ≠ k + 1 := fun q => nB ⟨by omega, w, by rw [← q]; exact y2, y3⟩
          rcases d3 i ei ei1 with ⟨z, -, -⟩ | ⟨-, ⟨z1, z2⟩ | ⟨z1, u, z2, z3⟩⟩
          · rw [z]; exact y2
          · omega
          · have := H3 (k + 1) u z2 z3
            rw [show k + 1 + 1 = i by omega, y2] at this; cases this
        · rw [r] at hj; cases hj
theorem store_ok {ad : Nat → Addr} {L L' : QLoc} {C : Array Slot} {k : Nat} {v : Value} (H : QLocOk ad L C) (h : lput L k v = some L') :
    ∃ D, storeLocals C k (qv ad v) = some D ∧ QLocOk ad L' D ∧ D.size = C.size := by
  have one : v.category = 1 → (bif Nat.ble (k + 1) L.length then some ((lkill L k).set k (some v)) else none) = some L' → ∃ D, storeLocals C k (qv ad v) = some D ∧ QLocOk ad L' D ∧ D.size = C.size := by
    intro hv h
    cases hb : Nat.ble (k + 1) L.length with
    | false => rw [hb] at h; cases h
    | true => rw [hb] at h; cases h; exact store_ok1 H hv (Nat.le_of_ble_eq_true hb)
  cases v with
  | long x =>
    simp only [lput] at h
    cases hb : Nat.ble (k + 2) L.length with
    | false => rw [hb] at h; cases h
    | true => rw [hb] at h; cases h; exact store_ok2 H (Nat.le_of_ble_eq_true hb)
  | double x => simp [lput] at h
  | int x => exact one rfl h
  | float x => exact one rfl h
  | null => exact one rfl h
  | ref x => exact one rfl h
  | retAddr x => exact one rfl h
/-! ## facts of the tables, by evaluation -/
theorem fInj : ∀ i, i < nF → ∀ j, j < nF → fNm i = fNm j → i = j := by decide +kernel
theorem fPrs : ∀ i, i < nF → parseFieldDescriptor (fDs i) = some (fTy i) := by decide +kernel
theorem cDefs : ∀ i, i < nF → vget cDef i = some (defaultValue (fTy i)) := by decide +kernel
theorem cDefL : cDef.length = nF := by decide +kernel
theorem fDef : ∀ i, i < nF → ∀ a, defaultValue (fTy i) ≠ .ref a := by
  intro i _ a
  cases fTy i <;> simp [defaultValue]
theorem kPlain : ∀ k, k < 2 → plainName (kName k) = true := by
  intro k hk
  rcases k with _ | _ | k
  · first | decide +kernel | (simp [kName, plainName, overriddenIn]; done)
  · first | decide +kernel | (simp [kName, plainName, overriddenIn]; done)
  · omega
theorem pKlt : ∀ m, m < pN → pK m < 2 := by decide +kernel
theorem pSig : ∀ m, m < pN → (parseMethodDescriptor (pDs m)).map (fun sg => sg.parameters.length) = some (pNA m) := by decide +kernel
theorem pOwn : ∀ k, k < 2 → kName k ≠ "java/lang/invoke/MethodHandle" ∧ kName k ≠ "java/lang/invoke/VarHandle" := by decide +kernel
theorem mAlt : ∀ m ∈ mA, m < pN := by decide +kernel
theorem mVlt : ∀ m ∈ mV, m ∈ mA ∧ pK m = 1 := by decide +kernel
theorem mPlt : ∀ m ∈ mP, m ∈ mA ∧ pK m = 1 := by decide +kernel
theorem mSlt : ∀ m ∈ mS, m ∈ mA := by decide +kernel
theorem mIlt : ∀ m ∈ mI, m ∈ mA ∧ pK m = 1 ∧ pNm m = "<init>" ∧ pRet m = none := by decide +kernel
theorem kOne : kName 1 = cName := rfl
set_option maxRecDepth 100000 in
theorem pChk0 : ∀ m, m < pN → ∀ pc, pc < pTop → (match pCode m pc with | some t => qchk m pc t.1 t.2 | none => true) = true := by decide +kernel
theorem pIn {m pc : Nat} {t : Instr × Nat} (h : pCode m pc = some t) : m < pN ∧ pc < pTop := by
  unfold pCode at h
  cases h1 : Nat.ble pN m with
  | true => rw [h1] at h; cases h
  | false =>
    cases h2 : Nat.ble pTop pc with
    | true => rw [h1, h2] at h; cases h
    | false => exact ⟨Nat.lt_of_not_le (fun q => by rw [Nat.ble_eq_true_of_le q] at h1; cases h1), Nat.lt_of_not_le (fun q => by rw [Nat.ble_eq_true_of_le q] at h2; cases h2)⟩
theorem pChk {m pc : Nat} {i : Instr} {aux : Nat} (h : pCode m pc = some (i, aux)) : qchk m pc i aux = true := by
  have q := pChk0 m (pIn h).1 pc (pIn h).2
  rw [h] at q
  exact q
theorem pDec {m pc : Nat} {i : Instr} {aux : Nat} (h : pCode m pc = some (i, aux)) : decode (pBytes m) pc = .ok (i, ilen i) := by
  have q := pChk h
  unfold qchk at q
  exact of_decide_eq_true (Bool.and_eq_true_iff.mp q).1
theorem pDecN {m pc n : Nat} {i : Instr} {aux : Nat} (h : pCode m pc = some (i, aux)) (hn : ilen i = n) : decode (pBytes m) pc = .ok (i, n) := by
  rw [← hn]; exact pDec h
theorem pRest {m pc : Nat} {i : Instr} {aux : Nat} (h : pCode m pc = some (i, aux)) : qlk m pc i aux = true := by
  have q := pChk h
  unfold qchk at q
  exact (Bool.and_eq_true_iff.mp q).2
theorem qtgt_spec {pc : Nat} {o : Int} {aux : Nat} (h : qtgt pc o aux = true) : 0 ≤ (pc : Int) + o ∧ ((pc : Int) + o).toNat = aux := by
  unfold qtgt at h
  have h2 := Bool.and_eq_true_iff.mp h
  exact ⟨of_decide_eq_true h2.1, of_decide_eq_true h2.2⟩
/-! ## triples -/
def QCx (Z : State) (p : Program) (R : Room) (s : State) (mid : MethodId) (meth : Method) (c : Code) (m : Nat) : Prop :=
  p.tables.exec = Jvm.exec ∧ Z.Warmed39 s.vm ∧ c.code = pBytes m ∧ c.maxLocals = pMaxL m ∧ meth.sig.returnType = pRet m ∧ s.vm.findClass (kName (pK m)) = some mid.cls ∧ meth.name = pNm m ∧ pFr m ≤ R.frames ∧ pLo m ≤ R.locals
def QTri (l : Launch) (Z : State) (n0 : Nat) (ad : Nat → Addr) (m : Nat) (st : QSt) (v : Option Value) (σ' : QHeap) : Prop :=
  st.2.2.2.length ≤ σ'.length ∧ qhs st.2.2.2 ≤ qhs σ' ∧
  ∀ (p : Program) (e : Env) (R : Room) (s : State) (mid : MethodId) (args : Array Value) (below : List Frame) (meth : Method) (c : Code) (T : State) (locs : List Loc) (cells slots : Nat) (C : Array Slot),
    QCx Z p R s mid meth c m → Stand p l e R s mid args below meth c T locs cells slots → QRep Z n0 ad T.heap st.2.2.2 → Fr n0 locs → QLocOk ad st.2.1 C → C.size = c.maxLocals →
    n0 + (st.2.2.2.length - k0) = s.heap.size + cells → cells + (σ'.length - st.2.2.2.length) ≤ R.cells → slots + (qhs σ' - qhs st.2.2.2) ≤ R.slots →
    ∃ T' locs', Stand p l e R s mid args below meth c T' locs' (cells + (σ'.length - st.2.2.2.length)) (slots + (qhs σ' - qhs st.2.2.2)) ∧ QRep Z n0 ad T'.heap σ' ∧ Fr n0 locs' ∧
      ∀ fs, (∀ (f : JFrame) (acts : List Action), f.method = mid → f.locked = none → f.entered = [] → (doReturn e (T'.setTop f) acts (v.map (qv ad))).1 = T'.setFrames fs) →
        Steps p.tables e below (T.setTop (mkF mid st.1 C (st.2.2.1.map (qv ad)))) (T'.setFrames fs)
section Triples
variable {l : Launch} {Z : State} {n0 : Nat} {ad : Nat → Addr} {a0 : Array Value} {m : Nat} {v : Option Value} {σ' : QHeap}
theorem QTri.gen {st st' : QSt} (h : QTri l Z n0 ad m st' v σ') (g1 : st.2.2.2.length ≤ st'.2.2.2.length) (g2 : qhs st.2.2.2 ≤ qhs st'.2.2.2)
    (hs : ∀ (p : Program) (e : Env) (R : Room) (s : State) (mid : MethodId) (args : Array Value) (below : List Frame) (meth : Method) (c : Code) (T : State) (locs : List Loc) (cells slots : Nat) (C : Array Slot),
      QCx Z p R s mid meth c m → Stand p l e R s mid args below meth c T locs cells slots → QRep Z n0 ad T.heap st.2.2.2 → Fr n0 locs → QLocOk ad st.2.1 C → C.size = c.maxLocals →
      n0 + (st.2.2.2.length - k0) = s.heap.size + cells → cells + (st'.2.2.2.length - st.2.2.2.length) ≤ R.cells → slots + (qhs st'.2.2.2 - qhs st.2.2.2) ≤ R.slots →
      ∃ T₁ locs₁ C₁, Stand p l e R s mid args below meth c T₁ locs₁ (cells + (st'.2.2.2.length - st.2.2.2.length)) (slots + (qhs st'.2.2.2 - qhs st.2.2.2)) ∧ QRep Z n0 ad T₁.heap st'.2.2.2 ∧ Fr n0 locs₁ ∧ QLocOk ad st'.2.1 C₁ ∧ C₁.size = c.maxLocals ∧
        ∀ target, Steps p.tables e below (T₁.setTop (mkF mid st'.1 C₁ (st'.2.2.1.map (qv ad)))) target → Steps p.tables e below (T.setTop (mkF mid st.1 C (st.2.2.1.map (qv ad)))) target) :
    QTri l Z n0 ad m st v σ' := by
  obtain ⟨h1, h2, h3⟩ := h
  refine ⟨Nat.le_trans g1 h1, Nat.le_trans g2 h2, fun p e R s mid args below meth c T locs cells slots C hcx X hR hF hL hC hn hc hsl => ?_⟩
  obtain ⟨T₁, locs₁, C₁, X₁, R₁, F₁, L₁, C1, S₁⟩ := hs p e R s mid args below meth c T locs cells slots C hcx X hR hF hL hC hn (by omega) (by omega)
  have hk := hR.1
  obtain ⟨T', locs', X', R', F', S'⟩ := h3 p e R s mid args below meth c T₁ locs₁ _ _ C₁ hcx X₁ R₁ F₁ L₁ C1 (by omega) (by omega) (by omega)
  have e1 : cells + (st'.2.2.2.length - st.2.2.2.length) + (σ'.length - st'.2.2.2.length) = cells + (σ'.length - st.2.2.2.length) := by omega
  have e2 : slots + (qhs st'.2.2.2 - qhs st.2.2.2) + (qhs σ' - qhs st'.2.2.2) = slots + (qhs σ' - qhs st.2.2.2) := by omega
  rw [e1, e2] at X'
  exact ⟨T', locs', X', R', F', fun fs hf => S₁ _ (S' fs hf)⟩
theorem QTri.pure {st st' : QSt} (h : QTri l Z n0 ad m st' v σ') (hσ : st'.2.2.2 = st.2.2.2)
    (hs : ∀ (p : Program) (e : Env) (R : Room) (s : State) (mid : MethodId) (args : Array Value) (below : List Frame) (meth : Method) (c : Code) (T : State) (locs : List Loc) (cells slots : Nat) (C : Array Slot),
      QCx Z p R s mid meth c m → Stand p l e R s mid args below meth c T locs cells slots → QRep Z n0 ad T.heap st.2.2.2 → QLocOk ad st.2.1 C → C.size = c.maxLocals →
      ∃ T₁ C₁, Stand p l e R s mid args below meth c T₁ locs cells slots ∧ T₁.heap = T.heap ∧ QLocOk ad st'.2.1 C₁ ∧ C₁.size = c.maxLocals ∧
        ∀ target, Steps p.tables e below (T₁.setTop (mkF mid st'.1 C₁ (st'.2.2.1.map (qv ad)))) target → Steps p.tables e below (T.setTop (mkF mid st.1 C (st.2.2.1.map (qv ad)))) target) :
    QTri l Z n0 ad m st v σ' := by
  refine QTri.gen h (by rw [hσ]; exact Nat.le_refl _) (by rw [hσ]; exact Nat.le_refl _) fun p e R s mid args below meth c T locs cells slots C hcx X hR hF hL hC hn hc hsl => ?_
  obtain ⟨T₁, C₁, X₁, hh, L₁, C1, S₁⟩ := hs p e R s mid args below meth c T locs cells slots C hcx X hR hL hC
  refine ⟨T₁, locs, C₁, ?_, by rw [hσ, hh]; exact hR, hF, L₁, C1, S₁⟩
  rw [hσ, Nat.sub_self, Nat.sub_self]
  exact X₁
/-- a step of the frame alone -/
theorem QTri.frame {pc pc' : Nat} {L L' : QLoc} {S S' : List Value} {σ : QHeap} (h : QTri l Z n0 ad m (pc', L', S', σ) v σ')
    (hs : ∀ (p : Program) (e : Env) (R : Room) (s : State) (mid : MethodId) (args : Array Value) (below : List Frame) (meth : Method) (c : Code) (T : State) (locs : List Loc) (cells slots : Nat) (C : Array Slot),
      QCx Z p R s mid meth c m → Stand p l e R s mid args below meth c T locs cells slots → QRep Z n0 ad T.heap σ → QLocOk ad L C → C.size = c.maxLocals →
      ∃ C₁, QLocOk ad L' C₁ ∧ C₁.size = c.maxLocals ∧ ∀ target, Steps p.tables e below (T.setTop (mkF mid pc' C₁ (S'.map (qv ad)))) target → Steps p.tables e below (T.setTop (mkF mid pc C (S.map (qv ad)))) target) :
    QTri l Z n0 ad m (pc, L, S, σ) v σ' :=
  QTri.pure h rfl fun p e R s mid args below meth c T locs cells slots C hcx X hR hL hC => by
    obtain ⟨C₁, h1, h2, h3⟩ := hs p e R s mid args below meth c T locs cells slots C hcx X hR hL hC
    exact ⟨T, C₁, X, rfl, h1, h2, h3⟩
/-- a step of pc and stack alone -/
theorem QTri.stack {pc pc' : Nat} {L : QLoc} {S S' : List Value} {σ : QHeap} (h : QTri l Z n0 ad m (pc', L, S', σ) v σ')
    (hs : ∀ (p : Program) (e : Env) (R : Room) (s : State) (mid : MethodId) (args : Array Value) (below : List Frame) (meth : Method) (c : Code) (T : State) (locs : List Loc) (cells slots : Nat) (C : Array Slot) (target : State),
      p.tables.exec = Jvm.exec → Z.Warmed39 s.vm → c.code = pBytes m → s.vm.findClass (kName (pK m)) = some mid.cls → Stand p l e R s mid args below meth c T locs cells slots → QRep Z n0 ad T.heap σ → QLocOk ad L C →
      Steps p.tables e below (T.setTop (mkF mid pc' C (S'.map (qv ad)))) target → Steps p.tables e below (T.setTop (mkF mid pc C (S.map (qv ad)))) target) :
    QTri l Z n0 ad m (pc, L, S, σ) v σ' :=
  QTri.frame h fun p e R s mid args below meth c T locs cells slots C hcx X hR hL hC => ⟨C, hL, hC, fun target k => hs p e R s mid args below meth c T locs cells slots C target hcx.1 hcx.2.1 hcx.2.2.1 hcx.2.2.2.2.2.1 X hR hL k⟩
/-! ### what each helper says -/
theorem qload_inv {pc : Nat} {L : QLoc} {S : List Value} {σ : QHeap} {k : Nat} {ok : Value → Bool} {st' : QSt} (h : qload pc L S σ k ok = some st') : ∃ v, lget L k = some v ∧ ok v = true ∧ st' = (pc, L, v :: S, σ) := by
  unfold qload at h
  split at h
  · rename_i v hv
    cases ho : ok v with
    | true => rw [ho] at h; cases h; exact ⟨v, hv, ho, rfl⟩
    | false => rw [ho] at h; cases h
  · cases h
theorem qstore_inv {pc : Nat} {L : QLoc} {S : List Value} {σ : QHeap} {k : Nat} {ok : Value → Bool} {st' : QSt} (h : qstore pc L S σ k ok = some st') : ∃ v S' L', S = v :: S' ∧ ok v = true ∧ lput L k v = some L' ∧ st' = (pc, L', S', σ) := by
  unfold qstore at h
  split at h
  · rename_i v S'
    cases ho : ok v with
    | true =>
      rw [ho] at h
      simp only [cond_true] at h
      split at h
      · rename_i L' hL'
        cases h; exact ⟨v, S', L', rfl, ho, hL', rfl⟩
      · cases h
    | false => rw [ho] at h; cases h
  · cases h
theorem qbin_inv {pc : Nat} {L : QLoc} {S : List Value} {σ : QHeap} {f : Int32 → Int32 → Int32} {st' : QSt} (h : qbin pc L S σ f = some st') : ∃ x y S', S = .int y :: .int x :: S' ∧ st' = (pc, L, .int (f x y) :: S', σ) := by
  unfold qbin at h
  split at h
  · cases h; exact ⟨_, _, _, rfl, rfl⟩
  · cases h
theorem qbino_inv {pc : Nat} {L : QLoc} {S : List Value} {σ : QHeap} {f : Int32 → Int32 → Option Int32} {st' : QSt} (h : qbino pc L S σ f = some st') : ∃ x y z S', S = .int y :: .int x :: S' ∧ f x y = some z ∧ st' = (pc, L, .int z :: S', σ) := by
  unfold qbino at h
  split at h
  · obtain ⟨z, hz, h⟩ := Option.bind_eq_some_iff.mp h
    cases h; exact ⟨_, _, _, _, rfl, hz, rfl⟩
  · cases h
theorem qbinJ_inv {pc : Nat} {L : QLoc} {S : List Value} {σ : QHeap} {f : Int64 → Int64 → Int64} {st' : QSt} (h : qbinJ pc L S σ f = some st') : ∃ x y S', S = .long y :: .long x :: S' ∧ st' = (pc, L, .long (f x y) :: S', σ) := by
  unfold qbinJ at h
  split at h
  · cases h; exact ⟨_, _, _, rfl, rfl⟩
  · cases h
theorem qshJ_inv {pc : Nat} {L : QLoc} {S : List Value} {σ : QHeap} {f : Int64 → Int32 → Int64} {st' : QSt} (h : qshJ pc L S σ f = some st') : ∃ x y S', S = .int y :: .long x :: S' ∧ st' = (pc, L, .long (f x y) :: S', σ) := by
  unfold qshJ at h
  split at h
  · cases h; exact ⟨_, _, _, rfl, rfl⟩
  · cases h
theorem quni_inv {pc : Nat} {L : QLoc} {S : List Value} {σ : QHeap} {f : Int32 → Value} {st' : QSt} (h : quni pc L S σ f = some st') : ∃ x S', S = .int x :: S' ∧ st' = (pc, L, f x :: S', σ) := by
  unfold quni at h
  split at h
  · cases h; exact ⟨_, _, rfl, rfl⟩
  · cases h
theorem quniJ_inv {pc : Nat} {L : QLoc} {S : List Value} {σ : QHeap} {f : Int64 → Value} {st' : QSt} (h : quniJ pc L S σ f = some st') : ∃ x S', S = .long x :: S' ∧ st' = (pc, L, f x :: S', σ) := by
  unfold quniJ at h
  split at h
  · cases h; exact ⟨_, _, rfl, rfl⟩
  · cases h
theorem qif_inv {pc : Nat} {L : QLoc} {S : List Value} {σ : QHeap} {cd : ClassFile.Cond} {t : Nat} {st' : QSt} (h : qif pc L S σ cd t = some st') : ∃ x S', S = .int x :: S' ∧ st' = (bif ifCond.holds cd x then t else pc, L, S', σ) := by
  unfold qif at h
  split at h
  · cases h; exact ⟨_, _, rfl, rfl⟩
  · cases h
theorem qicmp_inv {pc : Nat} {L : QLoc} {S : List Value} {σ : QHeap} {cd : ClassFile.Cond} {t : Nat} {st' : QSt} (h : qicmp pc L S σ cd t = some st') : ∃ x y S', S = .int y :: .int x :: S' ∧ st' = (bif if_icmp.holds cd x y then t else pc, L, S', σ) := by
  unfold qicmp at h
  split at h
  · cases h; exact ⟨_, _, _, rfl, rfl⟩
  · cases h
theorem qget_inv {pc : Nat} {L : QLoc} {S : List Value} {σ : QHeap} {k : Nat} {st' : QSt} (h : qget pc L S σ k = some st') : ∃ a S' vs v, S = .ref a :: S' ∧ hget σ a = some (.inl vs) ∧ vget vs k = some v ∧ st' = (pc, L, v :: S', σ) := by
  unfold qget at h
  split at h
  · split at h
    · split at h
      · cases h; exact ⟨_, _, _, _, rfl, by assumption, by assumption, rfl⟩
      · cases h
    · cases h
  · cases h
theorem qput_inv {pc : Nat} {L : QLoc} {S : List Value} {σ : QHeap} {k : Nat} {st' : QSt} (h : qput pc L S σ k = some st') : ∃ v a S' vs w, S = v :: .ref a :: S' ∧ hget σ a = some (.inl vs) ∧ k0 ≤ a ∧ k < vs.length ∧ qfit (fTy k) v = some w ∧ st' = (pc, L, S', σ.set a (.inl (vs.set k w))) := by
  unfold qput at h
  split at h
  · rename_i v a S'
    split at h
    · rename_i vs hvs
      cases hbb : (Nat.ble k0 a && Nat.ble (k + 1) vs.length) with
      | false => rw [hbb] at h; cases h
      | true =>
        rw [hbb] at h
        simp only [cond_true] at h
        obtain ⟨u, hu, h⟩ := Option.bind_eq_some_iff.mp h
        cases h
        obtain ⟨b1, b2⟩ := Bool.and_eq_true_iff.mp hbb
        exact ⟨v, a, S', vs, u, rfl, hvs, Nat.le_of_ble_eq_true b1, Nat.le_of_ble_eq_true b2, hu, rfl⟩
    · cases h
  · cases h
theorem qald_inv {pc : Nat} {L : QLoc} {S : List Value} {σ : QHeap} {ok : FieldType → Bool} {st' : QSt} (h : qald pc L S σ ok = some st') : ∃ j a S' ty xs v, S = .int j :: .ref a :: S' ∧ hget σ a = some (.inr (.inl (ty, xs))) ∧ ok ty = true ∧ aget xs j = some v ∧ st' = (pc, L, .int v :: S', σ) := by
  unfold qald at h
  split at h
  · rename_i j a S'
    split at h
    · rename_i x hx
      cases ht : ok x.1 with
      | false => rw [ht] at h; cases h
      | true =>
        rw [ht] at h
        simp only [cond_true] at h
        obtain ⟨u, hu, h⟩ := Option.bind_eq_some_iff.mp h
        cases h
        exact ⟨j, a, S', x.1, x.2, u, rfl, hx, ht, hu, rfl⟩
    · cases h
  · cases h
theorem qaldJ_inv {pc : Nat} {L : QLoc} {S : List Value} {σ : QHeap} {st' : QSt} (h : qaldJ pc L S σ = some st') : ∃ j a S' xs v, S = .int j :: .ref a :: S' ∧ hget σ a = some (.inr (.inr xs)) ∧ aget xs j = some v ∧ st' = (pc, L, .long v :: S', σ) := by
  unfold qaldJ at h
  split at h
  · rename_i j a S'
    split at h
    · rename_i x hx
      obtain ⟨u, hu, h⟩ := Option.bind_eq_some_iff.mp h
      cases h
      exact ⟨j, a, S', x, u, rfl, hx, hu, rfl⟩
    · cases h
  · cases h
theorem qast_inv {pc : Nat} {L : QLoc} {S : List Value} {σ : QHeap} {ok : FieldType → Bool} {st' : QSt} (h : qast pc L S σ ok = some st') : ∃ v j a S' ty xs ys, S = .int v :: .int j :: .ref a :: S' ∧ hget σ a = some (.inr (.inl (ty, xs))) ∧ ok ty = true ∧ k0 ≤ a ∧ aset xs j (qnar ty v) = some ys ∧ st' = (pc, L, S', σ.set a (.inr (.inl (ty, ys)))) := by
  unfold qast at h
  split at h
  · rename_i v j a S'
    split at h
    · rename_i x hx
      cases ht : (ok x.1 && Nat.ble k0 a) with
      | false => rw [ht] at h; cases h
      | true =>
        rw [ht] at h
        simp only [cond_true] at h
        obtain ⟨u, hu, h⟩ := Option.bind_eq_some_iff.mp h
        cases h
        obtain ⟨b1, b2⟩ := Bool.and_eq_true_iff.mp ht
        exact ⟨v, j, a, S', x.1, x.2, u, rfl, hx, b1, Nat.le_of_ble_eq_true b2, hu, rfl⟩
    · cases h
  · cases h
theorem qastJ_inv {pc : Nat} {L : QLoc} {S : List Value} {σ : QHeap} {st' : QSt} (h : qastJ pc L S σ = some st') : ∃ v j a S' xs ys, S = .long v :: .int j :: .ref a :: S' ∧ hget σ a = some (.inr (.inr xs)) ∧ k0 ≤ a ∧ aset xs j v = some ys ∧ st' = (pc, L, S', σ.set a (.inr (.inr ys))) := by
  unfold qastJ at h
  split at h
  · rename_i v j a S'
    split at h
    · rename_i x hx
      cases ht : (Nat.ble k0 a) with
      | false => rw [ht] at h; cases h
      | true =>
        rw [ht] at h
        simp only [cond_true] at h
        obtain ⟨u, hu, h⟩ := Option.bind_eq_some_iff.mp h
        cases h
        exact ⟨v, j, a, S', x, u, rfl, hx, Nat.le_of_ble_eq_true ht, hu, rfl⟩
    · cases h
  · cases h
theorem qlen_inv {pc : Nat} {L : QLoc} {S : List Value} {σ : QHeap} {st' : QSt} (h : qlen pc L S σ = some st') : ∃ a S' n, S = .ref a :: S' ∧ ((∃ ty xs, hget σ a = some (.inr (.inl (ty, xs))) ∧ n = xs.length) ∨ ∃ xs, hget σ a = some (.inr (.inr xs)) ∧ n = xs.length) ∧ st' = (pc, L, .int n.toInt32 :: S', σ) := by
  unfold qlen at h
  split at h
  · rename_i a S'
    split at h
    · rename_i x hx
      cases h; exact ⟨a, S', _, rfl, Or.inl ⟨x.1, x.2, hx, rfl⟩, rfl⟩
    · rename_i x hx
      cases h; exact ⟨a, S', _, rfl, Or.inr ⟨x, hx, rfl⟩, rfl⟩
    · cases h
  · cases h
theorem isI_inv {v : Value} (h : isI v = true) : ∃ x, v = .int x := by cases v <;> simp [isI] at h; exact ⟨_, rfl⟩
theorem isJ_inv {v : Value} (h : isJ v = true) : ∃ x, v = .long x := by cases v <;> simp [isJ] at h; exact ⟨_, rfl⟩
theorem isR_inv {v : Value} (h : isR v = true) : ∃ x, v = .ref x := by cases v <;> simp [isR] at h; exact ⟨_, rfl⟩
theorem aget_inv {α : Type} {xs : List α} {j : Int32} {x : α} (h : aget xs j = some x) : ¬ j < 0 ∧ xs[j.toNatClampNeg]? = some x := by
  unfold aget at h
  split at h
  · cases h
  · rename_i q; exact ⟨q, h⟩
theorem aset_inv {α : Type} {xs ys : List α} {j : Int32} {x : α} (h : aset xs j x = some ys) : ¬ j < 0 ∧ j.toNatClampNeg < xs.length ∧ ys = xs.set j.toNatClampNeg x := by
  unfold aset at h
  split at h
  · cases h
  · rename_i q
    split at h
    · rename_i q2; cases h; exact ⟨q, q2, rfl⟩
    · cases h
theorem qnew_inv {n : Int32} {k : Nat} (h : qnew n = some k) : ¬ n < 0 ∧ n.toNatClampNeg = k ∧ k ≤ 67108864 := by
  unfold qnew at h
  split at h
  · cases h
  · rename_i q
    split at h
    · rename_i q2; cases h; exact ⟨q, rfl, q2⟩
    · cases h
/-! ### the heap's facts over a step -/
theorem QCellOk.other {h h' : Heap} {a b : Addr} {sl : Nat} {w : Value} {c : QCell} (H : QCellOk Z ad h b c) (W : Wr h h' a sl w) (ne : b ≠ a) : QCellOk Z ad h' b c := by
  rcases c with vs | ⟨ty, xs⟩ | xs
  · obtain ⟨h1, h2, h3⟩ := H
    exact ⟨h1.wr W, h2, fun k u hk hu => (h3 k u hk hu).other W (Or.inl ne)⟩
  · obtain ⟨c, h1, h2⟩ := H
    exact ⟨c, h1.other W ne, h2⟩
  · obtain ⟨c, h1, h2⟩ := H
    exact ⟨c, h1.other W ne, h2⟩
theorem QCellOk.ext {h h' : Heap} {b : Addr} {c : QCell} (H : QCellOk Z ad h b c) (E : Ext h h') : QCellOk Z ad h' b c := by
  rcases c with vs | ⟨ty, xs⟩ | xs
  · obtain ⟨h1, h2, h3⟩ := H
    exact ⟨h1.ext E, h2, fun k u hk hu => (h3 k u hk hu).ext E⟩
  · obtain ⟨c, h1, h2⟩ := H
    exact ⟨c, h1.ext E, h2⟩
  · obtain ⟨c, h1, h2⟩ := H
    exact ⟨c, h1.ext E, h2⟩
theorem QRep.set {h h' : Heap} {σ : QHeap} {a : Nat} {sl : Nat} {w : Value} {c d : QCell} (H : QRep Z n0 ad h σ) (Ad : QAd n0 ad) (W : Wr h h' (ad a) sl w) (hc : hget σ a = some c) (hd : QCellOk Z ad h' (ad a) d) : QRep Z n0 ad h' (σ.set a d) := by
  obtain ⟨h1, h2, h3⟩ := H
  refine ⟨by simpa using h1, by rw [W.size, h2]; simp, fun k e he => ?_⟩
  rw [hget_set hc] at he
  split at he
  · rename_i q; cases he; rw [q]; exact hd
  · rename_i q; exact (h3 k e he).other W fun z => q (Ad.2 _ _ z)
theorem QRep.push {h h' : Heap} {σ : QHeap} {c : QCell} (H : QRep Z n0 ad h σ) (Ad : QAd n0 ad) (E : Ext h h') (hs : h'.size = h.size + 1) (hc : QCellOk Z ad h' h.size c) : QRep Z n0 ad h' (σ ++ [c]) := by
  obtain ⟨h1, h2, h3⟩ := H
  refine ⟨by simp; omega, by rw [hs, h2]; simp; omega, fun k e he => ?_⟩
  rw [hget_eq] at he
  rcases Nat.lt_or_ge k σ.length with q | q
  · rw [List.getElem?_append_left q, ← hget_eq] at he
    exact (h3 k e he).ext E
  · rw [List.getElem?_append_right q] at he
    obtain rfl : k = σ.length := by
      rcases Nat.lt_or_ge (k - σ.length) 1 with z | z
      · omega
      · rw [List.getElem?_eq_none (by simpa using z)] at he; cases he
    simp at he
    rw [← he, Ad.1 _ h1, ← h2]
    exact hc
theorem mem_of_contains {α : Type} [BEq α] [LawfulBEq α] {L : List α} {a : α} (h : L.contains a = true) : a ∈ L := by simpa using h
theorem lkF_lt : ∀ t ∈ lkF, t.2.2 < nF := by decide +kernel
theorem laid_of (W : QW Z a0) {k : Nat} (hk : k < nF) : Laid Z a0 cName cName (fNm k) (fDs k) := by
  have q := (qw_lay W) k hk
  cases hf : fFin k with
  | true => rw [hf] at q; exact Or.inr q
  | false => rw [hf] at q; exact Or.inl q
theorem qfit_inv {ty : FieldType} {v w : Value} (h : qfit ty v = some w) : v = w ∧ narrow ty (qv ad w) = qv ad w ∧ fits ty (qv ad w) = true := by
  unfold qfit at h
  split at h
  · cases h; exact ⟨rfl, rfl, rfl⟩
  · rename_i x
    obtain ⟨y, hy, h⟩ := Option.bind_eq_some_iff.mp h
    cases h
    unfold qboo at hy
    split at hy
    · rename_i e; cases hy; subst e; exact ⟨rfl, rfl, rfl⟩
    · split at hy
      · rename_i e; cases hy; subst e; exact ⟨rfl, rfl, rfl⟩
      · cases hy
  · cases h; exact ⟨rfl, rfl, rfl⟩
  · cases h; exact ⟨rfl, rfl, rfl⟩
  · cases h
theorem vget_set {vs : List Value} {k j : Nat} {w : Value} (hk : k < vs.length) : vget (vs.set k w) j = if j = k then some w else vget vs j := by
  simp only [vget_eq, List.getElem?_set]
  by_cases e : k = j
  · subst e; simp [hk]
  · simp [e, Ne.symm e]
theorem ald_in {α : Type} {f : α → Value} {xs : List α} {c : Cell} {j : Int32} {x : α} (hc : c.slots = (xs.map f).toArray) (h : aget xs j = some x) : ¬ (j < 0 ∨ c.slots.size ≤ j.toNatClampNeg) ∧ c.slots[j.toNatClampNeg]? = some (f x) := by
  obtain ⟨h1, h2⟩ := aget_inv h
  have h3 := (List.getElem?_eq_some_iff.mp h2).1
  refine ⟨fun q => ?_, by rw [hc]; simp [h2]⟩
  rcases q with q | q
  · exact h1 q
  · rw [hc] at q; simp at q; omega
theorem ast_in {α : Type} {f : α → Value} {xs ys : List α} {c : Cell} {j : Int32} {x : α} (hc : c.slots = (xs.map f).toArray) (h : aset xs j x = some ys) : ¬ (j < 0 ∨ c.slots.size ≤ j.toNatClampNeg) ∧ (c.setSlot j.toNatClampNeg (f x)).slots = (ys.map f).toArray := by
  obtain ⟨h1, h2, rfl⟩ := aset_inv h
  refine ⟨fun q => ?_, by simp [Cell.setSlot, hc, List.map_set]⟩
  rcases q with q | q
  · exact h1 q
  · rw [hc] at q; simp at q; omega
theorem qgrow {σ : QHeap} {c : QCell} : qhs (σ ++ [c]) - qhs σ = qsz c := by rw [qhs_app]; simp [qhs]
set_option maxHeartbeats 4000000 in
theorem QTri.newArr (Ad : QAd n0 ad) (W : QW Z a0) {pc aux : Nat} {L : QLoc} {S : List Value} {σ : QHeap} {aty : ArrayType} {n : Int32} {k : Nat} {c : QCell} (hk : qnew n = some k) (hc : pCode m pc = some (.newarray aty, aux)) (hz : qsz c = k)
    (hq : ∀ (h' : Heap) (a : Addr) (cA : ClassId), Arr Z h' a (newA cA (newarray.typeOf aty) n) (newarray.typeOf aty) → QCellOk Z ad h' a c)
    (h : QTri l Z n0 ad m (pc + 2, L, .ref σ.length :: S, σ ++ [c]) v σ') : QTri l Z n0 ad m (pc, L, .int n :: S, σ) v σ' := by
  have hd : decode (pBytes m) pc = .ok (.newarray aty, 2) := pDecN hc rfl
  obtain ⟨n1, n2, n3⟩ := qnew_inv hk
  refine QTri.gen h (by simp) (by simp [qhs_app]) fun p e R s mid args below meth c' T locs cells slots C hcx X hR hF hL hC hn hc1 hsl => ?_
  obtain ⟨hx, hZ, hby, hml, hret, hown, hnm, hfr, hlo⟩ := hcx
  have hd2 : decode c'.code pc = .ok (.newarray aty, 2) := by rw [hby]; exact hd
  simp only [List.length_append, List.length_singleton, Nat.add_sub_cancel_left, qgrow, hz] at hc1 hsl ⊢
  obtain ⟨T₁, h₁, cA, X₁, e₁, E₁, A₁, st⟩ := newP X hx hZ (aty := aty) (qw_arr W (newarray.typeOf aty) (mem_of_contains (show aTys.contains (newarray.typeOf aty) = true from pRest hc))) rfl (g := mkF mid pc C (.int n :: S.map (qv ad))) rfl hd2 rfl n1 (cap := k) (by omega) (by omega) hc1 hsl
  have hsz : h₁.size = T.heap.size + 1 := by
    have q1 := X₁.heapSize
    have q2 : T.heap.size < h₁.size := A₁.lt
    have q3 := hR.2.1
    rw [e₁] at q1
    have : n0 + (σ.length - k0) = s.heap.size + cells := hn
    have q3' : T.heap.size = n0 + (σ.length - k0) := q3
    omega
  refine ⟨T₁, locs, C, X₁, ?_, hF, hL, hC, fun target q => ?_⟩
  · rw [e₁]; exact QRep.push hR Ad E₁ hsz (hq _ _ _ A₁)
  · refine st _ ?_
    have e2 : ad σ.length = T.heap.size := by rw [Ad.1 _ hR.1]; exact hR.2.1.symm
    simp only [List.map_cons, qv, e2] at q
    exact q
set_option maxHeartbeats 4000000 in
theorem QTri.getfield (W : QW Z a0) {pc idx aux : Nat} {L : QLoc} {S : List Value} {σ : QHeap} {st' : QSt} (h : QTri l Z n0 ad m st' v σ') (hc : pCode m pc = some (.getfield idx, aux)) (hs : qget (pc + 3) L S σ aux = some st') : QTri l Z n0 ad m (pc, L, S, σ) v σ' := by
  have hd : decode (pBytes m) pc = .ok (.getfield idx, 3) := pDecN hc rfl
  obtain ⟨a, S', vs, w, rfl, hvs, hw, rfl⟩ := qget_inv hs
  have hm := mem_of_contains (show lkF.contains (pK m, idx, aux) = true from pRest hc)
  have hlt := lkF_lt _ hm
  refine QTri.pure h rfl fun p e R s mid args below meth c T locs cells slots C hcx X hR hL hC => ?_
  obtain ⟨hx, hZ, hby, hml, hret, hown, hnm, hfr, hlo⟩ := hcx
  have hd2 : decode c.code pc = .ok (.getfield idx, 3) := by rw [hby]; exact hd
  have F := (hR.2.2 _ _ hvs).2.2 aux w hlt hw
  obtain ⟨T₁, X₁, e₁, st⟩ := getF X hx hZ hown (host := "") (index := idx) (Or.inl (qw_fl W (pK m, idx, aux) hm)) Via.refl rfl F (g := mkF mid pc C (List.map (qv ad) (.ref a :: S'))) rfl rfl hd2
  exact ⟨T₁, C, X₁, e₁, hL, hC, st⟩
set_option maxHeartbeats 4000000 in
theorem QTri.putfield (Ad : QAd n0 ad) (W : QW Z a0) {pc idx aux : Nat} {L : QLoc} {S : List Value} {σ : QHeap} {st' : QSt} (h : QTri l Z n0 ad m st' v σ') (hc : pCode m pc = some (.putfield idx, aux)) (hs : qput (pc + 3) L S σ aux = some st') : QTri l Z n0 ad m (pc, L, S, σ) v σ' := by
  have hd : decode (pBytes m) pc = .ok (.putfield idx, 3) := pDecN hc rfl
  obtain ⟨w, a, S', vs, u, rfl, hvs, b1, b2, hu, rfl⟩ := qput_inv hs
  obtain ⟨r1, r2⟩ := Bool.and_eq_true_iff.mp (show (lkF.contains (pK m, idx, aux) && (!fFin aux || (pK m == 1 && pNm m == "<init>"))) = true from pRest hc)
  have hm := mem_of_contains r1
  have hlt := lkF_lt _ hm
  obtain ⟨rfl, q2, q3⟩ := qfit_inv (ad := ad) hu
  have hsz : qhs (σ.set a (Sum.inl (vs.set aux w))) = qhs σ := qhs_set hvs rfl
  refine QTri.gen h (by simp) (by show qhs σ ≤ qhs (σ.set a (Sum.inl (vs.set aux w))); rw [hsz]; exact Nat.le_refl _) fun p e R s mid args below meth c T locs cells slots C hcx X hR hF hL hC hn hc1 hsl => ?_
  obtain ⟨hx, hZ, hby, hml, hret, hown, hnm, hfr, hlo⟩ := hcx
  have hd2 : decode c.code pc = .ok (.putfield idx, 3) := by rw [hby]; exact hd
  obtain ⟨E, l1, Fs⟩ := hR.2.2 _ _ hvs
  obtain ⟨old, hold⟩ : ∃ old, vget vs aux = some old := by rw [vget_eq]; exact ⟨_, List.getElem?_eq_getElem b2⟩
  have lay : (Cond.lays cName cName (fNm aux) (fDs aux)).before a0 Z = true ∨ ((Cond.laysFinal cName cName (fNm aux) (fDs aux)).before a0 Z = true ∧ kName (pK m) = cName ∧ meth.name = "<init>") := by
    have q := (qw_lay W) aux hlt
    cases hf : fFin aux with
    | false => rw [hf] at q; exact Or.inl q
    | true =>
      rw [hf] at q r2
      simp at r2
      exact Or.inr ⟨q, by rw [r2.1]; exact kOne, by rw [hnm]; exact r2.2⟩
  obtain ⟨T₁, h₁, X₁, e₁, W₁, st⟩ := putF X hx hZ hown (host := "") (index := idx) (Or.inl (qw_fl W (pK m, idx, aux) hm)) Via.refl rfl (Fs aux old hlt hold) E lay ((qw_inst W)) (fPrs aux hlt) q2 q3 (g := mkF mid pc C (List.map (qv ad) (w :: .ref a :: S'))) rfl rfl hd2
  refine ⟨T₁, _, C, ?_, ?_, Fr.snoc X₁ hF (by rw [Ad.1 a b1]; exact Nat.le_add_right _ _), hL, hC, st⟩
  · show Stand _ _ _ _ _ _ _ _ _ _ _ _ (cells + ((σ.set a (Sum.inl (vs.set aux w))).length - σ.length)) (slots + (qhs (σ.set a (Sum.inl (vs.set aux w))) - qhs σ))
    rw [hsz, Nat.sub_self, List.length_set, Nat.sub_self]
    exact X₁
  · rw [e₁]
    refine QRep.set hR Ad W₁ hvs ⟨E.wr W₁, by simpa using l1, fun k u hk hu => ?_⟩
    rw [vget_set b2] at hu
    split at hu
    · rename_i e; cases hu; rw [e]; exact (Fs aux old hlt hold).same W₁
    · rename_i ne
      exact (Fs k u hk hu).other W₁ (Or.inr (slot_ne (laid_of W hk) (laid_of W hlt) (fun z => ne (fInj _ hk _ hlt z)) (fPrs _ hk) (fPrs _ hlt)))
theorem tyI_inv {ty : FieldType} (h : tyI ty = true) : ty = .int := by cases ty <;> simp [tyI] at h; rfl
theorem tyB_inv {ty : FieldType} (h : tyB ty = true) : ty = .boolean ∨ ty = .byte := by cases ty <;> simp [tyB] at h <;> simp
set_option maxHeartbeats 4000000 in
theorem QTri.iaload {pc aux : Nat} {L : QLoc} {S : List Value} {σ : QHeap} {st' : QSt} (h : QTri l Z n0 ad m st' v σ') (hc : pCode m pc = some (.iaload, aux)) (hs : qald (pc + 1) L S σ tyI = some st') : QTri l Z n0 ad m (pc, L, S, σ) v σ' := by
  have hd : decode (pBytes m) pc = .ok (.iaload, 1) := pDecN hc rfl
  obtain ⟨j, a, S', ty, xs, w, rfl, hx1, ht, hw, rfl⟩ := qald_inv hs
  obtain rfl := tyI_inv ht
  refine QTri.stack h fun p e R s mid args below meth c T locs cells slots C target hx hZ hby hown X hR hL k => ?_
  have hd2 : decode c.code pc = .ok (.iaload, 1) := by rw [hby]; exact hd
  obtain ⟨cl, A, hsl⟩ := hR.2.2 _ _ hx1
  obtain ⟨i1, i2⟩ := ald_in hsl hw
  exact X.iaload hx A.1 (State.isArrayOf_alike hZ.alike A.2.1) A.2.2 i1 i2 (g := mkF mid pc C (List.map (qv ad) (.int j :: .ref a :: S'))) rfl rfl hd2 _ k
set_option maxHeartbeats 4000000 in
theorem QTri.baload {pc aux : Nat} {L : QLoc} {S : List Value} {σ : QHeap} {st' : QSt} (h : QTri l Z n0 ad m st' v σ') (hc : pCode m pc = some (.baload, aux)) (hs : qald (pc + 1) L S σ tyB = some st') : QTri l Z n0 ad m (pc, L, S, σ) v σ' := by
  have hd : decode (pBytes m) pc = .ok (.baload, 1) := pDecN hc rfl
  obtain ⟨j, a, S', ty, xs, w, rfl, hx1, ht, hw, rfl⟩ := qald_inv hs
  refine QTri.stack h fun p e R s mid args below meth c T locs cells slots C target hx hZ hby hown X hR hL k => ?_
  have hd2 : decode c.code pc = .ok (.baload, 1) := by rw [hby]; exact hd
  obtain ⟨cl, A, hsl⟩ := hR.2.2 _ _ hx1
  obtain ⟨i1, i2⟩ := ald_in hsl hw
  rcases tyB_inv ht with rfl | rfl
  · exact X.baloadBooleans hx A.1 (State.isArrayOf_alike hZ.alike A.2.1) A.2.2 i1 i2 (g := mkF mid pc C (List.map (qv ad) (.int j :: .ref a :: S'))) rfl rfl hd2 _ k
  · exact X.baloadBytes hx A.1 (State.isArrayOf_alike hZ.alike A.2.1) A.2.2 i1 i2 (g := mkF mid pc C (List.map (qv ad) (.int j :: .ref a :: S'))) rfl rfl hd2 _ k
set_option maxHeartbeats 4000000 in
theorem QTri.laload {pc aux : Nat} {L : QLoc} {S : List Value} {σ : QHeap} {st' : QSt} (h : QTri l Z n0 ad m st' v σ') (hc : pCode m pc = some (.laload, aux)) (hs : qaldJ (pc + 1) L S σ = some st') : QTri l Z n0 ad m (pc, L, S, σ) v σ' := by
  have hd : decode (pBytes m) pc = .ok (.laload, 1) := pDecN hc rfl
  obtain ⟨j, a, S', xs, w, rfl, hx1, hw, rfl⟩ := qaldJ_inv hs
  refine QTri.stack h fun p e R s mid args below meth c T locs cells slots C target hx hZ hby hown X hR hL k => ?_
  have hd2 : decode c.code pc = .ok (.laload, 1) := by rw [hby]; exact hd
  obtain ⟨cl, A, hsl⟩ := hR.2.2 _ _ hx1
  obtain ⟨i1, i2⟩ := ald_in hsl hw
  exact X.laload hx A.1 (State.isArrayOf_alike hZ.alike A.2.1) A.2.2 i1 i2 (g := mkF mid pc C (List.map (qv ad) (.int j :: .ref a :: S'))) rfl rfl hd2 _ k
/-- behind a store into an array -/
theorem QTri.stored (Ad : QAd n0 ad) {pc : Nat} {L : QLoc} {S S' : List Value} {σ : QHeap} {a j : Nat} {w : Value} {c d : QCell} (hx1 : hget σ a = some c) (b1 : k0 ≤ a) (hz : qsz d = qsz c) (h : QTri l Z n0 ad m (pc + 1, L, S', σ.set a d) v σ')
    (hs : ∀ (p : Program) (e : Env) (R : Room) (s : State) (mid : MethodId) (args : Array Value) (below : List Frame) (meth : Method) (c : Code) (T : State) (locs : List Loc) (cells slots : Nat) (C : Array Slot),
      QCx Z p R s mid meth c m → Stand p l e R s mid args below meth c T locs cells slots → QRep Z n0 ad T.heap σ →
      ∃ T' h', Stand p l e R s mid args below meth c T' (locs ++ [⟨ad a, j⟩]) cells slots ∧ T'.heap = h' ∧ Wr T.heap h' (ad a) j w ∧ QCellOk Z ad h' (ad a) d ∧ ∀ target, Steps p.tables e below (T'.setTop (mkF mid (pc + 1) C (S'.map (qv ad)))) target → Steps p.tables e below (T.setTop (mkF mid pc C (S.map (qv ad)))) target) :
    QTri l Z n0 ad m (pc, L, S, σ) v σ' := by
  have hsz : qhs (σ.set a d) = qhs σ := qhs_set hx1 hz
  refine QTri.gen h (by simp) (by show qhs σ ≤ qhs (σ.set a d); rw [hsz]; exact Nat.le_refl _) fun p e R s mid args below meth c T locs cells slots C hcx X hR hF hL hC hn hc1 hsl => ?_
  obtain ⟨T₁, h₁, X₁, e₁, W₁, Q₁, st⟩ := hs p e R s mid args below meth c T locs cells slots C hcx X hR
  refine ⟨T₁, _, C, ?_, ?_, Fr.snoc X₁ hF (by rw [Ad.1 a b1]; exact Nat.le_add_right _ _), hL, hC, st⟩
  · show Stand _ _ _ _ _ _ _ _ _ _ _ _ (cells + ((σ.set a d).length - σ.length)) (slots + (qhs (σ.set a d) - qhs σ))
    rw [hsz, Nat.sub_self, List.length_set, Nat.sub_self]
    exact X₁
  · rw [e₁]
    exact QRep.set hR Ad W₁ hx1 Q₁
set_option maxHeartbeats 4000000 in
theorem QTri.iastore (Ad : QAd n0 ad) {pc aux : Nat} {L : QLoc} {S : List Value} {σ : QHeap} {st' : QSt} (h : QTri l Z n0 ad m st' v σ') (hc : pCode m pc = some (.iastore, aux)) (hs : qast (pc + 1) L S σ tyI = some st') : QTri l Z n0 ad m (pc, L, S, σ) v σ' := by
  have hd : decode (pBytes m) pc = .ok (.iastore, 1) := pDecN hc rfl
  obtain ⟨w, j, a, S', ty, xs, ys, rfl, hx1, ht, b1, hw, rfl⟩ := qast_inv hs
  obtain rfl := tyI_inv ht
  refine QTri.stored Ad (j := j.toNatClampNeg) (w := .int w) hx1 b1 (by rw [(aset_inv hw).2.2]; simp [qsz]) h fun p e R s mid args below meth c T locs cells slots C hcx X hR => ?_
  have hd2 : decode c.code pc = .ok (.iastore, 1) := by rw [hcx.2.2.1]; exact hd
  obtain ⟨cl, A, hsl⟩ := hR.2.2 _ _ hx1
  obtain ⟨i1, i2⟩ := ast_in hsl hw
  obtain ⟨T₁, h₁, X₁, e₁, W₁, st⟩ := stI X hcx.1 hcx.2.1 rfl A i1 (g := mkF mid pc C (List.map (qv ad) (.int w :: .int j :: .ref a :: S'))) rfl rfl hd2
  exact ⟨T₁, h₁, X₁, e₁, W₁, ⟨_, A.same W₁, i2⟩, st⟩
set_option maxHeartbeats 4000000 in
theorem QTri.bastore (Ad : QAd n0 ad) {pc aux : Nat} {L : QLoc} {S : List Value} {σ : QHeap} {st' : QSt} (h : QTri l Z n0 ad m st' v σ') (hc : pCode m pc = some (.bastore, aux)) (hs : qast (pc + 1) L S σ tyB = some st') : QTri l Z n0 ad m (pc, L, S, σ) v σ' := by
  have hd : decode (pBytes m) pc = .ok (.bastore, 1) := pDecN hc rfl
  obtain ⟨w, j, a, S', ty, xs, ys, rfl, hx1, ht, b1, hw, rfl⟩ := qast_inv hs
  refine QTri.stored Ad (j := j.toNatClampNeg) (w := .int (qnar ty w)) hx1 b1 (by rw [(aset_inv hw).2.2]; simp [qsz]) h fun p e R s mid args below meth c T locs cells slots C hcx X hR => ?_
  have hd2 : decode c.code pc = .ok (.bastore, 1) := by rw [hcx.2.2.1]; exact hd
  obtain ⟨cl, A, hsl⟩ := hR.2.2 _ _ hx1
  obtain ⟨i1, i2⟩ := ast_in hsl hw
  rcases tyB_inv ht with rfl | rfl
  · obtain ⟨T₁, h₁, X₁, e₁, W₁, st⟩ := stZ X hcx.1 hcx.2.1 rfl A i1 (g := mkF mid pc C (List.map (qv ad) (.int w :: .int j :: .ref a :: S'))) rfl rfl hd2
    exact ⟨T₁, h₁, X₁, e₁, W₁, ⟨_, A.same W₁, i2⟩, st⟩
  · obtain ⟨T₁, h₁, X₁, e₁, W₁, st⟩ := stB X hcx.1 hcx.2.1 rfl A i1 (g := mkF mid pc C (List.map (qv ad) (.int w :: .int j :: .ref a :: S'))) rfl rfl hd2
    exact ⟨T₁, h₁, X₁, e₁, W₁, ⟨_, A.same W₁, i2⟩, st⟩
set_option maxHeartbeats 4000000 in
theorem QTri.lastore (Ad : QAd n0 ad) {pc aux : Nat} {L : QLoc} {S : List Value} {σ : QHeap} {st' : QSt} (h : QTri l Z n0 ad m st' v σ') (hc : pCode m pc = some (.lastore, aux)) (hs : qastJ (pc + 1) L S σ = some st') : QTri l Z n0 ad m (pc, L, S, σ) v σ' := by
  have hd : decode (pBytes m) pc = .ok (.lastore, 1) := pDecN hc rfl
  obtain ⟨w, j, a, S', xs, ys, rfl, hx1, b1, hw, rfl⟩ := qastJ_inv hs
  refine QTri.stored Ad (j := j.toNatClampNeg) (w := .long w) hx1 b1 (by rw [(aset_inv hw).2.2]; simp [qsz]) h fun p e R s mid args below meth c T locs cells slots C hcx X hR => ?_
  have hd2 : decode c.code pc = .ok (.lastore, 1) := by rw [hcx.2.2.1]; exact hd
  obtain ⟨cl, A, hsl⟩ := hR.2.2 _ _ hx1
  obtain ⟨i1, i2⟩ := ast_in hsl hw
  obtain ⟨T₁, h₁, X₁, e₁, W₁, st⟩ := stJ X hcx.1 hcx.2.1 rfl A i1 (g := mkF mid pc C (List.map (qv ad) (.long w :: .int j :: .ref a :: S'))) rfl rfl hd2
  exact ⟨T₁, h₁, X₁, e₁, W₁, ⟨_, A.same W₁, i2⟩, st⟩
set_option maxHeartbeats 4000000 in
theorem QTri.alen {pc aux : Nat} {L : QLoc} {S : List Value} {σ : QHeap} {st' : QSt} (h : QTri l Z n0 ad m st' v σ') (hc : pCode m pc = some (.arraylength, aux)) (hs : qlen (pc + 1) L S σ = some st') : QTri l Z n0 ad m (pc, L, S, σ) v σ' := by
  have hd : decode (pBytes m) pc = .ok (.arraylength, 1) := pDecN hc rfl
  obtain ⟨a, S', n, rfl, hx1, rfl⟩ := qlen_inv hs
  refine QTri.stack h fun p e R s mid args below meth c T locs cells slots C target hx hZ hby hown X hR hL k => ?_
  have hd2 : decode c.code pc = .ok (.arraylength, 1) := by rw [hby]; exact hd
  rcases hx1 with ⟨ty, xs, hx1, rfl⟩ | ⟨xs, hx1, rfl⟩
  · obtain ⟨cl, A, hsl⟩ := hR.2.2 _ _ hx1
    have e1 : cl.slots.size = xs.length := by rw [hsl]; simp
    rw [← e1] at k
    exact X.arraylength hx A.1 (State.isArrayOf_alike hZ.alike A.2.1) (g := mkF mid pc C (List.map (qv ad) (.ref a :: S'))) rfl rfl hd2 _ k
  · obtain ⟨cl, A, hsl⟩ := hR.2.2 _ _ hx1
    have e1 : cl.slots.size = xs.length := by rw [hsl]; simp
    rw [← e1] at k
    exact X.arraylength hx A.1 (State.isArrayOf_alike hZ.alike A.2.1) (g := mkF mid pc C (List.map (qv ad) (.ref a :: S'))) rfl rfl hd2 _ k
set_option maxHeartbeats 4000000 in
theorem QTri.newObj (Ad : QAd n0 ad) (W : QW Z a0) {pc idx aux : Nat} {L : QLoc} {S : List Value} {σ : QHeap} (h : QTri l Z n0 ad m (pc + 3, L, .ref σ.length :: S, σ ++ [.inl cDef]) v σ') (hc : pCode m pc = some (.new idx, aux)) : QTri l Z n0 ad m (pc, L, S, σ) v σ' := by
  have hd : decode (pBytes m) pc = .ok (.new idx, 3) := pDecN hc rfl
  have hm := mem_of_contains (show lkN.contains (pK m, idx) = true from pRest hc)
  refine QTri.gen h (by simp) (by simp [qhs_app]) fun p e R s mid args below meth c T locs cells slots C hcx X hR hF hL hC hn hc1 hsl => ?_
  obtain ⟨hx, hZ, hby, hml, hret, hown, hnm, hfr, hlo⟩ := hcx
  have hd2 : decode c.code pc = .ok (.new idx, 3) := by rw [hby]; exact hd
  simp only [List.length_append, List.length_singleton, Nat.add_sub_cancel_left, qgrow, qsz] at hc1 hsl ⊢
  obtain ⟨T₁, h₁, X₁, e₁, E₁, A₁, D₁, -, st⟩ := newO X hx hZ hown (index := idx) (qw_nw W (pK m, idx) hm) ((qw_inst W)) ((qw_init W)) rfl (g := mkF mid pc C (S.map (qv ad))) rfl hd2 hc1 hsl
  have hsz : h₁.size = T.heap.size + 1 := by
    have q1 := X₁.heapSize
    have q2 : T.heap.size < h₁.size := A₁.lt
    have q3 : T.heap.size = n0 + (σ.length - k0) := hR.2.1
    rw [e₁] at q1
    have : n0 + (σ.length - k0) = s.heap.size + cells := hn
    omega
  refine ⟨T₁, locs, C, X₁, ?_, hF, hL, hC, fun target q => ?_⟩
  · rw [e₁]
    refine QRep.push hR Ad E₁ hsz ⟨A₁, cDefL, fun k u hk hu => ?_⟩
    rw [cDefs k hk] at hu
    cases hu
    have e3 : qv ad (defaultValue (fTy k)) = defaultValue (fTy k) := by
      cases hq : defaultValue (fTy k) with
      | ref a => exact absurd hq (fDef k hk a)
      | _ => rfl
    rw [e3]
    exact D₁ (laid_of W hk) (fPrs k hk)
  · refine st _ ?_
    have e2 : ad σ.length = T.heap.size := by rw [Ad.1 _ hR.1]; exact hR.2.1.symm
    simp only [List.map_cons, qv, e2] at q
    exact q
set_option maxHeartbeats 8000000 in
theorem QTri.step (Ad : QAd n0 ad) (W : QW Z a0) {st st' : QSt} (h : QTri l Z n0 ad m st' v σ') (hs : qstep m st = some st') : QTri l Z n0 ad m st v σ' := by
  obtain ⟨pc, L, S, σ⟩ := st
  unfold qstep at hs
  dsimp only at hs
  split at hs
  rotate_left
  · cases hs
  rename_i i aux hc
  have hd := pDecN hc rfl
  have hr := pRest hc
  unfold qexec at hs
  split at hs
  · -- aload_n
    obtain ⟨w, h1, h2, rfl⟩ := qload_inv hs
    obtain ⟨a, rfl⟩ := isR_inv h2
    exact QTri.stack h fun p e R s mid args below meth c T locs cells slots C target hx hZ hby hown X hR hL k => XS.aloadN X.here hx rfl (hb hby hd) (hL.2.1 _ _ h1) rfl k
  · obtain ⟨w, h1, h2, rfl⟩ := qload_inv hs
    obtain ⟨a, rfl⟩ := isR_inv h2
    exact QTri.stack h fun p e R s mid args below meth c T locs cells slots C target hx hZ hby hown X hR hL k => XS.aload X.here hx rfl (hb hby hd) (hL.2.1 _ _ h1) rfl k
  · obtain ⟨w, h1, h2, rfl⟩ := qload_inv hs
    obtain ⟨a, rfl⟩ := isI_inv h2
    exact QTri.stack h fun p e R s mid args below meth c T locs cells slots C target hx hZ hby hown X hR hL k => XS.iloadN X.here hx rfl (hb hby hd) (hL.2.1 _ _ h1) k
  · obtain ⟨w, h1, h2, rfl⟩ := qload_inv hs
    obtain ⟨a, rfl⟩ := isI_inv h2
    exact QTri.stack h fun p e R s mid args below meth c T locs cells slots C target hx hZ hby hown X hR hL k => XS.iload X.here hx rfl (hb hby hd) (hL.2.1 _ _ h1) k
  · obtain ⟨w, h1, h2, rfl⟩ := qload_inv hs
    obtain ⟨a, rfl⟩ := isJ_inv h2
    exact QTri.stack h fun p e R s mid args below meth c T locs cells slots C target hx hZ hby hown X hR hL k => XT.lloadN X.here hx rfl (hb hby hd) (hL.2.1 _ _ h1) k
  · obtain ⟨w, h1, h2, rfl⟩ := qload_inv hs
    obtain ⟨a, rfl⟩ := isJ_inv h2
    exact QTri.stack h fun p e R s mid args below meth c T locs cells slots C target hx hZ hby hown X hR hL k => XT.lload X.here hx rfl (hb hby hd) (hL.2.1 _ _ h1) k
  · cases hs -- iconst
    exact QTri.stack h fun p e R s mid args below meth c T locs cells slots C target hx hZ hby hown X hR hL k => XS.iconst X.here hx rfl (hb hby hd) k
  · cases hs
    exact QTri.stack h fun p e R s mid args below meth c T locs cells slots C target hx hZ hby hown X hR hL k => XS.bipush X.here hx rfl (hb hby hd) k
  · cases hs
    exact QTri.stack h fun p e R s mid args below meth c T locs cells slots C target hx hZ hby hown X hR hL k => XS.sipush X.here hx rfl (hb hby hd) k
  · cases hs
    exact QTri.stack h fun p e R s mid args below meth c T locs cells slots C target hx hZ hby hown X hR hL k => XT.lconst X.here hx rfl (hb hby hd) k
  · -- ldc
    unfold qldc at hs
    split at hs
    · rename_i w hw
      cases hs
      obtain ⟨x, hx1, hx2⟩ := qw_cI W (pK m, _, aux) (mem_of_contains (show lkC.contains (pK m, _, aux) = true from hr))
      rw [show vget cK aux = some w from hw] at hx1
      cases hx1
      exact QTri.stack h fun p e R s mid args below meth c T locs cells slots C target hx hZ hby hown X hR hL k => X.ldcI hx hown (mv hZ hx2) rfl (hb hby hd) k
    · cases hs
  · unfold qldc at hs
    split at hs
    · rename_i w hw
      cases hs
      obtain ⟨x, hx1, hx2⟩ := qw_cJ W (pK m, _, aux) (mem_of_contains (show lkD.contains (pK m, _, aux) = true from hr))
      rw [show vget cK aux = some w from hw] at hx1
      cases hx1
      exact QTri.stack h fun p e R s mid args below meth c T locs cells slots C target hx hZ hby hown X hR hL k => X.ldc2J hx hown (mv hZ hx2) rfl (hb hby hd) k
    · cases hs
  · -- istore_n
    obtain ⟨w, S', L', rfl, h2, h3, rfl⟩ := qstore_inv hs
    obtain ⟨a, rfl⟩ := isI_inv h2
    exact QTri.frame h fun p e R s mid args below meth c T locs cells slots C hcx X hR hL hC => by
      obtain ⟨D, d1, d2, d3⟩ := store_ok hL h3
      exact ⟨D, d2, d3.trans hC, fun target k => XS.istoreN X.here hcx.1 rfl (hb hcx.2.2.1 hd) rfl d1 k⟩
  · obtain ⟨w, S', L', rfl, h2, h3, rfl⟩ := qstore_inv hs
    obtain ⟨a, rfl⟩ := isI_inv h2
    exact QTri.frame h fun p e R s mid args below meth c T locs cells slots C hcx X hR hL hC => by
      obtain ⟨D, d1, d2, d3⟩ := store_ok hL h3
      exact ⟨D, d2, d3.trans hC, fun target k => XS.istore X.here hcx.1 rfl (hb hcx.2.2.1 hd) rfl d1 k⟩
  · obtain ⟨w, S', L', rfl, h2, h3, rfl⟩ := qstore_inv hs
    obtain ⟨a, rfl⟩ := isJ_inv h2
    exact QTri.frame h fun p e R s mid args below meth c T locs cells slots C hcx X hR hL hC => by
      obtain ⟨D, d1, d2, d3⟩ := store_ok hL h3
      exact ⟨D, d2, d3.trans hC, fun target k => XT.lstoreN X.here hcx.1 rfl (hb hcx.2.2.1 hd) rfl d1 k⟩
  · obtain ⟨w, S', L', rfl, h2, h3, rfl⟩ := qstore_inv hs
    obtain ⟨a, rfl⟩ := isJ_inv h2
    exact QTri.frame h fun p e R s mid args below meth c T locs cells slots C hcx X hR hL hC => by
      obtain ⟨D, d1, d2, d3⟩ := store_ok hL h3
      exact ⟨D, d2, d3.trans hC, fun target k => XT.lstore X.here hcx.1 rfl (hb hcx.2.2.1 hd) rfl d1 k⟩
  · obtain ⟨w, S', L', rfl, h2, h3, rfl⟩ := qstore_inv hs
    obtain ⟨a, rfl⟩ := isR_inv h2
    exact QTri.frame h fun p e R s mid args below meth c T locs cells slots C hcx X hR hL hC => by
      obtain ⟨D, d1, d2, d3⟩ := store_ok hL h3
      exact ⟨D, d2, d3.trans hC, fun target k => XS.astoreN X.here hcx.1 rfl (hb hcx.2.2.1 hd) rfl rfl d1 k⟩
  · obtain ⟨w, S', L', rfl, h2, h3, rfl⟩ := qstore_inv hs
    obtain ⟨a, rfl⟩ := isR_inv h2
    exact QTri.frame h fun p e R s mid args below meth c T locs cells slots C hcx X hR hL hC => by
      obtain ⟨D, d1, d2, d3⟩ := store_ok hL h3
      exact ⟨D, d2, d3.trans hC, fun target k => XS.astore X.here hcx.1 rfl (hb hcx.2.2.1 hd) rfl rfl d1 k⟩
  · -- iinc
    unfold qinc at hs
    split at hs
    · rename_i x hx1
      split at hs
      · rename_i L' hL'
        cases hs
        exact QTri.frame h fun p e R s mid args below meth c T locs cells slots C hcx X hR hL hC => by
          obtain ⟨D, d1, d2, d3⟩ := store_ok hL hL'
          exact ⟨D, d2, d3.trans hC, fun target k => XS.iinc X.here hcx.1 rfl (hb hcx.2.2.1 hd) (hL.2.1 _ _ hx1) d1 k⟩
      · cases hs
    · cases hs
  · obtain ⟨x, y, S', rfl, rfl⟩ := qbin_inv hs -- iadd
    exact QTri.stack h fun p e R s mid args below meth c T locs cells slots C target hx hZ hby hown X hR hL k => XS.iadd X.here hx rfl (hb hby hd) rfl k
  · obtain ⟨x, y, S', rfl, rfl⟩ := qbin_inv hs
    exact QTri.stack h fun p e R s mid args below meth c T locs cells slots C target hx hZ hby hown X hR hL k => XS.isub X.here hx rfl (hb hby hd) rfl k
  · obtain ⟨x, y, S', rfl, rfl⟩ := qbin_inv hs
    exact QTri.stack h fun p e R s mid args below meth c T locs cells slots C target hx hZ hby hown X hR hL k => XS.imul X.here hx rfl (hb hby hd) rfl k
  · obtain ⟨x, y, S', rfl, rfl⟩ := qbin_inv hs
    exact QTri.stack h fun p e R s mid args below meth c T locs cells slots C target hx hZ hby hown X hR hL k => XS.iand X.here hx rfl (hb hby hd) rfl k
  · obtain ⟨x, y, S', rfl, rfl⟩ := qbin_inv hs
    exact QTri.stack h fun p e R s mid args below meth c T locs cells slots C target hx hZ hby hown X hR hL k => XT.ior X.here hx rfl (hb hby hd) rfl k
  · obtain ⟨x, y, S', rfl, rfl⟩ := qbin_inv hs
    exact QTri.stack h fun p e R s mid args below meth c T locs cells slots C target hx hZ hby hown X hR hL k => XT.ixor X.here hx rfl (hb hby hd) rfl k
  · obtain ⟨x, y, S', rfl, rfl⟩ := qbin_inv hs
    exact QTri.stack h fun p e R s mid args below meth c T locs cells slots C target hx hZ hby hown X hR hL k => XT.ishl X.here hx rfl (hb hby hd) rfl k
  · obtain ⟨x, y, S', rfl, rfl⟩ := qbin_inv hs
    exact QTri.stack h fun p e R s mid args below meth c T locs cells slots C target hx hZ hby hown X hR hL k => XT.ishr X.here hx rfl (hb hby hd) rfl k
  · obtain ⟨x, y, S', rfl, rfl⟩ := qbin_inv hs
    exact QTri.stack h fun p e R s mid args below meth c T locs cells slots C target hx hZ hby hown X hR hL k => XT.iushr X.here hx rfl (hb hby hd) rfl k
  · obtain ⟨x, y, z, S', rfl, hz, rfl⟩ := qbino_inv hs -- idiv
    unfold qdiv at hz
    split at hz
    · cases hz
    · rename_i hy
      cases hz
      exact QTri.stack h fun p e R s mid args below meth c T locs cells slots C target hx hZ hby hown X hR hL k => XS.idiv X.here hx rfl (hb hby hd) rfl hy k
  · obtain ⟨x, y, z, S', rfl, hz, rfl⟩ := qbino_inv hs
    unfold qrem at hz
    split at hz
    · cases hz
    · rename_i hy
      cases hz
      exact QTri.stack h fun p e R s mid args below meth c T locs cells slots C target hx hZ hby hown X hR hL k => iremM X hx rfl (hb hby hd) rfl hy k
  · obtain ⟨x, S', rfl, rfl⟩ := quni_inv hs -- ineg
    exact QTri.stack h fun p e R s mid args below meth c T locs cells slots C target hx hZ hby hown X hR hL k => XS.ineg X.here hx rfl (hb hby hd) rfl k
  · obtain ⟨x, S', rfl, rfl⟩ := quni_inv hs
    exact QTri.stack h fun p e R s mid args below meth c T locs cells slots C target hx hZ hby hown X hR hL k => XT.i2l X.here hx rfl (hb hby hd) rfl k
  · obtain ⟨x, S', rfl, rfl⟩ := quni_inv hs
    exact QTri.stack h fun p e R s mid args below meth c T locs cells slots C target hx hZ hby hown X hR hL k => XT.i2b X.here hx rfl (hb hby hd) rfl k
  · obtain ⟨x, S', rfl, rfl⟩ := quniJ_inv hs
    exact QTri.stack h fun p e R s mid args below meth c T locs cells slots C target hx hZ hby hown X hR hL k => XT.l2i X.here hx rfl (hb hby hd) rfl k
  · obtain ⟨x, S', rfl, rfl⟩ := quniJ_inv hs
    exact QTri.stack h fun p e R s mid args below meth c T locs cells slots C target hx hZ hby hown X hR hL k => XT.lneg X.here hx rfl (hb hby hd) rfl k
  · obtain ⟨x, y, S', rfl, rfl⟩ := qbinJ_inv hs
    exact QTri.stack h fun p e R s mid args below meth c T locs cells slots C target hx hZ hby hown X hR hL k => XT.ladd X.here hx rfl (hb hby hd) rfl k
  · obtain ⟨x, y, S', rfl, rfl⟩ := qbinJ_inv hs
    exact QTri.stack h fun p e R s mid args below meth c T locs cells slots C target hx hZ hby hown X hR hL k => XT.lsub X.here hx rfl (hb hby hd) rfl k
  · obtain ⟨x, y, S', rfl, rfl⟩ := qbinJ_inv hs
    exact QTri.stack h fun p e R s mid args below meth c T locs cells slots C target hx hZ hby hown X hR hL k => XT.lmul X.here hx rfl (hb hby hd) rfl k
  · obtain ⟨x, y, S', rfl, rfl⟩ := qbinJ_inv hs
    exact QTri.stack h fun p e R s mid args below meth c T locs cells slots C target hx hZ hby hown X hR hL k => XT.land X.here hx rfl (hb hby hd) rfl k
  · obtain ⟨x, y, S', rfl, rfl⟩ := qbinJ_inv hs
    exact QTri.stack h fun p e R s mid args below meth c T locs cells slots C target hx hZ hby hown X hR hL k => XT.lor X.here hx rfl (hb hby hd) rfl k
  · obtain ⟨x, y, S', rfl, rfl⟩ := qbinJ_inv hs
    exact QTri.stack h fun p e R s mid args below meth c T locs cells slots C target hx hZ hby hown X hR hL k => XT.lxor X.here hx rfl (hb hby hd) rfl k
  · obtain ⟨x, y, S', rfl, rfl⟩ := qshJ_inv hs
    exact QTri.stack h fun p e R s mid args below meth c T locs cells slots C target hx hZ hby hown X hR hL k => XT.lshl X.here hx rfl (hb hby hd) rfl k
  · obtain ⟨x, y, S', rfl, rfl⟩ := qshJ_inv hs
    exact QTri.stack h fun p e R s mid args below meth c T locs cells slots C target hx hZ hby hown X hR hL k => XT.lshr X.here hx rfl (hb hby hd) rfl k
  · obtain ⟨x, y, S', rfl, rfl⟩ := qshJ_inv hs
    exact QTri.stack h fun p e R s mid args below meth c T locs cells slots C target hx hZ hby hown X hR hL k => XT.lushr X.here hx rfl (hb hby hd) rfl k
  · split at hs -- lcmp
    · cases hs
      exact QTri.stack h fun p e R s mid args below meth c T locs cells slots C target hx hZ hby hown X hR hL k => XT.lcmp X.here hx rfl (hb hby hd) rfl k
    · cases hs
  · cases hs -- goto
    obtain ⟨t1, t2⟩ := qtgt_spec hr
    exact QTri.stack h fun p e R s mid args below meth c T locs cells slots C target hx hZ hby hown X hR hL k => XS.goto X.here hx rfl rfl (hb hby hd) t1 t2 k
  · obtain ⟨x, S', rfl, rfl⟩ := qif_inv hs
    obtain ⟨t1, t2⟩ := qtgt_spec hr
    cases hh : ifCond.holds _ x with
    | true => rw [hh] at h; exact QTri.stack h fun p e R s mid args below meth c T locs cells slots C target hx hZ hby hown X hR hL k => XS.ifYes X.here hx rfl rfl (hb hby hd) rfl hh t1 t2 k
    | false => rw [hh] at h; exact QTri.stack h fun p e R s mid args below meth c T locs cells slots C target hx hZ hby hown X hR hL k => XS.ifNo X.here hx rfl (hb hby hd) rfl hh k
  · obtain ⟨x, y, S', rfl, rfl⟩ := qicmp_inv hs
    obtain ⟨t1, t2⟩ := qtgt_spec hr
    cases hh : if_icmp.holds _ x y with
    | true => rw [hh] at h; exact QTri.stack h fun p e R s mid args below meth c T locs cells slots C target hx hZ hby hown X hR hL k => XS.icmpYes X.here hx rfl rfl (hb hby hd) rfl hh t1 t2 k
    | false => rw [hh] at h; exact QTri.stack h fun p e R s mid args below meth c T locs cells slots C target hx hZ hby hown X hR hL k => XS.icmpNo X.here hx rfl (hb hby hd) rfl hh k
  · unfold qdup at hs
    split at hs
    · cases hs
      exact QTri.stack h fun p e R s mid args below meth c T locs cells slots C target hx hZ hby hown X hR hL k => XS.dup X.here hx rfl (hb hby hd) rfl rfl k
    · cases hs
      exact QTri.stack h fun p e R s mid args below meth c T locs cells slots C target hx hZ hby hown X hR hL k => XS.dup X.here hx rfl (hb hby hd) rfl rfl k
    · cases hs
  · unfold qdup2 at hs
    split at hs
    · cases hs
      exact QTri.stack h fun p e R s mid args below meth c T locs cells slots C target hx hZ hby hown X hR hL k => XT.dup2 X.here hx rfl (hb hby hd) rfl rfl rfl k
    · cases hs
      exact QTri.stack h fun p e R s mid args below meth c T locs cells slots C target hx hZ hby hown X hR hL k => XT.dup2 X.here hx rfl (hb hby hd) rfl rfl rfl k
    · cases hs
      exact QTri.stack h fun p e R s mid args below meth c T locs cells slots C target hx hZ hby hown X hR hL k => XT.dup2L X.here hx rfl (hb hby hd) rfl k
    · cases hs
  · unfold qpop at hs
    split at hs
    · cases hs
      exact QTri.stack h fun p e R s mid args below meth c T locs cells slots C target hx hZ hby hown X hR hL k => XT.pop X.here hx rfl (hb hby hd) rfl rfl k
    · cases hs
      exact QTri.stack h fun p e R s mid args below meth c T locs cells slots C target hx hZ hby hown X hR hL k => XT.pop X.here hx rfl (hb hby hd) rfl rfl k
    · cases hs
  · exact QTri.getfield W h hc hs
  · exact QTri.putfield Ad W h hc hs
  · exact QTri.iaload h hc hs
  · exact QTri.baload h hc hs
  · exact QTri.laload h hc hs
  · exact QTri.iastore Ad h hc hs
  · exact QTri.bastore Ad h hc hs
  · exact QTri.lastore Ad h hc hs
  · exact QTri.alen h hc hs
  · -- newarray
    unfold qnewA at hs
    split at hs
    · split at hs
      · obtain ⟨k, hk, hs⟩ := Option.bind_eq_some_iff.mp hs
        cases hs
        exact QTri.newArr (c := .inr (.inl (.int, List.replicate k 0))) Ad W hk hc (by simp [qsz]) (fun h' a cA A => ⟨_, A, by simp [newA, (qnew_inv hk).2.1]; exact Or.inr rfl⟩) h
      · obtain ⟨k, hk, hs⟩ := Option.bind_eq_some_iff.mp hs
        cases hs
        exact QTri.newArr (c := .inr (.inl (.boolean, List.replicate k 0))) Ad W hk hc (by simp [qsz]) (fun h' a cA A => ⟨_, A, by simp [newA, (qnew_inv hk).2.1]; exact Or.inr rfl⟩) h
      · obtain ⟨k, hk, hs⟩ := Option.bind_eq_some_iff.mp hs
        cases hs
        exact QTri.newArr (c := .inr (.inl (.byte, List.replicate k 0))) Ad W hk hc (by simp [qsz]) (fun h' a cA A => ⟨_, A, by simp [newA, (qnew_inv hk).2.1]; exact Or.inr rfl⟩) h
      · obtain ⟨k, hk, hs⟩ := Option.bind_eq_some_iff.mp hs
        cases hs
        exact QTri.newArr (c := .inr (.inr (List.replicate k 0))) Ad W hk hc (by simp [qsz]) (fun h' a cA A => ⟨_, A, by simp [newA, (qnew_inv hk).2.1]; exact Or.inr rfl⟩) h
      · cases hs
    · cases hs
  · cases hs; exact QTri.newObj Ad W h hc
  · cases hs
theorem QTri.steps (Ad : QAd n0 ad) (W : QW Z a0) : ∀ (n : Nat) {st st' : QSt}, qsteps m n st = some st' → QTri l Z n0 ad m st' v σ' → QTri l Z n0 ad m st v σ'
  | 0, st, st', h, k => by cases h; exact k
  | n + 1, st, st', h, k => by
    simp only [qsteps] at h
    split at h
    · rename_i st₁ h1
      exact QTri.step Ad W (QTri.steps Ad W n h k) h1
    · cases h
/-! ## returns, masks, calls -/
def lmask : List Bool → QLoc → QLoc
  | b :: t, x :: u => (bif b then x else none) :: lmask t u
  | _, L => L.map fun _ => none
theorem lmask_len : ∀ (b : List Bool) (L : QLoc), (lmask b L).length = L.length
  | [], L => by simp [lmask]
  | _ :: _, [] => by simp [lmask]
  | _ :: t, _ :: u => by simp [lmask, lmask_len t u]
theorem lmask_get : ∀ (b : List Bool) (L : QLoc) (k : Nat) (v : Value), lget (lmask b L) k = some v → lget L k = some v
  | [], L, k, v, h => by
    simp only [lmask, lget_eq, List.getElem?_map] at h
    cases hq : L[k]? <;> simp [hq] at h
  | _ :: _, [], k, v, h => by simp [lmask, lget] at h
  | b :: t, x :: u, 0, v, h => by
    simp only [lmask, lget] at h ⊢
    cases b
    · cases h
    · exact h
  | b :: t, x :: u, k + 1, v, h => by
    simp only [lmask, lget] at h ⊢
    exact lmask_get t u k v h
theorem QTri.mask {pc : Nat} {L : QLoc} {S : List Value} {σ : QHeap} (b : List Bool) (h : QTri l Z n0 ad m (pc, lmask b L, S, σ) v σ') : QTri l Z n0 ad m (pc, L, S, σ) v σ' :=
  QTri.frame h fun p e R s mid args below meth c T locs cells slots C hcx X hR hL hC => ⟨C, ⟨by rw [lmask_len]; exact hL.1, fun k u hk => hL.2.1 k u (lmask_get b L k u hk), hL.2.2⟩, hC, fun target k => k⟩
theorem QTri.ret0 {pc aux : Nat} {L : QLoc} {σ : QHeap} (hc : pCode m pc = some (.return_, aux)) (hr : pRet m = none) : QTri l Z n0 ad m (pc, L, [], σ) none σ :=
  have hd : decode (pBytes m) pc = .ok (.return_, 1) := pDecN hc rfl
  ⟨Nat.le_refl _, Nat.le_refl _, fun p e R s mid args below meth c T locs cells slots C hcx X hR hF hL hC hn hc1 hsl => ⟨T, locs, by simpa using X, hR, hF, fun fs hf => X.returnOut hcx.1 (hcx.2.2.2.2.1.trans hr) (hb hcx.2.2.1 hd) hf⟩⟩
theorem QTri.retI {pc aux : Nat} {L : QLoc} {S : List Value} {σ : QHeap} {x : Int32} (hc : pCode m pc = some (.ireturn, aux)) (hr : pRet m = some .int) : QTri l Z n0 ad m (pc, L, .int x :: S, σ) (some (.int x)) σ :=
  have hd : decode (pBytes m) pc = .ok (.ireturn, 1) := pDecN hc rfl
  ⟨Nat.le_refl _, Nat.le_refl _, fun p e R s mid args below meth c T locs cells slots C hcx X hR hF hL hC hn hc1 hsl => ⟨T, locs, by simpa using X, hR, hF, fun fs hf => Jvm.RoadKit.retI X hcx.1 (hcx.2.2.2.2.1.trans hr) (hb hcx.2.2.1 hd) hf⟩⟩
theorem QTri.retZ {pc aux : Nat} {L : QLoc} {S : List Value} {σ : QHeap} {x : Int32} (hc : pCode m pc = some (.ireturn, aux)) (hr : pRet m = some .boolean) : QTri l Z n0 ad m (pc, L, .int x :: S, σ) (some (.int (x &&& 1))) σ :=
  have hd : decode (pBytes m) pc = .ok (.ireturn, 1) := pDecN hc rfl
  ⟨Nat.le_refl _, Nat.le_refl _, fun p e R s mid args below meth c T locs cells slots C hcx X hR hF hL hC hn hc1 hsl => ⟨T, locs, by simpa using X, hR, hF, fun fs hf => retN X hcx.1 (t := .boolean) (hcx.2.2.2.2.1.trans hr) (by simp) (hb hcx.2.2.1 hd) hf⟩⟩
theorem QTri.retJ {pc aux : Nat} {L : QLoc} {S : List Value} {σ : QHeap} {x : Int64} (hc : pCode m pc = some (.lreturn, aux)) (hr : pRet m = some .long) : QTri l Z n0 ad m (pc, L, .long x :: S, σ) (some (.long x)) σ :=
  have hd : decode (pBytes m) pc = .ok (.lreturn, 1) := pDecN hc rfl
  ⟨Nat.le_refl _, Nat.le_refl _, fun p e R s mid args below meth c T locs cells slots C hcx X hR hF hL hC hn hc1 hsl => ⟨T, locs, by simpa using X, hR, hF, fun fs hf => retOut X hcx.1 (t := .long) (hcx.2.2.2.2.1.trans hr) rfl (Or.inr (Or.inl ⟨rfl, rfl, _, rfl⟩)) (hb hcx.2.2.1 hd) hf⟩⟩
def LOk (ad : Nat → Addr) (L : QLoc) (C : List Slot) : Prop :=
  L.length = C.length ∧ (∀ k v, lget L k = some v → C[k]? = some (.val (qv ad v))) ∧ (∀ k w, C[k]? = some (.val w) → w.category = 2 → C[k + 1]? = some .second) ∧ ∀ k, C[k]? = some .second → ∃ j w, k = j + 1 ∧ C[j]? = some (.val w) ∧ w.category = 2
theorem LOk.base (ad : Nat → Addr) (n : Nat) : LOk ad (List.replicate n none) (List.replicate n .unset) := by
  refine ⟨by simp, fun k u h => ?_, fun k w h => ?_, fun k h => ?_⟩
  · rw [lget_eq] at h
    rcases Nat.lt_or_ge k n with q | q
    · simp [List.getElem?_replicate, q] at h
    · simp [List.getElem?_eq_none, q] at h
  · rcases Nat.lt_or_ge k n with q | q
    · simp [List.getElem?_replicate, q] at h
    · simp [List.getElem?_eq_none, q] at h
  · rcases Nat.lt_or_ge k n with q | q
    · simp [List.getElem?_replicate, q] at h
    · simp [List.getElem?_eq_none, q] at h
theorem LOk.one {L : QLoc} {C : List Slot} (H : LOk ad L C) {u : Value} (hu : u.category = 1) : LOk ad (some u :: L) (.val (qv ad u) :: C) := by
  obtain ⟨h1, h2, h3, h4⟩ := H
  refine ⟨by simp [h1], fun k w h => ?_, fun k w h hw => ?_, fun k h => ?_⟩
  · cases k with
    | zero => simp only [lget] at h; cases h; simp
    | succ k => simp only [lget] at h; simpa using h2 k w h
  · cases k with
    | zero => simp at h; rw [← h, qv_cat, hu] at hw; cases hw
    | succ k => simpa using h3 k w (by simpa using h) hw
  · cases k with
    | zero => simp at h
    | succ k =>
      obtain ⟨j, w, z1, z2, z3⟩ := h4 k (by simpa using h)
      exact ⟨j + 1, w, by omega, by simpa using z2, z3⟩
theorem LOk.two {L : QLoc} {C : List Slot} (H : LOk ad L C) {u : Value} (hu : u.category = 2) : LOk ad (some u :: none :: L) (.val (qv ad u) :: .second :: C) := by
  obtain ⟨h1, h2, h3, h4⟩ := H
  refine ⟨by simp [h1], fun k w h => ?_, fun k w h hw => ?_, fun k h => ?_⟩
  · rcases k with _ | _ | k
    · simp only [lget] at h; cases h; simp
    · simp [lget] at h
    · simp only [lget] at h; simpa using h2 k w h
  · rcases k with _ | _ | k
    · simp
    · simp at h
    · simpa using h3 k w (by simpa using h) hw
  · rcases k with _ | _ | k
    · simp at h
    · exact ⟨0, qv ad u, rfl, by simp, by rw [qv_cat]; exact hu⟩
    · obtain ⟨j, w, z1, z2, z3⟩ := h4 k (by simpa using h)
      exact ⟨j + 2, w, by omega, by simpa using z2, z3⟩
def slotsOf (u : Value) : List Slot := if u.category = 2 then [.val u, .second] else [.val u]
theorem fold_slots : ∀ (as : List Value) (acc : Array Slot), (as.foldl (fun acc v => if v.category = 2 then (acc.push (.val v)).push .second else acc.push (.val v)) acc).toList = acc.toList ++ as.flatMap slotsOf
  | [], acc => by simp
  | u :: t, acc => by
    rw [List.foldl_cons, fold_slots t]
    by_cases hc : u.category = 2 <;> simp [slotsOf, hc]
theorem slots_len : ∀ (as : List Value), (as.flatMap slotsOf).length = (as.map fun v => v.category).sum
  | [] => rfl
  | u :: t => by
    rw [List.flatMap_cons, List.length_append, slots_len t, List.map_cons, List.sum_cons]
    cases u <;> simp [slotsOf, Value.category]
theorem cats_qv (as : List Value) : ((as.map (qv ad)).map fun v => v.category).sum = (as.map fun v => v.category).sum := by
  rw [List.map_map]
  congr 1
  exact List.map_congr_left fun x _ => qv_cat ad x
theorem entry_list : ∀ (as : List Value) (n : Nat), LOk ad ((as.flatMap fun v => match v with | .long x => [some (.long x), none] | .double x => [some (.double x), none] | v => [some v]) ++ List.replicate n none) ((as.map (qv ad)).flatMap slotsOf ++ List.replicate n .unset)
  | [], n => by simpa using LOk.base ad n
  | u :: t, n => by
    have ih := entry_list t n
    cases u with
    | long x => exact LOk.two ih rfl
    | double x => exact LOk.two ih rfl
    | int x => exact LOk.one ih rfl
    | float x => exact LOk.one ih rfl
    | null => exact LOk.one ih rfl
    | ref x => exact LOk.one ih rfl
    | retAddr x => exact LOk.one ih rfl
theorem qentry_ok (as : List Value) (mx : Nat) (h : (as.map fun v => v.category).sum ≤ mx) : QLocOk ad (qentry as mx) (argsToLocals (as.map (qv ad)).toArray mx) ∧ (argsToLocals (as.map (qv ad)).toArray mx).size = mx := by
  have e : (argsToLocals (as.map (qv ad)).toArray mx).toList = (as.map (qv ad)).flatMap slotsOf ++ List.replicate (mx - (as.map fun v => v.category).sum) .unset := by
    unfold argsToLocals
    have q := fold_slots (as.map (qv ad)) #[]
    simp only [List.foldl_toArray', Array.toList_append, Array.toList_replicate]
    have q2 : ((as.map (qv ad)).foldl (fun (acc : Array Slot) (v : Value) => if v.category = 2 then (acc.push (.val v)).push .second else acc.push (.val v)) #[]).size = (as.map fun v => v.category).sum := by
      rw [← Array.length_toList, q]
      simp only [List.nil_append]
      rw [slots_len, cats_qv]
    rw [q, q2]
    simp
  have H := entry_list (ad := ad) as (mx - (as.map fun v => v.category).sum)
  rw [← e] at H
  obtain ⟨h1, h2, h3, h4⟩ := H
  have hs : (argsToLocals (as.map (qv ad)).toArray mx).size = mx := by
    rw [← Array.length_toList, e, List.length_append, slots_len, cats_qv, List.length_replicate]
    omega
  refine ⟨⟨h1.trans Array.length_toList, fun k u hk => ?_, fun k w hk hw => ?_, fun k hk => ?_⟩, hs⟩
  · have := h2 k u hk; rwa [Array.getElem?_toList] at this
  · have := h3 k w (by rw [Array.getElem?_toList]; exact hk) hw; rwa [Array.getElem?_toList] at this
  · obtain ⟨j, w, z1, z2, z3⟩ := h4 k (by rw [Array.getElem?_toList]; exact hk)
    exact ⟨j, w, z1, by rwa [Array.getElem?_toList] at z2, z3⟩
set_option maxHeartbeats 4000000 in
theorem QTri.met {k : Nat} {as : List Value} {σ σ₁ : QHeap} {w : Option Value} {h0 : Heap} (hk : k < pN) (h : QTri l Z n0 ad k (0, qentry as (pMaxL k), [], σ) w σ₁) (hR : QRep Z n0 ad h0 σ) (hlen : (as.map fun v => v.category).sum ≤ pMaxL k) (hret : pRet k = none → w = none) (ws : List Jvm.Cond) {rm : Room}
    (r1 : pFr k ≤ rm.frames) (r2 : pLo k ≤ rm.locals) (r3 : σ₁.length - σ.length ≤ rm.cells) (r4 : qhs σ₁ - qhs σ ≤ rm.slots) :
    MetFree l (pName k) (head1 (Jvm.Cond.code (pName k) (pBytes k) (pMaxL k) (pRet k) :: ws) rm) (fun a U => a = (as.map (qv ad)).toArray ∧ Z.Warmed39 U.vm ∧ U.heap = h0) (fun _ _ _ _ _ => True)
      (fun _ U o U' => ∃ v L, o = .returned v ∧ (v = w.map (qv ad) ∧ QRep Z n0 ad U'.heap σ₁ ∧ Fr n0 L) ∧ FrameEnd U o U' L (σ₁.length - σ.length) (qhs σ₁ - qhs σ)) := by
  refine MetFree.of_bodySF (plainFor_of_name (kPlain _ (pKlt k hk))) hisR ?_
  intro p e s mid args below meth c s₁ Bd hml0 hP hK
  obtain ⟨rfl, hZ, hh⟩ := hP
  have e0 : s₁.heap = h0 := by rw [← hh, Bd.state]; rfl
  obtain ⟨hl1, hl2⟩ := qentry_ok (ad := ad) as (pMaxL k) hlen
  have hX : Stand p l e rm s mid (as.map (qv ad)).toArray below meth c s₁ [] 0 0 := Stand.of_body Bd
  obtain ⟨T', locs', X', R', F', S'⟩ := h.2.2 p e rm s mid _ below meth c s₁ [] 0 0 _ ⟨Bd.exec, hZ, Bd.bytes, hml0, Bd.returns, findClass_of_methodNamed Bd.named, (name_of_methodNamed Bd.named Bd.method).1, r1, r2⟩ hX (by rw [e0]; exact hR) (Fr.nil _) hl1 (hl2.trans hml0.symm) (by rw [hh, Nat.add_zero]; exact hR.2.1.symm) (by rw [Nat.zero_add]; exact r3) (by rw [Nat.zero_add]; exact r4)
  obtain ⟨fs, hr, hrun, hended, hW, hsame⟩ := X'.leave (v := w.map (qv ad)) (fun q => by rw [hret (Bd.returns.symm.trans q)]; rfl)
  refine ⟨_, _, S' fs hr, hrun, hended, _, _, rfl, ⟨rfl, R', F'⟩, ⟨_, rfl⟩, hW, ?_⟩
  simp only [Nat.zero_add] at hsame
  exact hsame
theorem QTri.room {k : Nat} {σ σ₁ : QHeap} {rest : List Value} {R : Room} (hroom : (Nat.ble (pFr k + 1) (pFr m) && Nat.ble ((rest.map fun v => v.category).sum + (pMaxL k + 11) + pLo k) (pLo m)) = true) (hfr : pFr m ≤ R.frames) (hlo : pLo m ≤ R.locals) :
    pFr k + 1 ≤ R.frames ∧ (rest.map fun v => v.category).sum + (pMaxL k + 11) + pLo k ≤ R.locals := by
  obtain ⟨q1, q2⟩ := Bool.and_eq_true_iff.mp hroom
  exact ⟨Nat.le_trans (Nat.le_of_ble_eq_true q1) hfr, Nat.le_trans (Nat.le_of_ble_eq_true q2) hlo⟩
theorem sig_len {k : Nat} (hk : k < pN) {as : List Value} (hna : as.length = pNA k) : ∀ sig, parseMethodDescriptor (pName k).desc = some sig → (as.map (qv ad)).length = sig.parameters.length := fun sig hs => by
  have q := pSig k hk
  rw [show parseMethodDescriptor (pDs k) = some sig from hs] at q
  simp at q
  simp [hna, q]
theorem ret_map (w : Option Value) (rest : List Value) : (w.toList ++ rest).map (qv ad) = (w.map (qv ad)).toList ++ rest.map (qv ad) := by cases w <;> simp
theorem QTri.after {as0 : List Value} {pc : Nat} {L : QLoc} {S rest : List Value} {σ σ₁ : QHeap} {w : Option Value} {k : Nat} (hcal : QTri l Z n0 ad k (0, qentry as0 (pMaxL k), [], σ) w σ₁) (h : QTri l Z n0 ad m (pc + 3, L, w.toList ++ rest, σ₁) v σ')
    (hs : ∀ (p : Program) (e : Env) (R : Room) (s : State) (mid : MethodId) (args : Array Value) (below : List Frame) (meth : Method) (c : Code) (T : State) (locs : List Loc) (cells slots : Nat) (C : Array Slot),
      QCx Z p R s mid meth c m → Stand p l e R s mid args below meth c T locs cells slots → QRep Z n0 ad T.heap σ → C.size = c.maxLocals → cells + (σ₁.length - σ.length) ≤ R.cells → slots + (qhs σ₁ - qhs σ) ≤ R.slots →
      ∃ T₁ Lc, Stand p l e R s mid args below meth c T₁ (locs ++ Lc) (cells + (σ₁.length - σ.length)) (slots + (qhs σ₁ - qhs σ)) ∧ QRep Z n0 ad T₁.heap σ₁ ∧ Fr n0 Lc ∧
        ∀ target, Steps p.tables e below (T₁.setTop (mkF mid (pc + 3) C ((w.map (qv ad)).toList ++ rest.map (qv ad)))) target → Steps p.tables e below (T.setTop (mkF mid pc C (S.map (qv ad)))) target) :
    QTri l Z n0 ad m (pc, L, S, σ) v σ' := by
  refine QTri.gen h hcal.1 hcal.2.1 fun p e R s mid args below meth c T locs cells slots C hcx X hR hF hL hC hn hc1 hsl => ?_
  obtain ⟨T₁, Lc, X₁, R₁, F₁, st⟩ := hs p e R s mid args below meth c T locs cells slots C hcx X hR hC hc1 hsl
  refine ⟨T₁, locs ++ Lc, C, X₁, R₁, hF.app F₁, hL, hC, fun target q => st target ?_⟩
  rw [← ret_map]
  exact q
set_option maxHeartbeats 4000000 in
theorem QTri.callV (W : QW Z a0) {pc idx k a : Nat} {L : QLoc} {S as rest vs : List Value} {σ σ₁ : QHeap} {w : Option Value} (hc : pCode m pc = some (.invokevirtual idx, k)) (hm : (lkV.contains (pK m, idx, k) && mV.contains k) = true) (hcell : hget σ a = some (.inl vs)) (hS : S = as.reverse ++ .ref a :: rest)
    (hna : as.length = pNA k) (hlen : Nat.ble (((Value.ref a :: as).map fun v => v.category).sum) (pMaxL k) = true) (hroom : (Nat.ble (pFr k + 1) (pFr m) && Nat.ble ((rest.map fun v => v.category).sum + (pMaxL k + 11) + pLo k) (pLo m)) = true) (hrb : (w.isNone || (pRet k).isSome) = true)
    (hcal : QTri l Z n0 ad k (0, qentry (.ref a :: as) (pMaxL k), [], σ) w σ₁) (h : QTri l Z n0 ad m (pc + 3, L, w.toList ++ rest, σ₁) v σ') : QTri l Z n0 ad m (pc, L, S, σ) v σ' := by
  have hd : decode (pBytes m) pc = .ok (.invokevirtual idx, 3) := pDecN hc rfl
  subst hS
  obtain ⟨m1, m2⟩ := Bool.and_eq_true_iff.mp hm
  have m1 := mem_of_contains m1
  have m2 := mem_of_contains m2
  have hkA := (mVlt k m2).1
  have hkN := mAlt k hkA
  have hret : pRet k = none → w = none := fun q => by
    rw [q] at hrb
    cases w with
    | none => rfl
    | some w => simp at hrb
  refine QTri.after hcal h fun p e R s mid args below meth c T locs cells slots C hcx X hR hC hc1 hsl => ?_
  obtain ⟨hx, hZ, hby, hml, hret', hown, hnm, hfr, hlo⟩ := hcx
  have hd2 : decode c.code pc = .ok (.invokevirtual idx, 3) := by rw [hby]; exact hd
  obtain ⟨f1, f2⟩ := QTri.room (σ := σ) (σ₁ := σ₁) hroom hfr hlo
  obtain ⟨cq, kq, q1, q2, q3⟩ := isOf hZ rfl (hR.2.2 _ _ hcell).1
  obtain ⟨w1, w2, w3⟩ := (qw_vi W) k m2
  obtain ⟨c1, c2⟩ := (qw_cod W) k hkA
  obtain ⟨_, _, ⟨T₁, L₁, k₁, n₁⟩, -, X₁, ⟨Lc, ⟨rfl, hR1, hF1⟩, l₁, y₁, z₁⟩, st⟩ := X.virtualBack hx (own := kName (pK m)) (index := idx) (y := pName k) (z := pName k) hown (mvT hZ (qw_ml W (pK m, idx, k) m1)) (mvT hZ w1) (notFace_of_selects (args := #[]) (mvT hZ w2)) (mvT hZ w2) (mvT hZ w3) (pOwn _ (pKlt k hkN))
    (backOf (W := (rest.map fun v => v.category).sum) (rm := ⟨pFr k, σ₁.length - σ.length, qhs σ₁ - qhs σ, pLo k⟩) (Q := fun v h L => v = Option.map (qv ad) w ∧ QRep Z n0 ad h σ₁ ∧ Fr n0 L) (QTri.met hkN hcal hR (Nat.le_of_ble_eq_true hlen) hret [] (Nat.le_refl _) (Nat.le_refl _) (Nat.le_refl _) (Nat.le_refl _)) hZ c1 c2 f1 f2) q1 q3 (g := mkF mid pc C (List.map (qv ad) (as.reverse ++ .ref a :: rest))) rfl hC (Steps.refl _) (argsL := as.map (qv ad)) (rest := rest.map (qv ad)) (sig_len hkN hna) (by simp [qv]) (by show 2 * 0 + _ ≤ _; rw [cats_qv]; omega) hd2 (fun _ _ => ⟨rfl, rfl, hc1, hsl⟩)
  dsimp only [Pt.U, Pt.locs, Pt.cells, Pt.slots] at X₁ l₁ y₁ z₁ st hR1
  subst l₁ y₁ z₁
  exact ⟨T₁, Lc, X₁, hR1, hF1, fun target q => st.trans q⟩
set_option maxHeartbeats 4000000 in
theorem QTri.callI (W : QW Z a0) {pc idx k a : Nat} {L : QLoc} {S as rest : List Value} {σ σ₁ : QHeap} (hc : pCode m pc = some (.invokespecial idx, k)) (hm : (lkV.contains (pK m, idx, k) && mI.contains k) = true) (hS : S = as.reverse ++ .ref a :: rest)
    (hna : as.length = pNA k) (hlen : Nat.ble (((Value.ref a :: as).map fun v => v.category).sum) (pMaxL k) = true) (hroom : (Nat.ble (pFr k + 1) (pFr m) && Nat.ble ((rest.map fun v => v.category).sum + (pMaxL k + 11) + pLo k) (pLo m)) = true)
    (hcal : QTri l Z n0 ad k (0, qentry (.ref a :: as) (pMaxL k), [], σ) none σ₁) (h : QTri l Z n0 ad m (pc + 3, L, rest, σ₁) v σ') : QTri l Z n0 ad m (pc, L, S, σ) v σ' := by
  have hd : decode (pBytes m) pc = .ok (.invokespecial idx, 3) := pDecN hc rfl
  subst hS
  obtain ⟨m1, m2⟩ := Bool.and_eq_true_iff.mp hm
  have m1 := mem_of_contains m1
  have m2 := mem_of_contains m2
  obtain ⟨hkA, -, hin, hrt⟩ := mIlt k m2
  have hkN := mAlt k hkA
  refine QTri.after (w := none) hcal h fun p e R s mid args below meth c T locs cells slots C hcx X hR hC hc1 hsl => ?_
  obtain ⟨hx, hZ, hby, hml, hret', hown, hnm, hfr, hlo⟩ := hcx
  have hd2 : decode c.code pc = .ok (.invokespecial idx, 3) := by rw [hby]; exact hd
  obtain ⟨f1, f2⟩ := QTri.room (σ := σ) (σ₁ := σ₁) hroom hfr hlo
  obtain ⟨c1, c2⟩ := (qw_cod W) k hkA
  have c1' := c1
  rw [hrt] at c1'
  obtain ⟨_, _, ⟨T₁, L₁, k₁, n₁⟩, -, X₁, ⟨Lc, ⟨rfl, hR1, hF1⟩, l₁, y₁, z₁⟩, st⟩ := X.specialBack hx (own := kName (pK m)) (index := idx) (y := pName k) hin hown (mvT hZ (qw_ml W (pK m, idx, k) m1)) (mvT hZ ((qw_ini W) k m2)) (mvT hZ c1') (pOwn _ (pKlt k hkN))
    (backOf (W := (rest.map fun v => v.category).sum) (rm := ⟨pFr k, σ₁.length - σ.length, qhs σ₁ - qhs σ, pLo k⟩) (Q := fun v h L => v = Option.map (qv ad) none ∧ QRep Z n0 ad h σ₁ ∧ Fr n0 L) (QTri.met hkN hcal hR (Nat.le_of_ble_eq_true hlen) (fun _ => rfl) [] (Nat.le_refl _) (Nat.le_refl _) (Nat.le_refl _) (Nat.le_refl _)) hZ c1 c2 f1 f2) (g := mkF mid pc C (List.map (qv ad) (as.reverse ++ .ref a :: rest))) rfl hC (Steps.refl _) (a := ad a) (argsL := as.map (qv ad)) (rest := rest.map (qv ad)) (sig_len hkN hna) (by simp [qv]) (by show 2 * 0 + _ ≤ _; rw [cats_qv]; omega) hd2 (fun _ _ => ⟨rfl, rfl, hc1, hsl⟩)
  dsimp only [Pt.U, Pt.locs, Pt.cells, Pt.slots] at X₁ l₁ y₁ z₁ st hR1
  subst l₁ y₁ z₁
  exact ⟨T₁, Lc, X₁, hR1, hF1, fun target q => st.trans q⟩
set_option maxHeartbeats 4000000 in
theorem QTri.callP (W : QW Z a0) {pc idx k a : Nat} {L : QLoc} {S as rest vs : List Value} {σ σ₁ : QHeap} {w : Option Value} (hc : pCode m pc = some (.invokevirtual idx, k)) (hm : (lkV.contains (pK m, idx, k) && mP.contains k) = true) (hcell : hget σ a = some (.inl vs)) (hS : S = as.reverse ++ .ref a :: rest)
    (hna : as.length = pNA k) (hlen : Nat.ble (((Value.ref a :: as).map fun v => v.category).sum) (pMaxL k) = true) (hroom : (Nat.ble (pFr k + 1) (pFr m) && Nat.ble ((rest.map fun v => v.category).sum + (pMaxL k + 11) + pLo k) (pLo m)) = true) (hrb : (w.isNone || (pRet k).isSome) = true)
    (hcal : QTri l Z n0 ad k (0, qentry (.ref a :: as) (pMaxL k), [], σ) w σ₁) (h : QTri l Z n0 ad m (pc + 3, L, w.toList ++ rest, σ₁) v σ') : QTri l Z n0 ad m (pc, L, S, σ) v σ' := by
  have hd : decode (pBytes m) pc = .ok (.invokevirtual idx, 3) := pDecN hc rfl
  subst hS
  obtain ⟨m1, m2⟩ := Bool.and_eq_true_iff.mp hm
  have m1 := mem_of_contains m1
  have m2 := mem_of_contains m2
  obtain ⟨hkA, hk1⟩ := mPlt k m2
  have hkN := mAlt k hkA
  have hret : pRet k = none → w = none := fun q => by
    rw [q] at hrb
    cases w with
    | none => rfl
    | some w => simp at hrb
  refine QTri.after hcal h fun p e R s mid args below meth c T locs cells slots C hcx X hR hC hc1 hsl => ?_
  obtain ⟨hx, hZ, hby, hml, hret', hown, hnm, hfr, hlo⟩ := hcx
  have hd2 : decode c.code pc = .ok (.invokevirtual idx, 3) := by rw [hby]; exact hd
  obtain ⟨f1, f2⟩ := QTri.room (σ := σ) (σ₁ := σ₁) hroom hfr hlo
  obtain ⟨cell, h1, h2⟩ := (hR.2.2 _ _ hcell).1.cell
  obtain ⟨w1, w2⟩ := (qw_pr W) k m2
  obtain ⟨c1, c2⟩ := (qw_cod W) k hkA
  have hpr : s.PrivateAt (pName k) := Cond.privateMethod_at (mvP hZ w2 (args := #[]))
  obtain ⟨cC, kC, i1, i2, i3, i4⟩ := Cond.instantiable_spec (args := #[]) (mvT hZ (qw_inst W))
  have hsel : (Cond.selects (pName k).cls (pName k) (pName k)).before args s = true := selects_self_of_private (c := cC) (k := kC) (by show s.vm.findClass (kName (pK k)) = _; rw [hk1]; exact i1) i2 (by have q := i4.1; cases hq : kC.isInterface with | false => rfl | true => rw [hq] at q; simp at q) hpr (mvT hZ w1) (pOwn _ (pKlt k hkN))
  obtain ⟨_, _, ⟨T₁, L₁, k₁, n₁⟩, -, X₁, ⟨Lc, ⟨rfl, hR1, hF1⟩, l₁, y₁, z₁⟩, st⟩ := X.privateBack hx (own := kName (pK m)) (index := idx) (y := pName k) hown (mvT hZ (qw_ml W (pK m, idx, k) m1)) (mvT hZ w1) hsel hpr (mvT hZ c1) (pOwn _ (pKlt k hkN))
    (backOf (W := (rest.map fun v => v.category).sum) (rm := ⟨pFr k, σ₁.length - σ.length, qhs σ₁ - qhs σ, pLo k⟩) (Q := fun v h L => v = Option.map (qv ad) w ∧ QRep Z n0 ad h σ₁ ∧ Fr n0 L) (QTri.met hkN hcal hR (Nat.le_of_ble_eq_true hlen) hret [] (Nat.le_refl _) (Nat.le_refl _) (Nat.le_refl _) (Nat.le_refl _)) hZ c1 c2 f1 f2) (g := mkF mid pc C (List.map (qv ad) (as.reverse ++ .ref a :: rest))) rfl hC (Steps.refl _) (a := ad a) h1 h2 (argsL := as.map (qv ad)) (rest := rest.map (qv ad)) (sig_len hkN hna) (by simp [qv]) (by show 2 * 0 + _ ≤ _; rw [cats_qv]; omega) hd2 (fun _ _ => ⟨rfl, rfl, hc1, hsl⟩)
  dsimp only [Pt.U, Pt.locs, Pt.cells, Pt.slots] at X₁ l₁ y₁ z₁ st hR1
  subst l₁ y₁ z₁
  exact ⟨T₁, Lc, X₁, hR1, hF1, fun target q => st.trans q⟩
set_option maxHeartbeats 4000000 in
theorem QTri.callS (W : QW Z a0) {pc idx k : Nat} {L : QLoc} {S as rest : List Value} {σ σ₁ : QHeap} {w : Option Value} (hc : pCode m pc = some (.invokestatic idx, k)) (hm : (lkV.contains (pK m, idx, k) && mS.contains k) = true) (hS : S = as.reverse ++ rest)
    (hna : as.length = pNA k) (hlen : Nat.ble ((as.map fun v => v.category).sum) (pMaxL k) = true) (hroom : (Nat.ble (pFr k + 1) (pFr m) && Nat.ble ((rest.map fun v => v.category).sum + (pMaxL k + 11) + pLo k) (pLo m)) = true) (hrb : (w.isNone || (pRet k).isSome) = true)
    (hcal : QTri l Z n0 ad k (0, qentry as (pMaxL k), [], σ) w σ₁) (h : QTri l Z n0 ad m (pc + 3, L, w.toList ++ rest, σ₁) v σ') : QTri l Z n0 ad m (pc, L, S, σ) v σ' := by
  have hd : decode (pBytes m) pc = .ok (.invokestatic idx, 3) := pDecN hc rfl
  subst hS
  obtain ⟨m1, m2⟩ := Bool.and_eq_true_iff.mp hm
  have m1 := mem_of_contains m1
  have m2 := mem_of_contains m2
  have hkA := mSlt k m2
  have hkN := mAlt k hkA
  have hret : pRet k = none → w = none := fun q => by
    rw [q] at hrb
    cases w with
    | none => rfl
    | some w => simp at hrb
  refine QTri.after hcal h fun p e R s mid args below meth c T locs cells slots C hcx X hR hC hc1 hsl => ?_
  obtain ⟨hx, hZ, hby, hml, hret', hown, hnm, hfr, hlo⟩ := hcx
  have hd2 : decode c.code pc = .ok (.invokestatic idx, 3) := by rw [hby]; exact hd
  obtain ⟨f1, f2⟩ := QTri.room (σ := σ) (σ₁ := σ₁) hroom hfr hlo
  obtain ⟨c1, c2⟩ := (qw_cod W) k hkA
  obtain ⟨_, _, ⟨T₁, L₁, k₁, n₁⟩, -, X₁, ⟨Lc, ⟨rfl, hR1, hF1⟩, l₁, y₁, z₁⟩, st⟩ := Jvm.LawKit.callS X hx (own := kName (pK m)) (index := idx) (y := pName k) hown (mvT hZ (qw_ml W (pK m, idx, k) m1)) (mvT hZ ((qw_st W) k m2)) (mvT hZ c2) (mvT hZ c1) (pOwn _ (pKlt k hkN))
    (backOf (W := (rest.map fun v => v.category).sum) (rm := ⟨pFr k, σ₁.length - σ.length, qhs σ₁ - qhs σ, pLo k⟩) (Q := fun v h L => v = Option.map (qv ad) w ∧ QRep Z n0 ad h σ₁ ∧ Fr n0 L) (QTri.met hkN hcal hR (Nat.le_of_ble_eq_true hlen) hret [] (Nat.le_refl _) (Nat.le_refl _) (Nat.le_refl _) (Nat.le_refl _)) hZ c1 c2 f1 f2) (g := mkF mid pc C (List.map (qv ad) (as.reverse ++ rest))) rfl hC (argsL := as.map (qv ad)) (rest := rest.map (qv ad)) (sig_len hkN hna) (by simp) (by show 2 * 0 + _ ≤ _; rw [cats_qv]; omega) hd2 (fun _ _ => ⟨rfl, rfl, hc1, hsl⟩)
  dsimp only [Pt.U, Pt.locs, Pt.cells, Pt.slots] at X₁ l₁ y₁ z₁ st hR1
  subst l₁ y₁ z₁
  exact ⟨T₁, Lc, X₁, hR1, hF1, fun target q => st target q⟩
set_option maxHeartbeats 4000000 in
theorem QTri.callO (W : QW Z a0) {pc idx k a : Nat} {L : QLoc} {rest : List Value} {σ : QHeap} (hc : pCode m pc = some (.invokespecial idx, k)) (hm : lkO.contains (pK m, idx) = true) (hroom : (Nat.ble 1 (pFr m) && Nat.ble ((rest.map fun v => v.category).sum + 12) (pLo m)) = true)
    (h : QTri l Z n0 ad m (pc + 3, L, rest, σ) v σ') : QTri l Z n0 ad m (pc, L, .ref a :: rest, σ) v σ' :=
  have hd : decode (pBytes m) pc = .ok (.invokespecial idx, 3) := pDecN hc rfl
  QTri.pure h rfl fun p e R s mid args below meth c T locs cells slots C hcx X hR hL hC => by
    obtain ⟨hx, hZ, hby, hml, hret', hown, hnm, hfr, hlo⟩ := hcx
    have hd2 : decode c.code pc = .ok (.invokespecial idx, 3) := by rw [hby]; exact hd
    obtain ⟨q1, q2⟩ := Bool.and_eq_true_iff.mp hroom
    obtain ⟨T₁, X₁, e₁, st⟩ := initO X hx hZ hown (idx := idx) (qw_mo W (pK m, idx) (mem_of_contains hm)) ((qw_oi W)) ((qw_oc W)) rfl (g := mkF mid pc C (List.map (qv ad) (.ref a :: rest))) rfl hC rfl hd2 (Nat.le_trans (Nat.le_of_ble_eq_true q1) hfr) (W := (rest.map fun v => v.category).sum) (by show 2 * 0 + _ ≤ _; rw [cats_qv]; omega) (Nat.le_trans (Nat.le_of_ble_eq_true q2) hlo)
    exact ⟨T₁, C, X₁, e₁, hL, hC, st⟩
theorem QTri.brT (Ad : QAd n0 ad) (W : QW Z a0) {st : QSt} {t f : Nat} {L : QLoc} {S : List Value} {σ : QHeap} {b : Bool} (hs : qstep m st = some (bif b then t else f, L, S, σ)) (hb : b = true) (h : QTri l Z n0 ad m (t, L, S, σ) v σ') : QTri l Z n0 ad m st v σ' := by
  subst hb; exact QTri.step Ad W h hs
theorem QTri.brF (Ad : QAd n0 ad) (W : QW Z a0) {st : QSt} {t f : Nat} {L : QLoc} {S : List Value} {σ : QHeap} {b : Bool} (hs : qstep m st = some (bif b then t else f, L, S, σ)) (hb : b = false) (h : QTri l Z n0 ad m (f, L, S, σ) v σ') : QTri l Z n0 ad m st v σ' := by
  subst hb; exact QTri.step Ad W h hs
theorem QTri.bnd {α : Type} (Ad : QAd n0 ad) (W : QW Z a0) {st : QSt} {x : Option α} {f : α → QSt} {a : α} (hs : qstep m st = x.bind fun v => some (f v)) (hx : x = some a) (h : QTri l Z n0 ad m (f a) v σ') : QTri l Z n0 ad m st v σ' :=
  QTri.step Ad W h (by rw [hs, hx]; rfl)
theorem QTri.bndB (Ad : QAd n0 ad) (W : QW Z a0) {st : QSt} {x y : Int32} {g : Value → QSt} (hs : qstep m st = ((qboo x).bind fun y => some (Value.int y)).bind fun w => some (g w)) (hx : qboo x = some y) (h : QTri l Z n0 ad m (g (.int y)) v σ') : QTri l Z n0 ad m st v σ' :=
  QTri.step Ad W h (by rw [hs, hx]; rfl)
end Triples
/-! ## plain: branches and loops -/
theorem qite {α : Type} {c : Prop} [Decidable c] {a b : Option α} {r : α} (h : (if c then a else b) = some r) : (c ∧ a = some r) ∨ (¬ c ∧ b = some r) := by
  by_cases hc : c
  · exact Or.inl ⟨hc, by rwa [if_pos hc] at h⟩
  · exact Or.inr ⟨hc, by rwa [if_neg hc] at h⟩
def qN : Nat := 4000
def loopN {V E : Type} (B : V → Option (E ⊕ V)) : Nat → V → Option E
  | 0, _ => none
  | n + 1, v => match B v with
    | none => none
    | some (.inl e) => some e
    | some (.inr v') => loopN B n v'
theorem loopN_tri {V E : Type} {B : V → Option (E ⊕ V)} {T : V → Prop} {KE : E → Prop} (hB : ∀ v r, B v = some r → (∀ e, r = .inl e → KE e) → (∀ v', r = .inr v' → T v') → T v) : ∀ (n : Nat) (v : V) (e : E), loopN B n v = some e → KE e → T v
  | 0, _, _, h, _ => by cases h
  | n + 1, v, e, h, k => by
    simp only [loopN] at h
    split at h
    · cases h
    · rename_i e' he
      cases h
      exact hB v _ he (fun e q => by cases q; exact k) (fun v' q => by cases q)
    · rename_i v' he
      exact hB v _ he (fun e q => by cases q) (fun v'' q => by cases q; exact loopN_tri hB n v' e h k)
/-- a loop: an invariant, a measure -/
theorem loopN_inv {V E : Type} {B : V → Option (E ⊕ V)} (I : V → Prop) (P : E → Prop) (μ : V → Nat) (hB : ∀ v, I v → (∃ e, B v = some (.inl e) ∧ P e) ∨ ∃ v', B v = some (.inr v') ∧ I v' ∧ μ v' < μ v) : ∀ (n : Nat) (v : V), I v → μ v < n → ∃ e, loopN B n v = some e ∧ P e
  | 0, _, _, h => absurd h (Nat.not_lt_zero _)
  | n + 1, v, hv, hm => by
    rcases hB v hv with ⟨e, h1, h2⟩ | ⟨v', h1, h2, h3⟩
    · exact ⟨e, by simp only [loopN, h1], h2⟩
    · obtain ⟨e, g1, g2⟩ := loopN_inv I P μ hB n v' h2 (by omega)
      exact ⟨e, by simp only [loopN, h1]; exact g1, g2⟩
theorem qfn {α : Type} {P : α → Prop} : ∀ t ∈ ([] : List α), P t := fun _ h => nomatch h
theorem qfc {α : Type} {P : α → Prop} {a : α} {t : List α} (h : P a) (ht : ∀ x ∈ t, P x) : ∀ x ∈ a :: t, P x := fun x hx => by rcases List.mem_cons.mp hx with rfl | q; exact h; exact ht x q
theorem QW_ok {Z : State} {a0 : Array Value} (hw : ∀ d ∈ tables_1, d.before a0 Z = true) : QW Z a0 := by
  have w0 : ∀ k ∈ List.range nF, bif fFin k then (Jvm.Cond.laysFinal cName cName (fNm k) (fDs k)).before a0 Z = true else (Jvm.Cond.lays cName cName (fNm k) (fDs k)).before a0 Z = true :=
    show ∀ k ∈ [0, 1, 2, 3, 4, 5, 6, 7, 8, 9, 10, 11, 12, 13, 14, 15, 16, 17, 18, 19], bif fFin k then (Jvm.Cond.laysFinal cName cName (fNm k) (fDs k)).before a0 Z = true else (Jvm.Cond.lays cName cName (fNm k) (fDs k)).before a0 Z = true from
    (qfc (hw _ (List.mem_of_getElem? (i := 11) rfl)) (qfc (hw _ (List.mem_of_getElem? (i := 13) rfl)) (qfc (hw _ (List.mem_of_getElem? (i := 15) rfl)) (qfc (hw _ (List.mem_of_getElem? (i := 17) rfl)) (qfc (hw _ (List.mem_of_getElem? (i := 20) rfl)) (qfc (hw _ (List.mem_of_getElem? (i := 23) rfl)) (qfc (hw _ (List.mem_of_getElem? (i := 25) rfl)) (qfc (hw _ (List.mem_of_getElem? (i := 27) rfl)) (qfc (hw _ (List.mem_of_getElem? (i := 29) rfl)) (qfc (hw _ (List.mem_of_getElem? (i := 31) rfl)) (qfc (hw _ (List.mem_of_getElem? (i := 37) rfl)) (qfc (hw _ (List.mem_of_getElem? (i := 39) rfl)) (qfc (hw _ (List.mem_of_getElem? (i := 41) rfl)) (qfc (hw _ (List.mem_of_getElem? (i := 43) rfl)) (qfc (hw _ (List.mem_of_getElem? (i := 45) rfl)) (qfc (hw _ (List.mem_of_getElem? (i := 47) rfl)) (qfc (hw _ (List.mem_of_getElem? (i := 49) rfl)) (qfc (hw _ (List.mem_of_getElem? (i := 51) rfl)) (qfc (hw _ (List.mem_of_getElem? (i := 53) rfl)) (qfc (hw _ (List.mem_of_getElem? (i := 55) rfl)) qfn))))))))))))))))))))
  refine ⟨?_, ?_, ?_, ?_, ?_, ?_, ?_, ?_, ?_, ?_, ?_, ?_, ?_, (fun k hk => w0 k (List.mem_range.mpr hk)), ?_, ?_, ?_⟩
  · exact (qfc (hw _ (List.mem_of_getElem? (i := 10) rfl)) (qfc (hw _ (List.mem_of_getElem? (i := 12) rfl)) (qfc (hw _ (List.mem_of_getElem? (i := 14) rfl)) (qfc (hw _ (List.mem_of_getElem? (i := 16) rfl)) (qfc (hw _ (List.mem_of_getElem? (i := 19) rfl)) (qfc (hw _ (List.mem_of_getElem? (i := 22) rfl)) (qfc (hw _ (List.mem_of_getElem? (i := 24) rfl)) (qfc (hw _ (List.mem_of_getElem? (i := 26) rfl)) (qfc (hw _ (List.mem_of_getElem? (i := 28) rfl)) (qfc (hw _ (List.mem_of_getElem? (i := 30) rfl)) (qfc (hw _ (List.mem_of_getElem? (i := 36) rfl)) (qfc (hw _ (List.mem_of_getElem? (i := 38) rfl)) (qfc (hw _ (List.mem_of_getElem? (i := 40) rfl)) (qfc (hw _ (List.mem_of_getElem? (i := 42) rfl)) (qfc (hw _ (List.mem_of_getElem? (i := 44) rfl)) (qfc (hw _ (List.mem_of_getElem? (i := 46) rfl)) (qfc (hw _ (List.mem_of_getElem? (i := 48) rfl)) (qfc (hw _ (List.mem_of_getElem? (i := 50) rfl)) (qfc (hw _ (List.mem_of_getElem? (i := 52) rfl)) (qfc (hw _ (List.mem_of_getElem? (i := 54) rfl)) qfn))))))))))))))))))))
  · exact (qfc (hw _ (List.mem_of_getElem? (i := 0) rfl)) qfn)
  · exact qfn
  · exact qfn
  · exact (qfc (hw _ (List.mem_of_getElem? (i := 3) rfl)) (qfc (hw _ (List.mem_of_getElem? (i := 32) rfl)) (qfc (hw _ (List.mem_of_getElem? (i := 56) rfl)) (qfc (hw _ (List.mem_of_getElem? (i := 61) rfl)) (qfc (hw _ (List.mem_of_getElem? (i := 65) rfl)) (qfc (hw _ (List.mem_of_getElem? (i := 70) rfl)) (qfc (hw _ (List.mem_of_getElem? (i := 75) rfl)) (qfc (hw _ (List.mem_of_getElem? (i := 80) rfl)) qfn))))))))
  · exact (qfc (hw _ (List.mem_of_getElem? (i := 6) rfl)) qfn)
  · exact (qfc ⟨(hw _ (List.mem_of_getElem? (i := 57) rfl)), (hw _ (List.mem_of_getElem? (i := 59) rfl)), (hw _ (List.mem_of_getElem? (i := 58) rfl))⟩ (qfc ⟨(hw _ (List.mem_of_getElem? (i := 66) rfl)), (hw _ (List.mem_of_getElem? (i := 68) rfl)), (hw _ (List.mem_of_getElem? (i := 67) rfl))⟩ (qfc ⟨(hw _ (List.mem_of_getElem? (i := 71) rfl)), (hw _ (List.mem_of_getElem? (i := 73) rfl)), (hw _ (List.mem_of_getElem? (i := 72) rfl))⟩ (qfc ⟨(hw _ (List.mem_of_getElem? (i := 76) rfl)), (hw _ (List.mem_of_getElem? (i := 78) rfl)), (hw _ (List.mem_of_getElem? (i := 77) rfl))⟩ (qfc ⟨(hw _ (List.mem_of_getElem? (i := 81) rfl)), (hw _ (List.mem_of_getElem? (i := 83) rfl)), (hw _ (List.mem_of_getElem? (i := 82) rfl))⟩ qfn)))))
  · exact (qfc ⟨(hw _ (List.mem_of_getElem? (i := 33) rfl)), (hw _ (List.mem_of_getElem? (i := 34) rfl))⟩ (qfc ⟨(hw _ (List.mem_of_getElem? (i := 62) rfl)), (hw _ (List.mem_of_getElem? (i := 63) rfl))⟩ qfn))
  · exact qfn
  · exact (qfc (hw _ (List.mem_of_getElem? (i := 4) rfl)) qfn)
  · exact (qfc ⟨(hw _ (List.mem_of_getElem? (i := 5) rfl)), (hw _ (List.mem_of_getElem? (i := 2) rfl))⟩ (qfc ⟨(hw _ (List.mem_of_getElem? (i := 35) rfl)), (hw _ (List.mem_of_getElem? (i := 2) rfl))⟩ (qfc ⟨(hw _ (List.mem_of_getElem? (i := 60) rfl)), (hw _ (List.mem_of_getElem? (i := 2) rfl))⟩ (qfc ⟨(hw _ (List.mem_of_getElem? (i := 64) rfl)), (hw _ (List.mem_of_getElem? (i := 2) rfl))⟩ (qfc ⟨(hw _ (List.mem_of_getElem? (i := 69) rfl)), (hw _ (List.mem_of_getElem? (i := 2) rfl))⟩ (qfc ⟨(hw _ (List.mem_of_getElem? (i := 74) rfl)), (hw _ (List.mem_of_getElem? (i := 2) rfl))⟩ (qfc ⟨(hw _ (List.mem_of_getElem? (i := 79) rfl)), (hw _ (List.mem_of_getElem? (i := 2) rfl))⟩ (qfc ⟨(hw _ (List.mem_of_getElem? (i := 84) rfl)), (hw _ (List.mem_of_getElem? (i := 2) rfl))⟩ qfn))))))))
  · exact (hw _ (List.mem_of_getElem? (i := 7) rfl))
  · exact (hw _ (List.mem_of_getElem? (i := 8) rfl))
  · exact (hw _ (List.mem_of_getElem? (i := 1) rfl))
  · exact (hw _ (List.mem_of_getElem? (i := 2) rfl))
  · exact (qfc (hw _ (List.mem_of_getElem? (i := 9) rfl)) (qfc (hw _ (List.mem_of_getElem? (i := 18) rfl)) (qfc (hw _ (List.mem_of_getElem? (i := 21) rfl)) qfn)))
abbrev Ob := List Int32 × List Int32 × List Int32 × List Int32 × List Int64 × List Int32 × List Int32 × List Int32 × Int32 × Int32 × Int32 × Int32 × Int32 × Int32 × Int32 × Int32 × Int32 × Int32 × Int32 × Int32
def f_part (o : Ob) : List Int32 := o.1
def f_keys (o : Ob) : List Int32 := o.2.1
def f_vals (o : Ob) : List Int32 := o.2.2.1
def f_flg (o : Ob) : List Int32 := o.2.2.2.1
def f_res (o : Ob) : List Int64 := o.2.2.2.2.1
def f_resNull (o : Ob) : List Int32 := o.2.2.2.2.2.1
def f_frameCnt (o : Ob) : List Int32 := o.2.2.2.2.2.2.1
def f_sorted (o : Ob) : List Int32 := o.2.2.2.2.2.2.2.1
def f_cap (o : Ob) : Int32 := o.2.2.2.2.2.2.2.2.1
def f_rows (o : Ob) : Int32 := o.2.2.2.2.2.2.2.2.2.1
def f_direction (o : Ob) : Int32 := o.2.2.2.2.2.2.2.2.2.2.1
def f_nulls (o : Ob) : Int32 := o.2.2.2.2.2.2.2.2.2.2.2.1
def f_mode (o : Ob) : Int32 := o.2.2.2.2.2.2.2.2.2.2.2.2.1
def f_startKind (o : Ob) : Int32 := o.2.2.2.2.2.2.2.2.2.2.2.2.2.1
def f_startOff (o : Ob) : Int32 := o.2.2.2.2.2.2.2.2.2.2.2.2.2.2.1
def f_endKind (o : Ob) : Int32 := o.2.2.2.2.2.2.2.2.2.2.2.2.2.2.2.1
def f_endOff (o : Ob) : Int32 := o.2.2.2.2.2.2.2.2.2.2.2.2.2.2.2.2.1
def f_fn (o : Ob) : Int32 := o.2.2.2.2.2.2.2.2.2.2.2.2.2.2.2.2.2.1
def f_fnArg (o : Ob) : Int32 := o.2.2.2.2.2.2.2.2.2.2.2.2.2.2.2.2.2.2.1
def f_computed (o : Ob) : Int32 := o.2.2.2.2.2.2.2.2.2.2.2.2.2.2.2.2.2.2.2
def s_part (o : Ob) (v : List Int32) : Ob := (v, o.2.1, o.2.2.1, o.2.2.2.1, o.2.2.2.2.1, o.2.2.2.2.2.1, o.2.2.2.2.2.2.1, o.2.2.2.2.2.2.2.1, o.2.2.2.2.2.2.2.2.1, o.2.2.2.2.2.2.2.2.2.1, o.2.2.2.2.2.2.2.2.2.2.1, o.2.2.2.2.2.2.2.2.2.2.2.1, o.2.2.2.2.2.2.2.2.2.2.2.2.1, o.2.2.2.2.2.2.2.2.2.2.2.2.2.1, o.2.2.2.2.2.2.2.2.2.2.2.2.2.2.1, o.2.2.2.2.2.2.2.2.2.2.2.2.2.2.2.1, o.2.2.2.2.2.2.2.2.2.2.2.2.2.2.2.2.1, o.2.2.2.2.2.2.2.2.2.2.2.2.2.2.2.2.2.1, o.2.2.2.2.2.2.2.2.2.2.2.2.2.2.2.2.2.2.1, o.2.2.2.2.2.2.2.2.2.2.2.2.2.2.2.2.2.2.2)
def s_keys (o : Ob) (v : List Int32) : Ob := (o.1, v, o.2.2.1, o.2.2.2.1, o.2.2.2.2.1, o.2.2.2.2.2.1, o.2.2.2.2.2.2.1, o.2.2.2.2.2.2.2.1, o.2.2.2.2.2.2.2.2.1, o.2.2.2.2.2.2.2.2.2.1, o.2.2.2.2.2.2.2.2.2.2.1, o.2.2.2.2.2.2.2.2.2.2.2.1, o.2.2.2.2.2.2.2.2.2.2.2.2.1, o.2.2.2.2.2.2.2.2.2.2.2.2.2.1, o.2.2.2.2.2.2.2.2.2.2.2.2.2.2.1, o.2.2.2.2.2.2.2.2.2.2.2.2.2.2.2.1, o.2.2.2.2.2.2.2.2.2.2.2.2.2.2.2.2.1, o.2.2.2.2.2.2.2.2.2.2.2.2.2.2.2.2.2.1, o.2.2.2.2.2.2.2.2.2.2.2.2.2.2.2.2.2.2.1, o.2.2.2.2.2.2.2.2.2.2.2.2.2.2.2.2.2.2.2)
def s_vals (o : Ob) (v : List Int32) : Ob := (o.1, o.2.1, v, o.2.2.2.1, o.2.2.2.2.1, o.2.2.2.2.2.1, o.2.2.2.2.2.2.1, o.2.2.2.2.2.2.2.1, o.2.2.2.2.2.2.2.2.1, o.2.2.2.2.2.2.2.2.2.1, o.2.2.2.2.2.2.2.2.2.2.1, o.2.2.2.2.2.2.2.2.2.2.2.1, o.2.2.2.2.2.2.2.2.2.2.2.2.1, o.2.2.2.2.2.2.2.2.2.2.2.2.2.1, o.2.2.2.2.2.2.2.2.2.2.2.2.2.2.1, o.2.2.2.2.2.2.2.2.2.2.2.2.2.2.2.1, o.2.2.2.2.2.2.2.2.2.2.2.2.2.2.2.2.1, o.2.2.2.2.2.2.2.2.2.2.2.2.2.2.2.2.2.1, o.2.2.2.2.2.2.2.2.2.2.2.2.2.2.2.2.2.2.1, o.2.2.2.2.2.2.2.2.2.2.2.2.2.2.2.2.2.2.2)
def s_flg (o : Ob) (v : List Int32) : Ob := (o.1, o.2.1, o.2.2.1, v, o.2.2.2.2.1, o.2.2.2.2.2.1, o.2.2.2.2.2.2.1, o.2.2.2.2.2.2.2.1, o.2.2.2.2.2.2.2.2.1, o.2.2.2.2.2.2.2.2.2.1, o.2.2.2.2.2.2.2.2.2.2.1, o.2.2.2.2.2.2.2.2.2.2.2.1, o.2.2.2.2.2.2.2.2.2.2.2.2.1, o.2.2.2.2.2.2.2.2.2.2.2.2.2.1, o.2.2.2.2.2.2.2.2.2.2.2.2.2.2.1, o.2.2.2.2.2.2.2.2.2.2.2.2.2.2.2.1, o.2.2.2.2.2.2.2.2.2.2.2.2.2.2.2.2.1, o.2.2.2.2.2.2.2.2.2.2.2.2.2.2.2.2.2.1, o.2.2.2.2.2.2.2.2.2.2.2.2.2.2.2.2.2.2.1, o.2.2.2.2.2.2.2.2.2.2.2.2.2.2.2.2.2.2.2)
def s_res (o : Ob) (v : List Int64) : Ob := (o.1, o.2.1, o.2.2.1, o.2.2.2.1, v, o.2.2.2.2.2.1, o.2.2.2.2.2.2.1, o.2.2.2.2.2.2.2.1, o.2.2.2.2.2.2.2.2.1, o.2.2.2.2.2.2.2.2.2.1, o.2.2.2.2.2.2.2.2.2.2.1, o.2.2.2.2.2.2.2.2.2.2.2.1, o.2.2.2.2.2.2.2.2.2.2.2.2.1, o.2.2.2.2.2.2.2.2.2.2.2.2.2.1, o.2.2.2.2.2.2.2.2.2.2.2.2.2.2.1, o.2.2.2.2.2.2.2.2.2.2.2.2.2.2.2.1, o.2.2.2.2.2.2.2.2.2.2.2.2.2.2.2.2.1, o.2.2.2.2.2.2.2.2.2.2.2.2.2.2.2.2.2.1, o.2.2.2.2.2.2.2.2.2.2.2.2.2.2.2.2.2.2.1, o.2.2.2.2.2.2.2.2.2.2.2.2.2.2.2.2.2.2.2)
def s_resNull (o : Ob) (v : List Int32) : Ob := (o.1, o.2.1, o.2.2.1, o.2.2.2.1, o.2.2.2.2.1, v, o.2.2.2.2.2.2.1, o.2.2.2.2.2.2.2.1, o.2.2.2.2.2.2.2.2.1, o.2.2.2.2.2.2.2.2.2.1, o.2.2.2.2.2.2.2.2.2.2.1, o.2.2.2.2.2.2.2.2.2.2.2.1, o.2.2.2.2.2.2.2.2.2.2.2.2.1, o.2.2.2.2.2.2.2.2.2.2.2.2.2.1, o.2.2.2.2.2.2.2.2.2.2.2.2.2.2.1, o.2.2.2.2.2.2.2.2.2.2.2.2.2.2.2.1, o.2.2.2.2.2.2.2.2.2.2.2.2.2.2.2.2.1, o.2.2.2.2.2.2.2.2.2.2.2.2.2.2.2.2.2.1, o.2.2.2.2.2.2.2.2.2.2.2.2.2.2.2.2.2.2.1, o.2.2.2.2.2.2.2.2.2.2.2.2.2.2.2.2.2.2.2)
def s_frameCnt (o : Ob) (v : List Int32) : Ob := (o.1, o.2.1, o.2.2.1, o.2.2.2.1, o.2.2.2.2.1, o.2.2.2.2.2.1, v, o.2.2.2.2.2.2.2.1, o.2.2.2.2.2.2.2.2.1, o.2.2.2.2.2.2.2.2.2.1, o.2.2.2.2.2.2.2.2.2.2.1, o.2.2.2.2.2.2.2.2.2.2.2.1, o.2.2.2.2.2.2.2.2.2.2.2.2.1, o.2.2.2.2.2.2.2.2.2.2.2.2.2.1, o.2.2.2.2.2.2.2.2.2.2.2.2.2.2.1, o.2.2.2.2.2.2.2.2.2.2.2.2.2.2.2.1, o.2.2.2.2.2.2.2.2.2.2.2.2.2.2.2.2.1, o.2.2.2.2.2.2.2.2.2.2.2.2.2.2.2.2.2.1, o.2.2.2.2.2.2.2.2.2.2.2.2.2.2.2.2.2.2.1, o.2.2.2.2.2.2.2.2.2.2.2.2.2.2.2.2.2.2.2)
def s_sorted (o : Ob) (v : List Int32) : Ob := (o.1, o.2.1, o.2.2.1, o.2.2.2.1, o.2.2.2.2.1, o.2.2.2.2.2.1, o.2.2.2.2.2.2.1, v, o.2.2.2.2.2.2.2.2.1, o.2.2.2.2.2.2.2.2.2.1, o.2.2.2.2.2.2.2.2.2.2.1, o.2.2.2.2.2.2.2.2.2.2.2.1, o.2.2.2.2.2.2.2.2.2.2.2.2.1, o.2.2.2.2.2.2.2.2.2.2.2.2.2.1, o.2.2.2.2.2.2.2.2.2.2.2.2.2.2.1, o.2.2.2.2.2.2.2.2.2.2.2.2.2.2.2.1, o.2.2.2.2.2.2.2.2.2.2.2.2.2.2.2.2.1, o.2.2.2.2.2.2.2.2.2.2.2.2.2.2.2.2.2.1, o.2.2.2.2.2.2.2.2.2.2.2.2.2.2.2.2.2.2.1, o.2.2.2.2.2.2.2.2.2.2.2.2.2.2.2.2.2.2.2)
def s_cap (o : Ob) (v : Int32) : Ob := (o.1, o.2.1, o.2.2.1, o.2.2.2.1, o.2.2.2.2.1, o.2.2.2.2.2.1, o.2.2.2.2.2.2.1, o.2.2.2.2.2.2.2.1, v, o.2.2.2.2.2.2.2.2.2.1, o.2.2.2.2.2.2.2.2.2.2.1, o.2.2.2.2.2.2.2.2.2.2.2.1, o.2.2.2.2.2.2.2.2.2.2.2.2.1, o.2.2.2.2.2.2.2.2.2.2.2.2.2.1, o.2.2.2.2.2.2.2.2.2.2.2.2.2.2.1, o.2.2.2.2.2.2.2.2.2.2.2.2.2.2.2.1, o.2.2.2.2.2.2.2.2.2.2.2.2.2.2.2.2.1, o.2.2.2.2.2.2.2.2.2.2.2.2.2.2.2.2.2.1, o.2.2.2.2.2.2.2.2.2.2.2.2.2.2.2.2.2.2.1, o.2.2.2.2.2.2.2.2.2.2.2.2.2.2.2.2.2.2.2)
def s_rows (o : Ob) (v : Int32) : Ob := (o.1, o.2.1, o.2.2.1, o.2.2.2.1, o.2.2.2.2.1, o.2.2.2.2.2.1, o.2.2.2.2.2.2.1, o.2.2.2.2.2.2.2.1, o.2.2.2.2.2.2.2.2.1, v, o.2.2.2.2.2.2.2.2.2.2.1, o.2.2.2.2.2.2.2.2.2.2.2.1, o.2.2.2.2.2.2.2.2.2.2.2.2.1, o.2.2.2.2.2.2.2.2.2.2.2.2.2.1, o.2.2.2.2.2.2.2.2.2.2.2.2.2.2.1, o.2.2.2.2.2.2.2.2.2.2.2.2.2.2.2.1, o.2.2.2.2.2.2.2.2.2.2.2.2.2.2.2.2.1, o.2.2.2.2.2.2.2.2.2.2.2.2.2.2.2.2.2.1, o.2.2.2.2.2.2.2.2.2.2.2.2.2.2.2.2.2.2.1, o.2.2.2.2.2.2.2.2.2.2.2.2.2.2.2.2.2.2.2)
def s_direction (o : Ob) (v : Int32) : Ob := (o.1, o.2.1, o.2.2.1, o.2.2.2.1, o.2.2.2.2.1, o.2.2.2.2.2.1, o.2.2.2.2.2.2.1, o.2.2.2.2.2.2.2.1, o.2.2.2.2.2.2.2.2.1, o.2.2.2.2.2.2.2.2.2.1, v, o.2.2.2.2.2.2.2.2.2.2.2.1, o.2.2.2.2.2.2.2.2.2.2.2.2.1, o.2.2.2.2.2.2.2.2.2.2.2.2.2.1, o.2.2.2.2.2.2.2.2.2.2.2.2.2.2.1, o.2.2.2.2.2.2.2.2.2.2.2.2.2.2.2.1, o.2.2.2.2.2.2.2.2.2.2.2.2.2.2.2.2.1, o.2.2.2.2.2.2.2.2.2.2.2.2.2.2.2.2.2.1, o.2.2.2.2.2.2.2.2.2.2.2.2.2.2.2.2.2.2.1, o.2.2.2.2.2.2.2.2.2.2.2.2.2.2.2.2.2.2.2)
def s_nulls (o : Ob) (v : Int32) : Ob := (o.1, o.2.1, o.2.2.1, o.2.2.2.1, o.2.2.2.2.1, o.2.2.2.2.2.1, o.2.2.2.2.2.2.1, o.2.2.2.2.2.2.2.1, o.2.2.2.2.2.2.2.2.1, o.2.2.2.2.2.2.2.2.2.1, o.2.2.2.2.2.2.2.2.2.2.1, v, o.2.2.2.2.2.2.2.2.2.2.2.2.1, o.2.2.2.2.2.2.2.2.2.2.2.2.2.1, o.2.2.2.2.2.2.2.2.2.2.2.2.2.2.1, o.2.2.2.2.2.2.2.2.2.2.2.2.2.2.2.1, o.2.2.2.2.2.2.2.2.2.2.2.2.2.2.2.2.1, o.2.2.2.2.2.2.2.2.2.2.2.2.2.2.2.2.2.1, o.2.2.2.2.2.2.2.2.2.2.2.2.2.2.2.2.2.2.1, o.2.2.2.2.2.2.2.2.2.2.2.2.2.2.2.2.2.2.2)
def s_mode (o : Ob) (v : Int32) : Ob := (o.1, o.2.1, o.2.2.1, o.2.2.2.1, o.2.2.2.2.1, o.2.2.2.2.2.1, o.2.2.2.2.2.2.1, o.2.2.2.2.2.2.2.1, o.2.2.2.2.2.2.2.2.1, o.2.2.2.2.2.2.2.2.2.1, o.2.2.2.2.2.2.2.2.2.2.1, o.2.2.2.2.2.2.2.2.2.2.2.1, v, o.2.2.2.2.2.2.2.2.2.2.2.2.2.1, o.2.2.2.2.2.2.2.2.2.2.2.2.2.2.1, o.2.2.2.2.2.2.2.2.2.2.2.2.2.2.2.1, o.2.2.2.2.2.2.2.2.2.2.2.2.2.2.2.2.1, o.2.2.2.2.2.2.2.2.2.2.2.2.2.2.2.2.2.1, o.2.2.2.2.2.2.2.2.2.2.2.2.2.2.2.2.2.2.1, o.2.2.2.2.2.2.2.2.2.2.2.2.2.2.2.2.2.2.2)
def s_startKind (o : Ob) (v : Int32) : Ob := (o.1, o.2.1, o.2.2.1, o.2.2.2.1, o.2.2.2.2.1, o.2.2.2.2.2.1, o.2.2.2.2.2.2.1, o.2.2.2.2.2.2.2.1, o.2.2.2.2.2.2.2.2.1, o.2.2.2.2.2.2.2.2.2.1, o.2.2.2.2.2.2.2.2.2.2.1, o.2.2.2.2.2.2.2.2.2.2.2.1, o.2.2.2.2.2.2.2.2.2.2.2.2.1, v, o.2.2.2.2.2.2.2.2.2.2.2.2.2.2.1, o.2.2.2.2.2.2.2.2.2.2.2.2.2.2.2.1, o.2.2.2.2.2.2.2.2.2.2.2.2.2.2.2.2.1, o.2.2.2.2.2.2.2.2.2.2.2.2.2.2.2.2.2.1, o.2.2.2.2.2.2.2.2.2.2.2.2.2.2.2.2.2.2.1, o.2.2.2.2.2.2.2.2.2.2.2.2.2.2.2.2.2.2.2)
def s_startOff (o : Ob) (v : Int32) : Ob := (o.1, o.2.1, o.2.2.1, o.2.2.2.1, o.2.2.2.2.1, o.2.2.2.2.2.1, o.2.2.2.2.2.2.1, o.2.2.2.2.2.2.2.1, o.2.2.2.2.2.2.2.2.1, o.2.2.2.2.2.2.2.2.2.1, o.2.2.2.2.2.2.2.2.2.2.1, o.2.2.2.2.2.2.2.2.2.2.2.1, o.2.2.2.2.2.2.2.2.2.2.2.2.1, o.2.2.2.2.2.2.2.2.2.2.2.2.2.1, v, o.2.2.2.2.2.2.2.2.2.2.2.2.2.2.2.1, o.2.2.2.2.2.2.2.2.2.2.2.2.2.2.2.2.1, o.2.2.2.2.2.2.2.2.2.2.2.2.2.2.2.2.2.1, o.2.2.2.2.2.2.2.2.2.2.2.2.2.2.2.2.2.2.1, o.2.2.2.2.2.2.2.2.2.2.2.2.2.2.2.2.2.2.2)
def s_endKind (o : Ob) (v : Int32) : Ob := (o.1, o.2.1, o.2.2.1, o.2.2.2.1, o.2.2.2.2.1, o.2.2.2.2.2.1, o.2.2.2.2.2.2.1, o.2.2.2.2.2.2.2.1, o.2.2.2.2.2.2.2.2.1, o.2.2.2.2.2.2.2.2.2.1, o.2.2.2.2.2.2.2.2.2.2.1, o.2.2.2.2.2.2.2.2.2.2.2.1, o.2.2.2.2.2.2.2.2.2.2.2.2.1, o.2.2.2.2.2.2.2.2.2.2.2.2.2.1, o.2.2.2.2.2.2.2.2.2.2.2.2.2.2.1, v, o.2.2.2.2.2.2.2.2.2.2.2.2.2.2.2.2.1, o.2.2.2.2.2.2.2.2.2.2.2.2.2.2.2.2.2.1, o.2.2.2.2.2.2.2.2.2.2.2.2.2.2.2.2.2.2.1, o.2.2.2.2.2.2.2.2.2.2.2.2.2.2.2.2.2.2.2)
def s_endOff (o : Ob) (v : Int32) : Ob := (o.1, o.2.1, o.2.2.1, o.2.2.2.1, o.2.2.2.2.1, o.2.2.2.2.2.1, o.2.2.2.2.2.2.1, o.2.2.2.2.2.2.2.1, o.2.2.2.2.2.2.2.2.1, o.2.2.2.2.2.2.2.2.2.1, o.2.2.2.2.2.2.2.2.2.2.1, o.2.2.2.2.2.2.2.2.2.2.2.1, o.2.2.2.2.2.2.2.2.2.2.2.2.1, o.2.2.2.2.2.2.2.2.2.2.2.2.2.1, o.2.2.2.2.2.2.2.2.2.2.2.2.2.2.1, o.2.2.2.2.2.2.2.2.2.2.2.2.2.2.2.1, v, o.2.2.2.2.2.2.2.2.2.2.2.2.2.2.2.2.2.1, o.2.2.2.2.2.2.2.2.2.2.2.2.2.2.2.2.2.2.1, o.2.2.2.2.2.2.2.2.2.2.2.2.2.2.2.2.2.2.2)
def s_fn (o : Ob) (v : Int32) : Ob := (o.1, o.2.1, o.2.2.1, o.2.2.2.1, o.2.2.2.2.1, o.2.2.2.2.2.1, o.2.2.2.2.2.2.1, o.2.2.2.2.2.2.2.1, o.2.2.2.2.2.2.2.2.1, o.2.2.2.2.2.2.2.2.2.1, o.2.2.2.2.2.2.2.2.2.2.1, o.2.2.2.2.2.2.2.2.2.2.2.1, o.2.2.2.2.2.2.2.2.2.2.2.2.1, o.2.2.2.2.2.2.2.2.2.2.2.2.2.1, o.2.2.2.2.2.2.2.2.2.2.2.2.2.2.1, o.2.2.2.2.2.2.2.2.2.2.2.2.2.2.2.1, o.2.2.2.2.2.2.2.2.2.2.2.2.2.2.2.2.1, v, o.2.2.2.2.2.2.2.2.2.2.2.2.2.2.2.2.2.2.1, o.2.2.2.2.2.2.2.2.2.2.2.2.2.2.2.2.2.2.2)
def s_fnArg (o : Ob) (v : Int32) : Ob := (o.1, o.2.1, o.2.2.1, o.2.2.2.1, o.2.2.2.2.1, o.2.2.2.2.2.1, o.2.2.2.2.2.2.1, o.2.2.2.2.2.2.2.1, o.2.2.2.2.2.2.2.2.1, o.2.2.2.2.2.2.2.2.2.1, o.2.2.2.2.2.2.2.2.2.2.1, o.2.2.2.2.2.2.2.2.2.2.2.1, o.2.2.2.2.2.2.2.2.2.2.2.2.1, o.2.2.2.2.2.2.2.2.2.2.2.2.2.1, o.2.2.2.2.2.2.2.2.2.2.2.2.2.2.1, o.2.2.2.2.2.2.2.2.2.2.2.2.2.2.2.1, o.2.2.2.2.2.2.2.2.2.2.2.2.2.2.2.2.1, o.2.2.2.2.2.2.2.2.2.2.2.2.2.2.2.2.2.1, v, o.2.2.2.2.2.2.2.2.2.2.2.2.2.2.2.2.2.2.2)
def s_computed (o : Ob) (v : Int32) : Ob := (o.1, o.2.1, o.2.2.1, o.2.2.2.1, o.2.2.2.2.1, o.2.2.2.2.2.1, o.2.2.2.2.2.2.1, o.2.2.2.2.2.2.2.1, o.2.2.2.2.2.2.2.2.1, o.2.2.2.2.2.2.2.2.2.1, o.2.2.2.2.2.2.2.2.2.2.1, o.2.2.2.2.2.2.2.2.2.2.2.1, o.2.2.2.2.2.2.2.2.2.2.2.2.1, o.2.2.2.2.2.2.2.2.2.2.2.2.2.1, o.2.2.2.2.2.2.2.2.2.2.2.2.2.2.1, o.2.2.2.2.2.2.2.2.2.2.2.2.2.2.2.1, o.2.2.2.2.2.2.2.2.2.2.2.2.2.2.2.2.1, o.2.2.2.2.2.2.2.2.2.2.2.2.2.2.2.2.2.1, o.2.2.2.2.2.2.2.2.2.2.2.2.2.2.2.2.2.2.1, v)
def ob0 : Ob := ([], [], [], [], [], [], [], [], 0, 0, 0, 0, 0, 0, 0, 0, 0, 0, 0, 0)
section Walks
variable {l : Launch} {Z : State} {n0 : Nat} {ad : Nat → Addr} {a0 : Array Value}
set_option maxRecDepth 20000
def H0 (o0 : Ob) : QHeap := [.inl [.ref 1, .ref 2, .ref 3, .ref 4, .ref 5, .ref 6, .ref 7, .ref 8, .int (f_cap o0), .int (f_rows o0), .int (f_direction o0), .int (f_nulls o0), .int (f_mode o0), .int (f_startKind o0), .int (f_startOff o0), .int (f_endKind o0), .int (f_endOff o0), .int (f_fn o0), .int (f_fnArg o0), .int (f_computed o0)], .inr (.inl (.int, (f_part o0))), .inr (.inl (.int, (f_keys o0))), .inr (.inl (.int, (f_vals o0))), .inr (.inl (.int, (f_flg o0))), .inr (.inr (f_res o0)), .inr (.inl (.boolean, (f_resNull o0))), .inr (.inl (.int, (f_frameCnt o0))), .inr (.inl (.int, (f_sorted o0)))]
/-- resetSpec()V -/
def F2 (o : Ob) : Option (Ob) :=
  some (s_fnArg (s_fn (s_endOff (s_endKind (s_startOff (s_startKind (s_mode (s_nulls (s_direction o (1 : Int32)) (1 : Int32)) (1 : Int32)) (0 : Int32)) (0 : Int32)) (2 : Int32)) (0 : Int32)) (0 : Int32)) (0 : Int32))
theorem tF2 (Ad : QAd n0 ad) (W : QW Z a0) (o : Ob) {r : Ob} (h : F2 o = some r) : QTri l Z n0 ad 2 (0, qentry [.ref 0] (pMaxL 2), [], (H0 o)) (none : Option Value) (H0 r) := by
  unfold F2 at h
  refine QTri.steps Ad W 3 (st' := (5, [some (.ref 0)], [], [.inl [.ref 1, .ref 2, .ref 3, .ref 4, .ref 5, .ref 6, .ref 7, .ref 8, .int (f_cap o), .int (f_rows o), .int (1 : Int32), .int (f_nulls o), .int (f_mode o), .int (f_startKind o), .int (f_startOff o), .int (f_endKind o), .int (f_endOff o), .int (f_fn o), .int (f_fnArg o), .int (f_computed o)], .inr (.inl (.int, (f_part o))), .inr (.inl (.int, (f_keys o))), .inr (.inl (.int, (f_vals o))), .inr (.inl (.int, (f_flg o))), .inr (.inr (f_res o)), .inr (.inl (.boolean, (f_resNull o))), .inr (.inl (.int, (f_frameCnt o))), .inr (.inl (.int, (f_sorted o)))])) rfl ?_
  refine QTri.steps Ad W 3 (st' := (10, [some (.ref 0)], [], [.inl [.ref 1, .ref 2, .ref 3, .ref 4, .ref 5, .ref 6, .ref 7, .ref 8, .int (f_cap o), .int (f_rows o), .int (1 : Int32), .int (1 : Int32), .int (f_mode o), .int (f_startKind o), .int (f_startOff o), .int (f_endKind o), .int (f_endOff o), .int (f_fn o), .int (f_fnArg o), .int (f_computed o)], .inr (.inl (.int, (f_part o))), .inr (.inl (.int, (f_keys o))), .inr (.inl (.int, (f_vals o))), .inr (.inl (.int, (f_flg o))), .inr (.inr (f_res o)), .inr (.inl (.boolean, (f_resNull o))), .inr (.inl (.int, (f_frameCnt o))), .inr (.inl (.int, (f_sorted o)))])) rfl ?_
  refine QTri.steps Ad W 3 (st' := (15, [some (.ref 0)], [], [.inl [.ref 1, .ref 2, .ref 3, .ref 4, .ref 5, .ref 6, .ref 7, .ref 8, .int (f_cap o), .int (f_rows o), .int (1 : Int32), .int (1 : Int32), .int (1 : Int32), .int (f_startKind o), .int (f_startOff o), .int (f_endKind o), .int (f_endOff o), .int (f_fn o), .int (f_fnArg o), .int (f_computed o)], .inr (.inl (.int, (f_part o))), .inr (.inl (.int, (f_keys o))), .inr (.inl (.int, (f_vals o))), .inr (.inl (.int, (f_flg o))), .inr (.inr (f_res o)), .inr (.inl (.boolean, (f_resNull o))), .inr (.inl (.int, (f_frameCnt o))), .inr (.inl (.int, (f_sorted o)))])) rfl ?_
  refine QTri.steps Ad W 3 (st' := (20, [some (.ref 0)], [], [.inl [.ref 1, .ref 2, .ref 3, .ref 4, .ref 5, .ref 6, .ref 7, .ref 8, .int (f_cap o), .int (f_rows o), .int (1 : Int32), .int (1 : Int32), .int (1 : Int32), .int (0 : Int32), .int (f_startOff o), .int (f_endKind o), .int (f_endOff o), .int (f_fn o), .int (f_fnArg o), .int (f_computed o)], .inr (.inl (.int, (f_part o))), .inr (.inl (.int, (f_keys o))), .inr (.inl (.int, (f_vals o))), .inr (.inl (.int, (f_flg o))), .inr (.inr (f_res o)), .inr (.inl (.boolean, (f_resNull o))), .inr (.inl (.int, (f_frameCnt o))), .inr (.inl (.int, (f_sorted o)))])) rfl ?_
  refine QTri.steps Ad W 3 (st' := (25, [some (.ref 0)], [], [.inl [.ref 1, .ref 2, .ref 3, .ref 4, .ref 5, .ref 6, .ref 7, .ref 8, .int (f_cap o), .int (f_rows o), .int (1 : Int32), .int (1 : Int32), .int (1 : Int32), .int (0 : Int32), .int (0 : Int32), .int (f_endKind o), .int (f_endOff o), .int (f_fn o), .int (f_fnArg o), .int (f_computed o)], .inr (.inl (.int, (f_part o))), .inr (.inl (.int, (f_keys o))), .inr (.inl (.int, (f_vals o))), .inr (.inl (.int, (f_flg o))), .inr (.inr (f_res o)), .inr (.inl (.boolean, (f_resNull o))), .inr (.inl (.int, (f_frameCnt o))), .inr (.inl (.int, (f_sorted o)))])) rfl ?_
  refine QTri.steps Ad W 3 (st' := (30, [some (.ref 0)], [], [.inl [.ref 1, .ref 2, .ref 3, .ref 4, .ref 5, .ref 6, .ref 7, .ref 8, .int (f_cap o), .int (f_rows o), .int (1 : Int32), .int (1 : Int32), .int (1 : Int32), .int (0 : Int32), .int (0 : Int32), .int (2 : Int32), .int (f_endOff o), .int (f_fn o), .int (f_fnArg o), .int (f_computed o)], .inr (.inl (.int, (f_part o))), .inr (.inl (.int, (f_keys o))), .inr (.inl (.int, (f_vals o))), .inr (.inl (.int, (f_flg o))), .inr (.inr (f_res o)), .inr (.inl (.boolean, (f_resNull o))), .inr (.inl (.int, (f_frameCnt o))), .inr (.inl (.int, (f_sorted o)))])) rfl ?_
  refine QTri.steps Ad W 3 (st' := (35, [some (.ref 0)], [], [.inl [.ref 1, .ref 2, .ref 3, .ref 4, .ref 5, .ref 6, .ref 7, .ref 8, .int (f_cap o), .int (f_rows o), .int (1 : Int32), .int (1 : Int32), .int (1 : Int32), .int (0 : Int32), .int (0 : Int32), .int (2 : Int32), .int (0 : Int32), .int (f_fn o), .int (f_fnArg o), .int (f_computed o)], .inr (.inl (.int, (f_part o))), .inr (.inl (.int, (f_keys o))), .inr (.inl (.int, (f_vals o))), .inr (.inl (.int, (f_flg o))), .inr (.inr (f_res o)), .inr (.inl (.boolean, (f_resNull o))), .inr (.inl (.int, (f_frameCnt o))), .inr (.inl (.int, (f_sorted o)))])) rfl ?_
  refine QTri.steps Ad W 3 (st' := (40, [some (.ref 0)], [], [.inl [.ref 1, .ref 2, .ref 3, .ref 4, .ref 5, .ref 6, .ref 7, .ref 8, .int (f_cap o), .int (f_rows o), .int (1 : Int32), .int (1 : Int32), .int (1 : Int32), .int (0 : Int32), .int (0 : Int32), .int (2 : Int32), .int (0 : Int32), .int (0 : Int32), .int (f_fnArg o), .int (f_computed o)], .inr (.inl (.int, (f_part o))), .inr (.inl (.int, (f_keys o))), .inr (.inl (.int, (f_vals o))), .inr (.inl (.int, (f_flg o))), .inr (.inr (f_res o)), .inr (.inl (.boolean, (f_resNull o))), .inr (.inl (.int, (f_frameCnt o))), .inr (.inl (.int, (f_sorted o)))])) rfl ?_
  refine QTri.steps Ad W 3 (st' := (45, [some (.ref 0)], [], [.inl [.ref 1, .ref 2, .ref 3, .ref 4, .ref 5, .ref 6, .ref 7, .ref 8, .int (f_cap o), .int (f_rows o), .int (1 : Int32), .int (1 : Int32), .int (1 : Int32), .int (0 : Int32), .int (0 : Int32), .int (2 : Int32), .int (0 : Int32), .int (0 : Int32), .int (0 : Int32), .int (f_computed o)], .inr (.inl (.int, (f_part o))), .inr (.inl (.int, (f_keys o))), .inr (.inl (.int, (f_vals o))), .inr (.inl (.int, (f_flg o))), .inr (.inr (f_res o)), .inr (.inl (.boolean, (f_resNull o))), .inr (.inl (.int, (f_frameCnt o))), .inr (.inl (.int, (f_sorted o)))])) rfl ?_
  have E8 : ([.inl [.ref 1, .ref 2, .ref 3, .ref 4, .ref 5, .ref 6, .ref 7, .ref 8, .int (f_cap o), .int (f_rows o), .int (1 : Int32), .int (1 : Int32), .int (1 : Int32), .int (0 : Int32), .int (0 : Int32), .int (2 : Int32), .int (0 : Int32), .int (0 : Int32), .int (0 : Int32), .int (f_computed o)], .inr (.inl (.int, (f_part o))), .inr (.inl (.int, (f_keys o))), .inr (.inl (.int, (f_vals o))), .inr (.inl (.int, (f_flg o))), .inr (.inr (f_res o)), .inr (.inl (.boolean, (f_resNull o))), .inr (.inl (.int, (f_frameCnt o))), .inr (.inl (.int, (f_sorted o)))] : QHeap) = (H0 (s_fnArg (s_fn (s_endOff (s_endKind (s_startOff (s_startKind (s_mode (s_nulls (s_direction o (1 : Int32)) (1 : Int32)) (1 : Int32)) (0 : Int32)) (0 : Int32)) (2 : Int32)) (0 : Int32)) (0 : Int32)) (0 : Int32))) := by dsimp only [H0, f_part, f_keys, f_vals, f_flg, f_res, f_resNull, f_frameCnt, f_sorted, f_cap, f_rows, f_direction, f_nulls, f_mode, f_startKind, f_startOff, f_endKind, f_endOff, f_fn, f_fnArg, f_computed, s_direction, s_nulls, s_mode, s_startKind, s_startOff, s_endKind, s_endOff, s_fn, s_fnArg]
  rw [E8]
  obtain rfl := Option.some.inj h
  exact QTri.ret0 rfl rfl
/-- init(I)V -/
def F1 (x1 : Int32) : Option (Ob) :=
  (F2 (s_rows (s_cap (s_sorted (s_frameCnt (s_resNull (s_res (s_flg (s_vals (s_keys (s_part ob0 (List.replicate 32 0)) (List.replicate 32 0)) (List.replicate 32 0)) (List.replicate 32 0)) (List.replicate 32 0)) (List.replicate 32 0)) (List.replicate 32 0)) (List.replicate 32 0)) (if (32 : Int32) < (if x1 < (8 : Int32) then (8 : Int32) else x1) then (32 : Int32) else (if x1 < (8 : Int32) then (8 : Int32) else x1))) (0 : Int32))).bind fun r9 => some (s_computed r9 (0 : Int32))
theorem tF1 (Ad : QAd n0 ad) (W : QW Z a0) (x1 : Int32) {r : Ob} (h : F1 x1 = some r) : QTri l Z n0 ad 1 (0, qentry [.ref 0, .int x1] (pMaxL 1), [], [.inl [.null, .null, .null, .null, .null, .null, .null, .null, .int (f_cap ob0), .int (f_rows ob0), .int (f_direction ob0), .int (f_nulls ob0), .int (f_mode ob0), .int (f_startKind ob0), .int (f_startOff ob0), .int (f_endKind ob0), .int (f_endOff ob0), .int (f_fn ob0), .int (f_fnArg ob0), .int (f_computed ob0)]]) (none : Option Value) (H0 r) := by
  unfold F1 at h
  refine QTri.steps Ad W 1 (st' := (1, [some (.ref 0), some (.int x1), none], [.ref 0], [.inl [.null, .null, .null, .null, .null, .null, .null, .null, .int (f_cap ob0), .int (f_rows ob0), .int (f_direction ob0), .int (f_nulls ob0), .int (f_mode ob0), .int (f_startKind ob0), .int (f_startOff ob0), .int (f_endKind ob0), .int (f_endOff ob0), .int (f_fn ob0), .int (f_fnArg ob0), .int (f_computed ob0)]])) rfl ?_
  refine QTri.callO W rfl rfl rfl ?_
  refine QTri.steps Ad W 3 (st' := (9, [some (.ref 0), some (.int x1), none], [.ref 1, .ref 0], [.inl [.null, .null, .null, .null, .null, .null, .null, .null, .int (f_cap ob0), .int (f_rows ob0), .int (f_direction ob0), .int (f_nulls ob0), .int (f_mode ob0), .int (f_startKind ob0), .int (f_startOff ob0), .int (f_endKind ob0), .int (f_endOff ob0), .int (f_fn ob0), .int (f_fnArg ob0), .int (f_computed ob0)], .inr (.inl (.int, (List.replicate 32 0)))])) rfl ?_
  refine QTri.steps Ad W 1 (st' := (12, [some (.ref 0), some (.int x1), none], [], [.inl [.ref 1, .null, .null, .null, .null, .null, .null, .null, .int (f_cap ob0), .int (f_rows ob0), .int (f_direction ob0), .int (f_nulls ob0), .int (f_mode ob0), .int (f_startKind ob0), .int (f_startOff ob0), .int (f_endKind ob0), .int (f_endOff ob0), .int (f_fn ob0), .int (f_fnArg ob0), .int (f_computed ob0)], .inr (.inl (.int, (List.replicate 32 0)))])) rfl ?_
  refine QTri.steps Ad W 3 (st' := (17, [some (.ref 0), some (.int x1), none], [.ref 2, .ref 0], [.inl [.ref 1, .null, .null, .null, .null, .null, .null, .null, .int (f_cap ob0), .int (f_rows ob0), .int (f_direction ob0), .int (f_nulls ob0), .int (f_mode ob0), .int (f_startKind ob0), .int (f_startOff ob0), .int (f_endKind ob0), .int (f_endOff ob0), .int (f_fn ob0), .int (f_fnArg ob0), .int (f_computed ob0)], .inr (.inl (.int, (List.replicate 32 0))), .inr (.inl (.int, (List.replicate 32 0)))])) rfl ?_
  refine QTri.steps Ad W 1 (st' := (20, [some (.ref 0), some (.int x1), none], [], [.inl [.ref 1, .ref 2, .null, .null, .null, .null, .null, .null, .int (f_cap ob0), .int (f_rows ob0), .int (f_direction ob0), .int (f_nulls ob0), .int (f_mode ob0), .int (f_startKind ob0), .int (f_startOff ob0), .int (f_endKind ob0), .int (f_endOff ob0), .int (f_fn ob0), .int (f_fnArg ob0), .int (f_computed ob0)], .inr (.inl (.int, (List.replicate 32 0))), .inr (.inl (.int, (List.replicate 32 0)))])) rfl ?_
  refine QTri.steps Ad W 3 (st' := (25, [some (.ref 0), some (.int x1), none], [.ref 3, .ref 0], [.inl [.ref 1, .ref 2, .null, .null, .null, .null, .null, .null, .int (f_cap ob0), .int (f_rows ob0), .int (f_direction ob0), .int (f_nulls ob0), .int (f_mode ob0), .int (f_startKind ob0), .int (f_startOff ob0), .int (f_endKind ob0), .int (f_endOff ob0), .int (f_fn ob0), .int (f_fnArg ob0), .int (f_computed ob0)], .inr (.inl (.int, (List.replicate 32 0))), .inr (.inl (.int, (List.replicate 32 0))), .inr (.inl (.int, (List.replicate 32 0)))])) rfl ?_
  refine QTri.steps Ad W 1 (st' := (28, [some (.ref 0), some (.int x1), none], [], [.inl [.ref 1, .ref 2, .ref 3, .null, .null, .null, .null, .null, .int (f_cap ob0), .int (f_rows ob0), .int (f_direction ob0), .int (f_nulls ob0), .int (f_mode ob0), .int (f_startKind ob0), .int (f_startOff ob0), .int (f_endKind ob0), .int (f_endOff ob0), .int (f_fn ob0), .int (f_fnArg ob0), .int (f_computed ob0)], .inr (.inl (.int, (List.replicate 32 0))), .inr (.inl (.int, (List.replicate 32 0))), .inr (.inl (.int, (List.replicate 32 0)))])) rfl ?_
  refine QTri.steps Ad W 3 (st' := (33, [some (.ref 0), some (.int x1), none], [.ref 4, .ref 0], [.inl [.ref 1, .ref 2, .ref 3, .null, .null, .null, .null, .null, .int (f_cap ob0), .int (f_rows ob0), .int (f_direction ob0), .int (f_nulls ob0), .int (f_mode ob0), .int (f_startKind ob0), .int (f_startOff ob0), .int (f_endKind ob0), .int (f_endOff ob0), .int (f_fn ob0), .int (f_fnArg ob0), .int (f_computed ob0)], .inr (.inl (.int, (List.replicate 32 0))), .inr (.inl (.int, (List.replicate 32 0))), .inr (.inl (.int, (List.replicate 32 0))), .inr (.inl (.int, (List.replicate 32 0)))])) rfl ?_
  refine QTri.steps Ad W 1 (st' := (36, [some (.ref 0), some (.int x1), none], [], [.inl [.ref 1, .ref 2, .ref 3, .ref 4, .null, .null, .null, .null, .int (f_cap ob0), .int (f_rows ob0), .int (f_direction ob0), .int (f_nulls ob0), .int (f_mode ob0), .int (f_startKind ob0), .int (f_startOff ob0), .int (f_endKind ob0), .int (f_endOff ob0), .int (f_fn ob0), .int (f_fnArg ob0), .int (f_computed ob0)], .inr (.inl (.int, (List.replicate 32 0))), .inr (.inl (.int, (List.replicate 32 0))), .inr (.inl (.int, (List.replicate 32 0))), .inr (.inl (.int, (List.replicate 32 0)))])) rfl ?_
  refine QTri.steps Ad W 3 (st' := (41, [some (.ref 0), some (.int x1), none], [.ref 5, .ref 0], [.inl [.ref 1, .ref 2, .ref 3, .ref 4, .null, .null, .null, .null, .int (f_cap ob0), .int (f_rows ob0), .int (f_direction ob0), .int (f_nulls ob0), .int (f_mode ob0), .int (f_startKind ob0), .int (f_startOff ob0), .int (f_endKind ob0), .int (f_endOff ob0), .int (f_fn ob0), .int (f_fnArg ob0), .int (f_computed ob0)], .inr (.inl (.int, (List.replicate 32 0))), .inr (.inl (.int, (List.replicate 32 0))), .inr (.inl (.int, (List.replicate 32 0))), .inr (.inl (.int, (List.replicate 32 0))), .inr (.inr (List.replicate 32 0))])) rfl ?_
  refine QTri.steps Ad W 1 (st' := (44, [some (.ref 0), some (.int x1), none], [], [.inl [.ref 1, .ref 2, .ref 3, .ref 4, .ref 5, .null, .null, .null, .int (f_cap ob0), .int (f_rows ob0), .int (f_direction ob0), .int (f_nulls ob0), .int (f_mode ob0), .int (f_startKind ob0), .int (f_startOff ob0), .int (f_endKind ob0), .int (f_endOff ob0), .int (f_fn ob0), .int (f_fnArg ob0), .int (f_computed ob0)], .inr (.inl (.int, (List.replicate 32 0))), .inr (.inl (.int, (List.replicate 32 0))), .inr (.inl (.int, (List.replicate 32 0))), .inr (.inl (.int, (List.replicate 32 0))), .inr (.inr (List.replicate 32 0))])) rfl ?_
  refine QTri.steps Ad W 3 (st' := (49, [some (.ref 0), some (.int x1), none], [.ref 6, .ref 0], [.inl [.ref 1, .ref 2, .ref 3, .ref 4, .ref 5, .null, .null, .null, .int (f_cap ob0), .int (f_rows ob0), .int (f_direction ob0), .int (f_nulls ob0), .int (f_mode ob0), .int (f_startKind ob0), .int (f_startOff ob0), .int (f_endKind ob0), .int (f_endOff ob0), .int (f_fn ob0), .int (f_fnArg ob0), .int (f_computed ob0)], .inr (.inl (.int, (List.replicate 32 0))), .inr (.inl (.int, (List.replicate 32 0))), .inr (.inl (.int, (List.replicate 32 0))), .inr (.inl (.int, (List.replicate 32 0))), .inr (.inr (List.replicate 32 0)), .inr (.inl (.boolean, (List.replicate 32 0)))])) rfl ?_
  refine QTri.steps Ad W 1 (st' := (52, [some (.ref 0), some (.int x1), none], [], [.inl [.ref 1, .ref 2, .ref 3, .ref 4, .ref 5, .ref 6, .null, .null, .int (f_cap ob0), .int (f_rows ob0), .int (f_direction ob0), .int (f_nulls ob0), .int (f_mode ob0), .int (f_startKind ob0), .int (f_startOff ob0), .int (f_endKind ob0), .int (f_endOff ob0), .int (f_fn ob0), .int (f_fnArg ob0), .int (f_computed ob0)], .inr (.inl (.int, (List.replicate 32 0))), .inr (.inl (.int, (List.replicate 32 0))), .inr (.inl (.int, (List.replicate 32 0))), .inr (.inl (.int, (List.replicate 32 0))), .inr (.inr (List.replicate 32 0)), .inr (.inl (.boolean, (List.replicate 32 0)))])) rfl ?_
  refine QTri.steps Ad W 3 (st' := (57, [some (.ref 0), some (.int x1), none], [.ref 7, .ref 0], [.inl [.ref 1, .ref 2, .ref 3, .ref 4, .ref 5, .ref 6, .null, .null, .int (f_cap ob0), .int (f_rows ob0), .int (f_direction ob0), .int (f_nulls ob0), .int (f_mode ob0), .int (f_startKind ob0), .int (f_startOff ob0), .int (f_endKind ob0), .int (f_endOff ob0), .int (f_fn ob0), .int (f_fnArg ob0), .int (f_computed ob0)], .inr (.inl (.int, (List.replicate 32 0))), .inr (.inl (.int, (List.replicate 32 0))), .inr (.inl (.int, (List.replicate 32 0))), .inr (.inl (.int, (List.replicate 32 0))), .inr (.inr (List.replicate 32 0)), .inr (.inl (.boolean, (List.replicate 32 0))), .inr (.inl (.int, (List.replicate 32 0)))])) rfl ?_
  refine QTri.steps Ad W 1 (st' := (60, [some (.ref 0), some (.int x1), none], [], [.inl [.ref 1, .ref 2, .ref 3, .ref 4, .ref 5, .ref 6, .ref 7, .null, .int (f_cap ob0), .int (f_rows ob0), .int (f_direction ob0), .int (f_nulls ob0), .int (f_mode ob0), .int (f_startKind ob0), .int (f_startOff ob0), .int (f_endKind ob0), .int (f_endOff ob0), .int (f_fn ob0), .int (f_fnArg ob0), .int (f_computed ob0)], .inr (.inl (.int, (List.replicate 32 0))), .inr (.inl (.int, (List.replicate 32 0))), .inr (.inl (.int, (List.replicate 32 0))), .inr (.inl (.int, (List.replicate 32 0))), .inr (.inr (List.replicate 32 0)), .inr (.inl (.boolean, (List.replicate 32 0))), .inr (.inl (.int, (List.replicate 32 0)))])) rfl ?_
  refine QTri.steps Ad W 3 (st' := (65, [some (.ref 0), some (.int x1), none], [.ref 8, .ref 0], [.inl [.ref 1, .ref 2, .ref 3, .ref 4, .ref 5, .ref 6, .ref 7, .null, .int (f_cap ob0), .int (f_rows ob0), .int (f_direction ob0), .int (f_nulls ob0), .int (f_mode ob0), .int (f_startKind ob0), .int (f_startOff ob0), .int (f_endKind ob0), .int (f_endOff ob0), .int (f_fn ob0), .int (f_fnArg ob0), .int (f_computed ob0)], .inr (.inl (.int, (List.replicate 32 0))), .inr (.inl (.int, (List.replicate 32 0))), .inr (.inl (.int, (List.replicate 32 0))), .inr (.inl (.int, (List.replicate 32 0))), .inr (.inr (List.replicate 32 0)), .inr (.inl (.boolean, (List.replicate 32 0))), .inr (.inl (.int, (List.replicate 32 0))), .inr (.inl (.int, (List.replicate 32 0)))])) rfl ?_
  refine QTri.steps Ad W 1 (st' := (68, [some (.ref 0), some (.int x1), none], [], [.inl [.ref 1, .ref 2, .ref 3, .ref 4, .ref 5, .ref 6, .ref 7, .ref 8, .int (f_cap ob0), .int (f_rows ob0), .int (f_direction ob0), .int (f_nulls ob0), .int (f_mode ob0), .int (f_startKind ob0), .int (f_startOff ob0), .int (f_endKind ob0), .int (f_endOff ob0), .int (f_fn ob0), .int (f_fnArg ob0), .int (f_computed ob0)], .inr (.inl (.int, (List.replicate 32 0))), .inr (.inl (.int, (List.replicate 32 0))), .inr (.inl (.int, (List.replicate 32 0))), .inr (.inl (.int, (List.replicate 32 0))), .inr (.inr (List.replicate 32 0)), .inr (.inl (.boolean, (List.replicate 32 0))), .inr (.inl (.int, (List.replicate 32 0))), .inr (.inl (.int, (List.replicate 32 0)))])) rfl ?_
  refine QTri.steps Ad W 4 (st' := (73, [some (.ref 0), some (.int x1), some (.int x1)], [.int (8 : Int32), .int x1], [.inl [.ref 1, .ref 2, .ref 3, .ref 4, .ref 5, .ref 6, .ref 7, .ref 8, .int (f_cap ob0), .int (f_rows ob0), .int (f_direction ob0), .int (f_nulls ob0), .int (f_mode ob0), .int (f_startKind ob0), .int (f_startOff ob0), .int (f_endKind ob0), .int (f_endOff ob0), .int (f_fn ob0), .int (f_fnArg ob0), .int (f_computed ob0)], .inr (.inl (.int, (List.replicate 32 0))), .inr (.inl (.int, (List.replicate 32 0))), .inr (.inl (.int, (List.replicate 32 0))), .inr (.inl (.int, (List.replicate 32 0))), .inr (.inr (List.replicate 32 0)), .inr (.inl (.boolean, (List.replicate 32 0))), .inr (.inl (.int, (List.replicate 32 0))), .inr (.inl (.int, (List.replicate 32 0)))])) rfl ?_
  have K2 : ∀ z1 : Int32, z1 = (if x1 < (8 : Int32) then (8 : Int32) else x1) → QTri l Z n0 ad 1 (79, [some (.ref 0), none, some (.int z1)], [], [.inl [.ref 1, .ref 2, .ref 3, .ref 4, .ref 5, .ref 6, .ref 7, .ref 8, .int (f_cap ob0), .int (f_rows ob0), .int (f_direction ob0), .int (f_nulls ob0), .int (f_mode ob0), .int (f_startKind ob0), .int (f_startOff ob0), .int (f_endKind ob0), .int (f_endOff ob0), .int (f_fn ob0), .int (f_fnArg ob0), .int (f_computed ob0)], .inr (.inl (.int, (List.replicate 32 0))), .inr (.inl (.int, (List.replicate 32 0))), .inr (.inl (.int, (List.replicate 32 0))), .inr (.inl (.int, (List.replicate 32 0))), .inr (.inr (List.replicate 32 0)), .inr (.inl (.boolean, (List.replicate 32 0))), .inr (.inl (.int, (List.replicate 32 0))), .inr (.inl (.int, (List.replicate 32 0)))]) (none : Option Value) (H0 r) := by
    intro z1 ez1
    subst ez1
    refine QTri.steps Ad W 2 (st' := (82, [some (.ref 0), none, some (.int (if x1 < (8 : Int32) then (8 : Int32) else x1))], [.int (32 : Int32), .int (if x1 < (8 : Int32) then (8 : Int32) else x1)], [.inl [.ref 1, .ref 2, .ref 3, .ref 4, .ref 5, .ref 6, .ref 7, .ref 8, .int (f_cap ob0), .int (f_rows ob0), .int (f_direction ob0), .int (f_nulls ob0), .int (f_mode ob0), .int (f_startKind ob0), .int (f_startOff ob0), .int (f_endKind ob0), .int (f_endOff ob0), .int (f_fn ob0), .int (f_fnArg ob0), .int (f_computed ob0)], .inr (.inl (.int, (List.replicate 32 0))), .inr (.inl (.int, (List.replicate 32 0))), .inr (.inl (.int, (List.replicate 32 0))), .inr (.inl (.int, (List.replicate 32 0))), .inr (.inr (List.replicate 32 0)), .inr (.inl (.boolean, (List.replicate 32 0))), .inr (.inl (.int, (List.replicate 32 0))), .inr (.inl (.int, (List.replicate 32 0)))])) rfl ?_
    have K5 : ∀ z4 : Int32, z4 = (if (32 : Int32) < (if x1 < (8 : Int32) then (8 : Int32) else x1) then (32 : Int32) else (if x1 < (8 : Int32) then (8 : Int32) else x1)) → QTri l Z n0 ad 1 (88, [some (.ref 0), none, some (.int z4)], [], [.inl [.ref 1, .ref 2, .ref 3, .ref 4, .ref 5, .ref 6, .ref 7, .ref 8, .int (f_cap ob0), .int (f_rows ob0), .int (f_direction ob0), .int (f_nulls ob0), .int (f_mode ob0), .int (f_startKind ob0), .int (f_startOff ob0), .int (f_endKind ob0), .int (f_endOff ob0), .int (f_fn ob0), .int (f_fnArg ob0), .int (f_computed ob0)], .inr (.inl (.int, (List.replicate 32 0))), .inr (.inl (.int, (List.replicate 32 0))), .inr (.inl (.int, (List.replicate 32 0))), .inr (.inl (.int, (List.replicate 32 0))), .inr (.inr (List.replicate 32 0)), .inr (.inl (.boolean, (List.replicate 32 0))), .inr (.inl (.int, (List.replicate 32 0))), .inr (.inl (.int, (List.replicate 32 0)))]) (none : Option Value) (H0 r) := by
      intro z4 ez4
      subst ez4
      refine QTri.steps Ad W 3 (st' := (93, [some (.ref 0), none, some (.int (if (32 : Int32) < (if x1 < (8 : Int32) then (8 : Int32) else x1) then (32 : Int32) else (if x1 < (8 : Int32) then (8 : Int32) else x1)))], [], [.inl [.ref 1, .ref 2, .ref 3, .ref 4, .ref 5, .ref 6, .ref 7, .ref 8, .int (if (32 : Int32) < (if x1 < (8 : Int32) then (8 : Int32) else x1) then (32 : Int32) else (if x1 < (8 : Int32) then (8 : Int32) else x1)), .int (f_rows ob0), .int (f_direction ob0), .int (f_nulls ob0), .int (f_mode ob0), .int (f_startKind ob0), .int (f_startOff ob0), .int (f_endKind ob0), .int (f_endOff ob0), .int (f_fn ob0), .int (f_fnArg ob0), .int (f_computed ob0)], .inr (.inl (.int, (List.replicate 32 0))), .inr (.inl (.int, (List.replicate 32 0))), .inr (.inl (.int, (List.replicate 32 0))), .inr (.inl (.int, (List.replicate 32 0))), .inr (.inr (List.replicate 32 0)), .inr (.inl (.boolean, (List.replicate 32 0))), .inr (.inl (.int, (List.replicate 32 0))), .inr (.inl (.int, (List.replicate 32 0)))])) rfl ?_
      refine QTri.steps Ad W 3 (st' := (98, [some (.ref 0), none, some (.int (if (32 : Int32) < (if x1 < (8 : Int32) then (8 : Int32) else x1) then (32 : Int32) else (if x1 < (8 : Int32) then (8 : Int32) else x1)))], [], [.inl [.ref 1, .ref 2, .ref 3, .ref 4, .ref 5, .ref 6, .ref 7, .ref 8, .int (if (32 : Int32) < (if x1 < (8 : Int32) then (8 : Int32) else x1) then (32 : Int32) else (if x1 < (8 : Int32) then (8 : Int32) else x1)), .int (0 : Int32), .int (f_direction ob0), .int (f_nulls ob0), .int (f_mode ob0), .int (f_startKind ob0), .int (f_startOff ob0), .int (f_endKind ob0), .int (f_endOff ob0), .int (f_fn ob0), .int (f_fnArg ob0), .int (f_computed ob0)], .inr (.inl (.int, (List.replicate 32 0))), .inr (.inl (.int, (List.replicate 32 0))), .inr (.inl (.int, (List.replicate 32 0))), .inr (.inl (.int, (List.replicate 32 0))), .inr (.inr (List.replicate 32 0)), .inr (.inl (.boolean, (List.replicate 32 0))), .inr (.inl (.int, (List.replicate 32 0))), .inr (.inl (.int, (List.replicate 32 0)))])) rfl ?_
      refine QTri.steps Ad W 1 (st' := (99, [some (.ref 0), none, some (.int (if (32 : Int32) < (if x1 < (8 : Int32) then (8 : Int32) else x1) then (32 : Int32) else (if x1 < (8 : Int32) then (8 : Int32) else x1)))], [.ref 0], [.inl [.ref 1, .ref 2, .ref 3, .ref 4, .ref 5, .ref 6, .ref 7, .ref 8, .int (if (32 : Int32) < (if x1 < (8 : Int32) then (8 : Int32) else x1) then (32 : Int32) else (if x1 < (8 : Int32) then (8 : Int32) else x1)), .int (0 : Int32), .int (f_direction ob0), .int (f_nulls ob0), .int (f_mode ob0), .int (f_startKind ob0), .int (f_startOff ob0), .int (f_endKind ob0), .int (f_endOff ob0), .int (f_fn ob0), .int (f_fnArg ob0), .int (f_computed ob0)], .inr (.inl (.int, (List.replicate 32 0))), .inr (.inl (.int, (List.replicate 32 0))), .inr (.inl (.int, (List.replicate 32 0))), .inr (.inl (.int, (List.replicate 32 0))), .inr (.inr (List.replicate 32 0)), .inr (.inl (.boolean, (List.replicate 32 0))), .inr (.inl (.int, (List.replicate 32 0))), .inr (.inl (.int, (List.replicate 32 0)))])) rfl ?_
      have E7 : ([.inl [.ref 1, .ref 2, .ref 3, .ref 4, .ref 5, .ref 6, .ref 7, .ref 8, .int (if (32 : Int32) < (if x1 < (8 : Int32) then (8 : Int32) else x1) then (32 : Int32) else (if x1 < (8 : Int32) then (8 : Int32) else x1)), .int (0 : Int32), .int (f_direction ob0), .int (f_nulls ob0), .int (f_mode ob0), .int (f_startKind ob0), .int (f_startOff ob0), .int (f_endKind ob0), .int (f_endOff ob0), .int (f_fn ob0), .int (f_fnArg ob0), .int (f_computed ob0)], .inr (.inl (.int, (List.replicate 32 0))), .inr (.inl (.int, (List.replicate 32 0))), .inr (.inl (.int, (List.replicate 32 0))), .inr (.inl (.int, (List.replicate 32 0))), .inr (.inr (List.replicate 32 0)), .inr (.inl (.boolean, (List.replicate 32 0))), .inr (.inl (.int, (List.replicate 32 0))), .inr (.inl (.int, (List.replicate 32 0)))] : QHeap) = (H0 (s_rows (s_cap (s_sorted (s_frameCnt (s_resNull (s_res (s_flg (s_vals (s_keys (s_part ob0 (List.replicate 32 0)) (List.replicate 32 0)) (List.replicate 32 0)) (List.replicate 32 0)) (List.replicate 32 0)) (List.replicate 32 0)) (List.replicate 32 0)) (List.replicate 32 0)) (if (32 : Int32) < (if x1 < (8 : Int32) then (8 : Int32) else x1) then (32 : Int32) else (if x1 < (8 : Int32) then (8 : Int32) else x1))) (0 : Int32))) := by dsimp only [H0, f_part, f_keys, f_vals, f_flg, f_res, f_resNull, f_frameCnt, f_sorted, f_cap, f_rows, f_direction, f_nulls, f_mode, f_startKind, f_startOff, f_endKind, f_endOff, f_fn, f_fnArg, f_computed, s_part, s_keys, s_vals, s_flg, s_res, s_resNull, s_frameCnt, s_sorted, s_cap, s_rows, ob0]
      rw [E7]
      obtain ⟨r9, hr9, h⟩ := Option.bind_eq_some_iff.mp h
      refine QTri.callP W (a := 0) (as := []) (rest := []) (w := none) (σ₁ := (H0 r9)) rfl rfl rfl rfl rfl rfl rfl rfl (tF2 Ad W (s_rows (s_cap (s_sorted (s_frameCnt (s_resNull (s_res (s_flg (s_vals (s_keys (s_part ob0 (List.replicate 32 0)) (List.replicate 32 0)) (List.replicate 32 0)) (List.replicate 32 0)) (List.replicate 32 0)) (List.replicate 32 0)) (List.replicate 32 0)) (List.replicate 32 0)) (if (32 : Int32) < (if x1 < (8 : Int32) then (8 : Int32) else x1) then (32 : Int32) else (if x1 < (8 : Int32) then (8 : Int32) else x1))) (0 : Int32)) hr9) ?_
      refine QTri.steps Ad W 3 (st' := (107, [some (.ref 0), none, some (.int (if (32 : Int32) < (if x1 < (8 : Int32) then (8 : Int32) else x1) then (32 : Int32) else (if x1 < (8 : Int32) then (8 : Int32) else x1)))], [], [.inl [.ref 1, .ref 2, .ref 3, .ref 4, .ref 5, .ref 6, .ref 7, .ref 8, .int (f_cap r9), .int (f_rows r9), .int (f_direction r9), .int (f_nulls r9), .int (f_mode r9), .int (f_startKind r9), .int (f_startOff r9), .int (f_endKind r9), .int (f_endOff r9), .int (f_fn r9), .int (f_fnArg r9), .int (0 : Int32)], .inr (.inl (.int, (f_part r9))), .inr (.inl (.int, (f_keys r9))), .inr (.inl (.int, (f_vals r9))), .inr (.inl (.int, (f_flg r9))), .inr (.inr (f_res r9)), .inr (.inl (.boolean, (f_resNull r9))), .inr (.inl (.int, (f_frameCnt r9))), .inr (.inl (.int, (f_sorted r9)))])) rfl ?_
      have E10 : ([.inl [.ref 1, .ref 2, .ref 3, .ref 4, .ref 5, .ref 6, .ref 7, .ref 8, .int (f_cap r9), .int (f_rows r9), .int (f_direction r9), .int (f_nulls r9), .int (f_mode r9), .int (f_startKind r9), .int (f_startOff r9), .int (f_endKind r9), .int (f_endOff r9), .int (f_fn r9), .int (f_fnArg r9), .int (0 : Int32)], .inr (.inl (.int, (f_part r9))), .inr (.inl (.int, (f_keys r9))), .inr (.inl (.int, (f_vals r9))), .inr (.inl (.int, (f_flg r9))), .inr (.inr (f_res r9)), .inr (.inl (.boolean, (f_resNull r9))), .inr (.inl (.int, (f_frameCnt r9))), .inr (.inl (.int, (f_sorted r9)))] : QHeap) = (H0 (s_computed r9 (0 : Int32))) := by dsimp only [H0, f_part, f_keys, f_vals, f_flg, f_res, f_resNull, f_frameCnt, f_sorted, f_cap, f_rows, f_direction, f_nulls, f_mode, f_startKind, f_startOff, f_endKind, f_endOff, f_fn, f_fnArg, f_computed, s_computed]
      rw [E10]
      obtain rfl := Option.some.inj h
      exact QTri.ret0 rfl rfl
    rcases Classical.em ((32 : Int32) < (if x1 < (8 : Int32) then (8 : Int32) else x1)) with hc6 | hc6
    · refine QTri.brF Ad W (t := 88) (f := 85) (L := [some (.ref 0), none, some (.int (if x1 < (8 : Int32) then (8 : Int32) else x1))]) (S := []) (σ := [.inl [.ref 1, .ref 2, .ref 3, .ref 4, .ref 5, .ref 6, .ref 7, .ref 8, .int (f_cap ob0), .int (f_rows ob0), .int (f_direction ob0), .int (f_nulls ob0), .int (f_mode ob0), .int (f_startKind ob0), .int (f_startOff ob0), .int (f_endKind ob0), .int (f_endOff ob0), .int (f_fn ob0), .int (f_fnArg ob0), .int (f_computed ob0)], .inr (.inl (.int, (List.replicate 32 0))), .inr (.inl (.int, (List.replicate 32 0))), .inr (.inl (.int, (List.replicate 32 0))), .inr (.inl (.int, (List.replicate 32 0))), .inr (.inr (List.replicate 32 0)), .inr (.inl (.boolean, (List.replicate 32 0))), .inr (.inl (.int, (List.replicate 32 0))), .inr (.inl (.int, (List.replicate 32 0)))]) rfl (XT.ii_le_f hc6) ?_
      refine QTri.steps Ad W 2 (st' := (88, [some (.ref 0), none, some (.int (32 : Int32))], [], [.inl [.ref 1, .ref 2, .ref 3, .ref 4, .ref 5, .ref 6, .ref 7, .ref 8, .int (f_cap ob0), .int (f_rows ob0), .int (f_direction ob0), .int (f_nulls ob0), .int (f_mode ob0), .int (f_startKind ob0), .int (f_startOff ob0), .int (f_endKind ob0), .int (f_endOff ob0), .int (f_fn ob0), .int (f_fnArg ob0), .int (f_computed ob0)], .inr (.inl (.int, (List.replicate 32 0))), .inr (.inl (.int, (List.replicate 32 0))), .inr (.inl (.int, (List.replicate 32 0))), .inr (.inl (.int, (List.replicate 32 0))), .inr (.inr (List.replicate 32 0)), .inr (.inl (.boolean, (List.replicate 32 0))), .inr (.inl (.int, (List.replicate 32 0))), .inr (.inl (.int, (List.replicate 32 0)))])) rfl ?_
      exact QTri.mask [true, false, true] (K5 _ (if_pos hc6).symm)
    · refine QTri.brT Ad W (t := 88) (f := 85) (L := [some (.ref 0), none, some (.int (if x1 < (8 : Int32) then (8 : Int32) else x1))]) (S := []) (σ := [.inl [.ref 1, .ref 2, .ref 3, .ref 4, .ref 5, .ref 6, .ref 7, .ref 8, .int (f_cap ob0), .int (f_rows ob0), .int (f_direction ob0), .int (f_nulls ob0), .int (f_mode ob0), .int (f_startKind ob0), .int (f_startOff ob0), .int (f_endKind ob0), .int (f_endOff ob0), .int (f_fn ob0), .int (f_fnArg ob0), .int (f_computed ob0)], .inr (.inl (.int, (List.replicate 32 0))), .inr (.inl (.int, (List.replicate 32 0))), .inr (.inl (.int, (List.replicate 32 0))), .inr (.inl (.int, (List.replicate 32 0))), .inr (.inr (List.replicate 32 0)), .inr (.inl (.boolean, (List.replicate 32 0))), .inr (.inl (.int, (List.replicate 32 0))), .inr (.inl (.int, (List.replicate 32 0)))]) rfl (XT.ii_le_t hc6) ?_
      exact QTri.mask [true, false, true] (K5 _ (if_neg hc6).symm)
  rcases Classical.em (x1 < (8 : Int32)) with hc3 | hc3
  · refine QTri.brF Ad W (t := 79) (f := 76) (L := [some (.ref 0), some (.int x1), some (.int x1)]) (S := []) (σ := [.inl [.ref 1, .ref 2, .ref 3, .ref 4, .ref 5, .ref 6, .ref 7, .ref 8, .int (f_cap ob0), .int (f_rows ob0), .int (f_direction ob0), .int (f_nulls ob0), .int (f_mode ob0), .int (f_startKind ob0), .int (f_startOff ob0), .int (f_endKind ob0), .int (f_endOff ob0), .int (f_fn ob0), .int (f_fnArg ob0), .int (f_computed ob0)], .inr (.inl (.int, (List.replicate 32 0))), .inr (.inl (.int, (List.replicate 32 0))), .inr (.inl (.int, (List.replicate 32 0))), .inr (.inl (.int, (List.replicate 32 0))), .inr (.inr (List.replicate 32 0)), .inr (.inl (.boolean, (List.replicate 32 0))), .inr (.inl (.int, (List.replicate 32 0))), .inr (.inl (.int, (List.replicate 32 0)))]) rfl (XT.ii_ge_f hc3) ?_
    refine QTri.steps Ad W 2 (st' := (79, [some (.ref 0), some (.int x1), some (.int (8 : Int32))], [], [.inl [.ref 1, .ref 2, .ref 3, .ref 4, .ref 5, .ref 6, .ref 7, .ref 8, .int (f_cap ob0), .int (f_rows ob0), .int (f_direction ob0), .int (f_nulls ob0), .int (f_mode ob0), .int (f_startKind ob0), .int (f_startOff ob0), .int (f_endKind ob0), .int (f_endOff ob0), .int (f_fn ob0), .int (f_fnArg ob0), .int (f_computed ob0)], .inr (.inl (.int, (List.replicate 32 0))), .inr (.inl (.int, (List.replicate 32 0))), .inr (.inl (.int, (List.replicate 32 0))), .inr (.inl (.int, (List.replicate 32 0))), .inr (.inr (List.replicate 32 0)), .inr (.inl (.boolean, (List.replicate 32 0))), .inr (.inl (.int, (List.replicate 32 0))), .inr (.inl (.int, (List.replicate 32 0)))])) rfl ?_
    exact QTri.mask [true, false, true] (K2 _ (if_pos hc3).symm)
  · refine QTri.brT Ad W (t := 79) (f := 76) (L := [some (.ref 0), some (.int x1), some (.int x1)]) (S := []) (σ := [.inl [.ref 1, .ref 2, .ref 3, .ref 4, .ref 5, .ref 6, .ref 7, .ref 8, .int (f_cap ob0), .int (f_rows ob0), .int (f_direction ob0), .int (f_nulls ob0), .int (f_mode ob0), .int (f_startKind ob0), .int (f_startOff ob0), .int (f_endKind ob0), .int (f_endOff ob0), .int (f_fn ob0), .int (f_fnArg ob0), .int (f_computed ob0)], .inr (.inl (.int, (List.replicate 32 0))), .inr (.inl (.int, (List.replicate 32 0))), .inr (.inl (.int, (List.replicate 32 0))), .inr (.inl (.int, (List.replicate 32 0))), .inr (.inr (List.replicate 32 0)), .inr (.inl (.boolean, (List.replicate 32 0))), .inr (.inl (.int, (List.replicate 32 0))), .inr (.inl (.int, (List.replicate 32 0)))]) rfl (XT.ii_ge_t hc3) ?_
    exact QTri.mask [true, false, true] (K2 _ (if_neg hc3).symm)
/-- needsOrder()Z -/
def F4 (o : Ob) : Option (Int32) :=
  (if (f_mode o) = (1 : Int32) then (if (f_direction o) = (0 : Int32) then (if (if (f_startKind o) = (1 : Int32) then (1 : Int32) else (if (f_startKind o) = (3 : Int32) then (1 : Int32) else (0 : Int32))) = (0 : Int32) then (if (if (f_endKind o) = (1 : Int32) then (1 : Int32) else (if (f_endKind o) = (3 : Int32) then (1 : Int32) else (0 : Int32))) = (0 : Int32) then some (0 : Int32) else some (1 : Int32)) else some (1 : Int32)) else some (0 : Int32)) else some (0 : Int32))
theorem tF4 (Ad : QAd n0 ad) (W : QW Z a0) (o : Ob) {r : Int32} (h : F4 o = some r) : QTri l Z n0 ad 4 (0, qentry [.ref 0] (pMaxL 4), [], (H0 o)) (some (Value.int r)) (H0 o) := by
  unfold F4 at h
  refine QTri.steps Ad W 3 (st' := (5, [some (.ref 0), none, none], [.int (1 : Int32), .int (f_mode o)], (H0 o))) rfl ?_
  rcases qite h with ⟨hc12, h⟩ | ⟨hc12, h⟩
  · refine QTri.brF Ad W (t := 15) (f := 8) (L := [some (.ref 0), none, none]) (S := []) (σ := (H0 o)) rfl (XT.ii_ne_f hc12) ?_
    refine QTri.steps Ad W 2 (st' := (12, [some (.ref 0), none, none], [.int (f_direction o)], (H0 o))) rfl ?_
    rcases qite h with ⟨hc13, h⟩ | ⟨hc13, h⟩
    · refine QTri.brT Ad W (t := 17) (f := 15) (L := [some (.ref 0), none, none]) (S := []) (σ := (H0 o)) rfl (XT.i0_eq_t hc13) ?_
      refine QTri.steps Ad W 3 (st' := (22, [some (.ref 0), none, none], [.int (1 : Int32), .int (f_startKind o)], (H0 o))) rfl ?_
      have K15 : ∀ z14 : Int32, z14 = (if (f_startKind o) = (1 : Int32) then (1 : Int32) else (if (f_startKind o) = (3 : Int32) then (1 : Int32) else (0 : Int32))) → QTri l Z n0 ad 4 (38, [some (.ref 0), none, none], [.int z14], (H0 o)) (some (Value.int r)) (H0 o) := by
        intro z14 ez14
        subst ez14
        refine QTri.steps Ad W 4 (st' := (44, [some (.ref 0), some (.int (if (f_startKind o) = (1 : Int32) then (1 : Int32) else (if (f_startKind o) = (3 : Int32) then (1 : Int32) else (0 : Int32)))), none], [.int (1 : Int32), .int (f_endKind o)], (H0 o))) rfl ?_
        have K19 : ∀ z18 : Int32, z18 = (if (f_endKind o) = (1 : Int32) then (1 : Int32) else (if (f_endKind o) = (3 : Int32) then (1 : Int32) else (0 : Int32))) → QTri l Z n0 ad 4 (60, [none, some (.int (if (f_startKind o) = (1 : Int32) then (1 : Int32) else (if (f_startKind o) = (3 : Int32) then (1 : Int32) else (0 : Int32)))), none], [.int z18], (H0 o)) (some (Value.int r)) (H0 o) := by
          intro z18 ez18
          subst ez18
          refine QTri.steps Ad W 2 (st' := (62, [none, some (.int (if (f_startKind o) = (1 : Int32) then (1 : Int32) else (if (f_startKind o) = (3 : Int32) then (1 : Int32) else (0 : Int32)))), some (.int (if (f_endKind o) = (1 : Int32) then (1 : Int32) else (if (f_endKind o) = (3 : Int32) then (1 : Int32) else (0 : Int32))))], [.int (if (f_startKind o) = (1 : Int32) then (1 : Int32) else (if (f_startKind o) = (3 : Int32) then (1 : Int32) else (0 : Int32)))], (H0 o))) rfl ?_
          rcases qite h with ⟨hc22, h⟩ | ⟨hc22, h⟩
          · refine QTri.brF Ad W (t := 69) (f := 65) (L := [none, some (.int (if (f_startKind o) = (1 : Int32) then (1 : Int32) else (if (f_startKind o) = (3 : Int32) then (1 : Int32) else (0 : Int32)))), some (.int (if (f_endKind o) = (1 : Int32) then (1 : Int32) else (if (f_endKind o) = (3 : Int32) then (1 : Int32) else (0 : Int32))))]) (S := []) (σ := (H0 o)) rfl (XT.i0_ne_f hc22) ?_
            refine QTri.steps Ad W 1 (st' := (66, [none, some (.int (if (f_startKind o) = (1 : Int32) then (1 : Int32) else (if (f_startKind o) = (3 : Int32) then (1 : Int32) else (0 : Int32)))), some (.int (if (f_endKind o) = (1 : Int32) then (1 : Int32) else (if (f_endKind o) = (3 : Int32) then (1 : Int32) else (0 : Int32))))], [.int (if (f_endKind o) = (1 : Int32) then (1 : Int32) else (if (f_endKind o) = (3 : Int32) then (1 : Int32) else (0 : Int32)))], (H0 o))) rfl ?_
            rcases qite h with ⟨hc23, h⟩ | ⟨hc23, h⟩
            · refine QTri.brT Ad W (t := 73) (f := 69) (L := [none, some (.int (if (f_startKind o) = (1 : Int32) then (1 : Int32) else (if (f_startKind o) = (3 : Int32) then (1 : Int32) else (0 : Int32)))), some (.int (if (f_endKind o) = (1 : Int32) then (1 : Int32) else (if (f_endKind o) = (3 : Int32) then (1 : Int32) else (0 : Int32))))]) (S := []) (σ := (H0 o)) rfl (XT.i0_eq_t hc23) ?_
              refine QTri.steps Ad W 1 (st' := (74, [none, some (.int (if (f_startKind o) = (1 : Int32) then (1 : Int32) else (if (f_startKind o) = (3 : Int32) then (1 : Int32) else (0 : Int32)))), some (.int (if (f_endKind o) = (1 : Int32) then (1 : Int32) else (if (f_endKind o) = (3 : Int32) then (1 : Int32) else (0 : Int32))))], [.int (0 : Int32)], (H0 o))) rfl ?_
              obtain rfl := Option.some.inj h
              exact QTri.retZ rfl rfl
            · refine QTri.brF Ad W (t := 73) (f := 69) (L := [none, some (.int (if (f_startKind o) = (1 : Int32) then (1 : Int32) else (if (f_startKind o) = (3 : Int32) then (1 : Int32) else (0 : Int32)))), some (.int (if (f_endKind o) = (1 : Int32) then (1 : Int32) else (if (f_endKind o) = (3 : Int32) then (1 : Int32) else (0 : Int32))))]) (S := []) (σ := (H0 o)) rfl (XT.i0_eq_f hc23) ?_
              refine QTri.steps Ad W 2 (st' := (74, [none, some (.int (if (f_startKind o) = (1 : Int32) then (1 : Int32) else (if (f_startKind o) = (3 : Int32) then (1 : Int32) else (0 : Int32)))), some (.int (if (f_endKind o) = (1 : Int32) then (1 : Int32) else (if (f_endKind o) = (3 : Int32) then (1 : Int32) else (0 : Int32))))], [.int (1 : Int32)], (H0 o))) rfl ?_
              obtain rfl := Option.some.inj h
              exact QTri.retZ rfl rfl
          · refine QTri.brT Ad W (t := 69) (f := 65) (L := [none, some (.int (if (f_startKind o) = (1 : Int32) then (1 : Int32) else (if (f_startKind o) = (3 : Int32) then (1 : Int32) else (0 : Int32)))), some (.int (if (f_endKind o) = (1 : Int32) then (1 : Int32) else (if (f_endKind o) = (3 : Int32) then (1 : Int32) else (0 : Int32))))]) (S := []) (σ := (H0 o)) rfl (XT.i0_ne_t hc22) ?_
            refine QTri.steps Ad W 2 (st' := (74, [none, some (.int (if (f_startKind o) = (1 : Int32) then (1 : Int32) else (if (f_startKind o) = (3 : Int32) then (1 : Int32) else (0 : Int32)))), some (.int (if (f_endKind o) = (1 : Int32) then (1 : Int32) else (if (f_endKind o) = (3 : Int32) then (1 : Int32) else (0 : Int32))))], [.int (1 : Int32)], (H0 o))) rfl ?_
            obtain rfl := Option.some.inj h
            exact QTri.retZ rfl rfl
        rcases Classical.em ((f_endKind o) = (1 : Int32)) with hc20 | hc20
        · refine QTri.brT Ad W (t := 55) (f := 47) (L := [some (.ref 0), some (.int (if (f_startKind o) = (1 : Int32) then (1 : Int32) else (if (f_startKind o) = (3 : Int32) then (1 : Int32) else (0 : Int32)))), none]) (S := []) (σ := (H0 o)) rfl (XT.ii_eq_t hc20) ?_
          refine QTri.steps Ad W 2 (st' := (60, [some (.ref 0), some (.int (if (f_startKind o) = (1 : Int32) then (1 : Int32) else (if (f_startKind o) = (3 : Int32) then (1 : Int32) else (0 : Int32)))), none], [.int (1 : Int32)], (H0 o))) rfl ?_
          exact QTri.mask [false, true, false] (K19 _ (if_pos hc20).symm)
        · refine QTri.brF Ad W (t := 55) (f := 47) (L := [some (.ref 0), some (.int (if (f_startKind o) = (1 : Int32) then (1 : Int32) else (if (f_startKind o) = (3 : Int32) then (1 : Int32) else (0 : Int32)))), none]) (S := []) (σ := (H0 o)) rfl (XT.ii_eq_f hc20) ?_
          refine QTri.steps Ad W 3 (st' := (52, [some (.ref 0), some (.int (if (f_startKind o) = (1 : Int32) then (1 : Int32) else (if (f_startKind o) = (3 : Int32) then (1 : Int32) else (0 : Int32)))), none], [.int (3 : Int32), .int (f_endKind o)], (H0 o))) rfl ?_
          rcases Classical.em ((f_endKind o) = (3 : Int32)) with hc21 | hc21
          · refine QTri.brF Ad W (t := 59) (f := 55) (L := [some (.ref 0), some (.int (if (f_startKind o) = (1 : Int32) then (1 : Int32) else (if (f_startKind o) = (3 : Int32) then (1 : Int32) else (0 : Int32)))), none]) (S := []) (σ := (H0 o)) rfl (XT.ii_ne_f hc21) ?_
            refine QTri.steps Ad W 2 (st' := (60, [some (.ref 0), some (.int (if (f_startKind o) = (1 : Int32) then (1 : Int32) else (if (f_startKind o) = (3 : Int32) then (1 : Int32) else (0 : Int32)))), none], [.int (1 : Int32)], (H0 o))) rfl ?_
            exact QTri.mask [false, true, false] (K19 _ ((if_neg hc20).trans (if_pos hc21)).symm)
          · refine QTri.brT Ad W (t := 59) (f := 55) (L := [some (.ref 0), some (.int (if (f_startKind o) = (1 : Int32) then (1 : Int32) else (if (f_startKind o) = (3 : Int32) then (1 : Int32) else (0 : Int32)))), none]) (S := []) (σ := (H0 o)) rfl (XT.ii_ne_t hc21) ?_
            refine QTri.steps Ad W 1 (st' := (60, [some (.ref 0), some (.int (if (f_startKind o) = (1 : Int32) then (1 : Int32) else (if (f_startKind o) = (3 : Int32) then (1 : Int32) else (0 : Int32)))), none], [.int (0 : Int32)], (H0 o))) rfl ?_
            exact QTri.mask [false, true, false] (K19 _ ((if_neg hc20).trans (if_neg hc21)).symm)
      rcases Classical.em ((f_startKind o) = (1 : Int32)) with hc16 | hc16
      · refine QTri.brT Ad W (t := 33) (f := 25) (L := [some (.ref 0), none, none]) (S := []) (σ := (H0 o)) rfl (XT.ii_eq_t hc16) ?_
        refine QTri.steps Ad W 2 (st' := (38, [some (.ref 0), none, none], [.int (1 : Int32)], (H0 o))) rfl ?_
        exact QTri.mask [true, false, false] (K15 _ (if_pos hc16).symm)
      · refine QTri.brF Ad W (t := 33) (f := 25) (L := [some (.ref 0), none, none]) (S := []) (σ := (H0 o)) rfl (XT.ii_eq_f hc16) ?_
        refine QTri.steps Ad W 3 (st' := (30, [some (.ref 0), none, none], [.int (3 : Int32), .int (f_startKind o)], (H0 o))) rfl ?_
        rcases Classical.em ((f_startKind o) = (3 : Int32)) with hc17 | hc17
        · refine QTri.brF Ad W (t := 37) (f := 33) (L := [some (.ref 0), none, none]) (S := []) (σ := (H0 o)) rfl (XT.ii_ne_f hc17) ?_
          refine QTri.steps Ad W 2 (st' := (38, [some (.ref 0), none, none], [.int (1 : Int32)], (H0 o))) rfl ?_
          exact QTri.mask [true, false, false] (K15 _ ((if_neg hc16).trans (if_pos hc17)).symm)
        · refine QTri.brT Ad W (t := 37) (f := 33) (L := [some (.ref 0), none, none]) (S := []) (σ := (H0 o)) rfl (XT.ii_ne_t hc17) ?_
          refine QTri.steps Ad W 1 (st' := (38, [some (.ref 0), none, none], [.int (0 : Int32)], (H0 o))) rfl ?_
          exact QTri.mask [true, false, false] (K15 _ ((if_neg hc16).trans (if_neg hc17)).symm)
    · refine QTri.brF Ad W (t := 17) (f := 15) (L := [some (.ref 0), none, none]) (S := []) (σ := (H0 o)) rfl (XT.i0_eq_f hc13) ?_
      refine QTri.steps Ad W 1 (st' := (16, [some (.ref 0), none, none], [.int (0 : Int32)], (H0 o))) rfl ?_
      obtain rfl := Option.some.inj h
      exact QTri.retZ rfl rfl
  · refine QTri.brT Ad W (t := 15) (f := 8) (L := [some (.ref 0), none, none]) (S := []) (σ := (H0 o)) rfl (XT.ii_ne_t hc12) ?_
    refine QTri.steps Ad W 1 (st' := (16, [some (.ref 0), none, none], [.int (0 : Int32)], (H0 o))) rfl ?_
    obtain rfl := Option.some.inj h
    exact QTri.retZ rfl rfl
/-- compute()I -/
def F3 (o : Ob) : Option (Int32 × Ob) :=
  (F4 o).bind fun r24 => (if r24 = (0 : Int32) then (if (0 : Int32) < (f_rows o) then none else some ((0 : Int32), (s_computed o (1 : Int32)))) else some ((-1 : Int32), o))
theorem tF3 (Ad : QAd n0 ad) (W : QW Z a0) (o : Ob) {r : Int32 × Ob} (h : F3 o = some r) : QTri l Z n0 ad 3 (0, qentry [.ref 0] (pMaxL 3), [], (H0 o)) (some (Value.int r.1)) (H0 r.2) := by
  unfold F3 at h
  refine QTri.steps Ad W 1 (st' := (1, [some (.ref 0), none], [.ref 0], (H0 o))) rfl ?_
  obtain ⟨r24, hr24, h⟩ := Option.bind_eq_some_iff.mp h
  refine QTri.callP W (a := 0) (as := []) (rest := []) (w := (some (.int r24))) (σ₁ := (H0 o)) rfl rfl rfl rfl rfl rfl rfl rfl (tF4 Ad W o hr24) ?_
  rcases qite h with ⟨hc25, h⟩ | ⟨hc25, h⟩
  · refine QTri.brT Ad W (t := 9) (f := 7) (L := [some (.ref 0), none]) (S := []) (σ := (H0 o)) rfl (XT.i0_eq_t hc25) ?_
    refine QTri.steps Ad W 5 (st' := (16, [some (.ref 0), some (.int (0 : Int32))], [.int (f_rows o), .int (0 : Int32)], (H0 o))) rfl ?_
    rcases qite h with ⟨hc26, h⟩ | ⟨hc26, h⟩
    · refine QTri.brF Ad W (t := 30) (f := 19) (L := [some (.ref 0), some (.int (0 : Int32))]) (S := []) (σ := (H0 o)) rfl (XT.ii_ge_f hc26) ?_
      cases h
    · refine QTri.brT Ad W (t := 30) (f := 19) (L := [some (.ref 0), some (.int (0 : Int32))]) (S := []) (σ := (H0 o)) rfl (XT.ii_ge_t hc26) ?_
      refine QTri.steps Ad W 3 (st' := (35, [some (.ref 0), some (.int (0 : Int32))], [], [.inl [.ref 1, .ref 2, .ref 3, .ref 4, .ref 5, .ref 6, .ref 7, .ref 8, .int (f_cap o), .int (f_rows o), .int (f_direction o), .int (f_nulls o), .int (f_mode o), .int (f_startKind o), .int (f_startOff o), .int (f_endKind o), .int (f_endOff o), .int (f_fn o), .int (f_fnArg o), .int (1 : Int32)], .inr (.inl (.int, (f_part o))), .inr (.inl (.int, (f_keys o))), .inr (.inl (.int, (f_vals o))), .inr (.inl (.int, (f_flg o))), .inr (.inr (f_res o)), .inr (.inl (.boolean, (f_resNull o))), .inr (.inl (.int, (f_frameCnt o))), .inr (.inl (.int, (f_sorted o)))])) rfl ?_
      refine QTri.steps Ad W 1 (st' := (36, [some (.ref 0), some (.int (0 : Int32))], [.int (0 : Int32)], [.inl [.ref 1, .ref 2, .ref 3, .ref 4, .ref 5, .ref 6, .ref 7, .ref 8, .int (f_cap o), .int (f_rows o), .int (f_direction o), .int (f_nulls o), .int (f_mode o), .int (f_startKind o), .int (f_startOff o), .int (f_endKind o), .int (f_endOff o), .int (f_fn o), .int (f_fnArg o), .int (1 : Int32)], .inr (.inl (.int, (f_part o))), .inr (.inl (.int, (f_keys o))), .inr (.inl (.int, (f_vals o))), .inr (.inl (.int, (f_flg o))), .inr (.inr (f_res o)), .inr (.inl (.boolean, (f_resNull o))), .inr (.inl (.int, (f_frameCnt o))), .inr (.inl (.int, (f_sorted o)))])) rfl ?_
      have E27 : ([.inl [.ref 1, .ref 2, .ref 3, .ref 4, .ref 5, .ref 6, .ref 7, .ref 8, .int (f_cap o), .int (f_rows o), .int (f_direction o), .int (f_nulls o), .int (f_mode o), .int (f_startKind o), .int (f_startOff o), .int (f_endKind o), .int (f_endOff o), .int (f_fn o), .int (f_fnArg o), .int (1 : Int32)], .inr (.inl (.int, (f_part o))), .inr (.inl (.int, (f_keys o))), .inr (.inl (.int, (f_vals o))), .inr (.inl (.int, (f_flg o))), .inr (.inr (f_res o)), .inr (.inl (.boolean, (f_resNull o))), .inr (.inl (.int, (f_frameCnt o))), .inr (.inl (.int, (f_sorted o)))] : QHeap) = (H0 (s_computed o (1 : Int32))) := by dsimp only [H0, f_part, f_keys, f_vals, f_flg, f_res, f_resNull, f_frameCnt, f_sorted, f_cap, f_rows, f_direction, f_nulls, f_mode, f_startKind, f_startOff, f_endKind, f_endOff, f_fn, f_fnArg, f_computed, s_computed]
      rw [E27]
      obtain rfl := Option.some.inj h
      exact QTri.retI rfl rfl
  · refine QTri.brF Ad W (t := 9) (f := 7) (L := [some (.ref 0), none]) (S := []) (σ := (H0 o)) rfl (XT.i0_eq_f hc25) ?_
    refine QTri.steps Ad W 1 (st' := (8, [some (.ref 0), none], [.int (-1 : Int32)], (H0 o))) rfl ?_
    obtain rfl := Option.some.inj h
    exact QTri.retI rfl rfl
/-- addRow(IIII)I -/
def F5 (o : Ob) (x1 : Int32) (x2 : Int32) (x3 : Int32) (x4 : Int32) : Option (Int32 × Ob) :=
  (if x4 < (0 : Int32) then some ((-1 : Int32), o) else (if (3 : Int32) < x4 then some ((-1 : Int32), o) else (if (f_rows o) < (f_cap o) then (aset (f_part o) (f_rows o) x1).bind fun y33 => (aset (f_keys o) (f_rows o) (if (x4 &&& (1 : Int32)) = (0 : Int32) then x2 else (0 : Int32))).bind fun y37 => (aset (f_vals o) (f_rows o) (if (x4 &&& (2 : Int32)) = (0 : Int32) then x3 else (0 : Int32))).bind fun y41 => (aset (f_flg o) (f_rows o) x4).bind fun y42 => some ((f_rows o), (s_computed (s_rows (s_flg (s_vals (s_keys (s_part o y33) y37) y41) y42) ((f_rows o) + (1 : Int32))) (0 : Int32))) else some ((-1 : Int32), o))))
theorem tF5 (Ad : QAd n0 ad) (W : QW Z a0) (o : Ob) (x1 : Int32) (x2 : Int32) (x3 : Int32) (x4 : Int32) {r : Int32 × Ob} (h : F5 o x1 x2 x3 x4 = some r) : QTri l Z n0 ad 5 (0, qentry [.ref 0, .int x1, .int x2, .int x3, .int x4] (pMaxL 5), [], (H0 o)) (some (Value.int r.1)) (H0 r.2) := by
  unfold F5 at h
  refine QTri.steps Ad W 1 (st' := (2, [some (.ref 0), some (.int x1), some (.int x2), some (.int x3), some (.int x4), none], [.int x4], (H0 o))) rfl ?_
  rcases qite h with ⟨hc30, h⟩ | ⟨hc30, h⟩
  · refine QTri.brT Ad W (t := 11) (f := 5) (L := [some (.ref 0), some (.int x1), some (.int x2), some (.int x3), some (.int x4), none]) (S := []) (σ := (H0 o)) rfl (XT.i0_lt_t hc30) ?_
    refine QTri.steps Ad W 1 (st' := (12, [some (.ref 0), some (.int x1), some (.int x2), some (.int x3), some (.int x4), none], [.int (-1 : Int32)], (H0 o))) rfl ?_
    obtain rfl := Option.some.inj h
    exact QTri.retI rfl rfl
  · refine QTri.brF Ad W (t := 11) (f := 5) (L := [some (.ref 0), some (.int x1), some (.int x2), some (.int x3), some (.int x4), none]) (S := []) (σ := (H0 o)) rfl (XT.i0_lt_f hc30) ?_
    refine QTri.steps Ad W 2 (st' := (8, [some (.ref 0), some (.int x1), some (.int x2), some (.int x3), some (.int x4), none], [.int (3 : Int32), .int x4], (H0 o))) rfl ?_
    rcases qite h with ⟨hc31, h⟩ | ⟨hc31, h⟩
    · refine QTri.brF Ad W (t := 13) (f := 11) (L := [some (.ref 0), some (.int x1), some (.int x2), some (.int x3), some (.int x4), none]) (S := []) (σ := (H0 o)) rfl (XT.ii_le_f hc31) ?_
      refine QTri.steps Ad W 1 (st' := (12, [some (.ref 0), some (.int x1), some (.int x2), some (.int x3), some (.int x4), none], [.int (-1 : Int32)], (H0 o))) rfl ?_
      obtain rfl := Option.some.inj h
      exact QTri.retI rfl rfl
    · refine QTri.brT Ad W (t := 13) (f := 11) (L := [some (.ref 0), some (.int x1), some (.int x2), some (.int x3), some (.int x4), none]) (S := []) (σ := (H0 o)) rfl (XT.ii_le_t hc31) ?_
      refine QTri.steps Ad W 4 (st' := (21, [some (.ref 0), some (.int x1), some (.int x2), some (.int x3), some (.int x4), none], [.int (f_cap o), .int (f_rows o)], (H0 o))) rfl ?_
      rcases qite h with ⟨hc32, h⟩ | ⟨hc32, h⟩
      · refine QTri.brT Ad W (t := 26) (f := 24) (L := [some (.ref 0), some (.int x1), some (.int x2), some (.int x3), some (.int x4), none]) (S := []) (σ := (H0 o)) rfl (XT.ii_lt_t hc32) ?_
        refine QTri.steps Ad W 7 (st' := (39, [some (.ref 0), some (.int x1), some (.int x2), some (.int x3), some (.int x4), some (.int (f_rows o))], [.int x1, .int (f_rows o), .ref 1], (H0 o))) rfl ?_
        obtain ⟨y33, hy33, h⟩ := Option.bind_eq_some_iff.mp h
        refine QTri.bnd Ad W (f := fun y33 => (40, [some (.ref 0), some (.int x1), some (.int x2), some (.int x3), some (.int x4), some (.int (f_rows o))], [], [.inl [.ref 1, .ref 2, .ref 3, .ref 4, .ref 5, .ref 6, .ref 7, .ref 8, .int (f_cap o), .int (f_rows o), .int (f_direction o), .int (f_nulls o), .int (f_mode o), .int (f_startKind o), .int (f_startOff o), .int (f_endKind o), .int (f_endOff o), .int (f_fn o), .int (f_fnArg o), .int (f_computed o)], .inr (.inl (.int, y33)), .inr (.inl (.int, (f_keys o))), .inr (.inl (.int, (f_vals o))), .inr (.inl (.int, (f_flg o))), .inr (.inr (f_res o)), .inr (.inl (.boolean, (f_resNull o))), .inr (.inl (.int, (f_frameCnt o))), .inr (.inl (.int, (f_sorted o)))])) rfl hy33 ?_
        refine QTri.steps Ad W 6 (st' := (50, [some (.ref 0), some (.int x1), some (.int x2), some (.int x3), some (.int x4), some (.int (f_rows o))], [.int (x4 &&& (1 : Int32)), .int (f_rows o), .ref 2], [.inl [.ref 1, .ref 2, .ref 3, .ref 4, .ref 5, .ref 6, .ref 7, .ref 8, .int (f_cap o), .int (f_rows o), .int (f_direction o), .int (f_nulls o), .int (f_mode o), .int (f_startKind o), .int (f_startOff o), .int (f_endKind o), .int (f_endOff o), .int (f_fn o), .int (f_fnArg o), .int (f_computed o)], .inr (.inl (.int, y33)), .inr (.inl (.int, (f_keys o))), .inr (.inl (.int, (f_vals o))), .inr (.inl (.int, (f_flg o))), .inr (.inr (f_res o)), .inr (.inl (.boolean, (f_resNull o))), .inr (.inl (.int, (f_frameCnt o))), .inr (.inl (.int, (f_sorted o)))])) rfl ?_
        have K35 : ∀ z34 : Int32, z34 = (if (x4 &&& (1 : Int32)) = (0 : Int32) then x2 else (0 : Int32)) → QTri l Z n0 ad 5 (58, [some (.ref 0), none, none, some (.int x3), some (.int x4), some (.int (f_rows o))], [.int z34, .int (f_rows o), .ref 2], [.inl [.ref 1, .ref 2, .ref 3, .ref 4, .ref 5, .ref 6, .ref 7, .ref 8, .int (f_cap o), .int (f_rows o), .int (f_direction o), .int (f_nulls o), .int (f_mode o), .int (f_startKind o), .int (f_startOff o), .int (f_endKind o), .int (f_endOff o), .int (f_fn o), .int (f_fnArg o), .int (f_computed o)], .inr (.inl (.int, y33)), .inr (.inl (.int, (f_keys o))), .inr (.inl (.int, (f_vals o))), .inr (.inl (.int, (f_flg o))), .inr (.inr (f_res o)), .inr (.inl (.boolean, (f_resNull o))), .inr (.inl (.int, (f_frameCnt o))), .inr (.inl (.int, (f_sorted o)))]) (some (Value.int r.1)) (H0 r.2) := by
          intro z34 ez34
          subst ez34
          obtain ⟨y37, hy37, h⟩ := Option.bind_eq_some_iff.mp h
          refine QTri.bnd Ad W (f := fun y37 => (59, [some (.ref 0), none, none, some (.int x3), some (.int x4), some (.int (f_rows o))], [], [.inl [.ref 1, .ref 2, .ref 3, .ref 4, .ref 5, .ref 6, .ref 7, .ref 8, .int (f_cap o), .int (f_rows o), .int (f_direction o), .int (f_nulls o), .int (f_mode o), .int (f_startKind o), .int (f_startOff o), .int (f_endKind o), .int (f_endOff o), .int (f_fn o), .int (f_fnArg o), .int (f_computed o)], .inr (.inl (.int, y33)), .inr (.inl (.int, y37)), .inr (.inl (.int, (f_vals o))), .inr (.inl (.int, (f_flg o))), .inr (.inr (f_res o)), .inr (.inl (.boolean, (f_resNull o))), .inr (.inl (.int, (f_frameCnt o))), .inr (.inl (.int, (f_sorted o)))])) rfl hy37 ?_
          refine QTri.steps Ad W 6 (st' := (69, [some (.ref 0), none, none, some (.int x3), some (.int x4), some (.int (f_rows o))], [.int (x4 &&& (2 : Int32)), .int (f_rows o), .ref 3], [.inl [.ref 1, .ref 2, .ref 3, .ref 4, .ref 5, .ref 6, .ref 7, .ref 8, .int (f_cap o), .int (f_rows o), .int (f_direction o), .int (f_nulls o), .int (f_mode o), .int (f_startKind o), .int (f_startOff o), .int (f_endKind o), .int (f_endOff o), .int (f_fn o), .int (f_fnArg o), .int (f_computed o)], .inr (.inl (.int, y33)), .inr (.inl (.int, y37)), .inr (.inl (.int, (f_vals o))), .inr (.inl (.int, (f_flg o))), .inr (.inr (f_res o)), .inr (.inl (.boolean, (f_resNull o))), .inr (.inl (.int, (f_frameCnt o))), .inr (.inl (.int, (f_sorted o)))])) rfl ?_
          have K39 : ∀ z38 : Int32, z38 = (if (x4 &&& (2 : Int32)) = (0 : Int32) then x3 else (0 : Int32)) → QTri l Z n0 ad 5 (77, [some (.ref 0), none, none, none, some (.int x4), some (.int (f_rows o))], [.int z38, .int (f_rows o), .ref 3], [.inl [.ref 1, .ref 2, .ref 3, .ref 4, .ref 5, .ref 6, .ref 7, .ref 8, .int (f_cap o), .int (f_rows o), .int (f_direction o), .int (f_nulls o), .int (f_mode o), .int (f_startKind o), .int (f_startOff o), .int (f_endKind o), .int (f_endOff o), .int (f_fn o), .int (f_fnArg o), .int (f_computed o)], .inr (.inl (.int, y33)), .inr (.inl (.int, y37)), .inr (.inl (.int, (f_vals o))), .inr (.inl (.int, (f_flg o))), .inr (.inr (f_res o)), .inr (.inl (.boolean, (f_resNull o))), .inr (.inl (.int, (f_frameCnt o))), .inr (.inl (.int, (f_sorted o)))]) (some (Value.int r.1)) (H0 r.2) := by
            intro z38 ez38
            subst ez38
            obtain ⟨y41, hy41, h⟩ := Option.bind_eq_some_iff.mp h
            refine QTri.bnd Ad W (f := fun y41 => (78, [some (.ref 0), none, none, none, some (.int x4), some (.int (f_rows o))], [], [.inl [.ref 1, .ref 2, .ref 3, .ref 4, .ref 5, .ref 6, .ref 7, .ref 8, .int (f_cap o), .int (f_rows o), .int (f_direction o), .int (f_nulls o), .int (f_mode o), .int (f_startKind o), .int (f_startOff o), .int (f_endKind o), .int (f_endOff o), .int (f_fn o), .int (f_fnArg o), .int (f_computed o)], .inr (.inl (.int, y33)), .inr (.inl (.int, y37)), .inr (.inl (.int, y41)), .inr (.inl (.int, (f_flg o))), .inr (.inr (f_res o)), .inr (.inl (.boolean, (f_resNull o))), .inr (.inl (.int, (f_frameCnt o))), .inr (.inl (.int, (f_sorted o)))])) rfl hy41 ?_
            refine QTri.steps Ad W 4 (st' := (86, [some (.ref 0), none, none, none, some (.int x4), some (.int (f_rows o))], [.int x4, .int (f_rows o), .ref 4], [.inl [.ref 1, .ref 2, .ref 3, .ref 4, .ref 5, .ref 6, .ref 7, .ref 8, .int (f_cap o), .int (f_rows o), .int (f_direction o), .int (f_nulls o), .int (f_mode o), .int (f_startKind o), .int (f_startOff o), .int (f_endKind o), .int (f_endOff o), .int (f_fn o), .int (f_fnArg o), .int (f_computed o)], .inr (.inl (.int, y33)), .inr (.inl (.int, y37)), .inr (.inl (.int, y41)), .inr (.inl (.int, (f_flg o))), .inr (.inr (f_res o)), .inr (.inl (.boolean, (f_resNull o))), .inr (.inl (.int, (f_frameCnt o))), .inr (.inl (.int, (f_sorted o)))])) rfl ?_
            obtain ⟨y42, hy42, h⟩ := Option.bind_eq_some_iff.mp h
            refine QTri.bnd Ad W (f := fun y42 => (87, [some (.ref 0), none, none, none, some (.int x4), some (.int (f_rows o))], [], [.inl [.ref 1, .ref 2, .ref 3, .ref 4, .ref 5, .ref 6, .ref 7, .ref 8, .int (f_cap o), .int (f_rows o), .int (f_direction o), .int (f_nulls o), .int (f_mode o), .int (f_startKind o), .int (f_startOff o), .int (f_endKind o), .int (f_endOff o), .int (f_fn o), .int (f_fnArg o), .int (f_computed o)], .inr (.inl (.int, y33)), .inr (.inl (.int, y37)), .inr (.inl (.int, y41)), .inr (.inl (.int, y42)), .inr (.inr (f_res o)), .inr (.inl (.boolean, (f_resNull o))), .inr (.inl (.int, (f_frameCnt o))), .inr (.inl (.int, (f_sorted o)))])) rfl hy42 ?_
            refine QTri.steps Ad W 5 (st' := (95, [some (.ref 0), none, none, none, some (.int x4), some (.int (f_rows o))], [], [.inl [.ref 1, .ref 2, .ref 3, .ref 4, .ref 5, .ref 6, .ref 7, .ref 8, .int (f_cap o), .int ((f_rows o) + (1 : Int32)), .int (f_direction o), .int (f_nulls o), .int (f_mode o), .int (f_startKind o), .int (f_startOff o), .int (f_endKind o), .int (f_endOff o), .int (f_fn o), .int (f_fnArg o), .int (f_computed o)], .inr (.inl (.int, y33)), .inr (.inl (.int, y37)), .inr (.inl (.int, y41)), .inr (.inl (.int, y42)), .inr (.inr (f_res o)), .inr (.inl (.boolean, (f_resNull o))), .inr (.inl (.int, (f_frameCnt o))), .inr (.inl (.int, (f_sorted o)))])) rfl ?_
            refine QTri.steps Ad W 3 (st' := (100, [some (.ref 0), none, none, none, some (.int x4), some (.int (f_rows o))], [], [.inl [.ref 1, .ref 2, .ref 3, .ref 4, .ref 5, .ref 6, .ref 7, .ref 8, .int (f_cap o), .int ((f_rows o) + (1 : Int32)), .int (f_direction o), .int (f_nulls o), .int (f_mode o), .int (f_startKind o), .int (f_startOff o), .int (f_endKind o), .int (f_endOff o), .int (f_fn o), .int (f_fnArg o), .int (0 : Int32)], .inr (.inl (.int, y33)), .inr (.inl (.int, y37)), .inr (.inl (.int, y41)), .inr (.inl (.int, y42)), .inr (.inr (f_res o)), .inr (.inl (.boolean, (f_resNull o))), .inr (.inl (.int, (f_frameCnt o))), .inr (.inl (.int, (f_sorted o)))])) rfl ?_
            refine QTri.steps Ad W 1 (st' := (102, [some (.ref 0), none, none, none, some (.int x4), some (.int (f_rows o))], [.int (f_rows o)], [.inl [.ref 1, .ref 2, .ref 3, .ref 4, .ref 5, .ref 6, .ref 7, .ref 8, .int (f_cap o), .int ((f_rows o) + (1 : Int32)), .int (f_direction o), .int (f_nulls o), .int (f_mode o), .int (f_startKind o), .int (f_startOff o), .int (f_endKind o), .int (f_endOff o), .int (f_fn o), .int (f_fnArg o), .int (0 : Int32)], .inr (.inl (.int, y33)), .inr (.inl (.int, y37)), .inr (.inl (.int, y41)), .inr (.inl (.int, y42)), .inr (.inr (f_res o)), .inr (.inl (.boolean, (f_resNull o))), .inr (.inl (.int, (f_frameCnt o))), .inr (.inl (.int, (f_sorted o)))])) rfl ?_
            have E43 : ([.inl [.ref 1, .ref 2, .ref 3, .ref 4, .ref 5, .ref 6, .ref 7, .ref 8, .int (f_cap o), .int ((f_rows o) + (1 : Int32)), .int (f_direction o), .int (f_nulls o), .int (f_mode o), .int (f_startKind o), .int (f_startOff o), .int (f_endKind o), .int (f_endOff o), .int (f_fn o), .int (f_fnArg o), .int (0 : Int32)], .inr (.inl (.int, y33)), .inr (.inl (.int, y37)), .inr (.inl (.int, y41)), .inr (.inl (.int, y42)), .inr (.inr (f_res o)), .inr (.inl (.boolean, (f_resNull o))), .inr (.inl (.int, (f_frameCnt o))), .inr (.inl (.int, (f_sorted o)))] : QHeap) = (H0 (s_computed (s_rows (s_flg (s_vals (s_keys (s_part o y33) y37) y41) y42) ((f_rows o) + (1 : Int32))) (0 : Int32))) := by dsimp only [H0, f_part, f_keys, f_vals, f_flg, f_res, f_resNull, f_frameCnt, f_sorted, f_cap, f_rows, f_direction, f_nulls, f_mode, f_startKind, f_startOff, f_endKind, f_endOff, f_fn, f_fnArg, f_computed, s_part, s_keys, s_vals, s_flg, s_rows, s_computed]
            rw [E43]
            obtain rfl := Option.some.inj h
            exact QTri.retI rfl rfl
          rcases Classical.em ((x4 &&& (2 : Int32)) = (0 : Int32)) with hc40 | hc40
          · refine QTri.brT Ad W (t := 76) (f := 72) (L := [some (.ref 0), none, none, some (.int x3), some (.int x4), some (.int (f_rows o))]) (S := [.int (f_rows o), .ref 3]) (σ := [.inl [.ref 1, .ref 2, .ref 3, .ref 4, .ref 5, .ref 6, .ref 7, .ref 8, .int (f_cap o), .int (f_rows o), .int (f_direction o), .int (f_nulls o), .int (f_mode o), .int (f_startKind o), .int (f_startOff o), .int (f_endKind o), .int (f_endOff o), .int (f_fn o), .int (f_fnArg o), .int (f_computed o)], .inr (.inl (.int, y33)), .inr (.inl (.int, y37)), .inr (.inl (.int, (f_vals o))), .inr (.inl (.int, (f_flg o))), .inr (.inr (f_res o)), .inr (.inl (.boolean, (f_resNull o))), .inr (.inl (.int, (f_frameCnt o))), .inr (.inl (.int, (f_sorted o)))]) rfl (XT.i0_eq_t hc40) ?_
            refine QTri.steps Ad W 1 (st' := (77, [some (.ref 0), none, none, some (.int x3), some (.int x4), some (.int (f_rows o))], [.int x3, .int (f_rows o), .ref 3], [.inl [.ref 1, .ref 2, .ref 3, .ref 4, .ref 5, .ref 6, .ref 7, .ref 8, .int (f_cap o), .int (f_rows o), .int (f_direction o), .int (f_nulls o), .int (f_mode o), .int (f_startKind o), .int (f_startOff o), .int (f_endKind o), .int (f_endOff o), .int (f_fn o), .int (f_fnArg o), .int (f_computed o)], .inr (.inl (.int, y33)), .inr (.inl (.int, y37)), .inr (.inl (.int, (f_vals o))), .inr (.inl (.int, (f_flg o))), .inr (.inr (f_res o)), .inr (.inl (.boolean, (f_resNull o))), .inr (.inl (.int, (f_frameCnt o))), .inr (.inl (.int, (f_sorted o)))])) rfl ?_
            exact QTri.mask [true, false, false, false, true, true] (K39 _ (if_pos hc40).symm)
          · refine QTri.brF Ad W (t := 76) (f := 72) (L := [some (.ref 0), none, none, some (.int x3), some (.int x4), some (.int (f_rows o))]) (S := [.int (f_rows o), .ref 3]) (σ := [.inl [.ref 1, .ref 2, .ref 3, .ref 4, .ref 5, .ref 6, .ref 7, .ref 8, .int (f_cap o), .int (f_rows o), .int (f_direction o), .int (f_nulls o), .int (f_mode o), .int (f_startKind o), .int (f_startOff o), .int (f_endKind o), .int (f_endOff o), .int (f_fn o), .int (f_fnArg o), .int (f_computed o)], .inr (.inl (.int, y33)), .inr (.inl (.int, y37)), .inr (.inl (.int, (f_vals o))), .inr (.inl (.int, (f_flg o))), .inr (.inr (f_res o)), .inr (.inl (.boolean, (f_resNull o))), .inr (.inl (.int, (f_frameCnt o))), .inr (.inl (.int, (f_sorted o)))]) rfl (XT.i0_eq_f hc40) ?_
            refine QTri.steps Ad W 2 (st' := (77, [some (.ref 0), none, none, some (.int x3), some (.int x4), some (.int (f_rows o))], [.int (0 : Int32), .int (f_rows o), .ref 3], [.inl [.ref 1, .ref 2, .ref 3, .ref 4, .ref 5, .ref 6, .ref 7, .ref 8, .int (f_cap o), .int (f_rows o), .int (f_direction o), .int (f_nulls o), .int (f_mode o), .int (f_startKind o), .int (f_startOff o), .int (f_endKind o), .int (f_endOff o), .int (f_fn o), .int (f_fnArg o), .int (f_computed o)], .inr (.inl (.int, y33)), .inr (.inl (.int, y37)), .inr (.inl (.int, (f_vals o))), .inr (.inl (.int, (f_flg o))), .inr (.inr (f_res o)), .inr (.inl (.boolean, (f_resNull o))), .inr (.inl (.int, (f_frameCnt o))), .inr (.inl (.int, (f_sorted o)))])) rfl ?_
            exact QTri.mask [true, false, false, false, true, true] (K39 _ (if_neg hc40).symm)
        rcases Classical.em ((x4 &&& (1 : Int32)) = (0 : Int32)) with hc36 | hc36
        · refine QTri.brT Ad W (t := 57) (f := 53) (L := [some (.ref 0), some (.int x1), some (.int x2), some (.int x3), some (.int x4), some (.int (f_rows o))]) (S := [.int (f_rows o), .ref 2]) (σ := [.inl [.ref 1, .ref 2, .ref 3, .ref 4, .ref 5, .ref 6, .ref 7, .ref 8, .int (f_cap o), .int (f_rows o), .int (f_direction o), .int (f_nulls o), .int (f_mode o), .int (f_startKind o), .int (f_startOff o), .int (f_endKind o), .int (f_endOff o), .int (f_fn o), .int (f_fnArg o), .int (f_computed o)], .inr (.inl (.int, y33)), .inr (.inl (.int, (f_keys o))), .inr (.inl (.int, (f_vals o))), .inr (.inl (.int, (f_flg o))), .inr (.inr (f_res o)), .inr (.inl (.boolean, (f_resNull o))), .inr (.inl (.int, (f_frameCnt o))), .inr (.inl (.int, (f_sorted o)))]) rfl (XT.i0_eq_t hc36) ?_
          refine QTri.steps Ad W 1 (st' := (58, [some (.ref 0), some (.int x1), some (.int x2), some (.int x3), some (.int x4), some (.int (f_rows o))], [.int x2, .int (f_rows o), .ref 2], [.inl [.ref 1, .ref 2, .ref 3, .ref 4, .ref 5, .ref 6, .ref 7, .ref 8, .int (f_cap o), .int (f_rows o), .int (f_direction o), .int (f_nulls o), .int (f_mode o), .int (f_startKind o), .int (f_startOff o), .int (f_endKind o), .int (f_endOff o), .int (f_fn o), .int (f_fnArg o), .int (f_computed o)], .inr (.inl (.int, y33)), .inr (.inl (.int, (f_keys o))), .inr (.inl (.int, (f_vals o))), .inr (.inl (.int, (f_flg o))), .inr (.inr (f_res o)), .inr (.inl (.boolean, (f_resNull o))), .inr (.inl (.int, (f_frameCnt o))), .inr (.inl (.int, (f_sorted o)))])) rfl ?_
          exact QTri.mask [true, false, false, true, true, true] (K35 _ (if_pos hc36).symm)
        · refine QTri.brF Ad W (t := 57) (f := 53) (L := [some (.ref 0), some (.int x1), some (.int x2), some (.int x3), some (.int x4), some (.int (f_rows o))]) (S := [.int (f_rows o), .ref 2]) (σ := [.inl [.ref 1, .ref 2, .ref 3, .ref 4, .ref 5, .ref 6, .ref 7, .ref 8, .int (f_cap o), .int (f_rows o), .int (f_direction o), .int (f_nulls o), .int (f_mode o), .int (f_startKind o), .int (f_startOff o), .int (f_endKind o), .int (f_endOff o), .int (f_fn o), .int (f_fnArg o), .int (f_computed o)], .inr (.inl (.int, y33)), .inr (.inl (.int, (f_keys o))), .inr (.inl (.int, (f_vals o))), .inr (.inl (.int, (f_flg o))), .inr (.inr (f_res o)), .inr (.inl (.boolean, (f_resNull o))), .inr (.inl (.int, (f_frameCnt o))), .inr (.inl (.int, (f_sorted o)))]) rfl (XT.i0_eq_f hc36) ?_
          refine QTri.steps Ad W 2 (st' := (58, [some (.ref 0), some (.int x1), some (.int x2), some (.int x3), some (.int x4), some (.int (f_rows o))], [.int (0 : Int32), .int (f_rows o), .ref 2], [.inl [.ref 1, .ref 2, .ref 3, .ref 4, .ref 5, .ref 6, .ref 7, .ref 8, .int (f_cap o), .int (f_rows o), .int (f_direction o), .int (f_nulls o), .int (f_mode o), .int (f_startKind o), .int (f_startOff o), .int (f_endKind o), .int (f_endOff o), .int (f_fn o), .int (f_fnArg o), .int (f_computed o)], .inr (.inl (.int, y33)), .inr (.inl (.int, (f_keys o))), .inr (.inl (.int, (f_vals o))), .inr (.inl (.int, (f_flg o))), .inr (.inr (f_res o)), .inr (.inl (.boolean, (f_resNull o))), .inr (.inl (.int, (f_frameCnt o))), .inr (.inl (.int, (f_sorted o)))])) rfl ?_
          exact QTri.mask [true, false, false, true, true, true] (K35 _ (if_neg hc36).symm)
      · refine QTri.brF Ad W (t := 26) (f := 24) (L := [some (.ref 0), some (.int x1), some (.int x2), some (.int x3), some (.int x4), none]) (S := []) (σ := (H0 o)) rfl (XT.ii_lt_f hc32) ?_
        refine QTri.steps Ad W 1 (st' := (25, [some (.ref 0), some (.int x1), some (.int x2), some (.int x3), some (.int x4), none], [.int (-1 : Int32)], (H0 o))) rfl ?_
        obtain rfl := Option.some.inj h
        exact QTri.retI rfl rfl
/-- isComputed()Z -/
def F6 (o : Ob) : Option (Int32) :=
  some ((f_computed o) &&& 1)
theorem tF6 (Ad : QAd n0 ad) (W : QW Z a0) (o : Ob) {r : Int32} (h : F6 o = some r) : QTri l Z n0 ad 6 (0, qentry [.ref 0] (pMaxL 6), [], (H0 o)) (some (Value.int r)) (H0 o) := by
  unfold F6 at h
  refine QTri.steps Ad W 2 (st' := (4, [some (.ref 0)], [.int (f_computed o)], (H0 o))) rfl ?_
  obtain rfl := Option.some.inj h
  exact QTri.retZ rfl rfl
/-- rowCount()I -/
def F7 (o : Ob) : Option (Int32) :=
  some (f_rows o)
theorem tF7 (Ad : QAd n0 ad) (W : QW Z a0) (o : Ob) {r : Int32} (h : F7 o = some r) : QTri l Z n0 ad 7 (0, qentry [.ref 0] (pMaxL 7), [], (H0 o)) (some (Value.int r)) (H0 o) := by
  unfold F7 at h
  refine QTri.steps Ad W 2 (st' := (4, [some (.ref 0)], [.int (f_rows o)], (H0 o))) rfl ?_
  obtain rfl := Option.some.inj h
  exact QTri.retI rfl rfl
/-- getRowField(II)I -/
def F8 (o : Ob) (x1 : Int32) (x2 : Int32) : Option (Int32) :=
  (if x1 < (0 : Int32) then some (0 : Int32) else (if x1 < (f_rows o) then (if x2 = (0 : Int32) then (aget (f_part o) x1).bind fun y50 => some y50 else (if x2 = (1 : Int32) then (aget (f_keys o) x1).bind fun y52 => some y52 else (if x2 = (2 : Int32) then (aget (f_vals o) x1).bind fun y54 => some y54 else (if x2 = (3 : Int32) then (aget (f_flg o) x1).bind fun y56 => some y56 else some (0 : Int32))))) else some (0 : Int32)))
theorem tF8 (Ad : QAd n0 ad) (W : QW Z a0) (o : Ob) (x1 : Int32) (x2 : Int32) {r : Int32} (h : F8 o x1 x2 = some r) : QTri l Z n0 ad 8 (0, qentry [.ref 0, .int x1, .int x2] (pMaxL 8), [], (H0 o)) (some (Value.int r)) (H0 o) := by
  unfold F8 at h
  refine QTri.steps Ad W 1 (st' := (1, [some (.ref 0), some (.int x1), some (.int x2)], [.int x1], (H0 o))) rfl ?_
  rcases qite h with ⟨hc47, h⟩ | ⟨hc47, h⟩
  · refine QTri.brT Ad W (t := 12) (f := 4) (L := [some (.ref 0), some (.int x1), some (.int x2)]) (S := []) (σ := (H0 o)) rfl (XT.i0_lt_t hc47) ?_
    refine QTri.steps Ad W 1 (st' := (13, [some (.ref 0), some (.int x1), some (.int x2)], [.int (0 : Int32)], (H0 o))) rfl ?_
    obtain rfl := Option.some.inj h
    exact QTri.retI rfl rfl
  · refine QTri.brF Ad W (t := 12) (f := 4) (L := [some (.ref 0), some (.int x1), some (.int x2)]) (S := []) (σ := (H0 o)) rfl (XT.i0_lt_f hc47) ?_
    refine QTri.steps Ad W 3 (st' := (9, [some (.ref 0), some (.int x1), some (.int x2)], [.int (f_rows o), .int x1], (H0 o))) rfl ?_
    rcases qite h with ⟨hc48, h⟩ | ⟨hc48, h⟩
    · refine QTri.brT Ad W (t := 14) (f := 12) (L := [some (.ref 0), some (.int x1), some (.int x2)]) (S := []) (σ := (H0 o)) rfl (XT.ii_lt_t hc48) ?_
      refine QTri.steps Ad W 1 (st' := (15, [some (.ref 0), some (.int x1), some (.int x2)], [.int x2], (H0 o))) rfl ?_
      rcases qite h with ⟨hc49, h⟩ | ⟨hc49, h⟩
      · refine QTri.brF Ad W (t := 25) (f := 18) (L := [some (.ref 0), some (.int x1), some (.int x2)]) (S := []) (σ := (H0 o)) rfl (XT.i0_ne_f hc49) ?_
        refine QTri.steps Ad W 3 (st' := (23, [some (.ref 0), some (.int x1), some (.int x2)], [.int x1, .ref 1], (H0 o))) rfl ?_
        obtain ⟨y50, hy50, h⟩ := Option.bind_eq_some_iff.mp h
        refine QTri.bnd Ad W (f := fun y50 => (24, [some (.ref 0), some (.int x1), some (.int x2)], [.int y50], (H0 o))) rfl hy50 ?_
        obtain rfl := Option.some.inj h
        exact QTri.retI rfl rfl
      · refine QTri.brT Ad W (t := 25) (f := 18) (L := [some (.ref 0), some (.int x1), some (.int x2)]) (S := []) (σ := (H0 o)) rfl (XT.i0_ne_t hc49) ?_
        refine QTri.steps Ad W 2 (st' := (27, [some (.ref 0), some (.int x1), some (.int x2)], [.int (1 : Int32), .int x2], (H0 o))) rfl ?_
        rcases qite h with ⟨hc51, h⟩ | ⟨hc51, h⟩
        · refine QTri.brF Ad W (t := 37) (f := 30) (L := [some (.ref 0), some (.int x1), some (.int x2)]) (S := []) (σ := (H0 o)) rfl (XT.ii_ne_f hc51) ?_
          refine QTri.steps Ad W 3 (st' := (35, [some (.ref 0), some (.int x1), some (.int x2)], [.int x1, .ref 2], (H0 o))) rfl ?_
          obtain ⟨y52, hy52, h⟩ := Option.bind_eq_some_iff.mp h
          refine QTri.bnd Ad W (f := fun y52 => (36, [some (.ref 0), some (.int x1), some (.int x2)], [.int y52], (H0 o))) rfl hy52 ?_
          obtain rfl := Option.some.inj h
          exact QTri.retI rfl rfl
        · refine QTri.brT Ad W (t := 37) (f := 30) (L := [some (.ref 0), some (.int x1), some (.int x2)]) (S := []) (σ := (H0 o)) rfl (XT.ii_ne_t hc51) ?_
          refine QTri.steps Ad W 2 (st' := (39, [some (.ref 0), some (.int x1), some (.int x2)], [.int (2 : Int32), .int x2], (H0 o))) rfl ?_
          rcases qite h with ⟨hc53, h⟩ | ⟨hc53, h⟩
          · refine QTri.brF Ad W (t := 49) (f := 42) (L := [some (.ref 0), some (.int x1), some (.int x2)]) (S := []) (σ := (H0 o)) rfl (XT.ii_ne_f hc53) ?_
            refine QTri.steps Ad W 3 (st' := (47, [some (.ref 0), some (.int x1), some (.int x2)], [.int x1, .ref 3], (H0 o))) rfl ?_
            obtain ⟨y54, hy54, h⟩ := Option.bind_eq_some_iff.mp h
            refine QTri.bnd Ad W (f := fun y54 => (48, [some (.ref 0), some (.int x1), some (.int x2)], [.int y54], (H0 o))) rfl hy54 ?_
            obtain rfl := Option.some.inj h
            exact QTri.retI rfl rfl
          · refine QTri.brT Ad W (t := 49) (f := 42) (L := [some (.ref 0), some (.int x1), some (.int x2)]) (S := []) (σ := (H0 o)) rfl (XT.ii_ne_t hc53) ?_
            refine QTri.steps Ad W 2 (st' := (51, [some (.ref 0), some (.int x1), some (.int x2)], [.int (3 : Int32), .int x2], (H0 o))) rfl ?_
            rcases qite h with ⟨hc55, h⟩ | ⟨hc55, h⟩
            · refine QTri.brF Ad W (t := 61) (f := 54) (L := [some (.ref 0), some (.int x1), some (.int x2)]) (S := []) (σ := (H0 o)) rfl (XT.ii_ne_f hc55) ?_
              refine QTri.steps Ad W 3 (st' := (59, [some (.ref 0), some (.int x1), some (.int x2)], [.int x1, .ref 4], (H0 o))) rfl ?_
              obtain ⟨y56, hy56, h⟩ := Option.bind_eq_some_iff.mp h
              refine QTri.bnd Ad W (f := fun y56 => (60, [some (.ref 0), some (.int x1), some (.int x2)], [.int y56], (H0 o))) rfl hy56 ?_
              obtain rfl := Option.some.inj h
              exact QTri.retI rfl rfl
            · refine QTri.brT Ad W (t := 61) (f := 54) (L := [some (.ref 0), some (.int x1), some (.int x2)]) (S := []) (σ := (H0 o)) rfl (XT.ii_ne_t hc55) ?_
              refine QTri.steps Ad W 1 (st' := (62, [some (.ref 0), some (.int x1), some (.int x2)], [.int (0 : Int32)], (H0 o))) rfl ?_
              obtain rfl := Option.some.inj h
              exact QTri.retI rfl rfl
    · refine QTri.brF Ad W (t := 14) (f := 12) (L := [some (.ref 0), some (.int x1), some (.int x2)]) (S := []) (σ := (H0 o)) rfl (XT.ii_lt_f hc48) ?_
      refine QTri.steps Ad W 1 (st' := (13, [some (.ref 0), some (.int x1), some (.int x2)], [.int (0 : Int32)], (H0 o))) rfl ?_
      obtain rfl := Option.some.inj h
      exact QTri.retI rfl rfl
/-- the law -/
def F0 (x0 : Int32) (x1 : Int32) (x2 : Int32) (x3 : Int32) (x4 : Int32) : Option (Int32 × QHeap) :=
  (F1 x0).bind fun r11 => (F3 r11).bind fun r28 => (if r28.1 = (0 : Int32) then (F5 r28.2 x1 x2 x3 x4).bind fun r44 => (F6 r44.2).bind fun r45 => (F7 r44.2).bind fun r46 => (F8 r44.2 (0 : Int32) (0 : Int32)).bind fun r57 => (F8 r44.2 (0 : Int32) (1 : Int32)).bind fun r58 => (F8 r44.2 (0 : Int32) (2 : Int32)).bind fun r59 => (F8 r44.2 (0 : Int32) (3 : Int32)).bind fun r60 => (if (if x4 < (0 : Int32) then (0 : Int32) else (if (3 : Int32) < x4 then (0 : Int32) else (1 : Int32))) = (0 : Int32) then (if r44.1 = (-1 : Int32) then (if r45 = (0 : Int32) then some ((0 : Int32), (H0 r44.2)) else (if r46 = (0 : Int32) then (if r57 = (0 : Int32) then (if r58 = (0 : Int32) then (if r59 = (0 : Int32) then (if r60 = (0 : Int32) then some ((1 : Int32), (H0 r44.2)) else some ((0 : Int32), (H0 r44.2))) else some ((0 : Int32), (H0 r44.2))) else some ((0 : Int32), (H0 r44.2))) else some ((0 : Int32), (H0 r44.2))) else some ((0 : Int32), (H0 r44.2)))) else some ((0 : Int32), (H0 r44.2))) else (if r44.1 = (0 : Int32) then (if r45 = (0 : Int32) then (if r46 = (1 : Int32) then (if r57 = x1 then (if r58 = (if (x4 &&& (1 : Int32)) = (0 : Int32) then x2 else (0 : Int32)) then (if r59 = (if (x4 &&& (2 : Int32)) = (0 : Int32) then x3 else (0 : Int32)) then (if r60 = x4 then some ((1 : Int32), (H0 r44.2)) else some ((0 : Int32), (H0 r44.2))) else some ((0 : Int32), (H0 r44.2))) else some ((0 : Int32), (H0 r44.2))) else some ((0 : Int32), (H0 r44.2))) else some ((0 : Int32), (H0 r44.2))) else some ((0 : Int32), (H0 r44.2))) else some ((0 : Int32), (H0 r44.2)))) else some ((0 : Int32), (H0 r28.2)))
theorem tF0 (Ad : QAd n0 ad) (W : QW Z a0) (x0 : Int32) (x1 : Int32) (x2 : Int32) (x3 : Int32) (x4 : Int32) {r : Int32 × QHeap} (h : F0 x0 x1 x2 x3 x4 = some r) : QTri l Z n0 ad 0 (0, qentry [.int x0, .int x1, .int x2, .int x3, .int x4] (pMaxL 0), [], []) (some (Value.int r.1)) r.2 := by
  unfold F0 at h
  refine QTri.steps Ad W 1 (st' := (3, [some (.int x0), some (.int x1), some (.int x2), some (.int x3), some (.int x4), none, none, none, none, none, none, none, none, none, none, none], [.ref 0], [.inl [.null, .null, .null, .null, .null, .null, .null, .null, .int (f_cap ob0), .int (f_rows ob0), .int (f_direction ob0), .int (f_nulls ob0), .int (f_mode ob0), .int (f_startKind ob0), .int (f_startOff ob0), .int (f_endKind ob0), .int (f_endOff ob0), .int (f_fn ob0), .int (f_fnArg ob0), .int (f_computed ob0)]])) rfl ?_
  refine QTri.steps Ad W 2 (st' := (5, [some (.int x0), some (.int x1), some (.int x2), some (.int x3), some (.int x4), none, none, none, none, none, none, none, none, none, none, none], [.int x0, .ref 0, .ref 0], [.inl [.null, .null, .null, .null, .null, .null, .null, .null, .int (f_cap ob0), .int (f_rows ob0), .int (f_direction ob0), .int (f_nulls ob0), .int (f_mode ob0), .int (f_startKind ob0), .int (f_startOff ob0), .int (f_endKind ob0), .int (f_endOff ob0), .int (f_fn ob0), .int (f_fnArg ob0), .int (f_computed ob0)]])) rfl ?_
  obtain ⟨r11, hr11, h⟩ := Option.bind_eq_some_iff.mp h
  refine QTri.callI W (a := 0) (as := [.int x0]) (rest := [.ref 0]) (σ₁ := (H0 r11)) rfl rfl rfl rfl rfl rfl (tF1 Ad W x0 hr11) ?_
  refine QTri.steps Ad W 2 (st' := (12, [some (.int x0), some (.int x1), some (.int x2), some (.int x3), some (.int x4), some (.ref 0), none, none, none, none, none, none, none, none, none, none], [.ref 0], (H0 r11))) rfl ?_
  obtain ⟨r28, hr28, h⟩ := Option.bind_eq_some_iff.mp h
  refine QTri.callV W (a := 0) (as := []) (rest := []) (w := (some (.int r28.1))) (σ₁ := (H0 r28.2)) rfl rfl rfl rfl rfl rfl rfl rfl (tF3 Ad W r11 hr28) ?_
  rcases qite h with ⟨hc29, h⟩ | ⟨hc29, h⟩
  · refine QTri.brT Ad W (t := 20) (f := 18) (L := [some (.int x0), some (.int x1), some (.int x2), some (.int x3), some (.int x4), some (.ref 0), none, none, none, none, none, none, none, none, none, none]) (S := []) (σ := (H0 r28.2)) rfl (XT.i0_eq_t hc29) ?_
    refine QTri.steps Ad W 5 (st' := (27, [some (.int x0), some (.int x1), some (.int x2), some (.int x3), some (.int x4), some (.ref 0), none, none, none, none, none, none, none, none, none, none], [.int x4, .int x3, .int x2, .int x1, .ref 0], (H0 r28.2))) rfl ?_
    obtain ⟨r44, hr44, h⟩ := Option.bind_eq_some_iff.mp h
    refine QTri.callV W (a := 0) (as := [.int x1, .int x2, .int x3, .int x4]) (rest := []) (w := (some (.int r44.1))) (σ₁ := (H0 r44.2)) rfl rfl rfl rfl rfl rfl rfl rfl (tF5 Ad W r28.2 x1 x2 x3 x4 hr44) ?_
    refine QTri.steps Ad W 2 (st' := (34, [some (.int x0), some (.int x1), some (.int x2), some (.int x3), some (.int x4), some (.ref 0), some (.int r44.1), none, none, none, none, none, none, none, none, none], [.ref 0], (H0 r44.2))) rfl ?_
    obtain ⟨r45, hr45, h⟩ := Option.bind_eq_some_iff.mp h
    refine QTri.callV W (a := 0) (as := []) (rest := []) (w := (some (.int r45))) (σ₁ := (H0 r44.2)) rfl rfl rfl rfl rfl rfl rfl rfl (tF6 Ad W r44.2 hr45) ?_
    refine QTri.steps Ad W 2 (st' := (41, [some (.int x0), some (.int x1), some (.int x2), some (.int x3), some (.int x4), some (.ref 0), some (.int r44.1), some (.int r45), none, none, none, none, none, none, none, none], [.ref 0], (H0 r44.2))) rfl ?_
    obtain ⟨r46, hr46, h⟩ := Option.bind_eq_some_iff.mp h
    refine QTri.callV W (a := 0) (as := []) (rest := []) (w := (some (.int r46))) (σ₁ := (H0 r44.2)) rfl rfl rfl rfl rfl rfl rfl rfl (tF7 Ad W r44.2 hr46) ?_
    refine QTri.steps Ad W 4 (st' := (50, [some (.int x0), some (.int x1), some (.int x2), some (.int x3), some (.int x4), some (.ref 0), some (.int r44.1), some (.int r45), some (.int r46), none, none, none, none, none, none, none], [.int (0 : Int32), .int (0 : Int32), .ref 0], (H0 r44.2))) rfl ?_
    obtain ⟨r57, hr57, h⟩ := Option.bind_eq_some_iff.mp h
    refine QTri.callV W (a := 0) (as := [.int (0 : Int32), .int (0 : Int32)]) (rest := []) (w := (some (.int r57))) (σ₁ := (H0 r44.2)) rfl rfl rfl rfl rfl rfl rfl rfl (tF8 Ad W r44.2 (0 : Int32) (0 : Int32) hr57) ?_
    refine QTri.steps Ad W 4 (st' := (59, [some (.int x0), some (.int x1), some (.int x2), some (.int x3), some (.int x4), some (.ref 0), some (.int r44.1), some (.int r45), some (.int r46), some (.int r57), none, none, none, none, none, none], [.int (1 : Int32), .int (0 : Int32), .ref 0], (H0 r44.2))) rfl ?_
    obtain ⟨r58, hr58, h⟩ := Option.bind_eq_some_iff.mp h
    refine QTri.callV W (a := 0) (as := [.int (0 : Int32), .int (1 : Int32)]) (rest := []) (w := (some (.int r58))) (σ₁ := (H0 r44.2)) rfl rfl rfl rfl rfl rfl rfl rfl (tF8 Ad W r44.2 (0 : Int32) (1 : Int32) hr58) ?_
    refine QTri.steps Ad W 4 (st' := (68, [some (.int x0), some (.int x1), some (.int x2), some (.int x3), some (.int x4), some (.ref 0), some (.int r44.1), some (.int r45), some (.int r46), some (.int r57), some (.int r58), none, none, none, none, none], [.int (2 : Int32), .int (0 : Int32), .ref 0], (H0 r44.2))) rfl ?_
    obtain ⟨r59, hr59, h⟩ := Option.bind_eq_some_iff.mp h
    refine QTri.callV W (a := 0) (as := [.int (0 : Int32), .int (2 : Int32)]) (rest := []) (w := (some (.int r59))) (σ₁ := (H0 r44.2)) rfl rfl rfl rfl rfl rfl rfl rfl (tF8 Ad W r44.2 (0 : Int32) (2 : Int32) hr59) ?_
    refine QTri.steps Ad W 4 (st' := (77, [some (.int x0), some (.int x1), some (.int x2), some (.int x3), some (.int x4), some (.ref 0), some (.int r44.1), some (.int r45), some (.int r46), some (.int r57), some (.int r58), some (.int r59), none, none, none, none], [.int (3 : Int32), .int (0 : Int32), .ref 0], (H0 r44.2))) rfl ?_
    obtain ⟨r60, hr60, h⟩ := Option.bind_eq_some_iff.mp h
    refine QTri.callV W (a := 0) (as := [.int (0 : Int32), .int (3 : Int32)]) (rest := []) (w := (some (.int r60))) (σ₁ := (H0 r44.2)) rfl rfl rfl rfl rfl rfl rfl rfl (tF8 Ad W r44.2 (0 : Int32) (3 : Int32) hr60) ?_
    refine QTri.steps Ad W 2 (st' := (84, [some (.int x0), some (.int x1), some (.int x2), some (.int x3), some (.int x4), some (.ref 0), some (.int r44.1), some (.int r45), some (.int r46), some (.int r57), some (.int r58), some (.int r59), some (.int r60), none, none, none], [.int x4], (H0 r44.2))) rfl ?_
    have K62 : ∀ z61 : Int32, z61 = (if x4 < (0 : Int32) then (0 : Int32) else (if (3 : Int32) < x4 then (0 : Int32) else (1 : Int32))) → QTri l Z n0 ad 0 (98, [none, some (.int x1), some (.int x2), some (.int x3), some (.int x4), none, some (.int r44.1), some (.int r45), some (.int r46), some (.int r57), some (.int r58), some (.int r59), some (.int r60), none, none, none], [.int z61], (H0 r44.2)) (some (Value.int r.1)) r.2 := by
      intro z61 ez61
      subst ez61
      refine QTri.steps Ad W 2 (st' := (102, [none, some (.int x1), some (.int x2), some (.int x3), some (.int x4), none, some (.int r44.1), some (.int r45), some (.int r46), some (.int r57), some (.int r58), some (.int r59), some (.int r60), some (.int (if x4 < (0 : Int32) then (0 : Int32) else (if (3 : Int32) < x4 then (0 : Int32) else (1 : Int32)))), none, none], [.int (if x4 < (0 : Int32) then (0 : Int32) else (if (3 : Int32) < x4 then (0 : Int32) else (1 : Int32)))], (H0 r44.2))) rfl ?_
      rcases qite h with ⟨hc65, h⟩ | ⟨hc65, h⟩
      · refine QTri.brF Ad W (t := 147) (f := 105) (L := [none, some (.int x1), some (.int x2), some (.int x3), some (.int x4), none, some (.int r44.1), some (.int r45), some (.int r46), some (.int r57), some (.int r58), some (.int r59), some (.int r60), some (.int (if x4 < (0 : Int32) then (0 : Int32) else (if (3 : Int32) < x4 then (0 : Int32) else (1 : Int32)))), none, none]) (S := []) (σ := (H0 r44.2)) rfl (XT.i0_ne_f hc65) ?_
        refine QTri.steps Ad W 2 (st' := (108, [none, some (.int x1), some (.int x2), some (.int x3), some (.int x4), none, some (.int r44.1), some (.int r45), some (.int r46), some (.int r57), some (.int r58), some (.int r59), some (.int r60), some (.int (if x4 < (0 : Int32) then (0 : Int32) else (if (3 : Int32) < x4 then (0 : Int32) else (1 : Int32)))), none, none], [.int (-1 : Int32), .int r44.1], (H0 r44.2))) rfl ?_
        rcases qite h with ⟨hc66, h⟩ | ⟨hc66, h⟩
        · refine QTri.brF Ad W (t := 145) (f := 111) (L := [none, some (.int x1), some (.int x2), some (.int x3), some (.int x4), none, some (.int r44.1), some (.int r45), some (.int r46), some (.int r57), some (.int r58), some (.int r59), some (.int r60), some (.int (if x4 < (0 : Int32) then (0 : Int32) else (if (3 : Int32) < x4 then (0 : Int32) else (1 : Int32)))), none, none]) (S := []) (σ := (H0 r44.2)) rfl (XT.ii_ne_f hc66) ?_
          refine QTri.steps Ad W 1 (st' := (113, [none, some (.int x1), some (.int x2), some (.int x3), some (.int x4), none, some (.int r44.1), some (.int r45), some (.int r46), some (.int r57), some (.int r58), some (.int r59), some (.int r60), some (.int (if x4 < (0 : Int32) then (0 : Int32) else (if (3 : Int32) < x4 then (0 : Int32) else (1 : Int32)))), none, none], [.int r45], (H0 r44.2))) rfl ?_
          rcases qite h with ⟨hc67, h⟩ | ⟨hc67, h⟩
          · refine QTri.brT Ad W (t := 145) (f := 116) (L := [none, some (.int x1), some (.int x2), some (.int x3), some (.int x4), none, some (.int r44.1), some (.int r45), some (.int r46), some (.int r57), some (.int r58), some (.int r59), some (.int r60), some (.int (if x4 < (0 : Int32) then (0 : Int32) else (if (3 : Int32) < x4 then (0 : Int32) else (1 : Int32)))), none, none]) (S := []) (σ := (H0 r44.2)) rfl (XT.i0_eq_t hc67) ?_
            refine QTri.steps Ad W 1 (st' := (146, [none, some (.int x1), some (.int x2), some (.int x3), some (.int x4), none, some (.int r44.1), some (.int r45), some (.int r46), some (.int r57), some (.int r58), some (.int r59), some (.int r60), some (.int (if x4 < (0 : Int32) then (0 : Int32) else (if (3 : Int32) < x4 then (0 : Int32) else (1 : Int32)))), none, none], [.int (0 : Int32)], (H0 r44.2))) rfl ?_
            obtain rfl := Option.some.inj h
            exact QTri.retZ rfl rfl
          · refine QTri.brF Ad W (t := 145) (f := 116) (L := [none, some (.int x1), some (.int x2), some (.int x3), some (.int x4), none, some (.int r44.1), some (.int r45), some (.int r46), some (.int r57), some (.int r58), some (.int r59), some (.int r60), some (.int (if x4 < (0 : Int32) then (0 : Int32) else (if (3 : Int32) < x4 then (0 : Int32) else (1 : Int32)))), none, none]) (S := []) (σ := (H0 r44.2)) rfl (XT.i0_eq_f hc67) ?_
            refine QTri.steps Ad W 1 (st' := (118, [none, some (.int x1), some (.int x2), some (.int x3), some (.int x4), none, some (.int r44.1), some (.int r45), some (.int r46), some (.int r57), some (.int r58), some (.int r59), some (.int r60), some (.int (if x4 < (0 : Int32) then (0 : Int32) else (if (3 : Int32) < x4 then (0 : Int32) else (1 : Int32)))), none, none], [.int r46], (H0 r44.2))) rfl ?_
            rcases qite h with ⟨hc68, h⟩ | ⟨hc68, h⟩
            · refine QTri.brF Ad W (t := 145) (f := 121) (L := [none, some (.int x1), some (.int x2), some (.int x3), some (.int x4), none, some (.int r44.1), some (.int r45), some (.int r46), some (.int r57), some (.int r58), some (.int r59), some (.int r60), some (.int (if x4 < (0 : Int32) then (0 : Int32) else (if (3 : Int32) < x4 then (0 : Int32) else (1 : Int32)))), none, none]) (S := []) (σ := (H0 r44.2)) rfl (XT.i0_ne_f hc68) ?_
              refine QTri.steps Ad W 1 (st' := (123, [none, some (.int x1), some (.int x2), some (.int x3), some (.int x4), none, some (.int r44.1), some (.int r45), some (.int r46), some (.int r57), some (.int r58), some (.int r59), some (.int r60), some (.int (if x4 < (0 : Int32) then (0 : Int32) else (if (3 : Int32) < x4 then (0 : Int32) else (1 : Int32)))), none, none], [.int r57], (H0 r44.2))) rfl ?_
              rcases qite h with ⟨hc69, h⟩ | ⟨hc69, h⟩
              · refine QTri.brF Ad W (t := 145) (f := 126) (L := [none, some (.int x1), some (.int x2), some (.int x3), some (.int x4), none, some (.int r44.1), some (.int r45), some (.int r46), some (.int r57), some (.int r58), some (.int r59), some (.int r60), some (.int (if x4 < (0 : Int32) then (0 : Int32) else (if (3 : Int32) < x4 then (0 : Int32) else (1 : Int32)))), none, none]) (S := []) (σ := (H0 r44.2)) rfl (XT.i0_ne_f hc69) ?_
                refine QTri.steps Ad W 1 (st' := (128, [none, some (.int x1), some (.int x2), some (.int x3), some (.int x4), none, some (.int r44.1), some (.int r45), some (.int r46), some (.int r57), some (.int r58), some (.int r59), some (.int r60), some (.int (if x4 < (0 : Int32) then (0 : Int32) else (if (3 : Int32) < x4 then (0 : Int32) else (1 : Int32)))), none, none], [.int r58], (H0 r44.2))) rfl ?_
                rcases qite h with ⟨hc70, h⟩ | ⟨hc70, h⟩
                · refine QTri.brF Ad W (t := 145) (f := 131) (L := [none, some (.int x1), some (.int x2), some (.int x3), some (.int x4), none, some (.int r44.1), some (.int r45), some (.int r46), some (.int r57), some (.int r58), some (.int r59), some (.int r60), some (.int (if x4 < (0 : Int32) then (0 : Int32) else (if (3 : Int32) < x4 then (0 : Int32) else (1 : Int32)))), none, none]) (S := []) (σ := (H0 r44.2)) rfl (XT.i0_ne_f hc70) ?_
                  refine QTri.steps Ad W 1 (st' := (133, [none, some (.int x1), some (.int x2), some (.int x3), some (.int x4), none, some (.int r44.1), some (.int r45), some (.int r46), some (.int r57), some (.int r58), some (.int r59), some (.int r60), some (.int (if x4 < (0 : Int32) then (0 : Int32) else (if (3 : Int32) < x4 then (0 : Int32) else (1 : Int32)))), none, none], [.int r59], (H0 r44.2))) rfl ?_
                  rcases qite h with ⟨hc71, h⟩ | ⟨hc71, h⟩
                  · refine QTri.brF Ad W (t := 145) (f := 136) (L := [none, some (.int x1), some (.int x2), some (.int x3), some (.int x4), none, some (.int r44.1), some (.int r45), some (.int r46), some (.int r57), some (.int r58), some (.int r59), some (.int r60), some (.int (if x4 < (0 : Int32) then (0 : Int32) else (if (3 : Int32) < x4 then (0 : Int32) else (1 : Int32)))), none, none]) (S := []) (σ := (H0 r44.2)) rfl (XT.i0_ne_f hc71) ?_
                    refine QTri.steps Ad W 1 (st' := (138, [none, some (.int x1), some (.int x2), some (.int x3), some (.int x4), none, some (.int r44.1), some (.int r45), some (.int r46), some (.int r57), some (.int r58), some (.int r59), some (.int r60), some (.int (if x4 < (0 : Int32) then (0 : Int32) else (if (3 : Int32) < x4 then (0 : Int32) else (1 : Int32)))), none, none], [.int r60], (H0 r44.2))) rfl ?_
                    rcases qite h with ⟨hc72, h⟩ | ⟨hc72, h⟩
                    · refine QTri.brF Ad W (t := 145) (f := 141) (L := [none, some (.int x1), some (.int x2), some (.int x3), some (.int x4), none, some (.int r44.1), some (.int r45), some (.int r46), some (.int r57), some (.int r58), some (.int r59), some (.int r60), some (.int (if x4 < (0 : Int32) then (0 : Int32) else (if (3 : Int32) < x4 then (0 : Int32) else (1 : Int32)))), none, none]) (S := []) (σ := (H0 r44.2)) rfl (XT.i0_ne_f hc72) ?_
                      refine QTri.steps Ad W 2 (st' := (146, [none, some (.int x1), some (.int x2), some (.int x3), some (.int x4), none, some (.int r44.1), some (.int r45), some (.int r46), some (.int r57), some (.int r58), some (.int r59), some (.int r60), some (.int (if x4 < (0 : Int32) then (0 : Int32) else (if (3 : Int32) < x4 then (0 : Int32) else (1 : Int32)))), none, none], [.int (1 : Int32)], (H0 r44.2))) rfl ?_
                      obtain rfl := Option.some.inj h
                      exact QTri.retZ rfl rfl
                    · refine QTri.brT Ad W (t := 145) (f := 141) (L := [none, some (.int x1), some (.int x2), some (.int x3), some (.int x4), none, some (.int r44.1), some (.int r45), some (.int r46), some (.int r57), some (.int r58), some (.int r59), some (.int r60), some (.int (if x4 < (0 : Int32) then (0 : Int32) else (if (3 : Int32) < x4 then (0 : Int32) else (1 : Int32)))), none, none]) (S := []) (σ := (H0 r44.2)) rfl (XT.i0_ne_t hc72) ?_
                      refine QTri.steps Ad W 1 (st' := (146, [none, some (.int x1), some (.int x2), some (.int x3), some (.int x4), none, some (.int r44.1), some (.int r45), some (.int r46), some (.int r57), some (.int r58), some (.int r59), some (.int r60), some (.int (if x4 < (0 : Int32) then (0 : Int32) else (if (3 : Int32) < x4 then (0 : Int32) else (1 : Int32)))), none, none], [.int (0 : Int32)], (H0 r44.2))) rfl ?_
                      obtain rfl := Option.some.inj h
                      exact QTri.retZ rfl rfl
                  · refine QTri.brT Ad W (t := 145) (f := 136) (L := [none, some (.int x1), some (.int x2), some (.int x3), some (.int x4), none, some (.int r44.1), some (.int r45), some (.int r46), some (.int r57), some (.int r58), some (.int r59), some (.int r60), some (.int (if x4 < (0 : Int32) then (0 : Int32) else (if (3 : Int32) < x4 then (0 : Int32) else (1 : Int32)))), none, none]) (S := []) (σ := (H0 r44.2)) rfl (XT.i0_ne_t hc71) ?_
                    refine QTri.steps Ad W 1 (st' := (146, [none, some (.int x1), some (.int x2), some (.int x3), some (.int x4), none, some (.int r44.1), some (.int r45), some (.int r46), some (.int r57), some (.int r58), some (.int r59), some (.int r60), some (.int (if x4 < (0 : Int32) then (0 : Int32) else (if (3 : Int32) < x4 then (0 : Int32) else (1 : Int32)))), none, none], [.int (0 : Int32)], (H0 r44.2))) rfl ?_
                    obtain rfl := Option.some.inj h
                    exact QTri.retZ rfl rfl
                · refine QTri.brT Ad W (t := 145) (f := 131) (L := [none, some (.int x1), some (.int x2), some (.int x3), some (.int x4), none, some (.int r44.1), some (.int r45), some (.int r46), some (.int r57), some (.int r58), some (.int r59), some (.int r60), some (.int (if x4 < (0 : Int32) then (0 : Int32) else (if (3 : Int32) < x4 then (0 : Int32) else (1 : Int32)))), none, none]) (S := []) (σ := (H0 r44.2)) rfl (XT.i0_ne_t hc70) ?_
                  refine QTri.steps Ad W 1 (st' := (146, [none, some (.int x1), some (.int x2), some (.int x3), some (.int x4), none, some (.int r44.1), some (.int r45), some (.int r46), some (.int r57), some (.int r58), some (.int r59), some (.int r60), some (.int (if x4 < (0 : Int32) then (0 : Int32) else (if (3 : Int32) < x4 then (0 : Int32) else (1 : Int32)))), none, none], [.int (0 : Int32)], (H0 r44.2))) rfl ?_
                  obtain rfl := Option.some.inj h
                  exact QTri.retZ rfl rfl
              · refine QTri.brT Ad W (t := 145) (f := 126) (L := [none, some (.int x1), some (.int x2), some (.int x3), some (.int x4), none, some (.int r44.1), some (.int r45), some (.int r46), some (.int r57), some (.int r58), some (.int r59), some (.int r60), some (.int (if x4 < (0 : Int32) then (0 : Int32) else (if (3 : Int32) < x4 then (0 : Int32) else (1 : Int32)))), none, none]) (S := []) (σ := (H0 r44.2)) rfl (XT.i0_ne_t hc69) ?_
                refine QTri.steps Ad W 1 (st' := (146, [none, some (.int x1), some (.int x2), some (.int x3), some (.int x4), none, some (.int r44.1), some (.int r45), some (.int r46), some (.int r57), some (.int r58), some (.int r59), some (.int r60), some (.int (if x4 < (0 : Int32) then (0 : Int32) else (if (3 : Int32) < x4 then (0 : Int32) else (1 : Int32)))), none, none], [.int (0 : Int32)], (H0 r44.2))) rfl ?_
                obtain rfl := Option.some.inj h
                exact QTri.retZ rfl rfl
            · refine QTri.brT Ad W (t := 145) (f := 121) (L := [none, some (.int x1), some (.int x2), some (.int x3), some (.int x4), none, some (.int r44.1), some (.int r45), some (.int r46), some (.int r57), some (.int r58), some (.int r59), some (.int r60), some (.int (if x4 < (0 : Int32) then (0 : Int32) else (if (3 : Int32) < x4 then (0 : Int32) else (1 : Int32)))), none, none]) (S := []) (σ := (H0 r44.2)) rfl (XT.i0_ne_t hc68) ?_
              refine QTri.steps Ad W 1 (st' := (146, [none, some (.int x1), some (.int x2), some (.int x3), some (.int x4), none, some (.int r44.1), some (.int r45), some (.int r46), some (.int r57), some (.int r58), some (.int r59), some (.int r60), some (.int (if x4 < (0 : Int32) then (0 : Int32) else (if (3 : Int32) < x4 then (0 : Int32) else (1 : Int32)))), none, none], [.int (0 : Int32)], (H0 r44.2))) rfl ?_
              obtain rfl := Option.some.inj h
              exact QTri.retZ rfl rfl
        · refine QTri.brT Ad W (t := 145) (f := 111) (L := [none, some (.int x1), some (.int x2), some (.int x3), some (.int x4), none, some (.int r44.1), some (.int r45), some (.int r46), some (.int r57), some (.int r58), some (.int r59), some (.int r60), some (.int (if x4 < (0 : Int32) then (0 : Int32) else (if (3 : Int32) < x4 then (0 : Int32) else (1 : Int32)))), none, none]) (S := []) (σ := (H0 r44.2)) rfl (XT.ii_ne_t hc66) ?_
          refine QTri.steps Ad W 1 (st' := (146, [none, some (.int x1), some (.int x2), some (.int x3), some (.int x4), none, some (.int r44.1), some (.int r45), some (.int r46), some (.int r57), some (.int r58), some (.int r59), some (.int r60), some (.int (if x4 < (0 : Int32) then (0 : Int32) else (if (3 : Int32) < x4 then (0 : Int32) else (1 : Int32)))), none, none], [.int (0 : Int32)], (H0 r44.2))) rfl ?_
          obtain rfl := Option.some.inj h
          exact QTri.retZ rfl rfl
      · refine QTri.brT Ad W (t := 147) (f := 105) (L := [none, some (.int x1), some (.int x2), some (.int x3), some (.int x4), none, some (.int r44.1), some (.int r45), some (.int r46), some (.int r57), some (.int r58), some (.int r59), some (.int r60), some (.int (if x4 < (0 : Int32) then (0 : Int32) else (if (3 : Int32) < x4 then (0 : Int32) else (1 : Int32)))), none, none]) (S := []) (σ := (H0 r44.2)) rfl (XT.i0_ne_t hc65) ?_
        refine QTri.steps Ad W 3 (st' := (151, [none, some (.int x1), some (.int x2), some (.int x3), some (.int x4), none, some (.int r44.1), some (.int r45), some (.int r46), some (.int r57), some (.int r58), some (.int r59), some (.int r60), some (.int (if x4 < (0 : Int32) then (0 : Int32) else (if (3 : Int32) < x4 then (0 : Int32) else (1 : Int32)))), none, none], [.int (x4 &&& (1 : Int32))], (H0 r44.2))) rfl ?_
        have K74 : ∀ z73 : Int32, z73 = (if (x4 &&& (1 : Int32)) = (0 : Int32) then x2 else (0 : Int32)) → QTri l Z n0 ad 0 (159, [none, some (.int x1), none, some (.int x3), some (.int x4), none, some (.int r44.1), some (.int r45), some (.int r46), some (.int r57), some (.int r58), some (.int r59), some (.int r60), none, none, none], [.int z73], (H0 r44.2)) (some (Value.int r.1)) r.2 := by
          intro z73 ez73
          subst ez73
          refine QTri.steps Ad W 4 (st' := (165, [none, some (.int x1), none, some (.int x3), some (.int x4), none, some (.int r44.1), some (.int r45), some (.int r46), some (.int r57), some (.int r58), some (.int r59), some (.int r60), none, some (.int (if (x4 &&& (1 : Int32)) = (0 : Int32) then x2 else (0 : Int32))), none], [.int (x4 &&& (2 : Int32))], (H0 r44.2))) rfl ?_
          have K77 : ∀ z76 : Int32, z76 = (if (x4 &&& (2 : Int32)) = (0 : Int32) then x3 else (0 : Int32)) → QTri l Z n0 ad 0 (173, [none, some (.int x1), none, none, some (.int x4), none, some (.int r44.1), some (.int r45), some (.int r46), some (.int r57), some (.int r58), some (.int r59), some (.int r60), none, some (.int (if (x4 &&& (1 : Int32)) = (0 : Int32) then x2 else (0 : Int32))), none], [.int z76], (H0 r44.2)) (some (Value.int r.1)) r.2 := by
            intro z76 ez76
            subst ez76
            refine QTri.steps Ad W 2 (st' := (177, [none, some (.int x1), none, none, some (.int x4), none, some (.int r44.1), some (.int r45), some (.int r46), some (.int r57), some (.int r58), some (.int r59), some (.int r60), none, some (.int (if (x4 &&& (1 : Int32)) = (0 : Int32) then x2 else (0 : Int32))), some (.int (if (x4 &&& (2 : Int32)) = (0 : Int32) then x3 else (0 : Int32)))], [.int r44.1], (H0 r44.2))) rfl ?_
            rcases qite h with ⟨hc79, h⟩ | ⟨hc79, h⟩
            · refine QTri.brF Ad W (t := 222) (f := 180) (L := [none, some (.int x1), none, none, some (.int x4), none, some (.int r44.1), some (.int r45), some (.int r46), some (.int r57), some (.int r58), some (.int r59), some (.int r60), none, some (.int (if (x4 &&& (1 : Int32)) = (0 : Int32) then x2 else (0 : Int32))), some (.int (if (x4 &&& (2 : Int32)) = (0 : Int32) then x3 else (0 : Int32)))]) (S := []) (σ := (H0 r44.2)) rfl (XT.i0_ne_f hc79) ?_
              refine QTri.steps Ad W 1 (st' := (182, [none, some (.int x1), none, none, some (.int x4), none, some (.int r44.1), some (.int r45), some (.int r46), some (.int r57), some (.int r58), some (.int r59), some (.int r60), none, some (.int (if (x4 &&& (1 : Int32)) = (0 : Int32) then x2 else (0 : Int32))), some (.int (if (x4 &&& (2 : Int32)) = (0 : Int32) then x3 else (0 : Int32)))], [.int r45], (H0 r44.2))) rfl ?_
              rcases qite h with ⟨hc80, h⟩ | ⟨hc80, h⟩
              · refine QTri.brF Ad W (t := 222) (f := 185) (L := [none, some (.int x1), none, none, some (.int x4), none, some (.int r44.1), some (.int r45), some (.int r46), some (.int r57), some (.int r58), some (.int r59), some (.int r60), none, some (.int (if (x4 &&& (1 : Int32)) = (0 : Int32) then x2 else (0 : Int32))), some (.int (if (x4 &&& (2 : Int32)) = (0 : Int32) then x3 else (0 : Int32)))]) (S := []) (σ := (H0 r44.2)) rfl (XT.i0_ne_f hc80) ?_
                refine QTri.steps Ad W 2 (st' := (188, [none, some (.int x1), none, none, some (.int x4), none, some (.int r44.1), some (.int r45), some (.int r46), some (.int r57), some (.int r58), some (.int r59), some (.int r60), none, some (.int (if (x4 &&& (1 : Int32)) = (0 : Int32) then x2 else (0 : Int32))), some (.int (if (x4 &&& (2 : Int32)) = (0 : Int32) then x3 else (0 : Int32)))], [.int (1 : Int32), .int r46], (H0 r44.2))) rfl ?_
                rcases qite h with ⟨hc81, h⟩ | ⟨hc81, h⟩
                · refine QTri.brF Ad W (t := 222) (f := 191) (L := [none, some (.int x1), none, none, some (.int x4), none, some (.int r44.1), some (.int r45), some (.int r46), some (.int r57), some (.int r58), some (.int r59), some (.int r60), none, some (.int (if (x4 &&& (1 : Int32)) = (0 : Int32) then x2 else (0 : Int32))), some (.int (if (x4 &&& (2 : Int32)) = (0 : Int32) then x3 else (0 : Int32)))]) (S := []) (σ := (H0 r44.2)) rfl (XT.ii_ne_f hc81) ?_
                  refine QTri.steps Ad W 2 (st' := (194, [none, some (.int x1), none, none, some (.int x4), none, some (.int r44.1), some (.int r45), some (.int r46), some (.int r57), some (.int r58), some (.int r59), some (.int r60), none, some (.int (if (x4 &&& (1 : Int32)) = (0 : Int32) then x2 else (0 : Int32))), some (.int (if (x4 &&& (2 : Int32)) = (0 : Int32) then x3 else (0 : Int32)))], [.int x1, .int r57], (H0 r44.2))) rfl ?_
                  rcases qite h with ⟨hc82, h⟩ | ⟨hc82, h⟩
                  · refine QTri.brF Ad W (t := 222) (f := 197) (L := [none, some (.int x1), none, none, some (.int x4), none, some (.int r44.1), some (.int r45), some (.int r46), some (.int r57), some (.int r58), some (.int r59), some (.int r60), none, some (.int (if (x4 &&& (1 : Int32)) = (0 : Int32) then x2 else (0 : Int32))), some (.int (if (x4 &&& (2 : Int32)) = (0 : Int32) then x3 else (0 : Int32)))]) (S := []) (σ := (H0 r44.2)) rfl (XT.ii_ne_f hc82) ?_
                    refine QTri.steps Ad W 2 (st' := (201, [none, some (.int x1), none, none, some (.int x4), none, some (.int r44.1), some (.int r45), some (.int r46), some (.int r57), some (.int r58), some (.int r59), some (.int r60), none, some (.int (if (x4 &&& (1 : Int32)) = (0 : Int32) then x2 else (0 : Int32))), some (.int (if (x4 &&& (2 : Int32)) = (0 : Int32) then x3 else (0 : Int32)))], [.int (if (x4 &&& (1 : Int32)) = (0 : Int32) then x2 else (0 : Int32)), .int r58], (H0 r44.2))) rfl ?_
                    rcases qite h with ⟨hc83, h⟩ | ⟨hc83, h⟩
                    · refine QTri.brF Ad W (t := 222) (f := 204) (L := [none, some (.int x1), none, none, some (.int x4), none, some (.int r44.1), some (.int r45), some (.int r46), some (.int r57), some (.int r58), some (.int r59), some (.int r60), none, some (.int (if (x4 &&& (1 : Int32)) = (0 : Int32) then x2 else (0 : Int32))), some (.int (if (x4 &&& (2 : Int32)) = (0 : Int32) then x3 else (0 : Int32)))]) (S := []) (σ := (H0 r44.2)) rfl (XT.ii_ne_f hc83) ?_
                      refine QTri.steps Ad W 2 (st' := (208, [none, some (.int x1), none, none, some (.int x4), none, some (.int r44.1), some (.int r45), some (.int r46), some (.int r57), some (.int r58), some (.int r59), some (.int r60), none, some (.int (if (x4 &&& (1 : Int32)) = (0 : Int32) then x2 else (0 : Int32))), some (.int (if (x4 &&& (2 : Int32)) = (0 : Int32) then x3 else (0 : Int32)))], [.int (if (x4 &&& (2 : Int32)) = (0 : Int32) then x3 else (0 : Int32)), .int r59], (H0 r44.2))) rfl ?_
                      rcases qite h with ⟨hc84, h⟩ | ⟨hc84, h⟩
                      · refine QTri.brF Ad W (t := 222) (f := 211) (L := [none, some (.int x1), none, none, some (.int x4), none, some (.int r44.1), some (.int r45), some (.int r46), some (.int r57), some (.int r58), some (.int r59), some (.int r60), none, some (.int (if (x4 &&& (1 : Int32)) = (0 : Int32) then x2 else (0 : Int32))), some (.int (if (x4 &&& (2 : Int32)) = (0 : Int32) then x3 else (0 : Int32)))]) (S := []) (σ := (H0 r44.2)) rfl (XT.ii_ne_f hc84) ?_
                        refine QTri.steps Ad W 2 (st' := (215, [none, some (.int x1), none, none, some (.int x4), none, some (.int r44.1), some (.int r45), some (.int r46), some (.int r57), some (.int r58), some (.int r59), some (.int r60), none, some (.int (if (x4 &&& (1 : Int32)) = (0 : Int32) then x2 else (0 : Int32))), some (.int (if (x4 &&& (2 : Int32)) = (0 : Int32) then x3 else (0 : Int32)))], [.int x4, .int r60], (H0 r44.2))) rfl ?_
                        rcases qite h with ⟨hc85, h⟩ | ⟨hc85, h⟩
                        · refine QTri.brF Ad W (t := 222) (f := 218) (L := [none, some (.int x1), none, none, some (.int x4), none, some (.int r44.1), some (.int r45), some (.int r46), some (.int r57), some (.int r58), some (.int r59), some (.int r60), none, some (.int (if (x4 &&& (1 : Int32)) = (0 : Int32) then x2 else (0 : Int32))), some (.int (if (x4 &&& (2 : Int32)) = (0 : Int32) then x3 else (0 : Int32)))]) (S := []) (σ := (H0 r44.2)) rfl (XT.ii_ne_f hc85) ?_
                          refine QTri.steps Ad W 2 (st' := (223, [none, some (.int x1), none, none, some (.int x4), none, some (.int r44.1), some (.int r45), some (.int r46), some (.int r57), some (.int r58), some (.int r59), some (.int r60), none, some (.int (if (x4 &&& (1 : Int32)) = (0 : Int32) then x2 else (0 : Int32))), some (.int (if (x4 &&& (2 : Int32)) = (0 : Int32) then x3 else (0 : Int32)))], [.int (1 : Int32)], (H0 r44.2))) rfl ?_
                          obtain rfl := Option.some.inj h
                          exact QTri.retZ rfl rfl
                        · refine QTri.brT Ad W (t := 222) (f := 218) (L := [none, some (.int x1), none, none, some (.int x4), none, some (.int r44.1), some (.int r45), some (.int r46), some (.int r57), some (.int r58), some (.int r59), some (.int r60), none, some (.int (if (x4 &&& (1 : Int32)) = (0 : Int32) then x2 else (0 : Int32))), some (.int (if (x4 &&& (2 : Int32)) = (0 : Int32) then x3 else (0 : Int32)))]) (S := []) (σ := (H0 r44.2)) rfl (XT.ii_ne_t hc85) ?_
                          refine QTri.steps Ad W 1 (st' := (223, [none, some (.int x1), none, none, some (.int x4), none, some (.int r44.1), some (.int r45), some (.int r46), some (.int r57), some (.int r58), some (.int r59), some (.int r60), none, some (.int (if (x4 &&& (1 : Int32)) = (0 : Int32) then x2 else (0 : Int32))), some (.int (if (x4 &&& (2 : Int32)) = (0 : Int32) then x3 else (0 : Int32)))], [.int (0 : Int32)], (H0 r44.2))) rfl ?_
                          obtain rfl := Option.some.inj h
                          exact QTri.retZ rfl rfl
                      · refine QTri.brT Ad W (t := 222) (f := 211) (L := [none, some (.int x1), none, none, some (.int x4), none, some (.int r44.1), some (.int r45), some (.int r46), some (.int r57), some (.int r58), some (.int r59), some (.int r60), none, some (.int (if (x4 &&& (1 : Int32)) = (0 : Int32) then x2 else (0 : Int32))), some (.int (if (x4 &&& (2 : Int32)) = (0 : Int32) then x3 else (0 : Int32)))]) (S := []) (σ := (H0 r44.2)) rfl (XT.ii_ne_t hc84) ?_
                        refine QTri.steps Ad W 1 (st' := (223, [none, some (.int x1), none, none, some (.int x4), none, some (.int r44.1), some (.int r45), some (.int r46), some (.int r57), some (.int r58), some (.int r59), some (.int r60), none, some (.int (if (x4 &&& (1 : Int32)) = (0 : Int32) then x2 else (0 : Int32))), some (.int (if (x4 &&& (2 : Int32)) = (0 : Int32) then x3 else (0 : Int32)))], [.int (0 : Int32)], (H0 r44.2))) rfl ?_
                        obtain rfl := Option.some.inj h
                        exact QTri.retZ rfl rfl
                    · refine QTri.brT Ad W (t := 222) (f := 204) (L := [none, some (.int x1), none, none, some (.int x4), none, some (.int r44.1), some (.int r45), some (.int r46), some (.int r57), some (.int r58), some (.int r59), some (.int r60), none, some (.int (if (x4 &&& (1 : Int32)) = (0 : Int32) then x2 else (0 : Int32))), some (.int (if (x4 &&& (2 : Int32)) = (0 : Int32) then x3 else (0 : Int32)))]) (S := []) (σ := (H0 r44.2)) rfl (XT.ii_ne_t hc83) ?_
                      refine QTri.steps Ad W 1 (st' := (223, [none, some (.int x1), none, none, some (.int x4), none, some (.int r44.1), some (.int r45), some (.int r46), some (.int r57), some (.int r58), some (.int r59), some (.int r60), none, some (.int (if (x4 &&& (1 : Int32)) = (0 : Int32) then x2 else (0 : Int32))), some (.int (if (x4 &&& (2 : Int32)) = (0 : Int32) then x3 else (0 : Int32)))], [.int (0 : Int32)], (H0 r44.2))) rfl ?_
                      obtain rfl := Option.some.inj h
                      exact QTri.retZ rfl rfl
                  · refine QTri.brT Ad W (t := 222) (f := 197) (L := [none, some (.int x1), none, none, some (.int x4), none, some (.int r44.1), some (.int r45), some (.int r46), some (.int r57), some (.int r58), some (.int r59), some (.int r60), none, some (.int (if (x4 &&& (1 : Int32)) = (0 : Int32) then x2 else (0 : Int32))), some (.int (if (x4 &&& (2 : Int32)) = (0 : Int32) then x3 else (0 : Int32)))]) (S := []) (σ := (H0 r44.2)) rfl (XT.ii_ne_t hc82) ?_
                    refine QTri.steps Ad W 1 (st' := (223, [none, some (.int x1), none, none, some (.int x4), none, some (.int r44.1), some (.int r45), some (.int r46), some (.int r57), some (.int r58), some (.int r59), some (.int r60), none, some (.int (if (x4 &&& (1 : Int32)) = (0 : Int32) then x2 else (0 : Int32))), some (.int (if (x4 &&& (2 : Int32)) = (0 : Int32) then x3 else (0 : Int32)))], [.int (0 : Int32)], (H0 r44.2))) rfl ?_
                    obtain rfl := Option.some.inj h
                    exact QTri.retZ rfl rfl
                · refine QTri.brT Ad W (t := 222) (f := 191) (L := [none, some (.int x1), none, none, some (.int x4), none, some (.int r44.1), some (.int r45), some (.int r46), some (.int r57), some (.int r58), some (.int r59), some (.int r60), none, some (.int (if (x4 &&& (1 : Int32)) = (0 : Int32) then x2 else (0 : Int32))), some (.int (if (x4 &&& (2 : Int32)) = (0 : Int32) then x3 else (0 : Int32)))]) (S := []) (σ := (H0 r44.2)) rfl (XT.ii_ne_t hc81) ?_
                  refine QTri.steps Ad W 1 (st' := (223, [none, some (.int x1), none, none, some (.int x4), none, some (.int r44.1), some (.int r45), some (.int r46), some (.int r57), some (.int r58), some (.int r59), some (.int r60), none, some (.int (if (x4 &&& (1 : Int32)) = (0 : Int32) then x2 else (0 : Int32))), some (.int (if (x4 &&& (2 : Int32)) = (0 : Int32) then x3 else (0 : Int32)))], [.int (0 : Int32)], (H0 r44.2))) rfl ?_
                  obtain rfl := Option.some.inj h
                  exact QTri.retZ rfl rfl
              · refine QTri.brT Ad W (t := 222) (f := 185) (L := [none, some (.int x1), none, none, some (.int x4), none, some (.int r44.1), some (.int r45), some (.int r46), some (.int r57), some (.int r58), some (.int r59), some (.int r60), none, some (.int (if (x4 &&& (1 : Int32)) = (0 : Int32) then x2 else (0 : Int32))), some (.int (if (x4 &&& (2 : Int32)) = (0 : Int32) then x3 else (0 : Int32)))]) (S := []) (σ := (H0 r44.2)) rfl (XT.i0_ne_t hc80) ?_
                refine QTri.steps Ad W 1 (st' := (223, [none, some (.int x1), none, none, some (.int x4), none, some (.int r44.1), some (.int r45), some (.int r46), some (.int r57), some (.int r58), some (.int r59), some (.int r60), none, some (.int (if (x4 &&& (1 : Int32)) = (0 : Int32) then x2 else (0 : Int32))), some (.int (if (x4 &&& (2 : Int32)) = (0 : Int32) then x3 else (0 : Int32)))], [.int (0 : Int32)], (H0 r44.2))) rfl ?_
                obtain rfl := Option.some.inj h
                exact QTri.retZ rfl rfl
            · refine QTri.brT Ad W (t := 222) (f := 180) (L := [none, some (.int x1), none, none, some (.int x4), none, some (.int r44.1), some (.int r45), some (.int r46), some (.int r57), some (.int r58), some (.int r59), some (.int r60), none, some (.int (if (x4 &&& (1 : Int32)) = (0 : Int32) then x2 else (0 : Int32))), some (.int (if (x4 &&& (2 : Int32)) = (0 : Int32) then x3 else (0 : Int32)))]) (S := []) (σ := (H0 r44.2)) rfl (XT.i0_ne_t hc79) ?_
              refine QTri.steps Ad W 1 (st' := (223, [none, some (.int x1), none, none, some (.int x4), none, some (.int r44.1), some (.int r45), some (.int r46), some (.int r57), some (.int r58), some (.int r59), some (.int r60), none, some (.int (if (x4 &&& (1 : Int32)) = (0 : Int32) then x2 else (0 : Int32))), some (.int (if (x4 &&& (2 : Int32)) = (0 : Int32) then x3 else (0 : Int32)))], [.int (0 : Int32)], (H0 r44.2))) rfl ?_
              obtain rfl := Option.some.inj h
              exact QTri.retZ rfl rfl
          rcases Classical.em ((x4 &&& (2 : Int32)) = (0 : Int32)) with hc78 | hc78
          · refine QTri.brT Ad W (t := 172) (f := 168) (L := [none, some (.int x1), none, some (.int x3), some (.int x4), none, some (.int r44.1), some (.int r45), some (.int r46), some (.int r57), some (.int r58), some (.int r59), some (.int r60), none, some (.int (if (x4 &&& (1 : Int32)) = (0 : Int32) then x2 else (0 : Int32))), none]) (S := []) (σ := (H0 r44.2)) rfl (XT.i0_eq_t hc78) ?_
            refine QTri.steps Ad W 1 (st' := (173, [none, some (.int x1), none, some (.int x3), some (.int x4), none, some (.int r44.1), some (.int r45), some (.int r46), some (.int r57), some (.int r58), some (.int r59), some (.int r60), none, some (.int (if (x4 &&& (1 : Int32)) = (0 : Int32) then x2 else (0 : Int32))), none], [.int x3], (H0 r44.2))) rfl ?_
            exact QTri.mask [false, true, false, false, true, false, true, true, true, true, true, true, true, false, true, false] (K77 _ (if_pos hc78).symm)
          · refine QTri.brF Ad W (t := 172) (f := 168) (L := [none, some (.int x1), none, some (.int x3), some (.int x4), none, some (.int r44.1), some (.int r45), some (.int r46), some (.int r57), some (.int r58), some (.int r59), some (.int r60), none, some (.int (if (x4 &&& (1 : Int32)) = (0 : Int32) then x2 else (0 : Int32))), none]) (S := []) (σ := (H0 r44.2)) rfl (XT.i0_eq_f hc78) ?_
            refine QTri.steps Ad W 2 (st' := (173, [none, some (.int x1), none, some (.int x3), some (.int x4), none, some (.int r44.1), some (.int r45), some (.int r46), some (.int r57), some (.int r58), some (.int r59), some (.int r60), none, some (.int (if (x4 &&& (1 : Int32)) = (0 : Int32) then x2 else (0 : Int32))), none], [.int (0 : Int32)], (H0 r44.2))) rfl ?_
            exact QTri.mask [false, true, false, false, true, false, true, true, true, true, true, true, true, false, true, false] (K77 _ (if_neg hc78).symm)
        rcases Classical.em ((x4 &&& (1 : Int32)) = (0 : Int32)) with hc75 | hc75
        · refine QTri.brT Ad W (t := 158) (f := 154) (L := [none, some (.int x1), some (.int x2), some (.int x3), some (.int x4), none, some (.int r44.1), some (.int r45), some (.int r46), some (.int r57), some (.int r58), some (.int r59), some (.int r60), some (.int (if x4 < (0 : Int32) then (0 : Int32) else (if (3 : Int32) < x4 then (0 : Int32) else (1 : Int32)))), none, none]) (S := []) (σ := (H0 r44.2)) rfl (XT.i0_eq_t hc75) ?_
          refine QTri.steps Ad W 1 (st' := (159, [none, some (.int x1), some (.int x2), some (.int x3), some (.int x4), none, some (.int r44.1), some (.int r45), some (.int r46), some (.int r57), some (.int r58), some (.int r59), some (.int r60), some (.int (if x4 < (0 : Int32) then (0 : Int32) else (if (3 : Int32) < x4 then (0 : Int32) else (1 : Int32)))), none, none], [.int x2], (H0 r44.2))) rfl ?_
          exact QTri.mask [false, true, false, true, true, false, true, true, true, true, true, true, true, false, false, false] (K74 _ (if_pos hc75).symm)
        · refine QTri.brF Ad W (t := 158) (f := 154) (L := [none, some (.int x1), some (.int x2), some (.int x3), some (.int x4), none, some (.int r44.1), some (.int r45), some (.int r46), some (.int r57), some (.int r58), some (.int r59), some (.int r60), some (.int (if x4 < (0 : Int32) then (0 : Int32) else (if (3 : Int32) < x4 then (0 : Int32) else (1 : Int32)))), none, none]) (S := []) (σ := (H0 r44.2)) rfl (XT.i0_eq_f hc75) ?_
          refine QTri.steps Ad W 2 (st' := (159, [none, some (.int x1), some (.int x2), some (.int x3), some (.int x4), none, some (.int r44.1), some (.int r45), some (.int r46), some (.int r57), some (.int r58), some (.int r59), some (.int r60), some (.int (if x4 < (0 : Int32) then (0 : Int32) else (if (3 : Int32) < x4 then (0 : Int32) else (1 : Int32)))), none, none], [.int (0 : Int32)], (H0 r44.2))) rfl ?_
          exact QTri.mask [false, true, false, true, true, false, true, true, true, true, true, true, true, false, false, false] (K74 _ (if_neg hc75).symm)
    rcases Classical.em (x4 < (0 : Int32)) with hc63 | hc63
    · refine QTri.brT Ad W (t := 97) (f := 87) (L := [some (.int x0), some (.int x1), some (.int x2), some (.int x3), some (.int x4), some (.ref 0), some (.int r44.1), some (.int r45), some (.int r46), some (.int r57), some (.int r58), some (.int r59), some (.int r60), none, none, none]) (S := []) (σ := (H0 r44.2)) rfl (XT.i0_lt_t hc63) ?_
      refine QTri.steps Ad W 1 (st' := (98, [some (.int x0), some (.int x1), some (.int x2), some (.int x3), some (.int x4), some (.ref 0), some (.int r44.1), some (.int r45), some (.int r46), some (.int r57), some (.int r58), some (.int r59), some (.int r60), none, none, none], [.int (0 : Int32)], (H0 r44.2))) rfl ?_
      exact QTri.mask [false, true, true, true, true, false, true, true, true, true, true, true, true, false, false, false] (K62 _ (if_pos hc63).symm)
    · refine QTri.brF Ad W (t := 97) (f := 87) (L := [some (.int x0), some (.int x1), some (.int x2), some (.int x3), some (.int x4), some (.ref 0), some (.int r44.1), some (.int r45), some (.int r46), some (.int r57), some (.int r58), some (.int r59), some (.int r60), none, none, none]) (S := []) (σ := (H0 r44.2)) rfl (XT.i0_lt_f hc63) ?_
      refine QTri.steps Ad W 2 (st' := (90, [some (.int x0), some (.int x1), some (.int x2), some (.int x3), some (.int x4), some (.ref 0), some (.int r44.1), some (.int r45), some (.int r46), some (.int r57), some (.int r58), some (.int r59), some (.int r60), none, none, none], [.int (3 : Int32), .int x4], (H0 r44.2))) rfl ?_
      rcases Classical.em ((3 : Int32) < x4) with hc64 | hc64
      · refine QTri.brT Ad W (t := 97) (f := 93) (L := [some (.int x0), some (.int x1), some (.int x2), some (.int x3), some (.int x4), some (.ref 0), some (.int r44.1), some (.int r45), some (.int r46), some (.int r57), some (.int r58), some (.int r59), some (.int r60), none, none, none]) (S := []) (σ := (H0 r44.2)) rfl (XT.ii_gt_t hc64) ?_
        refine QTri.steps Ad W 1 (st' := (98, [some (.int x0), some (.int x1), some (.int x2), some (.int x3), some (.int x4), some (.ref 0), some (.int r44.1), some (.int r45), some (.int r46), some (.int r57), some (.int r58), some (.int r59), some (.int r60), none, none, none], [.int (0 : Int32)], (H0 r44.2))) rfl ?_
        exact QTri.mask [false, true, true, true, true, false, true, true, true, true, true, true, true, false, false, false] (K62 _ ((if_neg hc63).trans (if_pos hc64)).symm)
      · refine QTri.brF Ad W (t := 97) (f := 93) (L := [some (.int x0), some (.int x1), some (.int x2), some (.int x3), some (.int x4), some (.ref 0), some (.int r44.1), some (.int r45), some (.int r46), some (.int r57), some (.int r58), some (.int r59), some (.int r60), none, none, none]) (S := []) (σ := (H0 r44.2)) rfl (XT.ii_gt_f hc64) ?_
        refine QTri.steps Ad W 2 (st' := (98, [some (.int x0), some (.int x1), some (.int x2), some (.int x3), some (.int x4), some (.ref 0), some (.int r44.1), some (.int r45), some (.int r46), some (.int r57), some (.int r58), some (.int r59), some (.int r60), none, none, none], [.int (1 : Int32)], (H0 r44.2))) rfl ?_
        exact QTri.mask [false, true, true, true, true, false, true, true, true, true, true, true, true, false, false, false] (K62 _ ((if_neg hc63).trans (if_neg hc64)).symm)
  · refine QTri.brF Ad W (t := 20) (f := 18) (L := [some (.int x0), some (.int x1), some (.int x2), some (.int x3), some (.int x4), some (.ref 0), none, none, none, none, none, none, none, none, none, none]) (S := []) (σ := (H0 r28.2)) rfl (XT.i0_eq_f hc29) ?_
    refine QTri.steps Ad W 1 (st' := (19, [some (.int x0), some (.int x1), some (.int x2), some (.int x3), some (.int x4), some (.ref 0), none, none, none, none, none, none, none, none, none, none], [.int (0 : Int32)], (H0 r28.2))) rfl ?_
    obtain rfl := Option.some.inj h
    exact QTri.retZ rfl rfl
end Walks
theorem gs_part (o : Ob) (v : List Int32) : f_part (s_part o v) = v ∧ f_keys (s_part o v) = f_keys o ∧ f_vals (s_part o v) = f_vals o ∧ f_flg (s_part o v) = f_flg o ∧ f_res (s_part o v) = f_res o ∧ f_resNull (s_part o v) = f_resNull o ∧ f_frameCnt (s_part o v) = f_frameCnt o ∧ f_sorted (s_part o v) = f_sorted o ∧ f_cap (s_part o v) = f_cap o ∧ f_rows (s_part o v) = f_rows o ∧ f_direction (s_part o v) = f_direction o ∧ f_nulls (s_part o v) = f_nulls o ∧ f_mode (s_part o v) = f_mode o ∧ f_startKind (s_part o v) = f_startKind o ∧ f_startOff (s_part o v) = f_startOff o ∧ f_endKind (s_part o v) = f_endKind o ∧ f_endOff (s_part o v) = f_endOff o ∧ f_fn (s_part o v) = f_fn o ∧ f_fnArg (s_part o v) = f_fnArg o ∧ f_computed (s_part o v) = f_computed o := ⟨rfl, rfl, rfl, rfl, rfl, rfl, rfl, rfl, rfl, rfl, rfl, rfl, rfl, rfl, rfl, rfl, rfl, rfl, rfl, rfl⟩
theorem gs_keys (o : Ob) (v : List Int32) : f_part (s_keys o v) = f_part o ∧ f_keys (s_keys o v) = v ∧ f_vals (s_keys o v) = f_vals o ∧ f_flg (s_keys o v) = f_flg o ∧ f_res (s_keys o v) = f_res o ∧ f_resNull (s_keys o v) = f_resNull o ∧ f_frameCnt (s_keys o v) = f_frameCnt o ∧ f_sorted (s_keys o v) = f_sorted o ∧ f_cap (s_keys o v) = f_cap o ∧ f_rows (s_keys o v) = f_rows o ∧ f_direction (s_keys o v) = f_direction o ∧ f_nulls (s_keys o v) = f_nulls o ∧ f_mode (s_keys o v) = f_mode o ∧ f_startKind (s_keys o v) = f_startKind o ∧ f_startOff (s_keys o v) = f_startOff o ∧ f_endKind (s_keys o v) = f_endKind o ∧ f_endOff (s_keys o v) = f_endOff o ∧ f_fn (s_keys o v) = f_fn o ∧ f_fnArg (s_keys o v) = f_fnArg o ∧ f_computed (s_keys o v) = f_computed o := ⟨rfl, rfl, rfl, rfl, rfl, rfl, rfl, rfl, rfl, rfl, rfl, rfl, rfl, rfl, rfl, rfl, rfl, rfl, rfl, rfl⟩
theorem gs_vals (o : Ob) (v : List Int32) : f_part (s_vals o v) = f_part o ∧ f_keys (s_vals o v) = f_keys o ∧ f_vals (s_vals o v) = v ∧ f_flg (s_vals o v) = f_flg o ∧ f_res (s_vals o v) = f_res o ∧ f_resNull (s_vals o v) = f_resNull o ∧ f_frameCnt (s_vals o v) = f_frameCnt o ∧ f_sorted (s_vals o v) = f_sorted o ∧ f_cap (s_vals o v) = f_cap o ∧ f_rows (s_vals o v) = f_rows o ∧ f_direction (s_vals o v) = f_direction o ∧ f_nulls (s_vals o v) = f_nulls o ∧ f_mode (s_vals o v) = f_mode o ∧ f_startKind (s_vals o v) = f_startKind o ∧ f_startOff (s_vals o v) = f_startOff o ∧ f_endKind (s_vals o v) = f_endKind o ∧ f_endOff (s_vals o v) = f_endOff o ∧ f_fn (s_vals o v) = f_fn o ∧ f_fnArg (s_vals o v) = f_fnArg o ∧ f_computed (s_vals o v) = f_computed o := ⟨rfl, rfl, rfl, rfl, rfl, rfl, rfl, rfl, rfl, rfl, rfl, rfl, rfl, rfl, rfl, rfl, rfl, rfl, rfl, rfl⟩
theorem gs_flg (o : Ob) (v : List Int32) : f_part (s_flg o v) = f_part o ∧ f_keys (s_flg o v) = f_keys o ∧ f_vals (s_flg o v) = f_vals o ∧ f_flg (s_flg o v) = v ∧ f_res (s_flg o v) = f_res o ∧ f_resNull (s_flg o v) = f_resNull o ∧ f_frameCnt (s_flg o v) = f_frameCnt o ∧ f_sorted (s_flg o v) = f_sorted o ∧ f_cap (s_flg o v) = f_cap o ∧ f_rows (s_flg o v) = f_rows o ∧ f_direction (s_flg o v) = f_direction o ∧ f_nulls (s_flg o v) = f_nulls o ∧ f_mode (s_flg o v) = f_mode o ∧ f_startKind (s_flg o v) = f_startKind o ∧ f_startOff (s_flg o v) = f_startOff o ∧ f_endKind (s_flg o v) = f_endKind o ∧ f_endOff (s_flg o v) = f_endOff o ∧ f_fn (s_flg o v) = f_fn o ∧ f_fnArg (s_flg o v) = f_fnArg o ∧ f_computed (s_flg o v) = f_computed o := ⟨rfl, rfl, rfl, rfl, rfl, rfl, rfl, rfl, rfl, rfl, rfl, rfl, rfl, rfl, rfl, rfl, rfl, rfl, rfl, rfl⟩
theorem gs_res (o : Ob) (v : List Int64) : f_part (s_res o v) = f_part o ∧ f_keys (s_res o v) = f_keys o ∧ f_vals (s_res o v) = f_vals o ∧ f_flg (s_res o v) = f_flg o ∧ f_res (s_res o v) = v ∧ f_resNull (s_res o v) = f_resNull o ∧ f_frameCnt (s_res o v) = f_frameCnt o ∧ f_sorted (s_res o v) = f_sorted o ∧ f_cap (s_res o v) = f_cap o ∧ f_rows (s_res o v) = f_rows o ∧ f_direction (s_res o v) = f_direction o ∧ f_nulls (s_res o v) = f_nulls o ∧ f_mode (s_res o v) = f_mode o ∧ f_startKind (s_res o v) = f_startKind o ∧ f_startOff (s_res o v) = f_startOff o ∧ f_endKind (s_res o v) = f_endKind o ∧ f_endOff (s_res o v) = f_endOff o ∧ f_fn (s_res o v) = f_fn o ∧ f_fnArg (s_res o v) = f_fnArg o ∧ f_computed (s_res o v) = f_computed o := ⟨rfl, rfl, rfl, rfl, rfl, rfl, rfl, rfl, rfl, rfl, rfl, rfl, rfl, rfl, rfl, rfl, rfl, rfl, rfl, rfl⟩
theorem gs_resNull (o : Ob) (v : List Int32) : f_part (s_resNull o v) = f_part o ∧ f_keys (s_resNull o v) = f_keys o ∧ f_vals (s_resNull o v) = f_vals o ∧ f_flg (s_resNull o v) = f_flg o ∧ f_res (s_resNull o v) = f_res o ∧ f_resNull (s_resNull o v) = v ∧ f_frameCnt (s_resNull o v) = f_frameCnt o ∧ f_sorted (s_resNull o v) = f_sorted o ∧ f_cap (s_resNull o v) = f_cap o ∧ f_rows (s_resNull o v) = f_rows o ∧ f_direction (s_resNull o v) = f_direction o ∧ f_nulls (s_resNull o v) = f_nulls o ∧ f_mode (s_resNull o v) = f_mode o ∧ f_startKind (s_resNull o v) = f_startKind o ∧ f_startOff (s_resNull o v) = f_startOff o ∧ f_endKind (s_resNull o v) = f_endKind o ∧ f_endOff (s_resNull o v) = f_endOff o ∧ f_fn (s_resNull o v) = f_fn o ∧ f_fnArg (s_resNull o v) = f_fnArg o ∧ f_computed (s_resNull o v) = f_computed o := ⟨rfl, rfl, rfl, rfl, rfl, rfl, rfl, rfl, rfl, rfl, rfl, rfl, rfl, rfl, rfl, rfl, rfl, rfl, rfl, rfl⟩
theorem gs_frameCnt (o : Ob) (v : List Int32) : f_part (s_frameCnt o v) = f_part o ∧ f_keys (s_frameCnt o v) = f_keys o ∧ f_vals (s_frameCnt o v) = f_vals o ∧ f_flg (s_frameCnt o v) = f_flg o ∧ f_res (s_frameCnt o v) = f_res o ∧ f_resNull (s_frameCnt o v) = f_resNull o ∧ f_frameCnt (s_frameCnt o v) = v ∧ f_sorted (s_frameCnt o v) = f_sorted o ∧ f_cap (s_frameCnt o v) = f_cap o ∧ f_rows (s_frameCnt o v) = f_rows o ∧ f_direction (s_frameCnt o v) = f_direction o ∧ f_nulls (s_frameCnt o v) = f_nulls o ∧ f_mode (s_frameCnt o v) = f_mode o ∧ f_startKind (s_frameCnt o v) = f_startKind o ∧ f_startOff (s_frameCnt o v) = f_startOff o ∧ f_endKind (s_frameCnt o v) = f_endKind o ∧ f_endOff (s_frameCnt o v) = f_endOff o ∧ f_fn (s_frameCnt o v) = f_fn o ∧ f_fnArg (s_frameCnt o v) = f_fnArg o ∧ f_computed (s_frameCnt o v) = f_computed o := ⟨rfl, rfl, rfl, rfl, rfl, rfl, rfl, rfl, rfl, rfl, rfl, rfl, rfl, rfl, rfl, rfl, rfl, rfl, rfl, rfl⟩
theorem gs_sorted (o : Ob) (v : List Int32) : f_part (s_sorted o v) = f_part o ∧ f_keys (s_sorted o v) = f_keys o ∧ f_vals (s_sorted o v) = f_vals o ∧ f_flg (s_sorted o v) = f_flg o ∧ f_res (s_sorted o v) = f_res o ∧ f_resNull (s_sorted o v) = f_resNull o ∧ f_frameCnt (s_sorted o v) = f_frameCnt o ∧ f_sorted (s_sorted o v) = v ∧ f_cap (s_sorted o v) = f_cap o ∧ f_rows (s_sorted o v) = f_rows o ∧ f_direction (s_sorted o v) = f_direction o ∧ f_nulls (s_sorted o v) = f_nulls o ∧ f_mode (s_sorted o v) = f_mode o ∧ f_startKind (s_sorted o v) = f_startKind o ∧ f_startOff (s_sorted o v) = f_startOff o ∧ f_endKind (s_sorted o v) = f_endKind o ∧ f_endOff (s_sorted o v) = f_endOff o ∧ f_fn (s_sorted o v) = f_fn o ∧ f_fnArg (s_sorted o v) = f_fnArg o ∧ f_computed (s_sorted o v) = f_computed o := ⟨rfl, rfl, rfl, rfl, rfl, rfl, rfl, rfl, rfl, rfl, rfl, rfl, rfl, rfl, rfl, rfl, rfl, rfl, rfl, rfl⟩
theorem gs_cap (o : Ob) (v : Int32) : f_part (s_cap o v) = f_part o ∧ f_keys (s_cap o v) = f_keys o ∧ f_vals (s_cap o v) = f_vals o ∧ f_flg (s_cap o v) = f_flg o ∧ f_res (s_cap o v) = f_res o ∧ f_resNull (s_cap o v) = f_resNull o ∧ f_frameCnt (s_cap o v) = f_frameCnt o ∧ f_sorted (s_cap o v) = f_sorted o ∧ f_cap (s_cap o v) = v ∧ f_rows (s_cap o v) = f_rows o ∧ f_direction (s_cap o v) = f_direction o ∧ f_nulls (s_cap o v) = f_nulls o ∧ f_mode (s_cap o v) = f_mode o ∧ f_startKind (s_cap o v) = f_startKind o ∧ f_startOff (s_cap o v) = f_startOff o ∧ f_endKind (s_cap o v) = f_endKind o ∧ f_endOff (s_cap o v) = f_endOff o ∧ f_fn (s_cap o v) = f_fn o ∧ f_fnArg (s_cap o v) = f_fnArg o ∧ f_computed (s_cap o v) = f_computed o := ⟨rfl, rfl, rfl, rfl, rfl, rfl, rfl, rfl, rfl, rfl, rfl, rfl, rfl, rfl, rfl, rfl, rfl, rfl, rfl, rfl⟩
theorem gs_rows (o : Ob) (v : Int32) : f_part (s_rows o v) = f_part o ∧ f_keys (s_rows o v) = f_keys o ∧ f_vals (s_rows o v) = f_vals o ∧ f_flg (s_rows o v) = f_flg o ∧ f_res (s_rows o v) = f_res o ∧ f_resNull (s_rows o v) = f_resNull o ∧ f_frameCnt (s_rows o v) = f_frameCnt o ∧ f_sorted (s_rows o v) = f_sorted o ∧ f_cap (s_rows o v) = f_cap o ∧ f_rows (s_rows o v) = v ∧ f_direction (s_rows o v) = f_direction o ∧ f_nulls (s_rows o v) = f_nulls o ∧ f_mode (s_rows o v) = f_mode o ∧ f_startKind (s_rows o v) = f_startKind o ∧ f_startOff (s_rows o v) = f_startOff o ∧ f_endKind (s_rows o v) = f_endKind o ∧ f_endOff (s_rows o v) = f_endOff o ∧ f_fn (s_rows o v) = f_fn o ∧ f_fnArg (s_rows o v) = f_fnArg o ∧ f_computed (s_rows o v) = f_computed o := ⟨rfl, rfl, rfl, rfl, rfl, rfl, rfl, rfl, rfl, rfl, rfl, rfl, rfl, rfl, rfl, rfl, rfl, rfl, rfl, rfl⟩
theorem gs_direction (o : Ob) (v : Int32) : f_part (s_direction o v) = f_part o ∧ f_keys (s_direction o v) = f_keys o ∧ f_vals (s_direction o v) = f_vals o ∧ f_flg (s_direction o v) = f_flg o ∧ f_res (s_direction o v) = f_res o ∧ f_resNull (s_direction o v) = f_resNull o ∧ f_frameCnt (s_direction o v) = f_frameCnt o ∧ f_sorted (s_direction o v) = f_sorted o ∧ f_cap (s_direction o v) = f_cap o ∧ f_rows (s_direction o v) = f_rows o ∧ f_direction (s_direction o v) = v ∧ f_nulls (s_direction o v) = f_nulls o ∧ f_mode (s_direction o v) = f_mode o ∧ f_startKind (s_direction o v) = f_startKind o ∧ f_startOff (s_direction o v) = f_startOff o ∧ f_endKind (s_direction o v) = f_endKind o ∧ f_endOff (s_direction o v) = f_endOff o ∧ f_fn (s_direction o v) = f_fn o ∧ f_fnArg (s_direction o v) = f_fnArg o ∧ f_computed (s_direction o v) = f_computed o := ⟨rfl, rfl, rfl, rfl, rfl, rfl, rfl, rfl, rfl, rfl, rfl, rfl, rfl, rfl, rfl, rfl, rfl, rfl, rfl, rfl⟩
theorem gs_nulls (o : Ob) (v : Int32) : f_part (s_nulls o v) = f_part o ∧ f_keys (s_nulls o v) = f_keys o ∧ f_vals (s_nulls o v) = f_vals o ∧ f_flg (s_nulls o v) = f_flg o ∧ f_res (s_nulls o v) = f_res o ∧ f_resNull (s_nulls o v) = f_resNull o ∧ f_frameCnt (s_nulls o v) = f_frameCnt o ∧ f_sorted (s_nulls o v) = f_sorted o ∧ f_cap (s_nulls o v) = f_cap o ∧ f_rows (s_nulls o v) = f_rows o ∧ f_direction (s_nulls o v) = f_direction o ∧ f_nulls (s_nulls o v) = v ∧ f_mode (s_nulls o v) = f_mode o ∧ f_startKind (s_nulls o v) = f_startKind o ∧ f_startOff (s_nulls o v) = f_startOff o ∧ f_endKind (s_nulls o v) = f_endKind o ∧ f_endOff (s_nulls o v) = f_endOff o ∧ f_fn (s_nulls o v) = f_fn o ∧ f_fnArg (s_nulls o v) = f_fnArg o ∧ f_computed (s_nulls o v) = f_computed o := ⟨rfl, rfl, rfl, rfl, rfl, rfl, rfl, rfl, rfl, rfl, rfl, rfl, rfl, rfl, rfl, rfl, rfl, rfl, rfl, rfl⟩
theorem gs_mode (o : Ob) (v : Int32) : f_part (s_mode o v) = f_part o ∧ f_keys (s_mode o v) = f_keys o ∧ f_vals (s_mode o v) = f_vals o ∧ f_flg (s_mode o v) = f_flg o ∧ f_res (s_mode o v) = f_res o ∧ f_resNull (s_mode o v) = f_resNull o ∧ f_frameCnt (s_mode o v) = f_frameCnt o ∧ f_sorted (s_mode o v) = f_sorted o ∧ f_cap (s_mode o v) = f_cap o ∧ f_rows (s_mode o v) = f_rows o ∧ f_direction (s_mode o v) = f_direction o ∧ f_nulls (s_mode o v) = f_nulls o ∧ f_mode (s_mode o v) = v ∧ f_startKind (s_mode o v) = f_startKind o ∧ f_startOff (s_mode o v) = f_startOff o ∧ f_endKind (s_mode o v) = f_endKind o ∧ f_endOff (s_mode o v) = f_endOff o ∧ f_fn (s_mode o v) = f_fn o ∧ f_fnArg (s_mode o v) = f_fnArg o ∧ f_computed (s_mode o v) = f_computed o := ⟨rfl, rfl, rfl, rfl, rfl, rfl, rfl, rfl, rfl, rfl, rfl, rfl, rfl, rfl, rfl, rfl, rfl, rfl, rfl, rfl⟩
theorem gs_startKind (o : Ob) (v : Int32) : f_part (s_startKind o v) = f_part o ∧ f_keys (s_startKind o v) = f_keys o ∧ f_vals (s_startKind o v) = f_vals o ∧ f_flg (s_startKind o v) = f_flg o ∧ f_res (s_startKind o v) = f_res o ∧ f_resNull (s_startKind o v) = f_resNull o ∧ f_frameCnt (s_startKind o v) = f_frameCnt o ∧ f_sorted (s_startKind o v) = f_sorted o ∧ f_cap (s_startKind o v) = f_cap o ∧ f_rows (s_startKind o v) = f_rows o ∧ f_direction (s_startKind o v) = f_direction o ∧ f_nulls (s_startKind o v) = f_nulls o ∧ f_mode (s_startKind o v) = f_mode o ∧ f_startKind (s_startKind o v) = v ∧ f_startOff (s_startKind o v) = f_startOff o ∧ f_endKind (s_startKind o v) = f_endKind o ∧ f_endOff (s_startKind o v) = f_endOff o ∧ f_fn (s_startKind o v) = f_fn o ∧ f_fnArg (s_startKind o v) = f_fnArg o ∧ f_computed (s_startKind o v) = f_computed o := ⟨rfl, rfl, rfl, rfl, rfl, rfl, rfl, rfl, rfl, rfl, rfl, rfl, rfl, rfl, rfl, rfl, rfl, rfl, rfl, rfl⟩
theorem gs_startOff (o : Ob) (v : Int32) : f_part (s_startOff o v) = f_part o ∧ f_keys (s_startOff o v) = f_keys o ∧ f_vals (s_startOff o v) = f_vals o ∧ f_flg (s_startOff o v) = f_flg o ∧ f_res (s_startOff o v) = f_res o ∧ f_resNull (s_startOff o v) = f_resNull o ∧ f_frameCnt (s_startOff o v) = f_frameCnt o ∧ f_sorted (s_startOff o v) = f_sorted o ∧ f_cap (s_startOff o v) = f_cap o ∧ f_rows (s_startOff o v) = f_rows o ∧ f_direction (s_startOff o v) = f_direction o ∧ f_nulls (s_startOff o v) = f_nulls o ∧ f_mode (s_startOff o v) = f_mode o ∧ f_startKind (s_startOff o v) = f_startKind o ∧ f_startOff (s_startOff o v) = v ∧ f_endKind (s_startOff o v) = f_endKind o ∧ f_endOff (s_startOff o v) = f_endOff o ∧ f_fn (s_startOff o v) = f_fn o ∧ f_fnArg (s_startOff o v) = f_fnArg o ∧ f_computed (s_startOff o v) = f_computed o := ⟨rfl, rfl, rfl, rfl, rfl, rfl, rfl, rfl, rfl, rfl, rfl, rfl, rfl, rfl, rfl, rfl, rfl, rfl, rfl, rfl⟩
theorem gs_endKind (o : Ob) (v : Int32) : f_part (s_endKind o v) = f_part o ∧ f_keys (s_endKind o v) = f_keys o ∧ f_vals (s_endKind o v) = f_vals o ∧ f_flg (s_endKind o v) = f_flg o ∧ f_res (s_endKind o v) = f_res o ∧ f_resNull (s_endKind o v) = f_resNull o ∧ f_frameCnt (s_endKind o v) = f_frameCnt o ∧ f_sorted (s_endKind o v) = f_sorted o ∧ f_cap (s_endKind o v) = f_cap o ∧ f_rows (s_endKind o v) = f_rows o ∧ f_direction (s_endKind o v) = f_direction o ∧ f_nulls (s_endKind o v) = f_nulls o ∧ f_mode (s_endKind o v) = f_mode o ∧ f_startKind (s_endKind o v) = f_startKind o ∧ f_startOff (s_endKind o v) = f_startOff o ∧ f_endKind (s_endKind o v) = v ∧ f_endOff (s_endKind o v) = f_endOff o ∧ f_fn (s_endKind o v) = f_fn o ∧ f_fnArg (s_endKind o v) = f_fnArg o ∧ f_computed (s_endKind o v) = f_computed o := ⟨rfl, rfl, rfl, rfl, rfl, rfl, rfl, rfl, rfl, rfl, rfl, rfl, rfl, rfl, rfl, rfl, rfl, rfl, rfl, rfl⟩
theorem gs_endOff (o : Ob) (v : Int32) : f_part (s_endOff o v) = f_part o ∧ f_keys (s_endOff o v) = f_keys o ∧ f_vals (s_endOff o v) = f_vals o ∧ f_flg (s_endOff o v) = f_flg o ∧ f_res (s_endOff o v) = f_res o ∧ f_resNull (s_endOff o v) = f_resNull o ∧ f_frameCnt (s_endOff o v) = f_frameCnt o ∧ f_sorted (s_endOff o v) = f_sorted o ∧ f_cap (s_endOff o v) = f_cap o ∧ f_rows (s_endOff o v) = f_rows o ∧ f_direction (s_endOff o v) = f_direction o ∧ f_nulls (s_endOff o v) = f_nulls o ∧ f_mode (s_endOff o v) = f_mode o ∧ f_startKind (s_endOff o v) = f_startKind o ∧ f_startOff (s_endOff o v) = f_startOff o ∧ f_endKind (s_endOff o v) = f_endKind o ∧ f_endOff (s_endOff o v) = v ∧ f_fn (s_endOff o v) = f_fn o ∧ f_fnArg (s_endOff o v) = f_fnArg o ∧ f_computed (s_endOff o v) = f_computed o := ⟨rfl, rfl, rfl, rfl, rfl, rfl, rfl, rfl, rfl, rfl, rfl, rfl, rfl, rfl, rfl, rfl, rfl, rfl, rfl, rfl⟩
theorem gs_fn (o : Ob) (v : Int32) : f_part (s_fn o v) = f_part o ∧ f_keys (s_fn o v) = f_keys o ∧ f_vals (s_fn o v) = f_vals o ∧ f_flg (s_fn o v) = f_flg o ∧ f_res (s_fn o v) = f_res o ∧ f_resNull (s_fn o v) = f_resNull o ∧ f_frameCnt (s_fn o v) = f_frameCnt o ∧ f_sorted (s_fn o v) = f_sorted o ∧ f_cap (s_fn o v) = f_cap o ∧ f_rows (s_fn o v) = f_rows o ∧ f_direction (s_fn o v) = f_direction o ∧ f_nulls (s_fn o v) = f_nulls o ∧ f_mode (s_fn o v) = f_mode o ∧ f_startKind (s_fn o v) = f_startKind o ∧ f_startOff (s_fn o v) = f_startOff o ∧ f_endKind (s_fn o v) = f_endKind o ∧ f_endOff (s_fn o v) = f_endOff o ∧ f_fn (s_fn o v) = v ∧ f_fnArg (s_fn o v) = f_fnArg o ∧ f_computed (s_fn o v) = f_computed o := ⟨rfl, rfl, rfl, rfl, rfl, rfl, rfl, rfl, rfl, rfl, rfl, rfl, rfl, rfl, rfl, rfl, rfl, rfl, rfl, rfl⟩
theorem gs_fnArg (o : Ob) (v : Int32) : f_part (s_fnArg o v) = f_part o ∧ f_keys (s_fnArg o v) = f_keys o ∧ f_vals (s_fnArg o v) = f_vals o ∧ f_flg (s_fnArg o v) = f_flg o ∧ f_res (s_fnArg o v) = f_res o ∧ f_resNull (s_fnArg o v) = f_resNull o ∧ f_frameCnt (s_fnArg o v) = f_frameCnt o ∧ f_sorted (s_fnArg o v) = f_sorted o ∧ f_cap (s_fnArg o v) = f_cap o ∧ f_rows (s_fnArg o v) = f_rows o ∧ f_direction (s_fnArg o v) = f_direction o ∧ f_nulls (s_fnArg o v) = f_nulls o ∧ f_mode (s_fnArg o v) = f_mode o ∧ f_startKind (s_fnArg o v) = f_startKind o ∧ f_startOff (s_fnArg o v) = f_startOff o ∧ f_endKind (s_fnArg o v) = f_endKind o ∧ f_endOff (s_fnArg o v) = f_endOff o ∧ f_fn (s_fnArg o v) = f_fn o ∧ f_fnArg (s_fnArg o v) = v ∧ f_computed (s_fnArg o v) = f_computed o := ⟨rfl, rfl, rfl, rfl, rfl, rfl, rfl, rfl, rfl, rfl, rfl, rfl, rfl, rfl, rfl, rfl, rfl, rfl, rfl, rfl⟩
theorem gs_computed (o : Ob) (v : Int32) : f_part (s_computed o v) = f_part o ∧ f_keys (s_computed o v) = f_keys o ∧ f_vals (s_computed o v) = f_vals o ∧ f_flg (s_computed o v) = f_flg o ∧ f_res (s_computed o v) = f_res o ∧ f_resNull (s_computed o v) = f_resNull o ∧ f_frameCnt (s_computed o v) = f_frameCnt o ∧ f_sorted (s_computed o v) = f_sorted o ∧ f_cap (s_computed o v) = f_cap o ∧ f_rows (s_computed o v) = f_rows o ∧ f_direction (s_computed o v) = f_direction o ∧ f_nulls (s_computed o v) = f_nulls o ∧ f_mode (s_computed o v) = f_mode o ∧ f_startKind (s_computed o v) = f_startKind o ∧ f_startOff (s_computed o v) = f_startOff o ∧ f_endKind (s_computed o v) = f_endKind o ∧ f_endOff (s_computed o v) = f_endOff o ∧ f_fn (s_computed o v) = f_fn o ∧ f_fnArg (s_computed o v) = f_fnArg o ∧ f_computed (s_computed o v) = v := ⟨rfl, rfl, rfl, rfl, rfl, rfl, rfl, rfl, rfl, rfl, rfl, rfl, rfl, rfl, rfl, rfl, rfl, rfl, rfl, rfl⟩
/-! ## ints, plainly -/
theorem i_lt {x y : Int32} : x < y ↔ x.toInt < y.toInt := Int32.lt_iff_toInt_lt
theorem i_eq {x y : Int32} : x = y ↔ x.toInt = y.toInt := Int32.toInt_inj.symm
theorem i_lo (x : Int32) : -2147483648 ≤ x.toInt := Int32.le_toInt x
theorem i_hi (x : Int32) : x.toInt < 2147483648 := Int32.toInt_lt x
theorem i_add {x y : Int32} (h1 : -2147483648 ≤ x.toInt + y.toInt) (h2 : x.toInt + y.toInt < 2147483648) : (x + y).toInt = x.toInt + y.toInt := XT.add32 ⟨h1, by omega⟩
theorem i_sub {x y : Int32} (h1 : -2147483648 ≤ x.toInt - y.toInt) (h2 : x.toInt - y.toInt < 2147483648) : (x - y).toInt = x.toInt - y.toInt := XT.sub32 ⟨h1, by omega⟩
theorem i_mul {x y : Int32} (h1 : -2147483648 ≤ x.toInt * y.toInt) (h2 : x.toInt * y.toInt < 2147483648) : (x * y).toInt = x.toInt * y.toInt := XT.mul32 ⟨h1, by omega⟩
theorem i_nat (x : Int32) : x.toNatClampNeg = x.toInt.toNat := rfl
theorem aget_at {α : Type} {xs : List α} {j : Int32} {n : Nat} (hj : j.toInt = n) (hn : n < xs.length) : aget xs j = some xs[n] := by
  have h0 : ¬ j < 0 := by rw [i_lt]; show ¬ j.toInt < 0; omega
  unfold aget
  rw [if_neg h0, i_nat, hj]
  simp [hn]
theorem aget_rep {α : Type} {m : Nat} {a : α} {j : Int32} (h0 : 0 ≤ j.toInt) (h1 : j.toInt < m) : aget (List.replicate m a) j = some a := by
  rw [aget_at (n := j.toInt.toNat) (by omega) (by rw [List.length_replicate]; omega)]
  simp
theorem aset_at {α : Type} {xs : List α} {j : Int32} {n : Nat} {v : α} (hj : j.toInt = n) (hn : n < xs.length) : aset xs j v = some (xs.set n v) := by
  have h0 : ¬ j < 0 := by rw [i_lt]; show ¬ j.toInt < 0; omega
  unfold aset
  have e : j.toNatClampNeg = n := by rw [i_nat, hj]; simp
  rw [if_neg h0, e, if_pos hn]
theorem rep_set {α : Type} (m k : Nat) (a : α) : (List.replicate m a).set k a = List.replicate m a := by
  apply List.ext_getElem (by simp)
  intro i h1 h2
  rw [List.getElem_set]
  split <;> simp
theorem small_cases {x : Int32} (h0 : 0 ≤ x.toInt) {n : Nat} (h1 : x.toInt < n) {P : Int32 → Prop} (h : ∀ m : Nat, m < n → P (Int32.ofInt m)) : P x := by
  have e : Int32.ofInt (x.toInt.toNat : Nat) = x := by
    rw [Int.toNat_of_nonneg h0, Int32.ofInt_toInt]
  rw [← e]
  exact h _ (by omega)
theorem bit_ne {x : Int32} (h0 : 0 ≤ x.toInt) (h1 : x.toInt < 32) : ¬ (((1 : Int32) <<< (x &&& 31)) &&& ((1 : Int32) <<< (x &&& 31))) = 0 :=
  small_cases (P := fun x => ¬ (((1 : Int32) <<< (x &&& 31)) &&& ((1 : Int32) <<< (x &&& 31))) = 0) h0 (n := 32) h1 (by decide)
set_option maxRecDepth 20000 in
theorem law_ok (x0 x1 x2 x3 x4 : Int32) : ∃ τ, F0 x0 x1 x2 x3 x4 = some (1, τ) ∧ τ.length - List.length ([] : QHeap) ≤ room_1.cells ∧ qhs τ - qhs [] ≤ room_1.slots := by
  have z0 : (0 : Int32).toInt = 0 := rfl
  obtain ⟨k, hk⟩ : ∃ k, k = (if (32 : Int32) < (if x0 < 8 then 8 else x0) then 32 else (if x0 < 8 then 8 else x0)) := ⟨_, rfl⟩
  have hk1 : (0 : Int32) < k := by
    rw [hk]
    by_cases a1 : x0 < 8
    · rw [if_pos a1, if_neg (by decide)]; decide
    · rw [if_neg a1]
      by_cases a2 : (32 : Int32) < x0
      · rw [if_pos a2]; decide
      · rw [if_neg a2]
        rw [i_lt] at a1 ⊢
        have e8 : (8 : Int32).toInt = 8 := rfl
        omega
  obtain ⟨o, ho, c1, c2, c3, c4, c5, a1, a2, a3, a4, a5, a6, a7, a8⟩ : ∃ o, F1 x0 = some o ∧ f_cap o = k ∧ f_rows o = 0 ∧ f_mode o = 1 ∧ f_direction o = 1 ∧ f_computed o = 0 ∧ f_part o = List.replicate 32 0 ∧ f_keys o = List.replicate 32 0 ∧ f_vals o = List.replicate 32 0 ∧ f_flg o = List.replicate 32 0 ∧ (f_res o).length = 32 ∧ (f_resNull o).length = 32 ∧ (f_frameCnt o).length = 32 ∧ (f_sorted o).length = 32 := by
    unfold F1
    rw [← hk]
    exact ⟨_, rfl, rfl, rfl, rfl, rfl, rfl, rfl, rfl, rfl, rfl, List.length_replicate, List.length_replicate, List.length_replicate, List.length_replicate⟩
  have h4 : F4 o = some 0 := by unfold F4; rw [c3, c4]; rfl
  obtain ⟨p, hp⟩ : ∃ p, p = s_computed o 1 := ⟨_, rfl⟩
  have h3 : F3 o = some (0, p) := by
    unfold F3
    rw [h4, c2, hp]
    rfl
  have d1 : f_cap p = k := by rw [hp]; exact c1
  have d2 : f_rows p = 0 := by rw [hp]; exact c2
  have d5 : f_computed p = 1 := by rw [hp]; rfl
  have b1 : f_part p = List.replicate 32 0 := by rw [hp]; exact a1
  have b2 : f_keys p = List.replicate 32 0 := by rw [hp]; exact a2
  have b3 : f_vals p = List.replicate 32 0 := by rw [hp]; exact a3
  have b4 : f_flg p = List.replicate 32 0 := by rw [hp]; exact a4
  have hsz : ∀ q, (f_part q).length = 32 → (f_keys q).length = 32 → (f_vals q).length = 32 → (f_flg q).length = 32 → (f_res q).length = 32 → (f_resNull q).length = 32 → (f_frameCnt q).length = 32 → (f_sorted q).length = 32 → (H0 q).length - List.length ([] : QHeap) ≤ room_1.cells ∧ qhs (H0 q) - qhs [] ≤ room_1.slots := by
    intro q e1 e2 e3 e4 e5 e6 e7 e8
    refine ⟨by show 9 - 0 ≤ 32; decide, ?_⟩
    show qhs (H0 q) - 0 ≤ 640
    simp only [H0, qhs, qsz, cN, e1, e2, e3, e4, e5, e6, e7, e8]
    decide
  have g6 : F6 p = some 1 := by unfold F6; rw [d5]; rfl
  have g7 : F7 p = some 0 := by unfold F7; rw [d2]
  have g8 : ∀ j, F8 p 0 j = some 0 := fun j => by unfold F8; rw [d2]; rfl
  have ne1 : ¬ ((1 : Int32) = 0) := by decide
  unfold F0
  rw [ho]
  simp only [Option.bind_some]
  rw [h3]
  simp only [Option.bind_some, if_true]
  by_cases hv : x4 < 0 ∨ 3 < x4
  · have hok : (if x4 < (0 : Int32) then (0 : Int32) else (if (3 : Int32) < x4 then (0 : Int32) else (1 : Int32))) = 0 := by
      rcases hv with h | h <;> simp [h]
    have g5 : F5 p x1 x2 x3 x4 = some (-1, p) := by
      unfold F5
      rcases hv with h | h <;> simp [h]
    rw [g5]
    simp only [Option.bind_some, g6, g7, g8, hok, if_true, ne1, if_false]
    exact ⟨_, rfl, hsz p (by rw [b1]; exact List.length_replicate) (by rw [b2]; exact List.length_replicate) (by rw [b3]; exact List.length_replicate) (by rw [b4]; exact List.length_replicate) (by rw [hp]; exact a5) (by rw [hp]; exact a6) (by rw [hp]; exact a7) (by rw [hp]; exact a8)⟩
  · simp only [not_or] at hv
    obtain ⟨v1, v2⟩ := hv
    have hok : (if x4 < (0 : Int32) then (0 : Int32) else (if (3 : Int32) < x4 then (0 : Int32) else (1 : Int32))) = 1 := by rw [if_neg v1, if_neg v2]
    have s0 : ∀ v : Int32, aset (List.replicate 32 0) 0 v = some ((List.replicate 32 0).set 0 v) := fun v => aset_at (n := 0) rfl (by rw [List.length_replicate]; decide)
    obtain ⟨u, hu⟩ : ∃ u, u = (if (x4 &&& 1) = 0 then x2 else 0) := ⟨_, rfl⟩
    obtain ⟨w, hw⟩ : ∃ w, w = (if (x4 &&& 2) = 0 then x3 else 0) := ⟨_, rfl⟩
    obtain ⟨q, hq⟩ : ∃ q, q = s_computed (s_rows (s_flg (s_vals (s_keys (s_part p ((List.replicate 32 0).set 0 x1)) ((List.replicate 32 0).set 0 u)) ((List.replicate 32 0).set 0 w)) ((List.replicate 32 0).set 0 x4)) 1) 0 := ⟨_, rfl⟩
    have g5 : F5 p x1 x2 x3 x4 = some (0, q) := by
      unfold F5
      rw [if_neg v1, if_neg v2, d1, d2, if_pos hk1, b1, b2, b3, b4, ← hu, ← hw, s0, s0, s0, s0, hq]
      rfl
    have r1 : f_rows q = 1 := by rw [hq]; rfl
    have g6' : F6 q = some 0 := by unfold F6; rw [show f_computed q = 0 by rw [hq]; rfl]; rfl
    have g7' : F7 q = some 1 := by unfold F7; rw [r1]
    have l1 : ¬ (0 : Int32) < 0 := by decide
    have l2 : (0 : Int32) < 1 := by decide
    have q0 : F8 q 0 0 = some x1 := by unfold F8; rw [r1, if_neg l1, if_pos l2, if_pos rfl, show f_part q = (List.replicate 32 0).set 0 x1 by rw [hq]; rfl]; rfl
    have q1 : F8 q 0 1 = some u := by unfold F8; rw [r1, if_neg l1, if_pos l2, if_neg (by decide), if_pos rfl, show f_keys q = (List.replicate 32 0).set 0 u by rw [hq]; rfl]; rfl
    have q2 : F8 q 0 2 = some w := by unfold F8; rw [r1, if_neg l1, if_pos l2, if_neg (by decide), if_neg (by decide), if_pos rfl, show f_vals q = (List.replicate 32 0).set 0 w by rw [hq]; rfl]; rfl
    have q3 : F8 q 0 3 = some x4 := by unfold F8; rw [r1, if_neg l1, if_pos l2, if_neg (by decide), if_neg (by decide), if_neg (by decide), if_pos rfl, show f_flg q = (List.replicate 32 0).set 0 x4 by rw [hq]; rfl]; rfl
    rw [g5]
    simp only [Option.bind_some, g6', g7', q0, q1, q2, q3, hok, if_true, ne1, if_false, ← hu, ← hw]
    refine ⟨_, rfl, hsz q ?_ ?_ ?_ ?_ ?_ ?_ ?_ ?_⟩
    · rw [hq]; show ((List.replicate 32 (0 : Int32)).set 0 x1).length = 32; simp
    · rw [hq]; show ((List.replicate 32 (0 : Int32)).set 0 u).length = 32; simp
    · rw [hq]; show ((List.replicate 32 (0 : Int32)).set 0 w).length = 32; simp
    · rw [hq]; show ((List.replicate 32 (0 : Int32)).set 0 x4).length = 32; simp
    · simp only [hq, hp, gs_computed, gs_rows, gs_flg, gs_vals, gs_keys, gs_part, a5]
    · simp only [hq, hp, gs_computed, gs_rows, gs_flg, gs_vals, gs_keys, gs_part, a6]
    · simp only [hq, hp, gs_computed, gs_rows, gs_flg, gs_vals, gs_keys, gs_part, a7]
    · simp only [hq, hp, gs_computed, gs_rows, gs_flg, gs_vals, gs_keys, gs_part, a8]
set_option maxRecDepth 65536 in
theorem comes_1 {Post : Tables → Env → Array Value → State → Outcome → State → Prop} (hpost : ∀ tb e args s v u, (limb_1_1.after args s (.returned v) u = true ∧ limb_1_2.after args s (.returned v) u = true ∧ True) → FrameEnd s (.returned v) u (Jvm.fieldLocs frame_1_writes args s ++ Jvm.arrayLocs frame_1_arrays args s ++ Jvm.staticLocs frame_1_statics s) 32 640 → Post tb e args s (.returned v) u) :
    ArmFor flags0 classFile x code maxLocals ret World_1 tables_1 room_1 Calls_1 rest_1 Pre_1 Post := by
  intro l hfl _ _ p e ha hc hk s m args below hf hA hF happ hP
  obtain ⟨hcalls, hrest, hpre⟩ := hP
  obtain ⟨-, -, -, hnamed, -, -, -, hat⟩ := (Spec.applies_iff hf).mp happ
  obtain ⟨hg, hn⟩ := and_e (Cond.before_iff.mp (show (Jvm.Cond.and given_1 narrow_1).before args s = true from hpre))
  obtain ⟨g0, g1⟩ := and_e hg
  obtain ⟨w0, w1, w2, w3, w4, rfl⟩ : ∃ w0 w1 w2 w3 w4 : Value, args = #[w0, w1, w2, w3, w4] := by
    have hs : args.size = 5 := by simpa [Cond.value, given_1] using g0
    obtain ⟨L⟩ := args
    match L, hs with
    | [w0, w1, w2, w3, w4], _ => exact ⟨w0, w1, w2, w3, w4, rfl⟩
  have hw := fun d (hd : d ∈ tables_1) => atoms_spec (ws := Jvm.Cond.code x code maxLocals ret :: tables_1) hat d (List.mem_cons_of_mem _ hd)
  obtain ⟨a0, g2⟩ := and_e g1
  obtain ⟨i0, ei0⟩ := is_v a0
  obtain rfl : w0 = (.int i0) := Option.some.inj ei0
  obtain ⟨a1, g3⟩ := and_e g2
  obtain ⟨i1, ei1⟩ := is_v a1
  obtain rfl : w1 = (.int i1) := Option.some.inj ei1
  obtain ⟨a2, g4⟩ := and_e g3
  obtain ⟨i2, ei2⟩ := is_v a2
  obtain rfl : w2 = (.int i2) := Option.some.inj ei2
  obtain ⟨a3, g5⟩ := and_e g4
  obtain ⟨i3, ei3⟩ := is_v a3
  obtain rfl : w3 = (.int i3) := Option.some.inj ei3
  obtain ⟨i4, ei4⟩ := is_v g5
  obtain rfl : w4 = (.int i4) := Option.some.inj ei4
  obtain ⟨τ, hF0, hc1, hs1⟩ := law_ok i0 i1 i2 i3 i4
  have Ad : QAd s.heap.size (fun k => s.heap.size + k) := ⟨fun k _ => rfl, fun i j h => Nat.add_left_cancel h⟩
  have hR : QRep s s.heap.size (fun k => s.heap.size + k) s.heap [] := ⟨Nat.le_refl _, rfl, fun k c h => by cases h⟩
  have T := tF0 (l := l) (Z := s) Ad (QW_ok hw) i0 i1 i2 i3 i4 hF0
  have M := QTri.met (k := 0) (as := [.int i0, .int i1, .int i2, .int i3, .int i4]) (by decide) T hR (Nat.le_of_ble_eq_true rfl) (fun q => by cases q) tables_1 (rm := room_1) (by decide) (by decide) hc1 hs1
  obtain ⟨n, o, h1, h2, h3, _, L, rfl, ⟨rfl, R', N⟩, hq⟩ := M p e ha hc hk s m _ below hf ((Spec.applies_iff_loose hf).mp happ).1 ⟨rfl, State.Warmed39.refl s, rfl⟩ trivial
  refine ⟨n, _, h1, h2, h3, hpost _ _ _ _ _ _ ⟨Cond.after_iff.mpr rfl, Cond.after_iff.mpr (eq_i res_at (Term.int_eval (1)) rfl), trivial⟩ ⟨hq.1, hq.2.1, (hq.2.2.sift fun y hy => Or.inr (N y hy)).mono hc1 hs1⟩⟩
theorem main_1_1 : Claimed_1_1 := comes_1 fun _ _ _ _ _ _ h hF => ⟨h.1, hF⟩
theorem main_1_2 : Claimed_1_2 := comes_1 fun _ _ _ _ _ _ h hF => ⟨h.2.1, hF⟩
end Jvm.Pilot.@@N@@
namespace Jvm.Pilot.@@N@@
open Jvm Jvm.ClassFile Sem Op Lib Jvm.Free Jvm.Stand Jvm.Pilot.@@N@@.Jvm.D
/-! MADE BY PROGRAM (witnessworld.py) out of the Statement's table words and the real class files: 13 classes; the members and pool entries that the words name. The judged class is class 1, her method 1. -/
namespace start1
open Jvm.ClassFile
def u (s : String) : CpInfo := .utf8 (stringToUtf16 s)
/-- a pool by its gaps: so many unusable entries, then the entry; so many at the end -/
def gap : Nat → List CpInfo → List CpInfo
  | 0, r => r
  | n + 1, r => .unusable :: gap n r
def poolList (es : List (Nat × CpInfo)) (last : Nat) : List CpInfo := es.foldr (fun e r => gap e.1 (e.2 :: r)) (gap last [])
def pool (es : List (Nat × CpInfo)) (last : Nat) : Array CpInfo := ⟨poolList es last⟩
def fileOf (pool : Array CpInfo) (this : Nat) (attrs : Array Attribute := #[]) (ms : Array MethodInfo := #[]) (fl : Nat := 33) (sup : Nat := 0) (ifs : Array Nat := #[]) (fds : Array FieldInfo := #[]) : ClassFile where
  minorVersion := 0
  majorVersion := 65
  constantPool := pool
  accessFlags := fl
  thisClass := this
  superClass := sup
  interfaces := ifs
  fields := fds
  methods := ms
  attributes := attrs
def plain (name : String) (sup : Option ClassId) : Class where
  name := name
  kind := .ordinary
  loader := none
  accessFlags := 33
  super := sup
  interfaces := #[]
  cf := none
  fields := #[]
  methods := #[]
  instanceTypes := #[]
  staticTypes := #[]
  resolved := #[]
  callSites := []
  init := .initialized
  statics := none
  mirror := none

def pool0 : Array CpInfo := pool [(5, u "<init>"), (0, u "()V"), (1, .class_ 10), (1, u "java/lang/Object")] 113

def k0c0 : Code := { maxStack := 0, maxLocals := 1, code := object_method_1_code, exceptionTable := #[], attributes := #[] }
def k0m0 : Method := { name := "<init>", desc := "()V", sig := { parameters := [], returnType := none }, accessFlags := 1, code := some k0c0 }
/-- java/lang/Object -/
def k0 : Class := { plain "java/lang/Object" none with
  accessFlags := 33
  interfaces := #[]
  cf := some (fileOf pool0 8 #[] #[{ accessFlags := 1, nameIndex := 5, descriptorIndex := 6, attributes := #[] }] 33 0 #[] #[])
  fields := #[]
  methods := #[k0m0]
  instanceTypes := #[]
  staticTypes := #[]
  resolved := Array.replicate 124 none
  statics := none }

def pool1 : Array CpInfo := pool [(2, .class_ 4), (1, u "java/lang/Object"), (0, u "<init>"), (0, u "()V"), (0, .class_ 8), (0, u "WindowFuncEngine"), (0, .methodref 7 10), (0, .nameAndType 5 11), (0, u "(I)V"), (0, .methodref 7 13), (0, .nameAndType 14 15), (0, u "compute"), (0, u "()I"), (0, .methodref 7 17), (0, .nameAndType 18 19), (0, u "addRow"), (0, u "(IIII)I"), (0, .methodref 7 21), (0, .nameAndType 22 23), (0, u "isComputed"), (0, u "()Z"), (0, .methodref 7 25), (0, .nameAndType 26 15), (0, u "rowCount"), (0, .methodref 7 28), (0, .nameAndType 29 30), (0, u "getRowField"), (0, u "(II)I"), (0, .class_ 32), (0, u "WindowFuncEngineL2"), (2, u "law"), (0, u "(IIIII)Z")] 3

def k1m0 : Method := { name := "<init>", desc := "()V", sig := { parameters := [], returnType := none }, accessFlags := 1, code := none }
def k1c1 : Code := { maxStack := 5, maxLocals := 16, code := code, exceptionTable := #[], attributes := #[] }
def k1m1 : Method := { name := "law", desc := "(IIIII)Z", sig := { parameters := [.int, .int, .int, .int, .int], returnType := some .boolean }, accessFlags := 9, code := some k1c1 }
/-- WindowFuncEngineL2 -/
def k1 : Class := { plain "WindowFuncEngineL2" (some 0) with
  accessFlags := 33
  interfaces := #[]
  cf := some (fileOf pool1 31 #[] #[{ accessFlags := 1, nameIndex := 5, descriptorIndex := 6, attributes := #[] }, { accessFlags := 9, nameIndex := 35, descriptorIndex := 36, attributes := #[] }] 33 2 #[] #[])
  fields := #[]
  methods := #[k1m0, k1m1]
  instanceTypes := #[]
  staticTypes := #[]
  resolved := Array.replicate 40 none
  statics := none }

def pool2 : Array CpInfo := pool [(1, .methodref 2 3), (0, .class_ 4), (0, .nameAndType 5 6), (0, u "java/lang/Object"), (0, u "<init>"), (0, u "()V"), (0, .fieldref 8 9), (0, .class_ 10), (0, .nameAndType 11 12), (0, u "WindowFuncEngine"), (0, u "part"), (0, u "[I"), (0, .fieldref 8 14), (0, .nameAndType 15 12), (0, u "keys"), (0, .fieldref 8 17), (0, .nameAndType 18 12), (0, u "vals"), (0, .fieldref 8 20), (0, .nameAndType 21 12), (0, u "flg"), (0, .fieldref 8 23), (0, .nameAndType 24 25), (0, u "res"), (0, u "[J"), (0, .fieldref 8 27), (0, .nameAndType 28 29), (0, u "resNull"), (0, u "[Z"), (0, .fieldref 8 31), (0, .nameAndType 32 12), (0, u "frameCnt"), (0, .fieldref 8 34), (0, .nameAndType 35 12), (0, u "sorted"), (0, .fieldref 8 37), (0, .nameAndType 38 39), (0, u "cap"), (0, u "I"), (0, .fieldref 8 41), (0, .nameAndType 42 39), (0, u "rows"), (0, .methodref 8 44), (0, .nameAndType 45 6), (0, u "resetSpec"), (0, .fieldref 8 47), (0, .nameAndType 48 49), (0, u "computed"), (0, u "Z"), (0, .fieldref 8 51), (0, .nameAndType 52 39), (0, u "direction"), (0, .fieldref 8 54), (0, .nameAndType 55 39), (0, u "nulls"), (0, .fieldref 8 57), (0, .nameAndType 58 39), (0, u "mode"), (0, .fieldref 8 60), (0, .nameAndType 61 39), (0, u "startKind"), (0, .fieldref 8 63), (0, .nameAndType 64 39), (0, u "startOff"), (0, .fieldref 8 66), (0, .nameAndType 67 39), (0, u "endKind"), (0, .fieldref 8 69), (0, .nameAndType 70 39), (0, u "endOff"), (0, .fieldref 8 72), (0, .nameAndType 73 39), (0, u "fn"), (0, .fieldref 8 75), (0, .nameAndType 76 39), (0, u "fnArg"), (0, .methodref 8 78), (0, .nameAndType 79 80), (0, u "needsOrder"), (0, u "()Z"), (3, u "(I)V"), (10, u "sortedLen"), (2, u "curPos"), (28, u "aggRows"), (5, u "aggSum"), (0, u "J"), (2, u "aggCount"), (2, u "aggMin"), (2, u "aggMax"), (20, u "ERR"), (2, u "ORDER_NONE"), (1, u "ORDER_ASC"), (1, u "ORDER_DESC"), (1, u "NULLS_FIRST"), (0, u "NULLS_LAST"), (0, u "MODE_ROWS"), (0, u "MODE_RANGE"), (0, u "BOUND_UNBOUNDED_PRECEDING"), (0, u "BOUND_PRECEDING"), (0, u "BOUND_CURRENT_ROW"), (0, u "BOUND_FOLLOWING"), (1, u "BOUND_UNBOUNDED_FOLLOWING"), (1, u "FN_SUM"), (0, u "FN_COUNT"), (0, u "FN_COUNT_ROWS"), (0, u "FN_MIN"), (0, u "FN_MAX"), (0, u "FN_ROW_NUMBER"), (1, u "FN_RANK"), (1, u "FN_DENSE_RANK"), (1, u "FN_LAG"), (1, u "FN_LEAD"), (1, u "FLAG_KEY_NULL"), (0, u "FLAG_VALUE_NULL"), (0, u "STATUS_OK"), (0, u "STATUS_NEEDS_ORDER"), (0, u "FIELD_PARTITION"), (0, u "FIELD_KEY"), (0, u "FIELD_VALUE"), (0, u "FIELD_FLAGS"), (0, u "SPEC_DIRECTION"), (0, u "SPEC_NULLS"), (0, u "SPEC_MODE"), (0, u "SPEC_START_KIND"), (0, u "SPEC_START_OFFSET"), (0, u "SPEC_END_KIND"), (0, u "SPEC_END_OFFSET"), (0, u "SPEC_FUNCTION"), (0, u "SPEC_FUNCTION_ARG"), (0, u "SPEC_CAPACITY"), (3, u "addRow"), (0, u "(IIII)I"), (2, u "rowCount"), (0, u "()I"), (5, u "compute"), (0, u "isComputed"), (5, u "getRowField"), (0, u "(II)I")] 4

def k2c0 : Code := { maxStack := 2, maxLocals := 3, code := prog_1_method_1_code, exceptionTable := #[], attributes := #[] }
def k2m0 : Method := { name := "<init>", desc := "(I)V", sig := { parameters := [.int], returnType := none }, accessFlags := 1, code := some k2c0 }
def k2c1 : Code := { maxStack := 2, maxLocals := 1, code := prog_1_method_2_code, exceptionTable := #[], attributes := #[] }
def k2m1 : Method := { name := "resetSpec", desc := "()V", sig := { parameters := [], returnType := none }, accessFlags := 2, code := some k2c1 }
def k2c2 : Code := { maxStack := 4, maxLocals := 6, code := prog_1_method_3_code, exceptionTable := #[], attributes := #[] }
def k2m2 : Method := { name := "addRow", desc := "(IIII)I", sig := { parameters := [.int, .int, .int, .int], returnType := some .int }, accessFlags := 1, code := some k2c2 }
def k2c3 : Code := { maxStack := 1, maxLocals := 1, code := prog_1_method_5_code, exceptionTable := #[], attributes := #[] }
def k2m3 : Method := { name := "rowCount", desc := "()I", sig := { parameters := [], returnType := some .int }, accessFlags := 1, code := some k2c3 }
def k2c4 : Code := { maxStack := 2, maxLocals := 2, code := prog_1_method_11_code, exceptionTable := #[], attributes := #[] }
def k2m4 : Method := { name := "compute", desc := "()I", sig := { parameters := [], returnType := some .int }, accessFlags := 1, code := some k2c4 }
def k2c5 : Code := { maxStack := 2, maxLocals := 3, code := prog_1_method_12_code, exceptionTable := #[], attributes := #[] }
def k2m5 : Method := { name := "needsOrder", desc := "()Z", sig := { parameters := [], returnType := some .boolean }, accessFlags := 2, code := some k2c5 }
def k2c6 : Code := { maxStack := 1, maxLocals := 1, code := prog_1_method_13_code, exceptionTable := #[], attributes := #[] }
def k2m6 : Method := { name := "isComputed", desc := "()Z", sig := { parameters := [], returnType := some .boolean }, accessFlags := 1, code := some k2c6 }
def k2c7 : Code := { maxStack := 2, maxLocals := 3, code := prog_1_method_17_code, exceptionTable := #[], attributes := #[] }
def k2m7 : Method := { name := "getRowField", desc := "(II)I", sig := { parameters := [.int, .int], returnType := some .int }, accessFlags := 1, code := some k2c7 }
/-- WindowFuncEngine -/
def k2 : Class := { plain "WindowFuncEngine" (some 0) with
  accessFlags := 49
  interfaces := #[]
  cf := some (fileOf pool2 8 #[] #[{ accessFlags := 1, nameIndex := 5, descriptorIndex := 84, attributes := #[] }, { accessFlags := 2, nameIndex := 45, descriptorIndex := 6, attributes := #[] }, { accessFlags := 1, nameIndex := 220, descriptorIndex := 221, attributes := #[] }, { accessFlags := 1, nameIndex := 224, descriptorIndex := 225, attributes := #[] }, { accessFlags := 1, nameIndex := 231, descriptorIndex := 225, attributes := #[] }, { accessFlags := 2, nameIndex := 79, descriptorIndex := 80, attributes := #[] }, { accessFlags := 1, nameIndex := 232, descriptorIndex := 80, attributes := #[] }, { accessFlags := 1, nameIndex := 238, descriptorIndex := 239, attributes := #[] }] 49 2 #[] #[{ accessFlags := 25, nameIndex := 164, descriptorIndex := 39, attributes := #[] }, { accessFlags := 25, nameIndex := 167, descriptorIndex := 39, attributes := #[] }, { accessFlags := 25, nameIndex := 169, descriptorIndex := 39, attributes := #[] }, { accessFlags := 25, nameIndex := 171, descriptorIndex := 39, attributes := #[] }, { accessFlags := 25, nameIndex := 173, descriptorIndex := 39, attributes := #[] }, { accessFlags := 25, nameIndex := 174, descriptorIndex := 39, attributes := #[] }, { accessFlags := 25, nameIndex := 175, descriptorIndex := 39, attributes := #[] }, { accessFlags := 25, nameIndex := 176, descriptorIndex := 39, attributes := #[] }, { accessFlags := 25, nameIndex := 177, descriptorIndex := 39, attributes := #[] }, { accessFlags := 25, nameIndex := 178, descriptorIndex := 39, attributes := #[] }, { accessFlags := 25, nameIndex := 179, descriptorIndex := 39, attributes := #[] }, { accessFlags := 25, nameIndex := 180, descriptorIndex := 39, attributes := #[] }, { accessFlags := 25, nameIndex := 182, descriptorIndex := 39, attributes := #[] }, { accessFlags := 25, nameIndex := 184, descriptorIndex := 39, attributes := #[] }, { accessFlags := 25, nameIndex := 185, descriptorIndex := 39, attributes := #[] }, { accessFlags := 25, nameIndex := 186, descriptorIndex := 39, attributes := #[] }, { accessFlags := 25, nameIndex := 187, descriptorIndex := 39, attributes := #[] }, { accessFlags := 25, nameIndex := 188, descriptorIndex := 39, attributes := #[] }, { accessFlags := 25, nameIndex := 189, descriptorIndex := 39, attributes := #[] }, { accessFlags := 25, nameIndex := 191, descriptorIndex := 39, attributes := #[] }, { accessFlags := 25, nameIndex := 193, descriptorIndex := 39, attributes := #[] }, { accessFlags := 25, nameIndex := 195, descriptorIndex := 39, attributes := #[] }, { accessFlags := 25, nameIndex := 197, descriptorIndex := 39, attributes := #[] }, { accessFlags := 25, nameIndex := 199, descriptorIndex := 39, attributes := #[] }, { accessFlags := 25, nameIndex := 200, descriptorIndex := 39, attributes := #[] }, { accessFlags := 25, nameIndex := 201, descriptorIndex := 39, attributes := #[] }, { accessFlags := 25, nameIndex := 202, descriptorIndex := 39, attributes := #[] }, { accessFlags := 25, nameIndex := 203, descriptorIndex := 39, attributes := #[] }, { accessFlags := 25, nameIndex := 204, descriptorIndex := 39, attributes := #[] }, { accessFlags := 25, nameIndex := 205, descriptorIndex := 39, attributes := #[] }, { accessFlags := 25, nameIndex := 206, descriptorIndex := 39, attributes := #[] }, { accessFlags := 25, nameIndex := 207, descriptorIndex := 39, attributes := #[] }, { accessFlags := 25, nameIndex := 208, descriptorIndex := 39, attributes := #[] }, { accessFlags := 25, nameIndex := 209, descriptorIndex := 39, attributes := #[] }, { accessFlags := 25, nameIndex := 210, descriptorIndex := 39, attributes := #[] }, { accessFlags := 25, nameIndex := 211, descriptorIndex := 39, attributes := #[] }, { accessFlags := 25, nameIndex := 212, descriptorIndex := 39, attributes := #[] }, { accessFlags := 25, nameIndex := 213, descriptorIndex := 39, attributes := #[] }, { accessFlags := 25, nameIndex := 214, descriptorIndex := 39, attributes := #[] }, { accessFlags := 25, nameIndex := 215, descriptorIndex := 39, attributes := #[] }, { accessFlags := 25, nameIndex := 216, descriptorIndex := 39, attributes := #[] }, { accessFlags := 2, nameIndex := 38, descriptorIndex := 39, attributes := #[] }, { accessFlags := 2, nameIndex := 42, descriptorIndex := 39, attributes := #[] }, { accessFlags := 2, nameIndex := 11, descriptorIndex := 12, attributes := #[] }, { accessFlags := 2, nameIndex := 15, descriptorIndex := 12, attributes := #[] }, { accessFlags := 2, nameIndex := 18, descriptorIndex := 12, attributes := #[] }, { accessFlags := 2, nameIndex := 21, descriptorIndex := 12, attributes := #[] }, { accessFlags := 2, nameIndex := 52, descriptorIndex := 39, attributes := #[] }, { accessFlags := 2, nameIndex := 55, descriptorIndex := 39, attributes := #[] }, { accessFlags := 2, nameIndex := 58, descriptorIndex := 39, attributes := #[] }, { accessFlags := 2, nameIndex := 61, descriptorIndex := 39, attributes := #[] }, { accessFlags := 2, nameIndex := 64, descriptorIndex := 39, attributes := #[] }, { accessFlags := 2, nameIndex := 67, descriptorIndex := 39, attributes := #[] }, { accessFlags := 2, nameIndex := 70, descriptorIndex := 39, attributes := #[] }, { accessFlags := 2, nameIndex := 73, descriptorIndex := 39, attributes := #[] }, { accessFlags := 2, nameIndex := 76, descriptorIndex := 39, attributes := #[] }, { accessFlags := 2, nameIndex := 48, descriptorIndex := 49, attributes := #[] }, { accessFlags := 2, nameIndex := 24, descriptorIndex := 25, attributes := #[] }, { accessFlags := 2, nameIndex := 28, descriptorIndex := 29, attributes := #[] }, { accessFlags := 2, nameIndex := 32, descriptorIndex := 12, attributes := #[] }, { accessFlags := 2, nameIndex := 35, descriptorIndex := 12, attributes := #[] }, { accessFlags := 2, nameIndex := 95, descriptorIndex := 39, attributes := #[] }, { accessFlags := 2, nameIndex := 98, descriptorIndex := 39, attributes := #[] }, { accessFlags := 2, nameIndex := 133, descriptorIndex := 134, attributes := #[] }, { accessFlags := 2, nameIndex := 137, descriptorIndex := 39, attributes := #[] }, { accessFlags := 2, nameIndex := 127, descriptorIndex := 39, attributes := #[] }, { accessFlags := 2, nameIndex := 140, descriptorIndex := 39, attributes := #[] }, { accessFlags := 2, nameIndex := 143, descriptorIndex := 39, attributes := #[] }])
  fields := #[{ name := "ERR", type := .int, accessFlags := 25, slot := 0, constantValue := 0 }, { name := "ORDER_NONE", type := .int, accessFlags := 25, slot := 1, constantValue := 0 }, { name := "ORDER_ASC", type := .int, accessFlags := 25, slot := 2, constantValue := 0 }, { name := "ORDER_DESC", type := .int, accessFlags := 25, slot := 3, constantValue := 0 }, { name := "NULLS_FIRST", type := .int, accessFlags := 25, slot := 4, constantValue := 0 }, { name := "NULLS_LAST", type := .int, accessFlags := 25, slot := 5, constantValue := 0 }, { name := "MODE_ROWS", type := .int, accessFlags := 25, slot := 6, constantValue := 0 }, { name := "MODE_RANGE", type := .int, accessFlags := 25, slot := 7, constantValue := 0 }, { name := "BOUND_UNBOUNDED_PRECEDING", type := .int, accessFlags := 25, slot := 8, constantValue := 0 }, { name := "BOUND_PRECEDING", type := .int, accessFlags := 25, slot := 9, constantValue := 0 }, { name := "BOUND_CURRENT_ROW", type := .int, accessFlags := 25, slot := 10, constantValue := 0 }, { name := "BOUND_FOLLOWING", type := .int, accessFlags := 25, slot := 11, constantValue := 0 }, { name := "BOUND_UNBOUNDED_FOLLOWING", type := .int, accessFlags := 25, slot := 12, constantValue := 0 }, { name := "FN_SUM", type := .int, accessFlags := 25, slot := 13, constantValue := 0 }, { name := "FN_COUNT", type := .int, accessFlags := 25, slot := 14, constantValue := 0 }, { name := "FN_COUNT_ROWS", type := .int, accessFlags := 25, slot := 15, constantValue := 0 }, { name := "FN_MIN", type := .int, accessFlags := 25, slot := 16, constantValue := 0 }, { name := "FN_MAX", type := .int, accessFlags := 25, slot := 17, constantValue := 0 }, { name := "FN_ROW_NUMBER", type := .int, accessFlags := 25, slot := 18, constantValue := 0 }, { name := "FN_RANK", type := .int, accessFlags := 25, slot := 19, constantValue := 0 }, { name := "FN_DENSE_RANK", type := .int, accessFlags := 25, slot := 20, constantValue := 0 }, { name := "FN_LAG", type := .int, accessFlags := 25, slot := 21, constantValue := 0 }, { name := "FN_LEAD", type := .int, accessFlags := 25, slot := 22, constantValue := 0 }, { name := "FLAG_KEY_NULL", type := .int, accessFlags := 25, slot := 23, constantValue := 0 }, { name := "FLAG_VALUE_NULL", type := .int, accessFlags := 25, slot := 24, constantValue := 0 }, { name := "STATUS_OK", type := .int, accessFlags := 25, slot := 25, constantValue := 0 }, { name := "STATUS_NEEDS_ORDER", type := .int, accessFlags := 25, slot := 26, constantValue := 0 }, { name := "FIELD_PARTITION", type := .int, accessFlags := 25, slot := 27, constantValue := 0 }, { name := "FIELD_KEY", type := .int, accessFlags := 25, slot := 28, constantValue := 0 }, { name := "FIELD_VALUE", type := .int, accessFlags := 25, slot := 29, constantValue := 0 }, { name := "FIELD_FLAGS", type := .int, accessFlags := 25, slot := 30, constantValue := 0 }, { name := "SPEC_DIRECTION", type := .int, accessFlags := 25, slot := 31, constantValue := 0 }, { name := "SPEC_NULLS", type := .int, accessFlags := 25, slot := 32, constantValue := 0 }, { name := "SPEC_MODE", type := .int, accessFlags := 25, slot := 33, constantValue := 0 }, { name := "SPEC_START_KIND", type := .int, accessFlags := 25, slot := 34, constantValue := 0 }, { name := "SPEC_START_OFFSET", type := .int, accessFlags := 25, slot := 35, constantValue := 0 }, { name := "SPEC_END_KIND", type := .int, accessFlags := 25, slot := 36, constantValue := 0 }, { name := "SPEC_END_OFFSET", type := .int, accessFlags := 25, slot := 37, constantValue := 0 }, { name := "SPEC_FUNCTION", type := .int, accessFlags := 25, slot := 38, constantValue := 0 }, { name := "SPEC_FUNCTION_ARG", type := .int, accessFlags := 25, slot := 39, constantValue := 0 }, { name := "SPEC_CAPACITY", type := .int, accessFlags := 25, slot := 40, constantValue := 0 }, { name := "cap", type := .int, accessFlags := 2, slot := 0, constantValue := 0 }, { name := "rows", type := .int, accessFlags := 2, slot := 1, constantValue := 0 }, { name := "part", type := (.array .int), accessFlags := 2, slot := 2, constantValue := 0 }, { name := "keys", type := (.array .int), accessFlags := 2, slot := 3, constantValue := 0 }, { name := "vals", type := (.array .int), accessFlags := 2, slot := 4, constantValue := 0 }, { name := "flg", type := (.array .int), accessFlags := 2, slot := 5, constantValue := 0 }, { name := "direction", type := .int, accessFlags := 2, slot := 6, constantValue := 0 }, { name := "nulls", type := .int, accessFlags := 2, slot := 7, constantValue := 0 }, { name := "mode", type := .int, accessFlags := 2, slot := 8, constantValue := 0 }, { name := "startKind", type := .int, accessFlags := 2, slot := 9, constantValue := 0 }, { name := "startOff", type := .int, accessFlags := 2, slot := 10, constantValue := 0 }, { name := "endKind", type := .int, accessFlags := 2, slot := 11, constantValue := 0 }, { name := "endOff", type := .int, accessFlags := 2, slot := 12, constantValue := 0 }, { name := "fn", type := .int, accessFlags := 2, slot := 13, constantValue := 0 }, { name := "fnArg", type := .int, accessFlags := 2, slot := 14, constantValue := 0 }, { name := "computed", type := .boolean, accessFlags := 2, slot := 15, constantValue := 0 }, { name := "res", type := (.array .long), accessFlags := 2, slot := 16, constantValue := 0 }, { name := "resNull", type := (.array .boolean), accessFlags := 2, slot := 17, constantValue := 0 }, { name := "frameCnt", type := (.array .int), accessFlags := 2, slot := 18, constantValue := 0 }, { name := "sorted", type := (.array .int), accessFlags := 2, slot := 19, constantValue := 0 }, { name := "sortedLen", type := .int, accessFlags := 2, slot := 20, constantValue := 0 }, { name := "curPos", type := .int, accessFlags := 2, slot := 21, constantValue := 0 }, { name := "aggSum", type := .long, accessFlags := 2, slot := 22, constantValue := 0 }, { name := "aggCount", type := .int, accessFlags := 2, slot := 23, constantValue := 0 }, { name := "aggRows", type := .int, accessFlags := 2, slot := 24, constantValue := 0 }, { name := "aggMin", type := .int, accessFlags := 2, slot := 25, constantValue := 0 }, { name := "aggMax", type := .int, accessFlags := 2, slot := 26, constantValue := 0 }]
  methods := #[k2m0, k2m1, k2m2, k2m3, k2m4, k2m5, k2m6, k2m7]
  instanceTypes := #[.int, .int, (.array .int), (.array .int), (.array .int), (.array .int), .int, .int, .int, .int, .int, .int, .int, .int, .int, .boolean, (.array .long), (.array .boolean), (.array .int), (.array .int), .int, .int, .long, .int, .int, .int, .int]
  staticTypes := #[.int, .int, .int, .int, .int, .int, .int, .int, .int, .int, .int, .int, .int, .int, .int, .int, .int, .int, .int, .int, .int, .int, .int, .int, .int, .int, .int, .int, .int, .int, .int, .int, .int, .int, .int, .int, .int, .int, .int, .int, .int]
  resolved := Array.replicate 244 none
  statics := none }

def pool3 : Array CpInfo := pool [(1, u "java/lang/Cloneable"), (0, .class_ 1), (0, u "java/lang/Object"), (0, .class_ 3)] 3

/-- java/lang/Cloneable -/
def k3 : Class := { plain "java/lang/Cloneable" (some 0) with
  accessFlags := 1537
  interfaces := #[]
  cf := some (fileOf pool3 2 #[] #[] 1537 4 #[] #[])
  fields := #[]
  methods := #[]
  instanceTypes := #[]
  staticTypes := #[]
  resolved := Array.replicate 8 none
  statics := none }

def pool4 : Array CpInfo := pool [(1, u "java/io/Serializable"), (0, .class_ 1), (0, u "java/lang/Object"), (0, .class_ 3)] 3

/-- java/io/Serializable -/
def k4 : Class := { plain "java/io/Serializable" (some 0) with
  accessFlags := 1537
  interfaces := #[]
  cf := some (fileOf pool4 2 #[] #[] 1537 4 #[] #[])
  fields := #[]
  methods := #[]
  instanceTypes := #[]
  staticTypes := #[]
  resolved := Array.replicate 8 none
  statics := none }

/-- the primitive boolean -/
def k5 : Class := { plain "boolean" none with kind := .primitive 'Z', accessFlags := 0x411 }
/-- [Z -/
def k6 : Class := { plain "[Z" (some 0) with kind := .array 5 .boolean, interfaces := #[3, 4], accessFlags := 1041 }

/-- the primitive byte -/
def k7 : Class := { plain "byte" none with kind := .primitive 'B', accessFlags := 0x411 }
/-- [B -/
def k8 : Class := { plain "[B" (some 0) with kind := .array 7 .byte, interfaces := #[3, 4], accessFlags := 1041 }

/-- the primitive int -/
def k9 : Class := { plain "int" none with kind := .primitive 'I', accessFlags := 0x411 }
/-- [I -/
def k10 : Class := { plain "[I" (some 0) with kind := .array 9 .int, interfaces := #[3, 4], accessFlags := 1041 }

/-- the primitive long -/
def k11 : Class := { plain "long" none with kind := .primitive 'J', accessFlags := 0x411 }
/-- [J -/
def k12 : Class := { plain "[J" (some 0) with kind := .array 11 .long, interfaces := #[3, 4], accessFlags := 1041 }

def heap : Heap := #[]
def classes : Array Class := #[k0, k1, k2, k3, k4, k5, k6, k7, k8, k9, k10, k11, k12]
def interned : List (Array UInt16 × Addr) := []
def slotsUsed : Nat := 0
def theMethod : MethodId := ⟨1, 1⟩
def args0 : Array Value := #[.int 5, .int 5, .int 5, .int 5, .int 5]
def aboutOver (below : List Frame) : State where
  vm := { classes := classes, interned := interned.toArray }
  heap := heap
  slotsUsed := slotsUsed
  threads := #[{ frames := .invoking theMethod args0 :: below }]
def below0 : List Frame := [.native { method := ⟨0, 0⟩, args := #[] }]
def about1 : State := aboutOver below0
def p0 : Program := .bare "" "" ""
def e0 : Env := launch0.env 0 0 0
theorem w_frames : about1.frames = Frame.invoking theMethod args0 :: below0 := rfl
set_option maxRecDepth 65536 in
theorem w_args : argsFit about1.vm theMethod args0 = true := by decide +kernel
set_option maxRecDepth 65536 in
theorem w_heap : heapFits about1 = true := by decide +kernel
set_option maxRecDepth 65536 in
theorem w_runnable : about1.curStatus? = some .runnable := by decide +kernel
set_option maxRecDepth 65536 in
theorem w_alone : about1.alone = true := by decide +kernel
set_option maxRecDepth 65536 in
theorem w_named : about1.methodNamed? x = some theMethod := by decide +kernel
set_option maxRecDepth 65536 in
theorem w_hears : about1.hears theMethod below0 = true := by decide +kernel
set_option maxRecDepth 65536 in
theorem w_ripe : about1.ripe theMethod args0 below0 = true := by decide +kernel
theorem w_running : about1.status = .running := rfl
set_option maxRecDepth 65536 in
theorem w_room : about1.hasRoom e0.platform room_1 = true :=
  launch0.hasRoom_least _ room_1 (by decide +kernel) (by decide +kernel) (by decide +kernel) (by decide +kernel) (by decide +kernel) (by decide +kernel)
theorem allAtoms_all (ts : List Jvm.Cond) (a : Array Jvm.Value) (st : Jvm.State) : (allAtoms ts).before a st = ts.all (fun c => c.before a st) := by
  induction ts with
  | nil => rfl
  | cons c t ih =>
    show (Jvm.Cond.and c (allAtoms t)).before a st = _
    rw [Jvm.Cond.before_and, ih, List.all_cons]
def words1 : List Jvm.Cond := Jvm.Cond.code x code maxLocals ret :: tables_1
/-- a 'code' word, met by the world's own term for the bytes: nothing is compared byte by byte -/
theorem code_word {y : MethodName} {bytes : ByteArray} {mx : Nat} {rt : Option FieldType} {a : Array Value} {s : State} {m : MethodId} {meth : Method} {c : Code} (h1 : s.methodNamed? y = some m) (h2 : s.vm.method? m = some meth) (h3 : meth.code = some c) (h4 : c.code = bytes)
    (h5 : (c.maxLocals == mx && c.exceptionTable.isEmpty && decide (c.maxStack ≤ mostOperands) && decide (meth.sig.returnType = rt) && !meth.locks && decide (parseMethodDescriptor y.desc = some meth.sig)) = true) : (Jvm.Cond.code y bytes mx rt).before a s = true := by
  simp only [Bool.and_eq_true, beq_iff_eq, Bool.not_eq_true', decide_eq_true_eq] at h5
  obtain ⟨⟨⟨⟨⟨g1, g2⟩, g3⟩, g4⟩, g5⟩, g6⟩ := h5
  simp [Cond.before, Cond.holds, Cond.value, h1, h2, h3, h4, g1, g2, g3, g4, g5, g6]
def isCode : Jvm.Cond → Bool
  | .code _ _ _ _ => true
  | _ => false
theorem all_split {L : List Jvm.Cond} {P : Jvm.Cond → Bool} (h1 : L.all (fun c => isCode c || P c) = true) (h2 : ∀ c ∈ L.filter isCode, P c = true) : L.all P = true := by
  refine List.all_eq_true.mpr fun c hc => ?_
  have h := List.all_eq_true.mp h1 c hc
  rcases Bool.eq_false_or_eq_true (isCode c) with hi | hi
  · exact h2 c (List.mem_filter.mpr ⟨hc, hi⟩)
  · simpa [hi] using h
set_option maxRecDepth 65536 in
theorem w_c0 : (Jvm.Cond.code x code maxLocals ret).before args0 about1 = true := code_word (m := ⟨1, 1⟩) (meth := k1m1) (c := k1c1) (by decide +kernel) rfl rfl rfl (by decide +kernel)
set_option maxRecDepth 65536 in
theorem w_c1 : (Jvm.Cond.code ({ cls := "WindowFuncEngine", name := "<init>", desc := "(I)V" } : Jvm.MethodName) prog_1_method_1_code (3 : Nat) (Option.none : Option Jvm.ClassFile.FieldType)).before args0 about1 = true := code_word (m := ⟨2, 0⟩) (meth := k2m0) (c := k2c0) (by decide +kernel) rfl rfl rfl (by decide +kernel)
set_option maxRecDepth 65536 in
theorem w_c2 : (Jvm.Cond.code ({ cls := "java/lang/Object", name := "<init>", desc := "()V" } : Jvm.MethodName) object_method_1_code (1 : Nat) (Option.none : Option Jvm.ClassFile.FieldType)).before args0 about1 = true := code_word (m := ⟨0, 0⟩) (meth := k0m0) (c := k0c0) (by decide +kernel) rfl rfl rfl (by decide +kernel)
set_option maxRecDepth 65536 in
theorem w_c3 : (Jvm.Cond.code ({ cls := "WindowFuncEngine", name := "resetSpec", desc := "()V" } : Jvm.MethodName) prog_1_method_2_code (1 : Nat) (Option.none : Option Jvm.ClassFile.FieldType)).before args0 about1 = true := code_word (m := ⟨2, 1⟩) (meth := k2m1) (c := k2c1) (by decide +kernel) rfl rfl rfl (by decide +kernel)
set_option maxRecDepth 65536 in
theorem w_c4 : (Jvm.Cond.code ({ cls := "WindowFuncEngine", name := "compute", desc := "()I" } : Jvm.MethodName) prog_1_method_11_code (2 : Nat) (Option.some Jvm.ClassFile.FieldType.int)).before args0 about1 = true := code_word (m := ⟨2, 4⟩) (meth := k2m4) (c := k2c4) (by decide +kernel) rfl rfl rfl (by decide +kernel)
set_option maxRecDepth 65536 in
theorem w_c5 : (Jvm.Cond.code ({ cls := "WindowFuncEngine", name := "needsOrder", desc := "()Z" } : Jvm.MethodName) prog_1_method_12_code (3 : Nat) (Option.some Jvm.ClassFile.FieldType.boolean)).before args0 about1 = true := code_word (m := ⟨2, 5⟩) (meth := k2m5) (c := k2c5) (by decide +kernel) rfl rfl rfl (by decide +kernel)
set_option maxRecDepth 65536 in
theorem w_c6 : (Jvm.Cond.code ({ cls := "WindowFuncEngine", name := "addRow", desc := "(IIII)I" } : Jvm.MethodName) prog_1_method_3_code (6 : Nat) (Option.some Jvm.ClassFile.FieldType.int)).before args0 about1 = true := code_word (m := ⟨2, 2⟩) (meth := k2m2) (c := k2c2) (by decide +kernel) rfl rfl rfl (by decide +kernel)
set_option maxRecDepth 65536 in
theorem w_c7 : (Jvm.Cond.code ({ cls := "WindowFuncEngine", name := "isComputed", desc := "()Z" } : Jvm.MethodName) prog_1_method_13_code (1 : Nat) (Option.some Jvm.ClassFile.FieldType.boolean)).before args0 about1 = true := code_word (m := ⟨2, 6⟩) (meth := k2m6) (c := k2c6) (by decide +kernel) rfl rfl rfl (by decide +kernel)
set_option maxRecDepth 65536 in
theorem w_c8 : (Jvm.Cond.code ({ cls := "WindowFuncEngine", name := "rowCount", desc := "()I" } : Jvm.MethodName) prog_1_method_5_code (1 : Nat) (Option.some Jvm.ClassFile.FieldType.int)).before args0 about1 = true := code_word (m := ⟨2, 3⟩) (meth := k2m3) (c := k2c3) (by decide +kernel) rfl rfl rfl (by decide +kernel)
set_option maxRecDepth 65536 in
theorem w_c9 : (Jvm.Cond.code ({ cls := "WindowFuncEngine", name := "getRowField", desc := "(II)I" } : Jvm.MethodName) prog_1_method_17_code (3 : Nat) (Option.some Jvm.ClassFile.FieldType.int)).before args0 about1 = true := code_word (m := ⟨2, 7⟩) (meth := k2m7) (c := k2c7) (by decide +kernel) rfl rfl rfl (by decide +kernel)
def codes1 : List Jvm.Cond := [Jvm.Cond.code x code maxLocals ret, Jvm.Cond.code ({ cls := "WindowFuncEngine", name := "<init>", desc := "(I)V" } : Jvm.MethodName) prog_1_method_1_code (3 : Nat) (Option.none : Option Jvm.ClassFile.FieldType), Jvm.Cond.code ({ cls := "java/lang/Object", name := "<init>", desc := "()V" } : Jvm.MethodName) object_method_1_code (1 : Nat) (Option.none : Option Jvm.ClassFile.FieldType), Jvm.Cond.code ({ cls := "WindowFuncEngine", name := "resetSpec", desc := "()V" } : Jvm.MethodName) prog_1_method_2_code (1 : Nat) (Option.none : Option Jvm.ClassFile.FieldType), Jvm.Cond.code ({ cls := "WindowFuncEngine", name := "compute", desc := "()I" } : Jvm.MethodName) prog_1_method_11_code (2 : Nat) (Option.some Jvm.ClassFile.FieldType.int), Jvm.Cond.code ({ cls := "WindowFuncEngine", name := "needsOrder", desc := "()Z" } : Jvm.MethodName) prog_1_method_12_code (3 : Nat) (Option.some Jvm.ClassFile.FieldType.boolean), Jvm.Cond.code ({ cls := "WindowFuncEngine", name := "addRow", desc := "(IIII)I" } : Jvm.MethodName) prog_1_method_3_code (6 : Nat) (Option.some Jvm.ClassFile.FieldType.int), Jvm.Cond.code ({ cls := "WindowFuncEngine", name := "isComputed", desc := "()Z" } : Jvm.MethodName) prog_1_method_13_code (1 : Nat) (Option.some Jvm.ClassFile.FieldType.boolean), Jvm.Cond.code ({ cls := "WindowFuncEngine", name := "rowCount", desc := "()I" } : Jvm.MethodName) prog_1_method_5_code (1 : Nat) (Option.some Jvm.ClassFile.FieldType.int), Jvm.Cond.code ({ cls := "WindowFuncEngine", name := "getRowField", desc := "(II)I" } : Jvm.MethodName) prog_1_method_17_code (3 : Nat) (Option.some Jvm.ClassFile.FieldType.int)]
set_option maxRecDepth 65536 in
theorem codes_eq : words1.filter isCode = codes1 := rfl
theorem w_codes : ∀ c ∈ words1.filter isCode, c.before args0 about1 = true := by
  rw [codes_eq]
  intro c hc
  simp only [codes1, List.mem_cons, List.not_mem_nil, or_false] at hc
  rcases hc with rfl | rfl | rfl | rfl | rfl | rfl | rfl | rfl | rfl | rfl
  · exact w_c0
  · exact w_c1
  · exact w_c2
  · exact w_c3
  · exact w_c4
  · exact w_c5
  · exact w_c6
  · exact w_c7
  · exact w_c8
  · exact w_c9
set_option maxRecDepth 65536 in
theorem w_t1 : (words1.take 24).all (fun c => isCode c || c.before args0 about1) = true := by decide +kernel
set_option maxRecDepth 65536 in
theorem w_t2 : ((words1.drop 24).take 24).all (fun c => isCode c || c.before args0 about1) = true := by decide +kernel
set_option maxRecDepth 65536 in
theorem w_t3 : (((words1.drop 24).drop 24).take 24).all (fun c => isCode c || c.before args0 about1) = true := by decide +kernel
set_option maxRecDepth 65536 in
theorem w_t4 : (((words1.drop 24).drop 24).drop 24).all (fun c => isCode c || c.before args0 about1) = true := by decide +kernel
theorem w_tables : (allAtoms (Jvm.Cond.code x code maxLocals ret :: tables_1)).before args0 about1 = true := by
  rw [allAtoms_all]
  show words1.all (fun c => c.before args0 about1) = true
  refine all_split ?_ w_codes
  rw [← List.take_append_drop 24 words1, List.all_append, w_t1, ← List.take_append_drop 24 (words1.drop 24), List.all_append, w_t2, ← List.take_append_drop 24 ((words1.drop 24).drop 24), List.all_append, w_t3, w_t4]
  rfl
set_option maxRecDepth 65536 in
theorem w_case : (Jvm.Cond.and given_1 narrow_1).before args0 about1 = true := by decide +kernel
theorem w_applies : (headSpec (Jvm.Cond.code x code maxLocals ret :: tables_1) room_1).applies x e0.platform about1 = true :=
  (Spec.applies_iff w_frames).mpr ⟨w_running, w_runnable, w_alone, w_named, w_hears, w_ripe, w_room, w_tables⟩
theorem atStart : AtStart classFile x code maxLocals ret World_1 tables_1 room_1 Calls_1 rest_1 Pre_1 launch0 p0 e0 about1 theMethod args0 below0 :=
  ⟨lists_1, trivial, launch0.admits_env _ _ _, launch0.least_env, fairChoices_fair.cas, fairChoices_fair.clock, w_frames, w_args, w_heap, w_applies, trivial, trivial, w_case⟩
end start1
theorem witness_1 : WitnessClaimed_1 := ⟨start1.p0, start1.e0, start1.about1, start1.theMethod, start1.args0, start1.below0, start1.atStart⟩
end Jvm.Pilot.@@N@@
