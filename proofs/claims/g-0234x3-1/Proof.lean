import JvmDerived
import JvmDerived.Pilot.@@N@@Statement
import JvmDerived.Pilot.@@N@@Code
set_option linter.unusedVariables false
set_option linter.unusedSimpArgs false
namespace Jvm.RoadKit
open Sem ClassFile Op Lib Jvm.Stand Jvm.Free Jvm.LawKit
section New
variable {p : Program} {l : Launch} {e : Env} {R : Room} {s : State} {m : MethodId} {args : Array Value} {below : List Frame} {meth : Method} {c : Code} {T : State} {locs : List Loc} {cells slots : Nat}
theorem retI (X : Stand p l e R s m args below meth c T locs cells slots) (hx : p.tables.exec = Jvm.exec) {pc : Nat} {Ls : Array Slot} {z : Int32} {rest : List Value} (hret : meth.sig.returnType = some .int) (hd : decode c.code pc = .ok (.ireturn, 1)) {fs : List Frame}
    (hl : ∀ (f : JFrame) (acts : List Action), f.method = m → f.locked = none → f.entered = [] → (doReturn e (T.setTop f) acts (some (.int z))).1 = T.setFrames fs) : Steps p.tables e below (T.setTop (mkF m pc Ls (.int z :: rest))) (T.setFrames fs) := by
  have hm' : T.vm.method? m = some meth := X.method'
  have hn : narrow .int (.int z) = .int z := rfl
  show Steps p.tables e below (T.setTop { method := m, pc := pc, locals := Ls, stack := _ :: rest, locked := none }) _
  jvm_step X.here [X.here.top, hx, hd, hm', hret, hn]
  first | (intro acts; rw [hl _ acts rfl rfl rfl]) | rw [hl _ _ rfl rfl rfl]
  exact Steps.refl _
end New
end Jvm.RoadKit
namespace Jvm.Pilot.@@N@@
open Jvm Jvm.ClassFile Sem Op Lib Jvm.Free Jvm.Stand Jvm.LawKit Jvm.RoadKit Bundle Jvm.Pilot.@@N@@.Jvm.D
/-! TABLES of this claim: printed by claim.py -/
def k0 : Nat := 0
def cName : String := "PortTranslator"
def cN : Nat := 19
def nF : Nat := 19
def kName (k : Nat) : String := bif Nat.beq k 0 then "PortTranslatorL1" else "PortTranslator"
def fNm (k : Nat) : String := (bif Nat.ble 9 k then (bif Nat.ble 14 k then (bif Nat.ble 16 k then (bif Nat.ble 17 k then (bif Nat.ble 18 k then "regExt" else "regPort") else "regHost") else (bif Nat.ble 15 k then "remPort" else "remAddr")) else (bif Nat.ble 11 k then (bif Nat.ble 12 k then (bif Nat.ble 13 k then "clock" else "cooldown") else "tcpTimeout") else (bif Nat.ble 10 k then "udpTimeout" else "poolSize"))) else (bif Nat.ble 4 k then (bif Nat.ble 6 k then (bif Nat.ble 7 k then (bif Nat.ble 8 k then "perm" else "deadlineAt") else "stateAt") else (bif Nat.ble 5 k then "iportOf" else "hostOf")) else (bif Nat.ble 2 k then (bif Nat.ble 3 k then "protoOf" else "freedAt") else (bif Nat.ble 1 k then "used" else "live"))))
def fDs (k : Nat) : String := (bif Nat.ble 9 k then (bif Nat.ble 14 k then (bif Nat.ble 16 k then (bif Nat.ble 17 k then (bif Nat.ble 18 k then "I" else "I") else "I") else (bif Nat.ble 15 k then "I" else "I")) else (bif Nat.ble 11 k then (bif Nat.ble 12 k then (bif Nat.ble 13 k then "I" else "I") else "I") else (bif Nat.ble 10 k then "I" else "I"))) else (bif Nat.ble 4 k then (bif Nat.ble 6 k then (bif Nat.ble 7 k then (bif Nat.ble 8 k then "[J" else "[I") else "[I") else (bif Nat.ble 5 k then "[I" else "[I")) else (bif Nat.ble 2 k then (bif Nat.ble 3 k then "[I" else "[I") else (bif Nat.ble 1 k then "[Z" else "[Z"))))
def fTy (k : Nat) : FieldType := (bif Nat.ble 9 k then (bif Nat.ble 14 k then (bif Nat.ble 16 k then (bif Nat.ble 17 k then (bif Nat.ble 18 k then .int else .int) else .int) else (bif Nat.ble 15 k then .int else .int)) else (bif Nat.ble 11 k then (bif Nat.ble 12 k then (bif Nat.ble 13 k then .int else .int) else .int) else (bif Nat.ble 10 k then .int else .int))) else (bif Nat.ble 4 k then (bif Nat.ble 6 k then (bif Nat.ble 7 k then (bif Nat.ble 8 k then (.array .long) else (.array .int)) else (.array .int)) else (bif Nat.ble 5 k then (.array .int) else (.array .int))) else (bif Nat.ble 2 k then (bif Nat.ble 3 k then (.array .int) else (.array .int)) else (bif Nat.ble 1 k then (.array .boolean) else (.array .boolean)))))
def fFin (k : Nat) : Bool := (bif Nat.ble 9 k then (bif Nat.ble 14 k then (bif Nat.ble 16 k then (bif Nat.ble 17 k then (bif Nat.ble 18 k then false else false) else false) else (bif Nat.ble 15 k then false else false)) else (bif Nat.ble 11 k then (bif Nat.ble 12 k then (bif Nat.ble 13 k then false else false) else false) else (bif Nat.ble 10 k then false else false))) else (bif Nat.ble 4 k then (bif Nat.ble 6 k then (bif Nat.ble 7 k then (bif Nat.ble 8 k then false else false) else false) else (bif Nat.ble 5 k then false else false)) else (bif Nat.ble 2 k then (bif Nat.ble 3 k then false else false) else (bif Nat.ble 1 k then false else false))))
def cDef : List Value := [.null, .null, .null, .null, .null, .null, .null, .null, .null, .int 0, .int 0, .int 0, .int 0, .int 0, .int 0, .int 0, .int 0, .int 0, .int 0]
def cK : List Value := []
def pN : Nat := 11
def pTop : Nat := 159
def pK (m : Nat) : Nat := (bif Nat.ble 5 m then (bif Nat.ble 8 m then (bif Nat.ble 9 m then (bif Nat.ble 10 m then 1 else 1) else 1) else (bif Nat.ble 6 m then (bif Nat.ble 7 m then 1 else 1) else 1)) else (bif Nat.ble 2 m then (bif Nat.ble 3 m then (bif Nat.ble 4 m then 1 else 1) else 1) else (bif Nat.ble 1 m then 1 else 0)))
def pNm (m : Nat) : String := (bif Nat.ble 5 m then (bif Nat.ble 8 m then (bif Nat.ble 9 m then (bif Nat.ble 10 m then "resultExt" else "resultPort") else "resultHost") else (bif Nat.ble 6 m then (bif Nat.ble 7 m then "liveCount" else "now") else "availTime")) else (bif Nat.ble 2 m then (bif Nat.ble 3 m then (bif Nat.ble 4 m then "slotOf" else "availableFrom") else "clamp") else (bif Nat.ble 1 m then "<init>" else "law")))
def pDs (m : Nat) : String := (bif Nat.ble 5 m then (bif Nat.ble 8 m then (bif Nat.ble 9 m then (bif Nat.ble 10 m then "()I" else "()I") else "()I") else (bif Nat.ble 6 m then (bif Nat.ble 7 m then "()I" else "()I") else "(I)I")) else (bif Nat.ble 2 m then (bif Nat.ble 3 m then (bif Nat.ble 4 m then "(I)I" else "(I)I") else "(III)I") else (bif Nat.ble 1 m then "(IIII)V" else "(IIIII)Z")))
def pName (m : Nat) : MethodName := ⟨kName (pK m), pNm m, pDs m⟩
def pBytes (m : Nat) : ByteArray := (bif Nat.ble 5 m then (bif Nat.ble 8 m then (bif Nat.ble 9 m then (bif Nat.ble 10 m then prog_1_method_9_code else prog_1_method_8_code) else prog_1_method_7_code) else (bif Nat.ble 6 m then (bif Nat.ble 7 m then prog_1_method_10_code else prog_1_method_6_code) else prog_1_method_24_code)) else (bif Nat.ble 2 m then (bif Nat.ble 3 m then (bif Nat.ble 4 m then prog_1_method_20_code else prog_1_method_17_code) else prog_1_method_18_code) else (bif Nat.ble 1 m then prog_1_method_1_code else code)))
def pMaxL (m : Nat) : Nat := (bif Nat.ble 5 m then (bif Nat.ble 8 m then (bif Nat.ble 9 m then (bif Nat.ble 10 m then 1 else 1) else 1) else (bif Nat.ble 6 m then (bif Nat.ble 7 m then 3 else 1) else 2)) else (bif Nat.ble 2 m then (bif Nat.ble 3 m then (bif Nat.ble 4 m then 2 else 3) else 4) else (bif Nat.ble 1 m then 5 else 9)))
def pRet (m : Nat) : Option FieldType := (bif Nat.ble 5 m then (bif Nat.ble 8 m then (bif Nat.ble 9 m then (bif Nat.ble 10 m then (some .int) else (some .int)) else (some .int)) else (bif Nat.ble 6 m then (bif Nat.ble 7 m then (some .int) else (some .int)) else (some .int))) else (bif Nat.ble 2 m then (bif Nat.ble 3 m then (bif Nat.ble 4 m then (some .int) else (some .int)) else (some .int)) else (bif Nat.ble 1 m then none else (some .boolean))))
def pNA (m : Nat) : Nat := (bif Nat.ble 5 m then (bif Nat.ble 8 m then (bif Nat.ble 9 m then (bif Nat.ble 10 m then 0 else 0) else 0) else (bif Nat.ble 6 m then (bif Nat.ble 7 m then 0 else 0) else 1)) else (bif Nat.ble 2 m then (bif Nat.ble 3 m then (bif Nat.ble 4 m then 1 else 1) else 3) else (bif Nat.ble 1 m then 4 else 5)))
def pFr (m : Nat) : Nat := (bif Nat.ble 5 m then (bif Nat.ble 8 m then (bif Nat.ble 9 m then (bif Nat.ble 10 m then 0 else 0) else 0) else (bif Nat.ble 6 m then (bif Nat.ble 7 m then 0 else 0) else 0)) else (bif Nat.ble 2 m then (bif Nat.ble 3 m then (bif Nat.ble 4 m then 0 else 1) else 0) else (bif Nat.ble 1 m then 1 else 2)))
def pLo (m : Nat) : Nat := (bif Nat.ble 5 m then (bif Nat.ble 8 m then (bif Nat.ble 9 m then (bif Nat.ble 10 m then 0 else 0) else 0) else (bif Nat.ble 6 m then (bif Nat.ble 7 m then 0 else 0) else 0)) else (bif Nat.ble 2 m then (bif Nat.ble 3 m then (bif Nat.ble 4 m then 0 else 13) else 0) else (bif Nat.ble 1 m then 16 else 33)))
def cd0 (pc : Nat) : Option (Instr × Nat) := (bif Nat.ble 70 pc then (bif Nat.ble 106 pc then (bif Nat.ble 124 pc then (bif Nat.ble 132 pc then (bif Nat.ble 136 pc then (bif Nat.ble 137 pc then (bif Nat.ble 138 pc then (bif Nat.beq pc 138 then some (.ireturn, 0) else none) else (bif Nat.beq pc 137 then some (.iconst 1, 0) else none)) else (bif Nat.beq pc 136 then some (.ireturn, 0) else none)) else (bif Nat.ble 135 pc then (bif Nat.beq pc 135 then some (.iconst 0, 0) else none) else (bif Nat.beq pc 132 then some (.if_icmp .eq 5, 137) else none))) else (bif Nat.ble 126 pc then (bif Nat.ble 128 pc then (bif Nat.ble 131 pc then (bif Nat.beq pc 131 then some (.iconst (-1), 0) else none) else (bif Nat.beq pc 128 then some (.invokevirtual 29, 10) else none)) else (bif Nat.beq pc 126 then some (.aload 5, 0) else none)) else (bif Nat.ble 125 pc then (bif Nat.beq pc 125 then some (.ireturn, 0) else none) else (bif Nat.beq pc 124 then some (.iconst 0, 0) else none)))) else (bif Nat.ble 114 pc then (bif Nat.ble 117 pc then (bif Nat.ble 120 pc then (bif Nat.ble 121 pc then (bif Nat.beq pc 121 then some (.if_icmp .eq 5, 126) else none) else (bif Nat.beq pc 120 then some (.iconst (-1), 0) else none)) else (bif Nat.beq pc 117 then some (.invokevirtual 26, 9) else none)) else (bif Nat.ble 115 pc then (bif Nat.beq pc 115 then some (.aload 5, 0) else none) else (bif Nat.beq pc 114 then some (.ireturn, 0) else none))) else (bif Nat.ble 110 pc then (bif Nat.ble 113 pc then (bif Nat.beq pc 113 then some (.iconst 0, 0) else none) else (bif Nat.beq pc 110 then some (.if_icmp .eq 5, 115) else none)) else (bif Nat.ble 109 pc then (bif Nat.beq pc 109 then some (.iconst (-1), 0) else none) else (bif Nat.beq pc 106 then some (.invokevirtual 23, 8) else none))))) else (bif Nat.ble 89 pc then (bif Nat.ble 96 pc then (bif Nat.ble 102 pc then (bif Nat.ble 103 pc then (bif Nat.ble 104 pc then (bif Nat.beq pc 104 then some (.aload 5, 0) else none) else (bif Nat.beq pc 103 then some (.ireturn, 0) else none)) else (bif Nat.beq pc 102 then some (.iconst 0, 0) else none)) else (bif Nat.ble 99 pc then (bif Nat.beq pc 99 then some (.ifCond .eq 5, 104) else none) else (bif Nat.beq pc 96 then some (.invokevirtual 20, 7) else none))) else (bif Nat.ble 93 pc then (bif Nat.ble 94 pc then (bif Nat.beq pc 94 then some (.aload 5, 0) else none) else (bif Nat.beq pc 93 then some (.ireturn, 0) else none)) else (bif Nat.ble 92 pc then (bif Nat.beq pc 92 then some (.iconst 0, 0) else none) else (bif Nat.beq pc 89 then some (.ifCond .eq 5, 94) else none)))) else (bif Nat.ble 79 pc then (bif Nat.ble 83 pc then (bif Nat.ble 84 pc then (bif Nat.ble 86 pc then (bif Nat.beq pc 86 then some (.invokevirtual 16, 6) else none) else (bif Nat.beq pc 84 then some (.aload 5, 0) else none)) else (bif Nat.beq pc 83 then some (.ireturn, 0) else none)) else (bif Nat.ble 82 pc then (bif Nat.beq pc 82 then some (.iconst 0, 0) else none) else (bif Nat.beq pc 79 then some (.if_icmp .eq 5, 84) else none))) else (bif Nat.ble 74 pc then (bif Nat.ble 77 pc then (bif Nat.beq pc 77 then some (.iload 8, 0) else none) else (bif Nat.beq pc 74 then some (.invokevirtual 12, 3) else none)) else (bif Nat.ble 72 pc then (bif Nat.beq pc 72 then some (.iload 7, 0) else none) else (bif Nat.beq pc 70 then some (.aload 5, 0) else none)))))) else (bif Nat.ble 33 pc then (bif Nat.ble 52 pc then (bif Nat.ble 60 pc then (bif Nat.ble 64 pc then (bif Nat.ble 67 pc then (bif Nat.ble 68 pc then (bif Nat.beq pc 68 then some (.istore 8, 0) else none) else (bif Nat.beq pc 67 then some (.iconst (-1), 0) else none)) else (bif Nat.beq pc 64 then some (.goto 4, 68) else none)) else (bif Nat.ble 63 pc then (bif Nat.beq pc 63 then some (.iconst 0, 0) else none) else (bif Nat.beq pc 60 then some (.if_icmp .ge 7, 67) else none))) else (bif Nat.ble 57 pc then (bif Nat.ble 59 pc then (bif Nat.beq pc 59 then some (.iadd, 0) else none) else (bif Nat.beq pc 57 then some (.iload 6, 0) else none)) else (bif Nat.ble 54 pc then (bif Nat.beq pc 54 then some (.sipush 5000, 0) else none) else (bif Nat.beq pc 52 then some (.iload 7, 0) else none)))) else (bif Nat.ble 41 pc then (bif Nat.ble 44 pc then (bif Nat.ble 46 pc then (bif Nat.ble 49 pc then (bif Nat.beq pc 49 then some (.if_icmp .lt 18, 67) else none) else (bif Nat.beq pc 46 then some (.sipush 5000, 0) else none)) else (bif Nat.beq pc 44 then some (.iload 7, 0) else none)) else (bif Nat.ble 42 pc then (bif Nat.beq pc 42 then some (.istore 7, 0) else none) else (bif Nat.beq pc 41 then some (.iadd, 0) else none))) else (bif Nat.ble 36 pc then (bif Nat.ble 39 pc then (bif Nat.beq pc 39 then some (.iload 4, 0) else none) else (bif Nat.beq pc 36 then some (.sipush 5000, 0) else none)) else (bif Nat.ble 34 pc then (bif Nat.beq pc 34 then some (.istore 6, 0) else none) else (bif Nat.beq pc 33 then some (.iload_n 0, 0) else none))))) else (bif Nat.ble 14 pc then (bif Nat.ble 22 pc then (bif Nat.ble 25 pc then (bif Nat.ble 28 pc then (bif Nat.ble 30 pc then (bif Nat.beq pc 30 then some (.goto 4, 34) else none) else (bif Nat.beq pc 28 then some (.bipush 16, 0) else none)) else (bif Nat.beq pc 25 then some (.if_icmp .le 8, 33) else none)) else (bif Nat.ble 23 pc then (bif Nat.beq pc 23 then some (.bipush 16, 0) else none) else (bif Nat.beq pc 22 then some (.iload_n 0, 0) else none))) else (bif Nat.ble 18 pc then (bif Nat.ble 19 pc then (bif Nat.beq pc 19 then some (.goto 15, 34) else none) else (bif Nat.beq pc 18 then some (.iconst 2, 0) else none)) else (bif Nat.ble 15 pc then (bif Nat.beq pc 15 then some (.if_icmp .ge 7, 22) else none) else (bif Nat.beq pc 14 then some (.iconst 2, 0) else none)))) else (bif Nat.ble 6 pc then (bif Nat.ble 8 pc then (bif Nat.ble 11 pc then (bif Nat.ble 13 pc then (bif Nat.beq pc 13 then some (.iload_n 0, 0) else none) else (bif Nat.beq pc 11 then some (.astore 5, 0) else none)) else (bif Nat.beq pc 8 then some (.invokespecial 9, 1) else none)) else (bif Nat.ble 7 pc then (bif Nat.beq pc 7 then some (.iload_n 3, 0) else none) else (bif Nat.beq pc 6 then some (.iload_n 2, 0) else none))) else (bif Nat.ble 4 pc then (bif Nat.ble 5 pc then (bif Nat.beq pc 5 then some (.iload_n 1, 0) else none) else (bif Nat.beq pc 4 then some (.iload_n 0, 0) else none)) else (bif Nat.ble 3 pc then (bif Nat.beq pc 3 then some (.dup, 0) else none) else (bif Nat.beq pc 0 then some (.new 7, 0) else none)))))))
def cd1 (pc : Nat) : Option (Instr × Nat) := (bif Nat.ble 80 pc then (bif Nat.ble 119 pc then (bif Nat.ble 140 pc then (bif Nat.ble 149 pc then (bif Nat.ble 154 pc then (bif Nat.ble 155 pc then (bif Nat.ble 158 pc then (bif Nat.beq pc 158 then some (.return_, 0) else none) else (bif Nat.beq pc 155 then some (.putfield 71, 18) else none)) else (bif Nat.beq pc 154 then some (.iconst (-1), 0) else none)) else (bif Nat.ble 150 pc then (bif Nat.ble 153 pc then (bif Nat.beq pc 153 then some (.aload_n 0, 0) else none) else (bif Nat.beq pc 150 then some (.putfield 68, 17) else none)) else (bif Nat.beq pc 149 then some (.iconst (-1), 0) else none))) else (bif Nat.ble 144 pc then (bif Nat.ble 145 pc then (bif Nat.ble 148 pc then (bif Nat.beq pc 148 then some (.aload_n 0, 0) else none) else (bif Nat.beq pc 145 then some (.putfield 65, 16) else none)) else (bif Nat.beq pc 144 then some (.iconst (-1), 0) else none)) else (bif Nat.ble 143 pc then (bif Nat.beq pc 143 then some (.aload_n 0, 0) else none) else (bif Nat.beq pc 140 then some (.putfield 62, 15) else none)))) else (bif Nat.ble 130 pc then (bif Nat.ble 135 pc then (bif Nat.ble 138 pc then (bif Nat.ble 139 pc then (bif Nat.beq pc 139 then some (.iconst 0, 0) else none) else (bif Nat.beq pc 138 then some (.aload_n 0, 0) else none)) else (bif Nat.beq pc 135 then some (.putfield 59, 14) else none)) else (bif Nat.ble 133 pc then (bif Nat.ble 134 pc then (bif Nat.beq pc 134 then some (.iconst 0, 0) else none) else (bif Nat.beq pc 133 then some (.aload_n 0, 0) else none)) else (bif Nat.beq pc 130 then some (.putfield 56, 13) else none))) else (bif Nat.ble 125 pc then (bif Nat.ble 128 pc then (bif Nat.ble 129 pc then (bif Nat.beq pc 129 then some (.iconst 0, 0) else none) else (bif Nat.beq pc 128 then some (.aload_n 0, 0) else none)) else (bif Nat.beq pc 125 then some (.putfield 53, 12) else none)) else (bif Nat.ble 122 pc then (bif Nat.beq pc 122 then some (.invokevirtual 39, 2) else none) else (bif Nat.beq pc 119 then some (.sipush 1000, 0) else none))))) else (bif Nat.ble 101 pc then (bif Nat.ble 108 pc then (bif Nat.ble 115 pc then (bif Nat.ble 116 pc then (bif Nat.ble 118 pc then (bif Nat.beq pc 118 then some (.iconst 0, 0) else none) else (bif Nat.beq pc 116 then some (.iload 4, 0) else none)) else (bif Nat.beq pc 115 then some (.aload_n 0, 0) else none)) else (bif Nat.ble 111 pc then (bif Nat.ble 114 pc then (bif Nat.beq pc 114 then some (.aload_n 0, 0) else none) else (bif Nat.beq pc 111 then some (.putfield 50, 11) else none)) else (bif Nat.beq pc 108 then some (.invokevirtual 39, 2) else none))) else (bif Nat.ble 103 pc then (bif Nat.ble 104 pc then (bif Nat.ble 105 pc then (bif Nat.beq pc 105 then some (.sipush 1000, 0) else none) else (bif Nat.beq pc 104 then some (.iconst 1, 0) else none)) else (bif Nat.beq pc 103 then some (.iload_n 3, 0) else none)) else (bif Nat.ble 102 pc then (bif Nat.beq pc 102 then some (.aload_n 0, 0) else none) else (bif Nat.beq pc 101 then some (.aload_n 0, 0) else none)))) else (bif Nat.ble 90 pc then (bif Nat.ble 92 pc then (bif Nat.ble 95 pc then (bif Nat.ble 98 pc then (bif Nat.beq pc 98 then some (.putfield 47, 10) else none) else (bif Nat.beq pc 95 then some (.invokevirtual 39, 2) else none)) else (bif Nat.beq pc 92 then some (.sipush 1000, 0) else none)) else (bif Nat.ble 91 pc then (bif Nat.beq pc 91 then some (.iconst 1, 0) else none) else (bif Nat.beq pc 90 then some (.iload_n 2, 0) else none))) else (bif Nat.ble 85 pc then (bif Nat.ble 88 pc then (bif Nat.ble 89 pc then (bif Nat.beq pc 89 then some (.aload_n 0, 0) else none) else (bif Nat.beq pc 88 then some (.aload_n 0, 0) else none)) else (bif Nat.beq pc 85 then some (.putfield 43, 9) else none)) else (bif Nat.ble 82 pc then (bif Nat.beq pc 82 then some (.invokevirtual 39, 2) else none) else (bif Nat.beq pc 80 then some (.bipush 16, 0) else none)))))) else (bif Nat.ble 41 pc then (bif Nat.ble 61 pc then (bif Nat.ble 71 pc then (bif Nat.ble 77 pc then (bif Nat.ble 78 pc then (bif Nat.ble 79 pc then (bif Nat.beq pc 79 then some (.iconst 2, 0) else none) else (bif Nat.beq pc 78 then some (.iload_n 1, 0) else none)) else (bif Nat.beq pc 77 then some (.aload_n 0, 0) else none)) else (bif Nat.ble 73 pc then (bif Nat.ble 76 pc then (bif Nat.beq pc 76 then some (.aload_n 0, 0) else none) else (bif Nat.beq pc 73 then some (.putfield 35, 8) else none)) else (bif Nat.beq pc 71 then some (.newarray .long, 0) else none))) else (bif Nat.ble 65 pc then (bif Nat.ble 68 pc then (bif Nat.ble 69 pc then (bif Nat.beq pc 69 then some (.bipush 64, 0) else none) else (bif Nat.beq pc 68 then some (.aload_n 0, 0) else none)) else (bif Nat.beq pc 65 then some (.putfield 32, 7) else none)) else (bif Nat.ble 63 pc then (bif Nat.beq pc 63 then some (.newarray .int, 0) else none) else (bif Nat.beq pc 61 then some (.bipush 16, 0) else none)))) else (bif Nat.ble 52 pc then (bif Nat.ble 55 pc then (bif Nat.ble 57 pc then (bif Nat.ble 60 pc then (bif Nat.beq pc 60 then some (.aload_n 0, 0) else none) else (bif Nat.beq pc 57 then some (.putfield 29, 6) else none)) else (bif Nat.beq pc 55 then some (.newarray .int, 0) else none)) else (bif Nat.ble 53 pc then (bif Nat.beq pc 53 then some (.bipush 16, 0) else none) else (bif Nat.beq pc 52 then some (.aload_n 0, 0) else none))) else (bif Nat.ble 45 pc then (bif Nat.ble 47 pc then (bif Nat.ble 49 pc then (bif Nat.beq pc 49 then some (.putfield 26, 5) else none) else (bif Nat.beq pc 47 then some (.newarray .int, 0) else none)) else (bif Nat.beq pc 45 then some (.bipush 16, 0) else none)) else (bif Nat.ble 44 pc then (bif Nat.beq pc 44 then some (.aload_n 0, 0) else none) else (bif Nat.beq pc 41 then some (.putfield 23, 4) else none))))) else (bif Nat.ble 20 pc then (bif Nat.ble 29 pc then (bif Nat.ble 36 pc then (bif Nat.ble 37 pc then (bif Nat.ble 39 pc then (bif Nat.beq pc 39 then some (.newarray .int, 0) else none) else (bif Nat.beq pc 37 then some (.bipush 16, 0) else none)) else (bif Nat.beq pc 36 then some (.aload_n 0, 0) else none)) else (bif Nat.ble 31 pc then (bif Nat.ble 33 pc then (bif Nat.beq pc 33 then some (.putfield 20, 3) else none) else (bif Nat.beq pc 31 then some (.newarray .int, 0) else none)) else (bif Nat.beq pc 29 then some (.bipush 16, 0) else none))) else (bif Nat.ble 23 pc then (bif Nat.ble 25 pc then (bif Nat.ble 28 pc then (bif Nat.beq pc 28 then some (.aload_n 0, 0) else none) else (bif Nat.beq pc 25 then some (.putfield 16, 2) else none)) else (bif Nat.beq pc 23 then some (.newarray .int, 0) else none)) else (bif Nat.ble 21 pc then (bif Nat.beq pc 21 then some (.bipush 16, 0) else none) else (bif Nat.beq pc 20 then some (.aload_n 0, 0) else none)))) else (bif Nat.ble 9 pc then (bif Nat.ble 13 pc then (bif Nat.ble 15 pc then (bif Nat.ble 17 pc then (bif Nat.beq pc 17 then some (.putfield 13, 1) else none) else (bif Nat.beq pc 15 then some (.newarray .boolean, 0) else none)) else (bif Nat.beq pc 13 then some (.bipush 16, 0) else none)) else (bif Nat.ble 12 pc then (bif Nat.beq pc 12 then some (.aload_n 0, 0) else none) else (bif Nat.beq pc 9 then some (.putfield 7, 0) else none))) else (bif Nat.ble 4 pc then (bif Nat.ble 5 pc then (bif Nat.ble 7 pc then (bif Nat.beq pc 7 then some (.newarray .boolean, 0) else none) else (bif Nat.beq pc 5 then some (.bipush 16, 0) else none)) else (bif Nat.beq pc 4 then some (.aload_n 0, 0) else none)) else (bif Nat.ble 1 pc then (bif Nat.beq pc 1 then some (.invokespecial 1, 0) else none) else (bif Nat.beq pc 0 then some (.aload_n 0, 0) else none)))))))
def cd2 (pc : Nat) : Option (Instr × Nat) := (bif Nat.ble 8 pc then (bif Nat.ble 13 pc then (bif Nat.ble 14 pc then (bif Nat.ble 15 pc then (bif Nat.beq pc 15 then some (.ireturn, 0) else none) else (bif Nat.beq pc 14 then some (.iload_n 1, 0) else none)) else (bif Nat.beq pc 13 then some (.ireturn, 0) else none)) else (bif Nat.ble 9 pc then (bif Nat.ble 12 pc then (bif Nat.beq pc 12 then some (.iload_n 3, 0) else none) else (bif Nat.beq pc 9 then some (.if_icmp .le 5, 14) else none)) else (bif Nat.beq pc 8 then some (.iload_n 3, 0) else none))) else (bif Nat.ble 5 pc then (bif Nat.ble 6 pc then (bif Nat.ble 7 pc then (bif Nat.beq pc 7 then some (.iload_n 1, 0) else none) else (bif Nat.beq pc 6 then some (.ireturn, 0) else none)) else (bif Nat.beq pc 5 then some (.iload_n 2, 0) else none)) else (bif Nat.ble 1 pc then (bif Nat.ble 2 pc then (bif Nat.beq pc 2 then some (.if_icmp .ge 5, 7) else none) else (bif Nat.beq pc 1 then some (.iload_n 2, 0) else none)) else (bif Nat.beq pc 0 then some (.iload_n 1, 0) else none))))
def cd3 (pc : Nat) : Option (Instr × Nat) := (bif Nat.ble 14 pc then (bif Nat.ble 20 pc then (bif Nat.ble 22 pc then (bif Nat.ble 23 pc then (bif Nat.ble 26 pc then (bif Nat.beq pc 26 then some (.ireturn, 0) else none) else (bif Nat.beq pc 23 then some (.invokevirtual 118, 5) else none)) else (bif Nat.beq pc 22 then some (.iload_n 2, 0) else none)) else (bif Nat.ble 21 pc then (bif Nat.beq pc 21 then some (.aload_n 0, 0) else none) else (bif Nat.beq pc 20 then some (.ireturn, 0) else none))) else (bif Nat.ble 16 pc then (bif Nat.ble 19 pc then (bif Nat.beq pc 19 then some (.iconst (-1), 0) else none) else (bif Nat.beq pc 16 then some (.ifCond .eq 5, 21) else none)) else (bif Nat.ble 15 pc then (bif Nat.beq pc 15 then some (.baload, 0) else none) else (bif Nat.beq pc 14 then some (.iload_n 2, 0) else none)))) else (bif Nat.ble 6 pc then (bif Nat.ble 10 pc then (bif Nat.ble 11 pc then (bif Nat.beq pc 11 then some (.getfield 7, 0) else none) else (bif Nat.beq pc 10 then some (.aload_n 0, 0) else none)) else (bif Nat.ble 7 pc then (bif Nat.beq pc 7 then some (.ifCond .lt 12, 19) else none) else (bif Nat.beq pc 6 then some (.iload_n 2, 0) else none))) else (bif Nat.ble 2 pc then (bif Nat.ble 5 pc then (bif Nat.beq pc 5 then some (.istore_n 2, 0) else none) else (bif Nat.beq pc 2 then some (.invokevirtual 115, 4) else none)) else (bif Nat.ble 1 pc then (bif Nat.beq pc 1 then some (.iload_n 1, 0) else none) else (bif Nat.beq pc 0 then some (.aload_n 0, 0) else none)))))
def cd4 (pc : Nat) : Option (Instr × Nat) := (bif Nat.ble 15 pc then (bif Nat.ble 21 pc then (bif Nat.ble 25 pc then (bif Nat.ble 26 pc then (bif Nat.beq pc 26 then some (.ireturn, 0) else none) else (bif Nat.beq pc 25 then some (.isub, 0) else none)) else (bif Nat.ble 22 pc then (bif Nat.beq pc 22 then some (.sipush 5000, 0) else none) else (bif Nat.beq pc 21 then some (.iload_n 1, 0) else none))) else (bif Nat.ble 19 pc then (bif Nat.ble 20 pc then (bif Nat.beq pc 20 then some (.ireturn, 0) else none) else (bif Nat.beq pc 19 then some (.iconst (-1), 0) else none)) else (bif Nat.ble 16 pc then (bif Nat.beq pc 16 then some (.if_icmp .lt 5, 21) else none) else (bif Nat.beq pc 15 then some (.iadd, 0) else none)))) else (bif Nat.ble 7 pc then (bif Nat.ble 11 pc then (bif Nat.ble 12 pc then (bif Nat.beq pc 12 then some (.getfield 43, 9) else none) else (bif Nat.beq pc 11 then some (.aload_n 0, 0) else none)) else (bif Nat.ble 8 pc then (bif Nat.beq pc 8 then some (.sipush 5000, 0) else none) else (bif Nat.beq pc 7 then some (.iload_n 1, 0) else none))) else (bif Nat.ble 1 pc then (bif Nat.ble 4 pc then (bif Nat.beq pc 4 then some (.if_icmp .lt 15, 19) else none) else (bif Nat.beq pc 1 then some (.sipush 5000, 0) else none)) else (bif Nat.beq pc 0 then some (.iload_n 1, 0) else none))))
def cd5 (pc : Nat) : Option (Instr × Nat) := (bif Nat.ble 11 pc then (bif Nat.ble 17 pc then (bif Nat.ble 21 pc then (bif Nat.ble 22 pc then (bif Nat.beq pc 22 then some (.ireturn, 0) else none) else (bif Nat.beq pc 21 then some (.iadd, 0) else none)) else (bif Nat.ble 18 pc then (bif Nat.beq pc 18 then some (.getfield 53, 12) else none) else (bif Nat.beq pc 17 then some (.aload_n 0, 0) else none))) else (bif Nat.ble 15 pc then (bif Nat.ble 16 pc then (bif Nat.beq pc 16 then some (.iaload, 0) else none) else (bif Nat.beq pc 15 then some (.iload_n 1, 0) else none)) else (bif Nat.ble 12 pc then (bif Nat.beq pc 12 then some (.getfield 16, 2) else none) else (bif Nat.beq pc 11 then some (.aload_n 0, 0) else none)))) else (bif Nat.ble 5 pc then (bif Nat.ble 9 pc then (bif Nat.ble 10 pc then (bif Nat.beq pc 10 then some (.ireturn, 0) else none) else (bif Nat.beq pc 9 then some (.iconst 0, 0) else none)) else (bif Nat.ble 6 pc then (bif Nat.beq pc 6 then some (.ifCond .ne 5, 11) else none) else (bif Nat.beq pc 5 then some (.baload, 0) else none))) else (bif Nat.ble 1 pc then (bif Nat.ble 4 pc then (bif Nat.beq pc 4 then some (.iload_n 1, 0) else none) else (bif Nat.beq pc 1 then some (.getfield 13, 1) else none)) else (bif Nat.beq pc 0 then some (.aload_n 0, 0) else none))))
def cd6 (pc : Nat) : Option (Instr × Nat) := (bif Nat.ble 1 pc then (bif Nat.ble 4 pc then (bif Nat.beq pc 4 then some (.ireturn, 0) else none) else (bif Nat.beq pc 1 then some (.getfield 56, 13) else none)) else (bif Nat.beq pc 0 then some (.aload_n 0, 0) else none))
def cd7 (pc : Nat) : Option (Instr × Nat) := (bif Nat.ble 13 pc then (bif Nat.ble 21 pc then (bif Nat.ble 27 pc then (bif Nat.ble 30 pc then (bif Nat.ble 31 pc then (bif Nat.beq pc 31 then some (.ireturn, 0) else none) else (bif Nat.beq pc 30 then some (.iload_n 1, 0) else none)) else (bif Nat.beq pc 27 then some (.goto (-23), 4) else none)) else (bif Nat.ble 24 pc then (bif Nat.beq pc 24 then some (.iinc 2 1, 0) else none) else (bif Nat.beq pc 21 then some (.iinc 1 1, 0) else none))) else (bif Nat.ble 17 pc then (bif Nat.ble 18 pc then (bif Nat.beq pc 18 then some (.ifCond .eq 6, 24) else none) else (bif Nat.beq pc 17 then some (.baload, 0) else none)) else (bif Nat.ble 16 pc then (bif Nat.beq pc 16 then some (.iload_n 2, 0) else none) else (bif Nat.beq pc 13 then some (.getfield 7, 0) else none)))) else (bif Nat.ble 4 pc then (bif Nat.ble 6 pc then (bif Nat.ble 9 pc then (bif Nat.ble 12 pc then (bif Nat.beq pc 12 then some (.aload_n 0, 0) else none) else (bif Nat.beq pc 9 then some (.if_icmp .ge 21, 30) else none)) else (bif Nat.beq pc 6 then some (.getfield 43, 9) else none)) else (bif Nat.ble 5 pc then (bif Nat.beq pc 5 then some (.aload_n 0, 0) else none) else (bif Nat.beq pc 4 then some (.iload_n 2, 0) else none))) else (bif Nat.ble 2 pc then (bif Nat.ble 3 pc then (bif Nat.beq pc 3 then some (.istore_n 2, 0) else none) else (bif Nat.beq pc 2 then some (.iconst 0, 0) else none)) else (bif Nat.ble 1 pc then (bif Nat.beq pc 1 then some (.istore_n 1, 0) else none) else (bif Nat.beq pc 0 then some (.iconst 0, 0) else none)))))
def cd8 (pc : Nat) : Option (Instr × Nat) := (bif Nat.ble 1 pc then (bif Nat.ble 4 pc then (bif Nat.beq pc 4 then some (.ireturn, 0) else none) else (bif Nat.beq pc 1 then some (.getfield 65, 16) else none)) else (bif Nat.beq pc 0 then some (.aload_n 0, 0) else none))
def cd9 (pc : Nat) : Option (Instr × Nat) := (bif Nat.ble 1 pc then (bif Nat.ble 4 pc then (bif Nat.beq pc 4 then some (.ireturn, 0) else none) else (bif Nat.beq pc 1 then some (.getfield 68, 17) else none)) else (bif Nat.beq pc 0 then some (.aload_n 0, 0) else none))
def cd10 (pc : Nat) : Option (Instr × Nat) := (bif Nat.ble 1 pc then (bif Nat.ble 4 pc then (bif Nat.beq pc 4 then some (.ireturn, 0) else none) else (bif Nat.beq pc 1 then some (.getfield 71, 18) else none)) else (bif Nat.beq pc 0 then some (.aload_n 0, 0) else none))
def pCode (m pc : Nat) : Option (Instr × Nat) := bif Nat.ble pN m then none else bif Nat.ble pTop pc then none else (bif Nat.ble 5 m then (bif Nat.ble 8 m then (bif Nat.ble 9 m then (bif Nat.ble 10 m then cd10 pc else cd9 pc) else cd8 pc) else (bif Nat.ble 6 m then (bif Nat.ble 7 m then cd7 pc else cd6 pc) else cd5 pc)) else (bif Nat.ble 2 m then (bif Nat.ble 3 m then (bif Nat.ble 4 m then cd4 pc else cd3 pc) else cd2 pc) else (bif Nat.ble 1 m then cd1 pc else cd0 pc)))
def lkF : List (Nat × Nat × Nat) := [(1, 7, 0), (1, 13, 1), (1, 16, 2), (1, 20, 3), (1, 23, 4), (1, 26, 5), (1, 29, 6), (1, 32, 7), (1, 35, 8), (1, 43, 9), (1, 47, 10), (1, 50, 11), (1, 53, 12), (1, 56, 13), (1, 59, 14), (1, 62, 15), (1, 65, 16), (1, 68, 17), (1, 71, 18)]
def lkN : List (Nat × Nat) := [(0, 7)]
def lkC : List (Nat × Nat × Nat) := []
def lkD : List (Nat × Nat × Nat) := []
def lkV : List (Nat × Nat × Nat) := [(0, 9, 1), (1, 39, 2), (0, 12, 3), (1, 115, 4), (1, 118, 5), (0, 16, 6), (0, 20, 7), (0, 23, 8), (0, 26, 9), (0, 29, 10)]
def lkO : List (Nat × Nat) := [(1, 1)]
def mV : List Nat := [3, 6, 7, 8, 9, 10]
def mP : List Nat := [2, 4, 5]
def mS : List Nat := []
def mI : List Nat := [1]
def mA : List Nat := [1, 2, 3, 4, 5, 6, 7, 8, 9, 10]
def aTys : List FieldType := [.boolean, .int, .long]
/-! ENGINE: abstract cells, locals, one-step function, and what a triple says of the model. -/
abbrev QCell := List Value ⊕ ((FieldType × List Int32) ⊕ List Int64)
abbrev QHeap := List QCell
abbrev QLoc := List (Option Value)
abbrev QSt := Nat × QLoc × List Value × QHeap
def qv (ad : Nat → Addr) : Value → Value
  | .ref k => .ref (ad k)
  | v => v
def qsz : QCell → Nat
  | .inl _ => cN
  | .inr (.inl x) => x.2.length
  | .inr (.inr x) => x.length
def qhs : QHeap → Nat
  | [] => 0
  | c :: t => qsz c + qhs t
def aget {α : Type} (xs : List α) (j : Int32) : Option α := if j < 0 then none else xs[j.toNatClampNeg]?
def aset {α : Type} (xs : List α) (j : Int32) (v : α) : Option (List α) := if j < 0 then none else if j.toNatClampNeg < xs.length then some (xs.set j.toNatClampNeg v) else none
def qnew (n : Int32) : Option Nat := if n < 0 then none else if n.toNatClampNeg ≤ 67108864 then some n.toNatClampNeg else none
def qdiv (x y : Int32) : Option Int32 := if y = 0 then none else some (x / y)
def qrem (x y : Int32) : Option Int32 := if y = 0 then none else some (x % y)
def qboo (x : Int32) : Option Int32 := if x = 0 then some x else if x = 1 then some x else none
def lget : QLoc → Nat → Option Value
  | [], _ => none
  | v :: _, 0 => v
  | _ :: t, k + 1 => lget t k
def hget : QHeap → Nat → Option QCell
  | [], _ => none
  | v :: _, 0 => some v
  | _ :: t, k + 1 => hget t k
def vget : List Value → Nat → Option Value
  | [], _ => none
  | v :: _, 0 => some v
  | _ :: t, k + 1 => vget t k
def lkill (L : QLoc) : Nat → QLoc
  | 0 => L
  | k + 1 => match lget L k with
    | some (.long _) => L.set k none
    | some (.double _) => L.set k none
    | _ => L
def lput (L : QLoc) (k : Nat) (v : Value) : Option QLoc :=
  match v with
  | .long x => bif Nat.ble (k + 2) L.length then some (((lkill L k).set k (some (.long x))).set (k + 1) none) else none
  | .double _ => none
  | v => bif Nat.ble (k + 1) L.length then some ((lkill L k).set k (some v)) else none
/-- push what a local holds, if it is of the kind -/
def qload (pc : Nat) (L : QLoc) (S : List Value) (σ : QHeap) (k : Nat) (ok : Value → Bool) : Option QSt :=
  match lget L k with
  | some v => bif ok v then some (pc, L, v :: S, σ) else none
  | none => none
def isI : Value → Bool | .int _ => true | _ => false
def isJ : Value → Bool | .long _ => true | _ => false
def isR : Value → Bool | .ref _ => true | _ => false
def qstore (pc : Nat) (L : QLoc) (S : List Value) (σ : QHeap) (k : Nat) (ok : Value → Bool) : Option QSt :=
  match S with
  | v :: S' => bif ok v then (match lput L k v with | some L' => some (pc, L', S', σ) | none => none) else none
  | [] => none
def qbin (pc : Nat) (L : QLoc) (S : List Value) (σ : QHeap) (f : Int32 → Int32 → Int32) : Option QSt :=
  match S with
  | .int y :: .int x :: S' => some (pc, L, .int (f x y) :: S', σ)
  | _ => none
def qbino (pc : Nat) (L : QLoc) (S : List Value) (σ : QHeap) (f : Int32 → Int32 → Option Int32) : Option QSt :=
  match S with
  | .int y :: .int x :: S' => (f x y).bind fun z => some (pc, L, .int z :: S', σ)
  | _ => none
def qbinJ (pc : Nat) (L : QLoc) (S : List Value) (σ : QHeap) (f : Int64 → Int64 → Int64) : Option QSt :=
  match S with
  | .long y :: .long x :: S' => some (pc, L, .long (f x y) :: S', σ)
  | _ => none
def qshJ (pc : Nat) (L : QLoc) (S : List Value) (σ : QHeap) (f : Int64 → Int32 → Int64) : Option QSt :=
  match S with
  | .int y :: .long x :: S' => some (pc, L, .long (f x y) :: S', σ)
  | _ => none
def quni (pc : Nat) (L : QLoc) (S : List Value) (σ : QHeap) (f : Int32 → Value) : Option QSt :=
  match S with
  | .int x :: S' => some (pc, L, f x :: S', σ)
  | _ => none
def quniJ (pc : Nat) (L : QLoc) (S : List Value) (σ : QHeap) (f : Int64 → Value) : Option QSt :=
  match S with
  | .long x :: S' => some (pc, L, f x :: S', σ)
  | _ => none
def qald (pc : Nat) (L : QLoc) (S : List Value) (σ : QHeap) (ok : FieldType → Bool) : Option QSt :=
  match S with
  | .int j :: .ref a :: S' => (match hget σ a with
    | some (.inr (.inl x)) => bif ok x.1 then (aget x.2 j).bind fun v => some (pc, L, .int v :: S', σ) else none
    | _ => none)
  | _ => none
def qaldJ (pc : Nat) (L : QLoc) (S : List Value) (σ : QHeap) : Option QSt :=
  match S with
  | .int j :: .ref a :: S' => (match hget σ a with
    | some (.inr (.inr x)) => (aget x j).bind fun v => some (pc, L, .long v :: S', σ)
    | _ => none)
  | _ => none
def qnar : FieldType → Int32 → Int32
  | .boolean, x => x &&& 1
  | .byte, x => x.toInt8.toInt32
  | _, x => x
def qast (pc : Nat) (L : QLoc) (S : List Value) (σ : QHeap) (ok : FieldType → Bool) : Option QSt :=
  match S with
  | .int v :: .int j :: .ref a :: S' => (match hget σ a with
    | some (.inr (.inl x)) => bif ok x.1 && Nat.ble k0 a then (aset x.2 j (qnar x.1 v)).bind fun y => some (pc, L, S', σ.set a (.inr (.inl (x.1, y)))) else none
    | _ => none)
  | _ => none
def qastJ (pc : Nat) (L : QLoc) (S : List Value) (σ : QHeap) : Option QSt :=
  match S with
  | .long v :: .int j :: .ref a :: S' => (match hget σ a with
    | some (.inr (.inr x)) => bif Nat.ble k0 a then (aset x j v).bind fun y => some (pc, L, S', σ.set a (.inr (.inr y))) else none
    | _ => none)
  | _ => none
def tyI : FieldType → Bool | .int => true | _ => false
def tyB : FieldType → Bool | .boolean => true | .byte => true | _ => false
/-- what a value becomes in a field of the type (none: it doesn't fit) -/
def qfit : FieldType → Value → Option Value
  | .int, .int x => some (.int x)
  | .boolean, .int x => (qboo x).bind fun y => some (.int y)
  | .long, .long x => some (.long x)
  | .array t, .ref a => some (.ref a)
  | _, _ => none
def qget (pc : Nat) (L : QLoc) (S : List Value) (σ : QHeap) (k : Nat) : Option QSt :=
  match S with
  | .ref a :: S' => (match hget σ a with
    | some (.inl vs) => (match vget vs k with | some v => some (pc, L, v :: S', σ) | none => none)
    | _ => none)
  | _ => none
def qput (pc : Nat) (L : QLoc) (S : List Value) (σ : QHeap) (k : Nat) : Option QSt :=
  match S with
  | v :: .ref a :: S' => (match hget σ a with
    | some (.inl vs) => bif Nat.ble k0 a && Nat.ble (k + 1) vs.length then (qfit (fTy k) v).bind fun w => some (pc, L, S', σ.set a (.inl (vs.set k w))) else none
    | _ => none)
  | _ => none
def qnewA (pc : Nat) (L : QLoc) (S : List Value) (σ : QHeap) (t : ArrayType) : Option QSt :=
  match S with
  | .int n :: S' => (match t with
    | .int => (qnew n).bind fun k => some (pc, L, .ref σ.length :: S', σ ++ [.inr (.inl (.int, List.replicate k 0))])
    | .boolean => (qnew n).bind fun k => some (pc, L, .ref σ.length :: S', σ ++ [.inr (.inl (.boolean, List.replicate k 0))])
    | .byte => (qnew n).bind fun k => some (pc, L, .ref σ.length :: S', σ ++ [.inr (.inl (.byte, List.replicate k 0))])
    | .long => (qnew n).bind fun k => some (pc, L, .ref σ.length :: S', σ ++ [.inr (.inr (List.replicate k 0))])
    | _ => none)
  | _ => none
def qlen (pc : Nat) (L : QLoc) (S : List Value) (σ : QHeap) : Option QSt :=
  match S with
  | .ref a :: S' => (match hget σ a with
    | some (.inr (.inl x)) => some (pc, L, .int x.2.length.toInt32 :: S', σ)
    | some (.inr (.inr x)) => some (pc, L, .int x.length.toInt32 :: S', σ)
    | _ => none)
  | _ => none
def qdup (pc : Nat) (L : QLoc) (S : List Value) (σ : QHeap) : Option QSt :=
  match S with
  | .int x :: S' => some (pc, L, .int x :: .int x :: S', σ)
  | .ref x :: S' => some (pc, L, .ref x :: .ref x :: S', σ)
  | _ => none
def qdup2 (pc : Nat) (L : QLoc) (S : List Value) (σ : QHeap) : Option QSt :=
  match S with
  | .int x :: .ref y :: S' => some (pc, L, .int x :: .ref y :: .int x :: .ref y :: S', σ)
  | .int x :: .int y :: S' => some (pc, L, .int x :: .int y :: .int x :: .int y :: S', σ)
  | .long x :: S' => some (pc, L, .long x :: .long x :: S', σ)
  | _ => none
def qpop (pc : Nat) (L : QLoc) (S : List Value) (σ : QHeap) : Option QSt :=
  match S with
  | .int _ :: S' => some (pc, L, S', σ)
  | .ref _ :: S' => some (pc, L, S', σ)
  | _ => none
def qif (pc : Nat) (L : QLoc) (S : List Value) (σ : QHeap) (cd : ClassFile.Cond) (tgt : Nat) : Option QSt :=
  match S with
  | .int x :: S' => some (bif ifCond.holds cd x then tgt else pc, L, S', σ)
  | _ => none
def qicmp (pc : Nat) (L : QLoc) (S : List Value) (σ : QHeap) (cd : ClassFile.Cond) (tgt : Nat) : Option QSt :=
  match S with
  | .int y :: .int x :: S' => some (bif if_icmp.holds cd x y then tgt else pc, L, S', σ)
  | _ => none
def qinc (pc : Nat) (L : QLoc) (S : List Value) (σ : QHeap) (k : Nat) (i : Int) : Option QSt :=
  match lget L k with
  | some (.int x) => (match lput L k (.int (x + Int32.ofInt i)) with | some L' => some (pc, L', S, σ) | none => none)
  | _ => none
def qldc (pc : Nat) (L : QLoc) (S : List Value) (σ : QHeap) (k : Nat) : Option QSt :=
  match vget cK k with
  | some v => some (pc, L, v :: S, σ)
  | none => none
def qexec (pc : Nat) (L : QLoc) (S : List Value) (σ : QHeap) (aux : Nat) : Instr → Option QSt
  | .aload_n k => qload (pc + 1) L S σ k.val isR
  | .aload k => qload (pc + 2) L S σ k isR
  | .iload_n k => qload (pc + 1) L S σ k.val isI
  | .iload k => qload (pc + 2) L S σ k isI
  | .lload_n k => qload (pc + 1) L S σ k.val isJ
  | .lload k => qload (pc + 2) L S σ k isJ
  | .iconst i => some (pc + 1, L, .int (Int32.ofInt i) :: S, σ)
  | .bipush i => some (pc + 2, L, .int (Int8.ofInt i).toInt32 :: S, σ)
  | .sipush i => some (pc + 3, L, .int (Int16.ofInt i).toInt32 :: S, σ)
  | .lconst k => some (pc + 1, L, .long (Int64.ofNat k.val) :: S, σ)
  | .ldc _ => qldc (pc + 2) L S σ aux
  | .ldc2_w _ => qldc (pc + 3) L S σ aux
  | .istore_n k => qstore (pc + 1) L S σ k.val isI
  | .istore k => qstore (pc + 2) L S σ k isI
  | .lstore_n k => qstore (pc + 1) L S σ k.val isJ
  | .lstore k => qstore (pc + 2) L S σ k isJ
  | .astore_n k => qstore (pc + 1) L S σ k.val isR
  | .astore k => qstore (pc + 2) L S σ k isR
  | .iinc k i => qinc (pc + 3) L S σ k i
  | .iadd => qbin (pc + 1) L S σ fun x y => x + y
  | .isub => qbin (pc + 1) L S σ fun x y => x - y
  | .imul => qbin (pc + 1) L S σ fun x y => x * y
  | .iand => qbin (pc + 1) L S σ fun x y => x &&& y
  | .ior => qbin (pc + 1) L S σ fun x y => x ||| y
  | .ixor => qbin (pc + 1) L S σ fun x y => x ^^^ y
  | .ishl => qbin (pc + 1) L S σ fun x y => x <<< (y &&& 31)
  | .ishr => qbin (pc + 1) L S σ fun x y => x >>> (y &&& 31)
  | .iushr => qbin (pc + 1) L S σ fun x y => XT.ushr x y
  | .idiv => qbino (pc + 1) L S σ qdiv
  | .irem => qbino (pc + 1) L S σ qrem
  | .ineg => quni (pc + 1) L S σ fun x => .int (-x)
  | .i2l => quni (pc + 1) L S σ fun x => .long x.toInt64
  | .i2b => quni (pc + 1) L S σ fun x => .int x.toInt8.toInt32
  | .l2i => quniJ (pc + 1) L S σ fun x => .int x.toInt32
  | .lneg => quniJ (pc + 1) L S σ fun x => .long (-x)
  | .ladd => qbinJ (pc + 1) L S σ fun x y => x + y
  | .lsub => qbinJ (pc + 1) L S σ fun x y => x - y
  | .lmul => qbinJ (pc + 1) L S σ fun x y => x * y
  | .land => qbinJ (pc + 1) L S σ fun x y => x &&& y
  | .lor => qbinJ (pc + 1) L S σ fun x y => x ||| y
  | .lxor => qbinJ (pc + 1) L S σ fun x y => x ^^^ y
  | .lshl => qshJ (pc + 1) L S σ fun x y => x <<< (y.toInt64 &&& 63)
  | .lshr => qshJ (pc + 1) L S σ fun x y => x >>> (y.toInt64 &&& 63)
  | .lushr => qshJ (pc + 1) L S σ fun x y => XT.ushrL x y
  | .lcmp => (match S with
    | .long y :: .long x :: S' => some (pc + 1, L, .int (XT.cmpL x y) :: S', σ)
    | _ => none)
  | .goto _ => some (aux, L, S, σ)
  | .ifCond cd _ => qif (pc + 3) L S σ cd aux
  | .if_icmp cd _ => qicmp (pc + 3) L S σ cd aux
  | .dup => qdup (pc + 1) L S σ
  | .dup2 => qdup2 (pc + 1) L S σ
  | .pop => qpop (pc + 1) L S σ
  | .getfield _ => qget (pc + 3) L S σ aux
  | .putfield _ => qput (pc + 3) L S σ aux
  | .iaload => qald (pc + 1) L S σ tyI
  | .baload => qald (pc + 1) L S σ tyB
  | .laload => qaldJ (pc + 1) L S σ
  | .iastore => qast (pc + 1) L S σ tyI
  | .bastore => qast (pc + 1) L S σ tyB
  | .lastore => qastJ (pc + 1) L S σ
  | .arraylength => qlen (pc + 1) L S σ
  | .newarray t => qnewA (pc + 2) L S σ t
  | .new _ => some (pc + 3, L, .ref σ.length :: S, σ ++ [.inl cDef])
  | _ => none
def qstep (m : Nat) (st : QSt) : Option QSt :=
  match pCode m st.1 with
  | some (i, aux) => qexec st.1 st.2.1 st.2.2.1 st.2.2.2 aux i
  | none => none
def qsteps (m : Nat) : Nat → QSt → Option QSt
  | 0, st => some st
  | n + 1, st => match qstep m st with | some st' => qsteps m n st' | none => none
def qentry (args : List Value) (mx : Nat) : QLoc := (args.flatMap fun v => match v with | .long x => [some (.long x), none] | .double x => [some (.double x), none] | v => [some v]) ++ List.replicate (mx - (args.map fun v => v.category).sum) none
/-! ## what the abstract state says of the model's -/
def ilen : Instr → Nat
  | .aload _ | .iload _ | .lload _ | .istore _ | .lstore _ | .astore _ | .bipush _ | .ldc _ | .newarray _ => 2
  | .sipush _ | .ldc2_w _ | .iinc _ _ | .goto _ | .ifCond _ _ | .if_icmp _ _ | .getfield _ | .putfield _ | .new _ | .invokevirtual _ | .invokespecial _ | .invokestatic _ => 3
  | _ => 1
def qtgt (pc : Nat) (o : Int) (aux : Nat) : Bool := decide (0 ≤ (pc : Int) + o) && decide (((pc : Int) + o).toNat = aux)
def qlk (m pc : Nat) (i : Instr) (aux : Nat) : Bool :=
  match i with
  | .goto o => qtgt pc o aux
  | .ifCond _ o => qtgt pc o aux
  | .if_icmp _ o => qtgt pc o aux
  | .getfield idx => lkF.contains (pK m, idx, aux)
  | .putfield idx => lkF.contains (pK m, idx, aux) && (!fFin aux || (pK m == 1 && pNm m == "<init>"))
  | .new idx => lkN.contains (pK m, idx)
  | .newarray t => aTys.contains (newarray.typeOf t)
  | .ldc idx => lkC.contains (pK m, idx, aux)
  | .ldc2_w idx => lkD.contains (pK m, idx, aux)
  | _ => true
def qchk (m pc : Nat) (i : Instr) (aux : Nat) : Bool := decide (decode (pBytes m) pc = .ok (i, ilen i)) && qlk m pc i aux
def QCellOk (Z : State) (ad : Nat → Addr) (h : Heap) (a : Addr) : QCell → Prop
  | .inl vs => Exa Z h a cName ∧ vs.length = nF ∧ ∀ (k : Nat) (v : Value), k < nF → vget vs k = some v → Fld Z h a cName (fNm k) (fDs k) (qv ad v)
  | .inr (.inl x) => ∃ c : Cell, Arr Z h a c x.1 ∧ c.slots = (x.2.map Value.int).toArray
  | .inr (.inr x) => ∃ c : Cell, Arr Z h a c .long ∧ c.slots = (x.map Value.long).toArray
def QAd (n0 : Nat) (ad : Nat → Addr) : Prop := (∀ k, k0 ≤ k → ad k = n0 + (k - k0)) ∧ ∀ i j, ad i = ad j → i = j
def QRep (Z : State) (n0 : Nat) (ad : Nat → Addr) (h : Heap) (σ : QHeap) : Prop := k0 ≤ σ.length ∧ h.size = n0 + (σ.length - k0) ∧ ∀ k c, hget σ k = some c → QCellOk Z ad h (ad k) c
def QLocOk (ad : Nat → Addr) (L : QLoc) (C : Array Slot) : Prop :=
  L.length = C.size ∧ (∀ k v, lget L k = some v → C[k]? = some (.val (qv ad v))) ∧ (∀ k w, C[k]? = some (.val w) → w.category = 2 → C[k + 1]? = some .second) ∧ ∀ k, C[k]? = some .second → ∃ j w, k = j + 1 ∧ C[j]? = some (.val w) ∧ w.category = 2
/-- the words of the sheet, as the engine uses them -/
def QW (Z : State) (a0 : Array Value) : Prop :=
  (∀ t ∈ lkF, (Cond.fieldLink (kName t.1) t.2.1 cName (fNm t.2.2) (fDs t.2.2)).before a0 Z = true) ∧
  (∀ t ∈ lkN, (Cond.classLink (kName t.1) t.2 cName).before a0 Z = true) ∧
  (∀ t ∈ lkC, ∃ v, vget cK t.2.2 = some (.int v) ∧ (Cond.constant (kName t.1) t.2.1 v).before a0 Z = true) ∧
  (∀ t ∈ lkD, ∃ v, vget cK t.2.2 = some (.long v) ∧ (Cond.constantLong (kName t.1) t.2.1 v).before a0 Z = true) ∧
  (∀ t ∈ lkV, (Cond.methodLink (kName t.1) t.2.1 (pName t.2.2)).before a0 Z = true) ∧
  (∀ t ∈ lkO, (Cond.methodLink (kName t.1) t.2 Lib.objectInit).before a0 Z = true) ∧
  (∀ m ∈ mV, (Cond.declares (pName m)).before a0 Z = true ∧ (Cond.selects cName (pName m) (pName m)).before a0 Z = true ∧ (Cond.instanceMethod (pName m)).before a0 Z = true) ∧
  (∀ m ∈ mP, (Cond.instanceMethod (pName m)).before a0 Z = true ∧ (Cond.privateMethod (pName m)).before a0 Z = true) ∧
  (∀ m ∈ mS, (Cond.static (pName m)).before a0 Z = true) ∧
  (∀ m ∈ mI, (Cond.instanceMethod (pName m)).before a0 Z = true) ∧
  (∀ m ∈ mA, (Cond.code (pName m) (pBytes m) (pMaxL m) (pRet m)).before a0 Z = true ∧ (Cond.initialized (kName (pK m))).before a0 Z = true) ∧
  (Cond.instanceMethod Lib.objectInit).before a0 Z = true ∧ (Cond.code Lib.objectInit ⟨#[0xb1]⟩ 1 none).before a0 Z = true ∧
  (∀ k, k < nF → bif fFin k then (Cond.laysFinal cName cName (fNm k) (fDs k)).before a0 Z = true else (Cond.lays cName cName (fNm k) (fDs k)).before a0 Z = true) ∧
  (Cond.instantiable cName cN).before a0 Z = true ∧ (Cond.initialized cName).before a0 Z = true ∧
  ∀ ty ∈ aTys, (Cond.arrayClass ty).before a0 Z = true
section Words
variable {Z : State} {a0 : Array Value}
theorem qw_fl (W : QW Z a0) : ∀ t ∈ lkF, (Cond.fieldLink (kName t.1) t.2.1 cName (fNm t.2.2) (fDs t.2.2)).before a0 Z = true := W.1
theorem qw_nw (W : QW Z a0) : ∀ t ∈ lkN, (Cond.classLink (kName t.1) t.2 cName).before a0 Z = true := W.2.1
theorem qw_cI (W : QW Z a0) : ∀ t ∈ lkC, ∃ v, vget cK t.2.2 = some (.int v) ∧ (Cond.constant (kName t.1) t.2.1 v).before a0 Z = true := W.2.2.1
theorem qw_cJ (W : QW Z a0) : ∀ t ∈ lkD, ∃ v, vget cK t.2.2 = some (.long v) ∧ (Cond.constantLong (kName t.1) t.2.1 v).before a0 Z = true := W.2.2.2.1
theorem qw_ml (W : QW Z a0) : ∀ t ∈ lkV, (Cond.methodLink (kName t.1) t.2.1 (pName t.2.2)).before a0 Z = true := W.2.2.2.2.1
theorem qw_mo (W : QW Z a0) : ∀ t ∈ lkO, (Cond.methodLink (kName t.1) t.2 Lib.objectInit).before a0 Z = true := W.2.2.2.2.2.1
theorem qw_vi (W : QW Z a0) : ∀ m ∈ mV, (Cond.declares (pName m)).before a0 Z = true ∧ (Cond.selects cName (pName m) (pName m)).before a0 Z = true ∧ (Cond.instanceMethod (pName m)).before a0 Z = true := W.2.2.2.2.2.2.1
theorem qw_pr (W : QW Z a0) : ∀ m ∈ mP, (Cond.instanceMethod (pName m)).before a0 Z = true ∧ (Cond.privateMethod (pName m)).before a0 Z = true := W.2.2.2.2.2.2.2.1
theorem qw_st (W : QW Z a0) : ∀ m ∈ mS, (Cond.static (pName m)).before a0 Z = true := W.2.2.2.2.2.2.2.2.1
theorem qw_ini (W : QW Z a0) : ∀ m ∈ mI, (Cond.instanceMethod (pName m)).before a0 Z = true := W.2.2.2.2.2.2.2.2.2.1
theorem qw_cod (W : QW Z a0) : ∀ m ∈ mA, (Cond.code (pName m) (pBytes m) (pMaxL m) (pRet m)).before a0 Z = true ∧ (Cond.initialized (kName (pK m))).before a0 Z = true := W.2.2.2.2.2.2.2.2.2.2.1
theorem qw_oi (W : QW Z a0) : (Cond.instanceMethod Lib.objectInit).before a0 Z = true := W.2.2.2.2.2.2.2.2.2.2.2.1
theorem qw_oc (W : QW Z a0) : (Cond.code Lib.objectInit ⟨#[0xb1]⟩ 1 none).before a0 Z = true := W.2.2.2.2.2.2.2.2.2.2.2.2.1
theorem qw_lay (W : QW Z a0) : ∀ k, k < nF → bif fFin k then (Cond.laysFinal cName cName (fNm k) (fDs k)).before a0 Z = true else (Cond.lays cName cName (fNm k) (fDs k)).before a0 Z = true := W.2.2.2.2.2.2.2.2.2.2.2.2.2.1
theorem qw_inst (W : QW Z a0) : (Cond.instantiable cName cN).before a0 Z = true := W.2.2.2.2.2.2.2.2.2.2.2.2.2.2.1
theorem qw_init (W : QW Z a0) : (Cond.initialized cName).before a0 Z = true := W.2.2.2.2.2.2.2.2.2.2.2.2.2.2.2.1
theorem qw_arr (W : QW Z a0) : ∀ ty ∈ aTys, (Cond.arrayClass ty).before a0 Z = true := W.2.2.2.2.2.2.2.2.2.2.2.2.2.2.2.2
end Words
/-! ## small laws of lists -/
theorem hget_eq : ∀ (σ : QHeap) k, hget σ k = σ[k]?
  | [], _ => by simp [hget]
  | _ :: _, 0 => by simp [hget]
  | _ :: t, k + 1 => by simp [hget, hget_eq t k]
theorem vget_eq : ∀ (σ : List Value) k, vget σ k = σ[k]?
  | [], _ => by simp [vget]
  | _ :: _, 0 => by simp [vget]
  | _ :: t, k + 1 => by simp [vget, vget_eq t k]
theorem lget_eq : ∀ (L : QLoc) k, lget L k = (L[k]?).getD none
  | [], _ => by simp [lget]
  | _ :: _, 0 => by simp [lget]
  | _ :: t, k + 1 => by simp [lget, lget_eq t k]
theorem lget_lt {L : QLoc} {k : Nat} {v : Value} (h : lget L k = some v) : k < L.length := by
  rw [lget_eq] at h
  rcases Nat.lt_or_ge k L.length with q | q
  · exact q
  · simp [List.getElem?_eq_none q] at h
theorem lget_set {L : QLoc} {k j : Nat} {o : Option Value} (hk : k < L.length) : lget (L.set k o) j = if j = k then o else lget L j := by
  simp only [lget_eq, List.getElem?_set]
  by_cases e : k = j
  · subst e; simp [hk]
  · simp [e, Ne.symm e]
theorem qhs_app (σ τ : QHeap) : qhs (σ ++ τ) = qhs σ + qhs τ := by
  induction σ with
  | nil => simp [qhs]
  | cons c t ih => simp [qhs, ih, Nat.add_assoc]
theorem qhs_set {σ : QHeap} {k : Nat} {c d : QCell} (h : hget σ k = some c) (hs : qsz d = qsz c) : qhs (σ.set k d) = qhs σ := by
  induction σ generalizing k with
  | nil => simp [hget] at h
  | cons x t ih =>
    cases k with
    | zero => simp only [hget, Option.some.injEq] at h; subst h; simp [qhs, hs]
    | succ k => simp only [hget] at h; simp [qhs, ih h]
theorem hget_set {σ : QHeap} {k j : Nat} {c d : QCell} (h : hget σ k = some c) : hget (σ.set k d) j = if j = k then some d else hget σ j := by
  rw [hget_eq] at h
  have hk := (List.getElem?_eq_some_iff.mp h).1
  simp only [hget_eq, List.getElem?_set]
  by_cases e : k = j
  · subst e; simp [hk]
  · simp [e, Ne.symm e]
theorem lkill_len (L : QLoc) (k : Nat) : (lkill L k).length = L.length := by
  cases k with
  | zero => rfl
  | succ k => simp only [lkill]; split <;> simp
theorem lget_kill {L : QLoc} {k j : Nat} {v : Value} (h : lget (lkill L k) j = some v) : lget L j = some v ∧ (k = j + 1 → v.category ≠ 2) := by
  cases k with
  | zero => exact ⟨h, fun e => by omega⟩
  | succ k =>
    simp only [lkill] at h
    split at h
    · rename_i x q
      rw [lget_set (lget_lt q)] at h
      split at h
      · cases h
      · rename_i ne; exact ⟨h, fun e => absurd (by omega) ne⟩
    · rename_i x q
      rw [lget_set (lget_lt q)] at h
      split at h
      · cases h
      · rename_i ne; exact ⟨h, fun e => absurd (by omega) ne⟩
    · rename_i q1 q2
      refine ⟨h, fun e hc => ?_⟩
      obtain rfl : j = k := by omega
      cases v with
      | long x => exact q1 _ h
      | double x => exact q2 _ h
      | _ => simp [Value.category] at hc
theorem qv_cat (ad : Nat → Addr) (v : Value) : (qv ad v).category = v.category := by cases v <;> rfl
/-! ## storing into a local -/
def kA (C : Array Slot) (k j : Nat) : Prop := k = j + 1 ∧ C[k]? = some .second
def kB (C : Array Slot) (k j : Nat) : Prop := j = k + 1 ∧ ∃ u, C[k]? = some (.val u) ∧ u.category = 2
def kD (C : Array Slot) (k j : Nat) : Prop := j = k + 2 ∧ ∃ u, C[k + 1]? = some (.val u) ∧ u.category = 2
theorem set1_at {C D : Array Slot} {k : Nat} {w : Value} (hk : k < C.size) (hw : w.category = 1) (h : storeLocals C k w = some D) :
    D.size = C.size ∧ D[k]? = some (.val w) ∧ ∀ j, j ≠ k → (D[j]? = C[j]? ∧ ¬ kA C k j ∧ ¬ kB C k j) ∨ D[j]? = some .unset ∧ (kA C k j ∨ kB C k j) := by
  have hck : C[k]? = some C[k] := Array.getElem?_eq_getElem hk
  unfold storeLocals at h
  simp only [hck, Option.bind_eq_bind, Option.bind_some] at h
  have self : ∀ {E : Array Slot}, k < E.size → storeSelf E k w = some D → D = E.setIfInBounds k (.val w) := by
    intro E hE q
    simp only [storeSelf, setAt, hE, if_true, Option.bind_eq_bind, Option.bind_some, hw] at q
    simpa using q.symm
  split at h
  · rename_i q
    have hk1 : k - 1 < C.size := by omega
    simp only [setAt, hk1, if_true, Option.bind_some] at h
    have e := self (by simpa using hk) h
    subst e
    refine ⟨by simp, by simp [hk], fun j hj => ?_⟩
    by_cases ej : k = j + 1
    · refine Or.inr ⟨?_, Or.inl ⟨ej, by rw [hck, q]⟩⟩
      rw [Array.getElem?_setIfInBounds_ne (Ne.symm hj), show j = k - 1 by omega]
      simp [hk1]
    · refine Or.inl ⟨?_, fun x => ej x.1, fun x => ?_⟩
      · rw [Array.getElem?_setIfInBounds_ne (Ne.symm hj), Array.getElem?_setIfInBounds_ne (by omega)]
      · obtain ⟨-, u, x1, -⟩ := x
        rw [hck, q] at x1; cases x1
  · rename_i u q
    split at h
    · rename_i hu
      by_cases hk1 : k + 1 < C.size
      · simp only [setAt, hk1, if_true, Option.bind_some] at h
        have e := self (by simpa using hk) h
        subst e
        refine ⟨by simp, by simp [hk], fun j hj => ?_⟩
        by_cases ej : j = k + 1
        · refine Or.inr ⟨?_, Or.inr ⟨ej, u, by rw [hck, q], hu⟩⟩
          rw [Array.getElem?_setIfInBounds_ne (Ne.symm hj), ej]
          simp [hk1]
        · refine Or.inl ⟨?_, fun x => ?_, fun x => ej x.1⟩
          · rw [Array.getElem?_setIfInBounds_ne (Ne.symm hj), Array.getElem?_setIfInBounds_ne (by omega)]
          · obtain ⟨-, x1⟩ := x
            rw [hck, q] at x1; cases x1
      · simp [setAt, hk1] at h
    · rename_i hu
      have e := self hk h
      subst e
      refine ⟨by simp, by simp [hk], fun j hj => Or.inl ⟨Array.getElem?_setIfInBounds_ne (Ne.symm hj), fun x => ?_, fun x => ?_⟩⟩
      · obtain ⟨-, x1⟩ := x
        rw [hck, q] at x1; cases x1
      · obtain ⟨-, u', x1, x2⟩ := x
        rw [hck, q] at x1; cases x1; exact hu x2
  · rename_i q
    have e := self hk h
    subst e
    refine ⟨by simp, by simp [hk], fun j hj => Or.inl ⟨Array.getElem?_setIfInBounds_ne (Ne.symm hj), fun x => ?_, fun x => ?_⟩⟩
    · obtain ⟨-, x1⟩ := x
      rw [hck, q] at x1; cases x1
    · obtain ⟨-, u', x1, x2⟩ := x
      rw [hck, q] at x1; cases x1
theorem set2_at {C D : Array Slot} {k : Nat} {w : Value} (hk : k + 1 < C.size) (hw : w.category = 2) (wf : ∀ k w, C[k]? = some (.val w) → w.category = 2 → C[k + 1]? = some .second) (h : storeLocals C k w = some D) :
    D.size = C.size ∧ D[k]? = some (.val w) ∧ D[k + 1]? = some .second ∧ ∀ j, j ≠ k → j ≠ k + 1 → (D[j]? = C[j]? ∧ ¬ kA C k j ∧ ¬ kD C k j) ∨ D[j]? = some .unset ∧ (kA C k j ∨ kD C k j) := by
  have hk0 : k < C.size := by omega
  have hck : C[k]? = some C[k] := Array.getElem?_eq_getElem hk0
  unfold storeLocals at h
  simp only [hck, Option.bind_eq_bind, Option.bind_some] at h
  have self : ∀ {E : Array Slot}, E.size = C.size → storeSelf E k w = some D → D.size = C.size ∧ D[k]? = some (.val w) ∧ D[k + 1]? = some .second ∧ ∀ j, j ≠ k → j ≠ k + 1 → (D[j]? = E[j]? ∧ ¬ kD E k j) ∨ D[j]? = some .unset ∧ kD E k j := by
    intro E hs q
    have h1 : k < E.size := by omega
    have h2 : k + 1 < E.size := by omega
    have h3 : (E.setIfInBounds k (.val w))[k + 1]? = some E[k + 1] := by rw [Array.getElem?_setIfInBounds_ne (by omega)]; exact Array.getElem?_eq_getElem h2
    simp only [storeSelf, setAt, h1, if_true, Option.bind_eq_bind, Option.bind_some, hw, h3] at q
    have plain : (¬ ∃ u, E[k + 1]? = some (.val u) ∧ u.category = 2) → some ((E.setIfInBounds k (.val w)).setIfInBounds (k + 1) .second) = some D → D.size = C.size ∧ D[k]? = some (.val w) ∧ D[k + 1]? = some .second ∧ ∀ j, j ≠ k → j ≠ k + 1 → (D[j]? = E[j]? ∧ ¬ kD E k j) ∨ D[j]? = some .unset ∧ kD E k j := by
      intro no q
      cases q
      refine ⟨by simp [hs], ?_, ?_, fun j hj hj1 => Or.inl ⟨?_, fun x => no x.2⟩⟩
      · rw [Array.getElem?_setIfInBounds_ne (by omega)]; simp [h1]
      · simp [h2]
      · rw [Array.getElem?_setIfInBounds_ne (by omega), Array.getElem?_setIfInBounds_ne (by omega)]
    split at q
    · rename_i u hu
      split at q
      · rename_i hu2
        by_cases h5 : k + 2 < E.size
        · simp [h5, h2] at q
          cases q
          refine ⟨by simp [hs], ?_, ?_, fun j hj hj1 => ?_⟩
          · rw [Array.getElem?_setIfInBounds_ne (by omega), Array.getElem?_setIfInBounds_ne (by omega)]; simp [h1]
          · simp [h2]
          · by_cases e : j = k + 2
            · refine Or.inr ⟨?_, e, u, by rw [Array.getElem?_eq_getElem h2, hu], hu2⟩
              rw [Array.getElem?_setIfInBounds_ne (by omega), e]
              simp [h5]
            · refine Or.inl ⟨?_, fun x => e x.1⟩
              rw [Array.getElem?_setIfInBounds_ne (by omega), Array.getElem?_setIfInBounds_ne (by omega), Array.getElem?_setIfInBounds_ne (by omega)]
        · simp [h5] at q
      · rename_i hu2
        refine plain ?_ (by simpa [h2] using q)
        rintro ⟨u', x1, x2⟩
        rw [Array.getElem?_eq_getElem h2, hu] at x1; cases x1; exact hu2 x2
    · rename_i hu
      refine plain ?_ (by simpa [h2] using q)
      rintro ⟨u', x1, x2⟩
      rw [Array.getElem?_eq_getElem h2] at x1; exact hu _ (Option.some.inj x1)
  split at h
  · rename_i q
    have hk1 : k - 1 < C.size := by omega
    simp only [setAt, hk1, if_true, Option.bind_some] at h
    obtain ⟨e1, e2, e3, e4⟩ := self (by simp) h
    refine ⟨e1, e2, e3, fun j hj hj1 => ?_⟩
    have h6 : ∀ i, i + 1 ≠ k ∨ k = 0 → i ≠ k ∨ k ≠ 0 → (C.setIfInBounds (k - 1) Slot.unset)[i]? = C[i]? := fun i hi hi2 => Array.getElem?_setIfInBounds_ne (by omega)
    have h7 : (C.setIfInBounds (k - 1) Slot.unset)[k + 1]? = C[k + 1]? := Array.getElem?_setIfInBounds_ne (by omega)
    rcases e4 j hj hj1 with ⟨r, r'⟩ | ⟨r, r1, u, r2, r3⟩
    · by_cases ej : k = j + 1
      · refine Or.inr ⟨?_, Or.inl ⟨ej, by rw [hck, q]⟩⟩
        rw [r, show j = k - 1 by omega]; simp [hk1]
      · refine Or.inl ⟨by rw [r]; exact h6 _ (by omega) (by omega), fun x => ej x.1, fun x => r' ⟨x.1, ?_⟩⟩
        rw [h7]; exact x.2
    · exact Or.inr ⟨r, Or.inr ⟨r1, u, by rw [← h7]; exact r2, r3⟩⟩
  · rename_i u q
    split at h
    · rename_i hu
      simp only [setAt, hk, if_true, Option.bind_some] at h
      obtain ⟨e1, e2, e3, e4⟩ := self (by simp) h
      have hsec := wf k u (by rw [hck, q]) hu
      refine ⟨e1, e2, e3, fun j hj hj1 => ?_⟩
      rcases e4 j hj hj1 with ⟨r, r'⟩ | ⟨r, r1, u', r2, r3⟩
      · refine Or.inl ⟨by rw [r]; exact Array.getElem?_setIfInBounds_ne (by omega), fun x => ?_, fun x => ?_⟩
        · obtain ⟨-, x1⟩ := x
          rw [hck, q] at x1; cases x1
        · obtain ⟨-, u', x1, x2⟩ := x
          rw [hsec] at x1; cases x1
      · simp [hk] at r2
    · rename_i hu
      obtain ⟨e1, e2, e3, e4⟩ := self rfl h
      refine ⟨e1, e2, e3, fun j hj hj1 => ?_⟩
      rcases e4 j hj hj1 with ⟨r, r'⟩ | ⟨r, r'⟩
      · refine Or.inl ⟨r, fun x => ?_, r'⟩
        obtain ⟨-, x1⟩ := x
        rw [hck, q] at x1; cases x1
      · exact Or.inr ⟨r, Or.inr r'⟩
  · rename_i q
    obtain ⟨e1, e2, e3, e4⟩ := self rfl h
    refine ⟨e1, e2, e3, fun j hj hj1 => ?_⟩
    rcases e4 j hj hj1 with ⟨r, r'⟩ | ⟨r, r'⟩
    · refine Or.inl ⟨r, fun x => ?_, r'⟩
      obtain ⟨-, x1⟩ := x
      rw [hck, q] at x1; cases x1
    · exact Or.inr ⟨r, Or.inr r'⟩
/-- a store succeeds: in a well kept array of locals -/
theorem store_some {C : Array Slot} {k : Nat} {w : Value} (hk : k + (w.category - 1) < C.size) (hc : w.category = 1 ∨ w.category = 2) (wf : ∀ k w, C[k]? = some (.val w) → w.category = 2 → C[k + 1]? = some .second) :
    ∃ D, storeLocals C k w = some D := by
  have hk0 : k < C.size := by omega
  have hck : C[k]? = some C[k] := Array.getElem?_eq_getElem hk0
  have self : ∀ {E : Array Slot}, E.size = C.size → (∀ u, E[k + 1]? = some (.val u) → u.category = 2 → k + 2 < E.size) → ∃ D, storeSelf E k w = some D := by
    intro E hs hn
    have h1 : k < E.size := by omega
    simp only [storeSelf, setAt, h1, if_true, Option.bind_eq_bind, Option.bind_some]
    rcases hc with hc | hc
    · exact ⟨E.setIfInBounds k (.val w), by simp [hc]⟩
    · have h2 : k + 1 < E.size := by omega
      have h3 : (E.setIfInBounds k (.val w))[k + 1]? = some E[k + 1] := by rw [Array.getElem?_setIfInBounds_ne (by omega)]; exact Array.getElem?_eq_getElem h2
      simp only [hc, if_true, h3, Option.bind_some]
      split
      · rename_i u hu
        split
        · rename_i hu2
          have h5 := hn u (by rw [Array.getElem?_eq_getElem h2, hu]) hu2
          exact ⟨_, by simp [h5, h2]; rfl⟩
        · exact ⟨_, by simp [h2]; rfl⟩
      · exact ⟨_, by simp [h2]; rfl⟩
  have next : ∀ u, C[k + 1]? = some (.val u) → u.category = 2 → k + 2 < C.size := fun u h1 h2 => (Array.getElem?_eq_some_iff.mp (wf _ _ h1 h2)).1
  unfold storeLocals
  simp only [hck, Option.bind_eq_bind, Option.bind_some]
  split
  · have hk1 : k - 1 < C.size := by omega
    simp only [setAt, hk1, if_true, Option.bind_some]
    refine self (by simp) fun u h1 h2 => ?_
    rw [Array.getElem?_setIfInBounds_ne (by omega)] at h1
    simpa using next u h1 h2
  · rename_i u q
    split
    · rename_i hu
      have h5 := (Array.getElem?_eq_some_iff.mp (wf k u (by rw [hck, q]) hu)).1
      simp only [setAt, h5, if_true, Option.bind_some]
      refine self (by simp) fun u h1 h2 => ?_
      simp [h5] at h1
    · exact self rfl next
  · exact self rfl next
theorem store_ok1 {ad : Nat → Addr} {L : QLoc} {C : Array Slot} {k : Nat} {v : Value} (H : QLocOk ad L C) (hv : v.category = 1) (hk : k < L.length) :
    ∃ D, storeLocals C k (qv ad v) = some D ∧ QLocOk ad ((lkill L k).set k (some v)) D ∧ D.size = C.size := by
  obtain ⟨H1, H2, H3, H4⟩ := H
  have hc : (qv ad v).category = 1 := by rw [qv_cat, hv]
  obtain ⟨D, hD⟩ := store_some (C := C) (k := k) (w := qv ad v) (by rw [hc]; omega) (Or.inl hc) H3
  obtain ⟨d1, d2, d3⟩ := set1_at (by omega) hc hD
  refine ⟨D, hD, ⟨by simp [lkill_len, H1, d1], fun j u hj => ?_, fun j w hj hw => ?_, fun j hj => ?_⟩, d1⟩
  · rw [lget_set (by rw [lkill_len]; exact hk)] at hj
    split at hj
    · rename_i e; cases hj; rw [e]; exact d2
    · rename_i ne
      obtain ⟨g1, g2⟩ := lget_kill hj
      have g3 := H2 j u g1
      rcases d3 j ne with ⟨r, -, -⟩ | ⟨-, ⟨r1, r2⟩ | ⟨r1, w, r2, r3⟩⟩
      · rw [r]; exact g3
      · obtain ⟨i, w, z1, z2, z3⟩ := H4 k r2
        obtain rfl : i = j := by omega
        rw [g3] at z2
        cases z2
        rw [qv_cat] at z3
        exact absurd z3 (g2 r1)
      · have := H3 k w r2 r3
        rw [← r1, g3] at this
        cases this
  · by_cases e : j = k
    · subst e; rw [d2] at hj; cases hj; rw [hc] at hw; cases hw
    · rcases d3 j e with ⟨r, nA, nB⟩ | ⟨r, -⟩
      · rw [r] at hj
        have g := H3 j w hj hw
        have e2 : j + 1 ≠ k := fun q => nA ⟨q.symm, by rw [← q]; exact g⟩
        rcases d3 (j + 1) e2 with ⟨z, -, -⟩ | ⟨-, ⟨z1, z2⟩ | ⟨z1, -⟩⟩
        · rw [z]; exact g
        · obtain ⟨i, u, y1, y2, y3⟩ := H4 k z2
          obtain rfl : i = j + 1 := by omega
          rw [g] at y2; cases y2
        · omega
      · rw [r] at hj; cases hj
  · by_cases e : j = k
    · subst e; rw [d2] at hj; cases hj
    · rcases d3 j e with ⟨r, nA, nB⟩ | ⟨r, -⟩
      · rw [r] at hj
        obtain ⟨i, w, y1, y2, y3⟩ := H4 j hj
        refine ⟨i, w, y1, ?_, y3⟩
        have ei : i ≠ k := fun q => nB ⟨by omega, w, by rw [← q]; exact y2, y3⟩
        rcases d3 i ei with ⟨z, -, -⟩ | ⟨-, ⟨z1, z2⟩ | ⟨z1, u, z2, z3⟩⟩
        · rw [z]; exact y2
        · omega
        · have := H3 k u z2 z3
          rw [← z1, y2] at this; cases this
      · rw [r] at hj; cases hj
theorem store_ok2 {ad : Nat → Addr} {L : QLoc} {C : Array Slot} {k : Nat} {x : Int64} (H : QLocOk ad L C) (hk : k + 1 < L.length) :
    ∃ D, storeLocals C k (.long x) = some D ∧ QLocOk ad (((lkill L k).set k (some (.long x))).set (k + 1) none) D ∧ D.size = C.size := by
  obtain ⟨H1, H2, H3, H4⟩ := H
  have hc : (Value.long x).category = 2 := rfl
  obtain ⟨D, hD⟩ := store_some (C := C) (k := k) (w := .long x) (by rw [hc]; omega) (Or.inr hc) H3
  obtain ⟨d1, d2, d2', d3⟩ := set2_at (by omega) hc H3 hD
  refine ⟨D, hD, ⟨by simp [lkill_len, H1, d1], fun j u hj => ?_, fun j w hj hw => ?_, fun j hj => ?_⟩, d1⟩
  · rw [lget_set (by simp [lkill_len]; exact hk)] at hj
    split at hj
    · cases hj
    · rename_i ne1
      rw [lget_set (by rw [lkill_len]; omega)] at hj
      split at hj
      · rename_i e; cases hj; rw [e]; exact d2
      · rename_i ne
        obtain ⟨g1, g2⟩ := lget_kill hj
        have g3 := H2 j u g1
        rcases d3 j ne ne1 with ⟨r, -, -⟩ | ⟨-, ⟨r1, r2⟩ | ⟨r1, w, r2, r3⟩⟩
        · rw [r]; exact g3
        · obtain ⟨i, w, z1, z2, z3⟩ := H4 k r2
          obtain rfl : i = j := by omega
          rw [g3] at z2
          cases z2
          rw [qv_cat] at z3
          exact absurd z3 (g2 r1)
        · have := H3 (k + 1) w r2 r3
          rw [show k + 1 + 1 = j by omega, g3] at this
          cases this
  · by_cases e : j = k
    · rw [e]; exact d2'
    · by_cases e1 : j = k + 1
      · rw [e1, d2'] at hj; cases hj
      · rcases d3 j e e1 with ⟨r, nA, nB⟩ | ⟨r, -⟩
        · rw [r] at hj
          have g := H3 j w hj hw
          have e2 : j + 1 ≠ k := fun q => nA ⟨q.symm, by rw [← q]; exact g⟩
          rcases d3 (j + 1) e2 (by omega) with ⟨z, -, -⟩ | ⟨-, ⟨z1, z2⟩ | ⟨z1, -⟩⟩
          · rw [z]; exact g
          · obtain ⟨i, u, y1, y2, y3⟩ := H4 k z2
            obtain rfl : i = j + 1 := by omega
            rw [g] at y2; cases y2
          · omega
        · rw [r] at hj; cases hj
  · by_cases e : j = k
    · rw [e, d2] at hj; cases hj
    · by_cases e1 : j = k + 1
      · exact ⟨k, _, e1, d2, hc⟩
      · rcases d3 j e e1 with ⟨r, nA, nB⟩ | ⟨r, -⟩
        · rw [r] at hj
          obtain ⟨i, w, y1, y2, y3⟩ := H4 j hj
          refine ⟨i, w, y1, ?_, y3⟩
          have ei : i ≠ k := fun q => e1 (by omega)
          have ei1 : i ≠ k + 1 := fun q => nB ⟨by omega, w, by rw [← q]; exact y2, y3⟩
          rcases d3 i ei ei1 with ⟨z, -, -⟩ | ⟨-, ⟨z1, z2⟩ | ⟨z1, u, z2, z3⟩⟩
          · rw [z]; exact y2
          · omega
          · have := H3 (k + 1) u z2 z3
            rw [show k + 1 + 1 = i by omega, y2] at this; cases this
        · rw [r] at hj; cases hj
theorem store_ok {ad : Nat → Addr} {L L' : QLoc} {C : Array Slot} {k : Nat} {v : Value} (H : QLocOk ad L C) (h : lput L k v = some L') :
    ∃ D, storeLocals C k (qv ad v) = some D ∧ QLocOk ad L' D ∧ D.size = C.size := by
  have one : v.category = 1 → (bif Nat.ble (k + 1) L.length then some ((lkill L k).set k (some v)) else none) = some L' → ∃ D, storeLocals C k (qv ad v) = some D ∧ QLocOk ad L' D ∧ D.size = C.size := by
    intro hv h
    cases hb : Nat.ble (k + 1) L.length with
    | false => rw [hb] at h; cases h
    | true => rw [hb] at h; cases h; exact store_ok1 H hv (Nat.le_of_ble_eq_true hb)
  cases v with
  | long x =>
    simp only [lput] at h
    cases hb : Nat.ble (k + 2) L.length with
    | false => rw [hb] at h; cases h
    | true => rw [hb] at h; cases h; exact store_ok2 H (Nat.le_of_ble_eq_true hb)
  | double x => simp [lput] at h
  | int x => exact one rfl h
  | float x => exact one rfl h
  | null => exact one rfl h
  | ref x => exact one rfl h
  | retAddr x => exact one rfl h
/-! ## facts of the tables, by evaluation -/
theorem fInj : ∀ i, i < nF → ∀ j, j < nF → fNm i = fNm j → i = j := by decide +kernel
theorem fPrs : ∀ i, i < nF → parseFieldDescriptor (fDs i) = some (fTy i) := by decide +kernel
theorem cDefs : ∀ i, i < nF → vget cDef i = some (defaultValue (fTy i)) := by decide +kernel
theorem cDefL : cDef.length = nF := by decide +kernel
theorem fDef : ∀ i, i < nF → ∀ a, defaultValue (fTy i) ≠ .ref a := by
  intro i _ a
  cases fTy i <;> simp [defaultValue]
theorem kPlain : ∀ k, k < 2 → plainName (kName k) = true := by
  intro k hk
  rcases k with _ | _ | k
  · first | decide +kernel | (simp [kName, plainName, overriddenIn]; done)
  · first | decide +kernel | (simp [kName, plainName, overriddenIn]; done)
  · omega
theorem pKlt : ∀ m, m < pN → pK m < 2 := by decide +kernel
theorem pSig : ∀ m, m < pN → (parseMethodDescriptor (pDs m)).map (fun sg => sg.parameters.length) = some (pNA m) := by decide +kernel
theorem pOwn : ∀ k, k < 2 → kName k ≠ "java/lang/invoke/MethodHandle" ∧ kName k ≠ "java/lang/invoke/VarHandle" := by decide +kernel
theorem mAlt : ∀ m ∈ mA, m < pN := by decide +kernel
theorem mVlt : ∀ m ∈ mV, m ∈ mA ∧ pK m = 1 := by decide +kernel
theorem mPlt : ∀ m ∈ mP, m ∈ mA ∧ pK m = 1 := by decide +kernel
theorem mSlt : ∀ m ∈ mS, m ∈ mA := by decide +kernel
theorem mIlt : ∀ m ∈ mI, m ∈ mA ∧ pK m = 1 ∧ pNm m = "<init>" ∧ pRet m = none := by decide +kernel
theorem kOne : kName 1 = cName := rfl
set_option maxRecDepth 100000 in
theorem pChk0 : ∀ m, m < pN → ∀ pc, pc < pTop → (match pCode m pc with | some t => qchk m pc t.1 t.2 | none => true) = true := by decide +kernel
theorem pIn {m pc : Nat} {t : Instr × Nat} (h : pCode m pc = some t) : m < pN ∧ pc < pTop := by
  unfold pCode at h
  cases h1 : Nat.ble pN m with
  | true => rw [h1] at h; cases h
  | false =>
    cases h2 : Nat.ble pTop pc with
    | true => rw [h1, h2] at h; cases h
    | false => exact ⟨Nat.lt_of_not_le (fun q => by rw [Nat.ble_eq_true_of_le q] at h1; cases h1), Nat.lt_of_not_le (fun q => by rw [Nat.ble_eq_true_of_le q] at h2; cases h2)⟩
theorem pChk {m pc : Nat} {i : Instr} {aux : Nat} (h : pCode m pc = some (i, aux)) : qchk m pc i aux = true := by
  have q := pChk0 m (pIn h).1 pc (pIn h).2
  rw [h] at q
  exact q
theorem pDec {m pc : Nat} {i : Instr} {aux : Nat} (h : pCode m pc = some (i, aux)) : decode (pBytes m) pc = .ok (i, ilen i) := by
  have q := pChk h
  unfold qchk at q
  exact of_decide_eq_true (Bool.and_eq_true_iff.mp q).1
theorem pDecN {m pc n : Nat} {i : Instr} {aux : Nat} (h : pCode m pc = some (i, aux)) (hn : ilen i = n) : decode (pBytes m) pc = .ok (i, n) := by
  rw [← hn]; exact pDec h
theorem pRest {m pc : Nat} {i : Instr} {aux : Nat} (h : pCode m pc = some (i, aux)) : qlk m pc i aux = true := by
  have q := pChk h
  unfold qchk at q
  exact (Bool.and_eq_true_iff.mp q).2
theorem qtgt_spec {pc : Nat} {o : Int} {aux : Nat} (h : qtgt pc o aux = true) : 0 ≤ (pc : Int) + o ∧ ((pc : Int) + o).toNat = aux := by
  unfold qtgt at h
  have h2 := Bool.and_eq_true_iff.mp h
  exact ⟨of_decide_eq_true h2.1, of_decide_eq_true h2.2⟩
/-! ## triples -/
def QCx (Z : State) (p : Program) (R : Room) (s : State) (mid : MethodId) (meth : Method) (c : Code) (m : Nat) : Prop :=
  p.tables.exec = Jvm.exec ∧ Z.Warmed39 s.vm ∧ c.code = pBytes m ∧ c.maxLocals = pMaxL m ∧ meth.sig.returnType = pRet m ∧ s.vm.findClass (kName (pK m)) = some mid.cls ∧ meth.name = pNm m ∧ pFr m ≤ R.frames ∧ pLo m ≤ R.locals
def QTri (l : Launch) (Z : State) (n0 : Nat) (ad : Nat → Addr) (m : Nat) (st : QSt) (v : Option Value) (σ' : QHeap) : Prop :=
  st.2.2.2.length ≤ σ'.length ∧ qhs st.2.2.2 ≤ qhs σ' ∧
  ∀ (p : Program) (e : Env) (R : Room) (s : State) (mid : MethodId) (args : Array Value) (below : List Frame) (meth : Method) (c : Code) (T : State) (locs : List Loc) (cells slots : Nat) (C : Array Slot),
    QCx Z p R s mid meth c m → Stand p l e R s mid args below meth c T locs cells slots → QRep Z n0 ad T.heap st.2.2.2 → Fr n0 locs → QLocOk ad st.2.1 C → C.size = c.maxLocals →
    n0 + (st.2.2.2.length - k0) = s.heap.size + cells → cells + (σ'.length - st.2.2.2.length) ≤ R.cells → slots + (qhs σ' - qhs st.2.2.2) ≤ R.slots →
    ∃ T' locs', Stand p l e R s mid args below meth c T' locs' (cells + (σ'.length - st.2.2.2.length)) (slots + (qhs σ' - qhs st.2.2.2)) ∧ QRep Z n0 ad T'.heap σ' ∧ Fr n0 locs' ∧
      ∀ fs, (∀ (f : JFrame) (acts : List Action), f.method = mid → f.locked = none → f.entered = [] → (doReturn e (T'.setTop f) acts (v.map (qv ad))).1 = T'.setFrames fs) →
        Steps p.tables e below (T.setTop (mkF mid st.1 C (st.2.2.1.map (qv ad)))) (T'.setFrames fs)
section Triples
variable {l : Launch} {Z : State} {n0 : Nat} {ad : Nat → Addr} {a0 : Array Value} {m : Nat} {v : Option Value} {σ' : QHeap}
theorem QTri.gen {st st' : QSt} (h : QTri l Z n0 ad m st' v σ') (g1 : st.2.2.2.length ≤ st'.2.2.2.length) (g2 : qhs st.2.2.2 ≤ qhs st'.2.2.2)
    (hs : ∀ (p : Program) (e : Env) (R : Room) (s : State) (mid : MethodId) (args : Array Value) (below : List Frame) (meth : Method) (c : Code) (T : State) (locs : List Loc) (cells slots : Nat) (C : Array Slot),
      QCx Z p R s mid meth c m → Stand p l e R s mid args below meth c T locs cells slots → QRep Z n0 ad T.heap st.2.2.2 → Fr n0 locs → QLocOk ad st.2.1 C → C.size = c.maxLocals →
      n0 + (st.2.2.2.length - k0) = s.heap.size + cells → cells + (st'.2.2.2.length - st.2.2.2.length) ≤ R.cells → slots + (qhs st'.2.2.2 - qhs st.2.2.2) ≤ R.slots →
      ∃ T₁ locs₁ C₁, Stand p l e R s mid args below meth c T₁ locs₁ (cells + (st'.2.2.2.length - st.2.2.2.length)) (slots + (qhs st'.2.2.2 - qhs st.2.2.2)) ∧ QRep Z n0 ad T₁.heap st'.2.2.2 ∧ Fr n0 locs₁ ∧ QLocOk ad st'.2.1 C₁ ∧ C₁.size = c.maxLocals ∧
        ∀ target, Steps p.tables e below (T₁.setTop (mkF mid st'.1 C₁ (st'.2.2.1.map (qv ad)))) target → Steps p.tables e below (T.setTop (mkF mid st.1 C (st.2.2.1.map (qv ad)))) target) :
    QTri l Z n0 ad m st v σ' := by
  obtain ⟨h1, h2, h3⟩ := h
  refine ⟨Nat.le_trans g1 h1, Nat.le_trans g2 h2, fun p e R s mid args below meth c T locs cells slots C hcx X hR hF hL hC hn hc hsl => ?_⟩
  obtain ⟨T₁, locs₁, C₁, X₁, R₁, F₁, L₁, C1, S₁⟩ := hs p e R s mid args below meth c T locs cells slots C hcx X hR hF hL hC hn (by omega) (by omega)
  have hk := hR.1
  obtain ⟨T', locs', X', R', F', S'⟩ := h3 p e R s mid args below meth c T₁ locs₁ _ _ C₁ hcx X₁ R₁ F₁ L₁ C1 (by omega) (by omega) (by omega)
  have e1 : cells + (st'.2.2.2.length - st.2.2.2.length) + (σ'.length - st'.2.2.2.length) = cells + (σ'.length - st.2.2.2.length) := by omega
  have e2 : slots + (qhs st'.2.2.2 - qhs st.2.2.2) + (qhs σ' - qhs st'.2.2.2) = slots + (qhs σ' - qhs st.2.2.2) := by omega
  rw [e1, e2] at X'
  exact ⟨T', locs', X', R', F', fun fs hf => S₁ _ (S' fs hf)⟩
theorem QTri.pure {st st' : QSt} (h : QTri l Z n0 ad m st' v σ') (hσ : st'.2.2.2 = st.2.2.2)
    (hs : ∀ (p : Program) (e : Env) (R : Room) (s : State) (mid : MethodId) (args : Array Value) (below : List Frame) (meth : Method) (c : Code) (T : State) (locs : List Loc) (cells slots : Nat) (C : Array Slot),
      QCx Z p R s mid meth c m → Stand p l e R s mid args below meth c T locs cells slots → QRep Z n0 ad T.heap st.2.2.2 → QLocOk ad st.2.1 C → C.size = c.maxLocals →
      ∃ T₁ C₁, Stand p l e R s mid args below meth c T₁ locs cells slots ∧ T₁.heap = T.heap ∧ QLocOk ad st'.2.1 C₁ ∧ C₁.size = c.maxLocals ∧
        ∀ target, Steps p.tables e below (T₁.setTop (mkF mid st'.1 C₁ (st'.2.2.1.map (qv ad)))) target → Steps p.tables e below (T.setTop (mkF mid st.1 C (st.2.2.1.map (qv ad)))) target) :
    QTri l Z n0 ad m st v σ' := by
  refine QTri.gen h (by rw [hσ]; exact Nat.le_refl _) (by rw [hσ]; exact Nat.le_refl _) fun p e R s mid args below meth c T locs cells slots C hcx X hR hF hL hC hn hc hsl => ?_
  obtain ⟨T₁, C₁, X₁, hh, L₁, C1, S₁⟩ := hs p e R s mid args below meth c T locs cells slots C hcx X hR hL hC
  refine ⟨T₁, locs, C₁, ?_, by rw [hσ, hh]; exact hR, hF, L₁, C1, S₁⟩
  rw [hσ, Nat.sub_self, Nat.sub_self]
  exact X₁
/-- a step of the frame alone -/
theorem QTri.frame {pc pc' : Nat} {L L' : QLoc} {S S' : List Value} {σ : QHeap} (h : QTri l Z n0 ad m (pc', L', S', σ) v σ')
    (hs : ∀ (p : Program) (e : Env) (R : Room) (s : State) (mid : MethodId) (args : Array Value) (below : List Frame) (meth : Method) (c : Code) (T : State) (locs : List Loc) (cells slots : Nat) (C : Array Slot),
      QCx Z p R s mid meth c m → Stand p l e R s mid args below meth c T locs cells slots → QRep Z n0 ad T.heap σ → QLocOk ad L C → C.size = c.maxLocals →
      ∃ C₁, QLocOk ad L' C₁ ∧ C₁.size = c.maxLocals ∧ ∀ target, Steps p.tables e below (T.setTop (mkF mid pc' C₁ (S'.map (qv ad)))) target → Steps p.tables e below (T.setTop (mkF mid pc C (S.map (qv ad)))) target) :
    QTri l Z n0 ad m (pc, L, S, σ) v σ' :=
  QTri.pure h rfl fun p e R s mid args below meth c T locs cells slots C hcx X hR hL hC => by
    obtain ⟨C₁, h1, h2, h3⟩ := hs p e R s mid args below meth c T locs cells slots C hcx X hR hL hC
    exact ⟨T, C₁, X, rfl, h1, h2, h3⟩
/-- a step of pc and stack alone -/
theorem QTri.stack {pc pc' : Nat} {L : QLoc} {S S' : List Value} {σ : QHeap} (h : QTri l Z n0 ad m (pc', L, S', σ) v σ')
    (hs : ∀ (p : Program) (e : Env) (R : Room) (s : State) (mid : MethodId) (args : Array Value) (below : List Frame) (meth : Method) (c : Code) (T : State) (locs : List Loc) (cells slots : Nat) (C : Array Slot) (target : State),
      p.tables.exec = Jvm.exec → Z.Warmed39 s.vm → c.code = pBytes m → s.vm.findClass (kName (pK m)) = some mid.cls → Stand p l e R s mid args below meth c T locs cells slots → QRep Z n0 ad T.heap σ → QLocOk ad L C →
      Steps p.tables e below (T.setTop (mkF mid pc' C (S'.map (qv ad)))) target → Steps p.tables e below (T.setTop (mkF mid pc C (S.map (qv ad)))) target) :
    QTri l Z n0 ad m (pc, L, S, σ) v σ' :=
  QTri.frame h fun p e R s mid args below meth c T locs cells slots C hcx X hR hL hC => ⟨C, hL, hC, fun target k => hs p e R s mid args below meth c T locs cells slots C target hcx.1 hcx.2.1 hcx.2.2.1 hcx.2.2.2.2.2.1 X hR hL k⟩
/-! ### what each helper says -/
theorem qload_inv {pc : Nat} {L : QLoc} {S : List Value} {σ : QHeap} {k : Nat} {ok : Value → Bool} {st' : QSt} (h : qload pc L S σ k ok = some st') : ∃ v, lget L k = some v ∧ ok v = true ∧ st' = (pc, L, v :: S, σ) := by
  unfold qload at h
  split at h
  · rename_i v hv
    cases ho : ok v with
    | true => rw [ho] at h; cases h; exact ⟨v, hv, ho, rfl⟩
    | false => rw [ho] at h; cases h
  · cases h
theorem qstore_inv {pc : Nat} {L : QLoc} {S : List Value} {σ : QHeap} {k : Nat} {ok : Value → Bool} {st' : QSt} (h : qstore pc L S σ k ok = some st') : ∃ v S' L', S = v :: S' ∧ ok v = true ∧ lput L k v = some L' ∧ st' = (pc, L', S', σ) := by
  unfold qstore at h
  split at h
  · rename_i v S'
    cases ho : ok v with
    | true =>
      rw [ho] at h
      simp only [cond_true] at h
      split at h
      · rename_i L' hL'
        cases h; exact ⟨v, S', L', rfl, ho, hL', rfl⟩
      · cases h
    | false => rw [ho] at h; cases h
  · cases h
theorem qbin_inv {pc : Nat} {L : QLoc} {S : List Value} {σ : QHeap} {f : Int32 → Int32 → Int32} {st' : QSt} (h : qbin pc L S σ f = some st') : ∃ x y S', S = .int y :: .int x :: S' ∧ st' = (pc, L, .int (f x y) :: S', σ) := by
  unfold qbin at h
  split at h
  · cases h; exact ⟨_, _, _, rfl, rfl⟩
  · cases h
theorem qbino_inv {pc : Nat} {L : QLoc} {S : List Value} {σ : QHeap} {f : Int32 → Int32 → Option Int32} {st' : QSt} (h : qbino pc L S σ f = some st') : ∃ x y z S', S = .int y :: .int x :: S' ∧ f x y = some z ∧ st' = (pc, L, .int z :: S', σ) := by
  unfold qbino at h
  split at h
  · obtain ⟨z, hz, h⟩ := Option.bind_eq_some_iff.mp h
    cases h; exact ⟨_, _, _, _, rfl, hz, rfl⟩
  · cases h
theorem qbinJ_inv {pc : Nat} {L : QLoc} {S : List Value} {σ : QHeap} {f : Int64 → Int64 → Int64} {st' : QSt} (h : qbinJ pc L S σ f = some st') : ∃ x y S', S = .long y :: .long x :: S' ∧ st' = (pc, L, .long (f x y) :: S', σ) := by
  unfold qbinJ at h
  split at h
  · cases h; exact ⟨_, _, _, rfl, rfl⟩
  · cases h
theorem qshJ_inv {pc : Nat} {L : QLoc} {S : List Value} {σ : QHeap} {f : Int64 → Int32 → Int64} {st' : QSt} (h : qshJ pc L S σ f = some st') : ∃ x y S', S = .int y :: .long x :: S' ∧ st' = (pc, L, .long (f x y) :: S', σ) := by
  unfold qshJ at h
  split at h
  · cases h; exact ⟨_, _, _, rfl, rfl⟩
  · cases h
theorem quni_inv {pc : Nat} {L : QLoc} {S : List Value} {σ : QHeap} {f : Int32 → Value} {st' : QSt} (h : quni pc L S σ f = some st') : ∃ x S', S = .int x :: S' ∧ st' = (pc, L, f x :: S', σ) := by
  unfold quni at h
  split at h
  · cases h; exact ⟨_, _, rfl, rfl⟩
  · cases h
theorem quniJ_inv {pc : Nat} {L : QLoc} {S : List Value} {σ : QHeap} {f : Int64 → Value} {st' : QSt} (h : quniJ pc L S σ f = some st') : ∃ x S', S = .long x :: S' ∧ st' = (pc, L, f x :: S', σ) := by
  unfold quniJ at h
  split at h
  · cases h; exact ⟨_, _, rfl, rfl⟩
  · cases h
theorem qif_inv {pc : Nat} {L : QLoc} {S : List Value} {σ : QHeap} {cd : ClassFile.Cond} {t : Nat} {st' : QSt} (h : qif pc L S σ cd t = some st') : ∃ x S', S = .int x :: S' ∧ st' = (bif ifCond.holds cd x then t else pc, L, S', σ) := by
  unfold qif at h
  split at h
  · cases h; exact ⟨_, _, rfl, rfl⟩
  · cases h
theorem qicmp_inv {pc : Nat} {L : QLoc} {S : List Value} {σ : QHeap} {cd : ClassFile.Cond} {t : Nat} {st' : QSt} (h : qicmp pc L S σ cd t = some st') : ∃ x y S', S = .int y :: .int x :: S' ∧ st' = (bif if_icmp.holds cd x y then t else pc, L, S', σ) := by
  unfold qicmp at h
  split at h
  · cases h; exact ⟨_, _, _, rfl, rfl⟩
  · cases h
theorem qget_inv {pc : Nat} {L : QLoc} {S : List Value} {σ : QHeap} {k : Nat} {st' : QSt} (h : qget pc L S σ k = some st') : ∃ a S' vs v, S = .ref a :: S' ∧ hget σ a = some (.inl vs) ∧ vget vs k = some v ∧ st' = (pc, L, v :: S', σ) := by
  unfold qget at h
  split at h
  · split at h
    · split at h
      · cases h; exact ⟨_, _, _, _, rfl, by assumption, by assumption, rfl⟩
      · cases h
    · cases h
  · cases h
theorem qput_inv {pc : Nat} {L : QLoc} {S : List Value} {σ : QHeap} {k : Nat} {st' : QSt} (h : qput pc L S σ k = some st') : ∃ v a S' vs w, S = v :: .ref a :: S' ∧ hget σ a = some (.inl vs) ∧ k0 ≤ a ∧ k < vs.length ∧ qfit (fTy k) v = some w ∧ st' = (pc, L, S', σ.set a (.inl (vs.set k w))) := by
  unfold qput at h
  split at h
  · rename_i v a S'
    split at h
    · rename_i vs hvs
      cases hbb : (Nat.ble k0 a && Nat.ble (k + 1) vs.length) with
      | false => rw [hbb] at h; cases h
      | true =>
        rw [hbb] at h
        simp only [cond_true] at h
        obtain ⟨u, hu, h⟩ := Option.bind_eq_some_iff.mp h
        cases h
        obtain ⟨b1, b2⟩ := Bool.and_eq_true_iff.mp hbb
        exact ⟨v, a, S', vs, u, rfl, hvs, Nat.le_of_ble_eq_true b1, Nat.le_of_ble_eq_true b2, hu, rfl⟩
    · cases h
  · cases h
theorem qald_inv {pc : Nat} {L : QLoc} {S : List Value} {σ : QHeap} {ok : FieldType → Bool} {st' : QSt} (h : qald pc L S σ ok = some st') : ∃ j a S' ty xs v, S = .int j :: .ref a :: S' ∧ hget σ a = some (.inr (.inl (ty, xs))) ∧ ok ty = true ∧ aget xs j = some v ∧ st' = (pc, L, .int v :: S', σ) := by
  unfold qald at h
  split at h
  · rename_i j a S'
    split at h
    · rename_i x hx
      cases ht : ok x.1 with
      | false => rw [ht] at h; cases h
      | true =>
        rw [ht] at h
        simp only [cond_true] at h
        obtain ⟨u, hu, h⟩ := Option.bind_eq_some_iff.mp h
        cases h
        exact ⟨j, a, S', x.1, x.2, u, rfl, hx, ht, hu, rfl⟩
    · cases h
  · cases h
theorem qaldJ_inv {pc : Nat} {L : QLoc} {S : List Value} {σ : QHeap} {st' : QSt} (h : qaldJ pc L S σ = some st') : ∃ j a S' xs v, S = .int j :: .ref a :: S' ∧ hget σ a = some (.inr (.inr xs)) ∧ aget xs j = some v ∧ st' = (pc, L, .long v :: S', σ) := by
  unfold qaldJ at h
  split at h
  · rename_i j a S'
    split at h
    · rename_i x hx
      obtain ⟨u, hu, h⟩ := Option.bind_eq_some_iff.mp h
      cases h
      exact ⟨j, a, S', x, u, rfl, hx, hu, rfl⟩
    · cases h
  · cases h
theorem qast_inv {pc : Nat} {L : QLoc} {S : List Value} {σ : QHeap} {ok : FieldType → Bool} {st' : QSt} (h : qast pc L S σ ok = some st') : ∃ v j a S' ty xs ys, S = .int v :: .int j :: .ref a :: S' ∧ hget σ a = some (.inr (.inl (ty, xs))) ∧ ok ty = true ∧ k0 ≤ a ∧ aset xs j (qnar ty v) = some ys ∧ st' = (pc, L, S', σ.set a (.inr (.inl (ty, ys)))) := by
  unfold qast at h
  split at h
  · rename_i v j a S'
    split at h
    · rename_i x hx
      cases ht : (ok x.1 && Nat.ble k0 a) with
      | false => rw [ht] at h; cases h
      | true =>
        rw [ht] at h
        simp only [cond_true] at h
        obtain ⟨u, hu, h⟩ := Option.bind_eq_some_iff.mp h
        cases h
        obtain ⟨b1, b2⟩ := Bool.and_eq_true_iff.mp ht
        exact ⟨v, j, a, S', x.1, x.2, u, rfl, hx, b1, Nat.le_of_ble_eq_true b2, hu, rfl⟩
    · cases h
  · cases h
theorem qastJ_inv {pc : Nat} {L : QLoc} {S : List Value} {σ : QHeap} {st' : QSt} (h : qastJ pc L S σ = some st') : ∃ v j a S' xs ys, S = .long v :: .int j :: .ref a :: S' ∧ hget σ a = some (.inr (.inr xs)) ∧ k0 ≤ a ∧ aset xs j v = some ys ∧ st' = (pc, L, S', σ.set a (.inr (.inr ys))) := by
  unfold qastJ at h
  split at h
  · rename_i v j a S'
    split at h
    · rename_i x hx
      cases ht : (Nat.ble k0 a) with
      | false => rw [ht] at h; cases h
      | true =>
        rw [ht] at h
        simp only [cond_true] at h
        obtain ⟨u, hu, h⟩ := Option.bind_eq_some_iff.mp h
        cases h
        exact ⟨v, j, a, S', x, u, rfl, hx, Nat.le_of_ble_eq_true ht, hu, rfl⟩
    · cases h
  · cases h
theorem qlen_inv {pc : Nat} {L : QLoc} {S : List Value} {σ : QHeap} {st' : QSt} (h : qlen pc L S σ = some st') : ∃ a S' n, S = .ref a :: S' ∧ ((∃ ty xs, hget σ a = some (.inr (.inl (ty, xs))) ∧ n = xs.length) ∨ ∃ xs, hget σ a = some (.inr (.inr xs)) ∧ n = xs.length) ∧ st' = (pc, L, .int n.toInt32 :: S', σ) := by
  unfold qlen at h
  split at h
  · rename_i a S'
    split at h
    · rename_i x hx
      cases h; exact ⟨a, S', _, rfl, Or.inl ⟨x.1, x.2, hx, rfl⟩, rfl⟩
    · rename_i x hx
      cases h; exact ⟨a, S', _, rfl, Or.inr ⟨x, hx, rfl⟩, rfl⟩
    · cases h
  · cases h
theorem isI_inv {v : Value} (h : isI v = true) : ∃ x, v = .int x := by cases v <;> simp [isI] at h; exact ⟨_, rfl⟩
theorem isJ_inv {v : Value} (h : isJ v = true) : ∃ x, v = .long x := by cases v <;> simp [isJ] at h; exact ⟨_, rfl⟩
theorem isR_inv {v : Value} (h : isR v = true) : ∃ x, v = .ref x := by cases v <;> simp [isR] at h; exact ⟨_, rfl⟩
theorem aget_inv {α : Type} {xs : List α} {j : Int32} {x : α} (h : aget xs j = some x) : ¬ j < 0 ∧ xs[j.toNatClampNeg]? = some x := by
  unfold aget at h
  split at h
  · cases h
  · rename_i q; exact ⟨q, h⟩
theorem aset_inv {α : Type} {xs ys : List α} {j : Int32} {x : α} (h : aset xs j x = some ys) : ¬ j < 0 ∧ j.toNatClampNeg < xs.length ∧ ys = xs.set j.toNatClampNeg x := by
  unfold aset at h
  split at h
  · cases h
  · rename_i q
    split at h
    · rename_i q2; cases h; exact ⟨q, q2, rfl⟩
    · cases h
theorem qnew_inv {n : Int32} {k : Nat} (h : qnew n = some k) : ¬ n < 0 ∧ n.toNatClampNeg = k ∧ k ≤ 67108864 := by
  unfold qnew at h
  split at h
  · cases h
  · rename_i q
    split at h
    · rename_i q2; cases h; exact ⟨q, rfl, q2⟩
    · cases h
/-! ### the heap's facts over a step -/
theorem QCellOk.other {h h' : Heap} {a b : Addr} {sl : Nat} {w : Value} {c : QCell} (H : QCellOk Z ad h b c) (W : Wr h h' a sl w) (ne : b ≠ a) : QCellOk Z ad h' b c := by
  rcases c with vs | ⟨ty, xs⟩ | xs
  · obtain ⟨h1, h2, h3⟩ := H
    exact ⟨h1.wr W, h2, fun k u hk hu => (h3 k u hk hu).other W (Or.inl ne)⟩
  · obtain ⟨c, h1, h2⟩ := H
    exact ⟨c, h1.other W ne, h2⟩
  · obtain ⟨c, h1, h2⟩ := H
    exact ⟨c, h1.other W ne, h2⟩
theorem QCellOk.ext {h h' : Heap} {b : Addr} {c : QCell} (H : QCellOk Z ad h b c) (E : Ext h h') : QCellOk Z ad h' b c := by
  rcases c with vs | ⟨ty, xs⟩ | xs
  · obtain ⟨h1, h2, h3⟩ := H
    exact ⟨h1.ext E, h2, fun k u hk hu => (h3 k u hk hu).ext E⟩
  · obtain ⟨c, h1, h2⟩ := H
    exact ⟨c, h1.ext E, h2⟩
  · obtain ⟨c, h1, h2⟩ := H
    exact ⟨c, h1.ext E, h2⟩
theorem QRep.set {h h' : Heap} {σ : QHeap} {a : Nat} {sl : Nat} {w : Value} {c d : QCell} (H : QRep Z n0 ad h σ) (Ad : QAd n0 ad) (W : Wr h h' (ad a) sl w) (hc : hget σ a = some c) (hd : QCellOk Z ad h' (ad a) d) : QRep Z n0 ad h' (σ.set a d) := by
  obtain ⟨h1, h2, h3⟩ := H
  refine ⟨by simpa using h1, by rw [W.size, h2]; simp, fun k e he => ?_⟩
  rw [hget_set hc] at he
  split at he
  · rename_i q; cases he; rw [q]; exact hd
  · rename_i q; exact (h3 k e he).other W fun z => q (Ad.2 _ _ z)
theorem QRep.push {h h' : Heap} {σ : QHeap} {c : QCell} (H : QRep Z n0 ad h σ) (Ad : QAd n0 ad) (E : Ext h h') (hs : h'.size = h.size + 1) (hc : QCellOk Z ad h' h.size c) : QRep Z n0 ad h' (σ ++ [c]) := by
  obtain ⟨h1, h2, h3⟩ := H
  refine ⟨by simp; omega, by rw [hs, h2]; simp; omega, fun k e he => ?_⟩
  rw [hget_eq] at he
  rcases Nat.lt_or_ge k σ.length with q | q
  · rw [List.getElem?_append_left q, ← hget_eq] at he
    exact (h3 k e he).ext E
  · rw [List.getElem?_append_right q] at he
    obtain rfl : k = σ.length := by
      rcases Nat.lt_or_ge (k - σ.length) 1 with z | z
      · omega
      · rw [List.getElem?_eq_none (by simpa using z)] at he; cases he
    simp at he
    rw [← he, Ad.1 _ h1, ← h2]
    exact hc
theorem mem_of_contains {α : Type} [BEq α] [LawfulBEq α] {L : List α} {a : α} (h : L.contains a = true) : a ∈ L := by simpa using h
theorem lkF_lt : ∀ t ∈ lkF, t.2.2 < nF := by decide +kernel
theorem laid_of (W : QW Z a0) {k : Nat} (hk : k < nF) : Laid Z a0 cName cName (fNm k) (fDs k) := by
  have q := (qw_lay W) k hk
  cases hf : fFin k with
  | true => rw [hf] at q; exact Or.inr q
  | false => rw [hf] at q; exact Or.inl q
theorem qfit_inv {ty : FieldType} {v w : Value} (h : qfit ty v = some w) : v = w ∧ narrow ty (qv ad w) = qv ad w ∧ fits ty (qv ad w) = true := by
  unfold qfit at h
  split at h
  · cases h; exact ⟨rfl, rfl, rfl⟩
  · rename_i x
    obtain ⟨y, hy, h⟩ := Option.bind_eq_some_iff.mp h
    cases h
    unfold qboo at hy
    split at hy
    · rename_i e; cases hy; subst e; exact ⟨rfl, rfl, rfl⟩
    · split at hy
      · rename_i e; cases hy; subst e; exact ⟨rfl, rfl, rfl⟩
      · cases hy
  · cases h; exact ⟨rfl, rfl, rfl⟩
  · cases h; exact ⟨rfl, rfl, rfl⟩
  · cases h
theorem vget_set {vs : List Value} {k j : Nat} {w : Value} (hk : k < vs.length) : vget (vs.set k w) j = if j = k then some w else vget vs j := by
  simp only [vget_eq, List.getElem?_set]
  by_cases e : k = j
  · subst e; simp [hk]
  · simp [e, Ne.symm e]
theorem ald_in {α : Type} {f : α → Value} {xs : List α} {c : Cell} {j : Int32} {x : α} (hc : c.slots = (xs.map f).toArray) (h : aget xs j = some x) : ¬ (j < 0 ∨ c.slots.size ≤ j.toNatClampNeg) ∧ c.slots[j.toNatClampNeg]? = some (f x) := by
  obtain ⟨h1, h2⟩ := aget_inv h
  have h3 := (List.getElem?_eq_some_iff.mp h2).1
  refine ⟨fun q => ?_, by rw [hc]; simp [h2]⟩
  rcases q with q | q
  · exact h1 q
  · rw [hc] at q; simp at q; omega
theorem ast_in {α : Type} {f : α → Value} {xs ys : List α} {c : Cell} {j : Int32} {x : α} (hc : c.slots = (xs.map f).toArray) (h : aset xs j x = some ys) : ¬ (j < 0 ∨ c.slots.size ≤ j.toNatClampNeg) ∧ (c.setSlot j.toNatClampNeg (f x)).slots = (ys.map f).toArray := by
  obtain ⟨h1, h2, rfl⟩ := aset_inv h
  refine ⟨fun q => ?_, by simp [Cell.setSlot, hc, List.map_set]⟩
  rcases q with q | q
  · exact h1 q
  · rw [hc] at q; simp at q; omega
theorem qgrow {σ : QHeap} {c : QCell} : qhs (σ ++ [c]) - qhs σ = qsz c := by rw [qhs_app]; simp [qhs]
set_option maxHeartbeats 4000000 in
theorem QTri.newArr (Ad : QAd n0 ad) (W : QW Z a0) {pc aux : Nat} {L : QLoc} {S : List Value} {σ : QHeap} {aty : ArrayType} {n : Int32} {k : Nat} {c : QCell} (hk : qnew n = some k) (hc : pCode m pc = some (.newarray aty, aux)) (hz : qsz c = k)
    (hq : ∀ (h' : Heap) (a : Addr) (cA : ClassId), Arr Z h' a (newA cA (newarray.typeOf aty) n) (newarray.typeOf aty) → QCellOk Z ad h' a c)
    (h : QTri l Z n0 ad m (pc + 2, L, .ref σ.length :: S, σ ++ [c]) v σ') : QTri l Z n0 ad m (pc, L, .int n :: S, σ) v σ' := by
  have hd : decode (pBytes m) pc = .ok (.newarray aty, 2) := pDecN hc rfl
  obtain ⟨n1, n2, n3⟩ := qnew_inv hk
  refine QTri.gen h (by simp) (by simp [qhs_app]) fun p e R s mid args below meth c' T locs cells slots C hcx X hR hF hL hC hn hc1 hsl => ?_
  obtain ⟨hx, hZ, hby, hml, hret, hown, hnm, hfr, hlo⟩ := hcx
  have hd2 : decode c'.code pc = .ok (.newarray aty, 2) := by rw [hby]; exact hd
  simp only [List.length_append, List.length_singleton, Nat.add_sub_cancel_left, qgrow, hz] at hc1 hsl ⊢
  obtain ⟨T₁, h₁, cA, X₁, e₁, E₁, A₁, st⟩ := newP X hx hZ (aty := aty) (qw_arr W (newarray.typeOf aty) (mem_of_contains (show aTys.contains (newarray.typeOf aty) = true from pRest hc))) rfl (g := mkF mid pc C (.int n :: S.map (qv ad))) rfl hd2 rfl n1 (cap := k) (by omega) (by omega) hc1 hsl
  have hsz : h₁.size = T.heap.size + 1 := by
    have q1 := X₁.heapSize
    have q2 : T.heap.size < h₁.size := A₁.lt
    have q3 := hR.2.1
    rw [e₁] at q1
    have : n0 + (σ.length - k0) = s.heap.size + cells := hn
    have q3' : T.heap.size = n0 + (σ.length - k0) := q3
    omega
  refine ⟨T₁, locs, C, X₁, ?_, hF, hL, hC, fun target q => ?_⟩
  · rw [e₁]; exact QRep.push hR Ad E₁ hsz (hq _ _ _ A₁)
  · refine st _ ?_
    have e2 : ad σ.length = T.heap.size := by rw [Ad.1 _ hR.1]; exact hR.2.1.symm
    simp only [List.map_cons, qv, e2] at q
    exact q
set_option maxHeartbeats 4000000 in
theorem QTri.getfield (W : QW Z a0) {pc idx aux : Nat} {L : QLoc} {S : List Value} {σ : QHeap} {st' : QSt} (h : QTri l Z n0 ad m st' v σ') (hc : pCode m pc = some (.getfield idx, aux)) (hs : qget (pc + 3) L S σ aux = some st') : QTri l Z n0 ad m (pc, L, S, σ) v σ' := by
  have hd : decode (pBytes m) pc = .ok (.getfield idx, 3) := pDecN hc rfl
  obtain ⟨a, S', vs, w, rfl, hvs, hw, rfl⟩ := qget_inv hs
  have hm := mem_of_contains (show lkF.contains (pK m, idx, aux) = true from pRest hc)
  have hlt := lkF_lt _ hm
  refine QTri.pure h rfl fun p e R s mid args below meth c T locs cells slots C hcx X hR hL hC => ?_
  obtain ⟨hx, hZ, hby, hml, hret, hown, hnm, hfr, hlo⟩ := hcx
  have hd2 : decode c.code pc = .ok (.getfield idx, 3) := by rw [hby]; exact hd
  have F := (hR.2.2 _ _ hvs).2.2 aux w hlt hw
  obtain ⟨T₁, X₁, e₁, st⟩ := getF X hx hZ hown (host := "") (index := idx) (Or.inl (qw_fl W (pK m, idx, aux) hm)) Via.refl rfl F (g := mkF mid pc C (List.map (qv ad) (.ref a :: S'))) rfl rfl hd2
  exact ⟨T₁, C, X₁, e₁, hL, hC, st⟩
set_option maxHeartbeats 4000000 in
theorem QTri.putfield (Ad : QAd n0 ad) (W : QW Z a0) {pc idx aux : Nat} {L : QLoc} {S : List Value} {σ : QHeap} {st' : QSt} (h : QTri l Z n0 ad m st' v σ') (hc : pCode m pc = some (.putfield idx, aux)) (hs : qput (pc + 3) L S σ aux = some st') : QTri l Z n0 ad m (pc, L, S, σ) v σ' := by
  have hd : decode (pBytes m) pc = .ok (.putfield idx, 3) := pDecN hc rfl
  obtain ⟨w, a, S', vs, u, rfl, hvs, b1, b2, hu, rfl⟩ := qput_inv hs
  obtain ⟨r1, r2⟩ := Bool.and_eq_true_iff.mp (show (lkF.contains (pK m, idx, aux) && (!fFin aux || (pK m == 1 && pNm m == "<init>"))) = true from pRest hc)
  have hm := mem_of_contains r1
  have hlt := lkF_lt _ hm
  obtain ⟨rfl, q2, q3⟩ := qfit_inv (ad := ad) hu
  have hsz : qhs (σ.set a (Sum.inl (vs.set aux w))) = qhs σ := qhs_set hvs rfl
  refine QTri.gen h (by simp) (by show qhs σ ≤ qhs (σ.set a (Sum.inl (vs.set aux w))); rw [hsz]; exact Nat.le_refl _) fun p e R s mid args below meth c T locs cells slots C hcx X hR hF hL hC hn hc1 hsl => ?_
  obtain ⟨hx, hZ, hby, hml, hret, hown, hnm, hfr, hlo⟩ := hcx
  have hd2 : decode c.code pc = .ok (.putfield idx, 3) := by rw [hby]; exact hd
  obtain ⟨E, l1, Fs⟩ := hR.2.2 _ _ hvs
  obtain ⟨old, hold⟩ : ∃ old, vget vs aux = some old := by rw [vget_eq]; exact ⟨_, List.getElem?_eq_getElem b2⟩
  have lay : (Cond.lays cName cName (fNm aux) (fDs aux)).before a0 Z = true ∨ ((Cond.laysFinal cName cName (fNm aux) (fDs aux)).before a0 Z = true ∧ kName (pK m) = cName ∧ meth.name = "<init>") := by
    have q := (qw_lay W) aux hlt
    cases hf : fFin aux with
    | false => rw [hf] at q; exact Or.inl q
    | true =>
      rw [hf] at q r2
      simp at r2
      exact Or.inr ⟨q, by rw [r2.1]; exact kOne, by rw [hnm]; exact r2.2⟩
  obtain ⟨T₁, h₁, X₁, e₁, W₁, st⟩ := putF X hx hZ hown (host := "") (index := idx) (Or.inl (qw_fl W (pK m, idx, aux) hm)) Via.refl rfl (Fs aux old hlt hold) E lay ((qw_inst W)) (fPrs aux hlt) q2 q3 (g := mkF mid pc C (List.map (qv ad) (w :: .ref a :: S'))) rfl rfl hd2
  refine ⟨T₁, _, C, ?_, ?_, Fr.snoc X₁ hF (by rw [Ad.1 a b1]; exact Nat.le_add_right _ _), hL, hC, st⟩
  · show Stand _ _ _ _ _ _ _ _ _ _ _ _ (cells + ((σ.set a (Sum.inl (vs.set aux w))).length - σ.length)) (slots + (qhs (σ.set a (Sum.inl (vs.set aux w))) - qhs σ))
    rw [hsz, Nat.sub_self, List.length_set, Nat.sub_self]
    exact X₁
  · rw [e₁]
    refine QRep.set hR Ad W₁ hvs ⟨E.wr W₁, by simpa using l1, fun k u hk hu => ?_⟩
    rw [vget_set b2] at hu
    split at hu
    · rename_i e; cases hu; rw [e]; exact (Fs aux old hlt hold).same W₁
    · rename_i ne
      exact (Fs k u hk hu).other W₁ (Or.inr (slot_ne (laid_of W hk) (laid_of W hlt) (fun z => ne (fInj _ hk _ hlt z)) (fPrs _ hk) (fPrs _ hlt)))
theorem tyI_inv {ty : FieldType} (h : tyI ty = true) : ty = .int := by cases ty <;> simp [tyI] at h; rfl
theorem tyB_inv {ty : FieldType} (h : tyB ty = true) : ty = .boolean ∨ ty = .byte := by cases ty <;> simp [tyB] at h <;> simp
set_option maxHeartbeats 4000000 in
theorem QTri.iaload {pc aux : Nat} {L : QLoc} {S : List Value} {σ : QHeap} {st' : QSt} (h : QTri l Z n0 ad m st' v σ') (hc : pCode m pc = some (.iaload, aux)) (hs : qald (pc + 1) L S σ tyI = some st') : QTri l Z n0 ad m (pc, L, S, σ) v σ' := by
  have hd : decode (pBytes m) pc = .ok (.iaload, 1) := pDecN hc rfl
  obtain ⟨j, a, S', ty, xs, w, rfl, hx1, ht, hw, rfl⟩ := qald_inv hs
  obtain rfl := tyI_inv ht
  refine QTri.stack h fun p e R s mid args below meth c T locs cells slots C target hx hZ hby hown X hR hL k => ?_
  have hd2 : decode c.code pc = .ok (.iaload, 1) := by rw [hby]; exact hd
  obtain ⟨cl, A, hsl⟩ := hR.2.2 _ _ hx1
  obtain ⟨i1, i2⟩ := ald_in hsl hw
  exact X.iaload hx A.1 (State.isArrayOf_alike hZ.alike A.2.1) A.2.2 i1 i2 (g := mkF mid pc C (List.map (qv ad) (.int j :: .ref a :: S'))) rfl rfl hd2 _ k
set_option maxHeartbeats 4000000 in
theorem QTri.baload {pc aux : Nat} {L : QLoc} {S : List Value} {σ : QHeap} {st' : QSt} (h : QTri l Z n0 ad m st' v σ') (hc : pCode m pc = some (.baload, aux)) (hs : qald (pc + 1) L S σ tyB = some st') : QTri l Z n0 ad m (pc, L, S, σ) v σ' := by
  have hd : decode (pBytes m) pc = .ok (.baload, 1) := pDecN hc rfl
  obtain ⟨j, a, S', ty, xs, w, rfl, hx1, ht, hw, rfl⟩ := qald_inv hs
  refine QTri.stack h fun p e R s mid args below meth c T locs cells slots C target hx hZ hby hown X hR hL k => ?_
  have hd2 : decode c.code pc = .ok (.baload, 1) := by rw [hby]; exact hd
  obtain ⟨cl, A, hsl⟩ := hR.2.2 _ _ hx1
  obtain ⟨i1, i2⟩ := ald_in hsl hw
  rcases tyB_inv ht with rfl | rfl
  · exact X.baloadBooleans hx A.1 (State.isArrayOf_alike hZ.alike A.2.1) A.2.2 i1 i2 (g := mkF mid pc C (List.map (qv ad) (.int j :: .ref a :: S'))) rfl rfl hd2 _ k
  · exact X.baloadBytes hx A.1 (State.isArrayOf_alike hZ.alike A.2.1) A.2.2 i1 i2 (g := mkF mid pc C (List.map (qv ad) (.int j :: .ref a :: S'))) rfl rfl hd2 _ k
set_option maxHeartbeats 4000000 in
theorem QTri.laload {pc aux : Nat} {L : QLoc} {S : List Value} {σ : QHeap} {st' : QSt} (h : QTri l Z n0 ad m st' v σ') (hc : pCode m pc = some (.laload, aux)) (hs : qaldJ (pc + 1) L S σ = some st') : QTri l Z n0 ad m (pc, L, S, σ) v σ' := by
  have hd : decode (pBytes m) pc = .ok (.laload, 1) := pDecN hc rfl
  obtain ⟨j, a, S', xs, w, rfl, hx1, hw, rfl⟩ := qaldJ_inv hs
  refine QTri.stack h fun p e R s mid args below meth c T locs cells slots C target hx hZ hby hown X hR hL k => ?_
  have hd2 : decode c.code pc = .ok (.laload, 1) := by rw [hby]; exact hd
  obtain ⟨cl, A, hsl⟩ := hR.2.2 _ _ hx1
  obtain ⟨i1, i2⟩ := ald_in hsl hw
  exact X.laload hx A.1 (State.isArrayOf_alike hZ.alike A.2.1) A.2.2 i1 i2 (g := mkF mid pc C (List.map (qv ad) (.int j :: .ref a :: S'))) rfl rfl hd2 _ k
/-- behind a store into an array -/
theorem QTri.stored (Ad : QAd n0 ad) {pc : Nat} {L : QLoc} {S S' : List Value} {σ : QHeap} {a j : Nat} {w : Value} {c d : QCell} (hx1 : hget σ a = some c) (b1 : k0 ≤ a) (hz : qsz d = qsz c) (h : QTri l Z n0 ad m (pc + 1, L, S', σ.set a d) v σ')
    (hs : ∀ (p : Program) (e : Env) (R : Room) (s : State) (mid : MethodId) (args : Array Value) (below : List Frame) (meth : Method) (c : Code) (T : State) (locs : List Loc) (cells slots : Nat) (C : Array Slot),
      QCx Z p R s mid meth c m → Stand p l e R s mid args below meth c T locs cells slots → QRep Z n0 ad T.heap σ →
      ∃ T' h', Stand p l e R s mid args below meth c T' (locs ++ [⟨ad a, j⟩]) cells slots ∧ T'.heap = h' ∧ Wr T.heap h' (ad a) j w ∧ QCellOk Z ad h' (ad a) d ∧ ∀ target, Steps p.tables e below (T'.setTop (mkF mid (pc + 1) C (S'.map (qv ad)))) target → Steps p.tables e below (T.setTop (mkF mid pc C (S.map (qv ad)))) target) :
    QTri l Z n0 ad m (pc, L, S, σ) v σ' := by
  have hsz : qhs (σ.set a d) = qhs σ := qhs_set hx1 hz
  refine QTri.gen h (by simp) (by show qhs σ ≤ qhs (σ.set a d); rw [hsz]; exact Nat.le_refl _) fun p e R s mid args below meth c T locs cells slots C hcx X hR hF hL hC hn hc1 hsl => ?_
  obtain ⟨T₁, h₁, X₁, e₁, W₁, Q₁, st⟩ := hs p e R s mid args below meth c T locs cells slots C hcx X hR
  refine ⟨T₁, _, C, ?_, ?_, Fr.snoc X₁ hF (by rw [Ad.1 a b1]; exact Nat.le_add_right _ _), hL, hC, st⟩
  · show Stand _ _ _ _ _ _ _ _ _ _ _ _ (cells + ((σ.set a d).length - σ.length)) (slots + (qhs (σ.set a d) - qhs σ))
    rw [hsz, Nat.sub_self, List.length_set, Nat.sub_self]
    exact X₁
  · rw [e₁]
    exact QRep.set hR Ad W₁ hx1 Q₁
set_option maxHeartbeats 4000000 in
theorem QTri.iastore (Ad : QAd n0 ad) {pc aux : Nat} {L : QLoc} {S : List Value} {σ : QHeap} {st' : QSt} (h : QTri l Z n0 ad m st' v σ') (hc : pCode m pc = some (.iastore, aux)) (hs : qast (pc + 1) L S σ tyI = some st') : QTri l Z n0 ad m (pc, L, S, σ) v σ' := by
  have hd : decode (pBytes m) pc = .ok (.iastore, 1) := pDecN hc rfl
  obtain ⟨w, j, a, S', ty, xs, ys, rfl, hx1, ht, b1, hw, rfl⟩ := qast_inv hs
  obtain rfl := tyI_inv ht
  refine QTri.stored Ad (j := j.toNatClampNeg) (w := .int w) hx1 b1 (by rw [(aset_inv hw).2.2]; simp [qsz]) h fun p e R s mid args below meth c T locs cells slots C hcx X hR => ?_
  have hd2 : decode c.code pc = .ok (.iastore, 1) := by rw [hcx.2.2.1]; exact hd
  obtain ⟨cl, A, hsl⟩ := hR.2.2 _ _ hx1
  obtain ⟨i1, i2⟩ := ast_in hsl hw
  obtain ⟨T₁, h₁, X₁, e₁, W₁, st⟩ := stI X hcx.1 hcx.2.1 rfl A i1 (g := mkF mid pc C (List.map (qv ad) (.int w :: .int j :: .ref a :: S'))) rfl rfl hd2
  exact ⟨T₁, h₁, X₁, e₁, W₁, ⟨_, A.same W₁, i2⟩, st⟩
set_option maxHeartbeats 4000000 in
theorem QTri.bastore (Ad : QAd n0 ad) {pc aux : Nat} {L : QLoc} {S : List Value} {σ : QHeap} {st' : QSt} (h : QTri l Z n0 ad m st' v σ') (hc : pCode m pc = some (.bastore, aux)) (hs : qast (pc + 1) L S σ tyB = some st') : QTri l Z n0 ad m (pc, L, S, σ) v σ' := by
  have hd : decode (pBytes m) pc = .ok (.bastore, 1) := pDecN hc rfl
  obtain ⟨w, j, a, S', ty, xs, ys, rfl, hx1, ht, b1, hw, rfl⟩ := qast_inv hs
  refine QTri.stored Ad (j := j.toNatClampNeg) (w := .int (qnar ty w)) hx1 b1 (by rw [(aset_inv hw).2.2]; simp [qsz]) h fun p e R s mid args below meth c T locs cells slots C hcx X hR => ?_
  have hd2 : decode c.code pc = .ok (.bastore, 1) := by rw [hcx.2.2.1]; exact hd
  obtain ⟨cl, A, hsl⟩ := hR.2.2 _ _ hx1
  obtain ⟨i1, i2⟩ := ast_in hsl hw
  rcases tyB_inv ht with rfl | rfl
  · obtain ⟨T₁, h₁, X₁, e₁, W₁, st⟩ := stZ X hcx.1 hcx.2.1 rfl A i1 (g := mkF mid pc C (List.map (qv ad) (.int w :: .int j :: .ref a :: S'))) rfl rfl hd2
    exact ⟨T₁, h₁, X₁, e₁, W₁, ⟨_, A.same W₁, i2⟩, st⟩
  · obtain ⟨T₁, h₁, X₁, e₁, W₁, st⟩ := stB X hcx.1 hcx.2.1 rfl A i1 (g := mkF mid pc C (List.map (qv ad) (.int w :: .int j :: .ref a :: S'))) rfl rfl hd2
    exact ⟨T₁, h₁, X₁, e₁, W₁, ⟨_, A.same W₁, i2⟩, st⟩
set_option maxHeartbeats 4000000 in
theorem QTri.lastore (Ad : QAd n0 ad) {pc aux : Nat} {L : QLoc} {S : List Value} {σ : QHeap} {st' : QSt} (h : QTri l Z n0 ad m st' v σ') (hc : pCode m pc = some (.lastore, aux)) (hs : qastJ (pc + 1) L S σ = some st') : QTri l Z n0 ad m (pc, L, S, σ) v σ' := by
  have hd : decode (pBytes m) pc = .ok (.lastore, 1) := pDecN hc rfl
  obtain ⟨w, j, a, S', xs, ys, rfl, hx1, b1, hw, rfl⟩ := qastJ_inv hs
  refine QTri.stored Ad (j := j.toNatClampNeg) (w := .long w) hx1 b1 (by rw [(aset_inv hw).2.2]; simp [qsz]) h fun p e R s mid args below meth c T locs cells slots C hcx X hR => ?_
  have hd2 : decode c.code pc = .ok (.lastore, 1) := by rw [hcx.2.2.1]; exact hd
  obtain ⟨cl, A, hsl⟩ := hR.2.2 _ _ hx1
  obtain ⟨i1, i2⟩ := ast_in hsl hw
  obtain ⟨T₁, h₁, X₁, e₁, W₁, st⟩ := stJ X hcx.1 hcx.2.1 rfl A i1 (g := mkF mid pc C (List.map (qv ad) (.long w :: .int j :: .ref a :: S'))) rfl rfl hd2
  exact ⟨T₁, h₁, X₁, e₁, W₁, ⟨_, A.same W₁, i2⟩, st⟩
set_option maxHeartbeats 4000000 in
theorem QTri.alen {pc aux : Nat} {L : QLoc} {S : List Value} {σ : QHeap} {st' : QSt} (h : QTri l Z n0 ad m st' v σ') (hc : pCode m pc = some (.arraylength, aux)) (hs : qlen (pc + 1) L S σ = some st') : QTri l Z n0 ad m (pc, L, S, σ) v σ' := by
  have hd : decode (pBytes m) pc = .ok (.arraylength, 1) := pDecN hc rfl
  obtain ⟨a, S', n, rfl, hx1, rfl⟩ := qlen_inv hs
  refine QTri.stack h fun p e R s mid args below meth c T locs cells slots C target hx hZ hby hown X hR hL k => ?_
  have hd2 : decode c.code pc = .ok (.arraylength, 1) := by rw [hby]; exact hd
  rcases hx1 with ⟨ty, xs, hx1, rfl⟩ | ⟨xs, hx1, rfl⟩
  · obtain ⟨cl, A, hsl⟩ := hR.2.2 _ _ hx1
    have e1 : cl.slots.size = xs.length := by rw [hsl]; simp
    rw [← e1] at k
    exact X.arraylength hx A.1 (State.isArrayOf_alike hZ.alike A.2.1) (g := mkF mid pc C (List.map (qv ad) (.ref a :: S'))) rfl rfl hd2 _ k
  · obtain ⟨cl, A, hsl⟩ := hR.2.2 _ _ hx1
    have e1 : cl.slots.size = xs.length := by rw [hsl]; simp
    rw [← e1] at k
    exact X.arraylength hx A.1 (State.isArrayOf_alike hZ.alike A.2.1) (g := mkF mid pc C (List.map (qv ad) (.ref a :: S'))) rfl rfl hd2 _ k
set_option maxHeartbeats 4000000 in
theorem QTri.newObj (Ad : QAd n0 ad) (W : QW Z a0) {pc idx aux : Nat} {L : QLoc} {S : List Value} {σ : QHeap} (h : QTri l Z n0 ad m (pc + 3, L, .ref σ.length :: S, σ ++ [.inl cDef]) v σ') (hc : pCode m pc = some (.new idx, aux)) : QTri l Z n0 ad m (pc, L, S, σ) v σ' := by
  have hd : decode (pBytes m) pc = .ok (.new idx, 3) := pDecN hc rfl
  have hm := mem_of_contains (show lkN.contains (pK m, idx) = true from pRest hc)
  refine QTri.gen h (by simp) (by simp [qhs_app]) fun p e R s mid args below meth c T locs cells slots C hcx X hR hF hL hC hn hc1 hsl => ?_
  obtain ⟨hx, hZ, hby, hml, hret, hown, hnm, hfr, hlo⟩ := hcx
  have hd2 : decode c.code pc = .ok (.new idx, 3) := by rw [hby]; exact hd
  simp only [List.length_append, List.length_singleton, Nat.add_sub_cancel_left, qgrow, qsz] at hc1 hsl ⊢
  obtain ⟨T₁, h₁, X₁, e₁, E₁, A₁, D₁, -, st⟩ := newO X hx hZ hown (index := idx) (qw_nw W (pK m, idx) hm) ((qw_inst W)) ((qw_init W)) rfl (g := mkF mid pc C (S.map (qv ad))) rfl hd2 hc1 hsl
  have hsz : h₁.size = T.heap.size + 1 := by
    have q1 := X₁.heapSize
    have q2 : T.heap.size < h₁.size := A₁.lt
    have q3 : T.heap.size = n0 + (σ.length - k0) := hR.2.1
    rw [e₁] at q1
    have : n0 + (σ.length - k0) = s.heap.size + cells := hn
    omega
  refine ⟨T₁, locs, C, X₁, ?_, hF, hL, hC, fun target q => ?_⟩
  · rw [e₁]
    refine QRep.push hR Ad E₁ hsz ⟨A₁, cDefL, fun k u hk hu => ?_⟩
    rw [cDefs k hk] at hu
    cases hu
    have e3 : qv ad (defaultValue (fTy k)) = defaultValue (fTy k) := by
      cases hq : defaultValue (fTy k) with
      | ref a => exact absurd hq (fDef k hk a)
      | _ => rfl
    rw [e3]
    exact D₁ (laid_of W hk) (fPrs k hk)
  · refine st _ ?_
    have e2 : ad σ.length = T.heap.size := by rw [Ad.1 _ hR.1]; exact hR.2.1.symm
    simp only [List.map_cons, qv, e2] at q
    exact q
set_option maxHeartbeats 8000000 in
theorem QTri.step (Ad : QAd n0 ad) (W : QW Z a0) {st st' : QSt} (h : QTri l Z n0 ad m st' v σ') (hs : qstep m st = some st') : QTri l Z n0 ad m st v σ' := by
  obtain ⟨pc, L, S, σ⟩ := st
  unfold qstep at hs
  dsimp only at hs
  split at hs
  rotate_left
  · cases hs
  rename_i i aux hc
  have hd := pDecN hc rfl
  have hr := pRest hc
  unfold qexec at hs
  split at hs
  · -- aload_n
    obtain ⟨w, h1, h2, rfl⟩ := qload_inv hs
    obtain ⟨a, rfl⟩ := isR_inv h2
    exact QTri.stack h fun p e R s mid args below meth c T locs cells slots C target hx hZ hby hown X hR hL k => XS.aloadN X.here hx rfl (hb hby hd) (hL.2.1 _ _ h1) rfl k
  · obtain ⟨w, h1, h2, rfl⟩ := qload_inv hs
    obtain ⟨a, rfl⟩ := isR_inv h2
    exact QTri.stack h fun p e R s mid args below meth c T locs cells slots C target hx hZ hby hown X hR hL k => XS.aload X.here hx rfl (hb hby hd) (hL.2.1 _ _ h1) rfl k
  · obtain ⟨w, h1, h2, rfl⟩ := qload_inv hs
    obtain ⟨a, rfl⟩ := isI_inv h2
    exact QTri.stack h fun p e R s mid args below meth c T locs cells slots C target hx hZ hby hown X hR hL k => XS.iloadN X.here hx rfl (hb hby hd) (hL.2.1 _ _ h1) k
  · obtain ⟨w, h1, h2, rfl⟩ := qload_inv hs
    obtain ⟨a, rfl⟩ := isI_inv h2
    exact QTri.stack h fun p e R s mid args below meth c T locs cells slots C target hx hZ hby hown X hR hL k => XS.iload X.here hx rfl (hb hby hd) (hL.2.1 _ _ h1) k
  · obtain ⟨w, h1, h2, rfl⟩ := qload_inv hs
    obtain ⟨a, rfl⟩ := isJ_inv h2
    exact QTri.stack h fun p e R s mid args below meth c T locs cells slots C target hx hZ hby hown X hR hL k => XT.lloadN X.here hx rfl (hb hby hd) (hL.2.1 _ _ h1) k
  · obtain ⟨w, h1, h2, rfl⟩ := qload_inv hs
    obtain ⟨a, rfl⟩ := isJ_inv h2
    exact QTri.stack h fun p e R s mid args below meth c T locs cells slots C target hx hZ hby hown X hR hL k => XT.lload X.here hx rfl (hb hby hd) (hL.2.1 _ _ h1) k
  · cases hs -- iconst
    exact QTri.stack h fun p e R s mid args below meth c T locs cells slots C target hx hZ hby hown X hR hL k => XS.iconst X.here hx rfl (hb hby hd) k
  · cases hs
    exact QTri.stack h fun p e R s mid args below meth c T locs cells slots C target hx hZ hby hown X hR hL k => XS.bipush X.here hx rfl (hb hby hd) k
  · cases hs
    exact QTri.stack h fun p e R s mid args below meth c T locs cells slots C target hx hZ hby hown X hR hL k => XS.sipush X.here hx rfl (hb hby hd) k
  · cases hs
    exact QTri.stack h fun p e R s mid args below meth c T locs cells slots C target hx hZ hby hown X hR hL k => XT.lconst X.here hx rfl (hb hby hd) k
  · -- ldc
    unfold qldc at hs
    split at hs
    · rename_i w hw
      cases hs
      obtain ⟨x, hx1, hx2⟩ := qw_cI W (pK m, _, aux) (mem_of_contains (show lkC.contains (pK m, _, aux) = true from hr))
      rw [show vget cK aux = some w from hw] at hx1
      cases hx1
      exact QTri.stack h fun p e R s mid args below meth c T locs cells slots C target hx hZ hby hown X hR hL k => X.ldcI hx hown (mv hZ hx2) rfl (hb hby hd) k
    · cases hs
  · unfold qldc at hs
    split at hs
    · rename_i w hw
      cases hs
      obtain ⟨x, hx1, hx2⟩ := qw_cJ W (pK m, _, aux) (mem_of_contains (show lkD.contains (pK m, _, aux) = true from hr))
      rw [show vget cK aux = some w from hw] at hx1
      cases hx1
      exact QTri.stack h fun p e R s mid args below meth c T locs cells slots C target hx hZ hby hown X hR hL k => X.ldc2J hx hown (mv hZ hx2) rfl (hb hby hd) k
    · cases hs
  · -- istore_n
    obtain ⟨w, S', L', rfl, h2, h3, rfl⟩ := qstore_inv hs
    obtain ⟨a, rfl⟩ := isI_inv h2
    exact QTri.frame h fun p e R s mid args below meth c T locs cells slots C hcx X hR hL hC => by
      obtain ⟨D, d1, d2, d3⟩ := store_ok hL h3
      exact ⟨D, d2, d3.trans hC, fun target k => XS.istoreN X.here hcx.1 rfl (hb hcx.2.2.1 hd) rfl d1 k⟩
  · obtain ⟨w, S', L', rfl, h2, h3, rfl⟩ := qstore_inv hs
    obtain ⟨a, rfl⟩ := isI_inv h2
    exact QTri.frame h fun p e R s mid args below meth c T locs cells slots C hcx X hR hL hC => by
      obtain ⟨D, d1, d2, d3⟩ := store_ok hL h3
      exact ⟨D, d2, d3.trans hC, fun target k => XS.istore X.here hcx.1 rfl (hb hcx.2.2.1 hd) rfl d1 k⟩
  · obtain ⟨w, S', L', rfl, h2, h3, rfl⟩ := qstore_inv hs
    obtain ⟨a, rfl⟩ := isJ_inv h2
    exact QTri.frame h fun p e R s mid args below meth c T locs cells slots C hcx X hR hL hC => by
      obtain ⟨D, d1, d2, d3⟩ := store_ok hL h3
      exact ⟨D, d2, d3.trans hC, fun target k => XT.lstoreN X.here hcx.1 rfl (hb hcx.2.2.1 hd) rfl d1 k⟩
  · obtain ⟨w, S', L', rfl, h2, h3, rfl⟩ := qstore_inv hs
    obtain ⟨a, rfl⟩ := isJ_inv h2
    exact QTri.frame h fun p e R s mid args below meth c T locs cells slots C hcx X hR hL hC => by
      obtain ⟨D, d1, d2, d3⟩ := store_ok hL h3
      exact ⟨D, d2, d3.trans hC, fun target k => XT.lstore X.here hcx.1 rfl (hb hcx.2.2.1 hd) rfl d1 k⟩
  · obtain ⟨w, S', L', rfl, h2, h3, rfl⟩ := qstore_inv hs
    obtain ⟨a, rfl⟩ := isR_inv h2
    exact QTri.frame h fun p e R s mid args below meth c T locs cells slots C hcx X hR hL hC => by
      obtain ⟨D, d1, d2, d3⟩ := store_ok hL h3
      exact ⟨D, d2, d3.trans hC, fun target k => XS.astoreN X.here hcx.1 rfl (hb hcx.2.2.1 hd) rfl rfl d1 k⟩
  · obtain ⟨w, S', L', rfl, h2, h3, rfl⟩ := qstore_inv hs
    obtain ⟨a, rfl⟩ := isR_inv h2
    exact QTri.frame h fun p e R s mid args below meth c T locs cells slots C hcx X hR hL hC => by
      obtain ⟨D, d1, d2, d3⟩ := store_ok hL h3
      exact ⟨D, d2, d3.trans hC, fun target k => XS.astore X.here hcx.1 rfl (hb hcx.2.2.1 hd) rfl rfl d1 k⟩
  · -- iinc
    unfold qinc at hs
    split at hs
    · rename_i x hx1
      split at hs
      · rename_i L' hL'
        cases hs
        exact QTri.frame h fun p e R s mid args below meth c T locs cells slots C hcx X hR hL hC => by
          obtain ⟨D, d1, d2, d3⟩ := store_ok hL hL'
          exact ⟨D, d2, d3.trans hC, fun target k => XS.iinc X.here hcx.1 rfl (hb hcx.2.2.1 hd) (hL.2.1 _ _ hx1) d1 k⟩
      · cases hs
    · cases hs
  · obtain ⟨x, y, S', rfl, rfl⟩ := qbin_inv hs -- iadd
    exact QTri.stack h fun p e R s mid args below meth c T locs cells slots C target hx hZ hby hown X hR hL k => XS.iadd X.here hx rfl (hb hby hd) rfl k
  · obtain ⟨x, y, S', rfl, rfl⟩ := qbin_inv hs
    exact QTri.stack h fun p e R s mid args below meth c T locs cells slots C target hx hZ hby hown X hR hL k => XS.isub X.here hx rfl (hb hby hd) rfl k
  · obtain ⟨x, y, S', rfl, rfl⟩ := qbin_inv hs
    exact QTri.stack h fun p e R s mid args below meth c T locs cells slots C target hx hZ hby hown X hR hL k => XS.imul X.here hx rfl (hb hby hd) rfl k
  · obtain ⟨x, y, S', rfl, rfl⟩ := qbin_inv hs
    exact QTri.stack h fun p e R s mid args below meth c T locs cells slots C target hx hZ hby hown X hR hL k => XS.iand X.here hx rfl (hb hby hd) rfl k
  · obtain ⟨x, y, S', rfl, rfl⟩ := qbin_inv hs
    exact QTri.stack h fun p e R s mid args below meth c T locs cells slots C target hx hZ hby hown X hR hL k => XT.ior X.here hx rfl (hb hby hd) rfl k
  · obtain ⟨x, y, S', rfl, rfl⟩ := qbin_inv hs
    exact QTri.stack h fun p e R s mid args below meth c T locs cells slots C target hx hZ hby hown X hR hL k => XT.ixor X.here hx rfl (hb hby hd) rfl k
  · obtain ⟨x, y, S', rfl, rfl⟩ := qbin_inv hs
    exact QTri.stack h fun p e R s mid args below meth c T locs cells slots C target hx hZ hby hown X hR hL k => XT.ishl X.here hx rfl (hb hby hd) rfl k
  · obtain ⟨x, y, S', rfl, rfl⟩ := qbin_inv hs
    exact QTri.stack h fun p e R s mid args below meth c T locs cells slots C target hx hZ hby hown X hR hL k => XT.ishr X.here hx rfl (hb hby hd) rfl k
  · obtain ⟨x, y, S', rfl, rfl⟩ := qbin_inv hs
    exact QTri.stack h fun p e R s mid args below meth c T locs cells slots C target hx hZ hby hown X hR hL k => XT.iushr X.here hx rfl (hb hby hd) rfl k
  · obtain ⟨x, y, z, S', rfl, hz, rfl⟩ := qbino_inv hs -- idiv
    unfold qdiv at hz
    split at hz
    · cases hz
    · rename_i hy
      cases hz
      exact QTri.stack h fun p e R s mid args below meth c T locs cells slots C target hx hZ hby hown X hR hL k => XS.idiv X.here hx rfl (hb hby hd) rfl hy k
  · obtain ⟨x, y, z, S', rfl, hz, rfl⟩ := qbino_inv hs
    unfold qrem at hz
    split at hz
    · cases hz
    · rename_i hy
      cases hz
      exact QTri.stack h fun p e R s mid args below meth c T locs cells slots C target hx hZ hby hown X hR hL k => iremM X hx rfl (hb hby hd) rfl hy k
  · obtain ⟨x, S', rfl, rfl⟩ := quni_inv hs -- ineg
    exact QTri.stack h fun p e R s mid args below meth c T locs cells slots C target hx hZ hby hown X hR hL k => XS.ineg X.here hx rfl (hb hby hd) rfl k
  · obtain ⟨x, S', rfl, rfl⟩ := quni_inv hs
    exact QTri.stack h fun p e R s mid args below meth c T locs cells slots C target hx hZ hby hown X hR hL k => XT.i2l X.here hx rfl (hb hby hd) rfl k
  · obtain ⟨x, S', rfl, rfl⟩ := quni_inv hs
    exact QTri.stack h fun p e R s mid args below meth c T locs cells slots C target hx hZ hby hown X hR hL k => XT.i2b X.here hx rfl (hb hby hd) rfl k
  · obtain ⟨x, S', rfl, rfl⟩ := quniJ_inv hs
    exact QTri.stack h fun p e R s mid args below meth c T locs cells slots C target hx hZ hby hown X hR hL k => XT.l2i X.here hx rfl (hb hby hd) rfl k
  · obtain ⟨x, S', rfl, rfl⟩ := quniJ_inv hs
    exact QTri.stack h fun p e R s mid args below meth c T locs cells slots C target hx hZ hby hown X hR hL k => XT.lneg X.here hx rfl (hb hby hd) rfl k
  · obtain ⟨x, y, S', rfl, rfl⟩ := qbinJ_inv hs
    exact QTri.stack h fun p e R s mid args below meth c T locs cells slots C target hx hZ hby hown X hR hL k => XT.ladd X.here hx rfl (hb hby hd) rfl k
  · obtain ⟨x, y, S', rfl, rfl⟩ := qbinJ_inv hs
    exact QTri.stack h fun p e R s mid args below meth c T locs cells slots C target hx hZ hby hown X hR hL k => XT.lsub X.here hx rfl (hb hby hd) rfl k
  · obtain ⟨x, y, S', rfl, rfl⟩ := qbinJ_inv hs
    exact QTri.stack h fun p e R s mid args below meth c T locs cells slots C target hx hZ hby hown X hR hL k => XT.lmul X.here hx rfl (hb hby hd) rfl k
  · obtain ⟨x, y, S', rfl, rfl⟩ := qbinJ_inv hs
    exact QTri.stack h fun p e R s mid args below meth c T locs cells slots C target hx hZ hby hown X hR hL k => XT.land X.here hx rfl (hb hby hd) rfl k
  · obtain ⟨x, y, S', rfl, rfl⟩ := qbinJ_inv hs
    exact QTri.stack h fun p e R s mid args below meth c T locs cells slots C target hx hZ hby hown X hR hL k => XT.lor X.here hx rfl (hb hby hd) rfl k
  · obtain ⟨x, y, S', rfl, rfl⟩ := qbinJ_inv hs
    exact QTri.stack h fun p e R s mid args below meth c T locs cells slots C target hx hZ hby hown X hR hL k => XT.lxor X.here hx rfl (hb hby hd) rfl k
  · obtain ⟨x, y, S', rfl, rfl⟩ := qshJ_inv hs
    exact QTri.stack h fun p e R s mid args below meth c T locs cells slots C target hx hZ hby hown X hR hL k => XT.lshl X.here hx rfl (hb hby hd) rfl k
  · obtain ⟨x, y, S', rfl, rfl⟩ := qshJ_inv hs
    exact QTri.stack h fun p e R s mid args below meth c T locs cells slots C target hx hZ hby hown X hR hL k => XT.lshr X.here hx rfl (hb hby hd) rfl k
  · obtain ⟨x, y, S', rfl, rfl⟩ := qshJ_inv hs
    exact QTri.stack h fun p e R s mid args below meth c T locs cells slots C target hx hZ hby hown X hR hL k => XT.lushr X.here hx rfl (hb hby hd) rfl k
  · split at hs -- lcmp
    · cases hs
      exact QTri.stack h fun p e R s mid args below meth c T locs cells slots C target hx hZ hby hown X hR hL k => XT.lcmp X.here hx rfl (hb hby hd) rfl k
    · cases hs
  · cases hs -- goto
    obtain ⟨t1, t2⟩ := qtgt_spec hr
    exact QTri.stack h fun p e R s mid args below meth c T locs cells slots C target hx hZ hby hown X hR hL k => XS.goto X.here hx rfl rfl (hb hby hd) t1 t2 k
  · obtain ⟨x, S', rfl, rfl⟩ := qif_inv hs
    obtain ⟨t1, t2⟩ := qtgt_spec hr
    cases hh : ifCond.holds _ x with
    | true => rw [hh] at h; exact QTri.stack h fun p e R s mid args below meth c T locs cells slots C target hx hZ hby hown X hR hL k => XS.ifYes X.here hx rfl rfl (hb hby hd) rfl hh t1 t2 k
    | false => rw [hh] at h; exact QTri.stack h fun p e R s mid args below meth c T locs cells slots C target hx hZ hby hown X hR hL k => XS.ifNo X.here hx rfl (hb hby hd) rfl hh k
  · obtain ⟨x, y, S', rfl, rfl⟩ := qicmp_inv hs
    obtain ⟨t1, t2⟩ := qtgt_spec hr
    cases hh : if_icmp.holds _ x y with
    | true => rw [hh] at h; exact QTri.stack h fun p e R s mid args below meth c T locs cells slots C target hx hZ hby hown X hR hL k => XS.icmpYes X.here hx rfl rfl (hb hby hd) rfl hh t1 t2 k
    | false => rw [hh] at h; exact QTri.stack h fun p e R s mid args below meth c T locs cells slots C target hx hZ hby hown X hR hL k => XS.icmpNo X.here hx rfl (hb hby hd) rfl hh k
  · unfold qdup at hs
    split at hs
    · cases hs
      exact QTri.stack h fun p e R s mid args below meth c T locs cells slots C target hx hZ hby hown X hR hL k => XS.dup X.here hx rfl (hb hby hd) rfl rfl k
    · cases hs
      exact QTri.stack h fun p e R s mid args below meth c T locs cells slots C target hx hZ hby hown X hR hL k => XS.dup X.here hx rfl (hb hby hd) rfl rfl k
    · cases hs
  · unfold qdup2 at hs
    split at hs
    · cases hs
      exact QTri.stack h fun p e R s mid args below meth c T locs cells slots C target hx hZ hby hown X hR hL k => XT.dup2 X.here hx rfl (hb hby hd) rfl rfl rfl k
    · cases hs
      exact QTri.stack h fun p e R s mid args below meth c T locs cells slots C target hx hZ hby hown X hR hL k => XT.dup2 X.here hx rfl (hb hby hd) rfl rfl rfl k
    · cases hs
      exact QTri.stack h fun p e R s mid args below meth c T locs cells slots C target hx hZ hby hown X hR hL k => XT.dup2L X.here hx rfl (hb hby hd) rfl k
    · cases hs
  · unfold qpop at hs
    split at hs
    · cases hs
      exact QTri.stack h fun p e R s mid args below meth c T locs cells slots C target hx hZ hby hown X hR hL k => XT.pop X.here hx rfl (hb hby hd) rfl rfl k
    · cases hs
      exact QTri.stack h fun p e R s mid args below meth c T locs cells slots C target hx hZ hby hown X hR hL k => XT.pop X.here hx rfl (hb hby hd) rfl rfl k
    · cases hs
  · exact QTri.getfield W h hc hs
  · exact QTri.putfield Ad W h hc hs
  · exact QTri.iaload h hc hs
  · exact QTri.baload h hc hs
  · exact QTri.laload h hc hs
  · exact QTri.iastore Ad h hc hs
  · exact QTri.bastore Ad h hc hs
  · exact QTri.lastore Ad h hc hs
  · exact QTri.alen h hc hs
  · -- newarray
    unfold qnewA at hs
    split at hs
    · split at hs
      · obtain ⟨k, hk, hs⟩ := Option.bind_eq_some_iff.mp hs
        cases hs
        exact QTri.newArr (c := .inr (.inl (.int, List.replicate k 0))) Ad W hk hc (by simp [qsz]) (fun h' a cA A => ⟨_, A, by simp [newA, (qnew_inv hk).2.1]; exact Or.inr rfl⟩) h
      · obtain ⟨k, hk, hs⟩ := Option.bind_eq_some_iff.mp hs
        cases hs
        exact QTri.newArr (c := .inr (.inl (.boolean, List.replicate k 0))) Ad W hk hc (by simp [qsz]) (fun h' a cA A => ⟨_, A, by simp [newA, (qnew_inv hk).2.1]; exact Or.inr rfl⟩) h
      · obtain ⟨k, hk, hs⟩ := Option.bind_eq_some_iff.mp hs
        cases hs
        exact QTri.newArr (c := .inr (.inl (.byte, List.replicate k 0))) Ad W hk hc (by simp [qsz]) (fun h' a cA A => ⟨_, A, by simp [newA, (qnew_inv hk).2.1]; exact Or.inr rfl⟩) h
      · obtain ⟨k, hk, hs⟩ := Option.bind_eq_some_iff.mp hs
        cases hs
        exact QTri.newArr (c := .inr (.inr (List.replicate k 0))) Ad W hk hc (by simp [qsz]) (fun h' a cA A => ⟨_, A, by simp [newA, (qnew_inv hk).2.1]; exact Or.inr rfl⟩) h
      · cases hs
    · cases hs
  · cases hs; exact QTri.newObj Ad W h hc
  · cases hs
theorem QTri.steps (Ad : QAd n0 ad) (W : QW Z a0) : ∀ (n : Nat) {st st' : QSt}, qsteps m n st = some st' → QTri l Z n0 ad m st' v σ' → QTri l Z n0 ad m st v σ'
  | 0, st, st', h, k => by cases h; exact k
  | n + 1, st, st', h, k => by
    simp only [qsteps] at h
    split at h
    · rename_i st₁ h1
      exact QTri.step Ad W (QTri.steps Ad W n h k) h1
    · cases h
/-! ## returns, masks, calls -/
def lmask : List Bool → QLoc → QLoc
  | b :: t, x :: u => (bif b then x else none) :: lmask t u
  | _, L => L.map fun _ => none
theorem lmask_len : ∀ (b : List Bool) (L : QLoc), (lmask b L).length = L.length
  | [], L => by simp [lmask]
  | _ :: _, [] => by simp [lmask]
  | _ :: t, _ :: u => by simp [lmask, lmask_len t u]
theorem lmask_get : ∀ (b : List Bool) (L : QLoc) (k : Nat) (v : Value), lget (lmask b L) k = some v → lget L k = some v
  | [], L, k, v, h => by
    simp only [lmask, lget_eq, List.getElem?_map] at h
    cases hq : L[k]? <;> simp [hq] at h
  | _ :: _, [], k, v, h => by simp [lmask, lget] at h
  | b :: t, x :: u, 0, v, h => by
    simp only [lmask, lget] at h ⊢
    cases b
    · cases h
    · exact h
  | b :: t, x :: u, k + 1, v, h => by
    simp only [lmask, lget] at h ⊢
    exact lmask_get t u k v h
theorem QTri.mask {pc : Nat} {L : QLoc} {S : List Value} {σ : QHeap} (b : List Bool) (h : QTri l Z n0 ad m (pc, lmask b L, S, σ) v σ') : QTri l Z n0 ad m (pc, L, S, σ) v σ' :=
  QTri.frame h fun p e R s mid args below meth c T locs cells slots C hcx X hR hL hC => ⟨C, ⟨by rw [lmask_len]; exact hL.1, fun k u hk => hL.2.1 k u (lmask_get b L k u hk), hL.2.2⟩, hC, fun target k => k⟩
theorem QTri.ret0 {pc aux : Nat} {L : QLoc} {σ : QHeap} (hc : pCode m pc = some (.return_, aux)) (hr : pRet m = none) : QTri l Z n0 ad m (pc, L, [], σ) none σ :=
  have hd : decode (pBytes m) pc = .ok (.return_, 1) := pDecN hc rfl
  ⟨Nat.le_refl _, Nat.le_refl _, fun p e R s mid args below meth c T locs cells slots C hcx X hR hF hL hC hn hc1 hsl => ⟨T, locs, by simpa using X, hR, hF, fun fs hf => X.returnOut hcx.1 (hcx.2.2.2.2.1.trans hr) (hb hcx.2.2.1 hd) hf⟩⟩
theorem QTri.retI {pc aux : Nat} {L : QLoc} {S : List Value} {σ : QHeap} {x : Int32} (hc : pCode m pc = some (.ireturn, aux)) (hr : pRet m = some .int) : QTri l Z n0 ad m (pc, L, .int x :: S, σ) (some (.int x)) σ :=
  have hd : decode (pBytes m) pc = .ok (.ireturn, 1) := pDecN hc rfl
  ⟨Nat.le_refl _, Nat.le_refl _, fun p e R s mid args below meth c T locs cells slots C hcx X hR hF hL hC hn hc1 hsl => ⟨T, locs, by simpa using X, hR, hF, fun fs hf => Jvm.RoadKit.retI X hcx.1 (hcx.2.2.2.2.1.trans hr) (hb hcx.2.2.1 hd) hf⟩⟩
theorem QTri.retZ {pc aux : Nat} {L : QLoc} {S : List Value} {σ : QHeap} {x : Int32} (hc : pCode m pc = some (.ireturn, aux)) (hr : pRet m = some .boolean) : QTri l Z n0 ad m (pc, L, .int x :: S, σ) (some (.int (x &&& 1))) σ :=
  have hd : decode (pBytes m) pc = .ok (.ireturn, 1) := pDecN hc rfl
  ⟨Nat.le_refl _, Nat.le_refl _, fun p e R s mid args below meth c T locs cells slots C hcx X hR hF hL hC hn hc1 hsl => ⟨T, locs, by simpa using X, hR, hF, fun fs hf => retN X hcx.1 (t := .boolean) (hcx.2.2.2.2.1.trans hr) (by simp) (hb hcx.2.2.1 hd) hf⟩⟩
theorem QTri.retJ {pc aux : Nat} {L : QLoc} {S : List Value} {σ : QHeap} {x : Int64} (hc : pCode m pc = some (.lreturn, aux)) (hr : pRet m = some .long) : QTri l Z n0 ad m (pc, L, .long x :: S, σ) (some (.long x)) σ :=
  have hd : decode (pBytes m) pc = .ok (.lreturn, 1) := pDecN hc rfl
  ⟨Nat.le_refl _, Nat.le_refl _, fun p e R s mid args below meth c T locs cells slots C hcx X hR hF hL hC hn hc1 hsl => ⟨T, locs, by simpa using X, hR, hF, fun fs hf => retOut X hcx.1 (t := .long) (hcx.2.2.2.2.1.trans hr) rfl (Or.inr (Or.inl ⟨rfl, rfl, _, rfl⟩)) (hb hcx.2.2.1 hd) hf⟩⟩
def LOk (ad : Nat → Addr) (L : QLoc) (C : List Slot) : Prop :=
  L.length = C.length ∧ (∀ k v, lget L k = some v → C[k]? = some (.val (qv ad v))) ∧ (∀ k w, C[k]? = some (.val w) → w.category = 2 → C[k + 1]? = some .second) ∧ ∀ k, C[k]? = some .second → ∃ j w, k = j + 1 ∧ C[j]? = some (.val w) ∧ w.category = 2
theorem LOk.base (ad : Nat → Addr) (n : Nat) : LOk ad (List.replicate n none) (List.replicate n .unset) := by
  refine ⟨by simp, fun k u h => ?_, fun k w h => ?_, fun k h => ?_⟩
  · rw [lget_eq] at h
    rcases Nat.lt_or_ge k n with q | q
    · simp [List.getElem?_replicate, q] at h
    · simp [List.getElem?_eq_none, q] at h
  · rcases Nat.lt_or_ge k n with q | q
    · simp [List.getElem?_replicate, q] at h
    · simp [List.getElem?_eq_none, q] at h
  · rcases Nat.lt_or_ge k n with q | q
    · simp [List.getElem?_replicate, q] at h
    · simp [List.getElem?_eq_none, q] at h
theorem LOk.one {L : QLoc} {C : List Slot} (H : LOk ad L C) {u : Value} (hu : u.category = 1) : LOk ad (some u :: L) (.val (qv ad u) :: C) := by
  obtain ⟨h1, h2, h3, h4⟩ := H
  refine ⟨by simp [h1], fun k w h => ?_, fun k w h hw => ?_, fun k h => ?_⟩
  · cases k with
    | zero => simp only [lget] at h; cases h; simp
    | succ k => simp only [lget] at h; simpa using h2 k w h
  · cases k with
    | zero => simp at h; rw [← h, qv_cat, hu] at hw; cases hw
    | succ k => simpa using h3 k w (by simpa using h) hw
  · cases k with
    | zero => simp at h
    | succ k =>
      obtain ⟨j, w, z1, z2, z3⟩ := h4 k (by simpa using h)
      exact ⟨j + 1, w, by omega, by simpa using z2, z3⟩
theorem LOk.two {L : QLoc} {C : List Slot} (H : LOk ad L C) {u : Value} (hu : u.category = 2) : LOk ad (some u :: none :: L) (.val (qv ad u) :: .second :: C) := by
  obtain ⟨h1, h2, h3, h4⟩ := H
  refine ⟨by simp [h1], fun k w h => ?_, fun k w h hw => ?_, fun k h => ?_⟩
  · rcases k with _ | _ | k
    · simp only [lget] at h; cases h; simp
    · simp [lget] at h
    · simp only [lget] at h; simpa using h2 k w h
  · rcases k with _ | _ | k
    · simp
    · simp at h
    · simpa using h3 k w (by simpa using h) hw
  · rcases k with _ | _ | k
    · simp at h
    · exact ⟨0, qv ad u, rfl, by simp, by rw [qv_cat]; exact hu⟩
    · obtain ⟨j, w, z1, z2, z3⟩ := h4 k (by simpa using h)
      exact ⟨j + 2, w, by omega, by simpa using z2, z3⟩
def slotsOf (u : Value) : List Slot := if u.category = 2 then [.val u, .second] else [.val u]
theorem fold_slots : ∀ (as : List Value) (acc : Array Slot), (as.foldl (fun acc v => if v.category = 2 then (acc.push (.val v)).push .second else acc.push (.val v)) acc).toList = acc.toList ++ as.flatMap slotsOf
  | [], acc => by simp
  | u :: t, acc => by
    rw [List.foldl_cons, fold_slots t]
    by_cases hc : u.category = 2 <;> simp [slotsOf, hc]
theorem slots_len : ∀ (as : List Value), (as.flatMap slotsOf).length = (as.map fun v => v.category).sum
  | [] => rfl
  | u :: t => by
    rw [List.flatMap_cons, List.length_append, slots_len t, List.map_cons, List.sum_cons]
    cases u <;> simp [slotsOf, Value.category]
theorem cats_qv (as : List Value) : ((as.map (qv ad)).map fun v => v.category).sum = (as.map fun v => v.category).sum := by
  rw [List.map_map]
  congr 1
  exact List.map_congr_left fun x _ => qv_cat ad x
theorem entry_list : ∀ (as : List Value) (n : Nat), LOk ad ((as.flatMap fun v => match v with | .long x => [some (.long x), none] | .double x => [some (.double x), none] | v => [some v]) ++ List.replicate n none) ((as.map (qv ad)).flatMap slotsOf ++ List.replicate n .unset)
  | [], n => by simpa using LOk.base ad n
  | u :: t, n => by
    have ih := entry_list t n
    cases u with
    | long x => exact LOk.two ih rfl
    | double x => exact LOk.two ih rfl
    | int x => exact LOk.one ih rfl
    | float x => exact LOk.one ih rfl
    | null => exact LOk.one ih rfl
    | ref x => exact LOk.one ih rfl
    | retAddr x => exact LOk.one ih rfl
theorem qentry_ok (as : List Value) (mx : Nat) (h : (as.map fun v => v.category).sum ≤ mx) : QLocOk ad (qentry as mx) (argsToLocals (as.map (qv ad)).toArray mx) ∧ (argsToLocals (as.map (qv ad)).toArray mx).size = mx := by
  have e : (argsToLocals (as.map (qv ad)).toArray mx).toList = (as.map (qv ad)).flatMap slotsOf ++ List.replicate (mx - (as.map fun v => v.category).sum) .unset := by
    unfold argsToLocals
    have q := fold_slots (as.map (qv ad)) #[]
    simp only [List.foldl_toArray', Array.toList_append, Array.toList_replicate]
    have q2 : ((as.map (qv ad)).foldl (fun (acc : Array Slot) (v : Value) => if v.category = 2 then (acc.push (.val v)).push .second else acc.push (.val v)) #[]).size = (as.map fun v => v.category).sum := by
      rw [← Array.length_toList, q]
      simp only [List.nil_append]
      rw [slots_len, cats_qv]
    rw [q, q2]
    simp
  have H := entry_list (ad := ad) as (mx - (as.map fun v => v.category).sum)
  rw [← e] at H
  obtain ⟨h1, h2, h3, h4⟩ := H
  have hs : (argsToLocals (as.map (qv ad)).toArray mx).size = mx := by
    rw [← Array.length_toList, e, List.length_append, slots_len, cats_qv, List.length_replicate]
    omega
  refine ⟨⟨h1.trans Array.length_toList, fun k u hk => ?_, fun k w hk hw => ?_, fun k hk => ?_⟩, hs⟩
  · have := h2 k u hk; rwa [Array.getElem?_toList] at this
  · have := h3 k w (by rw [Array.getElem?_toList]; exact hk) hw; rwa [Array.getElem?_toList] at this
  · obtain ⟨j, w, z1, z2, z3⟩ := h4 k (by rw [Array.getElem?_toList]; exact hk)
    exact ⟨j, w, z1, by rwa [Array.getElem?_toList] at z2, z3⟩
set_option maxHeartbeats 4000000 in
theorem QTri.met {k : Nat} {as : List Value} {σ σ₁ : QHeap} {w : Option Value} {h0 : Heap} (hk : k < pN) (h : QTri l Z n0 ad k (0, qentry as (pMaxL k), [], σ) w σ₁) (hR : QRep Z n0 ad h0 σ) (hlen : (as.map fun v => v.category).sum ≤ pMaxL k) (hret : pRet k = none → w = none) (ws : List Jvm.Cond) {rm : Room}
    (r1 : pFr k ≤ rm.frames) (r2 : pLo k ≤ rm.locals) (r3 : σ₁.length - σ.length ≤ rm.cells) (r4 : qhs σ₁ - qhs σ ≤ rm.slots) :
    MetFree l (pName k) (head1 (Jvm.Cond.code (pName k) (pBytes k) (pMaxL k) (pRet k) :: ws) rm) (fun a U => a = (as.map (qv ad)).toArray ∧ Z.Warmed39 U.vm ∧ U.heap = h0) (fun _ _ _ _ _ => True)
      (fun _ U o U' => ∃ v L, o = .returned v ∧ (v = w.map (qv ad) ∧ QRep Z n0 ad U'.heap σ₁ ∧ Fr n0 L) ∧ FrameEnd U o U' L (σ₁.length - σ.length) (qhs σ₁ - qhs σ)) := by
  refine MetFree.of_bodySF (plainFor_of_name (kPlain _ (pKlt k hk))) hisR ?_
  intro p e s mid args below meth c s₁ Bd hml0 hP hK
  obtain ⟨rfl, hZ, hh⟩ := hP
  have e0 : s₁.heap = h0 := by rw [← hh, Bd.state]; rfl
  obtain ⟨hl1, hl2⟩ := qentry_ok (ad := ad) as (pMaxL k) hlen
  have hX : Stand p l e rm s mid (as.map (qv ad)).toArray below meth c s₁ [] 0 0 := Stand.of_body Bd
  obtain ⟨T', locs', X', R', F', S'⟩ := h.2.2 p e rm s mid _ below meth c s₁ [] 0 0 _ ⟨Bd.exec, hZ, Bd.bytes, hml0, Bd.returns, findClass_of_methodNamed Bd.named, (name_of_methodNamed Bd.named Bd.method).1, r1, r2⟩ hX (by rw [e0]; exact hR) (Fr.nil _) hl1 (hl2.trans hml0.symm) (by rw [hh, Nat.add_zero]; exact hR.2.1.symm) (by rw [Nat.zero_add]; exact r3) (by rw [Nat.zero_add]; exact r4)
  obtain ⟨fs, hr, hrun, hended, hW, hsame⟩ := X'.leave (v := w.map (qv ad)) (fun q => by rw [hret (Bd.returns.symm.trans q)]; rfl)
  refine ⟨_, _, S' fs hr, hrun, hended, _, _, rfl, ⟨rfl, R', F'⟩, ⟨_, rfl⟩, hW, ?_⟩
  simp only [Nat.zero_add] at hsame
  exact hsame
theorem QTri.room {k : Nat} {σ σ₁ : QHeap} {rest : List Value} {R : Room} (hroom : (Nat.ble (pFr k + 1) (pFr m) && Nat.ble ((rest.map fun v => v.category).sum + (pMaxL k + 11) + pLo k) (pLo m)) = true) (hfr : pFr m ≤ R.frames) (hlo : pLo m ≤ R.locals) :
    pFr k + 1 ≤ R.frames ∧ (rest.map fun v => v.category).sum + (pMaxL k + 11) + pLo k ≤ R.locals := by
  obtain ⟨q1, q2⟩ := Bool.and_eq_true_iff.mp hroom
  exact ⟨Nat.le_trans (Nat.le_of_ble_eq_true q1) hfr, Nat.le_trans (Nat.le_of_ble_eq_true q2) hlo⟩
theorem sig_len {k : Nat} (hk : k < pN) {as : List Value} (hna : as.length = pNA k) : ∀ sig, parseMethodDescriptor (pName k).desc = some sig → (as.map (qv ad)).length = sig.parameters.length := fun sig hs => by
  have q := pSig k hk
  rw [show parseMethodDescriptor (pDs k) = some sig from hs] at q
  simp at q
  simp [hna, q]
theorem ret_map (w : Option Value) (rest : List Value) : (w.toList ++ rest).map (qv ad) = (w.map (qv ad)).toList ++ rest.map (qv ad) := by cases w <;> simp
theorem QTri.after {as0 : List Value} {pc : Nat} {L : QLoc} {S rest : List Value} {σ σ₁ : QHeap} {w : Option Value} {k : Nat} (hcal : QTri l Z n0 ad k (0, qentry as0 (pMaxL k), [], σ) w σ₁) (h : QTri l Z n0 ad m (pc + 3, L, w.toList ++ rest, σ₁) v σ')
    (hs : ∀ (p : Program) (e : Env) (R : Room) (s : State) (mid : MethodId) (args : Array Value) (below : List Frame) (meth : Method) (c : Code) (T : State) (locs : List Loc) (cells slots : Nat) (C : Array Slot),
      QCx Z p R s mid meth c m → Stand p l e R s mid args below meth c T locs cells slots → QRep Z n0 ad T.heap σ → C.size = c.maxLocals → cells + (σ₁.length - σ.length) ≤ R.cells → slots + (qhs σ₁ - qhs σ) ≤ R.slots →
      ∃ T₁ Lc, Stand p l e R s mid args below meth c T₁ (locs ++ Lc) (cells + (σ₁.length - σ.length)) (slots + (qhs σ₁ - qhs σ)) ∧ QRep Z n0 ad T₁.heap σ₁ ∧ Fr n0 Lc ∧
        ∀ target, Steps p.tables e below (T₁.setTop (mkF mid (pc + 3) C ((w.map (qv ad)).toList ++ rest.map (qv ad)))) target → Steps p.tables e below (T.setTop (mkF mid pc C (S.map (qv ad)))) target) :
    QTri l Z n0 ad m (pc, L, S, σ) v σ' := by
  refine QTri.gen h hcal.1 hcal.2.1 fun p e R s mid args below meth c T locs cells slots C hcx X hR hF hL hC hn hc1 hsl => ?_
  obtain ⟨T₁, Lc, X₁, R₁, F₁, st⟩ := hs p e R s mid args below meth c T locs cells slots C hcx X hR hC hc1 hsl
  refine ⟨T₁, locs ++ Lc, C, X₁, R₁, hF.app F₁, hL, hC, fun target q => st target ?_⟩
  rw [← ret_map]
  exact q
set_option maxHeartbeats 4000000 in
theorem QTri.callV (W : QW Z a0) {pc idx k a : Nat} {L : QLoc} {S as rest vs : List Value} {σ σ₁ : QHeap} {w : Option Value} (hc : pCode m pc = some (.invokevirtual idx, k)) (hm : (lkV.contains (pK m, idx, k) && mV.contains k) = true) (hcell : hget σ a = some (.inl vs)) (hS : S = as.reverse ++ .ref a :: rest)
    (hna : as.length = pNA k) (hlen : Nat.ble (((Value.ref a :: as).map fun v => v.category).sum) (pMaxL k) = true) (hroom : (Nat.ble (pFr k + 1) (pFr m) && Nat.ble ((rest.map fun v => v.category).sum + (pMaxL k + 11) + pLo k) (pLo m)) = true) (hrb : (w.isNone || (pRet k).isSome) = true)
    (hcal : QTri l Z n0 ad k (0, qentry (.ref a :: as) (pMaxL k), [], σ) w σ₁) (h : QTri l Z n0 ad m (pc + 3, L, w.toList ++ rest, σ₁) v σ') : QTri l Z n0 ad m (pc, L, S, σ) v σ' := by
  have hd : decode (pBytes m) pc = .ok (.invokevirtual idx, 3) := pDecN hc rfl
  subst hS
  obtain ⟨m1, m2⟩ := Bool.and_eq_true_iff.mp hm
  have m1 := mem_of_contains m1
  have m2 := mem_of_contains m2
  have hkA := (mVlt k m2).1
  have hkN := mAlt k hkA
  have hret : pRet k = none → w = none := fun q => by
    rw [q] at hrb
    cases w with
    | none => rfl
    | some w => simp at hrb
  refine QTri.after hcal h fun p e R s mid args below meth c T locs cells slots C hcx X hR hC hc1 hsl => ?_
  obtain ⟨hx, hZ, hby, hml, hret', hown, hnm, hfr, hlo⟩ := hcx
  have hd2 : decode c.code pc = .ok (.invokevirtual idx, 3) := by rw [hby]; exact hd
  obtain ⟨f1, f2⟩ := QTri.room (σ := σ) (σ₁ := σ₁) hroom hfr hlo
  obtain ⟨cq, kq, q1, q2, q3⟩ := isOf hZ rfl (hR.2.2 _ _ hcell).1
  obtain ⟨w1, w2, w3⟩ := (qw_vi W) k m2
  obtain ⟨c1, c2⟩ := (qw_cod W) k hkA
  obtain ⟨_, _, ⟨T₁, L₁, k₁, n₁⟩, -, X₁, ⟨Lc, ⟨rfl, hR1, hF1⟩, l₁, y₁, z₁⟩, st⟩ := X.virtualBack hx (own := kName (pK m)) (index := idx) (y := pName k) (z := pName k) hown (mvT hZ (qw_ml W (pK m, idx, k) m1)) (mvT hZ w1) (notFace_of_selects (args := #[]) (mvT hZ w2)) (mvT hZ w2) (mvT hZ w3) (pOwn _ (pKlt k hkN))
    (backOf (W := (rest.map fun v => v.category).sum) (rm := ⟨pFr k, σ₁.length - σ.length, qhs σ₁ - qhs σ, pLo k⟩) (Q := fun v h L => v = Option.map (qv ad) w ∧ QRep Z n0 ad h σ₁ ∧ Fr n0 L) (QTri.met hkN hcal hR (Nat.le_of_ble_eq_true hlen) hret [] (Nat.le_refl _) (Nat.le_refl _) (Nat.le_refl _) (Nat.le_refl _)) hZ c1 c2 f1 f2) q1 q3 (g := mkF mid pc C (List.map (qv ad) (as.reverse ++ .ref a :: rest))) rfl hC (Steps.refl _) (argsL := as.map (qv ad)) (rest := rest.map (qv ad)) (sig_len hkN hna) (by simp [qv]) (by show 2 * 0 + _ ≤ _; rw [cats_qv]; omega) hd2 (fun _ _ => ⟨rfl, rfl, hc1, hsl⟩)
  dsimp only [Pt.U, Pt.locs, Pt.cells, Pt.slots] at X₁ l₁ y₁ z₁ st hR1
  subst l₁ y₁ z₁
  exact ⟨T₁, Lc, X₁, hR1, hF1, fun target q => st.trans q⟩
set_option maxHeartbeats 4000000 in
theorem QTri.callI (W : QW Z a0) {pc idx k a : Nat} {L : QLoc} {S as rest : List Value} {σ σ₁ : QHeap} (hc : pCode m pc = some (.invokespecial idx, k)) (hm : (lkV.contains (pK m, idx, k) && mI.contains k) = true) (hS : S = as.reverse ++ .ref a :: rest)
    (hna : as.length = pNA k) (hlen : Nat.ble (((Value.ref a :: as).map fun v => v.category).sum) (pMaxL k) = true) (hroom : (Nat.ble (pFr k + 1) (pFr m) && Nat.ble ((rest.map fun v => v.category).sum + (pMaxL k + 11) + pLo k) (pLo m)) = true)
    (hcal : QTri l Z n0 ad k (0, qentry (.ref a :: as) (pMaxL k), [], σ) none σ₁) (h : QTri l Z n0 ad m (pc + 3, L, rest, σ₁) v σ') : QTri l Z n0 ad m (pc, L, S, σ) v σ' := by
  have hd : decode (pBytes m) pc = .ok (.invokespecial idx, 3) := pDecN hc rfl
  subst hS
  obtain ⟨m1, m2⟩ := Bool.and_eq_true_iff.mp hm
  have m1 := mem_of_contains m1
  have m2 := mem_of_contains m2
  obtain ⟨hkA, -, hin, hrt⟩ := mIlt k m2
  have hkN := mAlt k hkA
  refine QTri.after (w := none) hcal h fun p e R s mid args below meth c T locs cells slots C hcx X hR hC hc1 hsl => ?_
  obtain ⟨hx, hZ, hby, hml, hret', hown, hnm, hfr, hlo⟩ := hcx
  have hd2 : decode c.code pc = .ok (.invokespecial idx, 3) := by rw [hby]; exact hd
  obtain ⟨f1, f2⟩ := QTri.room (σ := σ) (σ₁ := σ₁) hroom hfr hlo
  obtain ⟨c1, c2⟩ := (qw_cod W) k hkA
  have c1' := c1
  rw [hrt] at c1'
  obtain ⟨_, _, ⟨T₁, L₁, k₁, n₁⟩, -, X₁, ⟨Lc, ⟨rfl, hR1, hF1⟩, l₁, y₁, z₁⟩, st⟩ := X.specialBack hx (own := kName (pK m)) (index := idx) (y := pName k) hin hown (mvT hZ (qw_ml W (pK m, idx, k) m1)) (mvT hZ ((qw_ini W) k m2)) (mvT hZ c1') (pOwn _ (pKlt k hkN))
    (backOf (W := (rest.map fun v => v.category).sum) (rm := ⟨pFr k, σ₁.length - σ.length, qhs σ₁ - qhs σ, pLo k⟩) (Q := fun v h L => v = Option.map (qv ad) none ∧ QRep Z n0 ad h σ₁ ∧ Fr n0 L) (QTri.met hkN hcal hR (Nat.le_of_ble_eq_true hlen) (fun _ => rfl) [] (Nat.le_refl _) (Nat.le_refl _) (Nat.le_refl _) (Nat.le_refl _)) hZ c1 c2 f1 f2) (g := mkF mid pc C (List.map (qv ad) (as.reverse ++ .ref a :: rest))) rfl hC (Steps.refl _) (a := ad a) (argsL := as.map (qv ad)) (rest := rest.map (qv ad)) (sig_len hkN hna) (by simp [qv]) (by show 2 * 0 + _ ≤ _; rw [cats_qv]; omega) hd2 (fun _ _ => ⟨rfl, rfl, hc1, hsl⟩)
  dsimp only [Pt.U, Pt.locs, Pt.cells, Pt.slots] at X₁ l₁ y₁ z₁ st hR1
  subst l₁ y₁ z₁
  exact ⟨T₁, Lc, X₁, hR1, hF1, fun target q => st.trans q⟩
set_option maxHeartbeats 4000000 in
theorem QTri.callP (W : QW Z a0) {pc idx k a : Nat} {L : QLoc} {S as rest vs : List Value} {σ σ₁ : QHeap} {w : Option Value} (hc : pCode m pc = some (.invokevirtual idx, k)) (hm : (lkV.contains (pK m, idx, k) && mP.contains k) = true) (hcell : hget σ a = some (.inl vs)) (hS : S = as.reverse ++ .ref a :: rest)
    (hna : as.length = pNA k) (hlen : Nat.ble (((Value.ref a :: as).map fun v => v.category).sum) (pMaxL k) = true) (hroom : (Nat.ble (pFr k + 1) (pFr m) && Nat.ble ((rest.map fun v => v.category).sum + (pMaxL k + 11) + pLo k) (pLo m)) = true) (hrb : (w.isNone || (pRet k).isSome) = true)
    (hcal : QTri l Z n0 ad k (0, qentry (.ref a :: as) (pMaxL k), [], σ) w σ₁) (h : QTri l Z n0 ad m (pc + 3, L, w.toList ++ rest, σ₁) v σ') : QTri l Z n0 ad m (pc, L, S, σ) v σ' := by
  have hd : decode (pBytes m) pc = .ok (.invokevirtual idx, 3) := pDecN hc rfl
  subst hS
  obtain ⟨m1, m2⟩ := Bool.and_eq_true_iff.mp hm
  have m1 := mem_of_contains m1
  have m2 := mem_of_contains m2
  obtain ⟨hkA, hk1⟩ := mPlt k m2
  have hkN := mAlt k hkA
  have hret : pRet k = none → w = none := fun q => by
    rw [q] at hrb
    cases w with
    | none => rfl
    | some w => simp at hrb
  refine QTri.after hcal h fun p e R s mid args below meth c T locs cells slots C hcx X hR hC hc1 hsl => ?_
  obtain ⟨hx, hZ, hby, hml, hret', hown, hnm, hfr, hlo⟩ := hcx
  have hd2 : decode c.code pc = .ok (.invokevirtual idx, 3) := by rw [hby]; exact hd
  obtain ⟨f1, f2⟩ := QTri.room (σ := σ) (σ₁ := σ₁) hroom hfr hlo
  obtain ⟨cell, h1, h2⟩ := (hR.2.2 _ _ hcell).1.cell
  obtain ⟨w1, w2⟩ := (qw_pr W) k m2
  obtain ⟨c1, c2⟩ := (qw_cod W) k hkA
  have hpr : s.PrivateAt (pName k) := Cond.privateMethod_at (mvP hZ w2 (args := #[]))
  obtain ⟨cC, kC, i1, i2, i3, i4⟩ := Cond.instantiable_spec (args := #[]) (mvT hZ (qw_inst W))
  have hsel : (Cond.selects (pName k).cls (pName k) (pName k)).before args s = true := selects_self_of_private (c := cC) (k := kC) (by show s.vm.findClass (kName (pK k)) = _; rw [hk1]; exact i1) i2 (by have q := i4.1; cases hq : kC.isInterface with | false => rfl | true => rw [hq] at q; simp at q) hpr (mvT hZ w1) (pOwn _ (pKlt k hkN))
  obtain ⟨_, _, ⟨T₁, L₁, k₁, n₁⟩, -, X₁, ⟨Lc, ⟨rfl, hR1, hF1⟩, l₁, y₁, z₁⟩, st⟩ := X.privateBack hx (own := kName (pK m)) (index := idx) (y := pName k) hown (mvT hZ (qw_ml W (pK m, idx, k) m1)) (mvT hZ w1) hsel hpr (mvT hZ c1) (pOwn _ (pKlt k hkN))
    (backOf (W := (rest.map fun v => v.category).sum) (rm := ⟨pFr k, σ₁.length - σ.length, qhs σ₁ - qhs σ, pLo k⟩) (Q := fun v h L => v = Option.map (qv ad) w ∧ QRep Z n0 ad h σ₁ ∧ Fr n0 L) (QTri.met hkN hcal hR (Nat.le_of_ble_eq_true hlen) hret [] (Nat.le_refl _) (Nat.le_refl _) (Nat.le_refl _) (Nat.le_refl _)) hZ c1 c2 f1 f2) (g := mkF mid pc C (List.map (qv ad) (as.reverse ++ .ref a :: rest))) rfl hC (Steps.refl _) (a := ad a) h1 h2 (argsL := as.map (qv ad)) (rest := rest.map (qv ad)) (sig_len hkN hna) (by simp [qv]) (by show 2 * 0 + _ ≤ _; rw [cats_qv]; omega) hd2 (fun _ _ => ⟨rfl, rfl, hc1, hsl⟩)
  dsimp only [Pt.U, Pt.locs, Pt.cells, Pt.slots] at X₁ l₁ y₁ z₁ st hR1
  subst l₁ y₁ z₁
  exact ⟨T₁, Lc, X₁, hR1, hF1, fun target q => st.trans q⟩
set_option maxHeartbeats 4000000 in
theorem QTri.callS (W : QW Z a0) {pc idx k : Nat} {L : QLoc} {S as rest : List Value} {σ σ₁ : QHeap} {w : Option Value} (hc : pCode m pc = some (.invokestatic idx, k)) (hm : (lkV.contains (pK m, idx, k) && mS.contains k) = true) (hS : S = as.reverse ++ rest)
    (hna : as.length = pNA k) (hlen : Nat.ble ((as.map fun v => v.category).sum) (pMaxL k) = true) (hroom : (Nat.ble (pFr k + 1) (pFr m) && Nat.ble ((rest.map fun v => v.category).sum + (pMaxL k + 11) + pLo k) (pLo m)) = true) (hrb : (w.isNone || (pRet k).isSome) = true)
    (hcal : QTri l Z n0 ad k (0, qentry as (pMaxL k), [], σ) w σ₁) (h : QTri l Z n0 ad m (pc + 3, L, w.toList ++ rest, σ₁) v σ') : QTri l Z n0 ad m (pc, L, S, σ) v σ' := by
  have hd : decode (pBytes m) pc = .ok (.invokestatic idx, 3) := pDecN hc rfl
  subst hS
  obtain ⟨m1, m2⟩ := Bool.and_eq_true_iff.mp hm
  have m1 := mem_of_contains m1
  have m2 := mem_of_contains m2
  have hkA := mSlt k m2
  have hkN := mAlt k hkA
  have hret : pRet k = none → w = none := fun q => by
    rw [q] at hrb
    cases w with
    | none => rfl
    | some w => simp at hrb
  refine QTri.after hcal h fun p e R s mid args below meth c T locs cells slots C hcx X hR hC hc1 hsl => ?_
  obtain ⟨hx, hZ, hby, hml, hret', hown, hnm, hfr, hlo⟩ := hcx
  have hd2 : decode c.code pc = .ok (.invokestatic idx, 3) := by rw [hby]; exact hd
  obtain ⟨f1, f2⟩ := QTri.room (σ := σ) (σ₁ := σ₁) hroom hfr hlo
  obtain ⟨c1, c2⟩ := (qw_cod W) k hkA
  obtain ⟨_, _, ⟨T₁, L₁, k₁, n₁⟩, -, X₁, ⟨Lc, ⟨rfl, hR1, hF1⟩, l₁, y₁, z₁⟩, st⟩ := Jvm.LawKit.callS X hx (own := kName (pK m)) (index := idx) (y := pName k) hown (mvT hZ (qw_ml W (pK m, idx, k) m1)) (mvT hZ ((qw_st W) k m2)) (mvT hZ c2) (mvT hZ c1) (pOwn _ (pKlt k hkN))
    (backOf (W := (rest.map fun v => v.category).sum) (rm := ⟨pFr k, σ₁.length - σ.length, qhs σ₁ - qhs σ, pLo k⟩) (Q := fun v h L => v = Option.map (qv ad) w ∧ QRep Z n0 ad h σ₁ ∧ Fr n0 L) (QTri.met hkN hcal hR (Nat.le_of_ble_eq_true hlen) hret [] (Nat.le_refl _) (Nat.le_refl _) (Nat.le_refl _) (Nat.le_refl _)) hZ c1 c2 f1 f2) (g := mkF mid pc C (List.map (qv ad) (as.reverse ++ rest))) rfl hC (argsL := as.map (qv ad)) (rest := rest.map (qv ad)) (sig_len hkN hna) (by simp) (by show 2 * 0 + _ ≤ _; rw [cats_qv]; omega) hd2 (fun _ _ => ⟨rfl, rfl, hc1, hsl⟩)
  dsimp only [Pt.U, Pt.locs, Pt.cells, Pt.slots] at X₁ l₁ y₁ z₁ st hR1
  subst l₁ y₁ z₁
  exact ⟨T₁, Lc, X₁, hR1, hF1, fun target q => st target q⟩
set_option maxHeartbeats 4000000 in
theorem QTri.callO (W : QW Z a0) {pc idx k a : Nat} {L : QLoc} {rest : List Value} {σ : QHeap} (hc : pCode m pc = some (.invokespecial idx, k)) (hm : lkO.contains (pK m, idx) = true) (hroom : (Nat.ble 1 (pFr m) && Nat.ble ((rest.map fun v => v.category).sum + 12) (pLo m)) = true)
    (h : QTri l Z n0 ad m (pc + 3, L, rest, σ) v σ') : QTri l Z n0 ad m (pc, L, .ref a :: rest, σ) v σ' :=
  have hd : decode (pBytes m) pc = .ok (.invokespecial idx, 3) := pDecN hc rfl
  QTri.pure h rfl fun p e R s mid args below meth c T locs cells slots C hcx X hR hL hC => by
    obtain ⟨hx, hZ, hby, hml, hret', hown, hnm, hfr, hlo⟩ := hcx
    have hd2 : decode c.code pc = .ok (.invokespecial idx, 3) := by rw [hby]; exact hd
    obtain ⟨q1, q2⟩ := Bool.and_eq_true_iff.mp hroom
    obtain ⟨T₁, X₁, e₁, st⟩ := initO X hx hZ hown (idx := idx) (qw_mo W (pK m, idx) (mem_of_contains hm)) ((qw_oi W)) ((qw_oc W)) rfl (g := mkF mid pc C (List.map (qv ad) (.ref a :: rest))) rfl hC rfl hd2 (Nat.le_trans (Nat.le_of_ble_eq_true q1) hfr) (W := (rest.map fun v => v.category).sum) (by show 2 * 0 + _ ≤ _; rw [cats_qv]; omega) (Nat.le_trans (Nat.le_of_ble_eq_true q2) hlo)
    exact ⟨T₁, C, X₁, e₁, hL, hC, st⟩
theorem QTri.brT (Ad : QAd n0 ad) (W : QW Z a0) {st : QSt} {t f : Nat} {L : QLoc} {S : List Value} {σ : QHeap} {b : Bool} (hs : qstep m st = some (bif b then t else f, L, S, σ)) (hb : b = true) (h : QTri l Z n0 ad m (t, L, S, σ) v σ') : QTri l Z n0 ad m st v σ' := by
  subst hb; exact QTri.step Ad W h hs
theorem QTri.brF (Ad : QAd n0 ad) (W : QW Z a0) {st : QSt} {t f : Nat} {L : QLoc} {S : List Value} {σ : QHeap} {b : Bool} (hs : qstep m st = some (bif b then t else f, L, S, σ)) (hb : b = false) (h : QTri l Z n0 ad m (f, L, S, σ) v σ') : QTri l Z n0 ad m st v σ' := by
  subst hb; exact QTri.step Ad W h hs
theorem QTri.bnd {α : Type} (Ad : QAd n0 ad) (W : QW Z a0) {st : QSt} {x : Option α} {f : α → QSt} {a : α} (hs : qstep m st = x.bind fun v => some (f v)) (hx : x = some a) (h : QTri l Z n0 ad m (f a) v σ') : QTri l Z n0 ad m st v σ' :=
  QTri.step Ad W h (by rw [hs, hx]; rfl)
theorem QTri.bndB (Ad : QAd n0 ad) (W : QW Z a0) {st : QSt} {x y : Int32} {g : Value → QSt} (hs : qstep m st = ((qboo x).bind fun y => some (Value.int y)).bind fun w => some (g w)) (hx : qboo x = some y) (h : QTri l Z n0 ad m (g (.int y)) v σ') : QTri l Z n0 ad m st v σ' :=
  QTri.step Ad W h (by rw [hs, hx]; rfl)
end Triples
/-! ## plain: branches and loops -/
theorem qite {α : Type} {c : Prop} [Decidable c] {a b : Option α} {r : α} (h : (if c then a else b) = some r) : (c ∧ a = some r) ∨ (¬ c ∧ b = some r) := by
  by_cases hc : c
  · exact Or.inl ⟨hc, by rwa [if_pos hc] at h⟩
  · exact Or.inr ⟨hc, by rwa [if_neg hc] at h⟩
def qN : Nat := 4000
def loopN {V E : Type} (B : V → Option (E ⊕ V)) : Nat → V → Option E
  | 0, _ => none
  | n + 1, v => match B v with
    | none => none
    | some (.inl e) => some e
    | some (.inr v') => loopN B n v'
theorem loopN_tri {V E : Type} {B : V → Option (E ⊕ V)} {T : V → Prop} {KE : E → Prop} (hB : ∀ v r, B v = some r → (∀ e, r = .inl e → KE e) → (∀ v', r = .inr v' → T v') → T v) : ∀ (n : Nat) (v : V) (e : E), loopN B n v = some e → KE e → T v
  | 0, _, _, h, _ => by cases h
  | n + 1, v, e, h, k => by
    simp only [loopN] at h
    split at h
    · cases h
    · rename_i e' he
      cases h
      exact hB v _ he (fun e q => by cases q; exact k) (fun v' q => by cases q)
    · rename_i v' he
      exact hB v _ he (fun e q => by cases q) (fun v'' q => by cases q; exact loopN_tri hB n v' e h k)
/-- a loop: an invariant, a measure -/
theorem loopN_inv {V E : Type} {B : V → Option (E ⊕ V)} (I : V → Prop) (P : E → Prop) (μ : V → Nat) (hB : ∀ v, I v → (∃ e, B v = some (.inl e) ∧ P e) ∨ ∃ v', B v = some (.inr v') ∧ I v' ∧ μ v' < μ v) : ∀ (n : Nat) (v : V), I v → μ v < n → ∃ e, loopN B n v = some e ∧ P e
  | 0, _, _, h => absurd h (Nat.not_lt_zero _)
  | n + 1, v, hv, hm => by
    rcases hB v hv with ⟨e, h1, h2⟩ | ⟨v', h1, h2, h3⟩
    · exact ⟨e, by simp only [loopN, h1], h2⟩
    · obtain ⟨e, g1, g2⟩ := loopN_inv I P μ hB n v' h2 (by omega)
      exact ⟨e, by simp only [loopN, h1]; exact g1, g2⟩
theorem qfn {α : Type} {P : α → Prop} : ∀ t ∈ ([] : List α), P t := fun _ h => nomatch h
theorem qfc {α : Type} {P : α → Prop} {a : α} {t : List α} (h : P a) (ht : ∀ x ∈ t, P x) : ∀ x ∈ a :: t, P x := fun x hx => by rcases List.mem_cons.mp hx with rfl | q; exact h; exact ht x q
theorem QW_ok {Z : State} {a0 : Array Value} (hw : ∀ d ∈ tables_1, d.before a0 Z = true) : QW Z a0 := by
  have w0 : ∀ k ∈ List.range nF, bif fFin k then (Jvm.Cond.laysFinal cName cName (fNm k) (fDs k)).before a0 Z = true else (Jvm.Cond.lays cName cName (fNm k) (fDs k)).before a0 Z = true :=
    show ∀ k ∈ [0, 1, 2, 3, 4, 5, 6, 7, 8, 9, 10, 11, 12, 13, 14, 15, 16, 17, 18], bif fFin k then (Jvm.Cond.laysFinal cName cName (fNm k) (fDs k)).before a0 Z = true else (Jvm.Cond.lays cName cName (fNm k) (fDs k)).before a0 Z = true from
    (qfc (hw _ (List.mem_of_getElem? (i := 11) rfl)) (qfc (hw _ (List.mem_of_getElem? (i := 13) rfl)) (qfc (hw _ (List.mem_of_getElem? (i := 16) rfl)) (qfc (hw _ (List.mem_of_getElem? (i := 18) rfl)) (qfc (hw _ (List.mem_of_getElem? (i := 20) rfl)) (qfc (hw _ (List.mem_of_getElem? (i := 22) rfl)) (qfc (hw _ (List.mem_of_getElem? (i := 24) rfl)) (qfc (hw _ (List.mem_of_getElem? (i := 26) rfl)) (qfc (hw _ (List.mem_of_getElem? (i := 29) rfl)) (qfc (hw _ (List.mem_of_getElem? (i := 35) rfl)) (qfc (hw _ (List.mem_of_getElem? (i := 37) rfl)) (qfc (hw _ (List.mem_of_getElem? (i := 39) rfl)) (qfc (hw _ (List.mem_of_getElem? (i := 41) rfl)) (qfc (hw _ (List.mem_of_getElem? (i := 43) rfl)) (qfc (hw _ (List.mem_of_getElem? (i := 45) rfl)) (qfc (hw _ (List.mem_of_getElem? (i := 47) rfl)) (qfc (hw _ (List.mem_of_getElem? (i := 49) rfl)) (qfc (hw _ (List.mem_of_getElem? (i := 51) rfl)) (qfc (hw _ (List.mem_of_getElem? (i := 53) rfl)) qfn)))))))))))))))))))
  refine ⟨?_, ?_, ?_, ?_, ?_, ?_, ?_, ?_, ?_, ?_, ?_, ?_, ?_, (fun k hk => w0 k (List.mem_range.mpr hk)), ?_, ?_, ?_⟩
  · exact (qfc (hw _ (List.mem_of_getElem? (i := 10) rfl)) (qfc (hw _ (List.mem_of_getElem? (i := 12) rfl)) (qfc (hw _ (List.mem_of_getElem? (i := 15) rfl)) (qfc (hw _ (List.mem_of_getElem? (i := 17) rfl)) (qfc (hw _ (List.mem_of_getElem? (i := 19) rfl)) (qfc (hw _ (List.mem_of_getElem? (i := 21) rfl)) (qfc (hw _ (List.mem_of_getElem? (i := 23) rfl)) (qfc (hw _ (List.mem_of_getElem? (i := 25) rfl)) (qfc (hw _ (List.mem_of_getElem? (i := 28) rfl)) (qfc (hw _ (List.mem_of_getElem? (i := 34) rfl)) (qfc (hw _ (List.mem_of_getElem? (i := 36) rfl)) (qfc (hw _ (List.mem_of_getElem? (i := 38) rfl)) (qfc (hw _ (List.mem_of_getElem? (i := 40) rfl)) (qfc (hw _ (List.mem_of_getElem? (i := 42) rfl)) (qfc (hw _ (List.mem_of_getElem? (i := 44) rfl)) (qfc (hw _ (List.mem_of_getElem? (i := 46) rfl)) (qfc (hw _ (List.mem_of_getElem? (i := 48) rfl)) (qfc (hw _ (List.mem_of_getElem? (i := 50) rfl)) (qfc (hw _ (List.mem_of_getElem? (i := 52) rfl)) qfn)))))))))))))))))))
  · exact (qfc (hw _ (List.mem_of_getElem? (i := 0) rfl)) qfn)
  · exact qfn
  · exact qfn
  · exact (qfc (hw _ (List.mem_of_getElem? (i := 3) rfl)) (qfc (hw _ (List.mem_of_getElem? (i := 30) rfl)) (qfc (hw _ (List.mem_of_getElem? (i := 54) rfl)) (qfc (hw _ (List.mem_of_getElem? (i := 59) rfl)) (qfc (hw _ (List.mem_of_getElem? (i := 63) rfl)) (qfc (hw _ (List.mem_of_getElem? (i := 67) rfl)) (qfc (hw _ (List.mem_of_getElem? (i := 72) rfl)) (qfc (hw _ (List.mem_of_getElem? (i := 77) rfl)) (qfc (hw _ (List.mem_of_getElem? (i := 82) rfl)) (qfc (hw _ (List.mem_of_getElem? (i := 87) rfl)) qfn))))))))))
  · exact (qfc (hw _ (List.mem_of_getElem? (i := 6) rfl)) qfn)
  · exact (qfc ⟨(hw _ (List.mem_of_getElem? (i := 55) rfl)), (hw _ (List.mem_of_getElem? (i := 57) rfl)), (hw _ (List.mem_of_getElem? (i := 56) rfl))⟩ (qfc ⟨(hw _ (List.mem_of_getElem? (i := 68) rfl)), (hw _ (List.mem_of_getElem? (i := 70) rfl)), (hw _ (List.mem_of_getElem? (i := 69) rfl))⟩ (qfc ⟨(hw _ (List.mem_of_getElem? (i := 73) rfl)), (hw _ (List.mem_of_getElem? (i := 75) rfl)), (hw _ (List.mem_of_getElem? (i := 74) rfl))⟩ (qfc ⟨(hw _ (List.mem_of_getElem? (i := 78) rfl)), (hw _ (List.mem_of_getElem? (i := 80) rfl)), (hw _ (List.mem_of_getElem? (i := 79) rfl))⟩ (qfc ⟨(hw _ (List.mem_of_getElem? (i := 83) rfl)), (hw _ (List.mem_of_getElem? (i := 85) rfl)), (hw _ (List.mem_of_getElem? (i := 84) rfl))⟩ (qfc ⟨(hw _ (List.mem_of_getElem? (i := 88) rfl)), (hw _ (List.mem_of_getElem? (i := 90) rfl)), (hw _ (List.mem_of_getElem? (i := 89) rfl))⟩ qfn))))))
  · exact (qfc ⟨(hw _ (List.mem_of_getElem? (i := 31) rfl)), (hw _ (List.mem_of_getElem? (i := 32) rfl))⟩ (qfc ⟨(hw _ (List.mem_of_getElem? (i := 60) rfl)), (hw _ (List.mem_of_getElem? (i := 61) rfl))⟩ (qfc ⟨(hw _ (List.mem_of_getElem? (i := 64) rfl)), (hw _ (List.mem_of_getElem? (i := 65) rfl))⟩ qfn)))
  · exact qfn
  · exact (qfc (hw _ (List.mem_of_getElem? (i := 4) rfl)) qfn)
  · exact (qfc ⟨(hw _ (List.mem_of_getElem? (i := 5) rfl)), (hw _ (List.mem_of_getElem? (i := 2) rfl))⟩ (qfc ⟨(hw _ (List.mem_of_getElem? (i := 33) rfl)), (hw _ (List.mem_of_getElem? (i := 2) rfl))⟩ (qfc ⟨(hw _ (List.mem_of_getElem? (i := 58) rfl)), (hw _ (List.mem_of_getElem? (i := 2) rfl))⟩ (qfc ⟨(hw _ (List.mem_of_getElem? (i := 62) rfl)), (hw _ (List.mem_of_getElem? (i := 2) rfl))⟩ (qfc ⟨(hw _ (List.mem_of_getElem? (i := 66) rfl)), (hw _ (List.mem_of_getElem? (i := 2) rfl))⟩ (qfc ⟨(hw _ (List.mem_of_getElem? (i := 71) rfl)), (hw _ (List.mem_of_getElem? (i := 2) rfl))⟩ (qfc ⟨(hw _ (List.mem_of_getElem? (i := 76) rfl)), (hw _ (List.mem_of_getElem? (i := 2) rfl))⟩ (qfc ⟨(hw _ (List.mem_of_getElem? (i := 81) rfl)), (hw _ (List.mem_of_getElem? (i := 2) rfl))⟩ (qfc ⟨(hw _ (List.mem_of_getElem? (i := 86) rfl)), (hw _ (List.mem_of_getElem? (i := 2) rfl))⟩ (qfc ⟨(hw _ (List.mem_of_getElem? (i := 91) rfl)), (hw _ (List.mem_of_getElem? (i := 2) rfl))⟩ qfn))))))))))
  · exact (hw _ (List.mem_of_getElem? (i := 7) rfl))
  · exact (hw _ (List.mem_of_getElem? (i := 8) rfl))
  · exact (hw _ (List.mem_of_getElem? (i := 1) rfl))
  · exact (hw _ (List.mem_of_getElem? (i := 2) rfl))
  · exact (qfc (hw _ (List.mem_of_getElem? (i := 9) rfl)) (qfc (hw _ (List.mem_of_getElem? (i := 14) rfl)) (qfc (hw _ (List.mem_of_getElem? (i := 27) rfl)) qfn)))
abbrev Ob := List Int32 × List Int32 × List Int32 × List Int32 × List Int32 × List Int32 × List Int32 × List Int32 × List Int64 × Int32 × Int32 × Int32 × Int32 × Int32 × Int32 × Int32 × Int32 × Int32 × Int32
def f_live (o : Ob) : List Int32 := o.1
def f_used (o : Ob) : List Int32 := o.2.1
def f_freedAt (o : Ob) : List Int32 := o.2.2.1
def f_protoOf (o : Ob) : List Int32 := o.2.2.2.1
def f_hostOf (o : Ob) : List Int32 := o.2.2.2.2.1
def f_iportOf (o : Ob) : List Int32 := o.2.2.2.2.2.1
def f_stateAt (o : Ob) : List Int32 := o.2.2.2.2.2.2.1
def f_deadlineAt (o : Ob) : List Int32 := o.2.2.2.2.2.2.2.1
def f_perm (o : Ob) : List Int64 := o.2.2.2.2.2.2.2.2.1
def f_poolSize (o : Ob) : Int32 := o.2.2.2.2.2.2.2.2.2.1
def f_udpTimeout (o : Ob) : Int32 := o.2.2.2.2.2.2.2.2.2.2.1
def f_tcpTimeout (o : Ob) : Int32 := o.2.2.2.2.2.2.2.2.2.2.2.1
def f_cooldown (o : Ob) : Int32 := o.2.2.2.2.2.2.2.2.2.2.2.2.1
def f_clock (o : Ob) : Int32 := o.2.2.2.2.2.2.2.2.2.2.2.2.2.1
def f_remAddr (o : Ob) : Int32 := o.2.2.2.2.2.2.2.2.2.2.2.2.2.2.1
def f_remPort (o : Ob) : Int32 := o.2.2.2.2.2.2.2.2.2.2.2.2.2.2.2.1
def f_regHost (o : Ob) : Int32 := o.2.2.2.2.2.2.2.2.2.2.2.2.2.2.2.2.1
def f_regPort (o : Ob) : Int32 := o.2.2.2.2.2.2.2.2.2.2.2.2.2.2.2.2.2.1
def f_regExt (o : Ob) : Int32 := o.2.2.2.2.2.2.2.2.2.2.2.2.2.2.2.2.2.2
def s_live (o : Ob) (v : List Int32) : Ob := (v, o.2.1, o.2.2.1, o.2.2.2.1, o.2.2.2.2.1, o.2.2.2.2.2.1, o.2.2.2.2.2.2.1, o.2.2.2.2.2.2.2.1, o.2.2.2.2.2.2.2.2.1, o.2.2.2.2.2.2.2.2.2.1, o.2.2.2.2.2.2.2.2.2.2.1, o.2.2.2.2.2.2.2.2.2.2.2.1, o.2.2.2.2.2.2.2.2.2.2.2.2.1, o.2.2.2.2.2.2.2.2.2.2.2.2.2.1, o.2.2.2.2.2.2.2.2.2.2.2.2.2.2.1, o.2.2.2.2.2.2.2.2.2.2.2.2.2.2.2.1, o.2.2.2.2.2.2.2.2.2.2.2.2.2.2.2.2.1, o.2.2.2.2.2.2.2.2.2.2.2.2.2.2.2.2.2.1, o.2.2.2.2.2.2.2.2.2.2.2.2.2.2.2.2.2.2)
def s_used (o : Ob) (v : List Int32) : Ob := (o.1, v, o.2.2.1, o.2.2.2.1, o.2.2.2.2.1, o.2.2.2.2.2.1, o.2.2.2.2.2.2.1, o.2.2.2.2.2.2.2.1, o.2.2.2.2.2.2.2.2.1, o.2.2.2.2.2.2.2.2.2.1, o.2.2.2.2.2.2.2.2.2.2.1, o.2.2.2.2.2.2.2.2.2.2.2.1, o.2.2.2.2.2.2.2.2.2.2.2.2.1, o.2.2.2.2.2.2.2.2.2.2.2.2.2.1, o.2.2.2.2.2.2.2.2.2.2.2.2.2.2.1, o.2.2.2.2.2.2.2.2.2.2.2.2.2.2.2.1, o.2.2.2.2.2.2.2.2.2.2.2.2.2.2.2.2.1, o.2.2.2.2.2.2.2.2.2.2.2.2.2.2.2.2.2.1, o.2.2.2.2.2.2.2.2.2.2.2.2.2.2.2.2.2.2)
def s_freedAt (o : Ob) (v : List Int32) : Ob := (o.1, o.2.1, v, o.2.2.2.1, o.2.2.2.2.1, o.2.2.2.2.2.1, o.2.2.2.2.2.2.1, o.2.2.2.2.2.2.2.1, o.2.2.2.2.2.2.2.2.1, o.2.2.2.2.2.2.2.2.2.1, o.2.2.2.2.2.2.2.2.2.2.1, o.2.2.2.2.2.2.2.2.2.2.2.1, o.2.2.2.2.2.2.2.2.2.2.2.2.1, o.2.2.2.2.2.2.2.2.2.2.2.2.2.1, o.2.2.2.2.2.2.2.2.2.2.2.2.2.2.1, o.2.2.2.2.2.2.2.2.2.2.2.2.2.2.2.1, o.2.2.2.2.2.2.2.2.2.2.2.2.2.2.2.2.1, o.2.2.2.2.2.2.2.2.2.2.2.2.2.2.2.2.2.1, o.2.2.2.2.2.2.2.2.2.2.2.2.2.2.2.2.2.2)
def s_protoOf (o : Ob) (v : List Int32) : Ob := (o.1, o.2.1, o.2.2.1, v, o.2.2.2.2.1, o.2.2.2.2.2.1, o.2.2.2.2.2.2.1, o.2.2.2.2.2.2.2.1, o.2.2.2.2.2.2.2.2.1, o.2.2.2.2.2.2.2.2.2.1, o.2.2.2.2.2.2.2.2.2.2.1, o.2.2.2.2.2.2.2.2.2.2.2.1, o.2.2.2.2.2.2.2.2.2.2.2.2.1, o.2.2.2.2.2.2.2.2.2.2.2.2.2.1, o.2.2.2.2.2.2.2.2.2.2.2.2.2.2.1, o.2.2.2.2.2.2.2.2.2.2.2.2.2.2.2.1, o.2.2.2.2.2.2.2.2.2.2.2.2.2.2.2.2.1, o.2.2.2.2.2.2.2.2.2.2.2.2.2.2.2.2.2.1, o.2.2.2.2.2.2.2.2.2.2.2.2.2.2.2.2.2.2)
def s_hostOf (o : Ob) (v : List Int32) : Ob := (o.1, o.2.1, o.2.2.1, o.2.2.2.1, v, o.2.2.2.2.2.1, o.2.2.2.2.2.2.1, o.2.2.2.2.2.2.2.1, o.2.2.2.2.2.2.2.2.1, o.2.2.2.2.2.2.2.2.2.1, o.2.2.2.2.2.2.2.2.2.2.1, o.2.2.2.2.2.2.2.2.2.2.2.1, o.2.2.2.2.2.2.2.2.2.2.2.2.1, o.2.2.2.2.2.2.2.2.2.2.2.2.2.1, o.2.2.2.2.2.2.2.2.2.2.2.2.2.2.1, o.2.2.2.2.2.2.2.2.2.2.2.2.2.2.2.1, o.2.2.2.2.2.2.2.2.2.2.2.2.2.2.2.2.1, o.2.2.2.2.2.2.2.2.2.2.2.2.2.2.2.2.2.1, o.2.2.2.2.2.2.2.2.2.2.2.2.2.2.2.2.2.2)
def s_iportOf (o : Ob) (v : List Int32) : Ob := (o.1, o.2.1, o.2.2.1, o.2.2.2.1, o.2.2.2.2.1, v, o.2.2.2.2.2.2.1, o.2.2.2.2.2.2.2.1, o.2.2.2.2.2.2.2.2.1, o.2.2.2.2.2.2.2.2.2.1, o.2.2.2.2.2.2.2.2.2.2.1, o.2.2.2.2.2.2.2.2.2.2.2.1, o.2.2.2.2.2.2.2.2.2.2.2.2.1, o.2.2.2.2.2.2.2.2.2.2.2.2.2.1, o.2.2.2.2.2.2.2.2.2.2.2.2.2.2.1, o.2.2.2.2.2.2.2.2.2.2.2.2.2.2.2.1, o.2.2.2.2.2.2.2.2.2.2.2.2.2.2.2.2.1, o.2.2.2.2.2.2.2.2.2.2.2.2.2.2.2.2.2.1, o.2.2.2.2.2.2.2.2.2.2.2.2.2.2.2.2.2.2)
def s_stateAt (o : Ob) (v : List Int32) : Ob := (o.1, o.2.1, o.2.2.1, o.2.2.2.1, o.2.2.2.2.1, o.2.2.2.2.2.1, v, o.2.2.2.2.2.2.2.1, o.2.2.2.2.2.2.2.2.1, o.2.2.2.2.2.2.2.2.2.1, o.2.2.2.2.2.2.2.2.2.2.1, o.2.2.2.2.2.2.2.2.2.2.2.1, o.2.2.2.2.2.2.2.2.2.2.2.2.1, o.2.2.2.2.2.2.2.2.2.2.2.2.2.1, o.2.2.2.2.2.2.2.2.2.2.2.2.2.2.1, o.2.2.2.2.2.2.2.2.2.2.2.2.2.2.2.1, o.2.2.2.2.2.2.2.2.2.2.2.2.2.2.2.2.1, o.2.2.2.2.2.2.2.2.2.2.2.2.2.2.2.2.2.1, o.2.2.2.2.2.2.2.2.2.2.2.2.2.2.2.2.2.2)
def s_deadlineAt (o : Ob) (v : List Int32) : Ob := (o.1, o.2.1, o.2.2.1, o.2.2.2.1, o.2.2.2.2.1, o.2.2.2.2.2.1, o.2.2.2.2.2.2.1, v, o.2.2.2.2.2.2.2.2.1, o.2.2.2.2.2.2.2.2.2.1, o.2.2.2.2.2.2.2.2.2.2.1, o.2.2.2.2.2.2.2.2.2.2.2.1, o.2.2.2.2.2.2.2.2.2.2.2.2.1, o.2.2.2.2.2.2.2.2.2.2.2.2.2.1, o.2.2.2.2.2.2.2.2.2.2.2.2.2.2.1, o.2.2.2.2.2.2.2.2.2.2.2.2.2.2.2.1, o.2.2.2.2.2.2.2.2.2.2.2.2.2.2.2.2.1, o.2.2.2.2.2.2.2.2.2.2.2.2.2.2.2.2.2.1, o.2.2.2.2.2.2.2.2.2.2.2.2.2.2.2.2.2.2)
def s_perm (o : Ob) (v : List Int64) : Ob := (o.1, o.2.1, o.2.2.1, o.2.2.2.1, o.2.2.2.2.1, o.2.2.2.2.2.1, o.2.2.2.2.2.2.1, o.2.2.2.2.2.2.2.1, v, o.2.2.2.2.2.2.2.2.2.1, o.2.2.2.2.2.2.2.2.2.2.1, o.2.2.2.2.2.2.2.2.2.2.2.1, o.2.2.2.2.2.2.2.2.2.2.2.2.1, o.2.2.2.2.2.2.2.2.2.2.2.2.2.1, o.2.2.2.2.2.2.2.2.2.2.2.2.2.2.1, o.2.2.2.2.2.2.2.2.2.2.2.2.2.2.2.1, o.2.2.2.2.2.2.2.2.2.2.2.2.2.2.2.2.1, o.2.2.2.2.2.2.2.2.2.2.2.2.2.2.2.2.2.1, o.2.2.2.2.2.2.2.2.2.2.2.2.2.2.2.2.2.2)
def s_poolSize (o : Ob) (v : Int32) : Ob := (o.1, o.2.1, o.2.2.1, o.2.2.2.1, o.2.2.2.2.1, o.2.2.2.2.2.1, o.2.2.2.2.2.2.1, o.2.2.2.2.2.2.2.1, o.2.2.2.2.2.2.2.2.1, v, o.2.2.2.2.2.2.2.2.2.2.1, o.2.2.2.2.2.2.2.2.2.2.2.1, o.2.2.2.2.2.2.2.2.2.2.2.2.1, o.2.2.2.2.2.2.2.2.2.2.2.2.2.1, o.2.2.2.2.2.2.2.2.2.2.2.2.2.2.1, o.2.2.2.2.2.2.2.2.2.2.2.2.2.2.2.1, o.2.2.2.2.2.2.2.2.2.2.2.2.2.2.2.2.1, o.2.2.2.2.2.2.2.2.2.2.2.2.2.2.2.2.2.1, o.2.2.2.2.2.2.2.2.2.2.2.2.2.2.2.2.2.2)
def s_udpTimeout (o : Ob) (v : Int32) : Ob := (o.1, o.2.1, o.2.2.1, o.2.2.2.1, o.2.2.2.2.1, o.2.2.2.2.2.1, o.2.2.2.2.2.2.1, o.2.2.2.2.2.2.2.1, o.2.2.2.2.2.2.2.2.1, o.2.2.2.2.2.2.2.2.2.1, v, o.2.2.2.2.2.2.2.2.2.2.2.1, o.2.2.2.2.2.2.2.2.2.2.2.2.1, o.2.2.2.2.2.2.2.2.2.2.2.2.2.1, o.2.2.2.2.2.2.2.2.2.2.2.2.2.2.1, o.2.2.2.2.2.2.2.2.2.2.2.2.2.2.2.1, o.2.2.2.2.2.2.2.2.2.2.2.2.2.2.2.2.1, o.2.2.2.2.2.2.2.2.2.2.2.2.2.2.2.2.2.1, o.2.2.2.2.2.2.2.2.2.2.2.2.2.2.2.2.2.2)
def s_tcpTimeout (o : Ob) (v : Int32) : Ob := (o.1, o.2.1, o.2.2.1, o.2.2.2.1, o.2.2.2.2.1, o.2.2.2.2.2.1, o.2.2.2.2.2.2.1, o.2.2.2.2.2.2.2.1, o.2.2.2.2.2.2.2.2.1, o.2.2.2.2.2.2.2.2.2.1, o.2.2.2.2.2.2.2.2.2.2.1, v, o.2.2.2.2.2.2.2.2.2.2.2.2.1, o.2.2.2.2.2.2.2.2.2.2.2.2.2.1, o.2.2.2.2.2.2.2.2.2.2.2.2.2.2.1, o.2.2.2.2.2.2.2.2.2.2.2.2.2.2.2.1, o.2.2.2.2.2.2.2.2.2.2.2.2.2.2.2.2.1, o.2.2.2.2.2.2.2.2.2.2.2.2.2.2.2.2.2.1, o.2.2.2.2.2.2.2.2.2.2.2.2.2.2.2.2.2.2)
def s_cooldown (o : Ob) (v : Int32) : Ob := (o.1, o.2.1, o.2.2.1, o.2.2.2.1, o.2.2.2.2.1, o.2.2.2.2.2.1, o.2.2.2.2.2.2.1, o.2.2.2.2.2.2.2.1, o.2.2.2.2.2.2.2.2.1, o.2.2.2.2.2.2.2.2.2.1, o.2.2.2.2.2.2.2.2.2.2.1, o.2.2.2.2.2.2.2.2.2.2.2.1, v, o.2.2.2.2.2.2.2.2.2.2.2.2.2.1, o.2.2.2.2.2.2.2.2.2.2.2.2.2.2.1, o.2.2.2.2.2.2.2.2.2.2.2.2.2.2.2.1, o.2.2.2.2.2.2.2.2.2.2.2.2.2.2.2.2.1, o.2.2.2.2.2.2.2.2.2.2.2.2.2.2.2.2.2.1, o.2.2.2.2.2.2.2.2.2.2.2.2.2.2.2.2.2.2)
def s_clock (o : Ob) (v : Int32) : Ob := (o.1, o.2.1, o.2.2.1, o.2.2.2.1, o.2.2.2.2.1, o.2.2.2.2.2.1, o.2.2.2.2.2.2.1, o.2.2.2.2.2.2.2.1, o.2.2.2.2.2.2.2.2.1, o.2.2.2.2.2.2.2.2.2.1, o.2.2.2.2.2.2.2.2.2.2.1, o.2.2.2.2.2.2.2.2.2.2.2.1, o.2.2.2.2.2.2.2.2.2.2.2.2.1, v, o.2.2.2.2.2.2.2.2.2.2.2.2.2.2.1, o.2.2.2.2.2.2.2.2.2.2.2.2.2.2.2.1, o.2.2.2.2.2.2.2.2.2.2.2.2.2.2.2.2.1, o.2.2.2.2.2.2.2.2.2.2.2.2.2.2.2.2.2.1, o.2.2.2.2.2.2.2.2.2.2.2.2.2.2.2.2.2.2)
def s_remAddr (o : Ob) (v : Int32) : Ob := (o.1, o.2.1, o.2.2.1, o.2.2.2.1, o.2.2.2.2.1, o.2.2.2.2.2.1, o.2.2.2.2.2.2.1, o.2.2.2.2.2.2.2.1, o.2.2.2.2.2.2.2.2.1, o.2.2.2.2.2.2.2.2.2.1, o.2.2.2.2.2.2.2.2.2.2.1, o.2.2.2.2.2.2.2.2.2.2.2.1, o.2.2.2.2.2.2.2.2.2.2.2.2.1, o.2.2.2.2.2.2.2.2.2.2.2.2.2.1, v, o.2.2.2.2.2.2.2.2.2.2.2.2.2.2.2.1, o.2.2.2.2.2.2.2.2.2.2.2.2.2.2.2.2.1, o.2.2.2.2.2.2.2.2.2.2.2.2.2.2.2.2.2.1, o.2.2.2.2.2.2.2.2.2.2.2.2.2.2.2.2.2.2)
def s_remPort (o : Ob) (v : Int32) : Ob := (o.1, o.2.1, o.2.2.1, o.2.2.2.1, o.2.2.2.2.1, o.2.2.2.2.2.1, o.2.2.2.2.2.2.1, o.2.2.2.2.2.2.2.1, o.2.2.2.2.2.2.2.2.1, o.2.2.2.2.2.2.2.2.2.1, o.2.2.2.2.2.2.2.2.2.2.1, o.2.2.2.2.2.2.2.2.2.2.2.1, o.2.2.2.2.2.2.2.2.2.2.2.2.1, o.2.2.2.2.2.2.2.2.2.2.2.2.2.1, o.2.2.2.2.2.2.2.2.2.2.2.2.2.2.1, v, o.2.2.2.2.2.2.2.2.2.2.2.2.2.2.2.2.1, o.2.2.2.2.2.2.2.2.2.2.2.2.2.2.2.2.2.1, o.2.2.2.2.2.2.2.2.2.2.2.2.2.2.2.2.2.2)
def s_regHost (o : Ob) (v : Int32) : Ob := (o.1, o.2.1, o.2.2.1, o.2.2.2.1, o.2.2.2.2.1, o.2.2.2.2.2.1, o.2.2.2.2.2.2.1, o.2.2.2.2.2.2.2.1, o.2.2.2.2.2.2.2.2.1, o.2.2.2.2.2.2.2.2.2.1, o.2.2.2.2.2.2.2.2.2.2.1, o.2.2.2.2.2.2.2.2.2.2.2.1, o.2.2.2.2.2.2.2.2.2.2.2.2.1, o.2.2.2.2.2.2.2.2.2.2.2.2.2.1, o.2.2.2.2.2.2.2.2.2.2.2.2.2.2.1, o.2.2.2.2.2.2.2.2.2.2.2.2.2.2.2.1, v, o.2.2.2.2.2.2.2.2.2.2.2.2.2.2.2.2.2.1, o.2.2.2.2.2.2.2.2.2.2.2.2.2.2.2.2.2.2)
def s_regPort (o : Ob) (v : Int32) : Ob := (o.1, o.2.1, o.2.2.1, o.2.2.2.1, o.2.2.2.2.1, o.2.2.2.2.2.1, o.2.2.2.2.2.2.1, o.2.2.2.2.2.2.2.1, o.2.2.2.2.2.2.2.2.1, o.2.2.2.2.2.2.2.2.2.1, o.2.2.2.2.2.2.2.2.2.2.1, o.2.2.2.2.2.2.2.2.2.2.2.1, o.2.2.2.2.2.2.2.2.2.2.2.2.1, o.2.2.2.2.2.2.2.2.2.2.2.2.2.1, o.2.2.2.2.2.2.2.2.2.2.2.2.2.2.1, o.2.2.2.2.2.2.2.2.2.2.2.2.2.2.2.1, o.2.2.2.2.2.2.2.2.2.2.2.2.2.2.2.2.1, v, o.2.2.2.2.2.2.2.2.2.2.2.2.2.2.2.2.2.2)
def s_regExt (o : Ob) (v : Int32) : Ob := (o.1, o.2.1, o.2.2.1, o.2.2.2.1, o.2.2.2.2.1, o.2.2.2.2.2.1, o.2.2.2.2.2.2.1, o.2.2.2.2.2.2.2.1, o.2.2.2.2.2.2.2.2.1, o.2.2.2.2.2.2.2.2.2.1, o.2.2.2.2.2.2.2.2.2.2.1, o.2.2.2.2.2.2.2.2.2.2.2.1, o.2.2.2.2.2.2.2.2.2.2.2.2.1, o.2.2.2.2.2.2.2.2.2.2.2.2.2.1, o.2.2.2.2.2.2.2.2.2.2.2.2.2.2.1, o.2.2.2.2.2.2.2.2.2.2.2.2.2.2.2.1, o.2.2.2.2.2.2.2.2.2.2.2.2.2.2.2.2.1, o.2.2.2.2.2.2.2.2.2.2.2.2.2.2.2.2.2.1, v)
def ob0 : Ob := ([], [], [], [], [], [], [], [], [], 0, 0, 0, 0, 0, 0, 0, 0, 0, 0)
section Walks
variable {l : Launch} {Z : State} {n0 : Nat} {ad : Nat → Addr} {a0 : Array Value}
set_option maxRecDepth 20000
def H0 (o0 : Ob) : QHeap := [.inl [.ref 1, .ref 2, .ref 3, .ref 4, .ref 5, .ref 6, .ref 7, .ref 8, .ref 9, .int (f_poolSize o0), .int (f_udpTimeout o0), .int (f_tcpTimeout o0), .int (f_cooldown o0), .int (f_clock o0), .int (f_remAddr o0), .int (f_remPort o0), .int (f_regHost o0), .int (f_regPort o0), .int (f_regExt o0)], .inr (.inl (.boolean, (f_live o0))), .inr (.inl (.boolean, (f_used o0))), .inr (.inl (.int, (f_freedAt o0))), .inr (.inl (.int, (f_protoOf o0))), .inr (.inl (.int, (f_hostOf o0))), .inr (.inl (.int, (f_iportOf o0))), .inr (.inl (.int, (f_stateAt o0))), .inr (.inl (.int, (f_deadlineAt o0))), .inr (.inr (f_perm o0))]
/-- clamp(III)I -/
def F2 (x1 : Int32) (x2 : Int32) (x3 : Int32) : Option (Int32) :=
  (if x1 < x2 then some x2 else (if x3 < x1 then some x3 else some x1))
theorem tF2 (Ad : QAd n0 ad) (W : QW Z a0) {a : Nat} {σ : QHeap} (x1 : Int32) (x2 : Int32) (x3 : Int32) {r : Int32} (h : F2 x1 x2 x3 = some r) : QTri l Z n0 ad 2 (0, qentry [.ref a, .int x1, .int x2, .int x3] (pMaxL 2), [], σ) (some (Value.int r)) σ := by
  unfold F2 at h
  refine QTri.steps Ad W 2 (st' := (2, [some (.ref a), some (.int x1), some (.int x2), some (.int x3)], [.int x2, .int x1], σ)) rfl ?_
  rcases qite h with ⟨hc1, h⟩ | ⟨hc1, h⟩
  · refine QTri.brF Ad W (t := 7) (f := 5) (L := [some (.ref a), some (.int x1), some (.int x2), some (.int x3)]) (S := []) (σ := σ) rfl (XT.ii_ge_f hc1) ?_
    refine QTri.steps Ad W 1 (st' := (6, [some (.ref a), some (.int x1), some (.int x2), some (.int x3)], [.int x2], σ)) rfl ?_
    obtain rfl := Option.some.inj h
    exact QTri.retI rfl rfl
  · refine QTri.brT Ad W (t := 7) (f := 5) (L := [some (.ref a), some (.int x1), some (.int x2), some (.int x3)]) (S := []) (σ := σ) rfl (XT.ii_ge_t hc1) ?_
    refine QTri.steps Ad W 2 (st' := (9, [some (.ref a), some (.int x1), some (.int x2), some (.int x3)], [.int x3, .int x1], σ)) rfl ?_
    rcases qite h with ⟨hc2, h⟩ | ⟨hc2, h⟩
    · refine QTri.brF Ad W (t := 14) (f := 12) (L := [some (.ref a), some (.int x1), some (.int x2), some (.int x3)]) (S := []) (σ := σ) rfl (XT.ii_le_f hc2) ?_
      refine QTri.steps Ad W 1 (st' := (13, [some (.ref a), some (.int x1), some (.int x2), some (.int x3)], [.int x3], σ)) rfl ?_
      obtain rfl := Option.some.inj h
      exact QTri.retI rfl rfl
    · refine QTri.brT Ad W (t := 14) (f := 12) (L := [some (.ref a), some (.int x1), some (.int x2), some (.int x3)]) (S := []) (σ := σ) rfl (XT.ii_le_t hc2) ?_
      refine QTri.steps Ad W 1 (st' := (15, [some (.ref a), some (.int x1), some (.int x2), some (.int x3)], [.int x1], σ)) rfl ?_
      obtain rfl := Option.some.inj h
      exact QTri.retI rfl rfl
/-- init(IIII)V -/
def F1 (x1 : Int32) (x2 : Int32) (x3 : Int32) (x4 : Int32) : Option (Ob) :=
  (F2 x1 (2 : Int32) (16 : Int32)).bind fun r3 => (F2 x2 (1 : Int32) (1000 : Int32)).bind fun r4 => (F2 x3 (1 : Int32) (1000 : Int32)).bind fun r5 => (F2 x4 (0 : Int32) (1000 : Int32)).bind fun r6 => some (s_regExt (s_regPort (s_regHost (s_remPort (s_remAddr (s_clock (s_cooldown (s_tcpTimeout (s_udpTimeout (s_poolSize (s_perm (s_deadlineAt (s_stateAt (s_iportOf (s_hostOf (s_protoOf (s_freedAt (s_used (s_live ob0 (List.replicate 16 0)) (List.replicate 16 0)) (List.replicate 16 0)) (List.replicate 16 0)) (List.replicate 16 0)) (List.replicate 16 0)) (List.replicate 16 0)) (List.replicate 16 0)) (List.replicate 64 0)) r3) r4) r5) r6) (0 : Int32)) (0 : Int32)) (0 : Int32)) (-1 : Int32)) (-1 : Int32)) (-1 : Int32))
theorem tF1 (Ad : QAd n0 ad) (W : QW Z a0) (x1 : Int32) (x2 : Int32) (x3 : Int32) (x4 : Int32) {r : Ob} (h : F1 x1 x2 x3 x4 = some r) : QTri l Z n0 ad 1 (0, qentry [.ref 0, .int x1, .int x2, .int x3, .int x4] (pMaxL 1), [], [.inl [.null, .null, .null, .null, .null, .null, .null, .null, .null, .int (f_poolSize ob0), .int (f_udpTimeout ob0), .int (f_tcpTimeout ob0), .int (f_cooldown ob0), .int (f_clock ob0), .int (f_remAddr ob0), .int (f_remPort ob0), .int (f_regHost ob0), .int (f_regPort ob0), .int (f_regExt ob0)]]) (none : Option Value) (H0 r) := by
  unfold F1 at h
  refine QTri.steps Ad W 1 (st' := (1, [some (.ref 0), some (.int x1), some (.int x2), some (.int x3), some (.int x4)], [.ref 0], [.inl [.null, .null, .null, .null, .null, .null, .null, .null, .null, .int (f_poolSize ob0), .int (f_udpTimeout ob0), .int (f_tcpTimeout ob0), .int (f_cooldown ob0), .int (f_clock ob0), .int (f_remAddr ob0), .int (f_remPort ob0), .int (f_regHost ob0), .int (f_regPort ob0), .int (f_regExt ob0)]])) rfl ?_
  refine QTri.callO W rfl rfl rfl ?_
  refine QTri.steps Ad W 3 (st' := (9, [some (.ref 0), some (.int x1), some (.int x2), some (.int x3), some (.int x4)], [.ref 1, .ref 0], [.inl [.null, .null, .null, .null, .null, .null, .null, .null, .null, .int (f_poolSize ob0), .int (f_udpTimeout ob0), .int (f_tcpTimeout ob0), .int (f_cooldown ob0), .int (f_clock ob0), .int (f_remAddr ob0), .int (f_remPort ob0), .int (f_regHost ob0), .int (f_regPort ob0), .int (f_regExt ob0)], .inr (.inl (.boolean, (List.replicate 16 0)))])) rfl ?_
  refine QTri.steps Ad W 1 (st' := (12, [some (.ref 0), some (.int x1), some (.int x2), some (.int x3), some (.int x4)], [], [.inl [.ref 1, .null, .null, .null, .null, .null, .null, .null, .null, .int (f_poolSize ob0), .int (f_udpTimeout ob0), .int (f_tcpTimeout ob0), .int (f_cooldown ob0), .int (f_clock ob0), .int (f_remAddr ob0), .int (f_remPort ob0), .int (f_regHost ob0), .int (f_regPort ob0), .int (f_regExt ob0)], .inr (.inl (.boolean, (List.replicate 16 0)))])) rfl ?_
  refine QTri.steps Ad W 3 (st' := (17, [some (.ref 0), some (.int x1), some (.int x2), some (.int x3), some (.int x4)], [.ref 2, .ref 0], [.inl [.ref 1, .null, .null, .null, .null, .null, .null, .null, .null, .int (f_poolSize ob0), .int (f_udpTimeout ob0), .int (f_tcpTimeout ob0), .int (f_cooldown ob0), .int (f_clock ob0), .int (f_remAddr ob0), .int (f_remPort ob0), .int (f_regHost ob0), .int (f_regPort ob0), .int (f_regExt ob0)], .inr (.inl (.boolean, (List.replicate 16 0))), .inr (.inl (.boolean, (List.replicate 16 0)))])) rfl ?_
  refine QTri.steps Ad W 1 (st' := (20, [some (.ref 0), some (.int x1), some (.int x2), some (.int x3), some (.int x4)], [], [.inl [.ref 1, .ref 2, .null, .null, .null, .null, .null, .null, .null, .int (f_poolSize ob0), .int (f_udpTimeout ob0), .int (f_tcpTimeout ob0), .int (f_cooldown ob0), .int (f_clock ob0), .int (f_remAddr ob0), .int (f_remPort ob0), .int (f_regHost ob0), .int (f_regPort ob0), .int (f_regExt ob0)], .inr (.inl (.boolean, (List.replicate 16 0))), .inr (.inl (.boolean, (List.replicate 16 0)))])) rfl ?_
  refine QTri.steps Ad W 3 (st' := (25, [some (.ref 0), some (.int x1), some (.int x2), some (.int x3), some (.int x4)], [.ref 3, .ref 0], [.inl [.ref 1, .ref 2, .null, .null, .null, .null, .null, .null, .null, .int (f_poolSize ob0), .int (f_udpTimeout ob0), .int (f_tcpTimeout ob0), .int (f_cooldown ob0), .int (f_clock ob0), .int (f_remAddr ob0), .int (f_remPort ob0), .int (f_regHost ob0), .int (f_regPort ob0), .int (f_regExt ob0)], .inr (.inl (.boolean, (List.replicate 16 0))), .inr (.inl (.boolean, (List.replicate 16 0))), .inr (.inl (.int, (List.replicate 16 0)))])) rfl ?_
  refine QTri.steps Ad W 1 (st' := (28, [some (.ref 0), some (.int x1), some (.int x2), some (.int x3), some (.int x4)], [], [.inl [.ref 1, .ref 2, .ref 3, .null, .null, .null, .null, .null, .null, .int (f_poolSize ob0), .int (f_udpTimeout ob0), .int (f_tcpTimeout ob0), .int (f_cooldown ob0), .int (f_clock ob0), .int (f_remAddr ob0), .int (f_remPort ob0), .int (f_regHost ob0), .int (f_regPort ob0), .int (f_regExt ob0)], .inr (.inl (.boolean, (List.replicate 16 0))), .inr (.inl (.boolean, (List.replicate 16 0))), .inr (.inl (.int, (List.replicate 16 0)))])) rfl ?_
  refine QTri.steps Ad W 3 (st' := (33, [some (.ref 0), some (.int x1), some (.int x2), some (.int x3), some (.int x4)], [.ref 4, .ref 0], [.inl [.ref 1, .ref 2, .ref 3, .null, .null, .null, .null, .null, .null, .int (f_poolSize ob0), .int (f_udpTimeout ob0), .int (f_tcpTimeout ob0), .int (f_cooldown ob0), .int (f_clock ob0), .int (f_remAddr ob0), .int (f_remPort ob0), .int (f_regHost ob0), .int (f_regPort ob0), .int (f_regExt ob0)], .inr (.inl (.boolean, (List.replicate 16 0))), .inr (.inl (.boolean, (List.replicate 16 0))), .inr (.inl (.int, (List.replicate 16 0))), .inr (.inl (.int, (List.replicate 16 0)))])) rfl ?_
  refine QTri.steps Ad W 1 (st' := (36, [some (.ref 0), some (.int x1), some (.int x2), some (.int x3), some (.int x4)], [], [.inl [.ref 1, .ref 2, .ref 3, .ref 4, .null, .null, .null, .null, .null, .int (f_poolSize ob0), .int (f_udpTimeout ob0), .int (f_tcpTimeout ob0), .int (f_cooldown ob0), .int (f_clock ob0), .int (f_remAddr ob0), .int (f_remPort ob0), .int (f_regHost ob0), .int (f_regPort ob0), .int (f_regExt ob0)], .inr (.inl (.boolean, (List.replicate 16 0))), .inr (.inl (.boolean, (List.replicate 16 0))), .inr (.inl (.int, (List.replicate 16 0))), .inr (.inl (.int, (List.replicate 16 0)))])) rfl ?_
  refine QTri.steps Ad W 3 (st' := (41, [some (.ref 0), some (.int x1), some (.int x2), some (.int x3), some (.int x4)], [.ref 5, .ref 0], [.inl [.ref 1, .ref 2, .ref 3, .ref 4, .null, .null, .null, .null, .null, .int (f_poolSize ob0), .int (f_udpTimeout ob0), .int (f_tcpTimeout ob0), .int (f_cooldown ob0), .int (f_clock ob0), .int (f_remAddr ob0), .int (f_remPort ob0), .int (f_regHost ob0), .int (f_regPort ob0), .int (f_regExt ob0)], .inr (.inl (.boolean, (List.replicate 16 0))), .inr (.inl (.boolean, (List.replicate 16 0))), .inr (.inl (.int, (List.replicate 16 0))), .inr (.inl (.int, (List.replicate 16 0))), .inr (.inl (.int, (List.replicate 16 0)))])) rfl ?_
  refine QTri.steps Ad W 1 (st' := (44, [some (.ref 0), some (.int x1), some (.int x2), some (.int x3), some (.int x4)], [], [.inl [.ref 1, .ref 2, .ref 3, .ref 4, .ref 5, .null, .null, .null, .null, .int (f_poolSize ob0), .int (f_udpTimeout ob0), .int (f_tcpTimeout ob0), .int (f_cooldown ob0), .int (f_clock ob0), .int (f_remAddr ob0), .int (f_remPort ob0), .int (f_regHost ob0), .int (f_regPort ob0), .int (f_regExt ob0)], .inr (.inl (.boolean, (List.replicate 16 0))), .inr (.inl (.boolean, (List.replicate 16 0))), .inr (.inl (.int, (List.replicate 16 0))), .inr (.inl (.int, (List.replicate 16 0))), .inr (.inl (.int, (List.replicate 16 0)))])) rfl ?_
  refine QTri.steps Ad W 3 (st' := (49, [some (.ref 0), some (.int x1), some (.int x2), some (.int x3), some (.int x4)], [.ref 6, .ref 0], [.inl [.ref 1, .ref 2, .ref 3, .ref 4, .ref 5, .null, .null, .null, .null, .int (f_poolSize ob0), .int (f_udpTimeout ob0), .int (f_tcpTimeout ob0), .int (f_cooldown ob0), .int (f_clock ob0), .int (f_remAddr ob0), .int (f_remPort ob0), .int (f_regHost ob0), .int (f_regPort ob0), .int (f_regExt ob0)], .inr (.inl (.boolean, (List.replicate 16 0))), .inr (.inl (.boolean, (List.replicate 16 0))), .inr (.inl (.int, (List.replicate 16 0))), .inr (.inl (.int, (List.replicate 16 0))), .inr (.inl (.int, (List.replicate 16 0))), .inr (.inl (.int, (List.replicate 16 0)))])) rfl ?_
  refine QTri.steps Ad W 1 (st' := (52, [some (.ref 0), some (.int x1), some (.int x2), some (.int x3), some (.int x4)], [], [.inl [.ref 1, .ref 2, .ref 3, .ref 4, .ref 5, .ref 6, .null, .null, .null, .int (f_poolSize ob0), .int (f_udpTimeout ob0), .int (f_tcpTimeout ob0), .int (f_cooldown ob0), .int (f_clock ob0), .int (f_remAddr ob0), .int (f_remPort ob0), .int (f_regHost ob0), .int (f_regPort ob0), .int (f_regExt ob0)], .inr (.inl (.boolean, (List.replicate 16 0))), .inr (.inl (.boolean, (List.replicate 16 0))), .inr (.inl (.int, (List.replicate 16 0))), .inr (.inl (.int, (List.replicate 16 0))), .inr (.inl (.int, (List.replicate 16 0))), .inr (.inl (.int, (List.replicate 16 0)))])) rfl ?_
  refine QTri.steps Ad W 3 (st' := (57, [some (.ref 0), some (.int x1), some (.int x2), some (.int x3), some (.int x4)], [.ref 7, .ref 0], [.inl [.ref 1, .ref 2, .ref 3, .ref 4, .ref 5, .ref 6, .null, .null, .null, .int (f_poolSize ob0), .int (f_udpTimeout ob0), .int (f_tcpTimeout ob0), .int (f_cooldown ob0), .int (f_clock ob0), .int (f_remAddr ob0), .int (f_remPort ob0), .int (f_regHost ob0), .int (f_regPort ob0), .int (f_regExt ob0)], .inr (.inl (.boolean, (List.replicate 16 0))), .inr (.inl (.boolean, (List.replicate 16 0))), .inr (.inl (.int, (List.replicate 16 0))), .inr (.inl (.int, (List.replicate 16 0))), .inr (.inl (.int, (List.replicate 16 0))), .inr (.inl (.int, (List.replicate 16 0))), .inr (.inl (.int, (List.replicate 16 0)))])) rfl ?_
  refine QTri.steps Ad W 1 (st' := (60, [some (.ref 0), some (.int x1), some (.int x2), some (.int x3), some (.int x4)], [], [.inl [.ref 1, .ref 2, .ref 3, .ref 4, .ref 5, .ref 6, .ref 7, .null, .null, .int (f_poolSize ob0), .int (f_udpTimeout ob0), .int (f_tcpTimeout ob0), .int (f_cooldown ob0), .int (f_clock ob0), .int (f_remAddr ob0), .int (f_remPort ob0), .int (f_regHost ob0), .int (f_regPort ob0), .int (f_regExt ob0)], .inr (.inl (.boolean, (List.replicate 16 0))), .inr (.inl (.boolean, (List.replicate 16 0))), .inr (.inl (.int, (List.replicate 16 0))), .inr (.inl (.int, (List.replicate 16 0))), .inr (.inl (.int, (List.replicate 16 0))), .inr (.inl (.int, (List.replicate 16 0))), .inr (.inl (.int, (List.replicate 16 0)))])) rfl ?_
  refine QTri.steps Ad W 3 (st' := (65, [some (.ref 0), some (.int x1), some (.int x2), some (.int x3), some (.int x4)], [.ref 8, .ref 0], [.inl [.ref 1, .ref 2, .ref 3, .ref 4, .ref 5, .ref 6, .ref 7, .null, .null, .int (f_poolSize ob0), .int (f_udpTimeout ob0), .int (f_tcpTimeout ob0), .int (f_cooldown ob0), .int (f_clock ob0), .int (f_remAddr ob0), .int (f_remPort ob0), .int (f_regHost ob0), .int (f_regPort ob0), .int (f_regExt ob0)], .inr (.inl (.boolean, (List.replicate 16 0))), .inr (.inl (.boolean, (List.replicate 16 0))), .inr (.inl (.int, (List.replicate 16 0))), .inr (.inl (.int, (List.replicate 16 0))), .inr (.inl (.int, (List.replicate 16 0))), .inr (.inl (.int, (List.replicate 16 0))), .inr (.inl (.int, (List.replicate 16 0))), .inr (.inl (.int, (List.replicate 16 0)))])) rfl ?_
  refine QTri.steps Ad W 1 (st' := (68, [some (.ref 0), some (.int x1), some (.int x2), some (.int x3), some (.int x4)], [], [.inl [.ref 1, .ref 2, .ref 3, .ref 4, .ref 5, .ref 6, .ref 7, .ref 8, .null, .int (f_poolSize ob0), .int (f_udpTimeout ob0), .int (f_tcpTimeout ob0), .int (f_cooldown ob0), .int (f_clock ob0), .int (f_remAddr ob0), .int (f_remPort ob0), .int (f_regHost ob0), .int (f_regPort ob0), .int (f_regExt ob0)], .inr (.inl (.boolean, (List.replicate 16 0))), .inr (.inl (.boolean, (List.replicate 16 0))), .inr (.inl (.int, (List.replicate 16 0))), .inr (.inl (.int, (List.replicate 16 0))), .inr (.inl (.int, (List.replicate 16 0))), .inr (.inl (.int, (List.replicate 16 0))), .inr (.inl (.int, (List.replicate 16 0))), .inr (.inl (.int, (List.replicate 16 0)))])) rfl ?_
  refine QTri.steps Ad W 3 (st' := (73, [some (.ref 0), some (.int x1), some (.int x2), some (.int x3), some (.int x4)], [.ref 9, .ref 0], [.inl [.ref 1, .ref 2, .ref 3, .ref 4, .ref 5, .ref 6, .ref 7, .ref 8, .null, .int (f_poolSize ob0), .int (f_udpTimeout ob0), .int (f_tcpTimeout ob0), .int (f_cooldown ob0), .int (f_clock ob0), .int (f_remAddr ob0), .int (f_remPort ob0), .int (f_regHost ob0), .int (f_regPort ob0), .int (f_regExt ob0)], .inr (.inl (.boolean, (List.replicate 16 0))), .inr (.inl (.boolean, (List.replicate 16 0))), .inr (.inl (.int, (List.replicate 16 0))), .inr (.inl (.int, (List.replicate 16 0))), .inr (.inl (.int, (List.replicate 16 0))), .inr (.inl (.int, (List.replicate 16 0))), .inr (.inl (.int, (List.replicate 16 0))), .inr (.inl (.int, (List.replicate 16 0))), .inr (.inr (List.replicate 64 0))])) rfl ?_
  refine QTri.steps Ad W 1 (st' := (76, [some (.ref 0), some (.int x1), some (.int x2), some (.int x3), some (.int x4)], [], [.inl [.ref 1, .ref 2, .ref 3, .ref 4, .ref 5, .ref 6, .ref 7, .ref 8, .ref 9, .int (f_poolSize ob0), .int (f_udpTimeout ob0), .int (f_tcpTimeout ob0), .int (f_cooldown ob0), .int (f_clock ob0), .int (f_remAddr ob0), .int (f_remPort ob0), .int (f_regHost ob0), .int (f_regPort ob0), .int (f_regExt ob0)], .inr (.inl (.boolean, (List.replicate 16 0))), .inr (.inl (.boolean, (List.replicate 16 0))), .inr (.inl (.int, (List.replicate 16 0))), .inr (.inl (.int, (List.replicate 16 0))), .inr (.inl (.int, (List.replicate 16 0))), .inr (.inl (.int, (List.replicate 16 0))), .inr (.inl (.int, (List.replicate 16 0))), .inr (.inl (.int, (List.replicate 16 0))), .inr (.inr (List.replicate 64 0))])) rfl ?_
  refine QTri.steps Ad W 5 (st' := (82, [some (.ref 0), some (.int x1), some (.int x2), some (.int x3), some (.int x4)], [.int (16 : Int32), .int (2 : Int32), .int x1, .ref 0, .ref 0], [.inl [.ref 1, .ref 2, .ref 3, .ref 4, .ref 5, .ref 6, .ref 7, .ref 8, .ref 9, .int (f_poolSize ob0), .int (f_udpTimeout ob0), .int (f_tcpTimeout ob0), .int (f_cooldown ob0), .int (f_clock ob0), .int (f_remAddr ob0), .int (f_remPort ob0), .int (f_regHost ob0), .int (f_regPort ob0), .int (f_regExt ob0)], .inr (.inl (.boolean, (List.replicate 16 0))), .inr (.inl (.boolean, (List.replicate 16 0))), .inr (.inl (.int, (List.replicate 16 0))), .inr (.inl (.int, (List.replicate 16 0))), .inr (.inl (.int, (List.replicate 16 0))), .inr (.inl (.int, (List.replicate 16 0))), .inr (.inl (.int, (List.replicate 16 0))), .inr (.inl (.int, (List.replicate 16 0))), .inr (.inr (List.replicate 64 0))])) rfl ?_
  obtain ⟨r3, hr3, h⟩ := Option.bind_eq_some_iff.mp h
  refine QTri.callP W (a := 0) (as := [.int x1, .int (2 : Int32), .int (16 : Int32)]) (rest := [.ref 0]) (w := (some (.int r3))) (σ₁ := [.inl [.ref 1, .ref 2, .ref 3, .ref 4, .ref 5, .ref 6, .ref 7, .ref 8, .ref 9, .int (f_poolSize ob0), .int (f_udpTimeout ob0), .int (f_tcpTimeout ob0), .int (f_cooldown ob0), .int (f_clock ob0), .int (f_remAddr ob0), .int (f_remPort ob0), .int (f_regHost ob0), .int (f_regPort ob0), .int (f_regExt ob0)], .inr (.inl (.boolean, (List.replicate 16 0))), .inr (.inl (.boolean, (List.replicate 16 0))), .inr (.inl (.int, (List.replicate 16 0))), .inr (.inl (.int, (List.replicate 16 0))), .inr (.inl (.int, (List.replicate 16 0))), .inr (.inl (.int, (List.replicate 16 0))), .inr (.inl (.int, (List.replicate 16 0))), .inr (.inl (.int, (List.replicate 16 0))), .inr (.inr (List.replicate 64 0))]) rfl rfl rfl rfl rfl rfl rfl rfl (tF2 Ad W x1 (2 : Int32) (16 : Int32) hr3) ?_
  refine QTri.steps Ad W 1 (st' := (88, [some (.ref 0), some (.int x1), some (.int x2), some (.int x3), some (.int x4)], [], [.inl [.ref 1, .ref 2, .ref 3, .ref 4, .ref 5, .ref 6, .ref 7, .ref 8, .ref 9, .int r3, .int (f_udpTimeout ob0), .int (f_tcpTimeout ob0), .int (f_cooldown ob0), .int (f_clock ob0), .int (f_remAddr ob0), .int (f_remPort ob0), .int (f_regHost ob0), .int (f_regPort ob0), .int (f_regExt ob0)], .inr (.inl (.boolean, (List.replicate 16 0))), .inr (.inl (.boolean, (List.replicate 16 0))), .inr (.inl (.int, (List.replicate 16 0))), .inr (.inl (.int, (List.replicate 16 0))), .inr (.inl (.int, (List.replicate 16 0))), .inr (.inl (.int, (List.replicate 16 0))), .inr (.inl (.int, (List.replicate 16 0))), .inr (.inl (.int, (List.replicate 16 0))), .inr (.inr (List.replicate 64 0))])) rfl ?_
  refine QTri.steps Ad W 5 (st' := (95, [some (.ref 0), some (.int x1), some (.int x2), some (.int x3), some (.int x4)], [.int (1000 : Int32), .int (1 : Int32), .int x2, .ref 0, .ref 0], [.inl [.ref 1, .ref 2, .ref 3, .ref 4, .ref 5, .ref 6, .ref 7, .ref 8, .ref 9, .int r3, .int (f_udpTimeout ob0), .int (f_tcpTimeout ob0), .int (f_cooldown ob0), .int (f_clock ob0), .int (f_remAddr ob0), .int (f_remPort ob0), .int (f_regHost ob0), .int (f_regPort ob0), .int (f_regExt ob0)], .inr (.inl (.boolean, (List.replicate 16 0))), .inr (.inl (.boolean, (List.replicate 16 0))), .inr (.inl (.int, (List.replicate 16 0))), .inr (.inl (.int, (List.replicate 16 0))), .inr (.inl (.int, (List.replicate 16 0))), .inr (.inl (.int, (List.replicate 16 0))), .inr (.inl (.int, (List.replicate 16 0))), .inr (.inl (.int, (List.replicate 16 0))), .inr (.inr (List.replicate 64 0))])) rfl ?_
  obtain ⟨r4, hr4, h⟩ := Option.bind_eq_some_iff.mp h
  refine QTri.callP W (a := 0) (as := [.int x2, .int (1 : Int32), .int (1000 : Int32)]) (rest := [.ref 0]) (w := (some (.int r4))) (σ₁ := [.inl [.ref 1, .ref 2, .ref 3, .ref 4, .ref 5, .ref 6, .ref 7, .ref 8, .ref 9, .int r3, .int (f_udpTimeout ob0), .int (f_tcpTimeout ob0), .int (f_cooldown ob0), .int (f_clock ob0), .int (f_remAddr ob0), .int (f_remPort ob0), .int (f_regHost ob0), .int (f_regPort ob0), .int (f_regExt ob0)], .inr (.inl (.boolean, (List.replicate 16 0))), .inr (.inl (.boolean, (List.replicate 16 0))), .inr (.inl (.int, (List.replicate 16 0))), .inr (.inl (.int, (List.replicate 16 0))), .inr (.inl (.int, (List.replicate 16 0))), .inr (.inl (.int, (List.replicate 16 0))), .inr (.inl (.int, (List.replicate 16 0))), .inr (.inl (.int, (List.replicate 16 0))), .inr (.inr (List.replicate 64 0))]) rfl rfl rfl rfl rfl rfl rfl rfl (tF2 Ad W x2 (1 : Int32) (1000 : Int32) hr4) ?_
  refine QTri.steps Ad W 1 (st' := (101, [some (.ref 0), some (.int x1), some (.int x2), some (.int x3), some (.int x4)], [], [.inl [.ref 1, .ref 2, .ref 3, .ref 4, .ref 5, .ref 6, .ref 7, .ref 8, .ref 9, .int r3, .int r4, .int (f_tcpTimeout ob0), .int (f_cooldown ob0), .int (f_clock ob0), .int (f_remAddr ob0), .int (f_remPort ob0), .int (f_regHost ob0), .int (f_regPort ob0), .int (f_regExt ob0)], .inr (.inl (.boolean, (List.replicate 16 0))), .inr (.inl (.boolean, (List.replicate 16 0))), .inr (.inl (.int, (List.replicate 16 0))), .inr (.inl (.int, (List.replicate 16 0))), .inr (.inl (.int, (List.replicate 16 0))), .inr (.inl (.int, (List.replicate 16 0))), .inr (.inl (.int, (List.replicate 16 0))), .inr (.inl (.int, (List.replicate 16 0))), .inr (.inr (List.replicate 64 0))])) rfl ?_
  refine QTri.steps Ad W 5 (st' := (108, [some (.ref 0), some (.int x1), some (.int x2), some (.int x3), some (.int x4)], [.int (1000 : Int32), .int (1 : Int32), .int x3, .ref 0, .ref 0], [.inl [.ref 1, .ref 2, .ref 3, .ref 4, .ref 5, .ref 6, .ref 7, .ref 8, .ref 9, .int r3, .int r4, .int (f_tcpTimeout ob0), .int (f_cooldown ob0), .int (f_clock ob0), .int (f_remAddr ob0), .int (f_remPort ob0), .int (f_regHost ob0), .int (f_regPort ob0), .int (f_regExt ob0)], .inr (.inl (.boolean, (List.replicate 16 0))), .inr (.inl (.boolean, (List.replicate 16 0))), .inr (.inl (.int, (List.replicate 16 0))), .inr (.inl (.int, (List.replicate 16 0))), .inr (.inl (.int, (List.replicate 16 0))), .inr (.inl (.int, (List.replicate 16 0))), .inr (.inl (.int, (List.replicate 16 0))), .inr (.inl (.int, (List.replicate 16 0))), .inr (.inr (List.replicate 64 0))])) rfl ?_
  obtain ⟨r5, hr5, h⟩ := Option.bind_eq_some_iff.mp h
  refine QTri.callP W (a := 0) (as := [.int x3, .int (1 : Int32), .int (1000 : Int32)]) (rest := [.ref 0]) (w := (some (.int r5))) (σ₁ := [.inl [.ref 1, .ref 2, .ref 3, .ref 4, .ref 5, .ref 6, .ref 7, .ref 8, .ref 9, .int r3, .int r4, .int (f_tcpTimeout ob0), .int (f_cooldown ob0), .int (f_clock ob0), .int (f_remAddr ob0), .int (f_remPort ob0), .int (f_regHost ob0), .int (f_regPort ob0), .int (f_regExt ob0)], .inr (.inl (.boolean, (List.replicate 16 0))), .inr (.inl (.boolean, (List.replicate 16 0))), .inr (.inl (.int, (List.replicate 16 0))), .inr (.inl (.int, (List.replicate 16 0))), .inr (.inl (.int, (List.replicate 16 0))), .inr (.inl (.int, (List.replicate 16 0))), .inr (.inl (.int, (List.replicate 16 0))), .inr (.inl (.int, (List.replicate 16 0))), .inr (.inr (List.replicate 64 0))]) rfl rfl rfl rfl rfl rfl rfl rfl (tF2 Ad W x3 (1 : Int32) (1000 : Int32) hr5) ?_
  refine QTri.steps Ad W 1 (st' := (114, [some (.ref 0), some (.int x1), some (.int x2), some (.int x3), some (.int x4)], [], [.inl [.ref 1, .ref 2, .ref 3, .ref 4, .ref 5, .ref 6, .ref 7, .ref 8, .ref 9, .int r3, .int r4, .int r5, .int (f_cooldown ob0), .int (f_clock ob0), .int (f_remAddr ob0), .int (f_remPort ob0), .int (f_regHost ob0), .int (f_regPort ob0), .int (f_regExt ob0)], .inr (.inl (.boolean, (List.replicate 16 0))), .inr (.inl (.boolean, (List.replicate 16 0))), .inr (.inl (.int, (List.replicate 16 0))), .inr (.inl (.int, (List.replicate 16 0))), .inr (.inl (.int, (List.replicate 16 0))), .inr (.inl (.int, (List.replicate 16 0))), .inr (.inl (.int, (List.replicate 16 0))), .inr (.inl (.int, (List.replicate 16 0))), .inr (.inr (List.replicate 64 0))])) rfl ?_
  refine QTri.steps Ad W 5 (st' := (122, [some (.ref 0), some (.int x1), some (.int x2), some (.int x3), some (.int x4)], [.int (1000 : Int32), .int (0 : Int32), .int x4, .ref 0, .ref 0], [.inl [.ref 1, .ref 2, .ref 3, .ref 4, .ref 5, .ref 6, .ref 7, .ref 8, .ref 9, .int r3, .int r4, .int r5, .int (f_cooldown ob0), .int (f_clock ob0), .int (f_remAddr ob0), .int (f_remPort ob0), .int (f_regHost ob0), .int (f_regPort ob0), .int (f_regExt ob0)], .inr (.inl (.boolean, (List.replicate 16 0))), .inr (.inl (.boolean, (List.replicate 16 0))), .inr (.inl (.int, (List.replicate 16 0))), .inr (.inl (.int, (List.replicate 16 0))), .inr (.inl (.int, (List.replicate 16 0))), .inr (.inl (.int, (List.replicate 16 0))), .inr (.inl (.int, (List.replicate 16 0))), .inr (.inl (.int, (List.replicate 16 0))), .inr (.inr (List.replicate 64 0))])) rfl ?_
  obtain ⟨r6, hr6, h⟩ := Option.bind_eq_some_iff.mp h
  refine QTri.callP W (a := 0) (as := [.int x4, .int (0 : Int32), .int (1000 : Int32)]) (rest := [.ref 0]) (w := (some (.int r6))) (σ₁ := [.inl [.ref 1, .ref 2, .ref 3, .ref 4, .ref 5, .ref 6, .ref 7, .ref 8, .ref 9, .int r3, .int r4, .int r5, .int (f_cooldown ob0), .int (f_clock ob0), .int (f_remAddr ob0), .int (f_remPort ob0), .int (f_regHost ob0), .int (f_regPort ob0), .int (f_regExt ob0)], .inr (.inl (.boolean, (List.replicate 16 0))), .inr (.inl (.boolean, (List.replicate 16 0))), .inr (.inl (.int, (List.replicate 16 0))), .inr (.inl (.int, (List.replicate 16 0))), .inr (.inl (.int, (List.replicate 16 0))), .inr (.inl (.int, (List.replicate 16 0))), .inr (.inl (.int, (List.replicate 16 0))), .inr (.inl (.int, (List.replicate 16 0))), .inr (.inr (List.replicate 64 0))]) rfl rfl rfl rfl rfl rfl rfl rfl (tF2 Ad W x4 (0 : Int32) (1000 : Int32) hr6) ?_
  refine QTri.steps Ad W 1 (st' := (128, [some (.ref 0), some (.int x1), some (.int x2), some (.int x3), some (.int x4)], [], [.inl [.ref 1, .ref 2, .ref 3, .ref 4, .ref 5, .ref 6, .ref 7, .ref 8, .ref 9, .int r3, .int r4, .int r5, .int r6, .int (f_clock ob0), .int (f_remAddr ob0), .int (f_remPort ob0), .int (f_regHost ob0), .int (f_regPort ob0), .int (f_regExt ob0)], .inr (.inl (.boolean, (List.replicate 16 0))), .inr (.inl (.boolean, (List.replicate 16 0))), .inr (.inl (.int, (List.replicate 16 0))), .inr (.inl (.int, (List.replicate 16 0))), .inr (.inl (.int, (List.replicate 16 0))), .inr (.inl (.int, (List.replicate 16 0))), .inr (.inl (.int, (List.replicate 16 0))), .inr (.inl (.int, (List.replicate 16 0))), .inr (.inr (List.replicate 64 0))])) rfl ?_
  refine QTri.steps Ad W 3 (st' := (133, [some (.ref 0), some (.int x1), some (.int x2), some (.int x3), some (.int x4)], [], [.inl [.ref 1, .ref 2, .ref 3, .ref 4, .ref 5, .ref 6, .ref 7, .ref 8, .ref 9, .int r3, .int r4, .int r5, .int r6, .int (0 : Int32), .int (f_remAddr ob0), .int (f_remPort ob0), .int (f_regHost ob0), .int (f_regPort ob0), .int (f_regExt ob0)], .inr (.inl (.boolean, (List.replicate 16 0))), .inr (.inl (.boolean, (List.replicate 16 0))), .inr (.inl (.int, (List.replicate 16 0))), .inr (.inl (.int, (List.replicate 16 0))), .inr (.inl (.int, (List.replicate 16 0))), .inr (.inl (.int, (List.replicate 16 0))), .inr (.inl (.int, (List.replicate 16 0))), .inr (.inl (.int, (List.replicate 16 0))), .inr (.inr (List.replicate 64 0))])) rfl ?_
  refine QTri.steps Ad W 3 (st' := (138, [some (.ref 0), some (.int x1), some (.int x2), some (.int x3), some (.int x4)], [], [.inl [.ref 1, .ref 2, .ref 3, .ref 4, .ref 5, .ref 6, .ref 7, .ref 8, .ref 9, .int r3, .int r4, .int r5, .int r6, .int (0 : Int32), .int (0 : Int32), .int (f_remPort ob0), .int (f_regHost ob0), .int (f_regPort ob0), .int (f_regExt ob0)], .inr (.inl (.boolean, (List.replicate 16 0))), .inr (.inl (.boolean, (List.replicate 16 0))), .inr (.inl (.int, (List.replicate 16 0))), .inr (.inl (.int, (List.replicate 16 0))), .inr (.inl (.int, (List.replicate 16 0))), .inr (.inl (.int, (List.replicate 16 0))), .inr (.inl (.int, (List.replicate 16 0))), .inr (.inl (.int, (List.replicate 16 0))), .inr (.inr (List.replicate 64 0))])) rfl ?_
  refine QTri.steps Ad W 3 (st' := (143, [some (.ref 0), some (.int x1), some (.int x2), some (.int x3), some (.int x4)], [], [.inl [.ref 1, .ref 2, .ref 3, .ref 4, .ref 5, .ref 6, .ref 7, .ref 8, .ref 9, .int r3, .int r4, .int r5, .int r6, .int (0 : Int32), .int (0 : Int32), .int (0 : Int32), .int (f_regHost ob0), .int (f_regPort ob0), .int (f_regExt ob0)], .inr (.inl (.boolean, (List.replicate 16 0))), .inr (.inl (.boolean, (List.replicate 16 0))), .inr (.inl (.int, (List.replicate 16 0))), .inr (.inl (.int, (List.replicate 16 0))), .inr (.inl (.int, (List.replicate 16 0))), .inr (.inl (.int, (List.replicate 16 0))), .inr (.inl (.int, (List.replicate 16 0))), .inr (.inl (.int, (List.replicate 16 0))), .inr (.inr (List.replicate 64 0))])) rfl ?_
  refine QTri.steps Ad W 3 (st' := (148, [some (.ref 0), some (.int x1), some (.int x2), some (.int x3), some (.int x4)], [], [.inl [.ref 1, .ref 2, .ref 3, .ref 4, .ref 5, .ref 6, .ref 7, .ref 8, .ref 9, .int r3, .int r4, .int r5, .int r6, .int (0 : Int32), .int (0 : Int32), .int (0 : Int32), .int (-1 : Int32), .int (f_regPort ob0), .int (f_regExt ob0)], .inr (.inl (.boolean, (List.replicate 16 0))), .inr (.inl (.boolean, (List.replicate 16 0))), .inr (.inl (.int, (List.replicate 16 0))), .inr (.inl (.int, (List.replicate 16 0))), .inr (.inl (.int, (List.replicate 16 0))), .inr (.inl (.int, (List.replicate 16 0))), .inr (.inl (.int, (List.replicate 16 0))), .inr (.inl (.int, (List.replicate 16 0))), .inr (.inr (List.replicate 64 0))])) rfl ?_
  refine QTri.steps Ad W 3 (st' := (153, [some (.ref 0), some (.int x1), some (.int x2), some (.int x3), some (.int x4)], [], [.inl [.ref 1, .ref 2, .ref 3, .ref 4, .ref 5, .ref 6, .ref 7, .ref 8, .ref 9, .int r3, .int r4, .int r5, .int r6, .int (0 : Int32), .int (0 : Int32), .int (0 : Int32), .int (-1 : Int32), .int (-1 : Int32), .int (f_regExt ob0)], .inr (.inl (.boolean, (List.replicate 16 0))), .inr (.inl (.boolean, (List.replicate 16 0))), .inr (.inl (.int, (List.replicate 16 0))), .inr (.inl (.int, (List.replicate 16 0))), .inr (.inl (.int, (List.replicate 16 0))), .inr (.inl (.int, (List.replicate 16 0))), .inr (.inl (.int, (List.replicate 16 0))), .inr (.inl (.int, (List.replicate 16 0))), .inr (.inr (List.replicate 64 0))])) rfl ?_
  refine QTri.steps Ad W 3 (st' := (158, [some (.ref 0), some (.int x1), some (.int x2), some (.int x3), some (.int x4)], [], [.inl [.ref 1, .ref 2, .ref 3, .ref 4, .ref 5, .ref 6, .ref 7, .ref 8, .ref 9, .int r3, .int r4, .int r5, .int r6, .int (0 : Int32), .int (0 : Int32), .int (0 : Int32), .int (-1 : Int32), .int (-1 : Int32), .int (-1 : Int32)], .inr (.inl (.boolean, (List.replicate 16 0))), .inr (.inl (.boolean, (List.replicate 16 0))), .inr (.inl (.int, (List.replicate 16 0))), .inr (.inl (.int, (List.replicate 16 0))), .inr (.inl (.int, (List.replicate 16 0))), .inr (.inl (.int, (List.replicate 16 0))), .inr (.inl (.int, (List.replicate 16 0))), .inr (.inl (.int, (List.replicate 16 0))), .inr (.inr (List.replicate 64 0))])) rfl ?_
  have E7 : ([.inl [.ref 1, .ref 2, .ref 3, .ref 4, .ref 5, .ref 6, .ref 7, .ref 8, .ref 9, .int r3, .int r4, .int r5, .int r6, .int (0 : Int32), .int (0 : Int32), .int (0 : Int32), .int (-1 : Int32), .int (-1 : Int32), .int (-1 : Int32)], .inr (.inl (.boolean, (List.replicate 16 0))), .inr (.inl (.boolean, (List.replicate 16 0))), .inr (.inl (.int, (List.replicate 16 0))), .inr (.inl (.int, (List.replicate 16 0))), .inr (.inl (.int, (List.replicate 16 0))), .inr (.inl (.int, (List.replicate 16 0))), .inr (.inl (.int, (List.replicate 16 0))), .inr (.inl (.int, (List.replicate 16 0))), .inr (.inr (List.replicate 64 0))] : QHeap) = (H0 (s_regExt (s_regPort (s_regHost (s_remPort (s_remAddr (s_clock (s_cooldown (s_tcpTimeout (s_udpTimeout (s_poolSize (s_perm (s_deadlineAt (s_stateAt (s_iportOf (s_hostOf (s_protoOf (s_freedAt (s_used (s_live ob0 (List.replicate 16 0)) (List.replicate 16 0)) (List.replicate 16 0)) (List.replicate 16 0)) (List.replicate 16 0)) (List.replicate 16 0)) (List.replicate 16 0)) (List.replicate 16 0)) (List.replicate 64 0)) r3) r4) r5) r6) (0 : Int32)) (0 : Int32)) (0 : Int32)) (-1 : Int32)) (-1 : Int32)) (-1 : Int32))) := by dsimp only [H0, f_live, f_used, f_freedAt, f_protoOf, f_hostOf, f_iportOf, f_stateAt, f_deadlineAt, f_perm, f_poolSize, f_udpTimeout, f_tcpTimeout, f_cooldown, f_clock, f_remAddr, f_remPort, f_regHost, f_regPort, f_regExt, s_live, s_used, s_freedAt, s_protoOf, s_hostOf, s_iportOf, s_stateAt, s_deadlineAt, s_perm, s_poolSize, s_udpTimeout, s_tcpTimeout, s_cooldown, s_clock, s_remAddr, s_remPort, s_regHost, s_regPort, s_regExt, ob0]
  rw [E7]
  obtain rfl := Option.some.inj h
  exact QTri.ret0 rfl rfl
/-- slotOf(I)I -/
def F4 (o : Ob) (x1 : Int32) : Option (Int32) :=
  (if x1 < (5000 : Int32) then some (-1 : Int32) else (if x1 < ((5000 : Int32) + (f_poolSize o)) then some (x1 - (5000 : Int32)) else some (-1 : Int32)))
theorem tF4 (Ad : QAd n0 ad) (W : QW Z a0) (o : Ob) (x1 : Int32) {r : Int32} (h : F4 o x1 = some r) : QTri l Z n0 ad 4 (0, qentry [.ref 0, .int x1] (pMaxL 4), [], (H0 o)) (some (Value.int r)) (H0 o) := by
  unfold F4 at h
  refine QTri.steps Ad W 2 (st' := (4, [some (.ref 0), some (.int x1)], [.int (5000 : Int32), .int x1], (H0 o))) rfl ?_
  rcases qite h with ⟨hc17, h⟩ | ⟨hc17, h⟩
  · refine QTri.brT Ad W (t := 19) (f := 7) (L := [some (.ref 0), some (.int x1)]) (S := []) (σ := (H0 o)) rfl (XT.ii_lt_t hc17) ?_
    refine QTri.steps Ad W 1 (st' := (20, [some (.ref 0), some (.int x1)], [.int (-1 : Int32)], (H0 o))) rfl ?_
    obtain rfl := Option.some.inj h
    exact QTri.retI rfl rfl
  · refine QTri.brF Ad W (t := 19) (f := 7) (L := [some (.ref 0), some (.int x1)]) (S := []) (σ := (H0 o)) rfl (XT.ii_lt_f hc17) ?_
    refine QTri.steps Ad W 5 (st' := (16, [some (.ref 0), some (.int x1)], [.int ((5000 : Int32) + (f_poolSize o)), .int x1], (H0 o))) rfl ?_
    rcases qite h with ⟨hc18, h⟩ | ⟨hc18, h⟩
    · refine QTri.brT Ad W (t := 21) (f := 19) (L := [some (.ref 0), some (.int x1)]) (S := []) (σ := (H0 o)) rfl (XT.ii_lt_t hc18) ?_
      refine QTri.steps Ad W 3 (st' := (26, [some (.ref 0), some (.int x1)], [.int (x1 - (5000 : Int32))], (H0 o))) rfl ?_
      obtain rfl := Option.some.inj h
      exact QTri.retI rfl rfl
    · refine QTri.brF Ad W (t := 21) (f := 19) (L := [some (.ref 0), some (.int x1)]) (S := []) (σ := (H0 o)) rfl (XT.ii_lt_f hc18) ?_
      refine QTri.steps Ad W 1 (st' := (20, [some (.ref 0), some (.int x1)], [.int (-1 : Int32)], (H0 o))) rfl ?_
      obtain rfl := Option.some.inj h
      exact QTri.retI rfl rfl
/-- availTime(I)I -/
def F5 (o : Ob) (x1 : Int32) : Option (Int32) :=
  (aget (f_used o) x1).bind fun y23 => (if y23 = (0 : Int32) then some (0 : Int32) else (aget (f_freedAt o) x1).bind fun y25 => some (y25 + (f_cooldown o)))
theorem tF5 (Ad : QAd n0 ad) (W : QW Z a0) (o : Ob) (x1 : Int32) {r : Int32} (h : F5 o x1 = some r) : QTri l Z n0 ad 5 (0, qentry [.ref 0, .int x1] (pMaxL 5), [], (H0 o)) (some (Value.int r)) (H0 o) := by
  unfold F5 at h
  refine QTri.steps Ad W 3 (st' := (5, [some (.ref 0), some (.int x1)], [.int x1, .ref 2], (H0 o))) rfl ?_
  obtain ⟨y23, hy23, h⟩ := Option.bind_eq_some_iff.mp h
  refine QTri.bnd Ad W (f := fun y23 => (6, [some (.ref 0), some (.int x1)], [.int y23], (H0 o))) rfl hy23 ?_
  rcases qite h with ⟨hc24, h⟩ | ⟨hc24, h⟩
  · refine QTri.brF Ad W (t := 11) (f := 9) (L := [some (.ref 0), some (.int x1)]) (S := []) (σ := (H0 o)) rfl (XT.i0_ne_f hc24) ?_
    refine QTri.steps Ad W 1 (st' := (10, [some (.ref 0), some (.int x1)], [.int (0 : Int32)], (H0 o))) rfl ?_
    obtain rfl := Option.some.inj h
    exact QTri.retI rfl rfl
  · refine QTri.brT Ad W (t := 11) (f := 9) (L := [some (.ref 0), some (.int x1)]) (S := []) (σ := (H0 o)) rfl (XT.i0_ne_t hc24) ?_
    refine QTri.steps Ad W 3 (st' := (16, [some (.ref 0), some (.int x1)], [.int x1, .ref 3], (H0 o))) rfl ?_
    obtain ⟨y25, hy25, h⟩ := Option.bind_eq_some_iff.mp h
    refine QTri.bnd Ad W (f := fun y25 => (17, [some (.ref 0), some (.int x1)], [.int y25], (H0 o))) rfl hy25 ?_
    refine QTri.steps Ad W 3 (st' := (22, [some (.ref 0), some (.int x1)], [.int (y25 + (f_cooldown o))], (H0 o))) rfl ?_
    obtain rfl := Option.some.inj h
    exact QTri.retI rfl rfl
/-- availableFrom(I)I -/
def F3 (o : Ob) (x1 : Int32) : Option (Int32) :=
  (F4 o x1).bind fun r19 => (if r19 < (0 : Int32) then some (-1 : Int32) else (aget (f_live o) r19).bind fun y21 => (if y21 = (0 : Int32) then (F5 o r19).bind fun r26 => some r26 else some (-1 : Int32)))
theorem tF3 (Ad : QAd n0 ad) (W : QW Z a0) (o : Ob) (x1 : Int32) {r : Int32} (h : F3 o x1 = some r) : QTri l Z n0 ad 3 (0, qentry [.ref 0, .int x1] (pMaxL 3), [], (H0 o)) (some (Value.int r)) (H0 o) := by
  unfold F3 at h
  refine QTri.steps Ad W 2 (st' := (2, [some (.ref 0), some (.int x1), none], [.int x1, .ref 0], (H0 o))) rfl ?_
  obtain ⟨r19, hr19, h⟩ := Option.bind_eq_some_iff.mp h
  refine QTri.callP W (a := 0) (as := [.int x1]) (rest := []) (w := (some (.int r19))) (σ₁ := (H0 o)) rfl rfl rfl rfl rfl rfl rfl rfl (tF4 Ad W o x1 hr19) ?_
  refine QTri.steps Ad W 2 (st' := (7, [some (.ref 0), some (.int x1), some (.int r19)], [.int r19], (H0 o))) rfl ?_
  rcases qite h with ⟨hc20, h⟩ | ⟨hc20, h⟩
  · refine QTri.brT Ad W (t := 19) (f := 10) (L := [some (.ref 0), some (.int x1), some (.int r19)]) (S := []) (σ := (H0 o)) rfl (XT.i0_lt_t hc20) ?_
    refine QTri.steps Ad W 1 (st' := (20, [some (.ref 0), some (.int x1), some (.int r19)], [.int (-1 : Int32)], (H0 o))) rfl ?_
    obtain rfl := Option.some.inj h
    exact QTri.retI rfl rfl
  · refine QTri.brF Ad W (t := 19) (f := 10) (L := [some (.ref 0), some (.int x1), some (.int r19)]) (S := []) (σ := (H0 o)) rfl (XT.i0_lt_f hc20) ?_
    refine QTri.steps Ad W 3 (st' := (15, [some (.ref 0), some (.int x1), some (.int r19)], [.int r19, .ref 1], (H0 o))) rfl ?_
    obtain ⟨y21, hy21, h⟩ := Option.bind_eq_some_iff.mp h
    refine QTri.bnd Ad W (f := fun y21 => (16, [some (.ref 0), some (.int x1), some (.int r19)], [.int y21], (H0 o))) rfl hy21 ?_
    rcases qite h with ⟨hc22, h⟩ | ⟨hc22, h⟩
    · refine QTri.brT Ad W (t := 21) (f := 19) (L := [some (.ref 0), some (.int x1), some (.int r19)]) (S := []) (σ := (H0 o)) rfl (XT.i0_eq_t hc22) ?_
      refine QTri.steps Ad W 2 (st' := (23, [some (.ref 0), some (.int x1), some (.int r19)], [.int r19, .ref 0], (H0 o))) rfl ?_
      obtain ⟨r26, hr26, h⟩ := Option.bind_eq_some_iff.mp h
      refine QTri.callP W (a := 0) (as := [.int r19]) (rest := []) (w := (some (.int r26))) (σ₁ := (H0 o)) rfl rfl rfl rfl rfl rfl rfl rfl (tF5 Ad W o r19 hr26) ?_
      obtain rfl := Option.some.inj h
      exact QTri.retI rfl rfl
    · refine QTri.brF Ad W (t := 21) (f := 19) (L := [some (.ref 0), some (.int x1), some (.int r19)]) (S := []) (σ := (H0 o)) rfl (XT.i0_eq_f hc22) ?_
      refine QTri.steps Ad W 1 (st' := (20, [some (.ref 0), some (.int x1), some (.int r19)], [.int (-1 : Int32)], (H0 o))) rfl ?_
      obtain rfl := Option.some.inj h
      exact QTri.retI rfl rfl
/-- now()I -/
def F6 (o : Ob) : Option (Int32) :=
  some (f_clock o)
theorem tF6 (Ad : QAd n0 ad) (W : QW Z a0) (o : Ob) {r : Int32} (h : F6 o = some r) : QTri l Z n0 ad 6 (0, qentry [.ref 0] (pMaxL 6), [], (H0 o)) (some (Value.int r)) (H0 o) := by
  unfold F6 at h
  refine QTri.steps Ad W 2 (st' := (4, [some (.ref 0)], [.int (f_clock o)], (H0 o))) rfl ?_
  obtain rfl := Option.some.inj h
  exact QTri.retI rfl rfl
def B7_4 (o : Ob) (v : Int32 × Int32) : Option (((Int32)) ⊕ (Int32 × Int32)) :=
  (if v.2 < (f_poolSize o) then (aget (f_live o) v.2).bind fun y32 => some (.inr ((if y32 = (0 : Int32) then v.1 else (v.1 + (1 : Int32))), (v.2 + (1 : Int32)))) else some (.inl v.1))
theorem tB7_4 (Ad : QAd n0 ad) (W : QW Z a0) (o : Ob) (v : Int32 × Int32) {r : ((Int32)) ⊕ (Int32 × Int32)} {u : Option Value} {τ : QHeap} (h : B7_4 o v = some r) (hx0 : ∀ x : Int32, r = .inl x → u = (some (Value.int x)) ∧ τ = (H0 o)) (hc : ∀ x : Int32 × Int32, r = .inr x → QTri l Z n0 ad 7 (4, [some (.ref 0), some (.int x.1), some (.int x.2)], [], (H0 o)) u τ) : QTri l Z n0 ad 7 (4, [some (.ref 0), some (.int v.1), some (.int v.2)], [], (H0 o)) u τ := by
  unfold B7_4 at h
  refine QTri.steps Ad W 3 (st' := (9, [some (.ref 0), some (.int v.1), some (.int v.2)], [.int (f_poolSize o), .int v.2], (H0 o))) rfl ?_
  rcases qite h with ⟨hc31, h⟩ | ⟨hc31, h⟩
  · refine QTri.brF Ad W (t := 30) (f := 12) (L := [some (.ref 0), some (.int v.1), some (.int v.2)]) (S := []) (σ := (H0 o)) rfl (XT.ii_ge_f hc31) ?_
    refine QTri.steps Ad W 3 (st' := (17, [some (.ref 0), some (.int v.1), some (.int v.2)], [.int v.2, .ref 1], (H0 o))) rfl ?_
    obtain ⟨y32, hy32, h⟩ := Option.bind_eq_some_iff.mp h
    refine QTri.bnd Ad W (f := fun y32 => (18, [some (.ref 0), some (.int v.1), some (.int v.2)], [.int y32], (H0 o))) rfl hy32 ?_
    have K34 : ∀ z33 : Int32, z33 = (if y32 = (0 : Int32) then v.1 else (v.1 + (1 : Int32))) → QTri l Z n0 ad 7 (24, [some (.ref 0), some (.int z33), some (.int v.2)], [], (H0 o)) u τ := by
      intro z33 ez33
      subst ez33
      refine QTri.steps Ad W 2 (st' := (4, [some (.ref 0), some (.int (if y32 = (0 : Int32) then v.1 else (v.1 + (1 : Int32)))), some (.int (v.2 + (1 : Int32)))], [], (H0 o))) rfl ?_
      obtain rfl := Option.some.inj h
      exact QTri.mask [true, true, true] (hc ((if y32 = (0 : Int32) then v.1 else (v.1 + (1 : Int32))), (v.2 + (1 : Int32))) rfl)
    rcases Classical.em (y32 = (0 : Int32)) with hc35 | hc35
    · refine QTri.brT Ad W (t := 24) (f := 21) (L := [some (.ref 0), some (.int v.1), some (.int v.2)]) (S := []) (σ := (H0 o)) rfl (XT.i0_eq_t hc35) ?_
      exact QTri.mask [true, true, true] (K34 _ (if_pos hc35).symm)
    · refine QTri.brF Ad W (t := 24) (f := 21) (L := [some (.ref 0), some (.int v.1), some (.int v.2)]) (S := []) (σ := (H0 o)) rfl (XT.i0_eq_f hc35) ?_
      refine QTri.steps Ad W 1 (st' := (24, [some (.ref 0), some (.int (v.1 + (1 : Int32))), some (.int v.2)], [], (H0 o))) rfl ?_
      exact QTri.mask [true, true, true] (K34 _ (if_neg hc35).symm)
  · refine QTri.brT Ad W (t := 30) (f := 12) (L := [some (.ref 0), some (.int v.1), some (.int v.2)]) (S := []) (σ := (H0 o)) rfl (XT.ii_ge_t hc31) ?_
    refine QTri.steps Ad W 1 (st' := (31, [some (.ref 0), some (.int v.1), some (.int v.2)], [.int v.1], (H0 o))) rfl ?_
    obtain rfl := Option.some.inj h
    obtain ⟨rfl, rfl⟩ := hx0 v.1 rfl
    exact QTri.retI rfl rfl
/-- liveCount()I -/
def F7 (o : Ob) : Option (Int32) :=
  (loopN (B7_4 o) qN ((0 : Int32), (0 : Int32))).bind fun e36 => some e36
theorem tF7 (Ad : QAd n0 ad) (W : QW Z a0) (o : Ob) {r : Int32} (h : F7 o = some r) : QTri l Z n0 ad 7 (0, qentry [.ref 0] (pMaxL 7), [], (H0 o)) (some (Value.int r)) (H0 o) := by
  unfold F7 at h
  refine QTri.steps Ad W 4 (st' := (4, [some (.ref 0), some (.int (0 : Int32)), some (.int (0 : Int32))], [], (H0 o))) rfl ?_
  obtain ⟨e36, he36, h⟩ := Option.bind_eq_some_iff.mp h
  refine QTri.mask [true, true, true] (loopN_tri (B := B7_4 o) (T := fun v => QTri l Z n0 ad 7 (4, [some (.ref 0), some (.int v.1), some (.int v.2)], [], (H0 o)) (some (Value.int r)) (H0 o)) (KE := fun e36a => (some (Value.int r)) = (some (Value.int e36a)) ∧ (H0 o) = (H0 o)) (fun v r hB hE hC => tB7_4 Ad W o v hB (fun x q => hE _ q) (fun x q => hC x q)) qN ((0 : Int32), (0 : Int32)) e36 he36 ?_)
  obtain rfl := Option.some.inj h
  exact ⟨rfl, rfl⟩
/-- resultHost()I -/
def F8 (o : Ob) : Option (Int32) :=
  some (f_regHost o)
theorem tF8 (Ad : QAd n0 ad) (W : QW Z a0) (o : Ob) {r : Int32} (h : F8 o = some r) : QTri l Z n0 ad 8 (0, qentry [.ref 0] (pMaxL 8), [], (H0 o)) (some (Value.int r)) (H0 o) := by
  unfold F8 at h
  refine QTri.steps Ad W 2 (st' := (4, [some (.ref 0)], [.int (f_regHost o)], (H0 o))) rfl ?_
  obtain rfl := Option.some.inj h
  exact QTri.retI rfl rfl
/-- resultPort()I -/
def F9 (o : Ob) : Option (Int32) :=
  some (f_regPort o)
theorem tF9 (Ad : QAd n0 ad) (W : QW Z a0) (o : Ob) {r : Int32} (h : F9 o = some r) : QTri l Z n0 ad 9 (0, qentry [.ref 0] (pMaxL 9), [], (H0 o)) (some (Value.int r)) (H0 o) := by
  unfold F9 at h
  refine QTri.steps Ad W 2 (st' := (4, [some (.ref 0)], [.int (f_regPort o)], (H0 o))) rfl ?_
  obtain rfl := Option.some.inj h
  exact QTri.retI rfl rfl
/-- resultExt()I -/
def F10 (o : Ob) : Option (Int32) :=
  some (f_regExt o)
theorem tF10 (Ad : QAd n0 ad) (W : QW Z a0) (o : Ob) {r : Int32} (h : F10 o = some r) : QTri l Z n0 ad 10 (0, qentry [.ref 0] (pMaxL 10), [], (H0 o)) (some (Value.int r)) (H0 o) := by
  unfold F10 at h
  refine QTri.steps Ad W 2 (st' := (4, [some (.ref 0)], [.int (f_regExt o)], (H0 o))) rfl ?_
  obtain rfl := Option.some.inj h
  exact QTri.retI rfl rfl
/-- the law -/
def F0 (x0 : Int32) (x1 : Int32) (x2 : Int32) (x3 : Int32) (x4 : Int32) : Option (Int32 × QHeap) :=
  (F1 x0 x1 x2 x3).bind fun r8 => (F3 r8 ((5000 : Int32) + x4)).bind fun r27 => (if r27 = (if ((5000 : Int32) + x4) < (5000 : Int32) then (-1 : Int32) else (if ((5000 : Int32) + x4) < ((5000 : Int32) + (if x0 < (2 : Int32) then (2 : Int32) else (if (16 : Int32) < x0 then (16 : Int32) else x0))) then (0 : Int32) else (-1 : Int32))) then (F6 r8).bind fun r29 => (if r29 = (0 : Int32) then (F7 r8).bind fun r37 => (if r37 = (0 : Int32) then (F8 r8).bind fun r39 => (if r39 = (-1 : Int32) then (F9 r8).bind fun r41 => (if r41 = (-1 : Int32) then (F10 r8).bind fun r43 => (if r43 = (-1 : Int32) then some ((1 : Int32), (H0 r8)) else some ((0 : Int32), (H0 r8))) else some ((0 : Int32), (H0 r8))) else some ((0 : Int32), (H0 r8))) else some ((0 : Int32), (H0 r8))) else some ((0 : Int32), (H0 r8))) else some ((0 : Int32), (H0 r8)))
theorem tF0 (Ad : QAd n0 ad) (W : QW Z a0) (x0 : Int32) (x1 : Int32) (x2 : Int32) (x3 : Int32) (x4 : Int32) {r : Int32 × QHeap} (h : F0 x0 x1 x2 x3 x4 = some r) : QTri l Z n0 ad 0 (0, qentry [.int x0, .int x1, .int x2, .int x3, .int x4] (pMaxL 0), [], []) (some (Value.int r.1)) r.2 := by
  unfold F0 at h
  refine QTri.steps Ad W 1 (st' := (3, [some (.int x0), some (.int x1), some (.int x2), some (.int x3), some (.int x4), none, none, none, none], [.ref 0], [.inl [.null, .null, .null, .null, .null, .null, .null, .null, .null, .int (f_poolSize ob0), .int (f_udpTimeout ob0), .int (f_tcpTimeout ob0), .int (f_cooldown ob0), .int (f_clock ob0), .int (f_remAddr ob0), .int (f_remPort ob0), .int (f_regHost ob0), .int (f_regPort ob0), .int (f_regExt ob0)]])) rfl ?_
  refine QTri.steps Ad W 5 (st' := (8, [some (.int x0), some (.int x1), some (.int x2), some (.int x3), some (.int x4), none, none, none, none], [.int x3, .int x2, .int x1, .int x0, .ref 0, .ref 0], [.inl [.null, .null, .null, .null, .null, .null, .null, .null, .null, .int (f_poolSize ob0), .int (f_udpTimeout ob0), .int (f_tcpTimeout ob0), .int (f_cooldown ob0), .int (f_clock ob0), .int (f_remAddr ob0), .int (f_remPort ob0), .int (f_regHost ob0), .int (f_regPort ob0), .int (f_regExt ob0)]])) rfl ?_
  obtain ⟨r8, hr8, h⟩ := Option.bind_eq_some_iff.mp h
  refine QTri.callI W (a := 0) (as := [.int x0, .int x1, .int x2, .int x3]) (rest := [.ref 0]) (σ₁ := (H0 r8)) rfl rfl rfl rfl rfl rfl (tF1 Ad W x0 x1 x2 x3 hr8) ?_
  refine QTri.steps Ad W 3 (st' := (15, [some (.int x0), some (.int x1), some (.int x2), some (.int x3), some (.int x4), some (.ref 0), none, none, none], [.int (2 : Int32), .int x0], (H0 r8))) rfl ?_
  have K10 : ∀ z9 : Int32, z9 = (if x0 < (2 : Int32) then (2 : Int32) else (if (16 : Int32) < x0 then (16 : Int32) else x0)) → QTri l Z n0 ad 0 (34, [none, none, none, none, some (.int x4), some (.ref 0), none, none, none], [.int z9], (H0 r8)) (some (Value.int r.1)) r.2 := by
    intro z9 ez9
    subst ez9
    refine QTri.steps Ad W 7 (st' := (49, [none, none, none, none, some (.int x4), some (.ref 0), some (.int (if x0 < (2 : Int32) then (2 : Int32) else (if (16 : Int32) < x0 then (16 : Int32) else x0))), some (.int ((5000 : Int32) + x4)), none], [.int (5000 : Int32), .int ((5000 : Int32) + x4)], (H0 r8))) rfl ?_
    have K14 : ∀ z13 : Int32, z13 = (if ((5000 : Int32) + x4) < (5000 : Int32) then (-1 : Int32) else (if ((5000 : Int32) + x4) < ((5000 : Int32) + (if x0 < (2 : Int32) then (2 : Int32) else (if (16 : Int32) < x0 then (16 : Int32) else x0))) then (0 : Int32) else (-1 : Int32))) → QTri l Z n0 ad 0 (68, [none, none, none, none, none, some (.ref 0), none, some (.int ((5000 : Int32) + x4)), none], [.int z13], (H0 r8)) (some (Value.int r.1)) r.2 := by
      intro z13 ez13
      subst ez13
      refine QTri.steps Ad W 3 (st' := (74, [none, none, none, none, none, some (.ref 0), none, some (.int ((5000 : Int32) + x4)), some (.int (if ((5000 : Int32) + x4) < (5000 : Int32) then (-1 : Int32) else (if ((5000 : Int32) + x4) < ((5000 : Int32) + (if x0 < (2 : Int32) then (2 : Int32) else (if (16 : Int32) < x0 then (16 : Int32) else x0))) then (0 : Int32) else (-1 : Int32))))], [.int ((5000 : Int32) + x4), .ref 0], (H0 r8))) rfl ?_
      obtain ⟨r27, hr27, h⟩ := Option.bind_eq_some_iff.mp h
      refine QTri.callV W (a := 0) (as := [.int ((5000 : Int32) + x4)]) (rest := []) (w := (some (.int r27))) (σ₁ := (H0 r8)) rfl rfl rfl rfl rfl rfl rfl rfl (tF3 Ad W r8 ((5000 : Int32) + x4) hr27) ?_
      refine QTri.steps Ad W 1 (st' := (79, [none, none, none, none, none, some (.ref 0), none, some (.int ((5000 : Int32) + x4)), some (.int (if ((5000 : Int32) + x4) < (5000 : Int32) then (-1 : Int32) else (if ((5000 : Int32) + x4) < ((5000 : Int32) + (if x0 < (2 : Int32) then (2 : Int32) else (if (16 : Int32) < x0 then (16 : Int32) else x0))) then (0 : Int32) else (-1 : Int32))))], [.int (if ((5000 : Int32) + x4) < (5000 : Int32) then (-1 : Int32) else (if ((5000 : Int32) + x4) < ((5000 : Int32) + (if x0 < (2 : Int32) then (2 : Int32) else (if (16 : Int32) < x0 then (16 : Int32) else x0))) then (0 : Int32) else (-1 : Int32))), .int r27], (H0 r8))) rfl ?_
      rcases qite h with ⟨hc28, h⟩ | ⟨hc28, h⟩
      · refine QTri.brT Ad W (t := 84) (f := 82) (L := [none, none, none, none, none, some (.ref 0), none, some (.int ((5000 : Int32) + x4)), some (.int (if ((5000 : Int32) + x4) < (5000 : Int32) then (-1 : Int32) else (if ((5000 : Int32) + x4) < ((5000 : Int32) + (if x0 < (2 : Int32) then (2 : Int32) else (if (16 : Int32) < x0 then (16 : Int32) else x0))) then (0 : Int32) else (-1 : Int32))))]) (S := []) (σ := (H0 r8)) rfl (XT.ii_eq_t hc28) ?_
        refine QTri.steps Ad W 1 (st' := (86, [none, none, none, none, none, some (.ref 0), none, some (.int ((5000 : Int32) + x4)), some (.int (if ((5000 : Int32) + x4) < (5000 : Int32) then (-1 : Int32) else (if ((5000 : Int32) + x4) < ((5000 : Int32) + (if x0 < (2 : Int32) then (2 : Int32) else (if (16 : Int32) < x0 then (16 : Int32) else x0))) then (0 : Int32) else (-1 : Int32))))], [.ref 0], (H0 r8))) rfl ?_
        obtain ⟨r29, hr29, h⟩ := Option.bind_eq_some_iff.mp h
        refine QTri.callV W (a := 0) (as := []) (rest := []) (w := (some (.int r29))) (σ₁ := (H0 r8)) rfl rfl rfl rfl rfl rfl rfl rfl (tF6 Ad W r8 hr29) ?_
        rcases qite h with ⟨hc30, h⟩ | ⟨hc30, h⟩
        · refine QTri.brT Ad W (t := 94) (f := 92) (L := [none, none, none, none, none, some (.ref 0), none, some (.int ((5000 : Int32) + x4)), some (.int (if ((5000 : Int32) + x4) < (5000 : Int32) then (-1 : Int32) else (if ((5000 : Int32) + x4) < ((5000 : Int32) + (if x0 < (2 : Int32) then (2 : Int32) else (if (16 : Int32) < x0 then (16 : Int32) else x0))) then (0 : Int32) else (-1 : Int32))))]) (S := []) (σ := (H0 r8)) rfl (XT.i0_eq_t hc30) ?_
          refine QTri.steps Ad W 1 (st' := (96, [none, none, none, none, none, some (.ref 0), none, some (.int ((5000 : Int32) + x4)), some (.int (if ((5000 : Int32) + x4) < (5000 : Int32) then (-1 : Int32) else (if ((5000 : Int32) + x4) < ((5000 : Int32) + (if x0 < (2 : Int32) then (2 : Int32) else (if (16 : Int32) < x0 then (16 : Int32) else x0))) then (0 : Int32) else (-1 : Int32))))], [.ref 0], (H0 r8))) rfl ?_
          obtain ⟨r37, hr37, h⟩ := Option.bind_eq_some_iff.mp h
          refine QTri.callV W (a := 0) (as := []) (rest := []) (w := (some (.int r37))) (σ₁ := (H0 r8)) rfl rfl rfl rfl rfl rfl rfl rfl (tF7 Ad W r8 hr37) ?_
          rcases qite h with ⟨hc38, h⟩ | ⟨hc38, h⟩
          · refine QTri.brT Ad W (t := 104) (f := 102) (L := [none, none, none, none, none, some (.ref 0), none, some (.int ((5000 : Int32) + x4)), some (.int (if ((5000 : Int32) + x4) < (5000 : Int32) then (-1 : Int32) else (if ((5000 : Int32) + x4) < ((5000 : Int32) + (if x0 < (2 : Int32) then (2 : Int32) else (if (16 : Int32) < x0 then (16 : Int32) else x0))) then (0 : Int32) else (-1 : Int32))))]) (S := []) (σ := (H0 r8)) rfl (XT.i0_eq_t hc38) ?_
            refine QTri.steps Ad W 1 (st' := (106, [none, none, none, none, none, some (.ref 0), none, some (.int ((5000 : Int32) + x4)), some (.int (if ((5000 : Int32) + x4) < (5000 : Int32) then (-1 : Int32) else (if ((5000 : Int32) + x4) < ((5000 : Int32) + (if x0 < (2 : Int32) then (2 : Int32) else (if (16 : Int32) < x0 then (16 : Int32) else x0))) then (0 : Int32) else (-1 : Int32))))], [.ref 0], (H0 r8))) rfl ?_
            obtain ⟨r39, hr39, h⟩ := Option.bind_eq_some_iff.mp h
            refine QTri.callV W (a := 0) (as := []) (rest := []) (w := (some (.int r39))) (σ₁ := (H0 r8)) rfl rfl rfl rfl rfl rfl rfl rfl (tF8 Ad W r8 hr39) ?_
            refine QTri.steps Ad W 1 (st' := (110, [none, none, none, none, none, some (.ref 0), none, some (.int ((5000 : Int32) + x4)), some (.int (if ((5000 : Int32) + x4) < (5000 : Int32) then (-1 : Int32) else (if ((5000 : Int32) + x4) < ((5000 : Int32) + (if x0 < (2 : Int32) then (2 : Int32) else (if (16 : Int32) < x0 then (16 : Int32) else x0))) then (0 : Int32) else (-1 : Int32))))], [.int (-1 : Int32), .int r39], (H0 r8))) rfl ?_
            rcases qite h with ⟨hc40, h⟩ | ⟨hc40, h⟩
            · refine QTri.brT Ad W (t := 115) (f := 113) (L := [none, none, none, none, none, some (.ref 0), none, some (.int ((5000 : Int32) + x4)), some (.int (if ((5000 : Int32) + x4) < (5000 : Int32) then (-1 : Int32) else (if ((5000 : Int32) + x4) < ((5000 : Int32) + (if x0 < (2 : Int32) then (2 : Int32) else (if (16 : Int32) < x0 then (16 : Int32) else x0))) then (0 : Int32) else (-1 : Int32))))]) (S := []) (σ := (H0 r8)) rfl (XT.ii_eq_t hc40) ?_
              refine QTri.steps Ad W 1 (st' := (117, [none, none, none, none, none, some (.ref 0), none, some (.int ((5000 : Int32) + x4)), some (.int (if ((5000 : Int32) + x4) < (5000 : Int32) then (-1 : Int32) else (if ((5000 : Int32) + x4) < ((5000 : Int32) + (if x0 < (2 : Int32) then (2 : Int32) else (if (16 : Int32) < x0 then (16 : Int32) else x0))) then (0 : Int32) else (-1 : Int32))))], [.ref 0], (H0 r8))) rfl ?_
              obtain ⟨r41, hr41, h⟩ := Option.bind_eq_some_iff.mp h
              refine QTri.callV W (a := 0) (as := []) (rest := []) (w := (some (.int r41))) (σ₁ := (H0 r8)) rfl rfl rfl rfl rfl rfl rfl rfl (tF9 Ad W r8 hr41) ?_
              refine QTri.steps Ad W 1 (st' := (121, [none, none, none, none, none, some (.ref 0), none, some (.int ((5000 : Int32) + x4)), some (.int (if ((5000 : Int32) + x4) < (5000 : Int32) then (-1 : Int32) else (if ((5000 : Int32) + x4) < ((5000 : Int32) + (if x0 < (2 : Int32) then (2 : Int32) else (if (16 : Int32) < x0 then (16 : Int32) else x0))) then (0 : Int32) else (-1 : Int32))))], [.int (-1 : Int32), .int r41], (H0 r8))) rfl ?_
              rcases qite h with ⟨hc42, h⟩ | ⟨hc42, h⟩
              · refine QTri.brT Ad W (t := 126) (f := 124) (L := [none, none, none, none, none, some (.ref 0), none, some (.int ((5000 : Int32) + x4)), some (.int (if ((5000 : Int32) + x4) < (5000 : Int32) then (-1 : Int32) else (if ((5000 : Int32) + x4) < ((5000 : Int32) + (if x0 < (2 : Int32) then (2 : Int32) else (if (16 : Int32) < x0 then (16 : Int32) else x0))) then (0 : Int32) else (-1 : Int32))))]) (S := []) (σ := (H0 r8)) rfl (XT.ii_eq_t hc42) ?_
                refine QTri.steps Ad W 1 (st' := (128, [none, none, none, none, none, some (.ref 0), none, some (.int ((5000 : Int32) + x4)), some (.int (if ((5000 : Int32) + x4) < (5000 : Int32) then (-1 : Int32) else (if ((5000 : Int32) + x4) < ((5000 : Int32) + (if x0 < (2 : Int32) then (2 : Int32) else (if (16 : Int32) < x0 then (16 : Int32) else x0))) then (0 : Int32) else (-1 : Int32))))], [.ref 0], (H0 r8))) rfl ?_
                obtain ⟨r43, hr43, h⟩ := Option.bind_eq_some_iff.mp h
                refine QTri.callV W (a := 0) (as := []) (rest := []) (w := (some (.int r43))) (σ₁ := (H0 r8)) rfl rfl rfl rfl rfl rfl rfl rfl (tF10 Ad W r8 hr43) ?_
                refine QTri.steps Ad W 1 (st' := (132, [none, none, none, none, none, some (.ref 0), none, some (.int ((5000 : Int32) + x4)), some (.int (if ((5000 : Int32) + x4) < (5000 : Int32) then (-1 : Int32) else (if ((5000 : Int32) + x4) < ((5000 : Int32) + (if x0 < (2 : Int32) then (2 : Int32) else (if (16 : Int32) < x0 then (16 : Int32) else x0))) then (0 : Int32) else (-1 : Int32))))], [.int (-1 : Int32), .int r43], (H0 r8))) rfl ?_
                rcases qite h with ⟨hc44, h⟩ | ⟨hc44, h⟩
                · refine QTri.brT Ad W (t := 137) (f := 135) (L := [none, none, none, none, none, some (.ref 0), none, some (.int ((5000 : Int32) + x4)), some (.int (if ((5000 : Int32) + x4) < (5000 : Int32) then (-1 : Int32) else (if ((5000 : Int32) + x4) < ((5000 : Int32) + (if x0 < (2 : Int32) then (2 : Int32) else (if (16 : Int32) < x0 then (16 : Int32) else x0))) then (0 : Int32) else (-1 : Int32))))]) (S := []) (σ := (H0 r8)) rfl (XT.ii_eq_t hc44) ?_
                  refine QTri.steps Ad W 1 (st' := (138, [none, none, none, none, none, some (.ref 0), none, some (.int ((5000 : Int32) + x4)), some (.int (if ((5000 : Int32) + x4) < (5000 : Int32) then (-1 : Int32) else (if ((5000 : Int32) + x4) < ((5000 : Int32) + (if x0 < (2 : Int32) then (2 : Int32) else (if (16 : Int32) < x0 then (16 : Int32) else x0))) then (0 : Int32) else (-1 : Int32))))], [.int (1 : Int32)], (H0 r8))) rfl ?_
                  obtain rfl := Option.some.inj h
                  exact QTri.retZ rfl rfl
                · refine QTri.brF Ad W (t := 137) (f := 135) (L := [none, none, none, none, none, some (.ref 0), none, some (.int ((5000 : Int32) + x4)), some (.int (if ((5000 : Int32) + x4) < (5000 : Int32) then (-1 : Int32) else (if ((5000 : Int32) + x4) < ((5000 : Int32) + (if x0 < (2 : Int32) then (2 : Int32) else (if (16 : Int32) < x0 then (16 : Int32) else x0))) then (0 : Int32) else (-1 : Int32))))]) (S := []) (σ := (H0 r8)) rfl (XT.ii_eq_f hc44) ?_
                  refine QTri.steps Ad W 1 (st' := (136, [none, none, none, none, none, some (.ref 0), none, some (.int ((5000 : Int32) + x4)), some (.int (if ((5000 : Int32) + x4) < (5000 : Int32) then (-1 : Int32) else (if ((5000 : Int32) + x4) < ((5000 : Int32) + (if x0 < (2 : Int32) then (2 : Int32) else (if (16 : Int32) < x0 then (16 : Int32) else x0))) then (0 : Int32) else (-1 : Int32))))], [.int (0 : Int32)], (H0 r8))) rfl ?_
                  obtain rfl := Option.some.inj h
                  exact QTri.retZ rfl rfl
              · refine QTri.brF Ad W (t := 126) (f := 124) (L := [none, none, none, none, none, some (.ref 0), none, some (.int ((5000 : Int32) + x4)), some (.int (if ((5000 : Int32) + x4) < (5000 : Int32) then (-1 : Int32) else (if ((5000 : Int32) + x4) < ((5000 : Int32) + (if x0 < (2 : Int32) then (2 : Int32) else (if (16 : Int32) < x0 then (16 : Int32) else x0))) then (0 : Int32) else (-1 : Int32))))]) (S := []) (σ := (H0 r8)) rfl (XT.ii_eq_f hc42) ?_
                refine QTri.steps Ad W 1 (st' := (125, [none, none, none, none, none, some (.ref 0), none, some (.int ((5000 : Int32) + x4)), some (.int (if ((5000 : Int32) + x4) < (5000 : Int32) then (-1 : Int32) else (if ((5000 : Int32) + x4) < ((5000 : Int32) + (if x0 < (2 : Int32) then (2 : Int32) else (if (16 : Int32) < x0 then (16 : Int32) else x0))) then (0 : Int32) else (-1 : Int32))))], [.int (0 : Int32)], (H0 r8))) rfl ?_
                obtain rfl := Option.some.inj h
                exact QTri.retZ rfl rfl
            · refine QTri.brF Ad W (t := 115) (f := 113) (L := [none, none, none, none, none, some (.ref 0), none, some (.int ((5000 : Int32) + x4)), some (.int (if ((5000 : Int32) + x4) < (5000 : Int32) then (-1 : Int32) else (if ((5000 : Int32) + x4) < ((5000 : Int32) + (if x0 < (2 : Int32) then (2 : Int32) else (if (16 : Int32) < x0 then (16 : Int32) else x0))) then (0 : Int32) else (-1 : Int32))))]) (S := []) (σ := (H0 r8)) rfl (XT.ii_eq_f hc40) ?_
              refine QTri.steps Ad W 1 (st' := (114, [none, none, none, none, none, some (.ref 0), none, some (.int ((5000 : Int32) + x4)), some (.int (if ((5000 : Int32) + x4) < (5000 : Int32) then (-1 : Int32) else (if ((5000 : Int32) + x4) < ((5000 : Int32) + (if x0 < (2 : Int32) then (2 : Int32) else (if (16 : Int32) < x0 then (16 : Int32) else x0))) then (0 : Int32) else (-1 : Int32))))], [.int (0 : Int32)], (H0 r8))) rfl ?_
              obtain rfl := Option.some.inj h
              exact QTri.retZ rfl rfl
          · refine QTri.brF Ad W (t := 104) (f := 102) (L := [none, none, none, none, none, some (.ref 0), none, some (.int ((5000 : Int32) + x4)), some (.int (if ((5000 : Int32) + x4) < (5000 : Int32) then (-1 : Int32) else (if ((5000 : Int32) + x4) < ((5000 : Int32) + (if x0 < (2 : Int32) then (2 : Int32) else (if (16 : Int32) < x0 then (16 : Int32) else x0))) then (0 : Int32) else (-1 : Int32))))]) (S := []) (σ := (H0 r8)) rfl (XT.i0_eq_f hc38) ?_
            refine QTri.steps Ad W 1 (st' := (103, [none, none, none, none, none, some (.ref 0), none, some (.int ((5000 : Int32) + x4)), some (.int (if ((5000 : Int32) + x4) < (5000 : Int32) then (-1 : Int32) else (if ((5000 : Int32) + x4) < ((5000 : Int32) + (if x0 < (2 : Int32) then (2 : Int32) else (if (16 : Int32) < x0 then (16 : Int32) else x0))) then (0 : Int32) else (-1 : Int32))))], [.int (0 : Int32)], (H0 r8))) rfl ?_
            obtain rfl := Option.some.inj h
            exact QTri.retZ rfl rfl
        · refine QTri.brF Ad W (t := 94) (f := 92) (L := [none, none, none, none, none, some (.ref 0), none, some (.int ((5000 : Int32) + x4)), some (.int (if ((5000 : Int32) + x4) < (5000 : Int32) then (-1 : Int32) else (if ((5000 : Int32) + x4) < ((5000 : Int32) + (if x0 < (2 : Int32) then (2 : Int32) else (if (16 : Int32) < x0 then (16 : Int32) else x0))) then (0 : Int32) else (-1 : Int32))))]) (S := []) (σ := (H0 r8)) rfl (XT.i0_eq_f hc30) ?_
          refine QTri.steps Ad W 1 (st' := (93, [none, none, none, none, none, some (.ref 0), none, some (.int ((5000 : Int32) + x4)), some (.int (if ((5000 : Int32) + x4) < (5000 : Int32) then (-1 : Int32) else (if ((5000 : Int32) + x4) < ((5000 : Int32) + (if x0 < (2 : Int32) then (2 : Int32) else (if (16 : Int32) < x0 then (16 : Int32) else x0))) then (0 : Int32) else (-1 : Int32))))], [.int (0 : Int32)], (H0 r8))) rfl ?_
          obtain rfl := Option.some.inj h
          exact QTri.retZ rfl rfl
      · refine QTri.brF Ad W (t := 84) (f := 82) (L := [none, none, none, none, none, some (.ref 0), none, some (.int ((5000 : Int32) + x4)), some (.int (if ((5000 : Int32) + x4) < (5000 : Int32) then (-1 : Int32) else (if ((5000 : Int32) + x4) < ((5000 : Int32) + (if x0 < (2 : Int32) then (2 : Int32) else (if (16 : Int32) < x0 then (16 : Int32) else x0))) then (0 : Int32) else (-1 : Int32))))]) (S := []) (σ := (H0 r8)) rfl (XT.ii_eq_f hc28) ?_
        refine QTri.steps Ad W 1 (st' := (83, [none, none, none, none, none, some (.ref 0), none, some (.int ((5000 : Int32) + x4)), some (.int (if ((5000 : Int32) + x4) < (5000 : Int32) then (-1 : Int32) else (if ((5000 : Int32) + x4) < ((5000 : Int32) + (if x0 < (2 : Int32) then (2 : Int32) else (if (16 : Int32) < x0 then (16 : Int32) else x0))) then (0 : Int32) else (-1 : Int32))))], [.int (0 : Int32)], (H0 r8))) rfl ?_
        obtain rfl := Option.some.inj h
        exact QTri.retZ rfl rfl
    rcases Classical.em (((5000 : Int32) + x4) < (5000 : Int32)) with hc15 | hc15
    · refine QTri.brT Ad W (t := 67) (f := 52) (L := [none, none, none, none, some (.int x4), some (.ref 0), some (.int (if x0 < (2 : Int32) then (2 : Int32) else (if (16 : Int32) < x0 then (16 : Int32) else x0))), some (.int ((5000 : Int32) + x4)), none]) (S := []) (σ := (H0 r8)) rfl (XT.ii_lt_t hc15) ?_
      refine QTri.steps Ad W 1 (st' := (68, [none, none, none, none, some (.int x4), some (.ref 0), some (.int (if x0 < (2 : Int32) then (2 : Int32) else (if (16 : Int32) < x0 then (16 : Int32) else x0))), some (.int ((5000 : Int32) + x4)), none], [.int (-1 : Int32)], (H0 r8))) rfl ?_
      exact QTri.mask [false, false, false, false, false, true, false, true, false] (K14 _ (if_pos hc15).symm)
    · refine QTri.brF Ad W (t := 67) (f := 52) (L := [none, none, none, none, some (.int x4), some (.ref 0), some (.int (if x0 < (2 : Int32) then (2 : Int32) else (if (16 : Int32) < x0 then (16 : Int32) else x0))), some (.int ((5000 : Int32) + x4)), none]) (S := []) (σ := (H0 r8)) rfl (XT.ii_lt_f hc15) ?_
      refine QTri.steps Ad W 4 (st' := (60, [none, none, none, none, some (.int x4), some (.ref 0), some (.int (if x0 < (2 : Int32) then (2 : Int32) else (if (16 : Int32) < x0 then (16 : Int32) else x0))), some (.int ((5000 : Int32) + x4)), none], [.int ((5000 : Int32) + (if x0 < (2 : Int32) then (2 : Int32) else (if (16 : Int32) < x0 then (16 : Int32) else x0))), .int ((5000 : Int32) + x4)], (H0 r8))) rfl ?_
      rcases Classical.em (((5000 : Int32) + x4) < ((5000 : Int32) + (if x0 < (2 : Int32) then (2 : Int32) else (if (16 : Int32) < x0 then (16 : Int32) else x0)))) with hc16 | hc16
      · refine QTri.brF Ad W (t := 67) (f := 63) (L := [none, none, none, none, some (.int x4), some (.ref 0), some (.int (if x0 < (2 : Int32) then (2 : Int32) else (if (16 : Int32) < x0 then (16 : Int32) else x0))), some (.int ((5000 : Int32) + x4)), none]) (S := []) (σ := (H0 r8)) rfl (XT.ii_ge_f hc16) ?_
        refine QTri.steps Ad W 2 (st' := (68, [none, none, none, none, some (.int x4), some (.ref 0), some (.int (if x0 < (2 : Int32) then (2 : Int32) else (if (16 : Int32) < x0 then (16 : Int32) else x0))), some (.int ((5000 : Int32) + x4)), none], [.int (0 : Int32)], (H0 r8))) rfl ?_
        exact QTri.mask [false, false, false, false, false, true, false, true, false] (K14 _ ((if_neg hc15).trans (if_pos hc16)).symm)
      · refine QTri.brT Ad W (t := 67) (f := 63) (L := [none, none, none, none, some (.int x4), some (.ref 0), some (.int (if x0 < (2 : Int32) then (2 : Int32) else (if (16 : Int32) < x0 then (16 : Int32) else x0))), some (.int ((5000 : Int32) + x4)), none]) (S := []) (σ := (H0 r8)) rfl (XT.ii_ge_t hc16) ?_
        refine QTri.steps Ad W 1 (st' := (68, [none, none, none, none, some (.int x4), some (.ref 0), some (.int (if x0 < (2 : Int32) then (2 : Int32) else (if (16 : Int32) < x0 then (16 : Int32) else x0))), some (.int ((5000 : Int32) + x4)), none], [.int (-1 : Int32)], (H0 r8))) rfl ?_
        exact QTri.mask [false, false, false, false, false, true, false, true, false] (K14 _ ((if_neg hc15).trans (if_neg hc16)).symm)
  rcases Classical.em (x0 < (2 : Int32)) with hc11 | hc11
  · refine QTri.brF Ad W (t := 22) (f := 18) (L := [some (.int x0), some (.int x1), some (.int x2), some (.int x3), some (.int x4), some (.ref 0), none, none, none]) (S := []) (σ := (H0 r8)) rfl (XT.ii_ge_f hc11) ?_
    refine QTri.steps Ad W 2 (st' := (34, [some (.int x0), some (.int x1), some (.int x2), some (.int x3), some (.int x4), some (.ref 0), none, none, none], [.int (2 : Int32)], (H0 r8))) rfl ?_
    exact QTri.mask [false, false, false, false, true, true, false, false, false] (K10 _ (if_pos hc11).symm)
  · refine QTri.brT Ad W (t := 22) (f := 18) (L := [some (.int x0), some (.int x1), some (.int x2), some (.int x3), some (.int x4), some (.ref 0), none, none, none]) (S := []) (σ := (H0 r8)) rfl (XT.ii_ge_t hc11) ?_
    refine QTri.steps Ad W 2 (st' := (25, [some (.int x0), some (.int x1), some (.int x2), some (.int x3), some (.int x4), some (.ref 0), none, none, none], [.int (16 : Int32), .int x0], (H0 r8))) rfl ?_
    rcases Classical.em ((16 : Int32) < x0) with hc12 | hc12
    · refine QTri.brF Ad W (t := 33) (f := 28) (L := [some (.int x0), some (.int x1), some (.int x2), some (.int x3), some (.int x4), some (.ref 0), none, none, none]) (S := []) (σ := (H0 r8)) rfl (XT.ii_le_f hc12) ?_
      refine QTri.steps Ad W 2 (st' := (34, [some (.int x0), some (.int x1), some (.int x2), some (.int x3), some (.int x4), some (.ref 0), none, none, none], [.int (16 : Int32)], (H0 r8))) rfl ?_
      exact QTri.mask [false, false, false, false, true, true, false, false, false] (K10 _ ((if_neg hc11).trans (if_pos hc12)).symm)
    · refine QTri.brT Ad W (t := 33) (f := 28) (L := [some (.int x0), some (.int x1), some (.int x2), some (.int x3), some (.int x4), some (.ref 0), none, none, none]) (S := []) (σ := (H0 r8)) rfl (XT.ii_le_t hc12) ?_
      refine QTri.steps Ad W 1 (st' := (34, [some (.int x0), some (.int x1), some (.int x2), some (.int x3), some (.int x4), some (.ref 0), none, none, none], [.int x0], (H0 r8))) rfl ?_
      exact QTri.mask [false, false, false, false, true, true, false, false, false] (K10 _ ((if_neg hc11).trans (if_neg hc12)).symm)
end Walks
/-! ## ints, plainly -/
theorem i_lt {x y : Int32} : x < y ↔ x.toInt < y.toInt := Int32.lt_iff_toInt_lt
theorem i_eq {x y : Int32} : x = y ↔ x.toInt = y.toInt := Int32.toInt_inj.symm
theorem i_lo (x : Int32) : -2147483648 ≤ x.toInt := Int32.le_toInt x
theorem i_hi (x : Int32) : x.toInt < 2147483648 := Int32.toInt_lt x
theorem i_add {x y : Int32} (h1 : -2147483648 ≤ x.toInt + y.toInt) (h2 : x.toInt + y.toInt < 2147483648) : (x + y).toInt = x.toInt + y.toInt := XT.add32 ⟨h1, by omega⟩
theorem i_sub {x y : Int32} (h1 : -2147483648 ≤ x.toInt - y.toInt) (h2 : x.toInt - y.toInt < 2147483648) : (x - y).toInt = x.toInt - y.toInt := XT.sub32 ⟨h1, by omega⟩
theorem i_mul {x y : Int32} (h1 : -2147483648 ≤ x.toInt * y.toInt) (h2 : x.toInt * y.toInt < 2147483648) : (x * y).toInt = x.toInt * y.toInt := XT.mul32 ⟨h1, by omega⟩
theorem i_nat (x : Int32) : x.toNatClampNeg = x.toInt.toNat := rfl
theorem aget_at {α : Type} {xs : List α} {j : Int32} {n : Nat} (hj : j.toInt = n) (hn : n < xs.length) : aget xs j = some xs[n] := by
  have h0 : ¬ j < 0 := by rw [i_lt]; show ¬ j.toInt < 0; omega
  unfold aget
  rw [if_neg h0, i_nat, hj]
  simp [hn]
theorem aget_rep {α : Type} {m : Nat} {a : α} {j : Int32} (h0 : 0 ≤ j.toInt) (h1 : j.toInt < m) : aget (List.replicate m a) j = some a := by
  rw [aget_at (n := j.toInt.toNat) (by omega) (by rw [List.length_replicate]; omega)]
  simp
theorem aset_at {α : Type} {xs : List α} {j : Int32} {n : Nat} {v : α} (hj : j.toInt = n) (hn : n < xs.length) : aset xs j v = some (xs.set n v) := by
  have h0 : ¬ j < 0 := by rw [i_lt]; show ¬ j.toInt < 0; omega
  unfold aset
  have e : j.toNatClampNeg = n := by rw [i_nat, hj]; simp
  rw [if_neg h0, e, if_pos hn]
theorem law_ok (x0 x1 x2 x3 x4 : Int32) : ∃ τ, F0 x0 x1 x2 x3 x4 = some (1, τ) ∧ τ.length - List.length ([] : QHeap) ≤ room_1.cells ∧ qhs τ - qhs [] ≤ room_1.slots := by
  have h2 : ∀ a lo hi : Int32, F2 a lo hi = some (if a < lo then lo else if hi < a then hi else a) := by
    intro a lo hi
    unfold F2
    by_cases h1 : a < lo
    · rw [if_pos h1, if_pos h1]
    · rw [if_neg h1, if_neg h1]
      by_cases h2 : hi < a
      · rw [if_pos h2, if_pos h2]
      · rw [if_neg h2, if_neg h2]
  obtain ⟨o, ho, c1, c2, c3, c4, c5, c6, c7, hq⟩ : ∃ o, F1 x0 x1 x2 x3 = some o ∧ f_poolSize o = (if x0 < 2 then 2 else if (16 : Int32) < x0 then 16 else x0) ∧ f_live o = List.replicate 16 0 ∧ f_used o = List.replicate 16 0 ∧ f_clock o = 0 ∧ f_regHost o = -1 ∧ f_regPort o = -1 ∧ f_regExt o = -1 ∧ qhs (H0 o) ≤ 512 := by
    unfold F1
    rw [h2, h2, h2, h2]
    refine ⟨_, rfl, rfl, rfl, rfl, rfl, rfl, rfl, rfl, ?_⟩
    simp [H0, qhs, qsz, cN, f_live, f_used, f_freedAt, f_protoOf, f_hostOf, f_iportOf, f_stateAt, f_deadlineAt, f_perm, f_poolSize, f_udpTimeout, f_tcpTimeout, f_cooldown, f_clock, f_remAddr, f_remPort, f_regHost, f_regPort, f_regExt, s_live, s_used, s_freedAt, s_protoOf, s_hostOf, s_iportOf, s_stateAt, s_deadlineAt, s_perm, s_poolSize, s_udpTimeout, s_tcpTimeout, s_cooldown, s_clock, s_remAddr, s_remPort, s_regHost, s_regPort, s_regExt]
  have hL : List.length (H0 o) = 10 := rfl
  obtain ⟨p, hp⟩ : ∃ p, p = (if x0 < 2 then 2 else if (16 : Int32) < x0 then 16 else x0) := ⟨_, rfl⟩
  rw [← hp] at c1
  have hp1 : 2 ≤ p.toInt ∧ p.toInt ≤ 16 := by
    rw [hp]
    by_cases a1 : x0 < 2
    · rw [if_pos a1]; decide
    · rw [if_neg a1]
      by_cases a2 : (16 : Int32) < x0
      · rw [if_pos a2]; decide
      · rw [if_neg a2]
        rw [i_lt] at a1 a2
        have e1 : (2 : Int32).toInt = 2 := rfl
        have e2 : (16 : Int32).toInt = 16 := rfl
        omega
  refine ⟨H0 o, ?_, by rw [hL]; decide, by show qhs (H0 o) - 0 ≤ 512; omega⟩
  have h7 : F7 o = some 0 := by
    obtain ⟨e, he, hP⟩ := loopN_inv (B := B7_4 o) (I := fun v => v.1 = 0 ∧ 0 ≤ v.2.toInt ∧ v.2.toInt ≤ p.toInt) (P := fun e => e = 0) (μ := fun v => (p.toInt - v.2.toInt).toNat) (by
      intro v ⟨i1, i2, i3⟩
      unfold B7_4
      rw [c1, c2]
      by_cases hv : v.2 < p
      · rw [if_pos hv]
        rw [i_lt] at hv
        right
        rw [aget_rep i2 (by omega)]
        have e1 : (1 : Int32).toInt = 1 := rfl
        have e2 : (v.2 + 1).toInt = v.2.toInt + 1 := by rw [i_add (by omega) (by omega), e1]
        refine ⟨_, rfl, ⟨by simpa using i1, ?_, ?_⟩, ?_⟩
        · show 0 ≤ (v.2 + 1).toInt; omega
        · show (v.2 + 1).toInt ≤ p.toInt; omega
        · show (p.toInt - (v.2 + 1).toInt).toNat < (p.toInt - v.2.toInt).toNat; omega
      · rw [if_neg hv]
        exact Or.inl ⟨_, rfl, i1⟩) qN (0, 0) ⟨rfl, by decide, by show (0 : Int) ≤ _; omega⟩ (by show (p.toInt - (0 : Int)).toNat < 4000; omega)
    unfold F7
    rw [he, hP]
    rfl
  have h3 : ∀ e : Int32, F3 o e = some (if e < 5000 then -1 else if e < 5000 + p then 0 else -1) := by
    intro e
    have e5 : (5000 : Int32).toInt = 5000 := rfl
    have ep : ((5000 : Int32) + p).toInt = 5000 + p.toInt := by rw [i_add (by omega) (by omega), e5]
    unfold F3 F4
    rw [c1]
    by_cases a1 : e < 5000
    · rw [if_pos a1, if_pos a1]; rfl
    · rw [if_neg a1, if_neg a1]
      by_cases a2 : e < 5000 + p
      · rw [if_pos a2, if_pos a2]
        rw [i_lt] at a1 a2
        have e6 : (e - 5000).toInt = e.toInt - 5000 := by rw [i_sub (by omega) (by omega), e5]
        have hn : ¬ (e - 5000 : Int32) < 0 := by rw [i_lt, e6]; show ¬ _ < (0 : Int); omega
        simp only [Option.bind_some]
        rw [if_neg hn, c2, aget_rep (by omega) (by omega)]
        simp only [Option.bind_some, if_true]
        unfold F5
        rw [c3, aget_rep (by omega) (by omega)]
        rfl
      · rw [if_neg a2, if_neg a2]; rfl
  unfold F0
  rw [ho]
  simp only [Option.bind_some]
  rw [h3, ← hp]
  simp [F6, h7, F8, F9, F10, c4, c5, c6, c7]
set_option maxRecDepth 65536 in
theorem comes_1 {Post : Tables → Env → Array Value → State → Outcome → State → Prop} (hpost : ∀ tb e args s v u, (limb_1_1.after args s (.returned v) u = true ∧ limb_1_2.after args s (.returned v) u = true ∧ True) → FrameEnd s (.returned v) u (Jvm.fieldLocs frame_1_writes args s ++ Jvm.arrayLocs frame_1_arrays args s ++ Jvm.staticLocs frame_1_statics s) 32 512 → Post tb e args s (.returned v) u) :
    ArmFor flags0 classFile x code maxLocals ret World_1 tables_1 room_1 Calls_1 rest_1 Pre_1 Post := by
  intro l hfl _ _ p e ha hc hk s m args below hf hA hF happ hP
  obtain ⟨hcalls, hrest, hpre⟩ := hP
  obtain ⟨-, -, -, hnamed, -, -, -, hat⟩ := (Spec.applies_iff hf).mp happ
  obtain ⟨hg, hn⟩ := and_e (Cond.before_iff.mp (show (Jvm.Cond.and given_1 narrow_1).before args s = true from hpre))
  obtain ⟨g0, g1⟩ := and_e hg
  obtain ⟨w0, w1, w2, w3, w4, rfl⟩ : ∃ w0 w1 w2 w3 w4 : Value, args = #[w0, w1, w2, w3, w4] := by
    have hs : args.size = 5 := by simpa [Cond.value, given_1] using g0
    obtain ⟨L⟩ := args
    match L, hs with
    | [w0, w1, w2, w3, w4], _ => exact ⟨w0, w1, w2, w3, w4, rfl⟩
  have hw := fun d (hd : d ∈ tables_1) => atoms_spec (ws := Jvm.Cond.code x code maxLocals ret :: tables_1) hat d (List.mem_cons_of_mem _ hd)
  obtain ⟨a0, g2⟩ := and_e g1
  obtain ⟨i0, ei0⟩ := is_v a0
  obtain rfl : w0 = (.int i0) := Option.some.inj ei0
  obtain ⟨a1, g3⟩ := and_e g2
  obtain ⟨i1, ei1⟩ := is_v a1
  obtain rfl : w1 = (.int i1) := Option.some.inj ei1
  obtain ⟨a2, g4⟩ := and_e g3
  obtain ⟨i2, ei2⟩ := is_v a2
  obtain rfl : w2 = (.int i2) := Option.some.inj ei2
  obtain ⟨a3, g5⟩ := and_e g4
  obtain ⟨i3, ei3⟩ := is_v a3
  obtain rfl : w3 = (.int i3) := Option.some.inj ei3
  obtain ⟨i4, ei4⟩ := is_v g5
  obtain rfl : w4 = (.int i4) := Option.some.inj ei4
  obtain ⟨τ, hF0, hc1, hs1⟩ := law_ok i0 i1 i2 i3 i4
  have Ad : QAd s.heap.size (fun k => s.heap.size + k) := ⟨fun k _ => rfl, fun i j h => Nat.add_left_cancel h⟩
  have hR : QRep s s.heap.size (fun k => s.heap.size + k) s.heap [] := ⟨Nat.le_refl _, rfl, fun k c h => by cases h⟩
  have T := tF0 (l := l) (Z := s) Ad (QW_ok hw) i0 i1 i2 i3 i4 hF0
  have M := QTri.met (k := 0) (as := [.int i0, .int i1, .int i2, .int i3, .int i4]) (by decide) T hR (Nat.le_of_ble_eq_true rfl) (fun q => by cases q) tables_1 (rm := room_1) (by decide) (by decide) hc1 hs1
  obtain ⟨n, o, h1, h2, h3, _, L, rfl, ⟨rfl, R', N⟩, hq⟩ := M p e ha hc hk s m _ below hf ((Spec.applies_iff_loose hf).mp happ).1 ⟨rfl, State.Warmed39.refl s, rfl⟩ trivial
  refine ⟨n, _, h1, h2, h3, hpost _ _ _ _ _ _ ⟨Cond.after_iff.mpr rfl, Cond.after_iff.mpr (eq_i res_at (Term.int_eval (1)) rfl), trivial⟩ ⟨hq.1, hq.2.1, (hq.2.2.sift fun y hy => Or.inr (N y hy)).mono hc1 hs1⟩⟩
theorem main_1_1 : Claimed_1_1 := comes_1 fun _ _ _ _ _ _ h hF => ⟨h.1, hF⟩
theorem main_1_2 : Claimed_1_2 := comes_1 fun _ _ _ _ _ _ h hF => ⟨h.2.1, hF⟩
end Jvm.Pilot.@@N@@
namespace Jvm.Pilot.@@N@@
open Jvm Jvm.ClassFile Sem Op Lib Jvm.Free Jvm.Stand Jvm.Pilot.@@N@@.Jvm.D
/-! MADE BY PROGRAM (witnessworld.py) out of the Statement's table words and the real class files: 13 classes; the members and pool entries that the words name. The judged class is class 1, her method 1. -/
namespace start1
open Jvm.ClassFile
def u (s : String) : CpInfo := .utf8 (stringToUtf16 s)
/-- a pool by its gaps: so many unusable entries, then the entry; so many at the end -/
def gap : Nat → List CpInfo → List CpInfo
  | 0, r => r
  | n + 1, r => .unusable :: gap n r
def poolList (es : List (Nat × CpInfo)) (last : Nat) : List CpInfo := es.foldr (fun e r => gap e.1 (e.2 :: r)) (gap last [])
def pool (es : List (Nat × CpInfo)) (last : Nat) : Array CpInfo := ⟨poolList es last⟩
def fileOf (pool : Array CpInfo) (this : Nat) (attrs : Array Attribute := #[]) (ms : Array MethodInfo := #[]) (fl : Nat := 33) (sup : Nat := 0) (ifs : Array Nat := #[]) (fds : Array FieldInfo := #[]) : ClassFile where
  minorVersion := 0
  majorVersion := 65
  constantPool := pool
  accessFlags := fl
  thisClass := this
  superClass := sup
  interfaces := ifs
  fields := fds
  methods := ms
  attributes := attrs
def plain (name : String) (sup : Option ClassId) : Class where
  name := name
  kind := .ordinary
  loader := none
  accessFlags := 33
  super := sup
  interfaces := #[]
  cf := none
  fields := #[]
  methods := #[]
  instanceTypes := #[]
  staticTypes := #[]
  resolved := #[]
  callSites := []
  init := .initialized
  statics := none
  mirror := none

def pool0 : Array CpInfo := pool [(5, u "<init>"), (0, u "()V"), (1, .class_ 10), (1, u "java/lang/Object")] 113

def k0c0 : Code := { maxStack := 0, maxLocals := 1, code := object_method_1_code, exceptionTable := #[], attributes := #[] }
def k0m0 : Method := { name := "<init>", desc := "()V", sig := { parameters := [], returnType := none }, accessFlags := 1, code := some k0c0 }
/-- java/lang/Object -/
def k0 : Class := { plain "java/lang/Object" none with
  accessFlags := 33
  interfaces := #[]
  cf := some (fileOf pool0 8 #[] #[{ accessFlags := 1, nameIndex := 5, descriptorIndex := 6, attributes := #[] }] 33 0 #[] #[])
  fields := #[]
  methods := #[k0m0]
  instanceTypes := #[]
  staticTypes := #[]
  resolved := Array.replicate 124 none
  statics := none }

def pool1 : Array CpInfo := pool [(2, .class_ 4), (1, u "java/lang/Object"), (0, u "<init>"), (0, u "()V"), (0, .class_ 8), (0, u "PortTranslator"), (0, .methodref 7 10), (0, .nameAndType 5 11), (0, u "(IIII)V"), (0, .methodref 7 13), (0, .nameAndType 14 15), (0, u "availableFrom"), (0, u "(I)I"), (0, .methodref 7 17), (0, .nameAndType 18 19), (0, u "now"), (0, u "()I"), (0, .methodref 7 21), (0, .nameAndType 22 19), (0, u "liveCount"), (0, .methodref 7 24), (0, .nameAndType 25 19), (0, u "resultHost"), (0, .methodref 7 27), (0, .nameAndType 28 19), (0, u "resultPort"), (0, .methodref 7 30), (0, .nameAndType 31 19), (0, u "resultExt"), (0, .class_ 33), (0, u "PortTranslatorL1"), (2, u "law"), (0, u "(IIIII)Z")] 3

def k1m0 : Method := { name := "<init>", desc := "()V", sig := { parameters := [], returnType := none }, accessFlags := 1, code := none }
def k1c1 : Code := { maxStack := 6, maxLocals := 9, code := code, exceptionTable := #[], attributes := #[] }
def k1m1 : Method := { name := "law", desc := "(IIIII)Z", sig := { parameters := [.int, .int, .int, .int, .int], returnType := some .boolean }, accessFlags := 9, code := some k1c1 }
/-- PortTranslatorL1 -/
def k1 : Class := { plain "PortTranslatorL1" (some 0) with
  accessFlags := 49
  interfaces := #[]
  cf := some (fileOf pool1 32 #[] #[{ accessFlags := 1, nameIndex := 5, descriptorIndex := 6, attributes := #[] }, { accessFlags := 9, nameIndex := 36, descriptorIndex := 37, attributes := #[] }] 49 2 #[] #[])
  fields := #[]
  methods := #[k1m0, k1m1]
  instanceTypes := #[]
  staticTypes := #[]
  resolved := Array.replicate 41 none
  statics := none }

def pool2 : Array CpInfo := pool [(1, .methodref 2 3), (0, .class_ 4), (0, .nameAndType 5 6), (0, u "java/lang/Object"), (0, u "<init>"), (0, u "()V"), (0, .fieldref 8 9), (0, .class_ 10), (0, .nameAndType 11 12), (0, u "PortTranslator"), (0, u "live"), (0, u "[Z"), (0, .fieldref 8 14), (0, .nameAndType 15 12), (0, u "used"), (0, .fieldref 8 17), (0, .nameAndType 18 19), (0, u "freedAt"), (0, u "[I"), (0, .fieldref 8 21), (0, .nameAndType 22 19), (0, u "protoOf"), (0, .fieldref 8 24), (0, .nameAndType 25 19), (0, u "hostOf"), (0, .fieldref 8 27), (0, .nameAndType 28 19), (0, u "iportOf"), (0, .fieldref 8 30), (0, .nameAndType 31 19), (0, u "stateAt"), (0, .fieldref 8 33), (0, .nameAndType 34 19), (0, u "deadlineAt"), (0, .fieldref 8 36), (0, .nameAndType 37 38), (0, u "perm"), (0, u "[J"), (0, .methodref 8 40), (0, .nameAndType 41 42), (0, u "clamp"), (0, u "(III)I"), (0, .fieldref 8 44), (0, .nameAndType 45 46), (0, u "poolSize"), (0, u "I"), (0, .fieldref 8 48), (0, .nameAndType 49 46), (0, u "udpTimeout"), (0, .fieldref 8 51), (0, .nameAndType 52 46), (0, u "tcpTimeout"), (0, .fieldref 8 54), (0, .nameAndType 55 46), (0, u "cooldown"), (0, .fieldref 8 57), (0, .nameAndType 58 46), (0, u "clock"), (0, .fieldref 8 60), (0, .nameAndType 61 46), (0, u "remAddr"), (0, .fieldref 8 63), (0, .nameAndType 64 46), (0, u "remPort"), (0, .fieldref 8 66), (0, .nameAndType 67 46), (0, u "regHost"), (0, .fieldref 8 69), (0, .nameAndType 70 46), (0, u "regPort"), (0, .fieldref 8 72), (0, .nameAndType 73 46), (0, u "regExt"), (11, u "()I"), (3, u "(IIII)V"), (24, u "(I)I"), (0, .methodref 8 116), (0, .nameAndType 117 114), (0, u "slotOf"), (0, .methodref 8 119), (0, .nameAndType 120 114), (0, u "availTime"), (7, u "UDP"), (2, u "TCP"), (1, u "SYN"), (1, u "ACK"), (1, u "FIN"), (1, u "RST"), (1, u "PORT_BASE"), (1, u "EXTERNAL_ADDR"), (1, u "HOSTS"), (0, u "TRANSITORY"), (1, u "STATE_UDP"), (1, u "OPENING"), (0, u "ESTABLISHED"), (0, u "CLOSING"), (1, u "OK_OUT"), (0, u "OK_IN"), (0, u "OK_HAIRPIN"), (0, u "HAIRPIN_DROPPED"), (0, u "ERR_ARG"), (1, u "ERR_POOL"), (1, u "ERR_TCP"), (1, u "DROP_NOMAP"), (1, u "DROP_FILTER"), (1, u "MAX_POOL"), (1, u "PERM_WORDS"), (9, u "now"), (0, u "resultHost"), (0, u "resultPort"), (0, u "resultExt"), (0, u "liveCount"), (6, u "availableFrom")] 3

def k2c0 : Code := { maxStack := 5, maxLocals := 5, code := prog_1_method_1_code, exceptionTable := #[], attributes := #[] }
def k2m0 : Method := { name := "<init>", desc := "(IIII)V", sig := { parameters := [.int, .int, .int, .int], returnType := none }, accessFlags := 1, code := some k2c0 }
def k2c1 : Code := { maxStack := 1, maxLocals := 1, code := prog_1_method_6_code, exceptionTable := #[], attributes := #[] }
def k2m1 : Method := { name := "now", desc := "()I", sig := { parameters := [], returnType := some .int }, accessFlags := 1, code := some k2c1 }
def k2c2 : Code := { maxStack := 1, maxLocals := 1, code := prog_1_method_7_code, exceptionTable := #[], attributes := #[] }
def k2m2 : Method := { name := "resultHost", desc := "()I", sig := { parameters := [], returnType := some .int }, accessFlags := 1, code := some k2c2 }
def k2c3 : Code := { maxStack := 1, maxLocals := 1, code := prog_1_method_8_code, exceptionTable := #[], attributes := #[] }
def k2m3 : Method := { name := "resultPort", desc := "()I", sig := { parameters := [], returnType := some .int }, accessFlags := 1, code := some k2c3 }
def k2c4 : Code := { maxStack := 1, maxLocals := 1, code := prog_1_method_9_code, exceptionTable := #[], attributes := #[] }
def k2m4 : Method := { name := "resultExt", desc := "()I", sig := { parameters := [], returnType := some .int }, accessFlags := 1, code := some k2c4 }
def k2c5 : Code := { maxStack := 2, maxLocals := 3, code := prog_1_method_10_code, exceptionTable := #[], attributes := #[] }
def k2m5 : Method := { name := "liveCount", desc := "()I", sig := { parameters := [], returnType := some .int }, accessFlags := 1, code := some k2c5 }
def k2c6 : Code := { maxStack := 2, maxLocals := 3, code := prog_1_method_17_code, exceptionTable := #[], attributes := #[] }
def k2m6 : Method := { name := "availableFrom", desc := "(I)I", sig := { parameters := [.int], returnType := some .int }, accessFlags := 1, code := some k2c6 }
def k2c7 : Code := { maxStack := 2, maxLocals := 4, code := prog_1_method_18_code, exceptionTable := #[], attributes := #[] }
def k2m7 : Method := { name := "clamp", desc := "(III)I", sig := { parameters := [.int, .int, .int], returnType := some .int }, accessFlags := 2, code := some k2c7 }
def k2c8 : Code := { maxStack := 3, maxLocals := 2, code := prog_1_method_20_code, exceptionTable := #[], attributes := #[] }
def k2m8 : Method := { name := "slotOf", desc := "(I)I", sig := { parameters := [.int], returnType := some .int }, accessFlags := 2, code := some k2c8 }
def k2c9 : Code := { maxStack := 2, maxLocals := 2, code := prog_1_method_24_code, exceptionTable := #[], attributes := #[] }
def k2m9 : Method := { name := "availTime", desc := "(I)I", sig := { parameters := [.int], returnType := some .int }, accessFlags := 2, code := some k2c9 }
/-- PortTranslator -/
def k2 : Class := { plain "PortTranslator" (some 0) with
  accessFlags := 49
  interfaces := #[]
  cf := some (fileOf pool2 8 #[] #[{ accessFlags := 1, nameIndex := 5, descriptorIndex := 89, attributes := #[] }, { accessFlags := 1, nameIndex := 180, descriptorIndex := 85, attributes := #[] }, { accessFlags := 1, nameIndex := 181, descriptorIndex := 85, attributes := #[] }, { accessFlags := 1, nameIndex := 182, descriptorIndex := 85, attributes := #[] }, { accessFlags := 1, nameIndex := 183, descriptorIndex := 85, attributes := #[] }, { accessFlags := 1, nameIndex := 184, descriptorIndex := 85, attributes := #[] }, { accessFlags := 1, nameIndex := 191, descriptorIndex := 114, attributes := #[] }, { accessFlags := 2, nameIndex := 41, descriptorIndex := 42, attributes := #[] }, { accessFlags := 2, nameIndex := 117, descriptorIndex := 114, attributes := #[] }, { accessFlags := 2, nameIndex := 120, descriptorIndex := 114, attributes := #[] }] 49 2 #[] #[{ accessFlags := 25, nameIndex := 128, descriptorIndex := 46, attributes := #[] }, { accessFlags := 25, nameIndex := 131, descriptorIndex := 46, attributes := #[] }, { accessFlags := 25, nameIndex := 133, descriptorIndex := 46, attributes := #[] }, { accessFlags := 25, nameIndex := 135, descriptorIndex := 46, attributes := #[] }, { accessFlags := 25, nameIndex := 137, descriptorIndex := 46, attributes := #[] }, { accessFlags := 25, nameIndex := 139, descriptorIndex := 46, attributes := #[] }, { accessFlags := 25, nameIndex := 141, descriptorIndex := 46, attributes := #[] }, { accessFlags := 25, nameIndex := 143, descriptorIndex := 46, attributes := #[] }, { accessFlags := 25, nameIndex := 145, descriptorIndex := 46, attributes := #[] }, { accessFlags := 25, nameIndex := 146, descriptorIndex := 46, attributes := #[] }, { accessFlags := 25, nameIndex := 148, descriptorIndex := 46, attributes := #[] }, { accessFlags := 25, nameIndex := 150, descriptorIndex := 46, attributes := #[] }, { accessFlags := 25, nameIndex := 151, descriptorIndex := 46, attributes := #[] }, { accessFlags := 25, nameIndex := 152, descriptorIndex := 46, attributes := #[] }, { accessFlags := 25, nameIndex := 154, descriptorIndex := 46, attributes := #[] }, { accessFlags := 25, nameIndex := 155, descriptorIndex := 46, attributes := #[] }, { accessFlags := 25, nameIndex := 156, descriptorIndex := 46, attributes := #[] }, { accessFlags := 25, nameIndex := 157, descriptorIndex := 46, attributes := #[] }, { accessFlags := 25, nameIndex := 158, descriptorIndex := 46, attributes := #[] }, { accessFlags := 25, nameIndex := 160, descriptorIndex := 46, attributes := #[] }, { accessFlags := 25, nameIndex := 162, descriptorIndex := 46, attributes := #[] }, { accessFlags := 25, nameIndex := 164, descriptorIndex := 46, attributes := #[] }, { accessFlags := 25, nameIndex := 166, descriptorIndex := 46, attributes := #[] }, { accessFlags := 26, nameIndex := 168, descriptorIndex := 46, attributes := #[] }, { accessFlags := 26, nameIndex := 170, descriptorIndex := 46, attributes := #[] }, { accessFlags := 2, nameIndex := 45, descriptorIndex := 46, attributes := #[] }, { accessFlags := 2, nameIndex := 49, descriptorIndex := 46, attributes := #[] }, { accessFlags := 2, nameIndex := 52, descriptorIndex := 46, attributes := #[] }, { accessFlags := 2, nameIndex := 55, descriptorIndex := 46, attributes := #[] }, { accessFlags := 2, nameIndex := 58, descriptorIndex := 46, attributes := #[] }, { accessFlags := 2, nameIndex := 61, descriptorIndex := 46, attributes := #[] }, { accessFlags := 2, nameIndex := 64, descriptorIndex := 46, attributes := #[] }, { accessFlags := 2, nameIndex := 67, descriptorIndex := 46, attributes := #[] }, { accessFlags := 2, nameIndex := 70, descriptorIndex := 46, attributes := #[] }, { accessFlags := 2, nameIndex := 73, descriptorIndex := 46, attributes := #[] }, { accessFlags := 2, nameIndex := 11, descriptorIndex := 12, attributes := #[] }, { accessFlags := 2, nameIndex := 15, descriptorIndex := 12, attributes := #[] }, { accessFlags := 2, nameIndex := 18, descriptorIndex := 19, attributes := #[] }, { accessFlags := 2, nameIndex := 22, descriptorIndex := 19, attributes := #[] }, { accessFlags := 2, nameIndex := 25, descriptorIndex := 19, attributes := #[] }, { accessFlags := 2, nameIndex := 28, descriptorIndex := 19, attributes := #[] }, { accessFlags := 2, nameIndex := 31, descriptorIndex := 19, attributes := #[] }, { accessFlags := 2, nameIndex := 34, descriptorIndex := 19, attributes := #[] }, { accessFlags := 2, nameIndex := 37, descriptorIndex := 38, attributes := #[] }])
  fields := #[{ name := "UDP", type := .int, accessFlags := 25, slot := 0, constantValue := 0 }, { name := "TCP", type := .int, accessFlags := 25, slot := 1, constantValue := 0 }, { name := "SYN", type := .int, accessFlags := 25, slot := 2, constantValue := 0 }, { name := "ACK", type := .int, accessFlags := 25, slot := 3, constantValue := 0 }, { name := "FIN", type := .int, accessFlags := 25, slot := 4, constantValue := 0 }, { name := "RST", type := .int, accessFlags := 25, slot := 5, constantValue := 0 }, { name := "PORT_BASE", type := .int, accessFlags := 25, slot := 6, constantValue := 0 }, { name := "EXTERNAL_ADDR", type := .int, accessFlags := 25, slot := 7, constantValue := 0 }, { name := "HOSTS", type := .int, accessFlags := 25, slot := 8, constantValue := 0 }, { name := "TRANSITORY", type := .int, accessFlags := 25, slot := 9, constantValue := 0 }, { name := "STATE_UDP", type := .int, accessFlags := 25, slot := 10, constantValue := 0 }, { name := "OPENING", type := .int, accessFlags := 25, slot := 11, constantValue := 0 }, { name := "ESTABLISHED", type := .int, accessFlags := 25, slot := 12, constantValue := 0 }, { name := "CLOSING", type := .int, accessFlags := 25, slot := 13, constantValue := 0 }, { name := "OK_OUT", type := .int, accessFlags := 25, slot := 14, constantValue := 0 }, { name := "OK_IN", type := .int, accessFlags := 25, slot := 15, constantValue := 0 }, { name := "OK_HAIRPIN", type := .int, accessFlags := 25, slot := 16, constantValue := 0 }, { name := "HAIRPIN_DROPPED", type := .int, accessFlags := 25, slot := 17, constantValue := 0 }, { name := "ERR_ARG", type := .int, accessFlags := 25, slot := 18, constantValue := 0 }, { name := "ERR_POOL", type := .int, accessFlags := 25, slot := 19, constantValue := 0 }, { name := "ERR_TCP", type := .int, accessFlags := 25, slot := 20, constantValue := 0 }, { name := "DROP_NOMAP", type := .int, accessFlags := 25, slot := 21, constantValue := 0 }, { name := "DROP_FILTER", type := .int, accessFlags := 25, slot := 22, constantValue := 0 }, { name := "MAX_POOL", type := .int, accessFlags := 26, slot := 23, constantValue := 0 }, { name := "PERM_WORDS", type := .int, accessFlags := 26, slot := 24, constantValue := 0 }, { name := "poolSize", type := .int, accessFlags := 2, slot := 0, constantValue := 0 }, { name := "udpTimeout", type := .int, accessFlags := 2, slot := 1, constantValue := 0 }, { name := "tcpTimeout", type := .int, accessFlags := 2, slot := 2, constantValue := 0 }, { name := "cooldown", type := .int, accessFlags := 2, slot := 3, constantValue := 0 }, { name := "clock", type := .int, accessFlags := 2, slot := 4, constantValue := 0 }, { name := "remAddr", type := .int, accessFlags := 2, slot := 5, constantValue := 0 }, { name := "remPort", type := .int, accessFlags := 2, slot := 6, constantValue := 0 }, { name := "regHost", type := .int, accessFlags := 2, slot := 7, constantValue := 0 }, { name := "regPort", type := .int, accessFlags := 2, slot := 8, constantValue := 0 }, { name := "regExt", type := .int, accessFlags := 2, slot := 9, constantValue := 0 }, { name := "live", type := (.array .boolean), accessFlags := 2, slot := 10, constantValue := 0 }, { name := "used", type := (.array .boolean), accessFlags := 2, slot := 11, constantValue := 0 }, { name := "freedAt", type := (.array .int), accessFlags := 2, slot := 12, constantValue := 0 }, { name := "protoOf", type := (.array .int), accessFlags := 2, slot := 13, constantValue := 0 }, { name := "hostOf", type := (.array .int), accessFlags := 2, slot := 14, constantValue := 0 }, { name := "iportOf", type := (.array .int), accessFlags := 2, slot := 15, constantValue := 0 }, { name := "stateAt", type := (.array .int), accessFlags := 2, slot := 16, constantValue := 0 }, { name := "deadlineAt", type := (.array .int), accessFlags := 2, slot := 17, constantValue := 0 }, { name := "perm", type := (.array .long), accessFlags := 2, slot := 18, constantValue := 0 }]
  methods := #[k2m0, k2m1, k2m2, k2m3, k2m4, k2m5, k2m6, k2m7, k2m8, k2m9]
  instanceTypes := #[.int, .int, .int, .int, .int, .int, .int, .int, .int, .int, (.array .boolean), (.array .boolean), (.array .int), (.array .int), (.array .int), (.array .int), (.array .int), (.array .int), (.array .long)]
  staticTypes := #[.int, .int, .int, .int, .int, .int, .int, .int, .int, .int, .int, .int, .int, .int, .int, .int, .int, .int, .int, .int, .int, .int, .int, .int, .int]
  resolved := Array.replicate 195 none
  statics := none }

def pool3 : Array CpInfo := pool [(1, u "java/lang/Cloneable"), (0, .class_ 1), (0, u "java/lang/Object"), (0, .class_ 3)] 3

/-- java/lang/Cloneable -/
def k3 : Class := { plain "java/lang/Cloneable" (some 0) with
  accessFlags := 1537
  interfaces := #[]
  cf := some (fileOf pool3 2 #[] #[] 1537 4 #[] #[])
  fields := #[]
  methods := #[]
  instanceTypes := #[]
  staticTypes := #[]
  resolved := Array.replicate 8 none
  statics := none }

def pool4 : Array CpInfo := pool [(1, u "java/io/Serializable"), (0, .class_ 1), (0, u "java/lang/Object"), (0, .class_ 3)] 3

/-- java/io/Serializable -/
def k4 : Class := { plain "java/io/Serializable" (some 0) with
  accessFlags := 1537
  interfaces := #[]
  cf := some (fileOf pool4 2 #[] #[] 1537 4 #[] #[])
  fields := #[]
  methods := #[]
  instanceTypes := #[]
  staticTypes := #[]
  resolved := Array.replicate 8 none
  statics := none }

/-- the primitive boolean -/
def k5 : Class := { plain "boolean" none with kind := .primitive 'Z', accessFlags := 0x411 }
/-- [Z -/
def k6 : Class := { plain "[Z" (some 0) with kind := .array 5 .boolean, interfaces := #[3, 4], accessFlags := 1041 }

/-- the primitive byte -/
def k7 : Class := { plain "byte" none with kind := .primitive 'B', accessFlags := 0x411 }
/-- [B -/
def k8 : Class := { plain "[B" (some 0) with kind := .array 7 .byte, interfaces := #[3, 4], accessFlags := 1041 }

/-- the primitive int -/
def k9 : Class := { plain "int" none with kind := .primitive 'I', accessFlags := 0x411 }
/-- [I -/
def k10 : Class := { plain "[I" (some 0) with kind := .array 9 .int, interfaces := #[3, 4], accessFlags := 1041 }

/-- the primitive long -/
def k11 : Class := { plain "long" none with kind := .primitive 'J', accessFlags := 0x411 }
/-- [J -/
def k12 : Class := { plain "[J" (some 0) with kind := .array 11 .long, interfaces := #[3, 4], accessFlags := 1041 }

def heap : Heap := #[]
def classes : Array Class := #[k0, k1, k2, k3, k4, k5, k6, k7, k8, k9, k10, k11, k12]
def interned : List (Array UInt16 × Addr) := []
def slotsUsed : Nat := 0
def theMethod : MethodId := ⟨1, 1⟩
def args0 : Array Value := #[.int 5, .int 5, .int 5, .int 5, .int 5]
def aboutOver (below : List Frame) : State where
  vm := { classes := classes, interned := interned.toArray }
  heap := heap
  slotsUsed := slotsUsed
  threads := #[{ frames := .invoking theMethod args0 :: below }]
def below0 : List Frame := [.native { method := ⟨0, 0⟩, args := #[] }]
def about1 : State := aboutOver below0
def p0 : Program := .bare "" "" ""
def e0 : Env := launch0.env 0 0 0
theorem w_frames : about1.frames = Frame.invoking theMethod args0 :: below0 := rfl
set_option maxRecDepth 65536 in
theorem w_args : argsFit about1.vm theMethod args0 = true := by decide +kernel
set_option maxRecDepth 65536 in
theorem w_heap : heapFits about1 = true := by decide +kernel
set_option maxRecDepth 65536 in
theorem w_runnable : about1.curStatus? = some .runnable := by decide +kernel
set_option maxRecDepth 65536 in
theorem w_alone : about1.alone = true := by decide +kernel
set_option maxRecDepth 65536 in
theorem w_named : about1.methodNamed? x = some theMethod := by decide +kernel
set_option maxRecDepth 65536 in
theorem w_hears : about1.hears theMethod below0 = true := by decide +kernel
set_option maxRecDepth 65536 in
theorem w_ripe : about1.ripe theMethod args0 below0 = true := by decide +kernel
theorem w_running : about1.status = .running := rfl
set_option maxRecDepth 65536 in
theorem w_room : about1.hasRoom e0.platform room_1 = true :=
  launch0.hasRoom_least _ room_1 (by decide +kernel) (by decide +kernel) (by decide +kernel) (by decide +kernel) (by decide +kernel) (by decide +kernel)
theorem allAtoms_all (ts : List Jvm.Cond) (a : Array Jvm.Value) (st : Jvm.State) : (allAtoms ts).before a st = ts.all (fun c => c.before a st) := by
  induction ts with
  | nil => rfl
  | cons c t ih =>
    show (Jvm.Cond.and c (allAtoms t)).before a st = _
    rw [Jvm.Cond.before_and, ih, List.all_cons]
def words1 : List Jvm.Cond := Jvm.Cond.code x code maxLocals ret :: tables_1
/-- a 'code' word, met by the world's own term for the bytes: nothing is compared byte by byte -/
theorem code_word {y : MethodName} {bytes : ByteArray} {mx : Nat} {rt : Option FieldType} {a : Array Value} {s : State} {m : MethodId} {meth : Method} {c : Code} (h1 : s.methodNamed? y = some m) (h2 : s.vm.method? m = some meth) (h3 : meth.code = some c) (h4 : c.code = bytes)
    (h5 : (c.maxLocals == mx && c.exceptionTable.isEmpty && decide (c.maxStack ≤ mostOperands) && decide (meth.sig.returnType = rt) && !meth.locks && decide (parseMethodDescriptor y.desc = some meth.sig)) = true) : (Jvm.Cond.code y bytes mx rt).before a s = true := by
  simp only [Bool.and_eq_true, beq_iff_eq, Bool.not_eq_true', decide_eq_true_eq] at h5
  obtain ⟨⟨⟨⟨⟨g1, g2⟩, g3⟩, g4⟩, g5⟩, g6⟩ := h5
  simp [Cond.before, Cond.holds, Cond.value, h1, h2, h3, h4, g1, g2, g3, g4, g5, g6]
def isCode : Jvm.Cond → Bool
  | .code _ _ _ _ => true
  | _ => false
theorem all_split {L : List Jvm.Cond} {P : Jvm.Cond → Bool} (h1 : L.all (fun c => isCode c || P c) = true) (h2 : ∀ c ∈ L.filter isCode, P c = true) : L.all P = true := by
  refine List.all_eq_true.mpr fun c hc => ?_
  have h := List.all_eq_true.mp h1 c hc
  rcases Bool.eq_false_or_eq_true (isCode c) with hi | hi
  · exact h2 c (List.mem_filter.mpr ⟨hc, hi⟩)
  · simpa [hi] using h
set_option maxRecDepth 65536 in
theorem w_c0 : (Jvm.Cond.code x code maxLocals ret).before args0 about1 = true := code_word (m := ⟨1, 1⟩) (meth := k1m1) (c := k1c1) (by decide +kernel) rfl rfl rfl (by decide +kernel)
set_option maxRecDepth 65536 in
theorem w_c1 : (Jvm.Cond.code ({ cls := "PortTranslator", name := "<init>", desc := "(IIII)V" } : Jvm.MethodName) prog_1_method_1_code (5 : Nat) (Option.none : Option Jvm.ClassFile.FieldType)).before args0 about1 = true := code_word (m := ⟨2, 0⟩) (meth := k2m0) (c := k2c0) (by decide +kernel) rfl rfl rfl (by decide +kernel)
set_option maxRecDepth 65536 in
theorem w_c2 : (Jvm.Cond.code ({ cls := "java/lang/Object", name := "<init>", desc := "()V" } : Jvm.MethodName) object_method_1_code (1 : Nat) (Option.none : Option Jvm.ClassFile.FieldType)).before args0 about1 = true := code_word (m := ⟨0, 0⟩) (meth := k0m0) (c := k0c0) (by decide +kernel) rfl rfl rfl (by decide +kernel)
set_option maxRecDepth 65536 in
theorem w_c3 : (Jvm.Cond.code ({ cls := "PortTranslator", name := "clamp", desc := "(III)I" } : Jvm.MethodName) prog_1_method_18_code (4 : Nat) (Option.some Jvm.ClassFile.FieldType.int)).before args0 about1 = true := code_word (m := ⟨2, 7⟩) (meth := k2m7) (c := k2c7) (by decide +kernel) rfl rfl rfl (by decide +kernel)
set_option maxRecDepth 65536 in
theorem w_c4 : (Jvm.Cond.code ({ cls := "PortTranslator", name := "availableFrom", desc := "(I)I" } : Jvm.MethodName) prog_1_method_17_code (3 : Nat) (Option.some Jvm.ClassFile.FieldType.int)).before args0 about1 = true := code_word (m := ⟨2, 6⟩) (meth := k2m6) (c := k2c6) (by decide +kernel) rfl rfl rfl (by decide +kernel)
set_option maxRecDepth 65536 in
theorem w_c5 : (Jvm.Cond.code ({ cls := "PortTranslator", name := "slotOf", desc := "(I)I" } : Jvm.MethodName) prog_1_method_20_code (2 : Nat) (Option.some Jvm.ClassFile.FieldType.int)).before args0 about1 = true := code_word (m := ⟨2, 8⟩) (meth := k2m8) (c := k2c8) (by decide +kernel) rfl rfl rfl (by decide +kernel)
set_option maxRecDepth 65536 in
theorem w_c6 : (Jvm.Cond.code ({ cls := "PortTranslator", name := "availTime", desc := "(I)I" } : Jvm.MethodName) prog_1_method_24_code (2 : Nat) (Option.some Jvm.ClassFile.FieldType.int)).before args0 about1 = true := code_word (m := ⟨2, 9⟩) (meth := k2m9) (c := k2c9) (by decide +kernel) rfl rfl rfl (by decide +kernel)
set_option maxRecDepth 65536 in
theorem w_c7 : (Jvm.Cond.code ({ cls := "PortTranslator", name := "now", desc := "()I" } : Jvm.MethodName) prog_1_method_6_code (1 : Nat) (Option.some Jvm.ClassFile.FieldType.int)).before args0 about1 = true := code_word (m := ⟨2, 1⟩) (meth := k2m1) (c := k2c1) (by decide +kernel) rfl rfl rfl (by decide +kernel)
set_option maxRecDepth 65536 in
theorem w_c8 : (Jvm.Cond.code ({ cls := "PortTranslator", name := "liveCount", desc := "()I" } : Jvm.MethodName) prog_1_method_10_code (3 : Nat) (Option.some Jvm.ClassFile.FieldType.int)).before args0 about1 = true := code_word (m := ⟨2, 5⟩) (meth := k2m5) (c := k2c5) (by decide +kernel) rfl rfl rfl (by decide +kernel)
set_option maxRecDepth 65536 in
theorem w_c9 : (Jvm.Cond.code ({ cls := "PortTranslator", name := "resultHost", desc := "()I" } : Jvm.MethodName) prog_1_method_7_code (1 : Nat) (Option.some Jvm.ClassFile.FieldType.int)).before args0 about1 = true := code_word (m := ⟨2, 2⟩) (meth := k2m2) (c := k2c2) (by decide +kernel) rfl rfl rfl (by decide +kernel)
set_option maxRecDepth 65536 in
theorem w_c10 : (Jvm.Cond.code ({ cls := "PortTranslator", name := "resultPort", desc := "()I" } : Jvm.MethodName) prog_1_method_8_code (1 : Nat) (Option.some Jvm.ClassFile.FieldType.int)).before args0 about1 = true := code_word (m := ⟨2, 3⟩) (meth := k2m3) (c := k2c3) (by decide +kernel) rfl rfl rfl (by decide +kernel)
set_option maxRecDepth 65536 in
theorem w_c11 : (Jvm.Cond.code ({ cls := "PortTranslator", name := "resultExt", desc := "()I" } : Jvm.MethodName) prog_1_method_9_code (1 : Nat) (Option.some Jvm.ClassFile.FieldType.int)).before args0 about1 = true := code_word (m := ⟨2, 4⟩) (meth := k2m4) (c := k2c4) (by decide +kernel) rfl rfl rfl (by decide +kernel)
def codes1 : List Jvm.Cond := [Jvm.Cond.code x code maxLocals ret, Jvm.Cond.code ({ cls := "PortTranslator", name := "<init>", desc := "(IIII)V" } : Jvm.MethodName) prog_1_method_1_code (5 : Nat) (Option.none : Option Jvm.ClassFile.FieldType), Jvm.Cond.code ({ cls := "java/lang/Object", name := "<init>", desc := "()V" } : Jvm.MethodName) object_method_1_code (1 : Nat) (Option.none : Option Jvm.ClassFile.FieldType), Jvm.Cond.code ({ cls := "PortTranslator", name := "clamp", desc := "(III)I" } : Jvm.MethodName) prog_1_method_18_code (4 : Nat) (Option.some Jvm.ClassFile.FieldType.int), Jvm.Cond.code ({ cls := "PortTranslator", name := "availableFrom", desc := "(I)I" } : Jvm.MethodName) prog_1_method_17_code (3 : Nat) (Option.some Jvm.ClassFile.FieldType.int), Jvm.Cond.code ({ cls := "PortTranslator", name := "slotOf", desc := "(I)I" } : Jvm.MethodName) prog_1_method_20_code (2 : Nat) (Option.some Jvm.ClassFile.FieldType.int), Jvm.Cond.code ({ cls := "PortTranslator", name := "availTime", desc := "(I)I" } : Jvm.MethodName) prog_1_method_24_code (2 : Nat) (Option.some Jvm.ClassFile.FieldType.int), Jvm.Cond.code ({ cls := "PortTranslator", name := "now", desc := "()I" } : Jvm.MethodName) prog_1_method_6_code (1 : Nat) (Option.some Jvm.ClassFile.FieldType.int), Jvm.Cond.code ({ cls := "PortTranslator", name := "liveCount", desc := "()I" } : Jvm.MethodName) prog_1_method_10_code (3 : Nat) (Option.some Jvm.ClassFile.FieldType.int), Jvm.Cond.code ({ cls := "PortTranslator", name := "resultHost", desc := "()I" } : Jvm.MethodName) prog_1_method_7_code (1 : Nat) (Option.some Jvm.ClassFile.FieldType.int), Jvm.Cond.code ({ cls := "PortTranslator", name := "resultPort", desc := "()I" } : Jvm.MethodName) prog_1_method_8_code (1 : Nat) (Option.some Jvm.ClassFile.FieldType.int), Jvm.Cond.code ({ cls := "PortTranslator", name := "resultExt", desc := "()I" } : Jvm.MethodName) prog_1_method_9_code (1 : Nat) (Option.some Jvm.ClassFile.FieldType.int)]
set_option maxRecDepth 65536 in
theorem codes_eq : words1.filter isCode = codes1 := rfl
theorem w_codes : ∀ c ∈ words1.filter isCode, c.before args0 about1 = true := by
  rw [codes_eq]
  intro c hc
  simp only [codes1, List.mem_cons, List.not_mem_nil, or_false] at hc
  rcases hc with rfl | rfl | rfl | rfl | rfl | rfl | rfl | rfl | rfl | rfl | rfl | rfl
  · exact w_c0
  · exact w_c1
  · exact w_c2
  · exact w_c3
  · exact w_c4
  · exact w_c5
  · exact w_c6
  · exact w_c7
  · exact w_c8
  · exact w_c9
  · exact w_c10
  · exact w_c11
set_option maxRecDepth 65536 in
theorem w_t1 : (words1.take 24).all (fun c => isCode c || c.before args0 about1) = true := by decide +kernel
set_option maxRecDepth 65536 in
theorem w_t2 : ((words1.drop 24).take 24).all (fun c => isCode c || c.before args0 about1) = true := by decide +kernel
set_option maxRecDepth 65536 in
theorem w_t3 : (((words1.drop 24).drop 24).take 24).all (fun c => isCode c || c.before args0 about1) = true := by decide +kernel
set_option maxRecDepth 65536 in
theorem w_t4 : (((words1.drop 24).drop 24).drop 24).all (fun c => isCode c || c.before args0 about1) = true := by decide +kernel
theorem w_tables : (allAtoms (Jvm.Cond.code x code maxLocals ret :: tables_1)).before args0 about1 = true := by
  rw [allAtoms_all]
  show words1.all (fun c => c.before args0 about1) = true
  refine all_split ?_ w_codes
  rw [← List.take_append_drop 24 words1, List.all_append, w_t1, ← List.take_append_drop 24 (words1.drop 24), List.all_append, w_t2, ← List.take_append_drop 24 ((words1.drop 24).drop 24), List.all_append, w_t3, w_t4]
  rfl
set_option maxRecDepth 65536 in
theorem w_case : (Jvm.Cond.and given_1 narrow_1).before args0 about1 = true := by decide +kernel
theorem w_applies : (headSpec (Jvm.Cond.code x code maxLocals ret :: tables_1) room_1).applies x e0.platform about1 = true :=
  (Spec.applies_iff w_frames).mpr ⟨w_running, w_runnable, w_alone, w_named, w_hears, w_ripe, w_room, w_tables⟩
theorem atStart : AtStart classFile x code maxLocals ret World_1 tables_1 room_1 Calls_1 rest_1 Pre_1 launch0 p0 e0 about1 theMethod args0 below0 :=
  ⟨lists_1, trivial, launch0.admits_env _ _ _, launch0.least_env, fairChoices_fair.cas, fairChoices_fair.clock, w_frames, w_args, w_heap, w_applies, trivial, trivial, w_case⟩
end start1
theorem witness_1 : WitnessClaimed_1 := ⟨start1.p0, start1.e0, start1.about1, start1.theMethod, start1.args0, start1.below0, start1.atStart⟩
end Jvm.Pilot.@@N@@
