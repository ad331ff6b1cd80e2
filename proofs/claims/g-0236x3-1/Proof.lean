import JvmDerived
import JvmDerived.Pilot.@@N@@Statement
import JvmDerived.Pilot.@@N@@Code
set_option linter.unusedVariables false
set_option linter.unusedSimpArgs false
namespace Jvm.RoadKit
open Sem ClassFile Op Lib Jvm.Stand Jvm.Free Jvm.LawKit
section New
variable {p : Program} {l : Launch} {e : Env} {R : Room} {s : State} {m : MethodId} {args : Array Value} {below : List Frame} {meth : Method} {c : Code} {T : State} {locs : List Loc} {cells slots : Nat}
theorem retI (X : Stand p l e R s m args below meth c T locs cells slots) (hx : p.tables.exec = Jvm.exec) {pc : Nat} {Ls : Array Slot} {z : Int32} {rest : List Value} (hret : meth.sig.returnType = some .int) (hd : decode c.code pc = .ok (.ireturn, 1)) {fs : List Frame}
    (hl : ∀ (f : JFrame) (acts : List Action), f.method = m → f.locked = none → f.entered = [] → (doReturn e (T.setTop f) acts (some (.int z))).1 = T.setFrames fs) : Steps p.tables e below (T.setTop (mkF m pc Ls (.int z :: rest))) (T.setFrames fs) := by
  have hm' : T.vm.method? m = some meth := X.method'
  have hn : narrow .int (.int z) = .int z := rfl
  show Steps p.tables e below (T.setTop { method := m, pc := pc, locals := Ls, stack := _ :: rest, locked := none }) _
  jvm_step X.here [X.here.top, hx, hd, hm', hret, hn]
  first | (intro acts; rw [hl _ acts rfl rfl rfl]) | rw [hl _ _ rfl rfl rfl]
  exact Steps.refl _
end New
end Jvm.RoadKit
namespace Jvm.Pilot.@@N@@
open Jvm Jvm.ClassFile Sem Op Lib Jvm.Free Jvm.Stand Jvm.LawKit Jvm.RoadKit Bundle Jvm.Pilot.@@N@@.Jvm.D
/-! TABLES of this claim: printed by claim.py -/
def k0 : Nat := 0
def cName : String := "NakMulticast"
def cN : Nat := 26
def nF : Nat := 25
def kName (k : Nat) : String := bif Nat.beq k 0 then "NakMulticastL1" else "NakMulticast"
def fNm (k : Nat) : String := (bif Nat.ble 12 k then (bif Nat.ble 18 k then (bif Nat.ble 21 k then (bif Nat.ble 23 k then (bif Nat.ble 24 k then "qLen" else "nextSeq") else (bif Nat.ble 22 k then "period" else "repair")) else (bif Nat.ble 19 k then (bif Nat.ble 20 k then "back" else "win") else "nakBuf")) else (bif Nat.ble 15 k then (bif Nat.ble 16 k then (bif Nat.ble 17 k then "lostLen" else "lostLog") else "delLen") else (bif Nat.ble 13 k then (bif Nat.ble 14 k then "delVal" else "delSeq") else "drops"))) else (bif Nat.ble 6 k then (bif Nat.ble 9 k then (bif Nat.ble 10 k then (bif Nat.ble 11 k then "dups" else "lossLeft") else "rxTrail") else (bif Nat.ble 7 k then (bif Nat.ble 8 k then "rxLead" else "rxNext") else "rxVal")) else (bif Nat.ble 3 k then (bif Nat.ble 4 k then (bif Nat.ble 5 k then "timer" else "state") else "stats") else (bif Nat.ble 1 k then (bif Nat.ble 2 k then "queue" else "pend") else "srcPayload"))))
def fDs (k : Nat) : String := (bif Nat.ble 12 k then (bif Nat.ble 18 k then (bif Nat.ble 21 k then (bif Nat.ble 23 k then (bif Nat.ble 24 k then "I" else "I") else (bif Nat.ble 22 k then "I" else "I")) else (bif Nat.ble 19 k then (bif Nat.ble 20 k then "I" else "I") else "[I")) else (bif Nat.ble 15 k then (bif Nat.ble 16 k then (bif Nat.ble 17 k then "[I" else "[I") else "[I") else (bif Nat.ble 13 k then (bif Nat.ble 14 k then "[I" else "[I") else "[I"))) else (bif Nat.ble 6 k then (bif Nat.ble 9 k then (bif Nat.ble 10 k then (bif Nat.ble 11 k then "[I" else "[I") else "[I") else (bif Nat.ble 7 k then (bif Nat.ble 8 k then "[I" else "[I") else "[I")) else (bif Nat.ble 3 k then (bif Nat.ble 4 k then (bif Nat.ble 5 k then "[I" else "[I") else "[I") else (bif Nat.ble 1 k then (bif Nat.ble 2 k then "[I" else "[Z") else "[I"))))
def fTy (k : Nat) : FieldType := (bif Nat.ble 12 k then (bif Nat.ble 18 k then (bif Nat.ble 21 k then (bif Nat.ble 23 k then (bif Nat.ble 24 k then .int else .int) else (bif Nat.ble 22 k then .int else .int)) else (bif Nat.ble 19 k then (bif Nat.ble 20 k then .int else .int) else (.array .int))) else (bif Nat.ble 15 k then (bif Nat.ble 16 k then (bif Nat.ble 17 k then (.array .int) else (.array .int)) else (.array .int)) else (bif Nat.ble 13 k then (bif Nat.ble 14 k then (.array .int) else (.array .int)) else (.array .int)))) else (bif Nat.ble 6 k then (bif Nat.ble 9 k then (bif Nat.ble 10 k then (bif Nat.ble 11 k then (.array .int) else (.array .int)) else (.array .int)) else (bif Nat.ble 7 k then (bif Nat.ble 8 k then (.array .int) else (.array .int)) else (.array .int))) else (bif Nat.ble 3 k then (bif Nat.ble 4 k then (bif Nat.ble 5 k then (.array .int) else (.array .int)) else (.array .int)) else (bif Nat.ble 1 k then (bif Nat.ble 2 k then (.array .int) else (.array .boolean)) else (.array .int)))))
def fFin (k : Nat) : Bool := (bif Nat.ble 12 k then (bif Nat.ble 18 k then (bif Nat.ble 21 k then (bif Nat.ble 23 k then (bif Nat.ble 24 k then false else false) else (bif Nat.ble 22 k then false else false)) else (bif Nat.ble 19 k then (bif Nat.ble 20 k then false else false) else true)) else (bif Nat.ble 15 k then (bif Nat.ble 16 k then (bif Nat.ble 17 k then true else true) else true) else (bif Nat.ble 13 k then (bif Nat.ble 14 k then true else true) else true))) else (bif Nat.ble 6 k then (bif Nat.ble 9 k then (bif Nat.ble 10 k then (bif Nat.ble 11 k then true else true) else true) else (bif Nat.ble 7 k then (bif Nat.ble 8 k then true else true) else true)) else (bif Nat.ble 3 k then (bif Nat.ble 4 k then (bif Nat.ble 5 k then true else true) else true) else (bif Nat.ble 1 k then (bif Nat.ble 2 k then true else true) else true))))
def cDef : List Value := [.null, .null, .null, .null, .null, .null, .null, .null, .null, .null, .null, .null, .null, .null, .null, .null, .null, .null, .null, .int 0, .int 0, .int 0, .int 0, .int 0, .int 0]
def cK : List Value := []
def pN : Nat := 21
def pTop : Nat := 228
def pK (m : Nat) : Nat := (bif Nat.ble 10 m then (bif Nat.ble 15 m then (bif Nat.ble 18 m then (bif Nat.ble 19 m then (bif Nat.ble 20 m then 1 else 1) else 1) else (bif Nat.ble 16 m then (bif Nat.ble 17 m then 1 else 1) else 1)) else (bif Nat.ble 12 m then (bif Nat.ble 13 m then (bif Nat.ble 14 m then 1 else 1) else 1) else (bif Nat.ble 11 m then 1 else 1))) else (bif Nat.ble 5 m then (bif Nat.ble 7 m then (bif Nat.ble 8 m then (bif Nat.ble 9 m then 1 else 1) else 1) else (bif Nat.ble 6 m then 1 else 1)) else (bif Nat.ble 2 m then (bif Nat.ble 3 m then (bif Nat.ble 4 m then 1 else 1) else 1) else (bif Nat.ble 1 m then 1 else 0))))
def pNm (m : Nat) : String := (bif Nat.ble 10 m then (bif Nat.ble 15 m then (bif Nat.ble 18 m then (bif Nat.ble 19 m then (bif Nat.ble 20 m then "sourceTrail" else "deliveredValue") else "validRx") else (bif Nat.ble 16 m then (bif Nat.ble 17 m then "rxInfo" else "stat") else "sourceLead")) else (bif Nat.ble 12 m then (bif Nat.ble 13 m then (bif Nat.ble 14 m then "appendDelivered" else "deliver") else "applyTrail") else (bif Nat.ble 11 m then "applyLead" else "validSeq"))) else (bif Nat.ble 5 m then (bif Nat.ble 7 m then (bif Nat.ble 8 m then (bif Nat.ble 9 m then "applyData" else "copyTo") else "aggregatorApply") else (bif Nat.ble 6 m then "trail" else "lead")) else (bif Nat.ble 2 m then (bif Nat.ble 3 m then (bif Nat.ble 4 m then "multicastSource" else "send") else "clamp") else (bif Nat.ble 1 m then "<init>" else "law"))))
def pDs (m : Nat) : String := (bif Nat.ble 10 m then (bif Nat.ble 15 m then (bif Nat.ble 18 m then (bif Nat.ble 19 m then (bif Nat.ble 20 m then "()I" else "(II)I") else "(I)Z") else (bif Nat.ble 16 m then (bif Nat.ble 17 m then "(II)I" else "(I)I") else "()I")) else (bif Nat.ble 12 m then (bif Nat.ble 13 m then (bif Nat.ble 14 m then "(III)V" else "(I)V") else "(II)V") else (bif Nat.ble 11 m then "(II)V" else "(I)Z"))) else (bif Nat.ble 5 m then (bif Nat.ble 7 m then (bif Nat.ble 8 m then (bif Nat.ble 9 m then "(IIIII)V" else "(IIIIII)V") else "(III)V") else (bif Nat.ble 6 m then "()I" else "()I")) else (bif Nat.ble 2 m then (bif Nat.ble 3 m then (bif Nat.ble 4 m then "(III)V" else "(I)I") else "(III)I") else (bif Nat.ble 1 m then "(IIII)V" else "(IIIII)Z"))))
def pName (m : Nat) : MethodName := ⟨kName (pK m), pNm m, pDs m⟩
def pBytes (m : Nat) : ByteArray := (bif Nat.ble 10 m then (bif Nat.ble 15 m then (bif Nat.ble 18 m then (bif Nat.ble 19 m then (bif Nat.ble 20 m then prog_1_method_7_code else prog_1_method_15_code) else prog_1_method_18_code) else (bif Nat.ble 16 m then (bif Nat.ble 17 m then prog_1_method_11_code else prog_1_method_8_code) else prog_1_method_6_code)) else (bif Nat.ble 12 m then (bif Nat.ble 13 m then (bif Nat.ble 14 m then prog_1_method_34_code else prog_1_method_33_code) else prog_1_method_31_code) else (bif Nat.ble 11 m then prog_1_method_30_code else prog_1_method_19_code))) else (bif Nat.ble 5 m then (bif Nat.ble 7 m then (bif Nat.ble 8 m then (bif Nat.ble 9 m then prog_1_method_28_code else prog_1_method_27_code) else prog_1_method_25_code) else (bif Nat.ble 6 m then prog_1_method_21_code else prog_1_method_20_code)) else (bif Nat.ble 2 m then (bif Nat.ble 3 m then (bif Nat.ble 4 m then prog_1_method_24_code else prog_1_method_2_code) else prog_1_method_17_code) else (bif Nat.ble 1 m then prog_1_method_1_code else code))))
def pMaxL (m : Nat) : Nat := (bif Nat.ble 10 m then (bif Nat.ble 15 m then (bif Nat.ble 18 m then (bif Nat.ble 19 m then (bif Nat.ble 20 m then 1 else 3) else 2) else (bif Nat.ble 16 m then (bif Nat.ble 17 m then 3 else 2) else 1)) else (bif Nat.ble 12 m then (bif Nat.ble 13 m then (bif Nat.ble 14 m then 5 else 5) else 7) else (bif Nat.ble 11 m then 6 else 2))) else (bif Nat.ble 5 m then (bif Nat.ble 7 m then (bif Nat.ble 8 m then (bif Nat.ble 9 m then 8 else 7) else 5) else (bif Nat.ble 6 m then 2 else 1)) else (bif Nat.ble 2 m then (bif Nat.ble 3 m then (bif Nat.ble 4 m then 7 else 3) else 4) else (bif Nat.ble 1 m then 6 else 13))))
def pRet (m : Nat) : Option FieldType := (bif Nat.ble 10 m then (bif Nat.ble 15 m then (bif Nat.ble 18 m then (bif Nat.ble 19 m then (bif Nat.ble 20 m then (some .int) else (some .int)) else (some .boolean)) else (bif Nat.ble 16 m then (bif Nat.ble 17 m then (some .int) else (some .int)) else (some .int))) else (bif Nat.ble 12 m then (bif Nat.ble 13 m then (bif Nat.ble 14 m then none else none) else none) else (bif Nat.ble 11 m then none else (some .boolean)))) else (bif Nat.ble 5 m then (bif Nat.ble 7 m then (bif Nat.ble 8 m then (bif Nat.ble 9 m then none else none) else none) else (bif Nat.ble 6 m then (some .int) else (some .int))) else (bif Nat.ble 2 m then (bif Nat.ble 3 m then (bif Nat.ble 4 m then none else (some .int)) else (some .int)) else (bif Nat.ble 1 m then none else (some .boolean)))))
def pNA (m : Nat) : Nat := (bif Nat.ble 10 m then (bif Nat.ble 15 m then (bif Nat.ble 18 m then (bif Nat.ble 19 m then (bif Nat.ble 20 m then 0 else 2) else 1) else (bif Nat.ble 16 m then (bif Nat.ble 17 m then 2 else 1) else 0)) else (bif Nat.ble 12 m then (bif Nat.ble 13 m then (bif Nat.ble 14 m then 3 else 1) else 2) else (bif Nat.ble 11 m then 2 else 1))) else (bif Nat.ble 5 m then (bif Nat.ble 7 m then (bif Nat.ble 8 m then (bif Nat.ble 9 m then 5 else 6) else 3) else (bif Nat.ble 6 m then 0 else 0)) else (bif Nat.ble 2 m then (bif Nat.ble 3 m then (bif Nat.ble 4 m then 3 else 1) else 3) else (bif Nat.ble 1 m then 4 else 5))))
def pFr (m : Nat) : Nat := (bif Nat.ble 10 m then (bif Nat.ble 15 m then (bif Nat.ble 18 m then (bif Nat.ble 19 m then (bif Nat.ble 20 m then 1 else 1) else 0) else (bif Nat.ble 16 m then (bif Nat.ble 17 m then 1 else 0) else 1)) else (bif Nat.ble 12 m then (bif Nat.ble 13 m then (bif Nat.ble 14 m then 0 else 1) else 0) else (bif Nat.ble 11 m then 0 else 0))) else (bif Nat.ble 5 m then (bif Nat.ble 7 m then (bif Nat.ble 8 m then (bif Nat.ble 9 m then 2 else 3) else 1) else (bif Nat.ble 6 m then 0 else 0)) else (bif Nat.ble 2 m then (bif Nat.ble 3 m then (bif Nat.ble 4 m then 4 else 5) else 0) else (bif Nat.ble 1 m then 1 else 6))))
def pLo (m : Nat) : Nat := (bif Nat.ble 10 m then (bif Nat.ble 15 m then (bif Nat.ble 18 m then (bif Nat.ble 19 m then (bif Nat.ble 20 m then 13 else 13) else 0) else (bif Nat.ble 16 m then (bif Nat.ble 17 m then 13 else 0) else 12)) else (bif Nat.ble 12 m then (bif Nat.ble 13 m then (bif Nat.ble 14 m then 0 else 16) else 0) else (bif Nat.ble 11 m then 0 else 0))) else (bif Nat.ble 5 m then (bif Nat.ble 7 m then (bif Nat.ble 8 m then (bif Nat.ble 9 m then 32 else 51) else 13) else (bif Nat.ble 6 m then 0 else 0)) else (bif Nat.ble 2 m then (bif Nat.ble 3 m then (bif Nat.ble 4 m then 69 else 87) else 0) else (bif Nat.ble 1 m then 16 else 101))))
def cd0 (pc : Nat) : Option (Instr × Nat) := (bif Nat.ble 91 pc then (bif Nat.ble 134 pc then (bif Nat.ble 156 pc then (bif Nat.ble 168 pc then (bif Nat.ble 174 pc then (bif Nat.ble 177 pc then (bif Nat.ble 178 pc then (bif Nat.beq pc 178 then some (.ireturn, 0) else none) else (bif Nat.beq pc 177 then some (.iconst 0, 0) else none)) else (bif Nat.beq pc 174 then some (.goto 4, 178) else none)) else (bif Nat.ble 170 pc then (bif Nat.ble 173 pc then (bif Nat.beq pc 173 then some (.iconst 1, 0) else none) else (bif Nat.beq pc 170 then some (.ifCond .ne 7, 177) else none)) else (bif Nat.beq pc 168 then some (.iload 12, 0) else none))) else (bif Nat.ble 161 pc then (bif Nat.ble 163 pc then (bif Nat.ble 166 pc then (bif Nat.beq pc 166 then some (.istore 12, 0) else none) else (bif Nat.beq pc 163 then some (.invokevirtual 30, 20) else none)) else (bif Nat.beq pc 161 then some (.aload 5, 0) else none)) else (bif Nat.ble 159 pc then (bif Nat.ble 160 pc then (bif Nat.beq pc 160 then some (.ireturn, 0) else none) else (bif Nat.beq pc 159 then some (.iconst 0, 0) else none)) else (bif Nat.beq pc 156 then some (.if_icmp .eq 5, 161) else none)))) else (bif Nat.ble 143 pc then (bif Nat.ble 150 pc then (bif Nat.ble 152 pc then (bif Nat.ble 155 pc then (bif Nat.beq pc 155 then some (.iconst (-1), 0) else none) else (bif Nat.beq pc 152 then some (.goto 4, 156) else none)) else (bif Nat.beq pc 150 then some (.iload 4, 0) else none)) else (bif Nat.ble 145 pc then (bif Nat.ble 147 pc then (bif Nat.beq pc 147 then some (.ifCond .eq 8, 155) else none) else (bif Nat.beq pc 145 then some (.iload 6, 0) else none)) else (bif Nat.beq pc 143 then some (.iload 11, 0) else none))) else (bif Nat.ble 137 pc then (bif Nat.ble 138 pc then (bif Nat.ble 141 pc then (bif Nat.beq pc 141 then some (.istore 11, 0) else none) else (bif Nat.beq pc 138 then some (.invokevirtual 27, 19) else none)) else (bif Nat.beq pc 137 then some (.iconst 0, 0) else none)) else (bif Nat.ble 136 pc then (bif Nat.beq pc 136 then some (.iconst 3, 0) else none) else (bif Nat.beq pc 134 then some (.aload 5, 0) else none))))) else (bif Nat.ble 111 pc then (bif Nat.ble 124 pc then (bif Nat.ble 129 pc then (bif Nat.ble 132 pc then (bif Nat.ble 133 pc then (bif Nat.beq pc 133 then some (.ireturn, 0) else none) else (bif Nat.beq pc 132 then some (.iconst 0, 0) else none)) else (bif Nat.beq pc 129 then some (.if_icmp .eq 5, 134) else none)) else (bif Nat.ble 125 pc then (bif Nat.ble 128 pc then (bif Nat.beq pc 128 then some (.iconst 0, 0) else none) else (bif Nat.beq pc 125 then some (.goto 4, 129) else none)) else (bif Nat.beq pc 124 then some (.iconst 1, 0) else none))) else (bif Nat.ble 117 pc then (bif Nat.ble 119 pc then (bif Nat.ble 121 pc then (bif Nat.beq pc 121 then some (.ifCond .eq 7, 128) else none) else (bif Nat.beq pc 119 then some (.iload 6, 0) else none)) else (bif Nat.beq pc 117 then some (.iload 10, 0) else none)) else (bif Nat.ble 112 pc then (bif Nat.ble 115 pc then (bif Nat.beq pc 115 then some (.istore 10, 0) else none) else (bif Nat.beq pc 112 then some (.invokevirtual 23, 17) else none)) else (bif Nat.beq pc 111 then some (.iconst 0, 0) else none)))) else (bif Nat.ble 102 pc then (bif Nat.ble 107 pc then (bif Nat.ble 108 pc then (bif Nat.ble 110 pc then (bif Nat.beq pc 110 then some (.iconst 3, 0) else none) else (bif Nat.beq pc 108 then some (.aload 5, 0) else none)) else (bif Nat.beq pc 107 then some (.ireturn, 0) else none)) else (bif Nat.ble 103 pc then (bif Nat.ble 106 pc then (bif Nat.beq pc 106 then some (.iconst 0, 0) else none) else (bif Nat.beq pc 103 then some (.if_icmp .eq 5, 108) else none)) else (bif Nat.beq pc 102 then some (.iconst 0, 0) else none))) else (bif Nat.ble 95 pc then (bif Nat.ble 98 pc then (bif Nat.ble 99 pc then (bif Nat.beq pc 99 then some (.goto 4, 103) else none) else (bif Nat.beq pc 98 then some (.iconst 1, 0) else none)) else (bif Nat.beq pc 95 then some (.ifCond .eq 7, 102) else none)) else (bif Nat.ble 93 pc then (bif Nat.beq pc 93 then some (.iload 6, 0) else none) else (bif Nat.beq pc 91 then some (.iload 9, 0) else none)))))) else (bif Nat.ble 46 pc then (bif Nat.ble 68 pc then (bif Nat.ble 81 pc then (bif Nat.ble 85 pc then (bif Nat.ble 86 pc then (bif Nat.ble 89 pc then (bif Nat.beq pc 89 then some (.istore 9, 0) else none) else (bif Nat.beq pc 86 then some (.invokevirtual 20, 16) else none)) else (bif Nat.beq pc 85 then some (.iconst 1, 0) else none)) else (bif Nat.ble 82 pc then (bif Nat.ble 83 pc then (bif Nat.beq pc 83 then some (.aload 5, 0) else none) else (bif Nat.beq pc 82 then some (.ireturn, 0) else none)) else (bif Nat.beq pc 81 then some (.iconst 0, 0) else none))) else (bif Nat.ble 74 pc then (bif Nat.ble 77 pc then (bif Nat.ble 78 pc then (bif Nat.beq pc 78 then some (.if_icmp .eq 5, 83) else none) else (bif Nat.beq pc 77 then some (.iconst (-1), 0) else none)) else (bif Nat.beq pc 74 then some (.goto 4, 78) else none)) else (bif Nat.ble 70 pc then (bif Nat.ble 73 pc then (bif Nat.beq pc 73 then some (.iconst 0, 0) else none) else (bif Nat.beq pc 70 then some (.ifCond .eq 7, 77) else none)) else (bif Nat.beq pc 68 then some (.iload 6, 0) else none)))) else (bif Nat.ble 57 pc then (bif Nat.ble 61 pc then (bif Nat.ble 64 pc then (bif Nat.ble 66 pc then (bif Nat.beq pc 66 then some (.iload 8, 0) else none) else (bif Nat.beq pc 64 then some (.istore 8, 0) else none)) else (bif Nat.beq pc 61 then some (.invokevirtual 16, 15) else none)) else (bif Nat.ble 58 pc then (bif Nat.ble 59 pc then (bif Nat.beq pc 59 then some (.aload 5, 0) else none) else (bif Nat.beq pc 58 then some (.ireturn, 0) else none)) else (bif Nat.beq pc 57 then some (.iconst 0, 0) else none))) else (bif Nat.ble 50 pc then (bif Nat.ble 53 pc then (bif Nat.ble 54 pc then (bif Nat.beq pc 54 then some (.if_icmp .eq 5, 59) else none) else (bif Nat.beq pc 53 then some (.iconst (-1), 0) else none)) else (bif Nat.beq pc 50 then some (.goto 4, 54) else none)) else (bif Nat.ble 49 pc then (bif Nat.beq pc 49 then some (.iconst 0, 0) else none) else (bif Nat.beq pc 46 then some (.ifCond .eq 7, 53) else none))))) else (bif Nat.ble 20 pc then (bif Nat.ble 33 pc then (bif Nat.ble 40 pc then (bif Nat.ble 42 pc then (bif Nat.ble 44 pc then (bif Nat.beq pc 44 then some (.iload 6, 0) else none) else (bif Nat.beq pc 42 then some (.iload 7, 0) else none)) else (bif Nat.beq pc 40 then some (.istore 7, 0) else none)) else (bif Nat.ble 35 pc then (bif Nat.ble 37 pc then (bif Nat.beq pc 37 then some (.invokevirtual 12, 3) else none) else (bif Nat.beq pc 35 then some (.iload 4, 0) else none)) else (bif Nat.beq pc 33 then some (.aload 5, 0) else none))) else (bif Nat.ble 27 pc then (bif Nat.ble 30 pc then (bif Nat.ble 31 pc then (bif Nat.beq pc 31 then some (.istore 6, 0) else none) else (bif Nat.beq pc 30 then some (.iconst 0, 0) else none)) else (bif Nat.beq pc 27 then some (.goto 4, 31) else none)) else (bif Nat.ble 23 pc then (bif Nat.ble 26 pc then (bif Nat.beq pc 26 then some (.iconst 1, 0) else none) else (bif Nat.beq pc 23 then some (.if_icmp .gt 7, 30) else none)) else (bif Nat.beq pc 20 then some (.sipush 255, 0) else none)))) else (bif Nat.ble 7 pc then (bif Nat.ble 13 pc then (bif Nat.ble 15 pc then (bif Nat.ble 18 pc then (bif Nat.beq pc 18 then some (.iload 4, 0) else none) else (bif Nat.beq pc 15 then some (.ifCond .lt 15, 30) else none)) else (bif Nat.beq pc 13 then some (.iload 4, 0) else none)) else (bif Nat.ble 8 pc then (bif Nat.ble 11 pc then (bif Nat.beq pc 11 then some (.astore 5, 0) else none) else (bif Nat.beq pc 8 then some (.invokespecial 9, 1) else none)) else (bif Nat.beq pc 7 then some (.iload_n 3, 0) else none))) else (bif Nat.ble 4 pc then (bif Nat.ble 5 pc then (bif Nat.ble 6 pc then (bif Nat.beq pc 6 then some (.iload_n 2, 0) else none) else (bif Nat.beq pc 5 then some (.iload_n 1, 0) else none)) else (bif Nat.beq pc 4 then some (.iload_n 0, 0) else none)) else (bif Nat.ble 3 pc then (bif Nat.beq pc 3 then some (.dup, 0) else none) else (bif Nat.beq pc 0 then some (.new 7, 0) else none)))))))
def cd1 (pc : Nat) : Option (Instr × Nat) := (bif Nat.ble 115 pc then (bif Nat.ble 171 pc then (bif Nat.ble 198 pc then (bif Nat.ble 213 pc then (bif Nat.ble 220 pc then (bif Nat.ble 224 pc then (bif Nat.ble 227 pc then (bif Nat.beq pc 227 then some (.return_, 0) else none) else (bif Nat.beq pc 224 then some (.goto (-17), 207) else none)) else (bif Nat.ble 221 pc then (bif Nat.beq pc 221 then some (.iinc 5 1, 0) else none) else (bif Nat.beq pc 220 then some (.iastore, 0) else none))) else (bif Nat.ble 217 pc then (bif Nat.ble 219 pc then (bif Nat.beq pc 219 then some (.iconst (-1), 0) else none) else (bif Nat.beq pc 217 then some (.iload 5, 0) else none)) else (bif Nat.ble 214 pc then (bif Nat.beq pc 214 then some (.getfield 35, 8) else none) else (bif Nat.beq pc 213 then some (.aload_n 0, 0) else none)))) else (bif Nat.ble 205 pc then (bif Nat.ble 209 pc then (bif Nat.ble 210 pc then (bif Nat.beq pc 210 then some (.if_icmp .ge 17, 227) else none) else (bif Nat.beq pc 209 then some (.iconst 4, 0) else none)) else (bif Nat.ble 207 pc then (bif Nat.beq pc 207 then some (.iload 5, 0) else none) else (bif Nat.beq pc 205 then some (.istore 5, 0) else none))) else (bif Nat.ble 201 pc then (bif Nat.ble 204 pc then (bif Nat.beq pc 204 then some (.iconst 0, 0) else none) else (bif Nat.beq pc 201 then some (.putfield 82, 22) else none)) else (bif Nat.beq pc 198 then some (.invokevirtual 68, 2) else none)))) else (bif Nat.ble 183 pc then (bif Nat.ble 192 pc then (bif Nat.ble 195 pc then (bif Nat.ble 196 pc then (bif Nat.beq pc 196 then some (.bipush 16, 0) else none) else (bif Nat.beq pc 195 then some (.iconst 0, 0) else none)) else (bif Nat.ble 193 pc then (bif Nat.beq pc 193 then some (.iload 4, 0) else none) else (bif Nat.beq pc 192 then some (.aload_n 0, 0) else none))) else (bif Nat.ble 188 pc then (bif Nat.ble 191 pc then (bif Nat.beq pc 191 then some (.aload_n 0, 0) else none) else (bif Nat.beq pc 188 then some (.putfield 79, 21) else none)) else (bif Nat.ble 185 pc then (bif Nat.beq pc 185 then some (.invokevirtual 68, 2) else none) else (bif Nat.beq pc 183 then some (.bipush 8, 0) else none)))) else (bif Nat.ble 179 pc then (bif Nat.ble 181 pc then (bif Nat.ble 182 pc then (bif Nat.beq pc 182 then some (.iconst 1, 0) else none) else (bif Nat.beq pc 181 then some (.iload_n 3, 0) else none)) else (bif Nat.ble 180 pc then (bif Nat.beq pc 180 then some (.aload_n 0, 0) else none) else (bif Nat.beq pc 179 then some (.aload_n 0, 0) else none))) else (bif Nat.ble 173 pc then (bif Nat.ble 176 pc then (bif Nat.beq pc 176 then some (.putfield 76, 20) else none) else (bif Nat.beq pc 173 then some (.invokevirtual 68, 2) else none)) else (bif Nat.beq pc 171 then some (.bipush 8, 0) else none))))) else (bif Nat.ble 146 pc then (bif Nat.ble 158 pc then (bif Nat.ble 167 pc then (bif Nat.ble 169 pc then (bif Nat.ble 170 pc then (bif Nat.beq pc 170 then some (.iconst 1, 0) else none) else (bif Nat.beq pc 169 then some (.iload_n 2, 0) else none)) else (bif Nat.ble 168 pc then (bif Nat.beq pc 168 then some (.aload_n 0, 0) else none) else (bif Nat.beq pc 167 then some (.aload_n 0, 0) else none))) else (bif Nat.ble 161 pc then (bif Nat.ble 164 pc then (bif Nat.beq pc 164 then some (.putfield 72, 19) else none) else (bif Nat.beq pc 161 then some (.invokevirtual 68, 2) else none)) else (bif Nat.ble 159 pc then (bif Nat.beq pc 159 then some (.bipush 16, 0) else none) else (bif Nat.beq pc 158 then some (.iconst 2, 0) else none)))) else (bif Nat.ble 152 pc then (bif Nat.ble 156 pc then (bif Nat.ble 157 pc then (bif Nat.beq pc 157 then some (.iload_n 1, 0) else none) else (bif Nat.beq pc 156 then some (.aload_n 0, 0) else none)) else (bif Nat.ble 155 pc then (bif Nat.beq pc 155 then some (.aload_n 0, 0) else none) else (bif Nat.beq pc 152 then some (.putfield 65, 18) else none))) else (bif Nat.ble 147 pc then (bif Nat.ble 150 pc then (bif Nat.beq pc 150 then some (.newarray .int, 0) else none) else (bif Nat.beq pc 147 then some (.sipush 128, 0) else none)) else (bif Nat.beq pc 146 then some (.aload_n 0, 0) else none)))) else (bif Nat.ble 130 pc then (bif Nat.ble 139 pc then (bif Nat.ble 141 pc then (bif Nat.ble 143 pc then (bif Nat.beq pc 143 then some (.putfield 62, 17) else none) else (bif Nat.beq pc 141 then some (.newarray .int, 0) else none)) else (bif Nat.ble 140 pc then (bif Nat.beq pc 140 then some (.iconst 4, 0) else none) else (bif Nat.beq pc 139 then some (.aload_n 0, 0) else none))) else (bif Nat.ble 134 pc then (bif Nat.ble 136 pc then (bif Nat.beq pc 136 then some (.putfield 59, 16) else none) else (bif Nat.beq pc 134 then some (.newarray .int, 0) else none)) else (bif Nat.ble 131 pc then (bif Nat.beq pc 131 then some (.sipush 128, 0) else none) else (bif Nat.beq pc 130 then some (.aload_n 0, 0) else none)))) else (bif Nat.ble 123 pc then (bif Nat.ble 125 pc then (bif Nat.ble 127 pc then (bif Nat.beq pc 127 then some (.putfield 56, 15) else none) else (bif Nat.beq pc 125 then some (.newarray .int, 0) else none)) else (bif Nat.ble 124 pc then (bif Nat.beq pc 124 then some (.iconst 4, 0) else none) else (bif Nat.beq pc 123 then some (.aload_n 0, 0) else none))) else (bif Nat.ble 118 pc then (bif Nat.ble 120 pc then (bif Nat.beq pc 120 then some (.putfield 53, 14) else none) else (bif Nat.beq pc 118 then some (.newarray .int, 0) else none)) else (bif Nat.beq pc 115 then some (.sipush 128, 0) else none)))))) else (bif Nat.ble 60 pc then (bif Nat.ble 86 pc then (bif Nat.ble 99 pc then (bif Nat.ble 106 pc then (bif Nat.ble 111 pc then (bif Nat.ble 114 pc then (bif Nat.beq pc 114 then some (.aload_n 0, 0) else none) else (bif Nat.beq pc 111 then some (.putfield 50, 13) else none)) else (bif Nat.ble 109 pc then (bif Nat.beq pc 109 then some (.newarray .int, 0) else none) else (bif Nat.beq pc 106 then some (.sipush 128, 0) else none))) else (bif Nat.ble 102 pc then (bif Nat.ble 105 pc then (bif Nat.beq pc 105 then some (.aload_n 0, 0) else none) else (bif Nat.beq pc 102 then some (.putfield 47, 12) else none)) else (bif Nat.ble 100 pc then (bif Nat.beq pc 100 then some (.newarray .int, 0) else none) else (bif Nat.beq pc 99 then some (.iconst 4, 0) else none)))) else (bif Nat.ble 92 pc then (bif Nat.ble 95 pc then (bif Nat.ble 98 pc then (bif Nat.beq pc 98 then some (.aload_n 0, 0) else none) else (bif Nat.beq pc 95 then some (.putfield 44, 11) else none)) else (bif Nat.ble 93 pc then (bif Nat.beq pc 93 then some (.newarray .int, 0) else none) else (bif Nat.beq pc 92 then some (.iconst 4, 0) else none))) else (bif Nat.ble 88 pc then (bif Nat.ble 91 pc then (bif Nat.beq pc 91 then some (.aload_n 0, 0) else none) else (bif Nat.beq pc 88 then some (.putfield 41, 10) else none)) else (bif Nat.beq pc 86 then some (.newarray .int, 0) else none)))) else (bif Nat.ble 72 pc then (bif Nat.ble 79 pc then (bif Nat.ble 84 pc then (bif Nat.ble 85 pc then (bif Nat.beq pc 85 then some (.iconst 4, 0) else none) else (bif Nat.beq pc 84 then some (.aload_n 0, 0) else none)) else (bif Nat.ble 81 pc then (bif Nat.beq pc 81 then some (.putfield 38, 9) else none) else (bif Nat.beq pc 79 then some (.newarray .int, 0) else none))) else (bif Nat.ble 77 pc then (bif Nat.ble 78 pc then (bif Nat.beq pc 78 then some (.iconst 4, 0) else none) else (bif Nat.beq pc 77 then some (.aload_n 0, 0) else none)) else (bif Nat.ble 74 pc then (bif Nat.beq pc 74 then some (.putfield 35, 8) else none) else (bif Nat.beq pc 72 then some (.newarray .int, 0) else none)))) else (bif Nat.ble 65 pc then (bif Nat.ble 70 pc then (bif Nat.ble 71 pc then (bif Nat.beq pc 71 then some (.iconst 4, 0) else none) else (bif Nat.beq pc 70 then some (.aload_n 0, 0) else none)) else (bif Nat.ble 67 pc then (bif Nat.beq pc 67 then some (.putfield 32, 7) else none) else (bif Nat.beq pc 65 then some (.newarray .int, 0) else none))) else (bif Nat.ble 63 pc then (bif Nat.ble 64 pc then (bif Nat.beq pc 64 then some (.iconst 4, 0) else none) else (bif Nat.beq pc 63 then some (.aload_n 0, 0) else none)) else (bif Nat.beq pc 60 then some (.putfield 29, 6) else none))))) else (bif Nat.ble 28 pc then (bif Nat.ble 42 pc then (bif Nat.ble 51 pc then (bif Nat.ble 55 pc then (bif Nat.ble 58 pc then (bif Nat.beq pc 58 then some (.newarray .int, 0) else none) else (bif Nat.beq pc 55 then some (.sipush 128, 0) else none)) else (bif Nat.ble 54 pc then (bif Nat.beq pc 54 then some (.aload_n 0, 0) else none) else (bif Nat.beq pc 51 then some (.putfield 26, 5) else none))) else (bif Nat.ble 46 pc then (bif Nat.ble 49 pc then (bif Nat.beq pc 49 then some (.newarray .int, 0) else none) else (bif Nat.beq pc 46 then some (.sipush 128, 0) else none)) else (bif Nat.ble 45 pc then (bif Nat.beq pc 45 then some (.aload_n 0, 0) else none) else (bif Nat.beq pc 42 then some (.putfield 23, 4) else none)))) else (bif Nat.ble 33 pc then (bif Nat.ble 37 pc then (bif Nat.ble 40 pc then (bif Nat.beq pc 40 then some (.newarray .int, 0) else none) else (bif Nat.beq pc 37 then some (.sipush 128, 0) else none)) else (bif Nat.ble 36 pc then (bif Nat.beq pc 36 then some (.aload_n 0, 0) else none) else (bif Nat.beq pc 33 then some (.putfield 20, 3) else none))) else (bif Nat.ble 29 pc then (bif Nat.ble 31 pc then (bif Nat.beq pc 31 then some (.newarray .int, 0) else none) else (bif Nat.beq pc 29 then some (.bipush 10, 0) else none)) else (bif Nat.beq pc 28 then some (.aload_n 0, 0) else none)))) else (bif Nat.ble 13 pc then (bif Nat.ble 20 pc then (bif Nat.ble 23 pc then (bif Nat.ble 25 pc then (bif Nat.beq pc 25 then some (.putfield 17, 2) else none) else (bif Nat.beq pc 23 then some (.newarray .int, 0) else none)) else (bif Nat.ble 21 pc then (bif Nat.beq pc 21 then some (.bipush 64, 0) else none) else (bif Nat.beq pc 20 then some (.aload_n 0, 0) else none))) else (bif Nat.ble 15 pc then (bif Nat.ble 17 pc then (bif Nat.beq pc 17 then some (.putfield 13, 1) else none) else (bif Nat.beq pc 15 then some (.newarray .boolean, 0) else none)) else (bif Nat.beq pc 13 then some (.bipush 32, 0) else none))) else (bif Nat.ble 5 pc then (bif Nat.ble 9 pc then (bif Nat.ble 12 pc then (bif Nat.beq pc 12 then some (.aload_n 0, 0) else none) else (bif Nat.beq pc 9 then some (.putfield 7, 0) else none)) else (bif Nat.ble 7 pc then (bif Nat.beq pc 7 then some (.newarray .int, 0) else none) else (bif Nat.beq pc 5 then some (.bipush 32, 0) else none))) else (bif Nat.ble 1 pc then (bif Nat.ble 4 pc then (bif Nat.beq pc 4 then some (.aload_n 0, 0) else none) else (bif Nat.beq pc 1 then some (.invokespecial 1, 0) else none)) else (bif Nat.beq pc 0 then some (.aload_n 0, 0) else none)))))))
def cd2 (pc : Nat) : Option (Instr × Nat) := (bif Nat.ble 8 pc then (bif Nat.ble 13 pc then (bif Nat.ble 14 pc then (bif Nat.ble 15 pc then (bif Nat.beq pc 15 then some (.ireturn, 0) else none) else (bif Nat.beq pc 14 then some (.iload_n 1, 0) else none)) else (bif Nat.beq pc 13 then some (.ireturn, 0) else none)) else (bif Nat.ble 9 pc then (bif Nat.ble 12 pc then (bif Nat.beq pc 12 then some (.iload_n 3, 0) else none) else (bif Nat.beq pc 9 then some (.if_icmp .le 5, 14) else none)) else (bif Nat.beq pc 8 then some (.iload_n 3, 0) else none))) else (bif Nat.ble 5 pc then (bif Nat.ble 6 pc then (bif Nat.ble 7 pc then (bif Nat.beq pc 7 then some (.iload_n 1, 0) else none) else (bif Nat.beq pc 6 then some (.ireturn, 0) else none)) else (bif Nat.beq pc 5 then some (.iload_n 2, 0) else none)) else (bif Nat.ble 1 pc then (bif Nat.ble 2 pc then (bif Nat.beq pc 2 then some (.if_icmp .ge 5, 7) else none) else (bif Nat.beq pc 1 then some (.iload_n 2, 0) else none)) else (bif Nat.beq pc 0 then some (.iload_n 1, 0) else none))))
def cd3 (pc : Nat) : Option (Instr × Nat) := (bif Nat.ble 36 pc then (bif Nat.ble 52 pc then (bif Nat.ble 57 pc then (bif Nat.ble 60 pc then (bif Nat.ble 63 pc then (bif Nat.ble 64 pc then (bif Nat.beq pc 64 then some (.ireturn, 0) else none) else (bif Nat.beq pc 63 then some (.iload_n 2, 0) else none)) else (bif Nat.beq pc 60 then some (.invokevirtual 88, 4) else none)) else (bif Nat.ble 58 pc then (bif Nat.ble 59 pc then (bif Nat.beq pc 59 then some (.iload_n 1, 0) else none) else (bif Nat.beq pc 58 then some (.iload_n 2, 0) else none)) else (bif Nat.beq pc 57 then some (.iconst 0, 0) else none))) else (bif Nat.ble 54 pc then (bif Nat.ble 55 pc then (bif Nat.ble 56 pc then (bif Nat.beq pc 56 then some (.aload_n 0, 0) else none) else (bif Nat.beq pc 55 then some (.iastore, 0) else none)) else (bif Nat.beq pc 54 then some (.iadd, 0) else none)) else (bif Nat.ble 53 pc then (bif Nat.beq pc 53 then some (.iconst 1, 0) else none) else (bif Nat.beq pc 52 then some (.iaload, 0) else none)))) else (bif Nat.ble 43 pc then (bif Nat.ble 47 pc then (bif Nat.ble 50 pc then (bif Nat.ble 51 pc then (bif Nat.beq pc 51 then some (.dup2, 0) else none) else (bif Nat.beq pc 50 then some (.iconst 1, 0) else none)) else (bif Nat.beq pc 47 then some (.getfield 20, 3) else none)) else (bif Nat.ble 46 pc then (bif Nat.beq pc 46 then some (.aload_n 0, 0) else none) else (bif Nat.beq pc 43 then some (.putfield 85, 23) else none))) else (bif Nat.ble 38 pc then (bif Nat.ble 41 pc then (bif Nat.ble 42 pc then (bif Nat.beq pc 42 then some (.iadd, 0) else none) else (bif Nat.beq pc 41 then some (.iconst 1, 0) else none)) else (bif Nat.beq pc 38 then some (.getfield 85, 23) else none)) else (bif Nat.ble 37 pc then (bif Nat.beq pc 37 then some (.aload_n 0, 0) else none) else (bif Nat.beq pc 36 then some (.aload_n 0, 0) else none))))) else (bif Nat.ble 19 pc then (bif Nat.ble 28 pc then (bif Nat.ble 33 pc then (bif Nat.ble 34 pc then (bif Nat.ble 35 pc then (bif Nat.beq pc 35 then some (.iastore, 0) else none) else (bif Nat.beq pc 34 then some (.iload_n 1, 0) else none)) else (bif Nat.beq pc 33 then some (.iload_n 2, 0) else none)) else (bif Nat.ble 29 pc then (bif Nat.ble 30 pc then (bif Nat.beq pc 30 then some (.getfield 7, 0) else none) else (bif Nat.beq pc 29 then some (.aload_n 0, 0) else none)) else (bif Nat.beq pc 28 then some (.istore_n 2, 0) else none))) else (bif Nat.ble 23 pc then (bif Nat.ble 24 pc then (bif Nat.ble 25 pc then (bif Nat.beq pc 25 then some (.getfield 85, 23) else none) else (bif Nat.beq pc 24 then some (.aload_n 0, 0) else none)) else (bif Nat.beq pc 23 then some (.ireturn, 0) else none)) else (bif Nat.ble 22 pc then (bif Nat.beq pc 22 then some (.iconst (-1), 0) else none) else (bif Nat.beq pc 19 then some (.if_icmp .lt 5, 24) else none)))) else (bif Nat.ble 11 pc then (bif Nat.ble 13 pc then (bif Nat.ble 14 pc then (bif Nat.ble 17 pc then (bif Nat.beq pc 17 then some (.bipush 32, 0) else none) else (bif Nat.beq pc 14 then some (.getfield 85, 23) else none)) else (bif Nat.beq pc 13 then some (.aload_n 0, 0) else none)) else (bif Nat.ble 12 pc then (bif Nat.beq pc 12 then some (.ireturn, 0) else none) else (bif Nat.beq pc 11 then some (.iconst (-1), 0) else none))) else (bif Nat.ble 4 pc then (bif Nat.ble 5 pc then (bif Nat.ble 8 pc then (bif Nat.beq pc 8 then some (.if_icmp .le 5, 13) else none) else (bif Nat.beq pc 5 then some (.sipush 255, 0) else none)) else (bif Nat.beq pc 4 then some (.iload_n 1, 0) else none)) else (bif Nat.ble 1 pc then (bif Nat.beq pc 1 then some (.ifCond .lt 10, 11) else none) else (bif Nat.beq pc 0 then some (.iload_n 1, 0) else none))))))
def cd4 (pc : Nat) : Option (Instr × Nat) := (bif Nat.ble 23 pc then (bif Nat.ble 34 pc then (bif Nat.ble 39 pc then (bif Nat.ble 45 pc then (bif Nat.ble 48 pc then (bif Nat.beq pc 48 then some (.return_, 0) else none) else (bif Nat.beq pc 45 then some (.goto (-22), 23) else none)) else (bif Nat.ble 42 pc then (bif Nat.beq pc 42 then some (.iinc 6 1, 0) else none) else (bif Nat.beq pc 39 then some (.invokevirtual 121, 8) else none))) else (bif Nat.ble 35 pc then (bif Nat.ble 37 pc then (bif Nat.beq pc 37 then some (.iload 5, 0) else none) else (bif Nat.beq pc 35 then some (.iload 4, 0) else none)) else (bif Nat.beq pc 34 then some (.iload_n 3, 0) else none))) else (bif Nat.ble 29 pc then (bif Nat.ble 32 pc then (bif Nat.ble 33 pc then (bif Nat.beq pc 33 then some (.iload_n 2, 0) else none) else (bif Nat.beq pc 32 then some (.iload_n 1, 0) else none)) else (bif Nat.ble 30 pc then (bif Nat.beq pc 30 then some (.iload 6, 0) else none) else (bif Nat.beq pc 29 then some (.aload_n 0, 0) else none))) else (bif Nat.ble 25 pc then (bif Nat.ble 26 pc then (bif Nat.beq pc 26 then some (.if_icmp .ge 22, 48) else none) else (bif Nat.beq pc 25 then some (.iconst 4, 0) else none)) else (bif Nat.beq pc 23 then some (.iload 6, 0) else none)))) else (bif Nat.ble 12 pc then (bif Nat.ble 15 pc then (bif Nat.ble 20 pc then (bif Nat.ble 21 pc then (bif Nat.beq pc 21 then some (.istore 6, 0) else none) else (bif Nat.beq pc 20 then some (.iconst 0, 0) else none)) else (bif Nat.ble 17 pc then (bif Nat.beq pc 17 then some (.invokevirtual 118, 7) else none) else (bif Nat.beq pc 15 then some (.iload 5, 0) else none))) else (bif Nat.ble 13 pc then (bif Nat.ble 14 pc then (bif Nat.beq pc 14 then some (.iload_n 2, 0) else none) else (bif Nat.beq pc 13 then some (.iload_n 1, 0) else none)) else (bif Nat.beq pc 12 then some (.aload_n 0, 0) else none))) else (bif Nat.ble 6 pc then (bif Nat.ble 7 pc then (bif Nat.ble 10 pc then (bif Nat.beq pc 10 then some (.istore 5, 0) else none) else (bif Nat.beq pc 7 then some (.invokevirtual 109, 6) else none)) else (bif Nat.beq pc 6 then some (.aload_n 0, 0) else none)) else (bif Nat.ble 1 pc then (bif Nat.ble 4 pc then (bif Nat.beq pc 4 then some (.istore 4, 0) else none) else (bif Nat.beq pc 1 then some (.invokevirtual 105, 5) else none)) else (bif Nat.beq pc 0 then some (.aload_n 0, 0) else none)))))
def cd5 (pc : Nat) : Option (Instr × Nat) := (bif Nat.ble 4 pc then (bif Nat.ble 5 pc then (bif Nat.ble 6 pc then (bif Nat.beq pc 6 then some (.ireturn, 0) else none) else (bif Nat.beq pc 5 then some (.isub, 0) else none)) else (bif Nat.beq pc 4 then some (.iconst 1, 0) else none)) else (bif Nat.ble 1 pc then (bif Nat.beq pc 1 then some (.getfield 85, 23) else none) else (bif Nat.beq pc 0 then some (.aload_n 0, 0) else none)))
def cd6 (pc : Nat) : Option (Instr × Nat) := (bif Nat.ble 10 pc then (bif Nat.ble 15 pc then (bif Nat.ble 16 pc then (bif Nat.ble 17 pc then (bif Nat.beq pc 17 then some (.ireturn, 0) else none) else (bif Nat.beq pc 16 then some (.iload_n 1, 0) else none)) else (bif Nat.beq pc 15 then some (.ireturn, 0) else none)) else (bif Nat.ble 11 pc then (bif Nat.ble 14 pc then (bif Nat.beq pc 14 then some (.iconst 0, 0) else none) else (bif Nat.beq pc 11 then some (.ifCond .ge 5, 16) else none)) else (bif Nat.beq pc 10 then some (.iload_n 1, 0) else none))) else (bif Nat.ble 5 pc then (bif Nat.ble 8 pc then (bif Nat.ble 9 pc then (bif Nat.beq pc 9 then some (.istore_n 1, 0) else none) else (bif Nat.beq pc 8 then some (.isub, 0) else none)) else (bif Nat.beq pc 5 then some (.getfield 72, 19) else none)) else (bif Nat.ble 1 pc then (bif Nat.ble 4 pc then (bif Nat.beq pc 4 then some (.aload_n 0, 0) else none) else (bif Nat.beq pc 1 then some (.getfield 85, 23) else none)) else (bif Nat.beq pc 0 then some (.aload_n 0, 0) else none))))
def cd7 (pc : Nat) : Option (Instr × Nat) := (bif Nat.ble 23 pc then (bif Nat.ble 37 pc then (bif Nat.ble 43 pc then (bif Nat.ble 47 pc then (bif Nat.ble 50 pc then (bif Nat.beq pc 50 then some (.return_, 0) else none) else (bif Nat.beq pc 47 then some (.goto (-24), 23) else none)) else (bif Nat.ble 44 pc then (bif Nat.beq pc 44 then some (.iinc 4 1, 0) else none) else (bif Nat.beq pc 43 then some (.bastore, 0) else none))) else (bif Nat.ble 40 pc then (bif Nat.ble 42 pc then (bif Nat.beq pc 42 then some (.iconst 0, 0) else none) else (bif Nat.beq pc 40 then some (.iload 4, 0) else none)) else (bif Nat.beq pc 37 then some (.getfield 13, 1) else none))) else (bif Nat.ble 29 pc then (bif Nat.ble 33 pc then (bif Nat.ble 36 pc then (bif Nat.beq pc 36 then some (.aload_n 0, 0) else none) else (bif Nat.beq pc 33 then some (.if_icmp .ge 17, 50) else none)) else (bif Nat.ble 31 pc then (bif Nat.beq pc 31 then some (.bipush 32, 0) else none) else (bif Nat.beq pc 29 then some (.iload 4, 0) else none))) else (bif Nat.ble 25 pc then (bif Nat.ble 26 pc then (bif Nat.beq pc 26 then some (.if_icmp .ge 24, 50) else none) else (bif Nat.beq pc 25 then some (.iload_n 3, 0) else none)) else (bif Nat.beq pc 23 then some (.iload 4, 0) else none)))) else (bif Nat.ble 13 pc then (bif Nat.ble 18 pc then (bif Nat.ble 20 pc then (bif Nat.ble 21 pc then (bif Nat.beq pc 21 then some (.istore 4, 0) else none) else (bif Nat.beq pc 20 then some (.iconst 0, 0) else none)) else (bif Nat.ble 19 pc then (bif Nat.beq pc 19 then some (.bastore, 0) else none) else (bif Nat.beq pc 18 then some (.iconst 0, 0) else none))) else (bif Nat.ble 14 pc then (bif Nat.ble 17 pc then (bif Nat.beq pc 17 then some (.iload_n 2, 0) else none) else (bif Nat.beq pc 14 then some (.getfield 13, 1) else none)) else (bif Nat.beq pc 13 then some (.aload_n 0, 0) else none))) else (bif Nat.ble 5 pc then (bif Nat.ble 7 pc then (bif Nat.ble 10 pc then (bif Nat.beq pc 10 then some (.ifCond .eq 10, 20) else none) else (bif Nat.beq pc 7 then some (.invokevirtual 115, 10) else none)) else (bif Nat.ble 6 pc then (bif Nat.beq pc 6 then some (.iload_n 2, 0) else none) else (bif Nat.beq pc 5 then some (.aload_n 0, 0) else none))) else (bif Nat.ble 1 pc then (bif Nat.ble 2 pc then (bif Nat.beq pc 2 then some (.if_icmp .ne 18, 20) else none) else (bif Nat.beq pc 1 then some (.iconst 1, 0) else none)) else (bif Nat.beq pc 0 then some (.iload_n 1, 0) else none)))))
def cd8 (pc : Nat) : Option (Instr × Nat) := (bif Nat.ble 42 pc then (bif Nat.ble 70 pc then (bif Nat.ble 84 pc then (bif Nat.ble 92 pc then (bif Nat.ble 94 pc then (bif Nat.ble 98 pc then (bif Nat.beq pc 98 then some (.return_, 0) else none) else (bif Nat.beq pc 94 then some (.iload_n 3, 0) else none)) else (bif Nat.ble 93 pc then (bif Nat.beq pc 93 then some (.iload_n 1, 0) else none) else (bif Nat.beq pc 92 then some (.aload_n 0, 0) else none))) else (bif Nat.ble 86 pc then (bif Nat.ble 89 pc then (bif Nat.beq pc 89 then some (.goto 9, 98) else none) else (bif Nat.beq pc 86 then some (.invokevirtual 136, 13) else none)) else (bif Nat.ble 85 pc then (bif Nat.beq pc 85 then some (.iload_n 1, 0) else none) else (bif Nat.beq pc 84 then some (.aload_n 0, 0) else none)))) else (bif Nat.ble 77 pc then (bif Nat.ble 79 pc then (bif Nat.ble 81 pc then (bif Nat.beq pc 81 then some (.invokevirtual 133, 12) else none) else (bif Nat.beq pc 79 then some (.iload 6, 0) else none)) else (bif Nat.ble 78 pc then (bif Nat.beq pc 78 then some (.iload_n 1, 0) else none) else (bif Nat.beq pc 77 then some (.aload_n 0, 0) else none))) else (bif Nat.ble 72 pc then (bif Nat.ble 74 pc then (bif Nat.beq pc 74 then some (.invokevirtual 129, 11) else none) else (bif Nat.beq pc 72 then some (.iload 5, 0) else none)) else (bif Nat.ble 71 pc then (bif Nat.beq pc 71 then some (.iload_n 1, 0) else none) else (bif Nat.beq pc 70 then some (.aload_n 0, 0) else none))))) else (bif Nat.ble 53 pc then (bif Nat.ble 62 pc then (bif Nat.ble 66 pc then (bif Nat.ble 67 pc then (bif Nat.beq pc 67 then some (.if_icmp .ne 25, 92) else none) else (bif Nat.beq pc 66 then some (.iconst 2, 0) else none)) else (bif Nat.ble 65 pc then (bif Nat.beq pc 65 then some (.iload_n 2, 0) else none) else (bif Nat.beq pc 62 then some (.goto 36, 98) else none))) else (bif Nat.ble 57 pc then (bif Nat.ble 59 pc then (bif Nat.beq pc 59 then some (.invokevirtual 125, 9) else none) else (bif Nat.beq pc 57 then some (.iload 6, 0) else none)) else (bif Nat.ble 55 pc then (bif Nat.beq pc 55 then some (.iload 5, 0) else none) else (bif Nat.beq pc 53 then some (.iload 4, 0) else none)))) else (bif Nat.ble 47 pc then (bif Nat.ble 51 pc then (bif Nat.ble 52 pc then (bif Nat.beq pc 52 then some (.iload_n 3, 0) else none) else (bif Nat.beq pc 51 then some (.iload_n 1, 0) else none)) else (bif Nat.ble 50 pc then (bif Nat.beq pc 50 then some (.aload_n 0, 0) else none) else (bif Nat.beq pc 47 then some (.if_icmp .ne 18, 65) else none))) else (bif Nat.ble 45 pc then (bif Nat.ble 46 pc then (bif Nat.beq pc 46 then some (.iconst 1, 0) else none) else (bif Nat.beq pc 45 then some (.iload_n 2, 0) else none)) else (bif Nat.beq pc 42 then some (.ifCond .eq 8, 50) else none))))) else (bif Nat.ble 23 pc then (bif Nat.ble 33 pc then (bif Nat.ble 38 pc then (bif Nat.ble 40 pc then (bif Nat.ble 41 pc then (bif Nat.beq pc 41 then some (.iload_n 2, 0) else none) else (bif Nat.beq pc 40 then some (.return_, 0) else none)) else (bif Nat.ble 39 pc then (bif Nat.beq pc 39 then some (.iastore, 0) else none) else (bif Nat.beq pc 38 then some (.iadd, 0) else none))) else (bif Nat.ble 36 pc then (bif Nat.ble 37 pc then (bif Nat.beq pc 37 then some (.iconst 1, 0) else none) else (bif Nat.beq pc 36 then some (.iaload, 0) else none)) else (bif Nat.ble 35 pc then (bif Nat.beq pc 35 then some (.dup2, 0) else none) else (bif Nat.beq pc 33 then some (.bipush 9, 0) else none)))) else (bif Nat.ble 27 pc then (bif Nat.ble 29 pc then (bif Nat.ble 30 pc then (bif Nat.beq pc 30 then some (.getfield 20, 3) else none) else (bif Nat.beq pc 29 then some (.aload_n 0, 0) else none)) else (bif Nat.ble 28 pc then (bif Nat.beq pc 28 then some (.iastore, 0) else none) else (bif Nat.beq pc 27 then some (.iadd, 0) else none))) else (bif Nat.ble 25 pc then (bif Nat.ble 26 pc then (bif Nat.beq pc 26 then some (.iconst 1, 0) else none) else (bif Nat.beq pc 25 then some (.iaload, 0) else none)) else (bif Nat.ble 24 pc then (bif Nat.beq pc 24 then some (.dup2, 0) else none) else (bif Nat.beq pc 23 then some (.iload_n 1, 0) else none))))) else (bif Nat.ble 13 pc then (bif Nat.ble 17 pc then (bif Nat.ble 19 pc then (bif Nat.ble 20 pc then (bif Nat.beq pc 20 then some (.getfield 47, 12) else none) else (bif Nat.beq pc 19 then some (.aload_n 0, 0) else none)) else (bif Nat.ble 18 pc then (bif Nat.beq pc 18 then some (.iastore, 0) else none) else (bif Nat.beq pc 17 then some (.isub, 0) else none))) else (bif Nat.ble 15 pc then (bif Nat.ble 16 pc then (bif Nat.beq pc 16 then some (.iconst 1, 0) else none) else (bif Nat.beq pc 15 then some (.iaload, 0) else none)) else (bif Nat.ble 14 pc then (bif Nat.beq pc 14 then some (.dup2, 0) else none) else (bif Nat.beq pc 13 then some (.iload_n 1, 0) else none)))) else (bif Nat.ble 5 pc then (bif Nat.ble 9 pc then (bif Nat.ble 10 pc then (bif Nat.beq pc 10 then some (.getfield 41, 10) else none) else (bif Nat.beq pc 9 then some (.aload_n 0, 0) else none)) else (bif Nat.ble 6 pc then (bif Nat.beq pc 6 then some (.ifCond .le 35, 41) else none) else (bif Nat.beq pc 5 then some (.iaload, 0) else none))) else (bif Nat.ble 1 pc then (bif Nat.ble 4 pc then (bif Nat.beq pc 4 then some (.iload_n 1, 0) else none) else (bif Nat.beq pc 1 then some (.getfield 41, 10) else none)) else (bif Nat.beq pc 0 then some (.aload_n 0, 0) else none))))))
def cd9 (pc : Nat) : Option (Instr × Nat) := (bif Nat.ble 53 pc then (bif Nat.ble 74 pc then (bif Nat.ble 84 pc then (bif Nat.ble 90 pc then (bif Nat.ble 92 pc then (bif Nat.ble 95 pc then (bif Nat.beq pc 95 then some (.return_, 0) else none) else (bif Nat.beq pc 92 then some (.invokevirtual 136, 13) else none)) else (bif Nat.ble 91 pc then (bif Nat.beq pc 91 then some (.iload_n 1, 0) else none) else (bif Nat.beq pc 90 then some (.aload_n 0, 0) else none))) else (bif Nat.ble 85 pc then (bif Nat.ble 87 pc then (bif Nat.beq pc 87 then some (.invokevirtual 133, 12) else none) else (bif Nat.beq pc 85 then some (.iload 5, 0) else none)) else (bif Nat.beq pc 84 then some (.iload_n 1, 0) else none))) else (bif Nat.ble 77 pc then (bif Nat.ble 80 pc then (bif Nat.ble 83 pc then (bif Nat.beq pc 83 then some (.aload_n 0, 0) else none) else (bif Nat.beq pc 80 then some (.invokevirtual 129, 11) else none)) else (bif Nat.ble 78 pc then (bif Nat.beq pc 78 then some (.iload 4, 0) else none) else (bif Nat.beq pc 77 then some (.iload_n 1, 0) else none))) else (bif Nat.ble 75 pc then (bif Nat.ble 76 pc then (bif Nat.beq pc 76 then some (.aload_n 0, 0) else none) else (bif Nat.beq pc 75 then some (.iastore, 0) else none)) else (bif Nat.beq pc 74 then some (.iadd, 0) else none)))) else (bif Nat.ble 63 pc then (bif Nat.ble 70 pc then (bif Nat.ble 72 pc then (bif Nat.ble 73 pc then (bif Nat.beq pc 73 then some (.iconst 1, 0) else none) else (bif Nat.beq pc 72 then some (.iaload, 0) else none)) else (bif Nat.ble 71 pc then (bif Nat.beq pc 71 then some (.dup2, 0) else none) else (bif Nat.beq pc 70 then some (.iload_n 1, 0) else none))) else (bif Nat.ble 66 pc then (bif Nat.ble 67 pc then (bif Nat.beq pc 67 then some (.getfield 44, 11) else none) else (bif Nat.beq pc 66 then some (.aload_n 0, 0) else none)) else (bif Nat.beq pc 63 then some (.goto 13, 76) else none))) else (bif Nat.ble 56 pc then (bif Nat.ble 61 pc then (bif Nat.ble 62 pc then (bif Nat.beq pc 62 then some (.iastore, 0) else none) else (bif Nat.beq pc 61 then some (.iconst 0, 0) else none)) else (bif Nat.ble 59 pc then (bif Nat.beq pc 59 then some (.iload 6, 0) else none) else (bif Nat.beq pc 56 then some (.getfield 26, 5) else none))) else (bif Nat.ble 54 pc then (bif Nat.ble 55 pc then (bif Nat.beq pc 55 then some (.aload_n 0, 0) else none) else (bif Nat.beq pc 54 then some (.iastore, 0) else none)) else (bif Nat.beq pc 53 then some (.iload_n 3, 0) else none))))) else (bif Nat.ble 23 pc then (bif Nat.ble 40 pc then (bif Nat.ble 46 pc then (bif Nat.ble 48 pc then (bif Nat.ble 51 pc then (bif Nat.beq pc 51 then some (.iload 6, 0) else none) else (bif Nat.beq pc 48 then some (.getfield 29, 6) else none)) else (bif Nat.ble 47 pc then (bif Nat.beq pc 47 then some (.aload_n 0, 0) else none) else (bif Nat.beq pc 46 then some (.iastore, 0) else none))) else (bif Nat.ble 43 pc then (bif Nat.ble 45 pc then (bif Nat.beq pc 45 then some (.iconst 4, 0) else none) else (bif Nat.beq pc 43 then some (.iload 6, 0) else none)) else (bif Nat.beq pc 40 then some (.getfield 23, 4) else none))) else (bif Nat.ble 30 pc then (bif Nat.ble 36 pc then (bif Nat.ble 39 pc then (bif Nat.beq pc 39 then some (.aload_n 0, 0) else none) else (bif Nat.beq pc 36 then some (.ifCond .eq 30, 66) else none)) else (bif Nat.ble 31 pc then (bif Nat.beq pc 31 then some (.iload 7, 0) else none) else (bif Nat.beq pc 30 then some (.aload_n 0, 0) else none))) else (bif Nat.ble 25 pc then (bif Nat.ble 27 pc then (bif Nat.beq pc 27 then some (.ifCond .eq 12, 39) else none) else (bif Nat.beq pc 25 then some (.iload 7, 0) else none)) else (bif Nat.beq pc 23 then some (.istore 7, 0) else none)))) else (bif Nat.ble 12 pc then (bif Nat.ble 16 pc then (bif Nat.ble 20 pc then (bif Nat.ble 22 pc then (bif Nat.beq pc 22 then some (.iaload, 0) else none) else (bif Nat.beq pc 20 then some (.iload 6, 0) else none)) else (bif Nat.ble 17 pc then (bif Nat.beq pc 17 then some (.getfield 23, 4) else none) else (bif Nat.beq pc 16 then some (.aload_n 0, 0) else none))) else (bif Nat.ble 13 pc then (bif Nat.ble 14 pc then (bif Nat.beq pc 14 then some (.istore 6, 0) else none) else (bif Nat.beq pc 13 then some (.iadd, 0) else none)) else (bif Nat.beq pc 12 then some (.iload_n 2, 0) else none))) else (bif Nat.ble 5 pc then (bif Nat.ble 9 pc then (bif Nat.ble 11 pc then (bif Nat.beq pc 11 then some (.imul, 0) else none) else (bif Nat.beq pc 9 then some (.bipush 32, 0) else none)) else (bif Nat.ble 8 pc then (bif Nat.beq pc 8 then some (.iload_n 1, 0) else none) else (bif Nat.beq pc 5 then some (.ifCond .eq 71, 76) else none))) else (bif Nat.ble 1 pc then (bif Nat.ble 2 pc then (bif Nat.beq pc 2 then some (.invokevirtual 115, 10) else none) else (bif Nat.beq pc 1 then some (.iload_n 2, 0) else none)) else (bif Nat.beq pc 0 then some (.aload_n 0, 0) else none))))))
def cd10 (pc : Nat) : Option (Instr × Nat) := (bif Nat.ble 7 pc then (bif Nat.ble 11 pc then (bif Nat.ble 14 pc then (bif Nat.ble 15 pc then (bif Nat.beq pc 15 then some (.ireturn, 0) else none) else (bif Nat.beq pc 14 then some (.iconst 0, 0) else none)) else (bif Nat.beq pc 11 then some (.goto 4, 15) else none)) else (bif Nat.ble 10 pc then (bif Nat.beq pc 10 then some (.iconst 1, 0) else none) else (bif Nat.beq pc 7 then some (.if_icmp .ge 7, 14) else none))) else (bif Nat.ble 4 pc then (bif Nat.ble 5 pc then (bif Nat.beq pc 5 then some (.bipush 32, 0) else none) else (bif Nat.beq pc 4 then some (.iload_n 1, 0) else none)) else (bif Nat.ble 1 pc then (bif Nat.beq pc 1 then some (.ifCond .lt 13, 14) else none) else (bif Nat.beq pc 0 then some (.iload_n 1, 0) else none))))
def cd11 (pc : Nat) : Option (Instr × Nat) := (bif Nat.ble 44 pc then (bif Nat.ble 70 pc then (bif Nat.ble 83 pc then (bif Nat.ble 90 pc then (bif Nat.ble 92 pc then (bif Nat.ble 93 pc then (bif Nat.beq pc 93 then some (.return_, 0) else none) else (bif Nat.beq pc 92 then some (.iastore, 0) else none)) else (bif Nat.ble 91 pc then (bif Nat.beq pc 91 then some (.iload_n 2, 0) else none) else (bif Nat.beq pc 90 then some (.iload_n 1, 0) else none))) else (bif Nat.ble 86 pc then (bif Nat.ble 87 pc then (bif Nat.beq pc 87 then some (.getfield 35, 8) else none) else (bif Nat.beq pc 86 then some (.aload_n 0, 0) else none)) else (bif Nat.beq pc 83 then some (.if_icmp .le 10, 93) else none))) else (bif Nat.ble 77 pc then (bif Nat.ble 81 pc then (bif Nat.ble 82 pc then (bif Nat.beq pc 82 then some (.iaload, 0) else none) else (bif Nat.beq pc 81 then some (.iload_n 1, 0) else none)) else (bif Nat.ble 78 pc then (bif Nat.beq pc 78 then some (.getfield 35, 8) else none) else (bif Nat.beq pc 77 then some (.aload_n 0, 0) else none))) else (bif Nat.ble 73 pc then (bif Nat.ble 76 pc then (bif Nat.beq pc 76 then some (.iload_n 2, 0) else none) else (bif Nat.beq pc 73 then some (.goto (-55), 18) else none)) else (bif Nat.beq pc 70 then some (.iinc 4 1, 0) else none)))) else (bif Nat.ble 57 pc then (bif Nat.ble 62 pc then (bif Nat.ble 65 pc then (bif Nat.ble 69 pc then (bif Nat.beq pc 69 then some (.iastore, 0) else none) else (bif Nat.beq pc 65 then some (.iload_n 1, 0) else none)) else (bif Nat.ble 64 pc then (bif Nat.beq pc 64 then some (.aload_n 0, 0) else none) else (bif Nat.beq pc 62 then some (.iload 5, 0) else none))) else (bif Nat.ble 58 pc then (bif Nat.ble 59 pc then (bif Nat.beq pc 59 then some (.getfield 26, 5) else none) else (bif Nat.beq pc 58 then some (.aload_n 0, 0) else none)) else (bif Nat.beq pc 57 then some (.iastore, 0) else none))) else (bif Nat.ble 50 pc then (bif Nat.ble 54 pc then (bif Nat.ble 56 pc then (bif Nat.beq pc 56 then some (.iconst 1, 0) else none) else (bif Nat.beq pc 54 then some (.iload 5, 0) else none)) else (bif Nat.ble 51 pc then (bif Nat.beq pc 51 then some (.getfield 23, 4) else none) else (bif Nat.beq pc 50 then some (.aload_n 0, 0) else none))) else (bif Nat.ble 46 pc then (bif Nat.ble 47 pc then (bif Nat.beq pc 47 then some (.ifCond .ne 23, 70) else none) else (bif Nat.beq pc 46 then some (.iaload, 0) else none)) else (bif Nat.beq pc 44 then some (.iload 5, 0) else none))))) else (bif Nat.ble 18 pc then (bif Nat.ble 32 pc then (bif Nat.ble 37 pc then (bif Nat.ble 40 pc then (bif Nat.ble 41 pc then (bif Nat.beq pc 41 then some (.getfield 23, 4) else none) else (bif Nat.beq pc 40 then some (.aload_n 0, 0) else none)) else (bif Nat.ble 38 pc then (bif Nat.beq pc 38 then some (.istore 5, 0) else none) else (bif Nat.beq pc 37 then some (.iadd, 0) else none))) else (bif Nat.ble 34 pc then (bif Nat.ble 35 pc then (bif Nat.beq pc 35 then some (.iload 4, 0) else none) else (bif Nat.beq pc 34 then some (.imul, 0) else none)) else (bif Nat.beq pc 32 then some (.bipush 32, 0) else none))) else (bif Nat.ble 24 pc then (bif Nat.ble 28 pc then (bif Nat.ble 31 pc then (bif Nat.beq pc 31 then some (.iload_n 1, 0) else none) else (bif Nat.beq pc 28 then some (.if_icmp .ge 48, 76) else none)) else (bif Nat.ble 26 pc then (bif Nat.beq pc 26 then some (.bipush 32, 0) else none) else (bif Nat.beq pc 24 then some (.iload 4, 0) else none))) else (bif Nat.ble 20 pc then (bif Nat.ble 21 pc then (bif Nat.beq pc 21 then some (.if_icmp .gt 55, 76) else none) else (bif Nat.beq pc 20 then some (.iload_n 2, 0) else none)) else (bif Nat.beq pc 18 then some (.iload 4, 0) else none)))) else (bif Nat.ble 8 pc then (bif Nat.ble 13 pc then (bif Nat.ble 15 pc then (bif Nat.ble 16 pc then (bif Nat.beq pc 16 then some (.istore 4, 0) else none) else (bif Nat.beq pc 15 then some (.iload_n 3, 0) else none)) else (bif Nat.ble 14 pc then (bif Nat.beq pc 14 then some (.istore_n 3, 0) else none) else (bif Nat.beq pc 13 then some (.iconst 0, 0) else none))) else (bif Nat.ble 9 pc then (bif Nat.ble 10 pc then (bif Nat.beq pc 10 then some (.ifCond .ge 5, 15) else none) else (bif Nat.beq pc 9 then some (.iload_n 3, 0) else none)) else (bif Nat.beq pc 8 then some (.istore_n 3, 0) else none))) else (bif Nat.ble 5 pc then (bif Nat.ble 6 pc then (bif Nat.ble 7 pc then (bif Nat.beq pc 7 then some (.iadd, 0) else none) else (bif Nat.beq pc 6 then some (.iconst 1, 0) else none)) else (bif Nat.beq pc 5 then some (.iaload, 0) else none)) else (bif Nat.ble 1 pc then (bif Nat.ble 4 pc then (bif Nat.beq pc 4 then some (.iload_n 1, 0) else none) else (bif Nat.beq pc 1 then some (.getfield 35, 8) else none)) else (bif Nat.beq pc 0 then some (.aload_n 0, 0) else none))))))
def cd12 (pc : Nat) : Option (Instr × Nat) := (bif Nat.ble 51 pc then (bif Nat.ble 81 pc then (bif Nat.ble 97 pc then (bif Nat.ble 102 pc then (bif Nat.ble 108 pc then (bif Nat.ble 111 pc then (bif Nat.ble 114 pc then (bif Nat.beq pc 114 then some (.return_, 0) else none) else (bif Nat.beq pc 111 then some (.goto (-77), 34) else none)) else (bif Nat.beq pc 108 then some (.iinc 4 1, 0) else none)) else (bif Nat.ble 103 pc then (bif Nat.beq pc 103 then some (.iload 4, 0) else none) else (bif Nat.beq pc 102 then some (.iload_n 1, 0) else none))) else (bif Nat.ble 100 pc then (bif Nat.ble 101 pc then (bif Nat.beq pc 101 then some (.aload_n 0, 0) else none) else (bif Nat.beq pc 100 then some (.iastore, 0) else none)) else (bif Nat.ble 99 pc then (bif Nat.beq pc 99 then some (.iconst 0, 0) else none) else (bif Nat.beq pc 97 then some (.iload 5, 0) else none)))) else (bif Nat.ble 90 pc then (bif Nat.ble 93 pc then (bif Nat.ble 94 pc then (bif Nat.beq pc 94 then some (.getfield 26, 5) else none) else (bif Nat.beq pc 93 then some (.aload_n 0, 0) else none)) else (bif Nat.ble 92 pc then (bif Nat.beq pc 92 then some (.iastore, 0) else none) else (bif Nat.beq pc 90 then some (.bipush 6, 0) else none))) else (bif Nat.ble 85 pc then (bif Nat.ble 88 pc then (bif Nat.beq pc 88 then some (.iload 5, 0) else none) else (bif Nat.beq pc 85 then some (.getfield 23, 4) else none)) else (bif Nat.ble 84 pc then (bif Nat.beq pc 84 then some (.aload_n 0, 0) else none) else (bif Nat.beq pc 81 then some (.if_icmp .eq 27, 108) else none))))) else (bif Nat.ble 65 pc then (bif Nat.ble 73 pc then (bif Nat.ble 77 pc then (bif Nat.ble 79 pc then (bif Nat.beq pc 79 then some (.bipush 6, 0) else none) else (bif Nat.beq pc 77 then some (.iload 6, 0) else none)) else (bif Nat.ble 74 pc then (bif Nat.beq pc 74 then some (.if_icmp .eq 34, 108) else none) else (bif Nat.beq pc 73 then some (.iconst 5, 0) else none))) else (bif Nat.ble 68 pc then (bif Nat.ble 71 pc then (bif Nat.beq pc 71 then some (.iload 6, 0) else none) else (bif Nat.beq pc 68 then some (.if_icmp .eq 40, 108) else none)) else (bif Nat.ble 67 pc then (bif Nat.beq pc 67 then some (.iconst 4, 0) else none) else (bif Nat.beq pc 65 then some (.iload 6, 0) else none)))) else (bif Nat.ble 57 pc then (bif Nat.ble 62 pc then (bif Nat.ble 63 pc then (bif Nat.beq pc 63 then some (.istore 6, 0) else none) else (bif Nat.beq pc 62 then some (.iaload, 0) else none)) else (bif Nat.ble 60 pc then (bif Nat.beq pc 60 then some (.iload 5, 0) else none) else (bif Nat.beq pc 57 then some (.getfield 23, 4) else none))) else (bif Nat.ble 54 pc then (bif Nat.ble 56 pc then (bif Nat.beq pc 56 then some (.aload_n 0, 0) else none) else (bif Nat.beq pc 54 then some (.istore 5, 0) else none)) else (bif Nat.ble 53 pc then (bif Nat.beq pc 53 then some (.iadd, 0) else none) else (bif Nat.beq pc 51 then some (.iload 4, 0) else none)))))) else (bif Nat.ble 24 pc then (bif Nat.ble 36 pc then (bif Nat.ble 44 pc then (bif Nat.ble 48 pc then (bif Nat.ble 50 pc then (bif Nat.beq pc 50 then some (.imul, 0) else none) else (bif Nat.beq pc 48 then some (.bipush 32, 0) else none)) else (bif Nat.ble 47 pc then (bif Nat.beq pc 47 then some (.iload_n 1, 0) else none) else (bif Nat.beq pc 44 then some (.if_icmp .ge 70, 114) else none))) else (bif Nat.ble 40 pc then (bif Nat.ble 42 pc then (bif Nat.beq pc 42 then some (.bipush 32, 0) else none) else (bif Nat.beq pc 40 then some (.iload 4, 0) else none)) else (bif Nat.ble 37 pc then (bif Nat.beq pc 37 then some (.if_icmp .ge 77, 114) else none) else (bif Nat.beq pc 36 then some (.iload_n 2, 0) else none)))) else (bif Nat.ble 30 pc then (bif Nat.ble 32 pc then (bif Nat.ble 34 pc then (bif Nat.beq pc 34 then some (.iload 4, 0) else none) else (bif Nat.beq pc 32 then some (.istore 4, 0) else none)) else (bif Nat.ble 31 pc then (bif Nat.beq pc 31 then some (.iload_n 3, 0) else none) else (bif Nat.beq pc 30 then some (.istore_n 3, 0) else none))) else (bif Nat.ble 26 pc then (bif Nat.ble 29 pc then (bif Nat.beq pc 29 then some (.iconst 0, 0) else none) else (bif Nat.beq pc 26 then some (.ifCond .ge 5, 31) else none)) else (bif Nat.ble 25 pc then (bif Nat.beq pc 25 then some (.iload_n 3, 0) else none) else (bif Nat.beq pc 24 then some (.istore_n 3, 0) else none))))) else (bif Nat.ble 12 pc then (bif Nat.ble 18 pc then (bif Nat.ble 22 pc then (bif Nat.ble 23 pc then (bif Nat.beq pc 23 then some (.iaload, 0) else none) else (bif Nat.beq pc 22 then some (.iload_n 1, 0) else none)) else (bif Nat.ble 19 pc then (bif Nat.beq pc 19 then some (.getfield 32, 7) else none) else (bif Nat.beq pc 18 then some (.aload_n 0, 0) else none))) else (bif Nat.ble 16 pc then (bif Nat.ble 17 pc then (bif Nat.beq pc 17 then some (.iastore, 0) else none) else (bif Nat.beq pc 16 then some (.iload_n 2, 0) else none)) else (bif Nat.ble 15 pc then (bif Nat.beq pc 15 then some (.iload_n 1, 0) else none) else (bif Nat.beq pc 12 then some (.getfield 38, 9) else none)))) else (bif Nat.ble 6 pc then (bif Nat.ble 10 pc then (bif Nat.ble 11 pc then (bif Nat.beq pc 11 then some (.aload_n 0, 0) else none) else (bif Nat.beq pc 10 then some (.return_, 0) else none)) else (bif Nat.ble 7 pc then (bif Nat.beq pc 7 then some (.if_icmp .gt 4, 11) else none) else (bif Nat.beq pc 6 then some (.iaload, 0) else none))) else (bif Nat.ble 2 pc then (bif Nat.ble 5 pc then (bif Nat.beq pc 5 then some (.iload_n 1, 0) else none) else (bif Nat.beq pc 2 then some (.getfield 38, 9) else none)) else (bif Nat.ble 1 pc then (bif Nat.beq pc 1 then some (.aload_n 0, 0) else none) else (bif Nat.beq pc 0 then some (.iload_n 2, 0) else none)))))))
def cd13 (pc : Nat) : Option (Instr × Nat) := (bif Nat.ble 45 pc then (bif Nat.ble 67 pc then (bif Nat.ble 78 pc then (bif Nat.ble 81 pc then (bif Nat.ble 85 pc then (bif Nat.ble 88 pc then (bif Nat.beq pc 88 then some (.return_, 0) else none) else (bif Nat.beq pc 85 then some (.goto (-78), 7) else none)) else (bif Nat.ble 82 pc then (bif Nat.beq pc 82 then some (.iinc 2 1, 0) else none) else (bif Nat.beq pc 81 then some (.iastore, 0) else none))) else (bif Nat.ble 79 pc then (bif Nat.ble 80 pc then (bif Nat.beq pc 80 then some (.iadd, 0) else none) else (bif Nat.beq pc 79 then some (.iconst 1, 0) else none)) else (bif Nat.beq pc 78 then some (.iload_n 2, 0) else none))) else (bif Nat.ble 72 pc then (bif Nat.ble 74 pc then (bif Nat.ble 77 pc then (bif Nat.beq pc 77 then some (.iload_n 1, 0) else none) else (bif Nat.beq pc 74 then some (.getfield 32, 7) else none)) else (bif Nat.ble 73 pc then (bif Nat.beq pc 73 then some (.aload_n 0, 0) else none) else (bif Nat.beq pc 72 then some (.iastore, 0) else none))) else (bif Nat.ble 70 pc then (bif Nat.ble 71 pc then (bif Nat.beq pc 71 then some (.iconst 5, 0) else none) else (bif Nat.beq pc 70 then some (.iload_n 3, 0) else none)) else (bif Nat.beq pc 67 then some (.getfield 23, 4) else none)))) else (bif Nat.ble 56 pc then (bif Nat.ble 61 pc then (bif Nat.ble 63 pc then (bif Nat.ble 66 pc then (bif Nat.beq pc 66 then some (.aload_n 0, 0) else none) else (bif Nat.beq pc 63 then some (.invokevirtual 153, 14) else none)) else (bif Nat.ble 62 pc then (bif Nat.beq pc 62 then some (.iaload, 0) else none) else (bif Nat.beq pc 61 then some (.iload_n 3, 0) else none))) else (bif Nat.ble 57 pc then (bif Nat.ble 58 pc then (bif Nat.beq pc 58 then some (.getfield 29, 6) else none) else (bif Nat.beq pc 57 then some (.aload_n 0, 0) else none)) else (bif Nat.beq pc 56 then some (.iload_n 2, 0) else none))) else (bif Nat.ble 51 pc then (bif Nat.ble 54 pc then (bif Nat.ble 55 pc then (bif Nat.beq pc 55 then some (.iload_n 1, 0) else none) else (bif Nat.beq pc 54 then some (.aload_n 0, 0) else none)) else (bif Nat.beq pc 51 then some (.if_icmp .ne 22, 73) else none)) else (bif Nat.ble 48 pc then (bif Nat.ble 50 pc then (bif Nat.beq pc 50 then some (.iconst 4, 0) else none) else (bif Nat.beq pc 48 then some (.iload 4, 0) else none)) else (bif Nat.beq pc 45 then some (.goto 43, 88) else none))))) else (bif Nat.ble 21 pc then (bif Nat.ble 30 pc then (bif Nat.ble 35 pc then (bif Nat.ble 40 pc then (bif Nat.ble 42 pc then (bif Nat.beq pc 42 then some (.if_icmp .eq 6, 48) else none) else (bif Nat.beq pc 40 then some (.bipush 6, 0) else none)) else (bif Nat.ble 38 pc then (bif Nat.beq pc 38 then some (.iload 4, 0) else none) else (bif Nat.beq pc 35 then some (.if_icmp .eq 13, 48) else none))) else (bif Nat.ble 32 pc then (bif Nat.ble 34 pc then (bif Nat.beq pc 34 then some (.iconst 4, 0) else none) else (bif Nat.beq pc 32 then some (.iload 4, 0) else none)) else (bif Nat.beq pc 30 then some (.istore 4, 0) else none))) else (bif Nat.ble 24 pc then (bif Nat.ble 28 pc then (bif Nat.ble 29 pc then (bif Nat.beq pc 29 then some (.iaload, 0) else none) else (bif Nat.beq pc 28 then some (.iload_n 3, 0) else none)) else (bif Nat.ble 25 pc then (bif Nat.beq pc 25 then some (.getfield 23, 4) else none) else (bif Nat.beq pc 24 then some (.aload_n 0, 0) else none))) else (bif Nat.ble 22 pc then (bif Nat.ble 23 pc then (bif Nat.beq pc 23 then some (.istore_n 3, 0) else none) else (bif Nat.beq pc 22 then some (.iadd, 0) else none)) else (bif Nat.beq pc 21 then some (.iload_n 2, 0) else none)))) else (bif Nat.ble 8 pc then (bif Nat.ble 14 pc then (bif Nat.ble 18 pc then (bif Nat.ble 20 pc then (bif Nat.beq pc 20 then some (.imul, 0) else none) else (bif Nat.beq pc 18 then some (.bipush 32, 0) else none)) else (bif Nat.ble 17 pc then (bif Nat.beq pc 17 then some (.iload_n 1, 0) else none) else (bif Nat.beq pc 14 then some (.if_icmp .ge 74, 88) else none))) else (bif Nat.ble 11 pc then (bif Nat.ble 12 pc then (bif Nat.beq pc 12 then some (.bipush 32, 0) else none) else (bif Nat.beq pc 11 then some (.iload_n 2, 0) else none)) else (bif Nat.beq pc 8 then some (.ifCond .lt 80, 88) else none))) else (bif Nat.ble 5 pc then (bif Nat.ble 6 pc then (bif Nat.ble 7 pc then (bif Nat.beq pc 7 then some (.iload_n 2, 0) else none) else (bif Nat.beq pc 6 then some (.istore_n 2, 0) else none)) else (bif Nat.beq pc 5 then some (.iaload, 0) else none)) else (bif Nat.ble 1 pc then (bif Nat.ble 4 pc then (bif Nat.beq pc 4 then some (.iload_n 1, 0) else none) else (bif Nat.beq pc 1 then some (.getfield 32, 7) else none)) else (bif Nat.beq pc 0 then some (.aload_n 0, 0) else none))))))
def cd14 (pc : Nat) : Option (Instr × Nat) := (bif Nat.ble 28 pc then (bif Nat.ble 40 pc then (bif Nat.ble 46 pc then (bif Nat.ble 48 pc then (bif Nat.ble 49 pc then (bif Nat.ble 50 pc then (bif Nat.beq pc 50 then some (.return_, 0) else none) else (bif Nat.beq pc 49 then some (.iastore, 0) else none)) else (bif Nat.beq pc 48 then some (.iadd, 0) else none)) else (bif Nat.ble 47 pc then (bif Nat.beq pc 47 then some (.iconst 1, 0) else none) else (bif Nat.beq pc 46 then some (.iaload, 0) else none))) else (bif Nat.ble 44 pc then (bif Nat.ble 45 pc then (bif Nat.beq pc 45 then some (.dup2, 0) else none) else (bif Nat.beq pc 44 then some (.iload_n 1, 0) else none)) else (bif Nat.ble 41 pc then (bif Nat.beq pc 41 then some (.getfield 56, 15) else none) else (bif Nat.beq pc 40 then some (.aload_n 0, 0) else none)))) else (bif Nat.ble 33 pc then (bif Nat.ble 38 pc then (bif Nat.ble 39 pc then (bif Nat.beq pc 39 then some (.iastore, 0) else none) else (bif Nat.beq pc 38 then some (.iload_n 3, 0) else none)) else (bif Nat.ble 36 pc then (bif Nat.beq pc 36 then some (.iload 4, 0) else none) else (bif Nat.beq pc 33 then some (.getfield 53, 14) else none))) else (bif Nat.ble 31 pc then (bif Nat.ble 32 pc then (bif Nat.beq pc 32 then some (.aload_n 0, 0) else none) else (bif Nat.beq pc 31 then some (.iastore, 0) else none)) else (bif Nat.ble 30 pc then (bif Nat.beq pc 30 then some (.iload_n 2, 0) else none) else (bif Nat.beq pc 28 then some (.iload 4, 0) else none))))) else (bif Nat.ble 14 pc then (bif Nat.ble 20 pc then (bif Nat.ble 22 pc then (bif Nat.ble 24 pc then (bif Nat.ble 25 pc then (bif Nat.beq pc 25 then some (.getfield 50, 13) else none) else (bif Nat.beq pc 24 then some (.aload_n 0, 0) else none)) else (bif Nat.beq pc 22 then some (.istore 4, 0) else none)) else (bif Nat.ble 21 pc then (bif Nat.beq pc 21 then some (.iadd, 0) else none) else (bif Nat.beq pc 20 then some (.iaload, 0) else none))) else (bif Nat.ble 16 pc then (bif Nat.ble 19 pc then (bif Nat.beq pc 19 then some (.iload_n 1, 0) else none) else (bif Nat.beq pc 16 then some (.getfield 56, 15) else none)) else (bif Nat.ble 15 pc then (bif Nat.beq pc 15 then some (.aload_n 0, 0) else none) else (bif Nat.beq pc 14 then some (.imul, 0) else none)))) else (bif Nat.ble 6 pc then (bif Nat.ble 11 pc then (bif Nat.ble 12 pc then (bif Nat.beq pc 12 then some (.bipush 32, 0) else none) else (bif Nat.beq pc 11 then some (.iload_n 1, 0) else none)) else (bif Nat.ble 8 pc then (bif Nat.beq pc 8 then some (.if_icmp .ge 42, 50) else none) else (bif Nat.beq pc 6 then some (.bipush 32, 0) else none))) else (bif Nat.ble 4 pc then (bif Nat.ble 5 pc then (bif Nat.beq pc 5 then some (.iaload, 0) else none) else (bif Nat.beq pc 4 then some (.iload_n 1, 0) else none)) else (bif Nat.ble 1 pc then (bif Nat.beq pc 1 then some (.getfield 56, 15) else none) else (bif Nat.beq pc 0 then some (.aload_n 0, 0) else none))))))
def cd15 (pc : Nat) : Option (Instr × Nat) := (bif Nat.ble 1 pc then (bif Nat.ble 4 pc then (bif Nat.beq pc 4 then some (.ireturn, 0) else none) else (bif Nat.beq pc 1 then some (.invokevirtual 105, 5) else none)) else (bif Nat.beq pc 0 then some (.aload_n 0, 0) else none))
def cd16 (pc : Nat) : Option (Instr × Nat) := (bif Nat.ble 16 pc then (bif Nat.ble 23 pc then (bif Nat.ble 27 pc then (bif Nat.ble 28 pc then (bif Nat.ble 29 pc then (bif Nat.beq pc 29 then some (.ireturn, 0) else none) else (bif Nat.beq pc 28 then some (.iaload, 0) else none)) else (bif Nat.beq pc 27 then some (.iload_n 1, 0) else none)) else (bif Nat.ble 24 pc then (bif Nat.beq pc 24 then some (.getfield 20, 3) else none) else (bif Nat.beq pc 23 then some (.aload_n 0, 0) else none))) else (bif Nat.ble 21 pc then (bif Nat.ble 22 pc then (bif Nat.beq pc 22 then some (.ireturn, 0) else none) else (bif Nat.beq pc 21 then some (.iconst (-1), 0) else none)) else (bif Nat.ble 18 pc then (bif Nat.beq pc 18 then some (.if_icmp .le 5, 23) else none) else (bif Nat.beq pc 16 then some (.bipush 9, 0) else none)))) else (bif Nat.ble 7 pc then (bif Nat.ble 11 pc then (bif Nat.ble 12 pc then (bif Nat.ble 15 pc then (bif Nat.beq pc 15 then some (.iload_n 1, 0) else none) else (bif Nat.beq pc 12 then some (.ifCond .lt 9, 21) else none)) else (bif Nat.beq pc 11 then some (.iload_n 1, 0) else none)) else (bif Nat.ble 10 pc then (bif Nat.beq pc 10 then some (.ireturn, 0) else none) else (bif Nat.beq pc 7 then some (.getfield 112, 24) else none))) else (bif Nat.ble 3 pc then (bif Nat.ble 6 pc then (bif Nat.beq pc 6 then some (.aload_n 0, 0) else none) else (bif Nat.beq pc 3 then some (.if_icmp .ne 8, 11) else none)) else (bif Nat.ble 1 pc then (bif Nat.beq pc 1 then some (.bipush 8, 0) else none) else (bif Nat.beq pc 0 then some (.iload_n 1, 0) else none)))))
def cd17 (pc : Nat) : Option (Instr × Nat) := (bif Nat.ble 56 pc then (bif Nat.ble 82 pc then (bif Nat.ble 96 pc then (bif Nat.ble 105 pc then (bif Nat.ble 107 pc then (bif Nat.ble 108 pc then (bif Nat.ble 110 pc then (bif Nat.beq pc 110 then some (.ireturn, 0) else none) else (bif Nat.beq pc 108 then some (.bipush (-2), 0) else none)) else (bif Nat.beq pc 107 then some (.ireturn, 0) else none)) else (bif Nat.ble 106 pc then (bif Nat.beq pc 106 then some (.iaload, 0) else none) else (bif Nat.beq pc 105 then some (.iload_n 1, 0) else none))) else (bif Nat.ble 101 pc then (bif Nat.ble 102 pc then (bif Nat.beq pc 102 then some (.getfield 47, 12) else none) else (bif Nat.beq pc 101 then some (.aload_n 0, 0) else none)) else (bif Nat.ble 98 pc then (bif Nat.beq pc 98 then some (.if_icmp .ne 10, 108) else none) else (bif Nat.beq pc 96 then some (.bipush 7, 0) else none)))) else (bif Nat.ble 89 pc then (bif Nat.ble 93 pc then (bif Nat.ble 94 pc then (bif Nat.ble 95 pc then (bif Nat.beq pc 95 then some (.iload_n 2, 0) else none) else (bif Nat.beq pc 94 then some (.ireturn, 0) else none)) else (bif Nat.beq pc 93 then some (.iaload, 0) else none)) else (bif Nat.ble 92 pc then (bif Nat.beq pc 92 then some (.iload_n 1, 0) else none) else (bif Nat.beq pc 89 then some (.getfield 44, 11) else none))) else (bif Nat.ble 85 pc then (bif Nat.ble 88 pc then (bif Nat.beq pc 88 then some (.aload_n 0, 0) else none) else (bif Nat.beq pc 85 then some (.if_icmp .ne 10, 95) else none)) else (bif Nat.ble 83 pc then (bif Nat.beq pc 83 then some (.bipush 6, 0) else none) else (bif Nat.beq pc 82 then some (.iload_n 2, 0) else none))))) else (bif Nat.ble 69 pc then (bif Nat.ble 75 pc then (bif Nat.ble 79 pc then (bif Nat.ble 80 pc then (bif Nat.ble 81 pc then (bif Nat.beq pc 81 then some (.ireturn, 0) else none) else (bif Nat.beq pc 80 then some (.iaload, 0) else none)) else (bif Nat.beq pc 79 then some (.iload_n 1, 0) else none)) else (bif Nat.ble 76 pc then (bif Nat.beq pc 76 then some (.getfield 41, 10) else none) else (bif Nat.beq pc 75 then some (.aload_n 0, 0) else none))) else (bif Nat.ble 71 pc then (bif Nat.ble 72 pc then (bif Nat.beq pc 72 then some (.if_icmp .ne 10, 82) else none) else (bif Nat.beq pc 71 then some (.iconst 5, 0) else none)) else (bif Nat.ble 70 pc then (bif Nat.beq pc 70 then some (.iload_n 2, 0) else none) else (bif Nat.beq pc 69 then some (.ireturn, 0) else none)))) else (bif Nat.ble 60 pc then (bif Nat.ble 64 pc then (bif Nat.ble 67 pc then (bif Nat.ble 68 pc then (bif Nat.beq pc 68 then some (.iaload, 0) else none) else (bif Nat.beq pc 67 then some (.iload_n 1, 0) else none)) else (bif Nat.beq pc 64 then some (.getfield 62, 17) else none)) else (bif Nat.ble 63 pc then (bif Nat.beq pc 63 then some (.aload_n 0, 0) else none) else (bif Nat.beq pc 60 then some (.if_icmp .ne 10, 70) else none))) else (bif Nat.ble 58 pc then (bif Nat.ble 59 pc then (bif Nat.beq pc 59 then some (.iconst 4, 0) else none) else (bif Nat.beq pc 58 then some (.iload_n 2, 0) else none)) else (bif Nat.ble 57 pc then (bif Nat.beq pc 57 then some (.ireturn, 0) else none) else (bif Nat.beq pc 56 then some (.iaload, 0) else none)))))) else (bif Nat.ble 28 pc then (bif Nat.ble 43 pc then (bif Nat.ble 47 pc then (bif Nat.ble 51 pc then (bif Nat.ble 52 pc then (bif Nat.ble 55 pc then (bif Nat.beq pc 55 then some (.iload_n 1, 0) else none) else (bif Nat.beq pc 52 then some (.getfield 56, 15) else none)) else (bif Nat.beq pc 51 then some (.aload_n 0, 0) else none)) else (bif Nat.ble 48 pc then (bif Nat.beq pc 48 then some (.if_icmp .ne 10, 58) else none) else (bif Nat.beq pc 47 then some (.iconst 3, 0) else none))) else (bif Nat.ble 45 pc then (bif Nat.ble 46 pc then (bif Nat.beq pc 46 then some (.iload_n 2, 0) else none) else (bif Nat.beq pc 45 then some (.ireturn, 0) else none)) else (bif Nat.ble 44 pc then (bif Nat.beq pc 44 then some (.iaload, 0) else none) else (bif Nat.beq pc 43 then some (.iload_n 1, 0) else none)))) else (bif Nat.ble 34 pc then (bif Nat.ble 36 pc then (bif Nat.ble 39 pc then (bif Nat.ble 40 pc then (bif Nat.beq pc 40 then some (.getfield 38, 9) else none) else (bif Nat.beq pc 39 then some (.aload_n 0, 0) else none)) else (bif Nat.beq pc 36 then some (.if_icmp .ne 10, 46) else none)) else (bif Nat.ble 35 pc then (bif Nat.beq pc 35 then some (.iconst 2, 0) else none) else (bif Nat.beq pc 34 then some (.iload_n 2, 0) else none))) else (bif Nat.ble 32 pc then (bif Nat.ble 33 pc then (bif Nat.beq pc 33 then some (.ireturn, 0) else none) else (bif Nat.beq pc 32 then some (.iaload, 0) else none)) else (bif Nat.ble 31 pc then (bif Nat.beq pc 31 then some (.iload_n 1, 0) else none) else (bif Nat.beq pc 28 then some (.getfield 35, 8) else none))))) else (bif Nat.ble 15 pc then (bif Nat.ble 21 pc then (bif Nat.ble 23 pc then (bif Nat.ble 24 pc then (bif Nat.ble 27 pc then (bif Nat.beq pc 27 then some (.aload_n 0, 0) else none) else (bif Nat.beq pc 24 then some (.if_icmp .ne 10, 34) else none)) else (bif Nat.beq pc 23 then some (.iconst 1, 0) else none)) else (bif Nat.ble 22 pc then (bif Nat.beq pc 22 then some (.iload_n 2, 0) else none) else (bif Nat.beq pc 21 then some (.ireturn, 0) else none))) else (bif Nat.ble 19 pc then (bif Nat.ble 20 pc then (bif Nat.beq pc 20 then some (.iaload, 0) else none) else (bif Nat.beq pc 19 then some (.iload_n 1, 0) else none)) else (bif Nat.ble 16 pc then (bif Nat.beq pc 16 then some (.getfield 32, 7) else none) else (bif Nat.beq pc 15 then some (.aload_n 0, 0) else none)))) else (bif Nat.ble 8 pc then (bif Nat.ble 11 pc then (bif Nat.ble 12 pc then (bif Nat.beq pc 12 then some (.ifCond .ne 10, 22) else none) else (bif Nat.beq pc 11 then some (.iload_n 2, 0) else none)) else (bif Nat.ble 10 pc then (bif Nat.beq pc 10 then some (.ireturn, 0) else none) else (bif Nat.beq pc 8 then some (.bipush (-2), 0) else none))) else (bif Nat.ble 2 pc then (bif Nat.ble 5 pc then (bif Nat.beq pc 5 then some (.ifCond .ne 6, 11) else none) else (bif Nat.beq pc 2 then some (.invokevirtual 92, 18) else none)) else (bif Nat.ble 1 pc then (bif Nat.beq pc 1 then some (.iload_n 1, 0) else none) else (bif Nat.beq pc 0 then some (.aload_n 0, 0) else none)))))))
def cd18 (pc : Nat) : Option (Instr × Nat) := (bif Nat.ble 6 pc then (bif Nat.ble 10 pc then (bif Nat.ble 13 pc then (bif Nat.ble 14 pc then (bif Nat.beq pc 14 then some (.ireturn, 0) else none) else (bif Nat.beq pc 13 then some (.iconst 0, 0) else none)) else (bif Nat.beq pc 10 then some (.goto 4, 14) else none)) else (bif Nat.ble 9 pc then (bif Nat.beq pc 9 then some (.iconst 1, 0) else none) else (bif Nat.beq pc 6 then some (.if_icmp .ge 7, 13) else none))) else (bif Nat.ble 4 pc then (bif Nat.ble 5 pc then (bif Nat.beq pc 5 then some (.iconst 4, 0) else none) else (bif Nat.beq pc 4 then some (.iload_n 1, 0) else none)) else (bif Nat.ble 1 pc then (bif Nat.beq pc 1 then some (.ifCond .lt 12, 13) else none) else (bif Nat.beq pc 0 then some (.iload_n 1, 0) else none))))
def cd19 (pc : Nat) : Option (Instr × Nat) := (bif Nat.ble 19 pc then (bif Nat.ble 29 pc then (bif Nat.ble 33 pc then (bif Nat.ble 34 pc then (bif Nat.ble 35 pc then (bif Nat.beq pc 35 then some (.ireturn, 0) else none) else (bif Nat.beq pc 34 then some (.iaload, 0) else none)) else (bif Nat.beq pc 33 then some (.iadd, 0) else none)) else (bif Nat.ble 31 pc then (bif Nat.ble 32 pc then (bif Nat.beq pc 32 then some (.iload_n 2, 0) else none) else (bif Nat.beq pc 31 then some (.imul, 0) else none)) else (bif Nat.beq pc 29 then some (.bipush 32, 0) else none))) else (bif Nat.ble 24 pc then (bif Nat.ble 25 pc then (bif Nat.ble 28 pc then (bif Nat.beq pc 28 then some (.iload_n 1, 0) else none) else (bif Nat.beq pc 25 then some (.getfield 53, 14) else none)) else (bif Nat.beq pc 24 then some (.aload_n 0, 0) else none)) else (bif Nat.ble 22 pc then (bif Nat.ble 23 pc then (bif Nat.beq pc 23 then some (.ireturn, 0) else none) else (bif Nat.beq pc 22 then some (.iconst (-1), 0) else none)) else (bif Nat.beq pc 19 then some (.if_icmp .lt 5, 24) else none)))) else (bif Nat.ble 9 pc then (bif Nat.ble 14 pc then (bif Nat.ble 17 pc then (bif Nat.ble 18 pc then (bif Nat.beq pc 18 then some (.iaload, 0) else none) else (bif Nat.beq pc 17 then some (.iload_n 1, 0) else none)) else (bif Nat.beq pc 14 then some (.getfield 56, 15) else none)) else (bif Nat.ble 12 pc then (bif Nat.ble 13 pc then (bif Nat.beq pc 13 then some (.aload_n 0, 0) else none) else (bif Nat.beq pc 12 then some (.iload_n 2, 0) else none)) else (bif Nat.beq pc 9 then some (.ifCond .lt 13, 22) else none))) else (bif Nat.ble 2 pc then (bif Nat.ble 5 pc then (bif Nat.ble 8 pc then (bif Nat.beq pc 8 then some (.iload_n 2, 0) else none) else (bif Nat.beq pc 5 then some (.ifCond .eq 17, 22) else none)) else (bif Nat.beq pc 2 then some (.invokevirtual 92, 18) else none)) else (bif Nat.ble 1 pc then (bif Nat.beq pc 1 then some (.iload_n 1, 0) else none) else (bif Nat.beq pc 0 then some (.aload_n 0, 0) else none)))))
def cd20 (pc : Nat) : Option (Instr × Nat) := (bif Nat.ble 1 pc then (bif Nat.ble 4 pc then (bif Nat.beq pc 4 then some (.ireturn, 0) else none) else (bif Nat.beq pc 1 then some (.invokevirtual 109, 6) else none)) else (bif Nat.beq pc 0 then some (.aload_n 0, 0) else none))
def pCode (m pc : Nat) : Option (Instr × Nat) := bif Nat.ble pN m then none else bif Nat.ble pTop pc then none else (bif Nat.ble 10 m then (bif Nat.ble 15 m then (bif Nat.ble 18 m then (bif Nat.ble 19 m then (bif Nat.ble 20 m then cd20 pc else cd19 pc) else cd18 pc) else (bif Nat.ble 16 m then (bif Nat.ble 17 m then cd17 pc else cd16 pc) else cd15 pc)) else (bif Nat.ble 12 m then (bif Nat.ble 13 m then (bif Nat.ble 14 m then cd14 pc else cd13 pc) else cd12 pc) else (bif Nat.ble 11 m then cd11 pc else cd10 pc))) else (bif Nat.ble 5 m then (bif Nat.ble 7 m then (bif Nat.ble 8 m then (bif Nat.ble 9 m then cd9 pc else cd8 pc) else cd7 pc) else (bif Nat.ble 6 m then cd6 pc else cd5 pc)) else (bif Nat.ble 2 m then (bif Nat.ble 3 m then (bif Nat.ble 4 m then cd4 pc else cd3 pc) else cd2 pc) else (bif Nat.ble 1 m then cd1 pc else cd0 pc))))
def lkF : List (Nat × Nat × Nat) := [(1, 7, 0), (1, 13, 1), (1, 17, 2), (1, 20, 3), (1, 23, 4), (1, 26, 5), (1, 29, 6), (1, 32, 7), (1, 35, 8), (1, 38, 9), (1, 41, 10), (1, 44, 11), (1, 47, 12), (1, 50, 13), (1, 53, 14), (1, 56, 15), (1, 59, 16), (1, 62, 17), (1, 65, 18), (1, 72, 19), (1, 76, 20), (1, 79, 21), (1, 82, 22), (1, 85, 23), (1, 112, 24)]
def lkN : List (Nat × Nat) := [(0, 7)]
def lkC : List (Nat × Nat × Nat) := []
def lkD : List (Nat × Nat × Nat) := []
def lkV : List (Nat × Nat × Nat) := [(0, 9, 1), (1, 68, 2), (0, 12, 3), (1, 88, 4), (1, 105, 5), (1, 109, 6), (1, 118, 7), (1, 121, 8), (1, 125, 9), (1, 115, 10), (1, 129, 11), (1, 133, 12), (1, 136, 13), (1, 153, 14), (0, 16, 15), (0, 20, 16), (0, 23, 17), (1, 92, 18), (0, 27, 19), (0, 30, 20)]
def lkO : List (Nat × Nat) := [(1, 1)]
def mV : List Nat := [3, 15, 16, 17, 19, 20]
def mP : List Nat := [2, 4, 5, 6, 7, 8, 9, 10, 11, 12, 13, 14, 18]
def mS : List Nat := []
def mI : List Nat := [1]
def mA : List Nat := [1, 2, 3, 4, 5, 6, 7, 8, 9, 10, 11, 12, 13, 14, 15, 16, 17, 18, 19, 20]
def aTys : List FieldType := [.int, .boolean]
/-! ENGINE: abstract cells, locals, one-step function, and what a triple says of the model. -/
abbrev QCell := List Value ⊕ ((FieldType × List Int32) ⊕ List Int64)
abbrev QHeap := List QCell
abbrev QLoc := List (Option Value)
abbrev vI (x : Int32) : Option Value := some (.int x)
abbrev QSt := Nat × QLoc × List Value × QHeap
def qv (ad : Nat → Addr) : Value → Value
  | .ref k => .ref (ad k)
  | v => v
def qsz : QCell → Nat
  | .inl _ => cN
  | .inr (.inl x) => x.2.length
  | .inr (.inr x) => x.length
def qhs : QHeap → Nat
  | [] => 0
  | c :: t => qsz c + qhs t
def aget {α : Type} (xs : List α) (j : Int32) : Option α := if j < 0 then none else xs[j.toNatClampNeg]?
def aset {α : Type} (xs : List α) (j : Int32) (v : α) : Option (List α) := if j < 0 then none else if j.toNatClampNeg < xs.length then some (xs.set j.toNatClampNeg v) else none
def qnew (n : Int32) : Option Nat := if n < 0 then none else if n.toNatClampNeg ≤ 67108864 then some n.toNatClampNeg else none
def qdiv (x y : Int32) : Option Int32 := if y = 0 then none else some (x / y)
def qrem (x y : Int32) : Option Int32 := if y = 0 then none else some (x % y)
def qboo (x : Int32) : Option Int32 := if x = 0 then some x else if x = 1 then some x else none
def lget : QLoc → Nat → Option Value
  | [], _ => none
  | v :: _, 0 => v
  | _ :: t, k + 1 => lget t k
def hget : QHeap → Nat → Option QCell
  | [], _ => none
  | v :: _, 0 => some v
  | _ :: t, k + 1 => hget t k
def vget : List Value → Nat → Option Value
  | [], _ => none
  | v :: _, 0 => some v
  | _ :: t, k + 1 => vget t k
def lkill (L : QLoc) : Nat → QLoc
  | 0 => L
  | k + 1 => match lget L k with
    | some (.long _) => L.set k none
    | some (.double _) => L.set k none
    | _ => L
def lput (L : QLoc) (k : Nat) (v : Value) : Option QLoc :=
  match v with
  | .long x => bif Nat.ble (k + 2) L.length then some (((lkill L k).set k (some (.long x))).set (k + 1) none) else none
  | .double _ => none
  | v => bif Nat.ble (k + 1) L.length then some ((lkill L k).set k (some v)) else none
/-- push what a local holds, if it is of the kind -/
def qload (pc : Nat) (L : QLoc) (S : List Value) (σ : QHeap) (k : Nat) (ok : Value → Bool) : Option QSt :=
  match lget L k with
  | some v => bif ok v then some (pc, L, v :: S, σ) else none
  | none => none
def isI : Value → Bool | .int _ => true | _ => false
def isJ : Value → Bool | .long _ => true | _ => false
def isR : Value → Bool | .ref _ => true | _ => false
def qstore (pc : Nat) (L : QLoc) (S : List Value) (σ : QHeap) (k : Nat) (ok : Value → Bool) : Option QSt :=
  match S with
  | v :: S' => bif ok v then (match lput L k v with | some L' => some (pc, L', S', σ) | none => none) else none
  | [] => none
def qbin (pc : Nat) (L : QLoc) (S : List Value) (σ : QHeap) (f : Int32 → Int32 → Int32) : Option QSt :=
  match S with
  | .int y :: .int x :: S' => some (pc, L, .int (f x y) :: S', σ)
  | _ => none
def qbino (pc : Nat) (L : QLoc) (S : List Value) (σ : QHeap) (f : Int32 → Int32 → Option Int32) : Option QSt :=
  match S with
  | .int y :: .int x :: S' => (f x y).bind fun z => some (pc, L, .int z :: S', σ)
  | _ => none
def qbinJ (pc : Nat) (L : QLoc) (S : List Value) (σ : QHeap) (f : Int64 → Int64 → Int64) : Option QSt :=
  match S with
  | .long y :: .long x :: S' => some (pc, L, .long (f x y) :: S', σ)
  | _ => none
def qshJ (pc : Nat) (L : QLoc) (S : List Value) (σ : QHeap) (f : Int64 → Int32 → Int64) : Option QSt :=
  match S with
  | .int y :: .long x :: S' => some (pc, L, .long (f x y) :: S', σ)
  | _ => none
def quni (pc : Nat) (L : QLoc) (S : List Value) (σ : QHeap) (f : Int32 → Value) : Option QSt :=
  match S with
  | .int x :: S' => some (pc, L, f x :: S', σ)
  | _ => none
def quniJ (pc : Nat) (L : QLoc) (S : List Value) (σ : QHeap) (f : Int64 → Value) : Option QSt :=
  match S with
  | .long x :: S' => some (pc, L, f x :: S', σ)
  | _ => none
def qald (pc : Nat) (L : QLoc) (S : List Value) (σ : QHeap) (ok : FieldType → Bool) : Option QSt :=
  match S with
  | .int j :: .ref a :: S' => (match hget σ a with
    | some (.inr (.inl x)) => bif ok x.1 then (aget x.2 j).bind fun v => some (pc, L, .int v :: S', σ) else none
    | _ => none)
  | _ => none
def qaldJ (pc : Nat) (L : QLoc) (S : List Value) (σ : QHeap) : Option QSt :=
  match S with
  | .int j :: .ref a :: S' => (match hget σ a with
    | some (.inr (.inr x)) => (aget x j).bind fun v => some (pc, L, .long v :: S', σ)
    | _ => none)
  | _ => none
def qnar : FieldType → Int32 → Int32
  | .boolean, x => x &&& 1
  | .byte, x => x.toInt8.toInt32
  | _, x => x
def qast (pc : Nat) (L : QLoc) (S : List Value) (σ : QHeap) (ok : FieldType → Bool) : Option QSt :=
  match S with
  | .int v :: .int j :: .ref a :: S' => (match hget σ a with
    | some (.inr (.inl x)) => bif ok x.1 && Nat.ble k0 a then (aset x.2 j (qnar x.1 v)).bind fun y => some (pc, L, S', σ.set a (.inr (.inl (x.1, y)))) else none
    | _ => none)
  | _ => none
def qastJ (pc : Nat) (L : QLoc) (S : List Value) (σ : QHeap) : Option QSt :=
  match S with
  | .long v :: .int j :: .ref a :: S' => (match hget σ a with
    | some (.inr (.inr x)) => bif Nat.ble k0 a then (aset x j v).bind fun y => some (pc, L, S', σ.set a (.inr (.inr y))) else none
    | _ => none)
  | _ => none
def tyI : FieldType → Bool | .int => true | _ => false
def tyB : FieldType → Bool | .boolean => true | .byte => true | _ => false
/-- what a value becomes in a field of the type (none: it doesn't fit) -/
def qfit : FieldType → Value → Option Value
  | .int, .int x => some (.int x)
  | .boolean, .int x => (qboo x).bind fun y => some (.int y)
  | .long, .long x => some (.long x)
  | .array t, .ref a => some (.ref a)
  | _, _ => none
def qget (pc : Nat) (L : QLoc) (S : List Value) (σ : QHeap) (k : Nat) : Option QSt :=
  match S with
  | .ref a :: S' => (match hget σ a with
    | some (.inl vs) => (match vget vs k with | some v => some (pc, L, v :: S', σ) | none => none)
    | _ => none)
  | _ => none
def qput (pc : Nat) (L : QLoc) (S : List Value) (σ : QHeap) (k : Nat) : Option QSt :=
  match S with
  | v :: .ref a :: S' => (match hget σ a with
    | some (.inl vs) => bif Nat.ble k0 a && Nat.ble (k + 1) vs.length then (qfit (fTy k) v).bind fun w => some (pc, L, S', σ.set a (.inl (vs.set k w))) else none
    | _ => none)
  | _ => none
def qnewA (pc : Nat) (L : QLoc) (S : List Value) (σ : QHeap) (t : ArrayType) : Option QSt :=
  match S with
  | .int n :: S' => (match t with
    | .int => (qnew n).bind fun k => some (pc, L, .ref σ.length :: S', σ ++ [.inr (.inl (.int, List.replicate k 0))])
    | .boolean => (qnew n).bind fun k => some (pc, L, .ref σ.length :: S', σ ++ [.inr (.inl (.boolean, List.replicate k 0))])
    | .byte => (qnew n).bind fun k => some (pc, L, .ref σ.length :: S', σ ++ [.inr (.inl (.byte, List.replicate k 0))])
    | .long => (qnew n).bind fun k => some (pc, L, .ref σ.length :: S', σ ++ [.inr (.inr (List.replicate k 0))])
    | _ => none)
  | _ => none
def qlen (pc : Nat) (L : QLoc) (S : List Value) (σ : QHeap) : Option QSt :=
  match S with
  | .ref a :: S' => (match hget σ a with
    | some (.inr (.inl x)) => some (pc, L, .int x.2.length.toInt32 :: S', σ)
    | some (.inr (.inr x)) => some (pc, L, .int x.length.toInt32 :: S', σ)
    | _ => none)
  | _ => none
def qdup (pc : Nat) (L : QLoc) (S : List Value) (σ : QHeap) : Option QSt :=
  match S with
  | .int x :: S' => some (pc, L, .int x :: .int x :: S', σ)
  | .ref x :: S' => some (pc, L, .ref x :: .ref x :: S', σ)
  | _ => none
def qdup2 (pc : Nat) (L : QLoc) (S : List Value) (σ : QHeap) : Option QSt :=
  match S with
  | .int x :: .ref y :: S' => some (pc, L, .int x :: .ref y :: .int x :: .ref y :: S', σ)
  | .int x :: .int y :: S' => some (pc, L, .int x :: .int y :: .int x :: .int y :: S', σ)
  | .long x :: S' => some (pc, L, .long x :: .long x :: S', σ)
  | _ => none
def qpop (pc : Nat) (L : QLoc) (S : List Value) (σ : QHeap) : Option QSt :=
  match S with
  | .int _ :: S' => some (pc, L, S', σ)
  | .ref _ :: S' => some (pc, L, S', σ)
  | _ => none
def qif (pc : Nat) (L : QLoc) (S : List Value) (σ : QHeap) (cd : ClassFile.Cond) (tgt : Nat) : Option QSt :=
  match S with
  | .int x :: S' => some (bif ifCond.holds cd x then tgt else pc, L, S', σ)
  | _ => none
def qicmp (pc : Nat) (L : QLoc) (S : List Value) (σ : QHeap) (cd : ClassFile.Cond) (tgt : Nat) : Option QSt :=
  match S with
  | .int y :: .int x :: S' => some (bif if_icmp.holds cd x y then tgt else pc, L, S', σ)
  | _ => none
def qinc (pc : Nat) (L : QLoc) (S : List Value) (σ : QHeap) (k : Nat) (i : Int) : Option QSt :=
  match lget L k with
  | some (.int x) => (match lput L k (.int (x + Int32.ofInt i)) with | some L' => some (pc, L', S, σ) | none => none)
  | _ => none
def qldc (pc : Nat) (L : QLoc) (S : List Value) (σ : QHeap) (k : Nat) : Option QSt :=
  match vget cK k with
  | some v => some (pc, L, v :: S, σ)
  | none => none
def qexec (pc : Nat) (L : QLoc) (S : List Value) (σ : QHeap) (aux : Nat) : Instr → Option QSt
  | .aload_n k => qload (pc + 1) L S σ k.val isR
  | .aload k => qload (pc + 2) L S σ k isR
  | .iload_n k => qload (pc + 1) L S σ k.val isI
  | .iload k => qload (pc + 2) L S σ k isI
  | .lload_n k => qload (pc + 1) L S σ k.val isJ
  | .lload k => qload (pc + 2) L S σ k isJ
  | .iconst i => some (pc + 1, L, .int (Int32.ofInt i) :: S, σ)
  | .bipush i => some (pc + 2, L, .int (Int8.ofInt i).toInt32 :: S, σ)
  | .sipush i => some (pc + 3, L, .int (Int16.ofInt i).toInt32 :: S, σ)
  | .lconst k => some (pc + 1, L, .long (Int64.ofNat k.val) :: S, σ)
  | .ldc _ => qldc (pc + 2) L S σ aux
  | .ldc2_w _ => qldc (pc + 3) L S σ aux
  | .istore_n k => qstore (pc + 1) L S σ k.val isI
  | .istore k => qstore (pc + 2) L S σ k isI
  | .lstore_n k => qstore (pc + 1) L S σ k.val isJ
  | .lstore k => qstore (pc + 2) L S σ k isJ
  | .astore_n k => qstore (pc + 1) L S σ k.val isR
  | .astore k => qstore (pc + 2) L S σ k isR
  | .iinc k i => qinc (pc + 3) L S σ k i
  | .iadd => qbin (pc + 1) L S σ fun x y => x + y
  | .isub => qbin (pc + 1) L S σ fun x y => x - y
  | .imul => qbin (pc + 1) L S σ fun x y => x * y
  | .iand => qbin (pc + 1) L S σ fun x y => x &&& y
  | .ior => qbin (pc + 1) L S σ fun x y => x ||| y
  | .ixor => qbin (pc + 1) L S σ fun x y => x ^^^ y
  | .ishl => qbin (pc + 1) L S σ fun x y => x <<< (y &&& 31)
  | .ishr => qbin (pc + 1) L S σ fun x y => x >>> (y &&& 31)
  | .iushr => qbin (pc + 1) L S σ fun x y => XT.ushr x y
  | .idiv => qbino (pc + 1) L S σ qdiv
  | .irem => qbino (pc + 1) L S σ qrem
  | .ineg => quni (pc + 1) L S σ fun x => .int (-x)
  | .i2l => quni (pc + 1) L S σ fun x => .long x.toInt64
  | .i2b => quni (pc + 1) L S σ fun x => .int x.toInt8.toInt32
  | .l2i => quniJ (pc + 1) L S σ fun x => .int x.toInt32
  | .lneg => quniJ (pc + 1) L S σ fun x => .long (-x)
  | .ladd => qbinJ (pc + 1) L S σ fun x y => x + y
  | .lsub => qbinJ (pc + 1) L S σ fun x y => x - y
  | .lmul => qbinJ (pc + 1) L S σ fun x y => x * y
  | .land => qbinJ (pc + 1) L S σ fun x y => x &&& y
  | .lor => qbinJ (pc + 1) L S σ fun x y => x ||| y
  | .lxor => qbinJ (pc + 1) L S σ fun x y => x ^^^ y
  | .lshl => qshJ (pc + 1) L S σ fun x y => x <<< (y.toInt64 &&& 63)
  | .lshr => qshJ (pc + 1) L S σ fun x y => x >>> (y.toInt64 &&& 63)
  | .lushr => qshJ (pc + 1) L S σ fun x y => XT.ushrL x y
  | .lcmp => (match S with
    | .long y :: .long x :: S' => some (pc + 1, L, .int (XT.cmpL x y) :: S', σ)
    | _ => none)
  | .goto _ => some (aux, L, S, σ)
  | .ifCond cd _ => qif (pc + 3) L S σ cd aux
  | .if_icmp cd _ => qicmp (pc + 3) L S σ cd aux
  | .dup => qdup (pc + 1) L S σ
  | .dup2 => qdup2 (pc + 1) L S σ
  | .pop => qpop (pc + 1) L S σ
  | .getfield _ => qget (pc + 3) L S σ aux
  | .putfield _ => qput (pc + 3) L S σ aux
  | .iaload => qald (pc + 1) L S σ tyI
  | .baload => qald (pc + 1) L S σ tyB
  | .laload => qaldJ (pc + 1) L S σ
  | .iastore => qast (pc + 1) L S σ tyI
  | .bastore => qast (pc + 1) L S σ tyB
  | .lastore => qastJ (pc + 1) L S σ
  | .arraylength => qlen (pc + 1) L S σ
  | .newarray t => qnewA (pc + 2) L S σ t
  | .new _ => some (pc + 3, L, .ref σ.length :: S, σ ++ [.inl cDef])
  | _ => none
def qstep (m : Nat) (st : QSt) : Option QSt :=
  match pCode m st.1 with
  | some (i, aux) => qexec st.1 st.2.1 st.2.2.1 st.2.2.2 aux i
  | none => none
def qsteps (m : Nat) : Nat → QSt → Option QSt
  | 0, st => some st
  | n + 1, st => match qstep m st with | some st' => qsteps m n st' | none => none
def qentry (args : List Value) (mx : Nat) : QLoc := (args.flatMap fun v => match v with | .long x => [some (.long x), none] | .double x => [some (.double x), none] | v => [some v]) ++ List.replicate (mx - (args.map fun v => v.category).sum) none
/-! ## what the abstract state says of the model's -/
def ilen : Instr → Nat
  | .aload _ | .iload _ | .lload _ | .istore _ | .lstore _ | .astore _ | .bipush _ | .ldc _ | .newarray _ => 2
  | .sipush _ | .ldc2_w _ | .iinc _ _ | .goto _ | .ifCond _ _ | .if_icmp _ _ | .getfield _ | .putfield _ | .new _ | .invokevirtual _ | .invokespecial _ | .invokestatic _ => 3
  | _ => 1
def qtgt (pc : Nat) (o : Int) (aux : Nat) : Bool := decide (0 ≤ (pc : Int) + o) && decide (((pc : Int) + o).toNat = aux)
def qlk (m pc : Nat) (i : Instr) (aux : Nat) : Bool :=
  match i with
  | .goto o => qtgt pc o aux
  | .ifCond _ o => qtgt pc o aux
  | .if_icmp _ o => qtgt pc o aux
  | .getfield idx => lkF.contains (pK m, idx, aux)
  | .putfield idx => lkF.contains (pK m, idx, aux) && (!fFin aux || (pK m == 1 && pNm m == "<init>"))
  | .new idx => lkN.contains (pK m, idx)
  | .newarray t => aTys.contains (newarray.typeOf t)
  | .ldc idx => lkC.contains (pK m, idx, aux)
  | .ldc2_w idx => lkD.contains (pK m, idx, aux)
  | _ => true
def qchk (m pc : Nat) (i : Instr) (aux : Nat) : Bool := decide (decode (pBytes m) pc = .ok (i, ilen i)) && qlk m pc i aux
def QCellOk (Z : State) (ad : Nat → Addr) (h : Heap) (a : Addr) : QCell → Prop
  | .inl vs => Exa Z h a cName ∧ vs.length = nF ∧ ∀ (k : Nat) (v : Value), k < nF → vget vs k = some v → Fld Z h a cName (fNm k) (fDs k) (qv ad v)
  | .inr (.inl x) => ∃ c : Cell, Arr Z h a c x.1 ∧ c.slots = (x.2.map Value.int).toArray
  | .inr (.inr x) => ∃ c : Cell, Arr Z h a c .long ∧ c.slots = (x.map Value.long).toArray
def QAd (n0 : Nat) (ad : Nat → Addr) : Prop := (∀ k, k0 ≤ k → ad k = n0 + (k - k0)) ∧ ∀ i j, ad i = ad j → i = j
def QRep (Z : State) (n0 : Nat) (ad : Nat → Addr) (h : Heap) (σ : QHeap) : Prop := k0 ≤ σ.length ∧ h.size = n0 + (σ.length - k0) ∧ ∀ k c, hget σ k = some c → QCellOk Z ad h (ad k) c
def QLocOk (ad : Nat → Addr) (L : QLoc) (C : Array Slot) : Prop :=
  L.length = C.size ∧ (∀ k v, lget L k = some v → C[k]? = some (.val (qv ad v))) ∧ (∀ k w, C[k]? = some (.val w) → w.category = 2 → C[k + 1]? = some .second) ∧ ∀ k, C[k]? = some .second → ∃ j w, k = j + 1 ∧ C[j]? = some (.val w) ∧ w.category = 2
/-- the words of the sheet, as the engine uses them -/
def QW (Z : State) (a0 : Array Value) : Prop :=
  (∀ t ∈ lkF, (Cond.fieldLink (kName t.1) t.2.1 cName (fNm t.2.2) (fDs t.2.2)).before a0 Z = true) ∧
  (∀ t ∈ lkN, (Cond.classLink (kName t.1) t.2 cName).before a0 Z = true) ∧
  (∀ t ∈ lkC, ∃ v, vget cK t.2.2 = some (.int v) ∧ (Cond.constant (kName t.1) t.2.1 v).before a0 Z = true) ∧
  (∀ t ∈ lkD, ∃ v, vget cK t.2.2 = some (.long v) ∧ (Cond.constantLong (kName t.1) t.2.1 v).before a0 Z = true) ∧
  (∀ t ∈ lkV, (Cond.methodLink (kName t.1) t.2.1 (pName t.2.2)).before a0 Z = true) ∧
  (∀ t ∈ lkO, (Cond.methodLink (kName t.1) t.2 Lib.objectInit).before a0 Z = true) ∧
  (∀ m ∈ mV, (Cond.declares (pName m)).before a0 Z = true ∧ (Cond.selects cName (pName m) (pName m)).before a0 Z = true ∧ (Cond.instanceMethod (pName m)).before a0 Z = true) ∧
  (∀ m ∈ mP, (Cond.instanceMethod (pName m)).before a0 Z = true ∧ (Cond.privateMethod (pName m)).before a0 Z = true) ∧
  (∀ m ∈ mS, (Cond.static (pName m)).before a0 Z = true) ∧
  (∀ m ∈ mI, (Cond.instanceMethod (pName m)).before a0 Z = true) ∧
  (∀ m ∈ mA, (Cond.code (pName m) (pBytes m) (pMaxL m) (pRet m)).before a0 Z = true ∧ (Cond.initialized (kName (pK m))).before a0 Z = true) ∧
  (Cond.instanceMethod Lib.objectInit).before a0 Z = true ∧ (Cond.code Lib.objectInit ⟨#[0xb1]⟩ 1 none).before a0 Z = true ∧
  (∀ k, k < nF → bif fFin k then (Cond.laysFinal cName cName (fNm k) (fDs k)).before a0 Z = true else (Cond.lays cName cName (fNm k) (fDs k)).before a0 Z = true) ∧
  (Cond.instantiable cName cN).before a0 Z = true ∧ (Cond.initialized cName).before a0 Z = true ∧
  ∀ ty ∈ aTys, (Cond.arrayClass ty).before a0 Z = true
section Words
variable {Z : State} {a0 : Array Value}
theorem qw_fl (W : QW Z a0) : ∀ t ∈ lkF, (Cond.fieldLink (kName t.1) t.2.1 cName (fNm t.2.2) (fDs t.2.2)).before a0 Z = true := W.1
theorem qw_nw (W : QW Z a0) : ∀ t ∈ lkN, (Cond.classLink (kName t.1) t.2 cName).before a0 Z = true := W.2.1
theorem qw_cI (W : QW Z a0) : ∀ t ∈ lkC, ∃ v, vget cK t.2.2 = some (.int v) ∧ (Cond.constant (kName t.1) t.2.1 v).before a0 Z = true := W.2.2.1
theorem qw_cJ (W : QW Z a0) : ∀ t ∈ lkD, ∃ v, vget cK t.2.2 = some (.long v) ∧ (Cond.constantLong (kName t.1) t.2.1 v).before a0 Z = true := W.2.2.2.1
theorem qw_ml (W : QW Z a0) : ∀ t ∈ lkV, (Cond.methodLink (kName t.1) t.2.1 (pName t.2.2)).before a0 Z = true := W.2.2.2.2.1
theorem qw_mo (W : QW Z a0) : ∀ t ∈ lkO, (Cond.methodLink (kName t.1) t.2 Lib.objectInit).before a0 Z = true := W.2.2.2.2.2.1
theorem qw_vi (W : QW Z a0) : ∀ m ∈ mV, (Cond.declares (pName m)).before a0 Z = true ∧ (Cond.selects cName (pName m) (pName m)).before a0 Z = true ∧ (Cond.instanceMethod (pName m)).before a0 Z = true := W.2.2.2.2.2.2.1
theorem qw_pr (W : QW Z a0) : ∀ m ∈ mP, (Cond.instanceMethod (pName m)).before a0 Z = true ∧ (Cond.privateMethod (pName m)).before a0 Z = true := W.2.2.2.2.2.2.2.1
theorem qw_st (W : QW Z a0) : ∀ m ∈ mS, (Cond.static (pName m)).before a0 Z = true := W.2.2.2.2.2.2.2.2.1
theorem qw_ini (W : QW Z a0) : ∀ m ∈ mI, (Cond.instanceMethod (pName m)).before a0 Z = true := W.2.2.2.2.2.2.2.2.2.1
theorem qw_cod (W : QW Z a0) : ∀ m ∈ mA, (Cond.code (pName m) (pBytes m) (pMaxL m) (pRet m)).before a0 Z = true ∧ (Cond.initialized (kName (pK m))).before a0 Z = true := W.2.2.2.2.2.2.2.2.2.2.1
theorem qw_oi (W : QW Z a0) : (Cond.instanceMethod Lib.objectInit).before a0 Z = true := W.2.2.2.2.2.2.2.2.2.2.2.1
theorem qw_oc (W : QW Z a0) : (Cond.code Lib.objectInit ⟨#[0xb1]⟩ 1 none).before a0 Z = true := W.2.2.2.2.2.2.2.2.2.2.2.2.1
theorem qw_lay (W : QW Z a0) : ∀ k, k < nF → bif fFin k then (Cond.laysFinal cName cName (fNm k) (fDs k)).before a0 Z = true else (Cond.lays cName cName (fNm k) (fDs k)).before a0 Z = true := W.2.2.2.2.2.2.2.2.2.2.2.2.2.1
theorem qw_inst (W : QW Z a0) : (Cond.instantiable cName cN).before a0 Z = true := W.2.2.2.2.2.2.2.2.2.2.2.2.2.2.1
theorem qw_init (W : QW Z a0) : (Cond.initialized cName).before a0 Z = true := W.2.2.2.2.2.2.2.2.2.2.2.2.2.2.2.1
theorem qw_arr (W : QW Z a0) : ∀ ty ∈ aTys, (Cond.arrayClass ty).before a0 Z = true := W.2.2.2.2.2.2.2.2.2.2.2.2.2.2.2.2
end Words
/-! ## small laws of lists -/
theorem hget_eq : ∀ (σ : QHeap) k, hget σ k = σ[k]?
  | [], _ => by simp [hget]
  | _ :: _, 0 => by simp [hget]
  | _ :: t, k + 1 => by simp [hget, hget_eq t k]
theorem vget_eq : ∀ (σ : List Value) k, vget σ k = σ[k]?
  | [], _ => by simp [vget]
  | _ :: _, 0 => by simp [vget]
  | _ :: t, k + 1 => by simp [vget, vget_eq t k]
theorem lget_eq : ∀ (L : QLoc) k, lget L k = (L[k]?).getD none
  | [], _ => by simp [lget]
  | _ :: _, 0 => by simp [lget]
  | _ :: t, k + 1 => by simp [lget, lget_eq t k]
theorem lget_lt {L : QLoc} {k : Nat} {v : Value} (h : lget L k = some v) : k < L.length := by
  rw [lget_eq] at h
  rcases Nat.lt_or_ge k L.length with q | q
  · exact q
  · simp [List.getElem?_eq_none q] at h
theorem lget_set {L : QLoc} {k j : Nat} {o : Option Value} (hk : k < L.length) : lget (L.set k o) j = if j = k then o else lget L j := by
  simp only [lget_eq, List.getElem?_set]
  by_cases e : k = j
  · subst e; simp [hk]
  · simp [e, Ne.symm e]
theorem qhs_app (σ τ : QHeap) : qhs (σ ++ τ) = qhs σ + qhs τ := by
  induction σ with
  | nil => simp [qhs]
  | cons c t ih => simp [qhs, ih, Nat.add_assoc]
theorem qhs_set {σ : QHeap} {k : Nat} {c d : QCell} (h : hget σ k = some c) (hs : qsz d = qsz c) : qhs (σ.set k d) = qhs σ := by
  induction σ generalizing k with
  | nil => simp [hget] at h
  | cons x t ih =>
    cases k with
    | zero => simp only [hget, Option.some.injEq] at h; subst h; simp [qhs, hs]
    | succ k => simp only [hget] at h; simp [qhs, ih h]
theorem hget_set {σ : QHeap} {k j : Nat} {c d : QCell} (h : hget σ k = some c) : hget (σ.set k d) j = if j = k then some d else hget σ j := by
  rw [hget_eq] at h
  have hk := (List.getElem?_eq_some_iff.mp h).1
  simp only [hget_eq, List.getElem?_set]
  by_cases e : k = j
  · subst e; simp [hk]
  · simp [e, Ne.symm e]
theorem lkill_len (L : QLoc) (k : Nat) : (lkill L k).length = L.length := by
  cases k with
  | zero => rfl
  | succ k => simp only [lkill]; split <;> simp
theorem lget_kill {L : QLoc} {k j : Nat} {v : Value} (h : lget (lkill L k) j = some v) : lget L j = some v ∧ (k = j + 1 → v.category ≠ 2) := by
  cases k with
  | zero => exact ⟨h, fun e => by omega⟩
  | succ k =>
    simp only [lkill] at h
    split at h
    · rename_i x q
      rw [lget_set (lget_lt q)] at h
      split at h
      · cases h
      · rename_i ne; exact ⟨h, fun e => absurd (by omega) ne⟩
    · rename_i x q
      rw [lget_set (lget_lt q)] at h
      split at h
      · cases h
      · rename_i ne; exact ⟨h, fun e => absurd (by omega) ne⟩
    · rename_i q1 q2
      refine ⟨h, fun e hc => ?_⟩
      obtain rfl : j = k := by omega
      cases v with
      | long x => exact q1 _ h
      | double x => exact q2 _ h
      | _ => simp [Value.category] at hc
theorem qv_cat (ad : Nat → Addr) (v : Value) : (qv ad v).category = v.category := by cases v <;> rfl
/-! ## storing into a local -/
def kA (C : Array Slot) (k j : Nat) : Prop := k = j + 1 ∧ C[k]? = some .second
def kB (C : Array Slot) (k j : Nat) : Prop := j = k + 1 ∧ ∃ u, C[k]? = some (.val u) ∧ u.category = 2
def kD (C : Array Slot) (k j : Nat) : Prop := j = k + 2 ∧ ∃ u, C[k + 1]? = some (.val u) ∧ u.category = 2
theorem set1_at {C D : Array Slot} {k : Nat} {w : Value} (hk : k < C.size) (hw : w.category = 1) (h : storeLocals C k w = some D) :
    D.size = C.size ∧ D[k]? = some (.val w) ∧ ∀ j, j ≠ k → (D[j]? = C[j]? ∧ ¬ kA C k j ∧ ¬ kB C k j) ∨ D[j]? = some .unset ∧ (kA C k j ∨ kB C k j) := by
  have hck : C[k]? = some C[k] := Array.getElem?_eq_getElem hk
  unfold storeLocals at h
  simp only [hck, Option.bind_eq_bind, Option.bind_some] at h
  have self : ∀ {E : Array Slot}, k < E.size → storeSelf E k w = some D → D = E.setIfInBounds k (.val w) := by
    intro E hE q
    simp only [storeSelf, setAt, hE, if_true, Option.bind_eq_bind, Option.bind_some, hw] at q
    simpa using q.symm
  split at h
  · rename_i q
    have hk1 : k - 1 < C.size := by omega
    simp only [setAt, hk1, if_true, Option.bind_some] at h
    have e := self (by simpa using hk) h
    subst e
    refine ⟨by simp, by simp [hk], fun j hj => ?_⟩
    by_cases ej : k = j + 1
    · refine Or.inr ⟨?_, Or.inl ⟨ej, by rw [hck, q]⟩⟩
      rw [Array.getElem?_setIfInBounds_ne (Ne.symm hj), show j = k - 1 by omega]
      simp [hk1]
    · refine Or.inl ⟨?_, fun x => ej x.1, fun x => ?_⟩
      · rw [Array.getElem?_setIfInBounds_ne (Ne.symm hj), Array.getElem?_setIfInBounds_ne (by omega)]
      · obtain ⟨-, u, x1, -⟩ := x
        rw [hck, q] at x1; cases x1
  · rename_i u q
    split at h
    · rename_i hu
      by_cases hk1 : k + 1 < C.size
      · simp only [setAt, hk1, if_true, Option.bind_some] at h
        have e := self (by simpa using hk) h
        subst e
        refine ⟨by simp, by simp [hk], fun j hj => ?_⟩
        by_cases ej : j = k + 1
        · refine Or.inr ⟨?_, Or.inr ⟨ej, u, by rw [hck, q], hu⟩⟩
          rw [Array.getElem?_setIfInBounds_ne (Ne.symm hj), ej]
          simp [hk1]
        · refine Or.inl ⟨?_, fun x => ?_, fun x => ej x.1⟩
          · rw [Array.getElem?_setIfInBounds_ne (Ne.symm hj), Array.getElem?_setIfInBounds_ne (by omega)]
          · obtain ⟨-, x1⟩ := x
            rw [hck, q] at x1; cases x1
      · simp [setAt, hk1] at h
    · rename_i hu
      have e := self hk h
      subst e
      refine ⟨by simp, by simp [hk], fun j hj => Or.inl ⟨Array.getElem?_setIfInBounds_ne (Ne.symm hj), fun x => ?_, fun x => ?_⟩⟩
      · obtain ⟨-, x1⟩ := x
        rw [hck, q] at x1; cases x1
      · obtain ⟨-, u', x1, x2⟩ := x
        rw [hck, q] at x1; cases x1; exact hu x2
  · rename_i q
    have e := self hk h
    subst e
    refine ⟨by simp, by simp [hk], fun j hj => Or.inl ⟨Array.getElem?_setIfInBounds_ne (Ne.symm hj), fun x => ?_, fun x => ?_⟩⟩
    · obtain ⟨-, x1⟩ := x
      rw [hck, q] at x1; cases x1
    · obtain ⟨-, u', x1, x2⟩ := x
      rw [hck, q] at x1; cases x1
theorem set2_at {C D : Array Slot} {k : Nat} {w : Value} (hk : k + 1 < C.size) (hw : w.category = 2) (wf : ∀ k w, C[k]? = some (.val w) → w.category = 2 → C[k + 1]? = some .second) (h : storeLocals C k w = some D) :
    D.size = C.size ∧ D[k]? = some (.val w) ∧ D[k + 1]? = some .second ∧ ∀ j, j ≠ k → j ≠ k + 1 → (D[j]? = C[j]? ∧ ¬ kA C k j ∧ ¬ kD C k j) ∨ D[j]? = some .unset ∧ (kA C k j ∨ kD C k j) := by
  have hk0 : k < C.size := by omega
  have hck : C[k]? = some C[k] := Array.getElem?_eq_getElem hk0
  unfold storeLocals at h
  simp only [hck, Option.bind_eq_bind, Option.bind_some] at h
  have self : ∀ {E : Array Slot}, E.size = C.size → storeSelf E k w = some D → D.size = C.size ∧ D[k]? = some (.val w) ∧ D[k + 1]? = some .second ∧ ∀ j, j ≠ k → j ≠ k + 1 → (D[j]? = E[j]? ∧ ¬ kD E k j) ∨ D[j]? = some .unset ∧ kD E k j := by
    intro E hs q
    have h1 : k < E.size := by omega
    have h2 : k + 1 < E.size := by omega
    have h3 : (E.setIfInBounds k (.val w))[k + 1]? = some E[k + 1] := by rw [Array.getElem?_setIfInBounds_ne (by omega)]; exact Array.getElem?_eq_getElem h2
    simp only [storeSelf, setAt, h1, if_true, Option.bind_eq_bind, Option.bind_some, hw, h3] at q
    have plain : (¬ ∃ u, E[k + 1]? = some (.val u) ∧ u.category = 2) → some ((E.setIfInBounds k (.val w)).setIfInBounds (k + 1) .second) = some D → D.size = C.size ∧ D[k]? = some (.val w) ∧ D[k + 1]? = some .second ∧ ∀ j, j ≠ k → j ≠ k + 1 → (D[j]? = E[j]? ∧ ¬ kD E k j) ∨ D[j]? = some .unset ∧ kD E k j := by
      intro no q
      cases q
      refine ⟨by simp [hs], ?_, ?_, fun j hj hj1 => Or.inl ⟨?_, fun x => no x.2⟩⟩
      · rw [Array.getElem?_setIfInBounds_ne (by omega)]; simp [h1]
      · simp [h2]
      · rw [Array.getElem?_setIfInBounds_ne (by omega), Array.getElem?_setIfInBounds_ne (by omega)]
    split at q
    · rename_i u hu
      split at q
      · rename_i hu2
        by_cases h5 : k + 2 < E.size
        · simp [h5, h2] at q
          cases q
          refine ⟨by simp [hs], ?_, ?_, fun j hj hj1 => ?_⟩
          · rw [Array.getElem?_setIfInBounds_ne (by omega), Array.getElem?_setIfInBounds_ne (by omega)]; simp [h1]
          · simp [h2]
          · by_cases e : j = k + 2
            · refine Or.inr ⟨?_, e, u, by rw [Array.getElem?_eq_getElem h2, hu], hu2⟩
              rw [Array.getElem?_setIfInBounds_ne (by omega), e]
              simp [h5]
            · refine Or.inl ⟨?_, fun x => e x.1⟩
              rw [Array.getElem?_setIfInBounds_ne (by omega), Array.getElem?_setIfInBounds_ne (by omega), Array.getElem?_setIfInBounds_ne (by omega)]
        · simp [h5] at q
      · rename_i hu2
        refine plain ?_ (by simpa [h2] using q)
        rintro ⟨u', x1, x2⟩
        rw [Array.getElem?_eq_getElem h2, hu] at x1; cases x1; exact hu2 x2
    · rename_i hu
      refine plain ?_ (by simpa [h2] using q)
      rintro ⟨u', x1, x2⟩
      rw [Array.getElem?_eq_getElem h2] at x1; exact hu _ (Option.some.inj x1)
  split at h
  · rename_i q
    have hk1 : k - 1 < C.size := by omega
    simp only [setAt, hk1, if_true, Option.bind_some] at h
    obtain ⟨e1, e2, e3, e4⟩ := self (by simp) h
    refine ⟨e1, e2, e3, fun j hj hj1 => ?_⟩
    have h6 : ∀ i, i + 1 ≠ k ∨ k = 0 → i ≠ k ∨ k ≠ 0 → (C.setIfInBounds (k - 1) Slot.unset)[i]? = C[i]? := fun i hi hi2 => Array.getElem?_setIfInBounds_ne (by omega)
    have h7 : (C.setIfInBounds (k - 1) Slot.unset)[k + 1]? = C[k + 1]? := Array.getElem?_setIfInBounds_ne (by omega)
    rcases e4 j hj hj1 with ⟨r, r'⟩ | ⟨r, r1, u, r2, r3⟩
    · by_cases ej : k = j + 1
      · refine Or.inr ⟨?_, Or.inl ⟨ej, by rw [hck, q]⟩⟩
        rw [r, show j = k - 1 by omega]; simp [hk1]
      · refine Or.inl ⟨by rw [r]; exact h6 _ (by omega) (by omega), fun x => ej x.1, fun x => r' ⟨x.1, ?_⟩⟩
        rw [h7]; exact x.2
    · exact Or.inr ⟨r, Or.inr ⟨r1, u, by rw [← h7]; exact r2, r3⟩⟩
  · rename_i u q
    split at h
    · rename_i hu
      simp only [setAt, hk, if_true, Option.bind_some] at h
      obtain ⟨e1, e2, e3, e4⟩ := self (by simp) h
      have hsec := wf k u (by rw [hck, q]) hu
      refine ⟨e1, e2, e3, fun j hj hj1 => ?_⟩
      rcases e4 j hj hj1 with ⟨r, r'⟩ | ⟨r, r1, u', r2, r3⟩
      · refine Or.inl ⟨by rw [r]; exact Array.getElem?_setIfInBounds_ne (by omega), fun x => ?_, fun x => ?_⟩
        · obtain ⟨-, x1⟩ := x
          rw [hck, q] at x1; cases x1
        · obtain ⟨-, u', x1, x2⟩ := x
          rw [hsec] at x1; cases x1
      · simp [hk] at r2
    · rename_i hu
      obtain ⟨e1, e2, e3, e4⟩ := self rfl h
      refine ⟨e1, e2, e3, fun j hj hj1 => ?_⟩
      rcases e4 j hj hj1 with ⟨r, r'⟩ | ⟨r, r'⟩
      · refine Or.inl ⟨r, fun x => ?_, r'⟩
        obtain ⟨-, x1⟩ := x
        rw [hck, q] at x1; cases x1
      · exact Or.inr ⟨r, Or.inr r'⟩
  · rename_i q
    obtain ⟨e1, e2, e3, e4⟩ := self rfl h
    refine ⟨e1, e2, e3, fun j hj hj1 => ?_⟩
    rcases e4 j hj hj1 with ⟨r, r'⟩ | ⟨r, r'⟩
    · refine Or.inl ⟨r, fun x => ?_, r'⟩
      obtain ⟨-, x1⟩ := x
      rw [hck, q] at x1; cases x1
    · exact Or.inr ⟨r, Or.inr r'⟩
/-- a store succeeds: in a well kept array of locals -/
theorem store_some {C : Array Slot} {k : Nat} {w : Value} (hk : k + (w.category - 1) < C.size) (hc : w.category = 1 ∨ w.category = 2) (wf : ∀ k w, C[k]? = some (.val w) → w.category = 2 → C[k + 1]? = some .second) :
    ∃ D, storeLocals C k w = some D := by
  have hk0 : k < C.size := by omega
  have hck : C[k]? = some C[k] := Array.getElem?_eq_getElem hk0
  have self : ∀ {E : Array Slot}, E.size = C.size → (∀ u, E[k + 1]? = some (.val u) → u.category = 2 → k + 2 < E.size) → ∃ D, storeSelf E k w = some D := by
    intro E hs hn
    have h1 : k < E.size := by omega
    simp only [storeSelf, setAt, h1, if_true, Option.bind_eq_bind, Option.bind_some]
    rcases hc with hc | hc
    · exact ⟨E.setIfInBounds k (.val w), by simp [hc]⟩
    · have h2 : k + 1 < E.size := by omega
      have h3 : (E.setIfInBounds k (.val w))[k + 1]? = some E[k + 1] := by rw [Array.getElem?_setIfInBounds_ne (by omega)]; exact Array.getElem?_eq_getElem h2
      simp only [hc, if_true, h3, Option.bind_some]
      split
      · rename_i u hu
        split
        · rename_i hu2
          have h5 := hn u (by rw [Array.getElem?_eq_getElem h2, hu]) hu2
          exact ⟨_, by simp [h5, h2]; rfl⟩
        · exact ⟨_, by simp [h2]; rfl⟩
      · exact ⟨_, by simp [h2]; rfl⟩
  have next : ∀ u, C[k + 1]? = some (.val u) → u.category = 2 → k + 2 < C.size := fun u h1 h2 => (Array.getElem?_eq_some_iff.mp (wf _ _ h1 h2)).1
  unfold storeLocals
  simp only [hck, Option.bind_eq_bind, Option.bind_some]
  split
  · have hk1 : k - 1 < C.size := by omega
    simp only [setAt, hk1, if_true, Option.bind_some]
    refine self (by simp) fun u h1 h2 => ?_
    rw [Array.getElem?_setIfInBounds_ne (by omega)] at h1
    simpa using next u h1 h2
  · rename_i u q
    split
    · rename_i hu
      have h5 := (Array.getElem?_eq_some_iff.mp (wf k u (by rw [hck, q]) hu)).1
      simp only [setAt, h5, if_true, Option.bind_some]
      refine self (by simp) fun u h1 h2 => ?_
      simp [h5] at h1
    · exact self rfl next
  · exact self rfl next
theorem store_ok1 {ad : Nat → Addr} {L : QLoc} {C : Array Slot} {k : Nat} {v : Value} (H : QLocOk ad L C) (hv : v.category = 1) (hk : k < L.length) :
    ∃ D, storeLocals C k (qv ad v) = some D ∧ QLocOk ad ((lkill L k).set k (some v)) D ∧ D.size = C.size := by
  obtain ⟨H1, H2, H3, H4⟩ := H
  have hc : (qv ad v).category = 1 := by rw [qv_cat, hv]
  obtain ⟨D, hD⟩ := store_some (C := C) (k := k) (w := qv ad v) (by rw [hc]; omega) (Or.inl hc) H3
  obtain ⟨d1, d2, d3⟩ := set1_at (by omega) hc hD
  refine ⟨D, hD, ⟨by simp [lkill_len, H1, d1], fun j u hj => ?_, fun j w hj hw => ?_, fun j hj => ?_⟩, d1⟩
  · rw [lget_set (by rw [lkill_len]; exact hk)] at hj
    split at hj
    · rename_i e; cases hj; rw [e]; exact d2
    · rename_i ne
      obtain ⟨g1, g2⟩ := lget_kill hj
      have g3 := H2 j u g1
      rcases d3 j ne with ⟨r, -, -⟩ | ⟨-, ⟨r1, r2⟩ | ⟨r1, w, r2, r3⟩⟩
      · rw [r]; exact g3
      · obtain ⟨i, w, z1, z2, z3⟩ := H4 k r2
        obtain rfl : i = j := by omega
        rw [g3] at z2
        cases z2
        rw [qv_cat] at z3
        exact absurd z3 (g2 r1)
      · have := H3 k w r2 r3
        rw [← r1, g3] at this
        cases this
  · by_cases e : j = k
    · subst e; rw [d2] at hj; cases hj; rw [hc] at hw; cases hw
    · rcases d3 j e with ⟨r, nA, nB⟩ | ⟨r, -⟩
      · rw [r] at hj
        have g := H3 j w hj hw
        have e2 : j + 1 ≠ k := fun q => nA ⟨q.symm, by rw [← q]; exact g⟩
        rcases d3 (j + 1) e2 with ⟨z, -, -⟩ | ⟨-, ⟨z1, z2⟩ | ⟨z1, -⟩⟩
        · rw [z]; exact g
        · obtain ⟨i, u, y1, y2, y3⟩ := H4 k z2
          obtain rfl : i = j + 1 := by omega
          rw [g] at y2; cases y2
        · omega
      · rw [r] at hj; cases hj
  · by_cases e : j = k
    · subst e; rw [d2] at hj; cases hj
    · rcases d3 j e with ⟨r, nA, nB⟩ | ⟨r, -⟩
      · rw [r] at hj
        obtain ⟨i, w, y1, y2, y3⟩ := H4 j hj
        refine ⟨i, w, y1, ?_, y3⟩
        have ei : i ≠ k := fun q => nB ⟨by omega, w, by rw [← q]; exact y2, y3⟩
        rcases d3 i ei with ⟨z, -, -⟩ | ⟨-, ⟨z1, z2⟩ | ⟨z1, u, z2, z3⟩⟩
        · rw [z]; exact y2
        · omega
        · have := H3 k u z2 z3
          rw [← z1, y2] at this; cases this
      · rw [r] at hj; cases hj
theorem store_ok2 {ad : Nat → Addr} {L : QLoc} {C : Array Slot} {k : Nat} {x : Int64} (H : QLocOk ad L C) (hk : k + 1 < L.length) :
    ∃ D, storeLocals C k (.long x) = some D ∧ QLocOk ad (((lkill L k).set k (some (.long x))).set (k + 1) none) D ∧ D.size = C.size := by
  obtain ⟨H1, H2, H3, H4⟩ := H
  have hc : (Value.long x).category = 2 := rfl
  obtain ⟨D, hD⟩ := store_some (C := C) (k := k) (w := .long x) (by rw [hc]; omega) (Or.inr hc) H3
  obtain ⟨d1, d2, d2', d3⟩ := set2_at (by omega) hc H3 hD
  refine ⟨D, hD, ⟨by simp [lkill_len, H1, d1], fun j u hj => ?_, fun j w hj hw => ?_, fun j hj => ?_⟩, d1⟩
  · rw [lget_set (by simp [lkill_len]; exact hk)] at hj
    split at hj
    · cases hj
    · rename_i ne1
      rw [lget_set (by rw [lkill_len]; omega)] at hj
      split at hj
      · rename_i e; cases hj; rw [e]; exact d2
      · rename_i ne
        obtain ⟨g1, g2⟩ := lget_kill hj
        have g3 := H2 j u g1
        rcases d3 j ne ne1 with ⟨r, -, -⟩ | ⟨-, ⟨r1, r2⟩ | ⟨r1, w, r2, r3⟩⟩
        · rw [r]; exact g3
        · obtain ⟨i, w, z1, z2, z3⟩ := H4 k r2
          obtain rfl : i = j := by omega
          rw [g3] at z2
          cases z2
          rw [qv_cat] at z3
          exact absurd z3 (g2 r1)
        · have := H3 (k + 1) w r2 r3
          rw [show k + 1 + 1 = j by omega, g3] at this
          cases this
  · by_cases e : j = k
    · rw [e]; exact d2'
    · by_cases e1 : j = k + 1
      · rw [e1, d2'] at hj; cases hj
      · rcases d3 j e e1 with ⟨r, nA, nB⟩ | ⟨r, -⟩
        · rw [r] at hj
          have g := H3 j w hj hw
          have e2 : j + 1 ≠ k := fun q => nA ⟨q.symm, by rw [← q]; exact g⟩
          rcases d3 (j + 1) e2 (by omega) with ⟨z, -, -⟩ | ⟨-, ⟨z1, z2⟩ | ⟨z1, -⟩⟩
          · rw [z]; exact g
          · obtain ⟨i, u, y1, y2, y3⟩ := H4 k z2
            obtain rfl : i = j + 1 := by omega
            rw [g] at y2; cases y2
          · omega
        · rw [r] at hj; cases hj
  · by_cases e : j = k
    · rw [e, d2] at hj; cases hj
    · by_cases e1 : j = k + 1
      · exact ⟨k, _, e1, d2, hc⟩
      · rcases d3 j e e1 with ⟨r, nA, nB⟩ | ⟨r, -⟩
        · rw [r] at hj
          obtain ⟨i, w, y1, y2, y3⟩ := H4 j hj
          refine ⟨i, w, y1, ?_, y3⟩
          have ei : i ≠ k := fun q => e1 (by omega)
          have ei1 : i ≠ k + 1 := fun q => nB ⟨by omega, w, by rw [← q]; exact y2, y3⟩
          rcases d3 i ei ei1 with ⟨z, -, -⟩ | ⟨-, ⟨z1, z2⟩ | ⟨z1, u, z2, z3⟩⟩
          · rw [z]; exact y2
          · omega
          · have := H3 (k + 1) u z2 z3
            rw [show k + 1 + 1 = i by omega, y2] at this; cases this
        · rw [r] at hj; cases hj
theorem store_ok {ad : Nat → Addr} {L L' : QLoc} {C : Array Slot} {k : Nat} {v : Value} (H : QLocOk ad L C) (h : lput L k v = some L') :
    ∃ D, storeLocals C k (qv ad v) = some D ∧ QLocOk ad L' D ∧ D.size = C.size := by
  have one : v.category = 1 → (bif Nat.ble (k + 1) L.length then some ((lkill L k).set k (some v)) else none) = some L' → ∃ D, storeLocals C k (qv ad v) = some D ∧ QLocOk ad L' D ∧ D.size = C.size := by
    intro hv h
    cases hb : Nat.ble (k + 1) L.length with
    | false => rw [hb] at h; cases h
    | true => rw [hb] at h; cases h; exact store_ok1 H hv (Nat.le_of_ble_eq_true hb)
  cases v with
  | long x =>
    simp only [lput] at h
    cases hb : Nat.ble (k + 2) L.length with
    | false => rw [hb] at h; cases h
    | true => rw [hb] at h; cases h; exact store_ok2 H (Nat.le_of_ble_eq_true hb)
  | double x => simp [lput] at h
  | int x => exact one rfl h
  | float x => exact one rfl h
  | null => exact one rfl h
  | ref x => exact one rfl h
  | retAddr x => exact one rfl h
/-! ## facts of the tables, by evaluation -/
theorem fInj : ∀ i, i < nF → ∀ j, j < nF → fNm i = fNm j → i = j := by decide +kernel
theorem fPrs : ∀ i, i < nF → parseFieldDescriptor (fDs i) = some (fTy i) := by decide +kernel
theorem cDefs : ∀ i, i < nF → vget cDef i = some (defaultValue (fTy i)) := by decide +kernel
theorem cDefL : cDef.length = nF := by decide +kernel
theorem fDef : ∀ i, i < nF → ∀ a, defaultValue (fTy i) ≠ .ref a := by
  intro i _ a
  cases fTy i <;> simp [defaultValue]
theorem kPlain : ∀ k, k < 2 → plainName (kName k) = true := by
  intro k hk
  rcases k with _ | _ | k
  · first | decide +kernel | (simp [kName, plainName, overriddenIn]; done)
  · first | decide +kernel | (simp [kName, plainName, overriddenIn]; done)
  · omega
theorem pKlt : ∀ m, m < pN → pK m < 2 := by decide +kernel
theorem pSig : ∀ m, m < pN → (parseMethodDescriptor (pDs m)).map (fun sg => sg.parameters.length) = some (pNA m) := by decide +kernel
theorem pOwn : ∀ k, k < 2 → kName k ≠ "java/lang/invoke/MethodHandle" ∧ kName k ≠ "java/lang/invoke/VarHandle" := by decide +kernel
theorem mAlt : ∀ m ∈ mA, m < pN := by decide +kernel
theorem mVlt : ∀ m ∈ mV, m ∈ mA ∧ pK m = 1 := by decide +kernel
theorem mPlt : ∀ m ∈ mP, m ∈ mA ∧ pK m = 1 := by decide +kernel
theorem mSlt : ∀ m ∈ mS, m ∈ mA := by decide +kernel
theorem mIlt : ∀ m ∈ mI, m ∈ mA ∧ pK m = 1 ∧ pNm m = "<init>" ∧ pRet m = none := by decide +kernel
theorem kOne : kName 1 = cName := rfl
set_option maxRecDepth 100000 in
theorem pChk0 : ∀ m, m < pN → ∀ pc, pc < pTop → (match pCode m pc with | some t => qchk m pc t.1 t.2 | none => true) = true := by decide +kernel
theorem pIn {m pc : Nat} {t : Instr × Nat} (h : pCode m pc = some t) : m < pN ∧ pc < pTop := by
  unfold pCode at h
  cases h1 : Nat.ble pN m with
  | true => rw [h1] at h; cases h
  | false =>
    cases h2 : Nat.ble pTop pc with
    | true => rw [h1, h2] at h; cases h
    | false => exact ⟨Nat.lt_of_not_le (fun q => by rw [Nat.ble_eq_true_of_le q] at h1; cases h1), Nat.lt_of_not_le (fun q => by rw [Nat.ble_eq_true_of_le q] at h2; cases h2)⟩
theorem pChk {m pc : Nat} {i : Instr} {aux : Nat} (h : pCode m pc = some (i, aux)) : qchk m pc i aux = true := by
  have q := pChk0 m (pIn h).1 pc (pIn h).2
  rw [h] at q
  exact q
theorem pDec {m pc : Nat} {i : Instr} {aux : Nat} (h : pCode m pc = some (i, aux)) : decode (pBytes m) pc = .ok (i, ilen i) := by
  have q := pChk h
  unfold qchk at q
  exact of_decide_eq_true (Bool.and_eq_true_iff.mp q).1
theorem pDecN {m pc n : Nat} {i : Instr} {aux : Nat} (h : pCode m pc = some (i, aux)) (hn : ilen i = n) : decode (pBytes m) pc = .ok (i, n) := by
  rw [← hn]; exact pDec h
theorem pRest {m pc : Nat} {i : Instr} {aux : Nat} (h : pCode m pc = some (i, aux)) : qlk m pc i aux = true := by
  have q := pChk h
  unfold qchk at q
  exact (Bool.and_eq_true_iff.mp q).2
theorem qtgt_spec {pc : Nat} {o : Int} {aux : Nat} (h : qtgt pc o aux = true) : 0 ≤ (pc : Int) + o ∧ ((pc : Int) + o).toNat = aux := by
  unfold qtgt at h
  have h2 := Bool.and_eq_true_iff.mp h
  exact ⟨of_decide_eq_true h2.1, of_decide_eq_true h2.2⟩
/-! ## triples -/
def QCx (Z : State) (p : Program) (R : Room) (s : State) (mid : MethodId) (meth : Method) (c : Code) (m : Nat) : Prop :=
  p.tables.exec = Jvm.exec ∧ Z.Warmed39 s.vm ∧ c.code = pBytes m ∧ c.maxLocals = pMaxL m ∧ meth.sig.returnType = pRet m ∧ s.vm.findClass (kName (pK m)) = some mid.cls ∧ meth.name = pNm m ∧ pFr m ≤ R.frames ∧ pLo m ≤ R.locals
def QTri (l : Launch) (Z : State) (n0 : Nat) (ad : Nat → Addr) (m : Nat) (st : QSt) (v : Option Value) (σ' : QHeap) : Prop :=
  st.2.2.2.length ≤ σ'.length ∧ qhs st.2.2.2 ≤ qhs σ' ∧
  ∀ (p : Program) (e : Env) (R : Room) (s : State) (mid : MethodId) (args : Array Value) (below : List Frame) (meth : Method) (c : Code) (T : State) (locs : List Loc) (cells slots : Nat) (C : Array Slot),
    QCx Z p R s mid meth c m → Stand p l e R s mid args below meth c T locs cells slots → QRep Z n0 ad T.heap st.2.2.2 → Fr n0 locs → QLocOk ad st.2.1 C → C.size = c.maxLocals →
    n0 + (st.2.2.2.length - k0) = s.heap.size + cells → cells + (σ'.length - st.2.2.2.length) ≤ R.cells → slots + (qhs σ' - qhs st.2.2.2) ≤ R.slots →
    ∃ T' locs', Stand p l e R s mid args below meth c T' locs' (cells + (σ'.length - st.2.2.2.length)) (slots + (qhs σ' - qhs st.2.2.2)) ∧ QRep Z n0 ad T'.heap σ' ∧ Fr n0 locs' ∧
      ∀ fs, (∀ (f : JFrame) (acts : List Action), f.method = mid → f.locked = none → f.entered = [] → (doReturn e (T'.setTop f) acts (v.map (qv ad))).1 = T'.setFrames fs) →
        Steps p.tables e below (T.setTop (mkF mid st.1 C (st.2.2.1.map (qv ad)))) (T'.setFrames fs)
section Triples
variable {l : Launch} {Z : State} {n0 : Nat} {ad : Nat → Addr} {a0 : Array Value} {m : Nat} {v : Option Value} {σ' : QHeap}
theorem QTri.gen {st st' : QSt} (h : QTri l Z n0 ad m st' v σ') (g1 : st.2.2.2.length ≤ st'.2.2.2.length) (g2 : qhs st.2.2.2 ≤ qhs st'.2.2.2)
    (hs : ∀ (p : Program) (e : Env) (R : Room) (s : State) (mid : MethodId) (args : Array Value) (below : List Frame) (meth : Method) (c : Code) (T : State) (locs : List Loc) (cells slots : Nat) (C : Array Slot),
      QCx Z p R s mid meth c m → Stand p l e R s mid args below meth c T locs cells slots → QRep Z n0 ad T.heap st.2.2.2 → Fr n0 locs → QLocOk ad st.2.1 C → C.size = c.maxLocals →
      n0 + (st.2.2.2.length - k0) = s.heap.size + cells → cells + (st'.2.2.2.length - st.2.2.2.length) ≤ R.cells → slots + (qhs st'.2.2.2 - qhs st.2.2.2) ≤ R.slots →
      ∃ T₁ locs₁ C₁, Stand p l e R s mid args below meth c T₁ locs₁ (cells + (st'.2.2.2.length - st.2.2.2.length)) (slots + (qhs st'.2.2.2 - qhs st.2.2.2)) ∧ QRep Z n0 ad T₁.heap st'.2.2.2 ∧ Fr n0 locs₁ ∧ QLocOk ad st'.2.1 C₁ ∧ C₁.size = c.maxLocals ∧
        ∀ target, Steps p.tables e below (T₁.setTop (mkF mid st'.1 C₁ (st'.2.2.1.map (qv ad)))) target → Steps p.tables e below (T.setTop (mkF mid st.1 C (st.2.2.1.map (qv ad)))) target) :
    QTri l Z n0 ad m st v σ' := by
  obtain ⟨h1, h2, h3⟩ := h
  refine ⟨Nat.le_trans g1 h1, Nat.le_trans g2 h2, fun p e R s mid args below meth c T locs cells slots C hcx X hR hF hL hC hn hc hsl => ?_⟩
  obtain ⟨T₁, locs₁, C₁, X₁, R₁, F₁, L₁, C1, S₁⟩ := hs p e R s mid args below meth c T locs cells slots C hcx X hR hF hL hC hn (by omega) (by omega)
  have hk := hR.1
  obtain ⟨T', locs', X', R', F', S'⟩ := h3 p e R s mid args below meth c T₁ locs₁ _ _ C₁ hcx X₁ R₁ F₁ L₁ C1 (by omega) (by omega) (by omega)
  have e1 : cells + (st'.2.2.2.length - st.2.2.2.length) + (σ'.length - st'.2.2.2.length) = cells + (σ'.length - st.2.2.2.length) := by omega
  have e2 : slots + (qhs st'.2.2.2 - qhs st.2.2.2) + (qhs σ' - qhs st'.2.2.2) = slots + (qhs σ' - qhs st.2.2.2) := by omega
  rw [e1, e2] at X'
  exact ⟨T', locs', X', R', F', fun fs hf => S₁ _ (S' fs hf)⟩
theorem QTri.pure {st st' : QSt} (h : QTri l Z n0 ad m st' v σ') (hσ : st'.2.2.2 = st.2.2.2)
    (hs : ∀ (p : Program) (e : Env) (R : Room) (s : State) (mid : MethodId) (args : Array Value) (below : List Frame) (meth : Method) (c : Code) (T : State) (locs : List Loc) (cells slots : Nat) (C : Array Slot),
      QCx Z p R s mid meth c m → Stand p l e R s mid args below meth c T locs cells slots → QRep Z n0 ad T.heap st.2.2.2 → QLocOk ad st.2.1 C → C.size = c.maxLocals →
      ∃ T₁ C₁, Stand p l e R s mid args below meth c T₁ locs cells slots ∧ T₁.heap = T.heap ∧ QLocOk ad st'.2.1 C₁ ∧ C₁.size = c.maxLocals ∧
        ∀ target, Steps p.tables e below (T₁.setTop (mkF mid st'.1 C₁ (st'.2.2.1.map (qv ad)))) target → Steps p.tables e below (T.setTop (mkF mid st.1 C (st.2.2.1.map (qv ad)))) target) :
    QTri l Z n0 ad m st v σ' := by
  refine QTri.gen h (by rw [hσ]; exact Nat.le_refl _) (by rw [hσ]; exact Nat.le_refl _) fun p e R s mid args below meth c T locs cells slots C hcx X hR hF hL hC hn hc hsl => ?_
  obtain ⟨T₁, C₁, X₁, hh, L₁, C1, S₁⟩ := hs p e R s mid args below meth c T locs cells slots C hcx X hR hL hC
  refine ⟨T₁, locs, C₁, ?_, by rw [hσ, hh]; exact hR, hF, L₁, C1, S₁⟩
  rw [hσ, Nat.sub_self, Nat.sub_self]
  exact X₁
/-- a step of the frame alone -/
theorem QTri.frame {pc pc' : Nat} {L L' : QLoc} {S S' : List Value} {σ : QHeap} (h : QTri l Z n0 ad m (pc', L', S', σ) v σ')
    (hs : ∀ (p : Program) (e : Env) (R : Room) (s : State) (mid : MethodId) (args : Array Value) (below : List Frame) (meth : Method) (c : Code) (T : State) (locs : List Loc) (cells slots : Nat) (C : Array Slot),
      QCx Z p R s mid meth c m → Stand p l e R s mid args below meth c T locs cells slots → QRep Z n0 ad T.heap σ → QLocOk ad L C → C.size = c.maxLocals →
      ∃ C₁, QLocOk ad L' C₁ ∧ C₁.size = c.maxLocals ∧ ∀ target, Steps p.tables e below (T.setTop (mkF mid pc' C₁ (S'.map (qv ad)))) target → Steps p.tables e below (T.setTop (mkF mid pc C (S.map (qv ad)))) target) :
    QTri l Z n0 ad m (pc, L, S, σ) v σ' :=
  QTri.pure h rfl fun p e R s mid args below meth c T locs cells slots C hcx X hR hL hC => by
    obtain ⟨C₁, h1, h2, h3⟩ := hs p e R s mid args below meth c T locs cells slots C hcx X hR hL hC
    exact ⟨T, C₁, X, rfl, h1, h2, h3⟩
/-- a step of pc and stack alone -/
theorem QTri.stack {pc pc' : Nat} {L : QLoc} {S S' : List Value} {σ : QHeap} (h : QTri l Z n0 ad m (pc', L, S', σ) v σ')
    (hs : ∀ (p : Program) (e : Env) (R : Room) (s : State) (mid : MethodId) (args : Array Value) (below : List Frame) (meth : Method) (c : Code) (T : State) (locs : List Loc) (cells slots : Nat) (C : Array Slot) (target : State),
      p.tables.exec = Jvm.exec → Z.Warmed39 s.vm → c.code = pBytes m → s.vm.findClass (kName (pK m)) = some mid.cls → Stand p l e R s mid args below meth c T locs cells slots → QRep Z n0 ad T.heap σ → QLocOk ad L C →
      Steps p.tables e below (T.setTop (mkF mid pc' C (S'.map (qv ad)))) target → Steps p.tables e below (T.setTop (mkF mid pc C (S.map (qv ad)))) target) :
    QTri l Z n0 ad m (pc, L, S, σ) v σ' :=
  QTri.frame h fun p e R s mid args below meth c T locs cells slots C hcx X hR hL hC => ⟨C, hL, hC, fun target k => hs p e R s mid args below meth c T locs cells slots C target hcx.1 hcx.2.1 hcx.2.2.1 hcx.2.2.2.2.2.1 X hR hL k⟩
/-! ### what each helper says -/
theorem qload_inv {pc : Nat} {L : QLoc} {S : List Value} {σ : QHeap} {k : Nat} {ok : Value → Bool} {st' : QSt} (h : qload pc L S σ k ok = some st') : ∃ v, lget L k = some v ∧ ok v = true ∧ st' = (pc, L, v :: S, σ) := by
  unfold qload at h
  split at h
  · rename_i v hv
    cases ho : ok v with
    | true => rw [ho] at h; cases h; exact ⟨v, hv, ho, rfl⟩
    | false => rw [ho] at h; cases h
  · cases h
theorem qstore_inv {pc : Nat} {L : QLoc} {S : List Value} {σ : QHeap} {k : Nat} {ok : Value → Bool} {st' : QSt} (h : qstore pc L S σ k ok = some st') : ∃ v S' L', S = v :: S' ∧ ok v = true ∧ lput L k v = some L' ∧ st' = (pc, L', S', σ) := by
  unfold qstore at h
  split at h
  · rename_i v S'
    cases ho : ok v with
    | true =>
      rw [ho] at h
      simp only [cond_true] at h
      split at h
      · rename_i L' hL'
        cases h; exact ⟨v, S', L', rfl, ho, hL', rfl⟩
      · cases h
    | false => rw [ho] at h; cases h
  · cases h
theorem qbin_inv {pc : Nat} {L : QLoc} {S : List Value} {σ : QHeap} {f : Int32 → Int32 → Int32} {st' : QSt} (h : qbin pc L S σ f = some st') : ∃ x y S', S = .int y :: .int x :: S' ∧ st' = (pc, L, .int (f x y) :: S', σ) := by
  unfold qbin at h
  split at h
  · cases h; exact ⟨_, _, _, rfl, rfl⟩
  · cases h
theorem qbino_inv {pc : Nat} {L : QLoc} {S : List Value} {σ : QHeap} {f : Int32 → Int32 → Option Int32} {st' : QSt} (h : qbino pc L S σ f = some st') : ∃ x y z S', S = .int y :: .int x :: S' ∧ f x y = some z ∧ st' = (pc, L, .int z :: S', σ) := by
  unfold qbino at h
  split at h
  · obtain ⟨z, hz, h⟩ := Option.bind_eq_some_iff.mp h
    cases h; exact ⟨_, _, _, _, rfl, hz, rfl⟩
  · cases h
theorem qbinJ_inv {pc : Nat} {L : QLoc} {S : List Value} {σ : QHeap} {f : Int64 → Int64 → Int64} {st' : QSt} (h : qbinJ pc L S σ f = some st') : ∃ x y S', S = .long y :: .long x :: S' ∧ st' = (pc, L, .long (f x y) :: S', σ) := by
  unfold qbinJ at h
  split at h
  · cases h; exact ⟨_, _, _, rfl, rfl⟩
  · cases h
theorem qshJ_inv {pc : Nat} {L : QLoc} {S : List Value} {σ : QHeap} {f : Int64 → Int32 → Int64} {st' : QSt} (h : qshJ pc L S σ f = some st') : ∃ x y S', S = .int y :: .long x :: S' ∧ st' = (pc, L, .long (f x y) :: S', σ) := by
  unfold qshJ at h
  split at h
  · cases h; exact ⟨_, _, _, rfl, rfl⟩
  · cases h
theorem quni_inv {pc : Nat} {L : QLoc} {S : List Value} {σ : QHeap} {f : Int32 → Value} {st' : QSt} (h : quni pc L S σ f = some st') : ∃ x S', S = .int x :: S' ∧ st' = (pc, L, f x :: S', σ) := by
  unfold quni at h
  split at h
  · cases h; exact ⟨_, _, rfl, rfl⟩
  · cases h
theorem quniJ_inv {pc : Nat} {L : QLoc} {S : List Value} {σ : QHeap} {f : Int64 → Value} {st' : QSt} (h : quniJ pc L S σ f = some st') : ∃ x S', S = .long x :: S' ∧ st' = (pc, L, f x :: S', σ) := by
  unfold quniJ at h
  split at h
  · cases h; exact ⟨_, _, rfl, rfl⟩
  · cases h
theorem qif_inv {pc : Nat} {L : QLoc} {S : List Value} {σ : QHeap} {cd : ClassFile.Cond} {t : Nat} {st' : QSt} (h : qif pc L S σ cd t = some st') : ∃ x S', S = .int x :: S' ∧ st' = (bif ifCond.holds cd x then t else pc, L, S', σ) := by
  unfold qif at h
  split at h
  · cases h; exact ⟨_, _, rfl, rfl⟩
  · cases h
theorem qicmp_inv {pc : Nat} {L : QLoc} {S : List Value} {σ : QHeap} {cd : ClassFile.Cond} {t : Nat} {st' : QSt} (h : qicmp pc L S σ cd t = some st') : ∃ x y S', S = .int y :: .int x :: S' ∧ st' = (bif if_icmp.holds cd x y then t else pc, L, S', σ) := by
  unfold qicmp at h
  split at h
  · cases h; exact ⟨_, _, _, rfl, rfl⟩
  · cases h
theorem qget_inv {pc : Nat} {L : QLoc} {S : List Value} {σ : QHeap} {k : Nat} {st' : QSt} (h : qget pc L S σ k = some st') : ∃ a S' vs v, S = .ref a :: S' ∧ hget σ a = some (.inl vs) ∧ vget vs k = some v ∧ st' = (pc, L, v :: S', σ) := by
  unfold qget at h
  split at h
  · split at h
    · split at h
      · cases h; exact ⟨_, _, _, _, rfl, by assumption, by assumption, rfl⟩
      · cases h
    · cases h
  · cases h
theorem qput_inv {pc : Nat} {L : QLoc} {S : List Value} {σ : QHeap} {k : Nat} {st' : QSt} (h : qput pc L S σ k = some st') : ∃ v a S' vs w, S = v :: .ref a :: S' ∧ hget σ a = some (.inl vs) ∧ k0 ≤ a ∧ k < vs.length ∧ qfit (fTy k) v = some w ∧ st' = (pc, L, S', σ.set a (.inl (vs.set k w))) := by
  unfold qput at h
  split at h
  · rename_i v a S'
    split at h
    · rename_i vs hvs
      cases hbb : (Nat.ble k0 a && Nat.ble (k + 1) vs.length) with
      | false => rw [hbb] at h; cases h
      | true =>
        rw [hbb] at h
        simp only [cond_true] at h
        obtain ⟨u, hu, h⟩ := Option.bind_eq_some_iff.mp h
        cases h
        obtain ⟨b1, b2⟩ := Bool.and_eq_true_iff.mp hbb
        exact ⟨v, a, S', vs, u, rfl, hvs, Nat.le_of_ble_eq_true b1, Nat.le_of_ble_eq_true b2, hu, rfl⟩
    · cases h
  · cases h
theorem qald_inv {pc : Nat} {L : QLoc} {S : List Value} {σ : QHeap} {ok : FieldType → Bool} {st' : QSt} (h : qald pc L S σ ok = some st') : ∃ j a S' ty xs v, S = .int j :: .ref a :: S' ∧ hget σ a = some (.inr (.inl (ty, xs))) ∧ ok ty = true ∧ aget xs j = some v ∧ st' = (pc, L, .int v :: S', σ) := by
  unfold qald at h
  split at h
  · rename_i j a S'
    split at h
    · rename_i x hx
      cases ht : ok x.1 with
      | false => rw [ht] at h; cases h
      | true =>
        rw [ht] at h
        simp only [cond_true] at h
        obtain ⟨u, hu, h⟩ := Option.bind_eq_some_iff.mp h
        cases h
        exact ⟨j, a, S', x.1, x.2, u, rfl, hx, ht, hu, rfl⟩
    · cases h
  · cases h
theorem qaldJ_inv {pc : Nat} {L : QLoc} {S : List Value} {σ : QHeap} {st' : QSt} (h : qaldJ pc L S σ = some st') : ∃ j a S' xs v, S = .int j :: .ref a :: S' ∧ hget σ a = some (.inr (.inr xs)) ∧ aget xs j = some v ∧ st' = (pc, L, .long v :: S', σ) := by
  unfold qaldJ at h
  split at h
  · rename_i j a S'
    split at h
    · rename_i x hx
      obtain ⟨u, hu, h⟩ := Option.bind_eq_some_iff.mp h
      cases h
      exact ⟨j, a, S', x, u, rfl, hx, hu, rfl⟩
    · cases h
  · cases h
theorem qast_inv {pc : Nat} {L : QLoc} {S : List Value} {σ : QHeap} {ok : FieldType → Bool} {st' : QSt} (h : qast pc L S σ ok = some st') : ∃ v j a S' ty xs ys, S = .int v :: .int j :: .ref a :: S' ∧ hget σ a = some (.inr (.inl (ty, xs))) ∧ ok ty = true ∧ k0 ≤ a ∧ aset xs j (qnar ty v) = some ys ∧ st' = (pc, L, S', σ.set a (.inr (.inl (ty, ys)))) := by
  unfold qast at h
  split at h
  · rename_i v j a S'
    split at h
    · rename_i x hx
      cases ht : (ok x.1 && Nat.ble k0 a) with
      | false => rw [ht] at h; cases h
      | true =>
        rw [ht] at h
        simp only [cond_true] at h
        obtain ⟨u, hu, h⟩ := Option.bind_eq_some_iff.mp h
        cases h
        obtain ⟨b1, b2⟩ := Bool.and_eq_true_iff.mp ht
        exact ⟨v, j, a, S', x.1, x.2, u, rfl, hx, b1, Nat.le_of_ble_eq_true b2, hu, rfl⟩
    · cases h
  · cases h
theorem qastJ_inv {pc : Nat} {L : QLoc} {S : List Value} {σ : QHeap} {st' : QSt} (h : qastJ pc L S σ = some st') : ∃ v j a S' xs ys, S = .long v :: .int j :: .ref a :: S' ∧ hget σ a = some (.inr (.inr xs)) ∧ k0 ≤ a ∧ aset xs j v = some ys ∧ st' = (pc, L, S', σ.set a (.inr (.inr ys))) := by
  unfold qastJ at h
  split at h
  · rename_i v j a S'
    split at h
    · rename_i x hx
      cases ht : (Nat.ble k0 a) with
      | false => rw [ht] at h; cases h
      | true =>
        rw [ht] at h
        simp only [cond_true] at h
        obtain ⟨u, hu, h⟩ := Option.bind_eq_some_iff.mp h
        cases h
        exact ⟨v, j, a, S', x, u, rfl, hx, Nat.le_of_ble_eq_true ht, hu, rfl⟩
    · cases h
  · cases h
theorem qlen_inv {pc : Nat} {L : QLoc} {S : List Value} {σ : QHeap} {st' : QSt} (h : qlen pc L S σ = some st') : ∃ a S' n, S = .ref a :: S' ∧ ((∃ ty xs, hget σ a = some (.inr (.inl (ty, xs))) ∧ n = xs.length) ∨ ∃ xs, hget σ a = some (.inr (.inr xs)) ∧ n = xs.length) ∧ st' = (pc, L, .int n.toInt32 :: S', σ) := by
  unfold qlen at h
  split at h
  · rename_i a S'
    split at h
    · rename_i x hx
      cases h; exact ⟨a, S', _, rfl, Or.inl ⟨x.1, x.2, hx, rfl⟩, rfl⟩
    · rename_i x hx
      cases h; exact ⟨a, S', _, rfl, Or.inr ⟨x, hx, rfl⟩, rfl⟩
    · cases h
  · cases h
theorem isI_inv {v : Value} (h : isI v = true) : ∃ x, v = .int x := by cases v <;> simp [isI] at h; exact ⟨_, rfl⟩
theorem isJ_inv {v : Value} (h : isJ v = true) : ∃ x, v = .long x := by cases v <;> simp [isJ] at h; exact ⟨_, rfl⟩
theorem isR_inv {v : Value} (h : isR v = true) : ∃ x, v = .ref x := by cases v <;> simp [isR] at h; exact ⟨_, rfl⟩
theorem aget_inv {α : Type} {xs : List α} {j : Int32} {x : α} (h : aget xs j = some x) : ¬ j < 0 ∧ xs[j.toNatClampNeg]? = some x := by
  unfold aget at h
  split at h
  · cases h
  · rename_i q; exact ⟨q, h⟩
theorem aset_inv {α : Type} {xs ys : List α} {j : Int32} {x : α} (h : aset xs j x = some ys) : ¬ j < 0 ∧ j.toNatClampNeg < xs.length ∧ ys = xs.set j.toNatClampNeg x := by
  unfold aset at h
  split at h
  · cases h
  · rename_i q
    split at h
    · rename_i q2; cases h; exact ⟨q, q2, rfl⟩
    · cases h
theorem qnew_inv {n : Int32} {k : Nat} (h : qnew n = some k) : ¬ n < 0 ∧ n.toNatClampNeg = k ∧ k ≤ 67108864 := by
  unfold qnew at h
  split at h
  · cases h
  · rename_i q
    split at h
    · rename_i q2; cases h; exact ⟨q, rfl, q2⟩
    · cases h
/-! ### the heap's facts over a step -/
theorem QCellOk.other {h h' : Heap} {a b : Addr} {sl : Nat} {w : Value} {c : QCell} (H : QCellOk Z ad h b c) (W : Wr h h' a sl w) (ne : b ≠ a) : QCellOk Z ad h' b c := by
  rcases c with vs | ⟨ty, xs⟩ | xs
  · obtain ⟨h1, h2, h3⟩ := H
    exact ⟨h1.wr W, h2, fun k u hk hu => (h3 k u hk hu).other W (Or.inl ne)⟩
  · obtain ⟨c, h1, h2⟩ := H
    exact ⟨c, h1.other W ne, h2⟩
  · obtain ⟨c, h1, h2⟩ := H
    exact ⟨c, h1.other W ne, h2⟩
theorem QCellOk.ext {h h' : Heap} {b : Addr} {c : QCell} (H : QCellOk Z ad h b c) (E : Ext h h') : QCellOk Z ad h' b c := by
  rcases c with vs | ⟨ty, xs⟩ | xs
  · obtain ⟨h1, h2, h3⟩ := H
    exact ⟨h1.ext E, h2, fun k u hk hu => (h3 k u hk hu).ext E⟩
  · obtain ⟨c, h1, h2⟩ := H
    exact ⟨c, h1.ext E, h2⟩
  · obtain ⟨c, h1, h2⟩ := H
    exact ⟨c, h1.ext E, h2⟩
theorem QRep.set {h h' : Heap} {σ : QHeap} {a : Nat} {sl : Nat} {w : Value} {c d : QCell} (H : QRep Z n0 ad h σ) (Ad : QAd n0 ad) (W : Wr h h' (ad a) sl w) (hc : hget σ a = some c) (hd : QCellOk Z ad h' (ad a) d) : QRep Z n0 ad h' (σ.set a d) := by
  obtain ⟨h1, h2, h3⟩ := H
  refine ⟨by simpa using h1, by rw [W.size, h2]; simp, fun k e he => ?_⟩
  rw [hget_set hc] at he
  split at he
  · rename_i q; cases he; rw [q]; exact hd
  · rename_i q; exact (h3 k e he).other W fun z => q (Ad.2 _ _ z)
theorem QRep.push {h h' : Heap} {σ : QHeap} {c : QCell} (H : QRep Z n0 ad h σ) (Ad : QAd n0 ad) (E : Ext h h') (hs : h'.size = h.size + 1) (hc : QCellOk Z ad h' h.size c) : QRep Z n0 ad h' (σ ++ [c]) := by
  obtain ⟨h1, h2, h3⟩ := H
  refine ⟨by simp; omega, by rw [hs, h2]; simp; omega, fun k e he => ?_⟩
  rw [hget_eq] at he
  rcases Nat.lt_or_ge k σ.length with q | q
  · rw [List.getElem?_append_left q, ← hget_eq] at he
    exact (h3 k e he).ext E
  · rw [List.getElem?_append_right q] at he
    obtain rfl : k = σ.length := by
      rcases Nat.lt_or_ge (k - σ.length) 1 with z | z
      · omega
      · rw [List.getElem?_eq_none (by simpa using z)] at he; cases he
    simp at he
    rw [← he, Ad.1 _ h1, ← h2]
    exact hc
theorem mem_of_contains {α : Type} [BEq α] [LawfulBEq α] {L : List α} {a : α} (h : L.contains a = true) : a ∈ L := by simpa using h
theorem lkF_lt : ∀ t ∈ lkF, t.2.2 < nF := by decide +kernel
theorem laid_of (W : QW Z a0) {k : Nat} (hk : k < nF) : Laid Z a0 cName cName (fNm k) (fDs k) := by
  have q := (qw_lay W) k hk
  cases hf : fFin k with
  | true => rw [hf] at q; exact Or.inr q
  | false => rw [hf] at q; exact Or.inl q
theorem qfit_inv {ty : FieldType} {v w : Value} (h : qfit ty v = some w) : v = w ∧ narrow ty (qv ad w) = qv ad w ∧ fits ty (qv ad w) = true := by
  unfold qfit at h
  split at h
  · cases h; exact ⟨rfl, rfl, rfl⟩
  · rename_i x
    obtain ⟨y, hy, h⟩ := Option.bind_eq_some_iff.mp h
    cases h
    unfold qboo at hy
    split at hy
    · rename_i e; cases hy; subst e; exact ⟨rfl, rfl, rfl⟩
    · split at hy
      · rename_i e; cases hy; subst e; exact ⟨rfl, rfl, rfl⟩
      · cases hy
  · cases h; exact ⟨rfl, rfl, rfl⟩
  · cases h; exact ⟨rfl, rfl, rfl⟩
  · cases h
theorem vget_set {vs : List Value} {k j : Nat} {w : Value} (hk : k < vs.length) : vget (vs.set k w) j = if j = k then some w else vget vs j := by
  simp only [vget_eq, List.getElem?_set]
  by_cases e : k = j
  · subst e; simp [hk]
  · simp [e, Ne.symm e]
theorem ald_in {α : Type} {f : α → Value} {xs : List α} {c : Cell} {j : Int32} {x : α} (hc : c.slots = (xs.map f).toArray) (h : aget xs j = some x) : ¬ (j < 0 ∨ c.slots.size ≤ j.toNatClampNeg) ∧ c.slots[j.toNatClampNeg]? = some (f x) := by
  obtain ⟨h1, h2⟩ := aget_inv h
  have h3 := (List.getElem?_eq_some_iff.mp h2).1
  refine ⟨fun q => ?_, by rw [hc]; simp [h2]⟩
  rcases q with q | q
  · exact h1 q
  · rw [hc] at q; simp at q; omega
theorem ast_in {α : Type} {f : α → Value} {xs ys : List α} {c : Cell} {j : Int32} {x : α} (hc : c.slots = (xs.map f).toArray) (h : aset xs j x = some ys) : ¬ (j < 0 ∨ c.slots.size ≤ j.toNatClampNeg) ∧ (c.setSlot j.toNatClampNeg (f x)).slots = (ys.map f).toArray := by
  obtain ⟨h1, h2, rfl⟩ := aset_inv h
  refine ⟨fun q => ?_, by simp [Cell.setSlot, hc, List.map_set]⟩
  rcases q with q | q
  · exact h1 q
  · rw [hc] at q; simp at q; omega
theorem qgrow {σ : QHeap} {c : QCell} : qhs (σ ++ [c]) - qhs σ = qsz c := by rw [qhs_app]; simp [qhs]
set_option maxHeartbeats 4000000 in
theorem QTri.newArr (Ad : QAd n0 ad) (W : QW Z a0) {pc aux : Nat} {L : QLoc} {S : List Value} {σ : QHeap} {aty : ArrayType} {n : Int32} {k : Nat} {c : QCell} (hk : qnew n = some k) (hc : pCode m pc = some (.newarray aty, aux)) (hz : qsz c = k)
    (hq : ∀ (h' : Heap) (a : Addr) (cA : ClassId), Arr Z h' a (newA cA (newarray.typeOf aty) n) (newarray.typeOf aty) → QCellOk Z ad h' a c)
    (h : QTri l Z n0 ad m (pc + 2, L, .ref σ.length :: S, σ ++ [c]) v σ') : QTri l Z n0 ad m (pc, L, .int n :: S, σ) v σ' := by
  have hd : decode (pBytes m) pc = .ok (.newarray aty, 2) := pDecN hc rfl
  obtain ⟨n1, n2, n3⟩ := qnew_inv hk
  refine QTri.gen h (by simp) (by simp [qhs_app]) fun p e R s mid args below meth c' T locs cells slots C hcx X hR hF hL hC hn hc1 hsl => ?_
  obtain ⟨hx, hZ, hby, hml, hret, hown, hnm, hfr, hlo⟩ := hcx
  have hd2 : decode c'.code pc = .ok (.newarray aty, 2) := by rw [hby]; exact hd
  simp only [List.length_append, List.length_singleton, Nat.add_sub_cancel_left, qgrow, hz] at hc1 hsl ⊢
  obtain ⟨T₁, h₁, cA, X₁, e₁, E₁, A₁, st⟩ := newP X hx hZ (aty := aty) (qw_arr W (newarray.typeOf aty) (mem_of_contains (show aTys.contains (newarray.typeOf aty) = true from pRest hc))) rfl (g := mkF mid pc C (.int n :: S.map (qv ad))) rfl hd2 rfl n1 (cap := k) (by omega) (by omega) hc1 hsl
  have hsz : h₁.size = T.heap.size + 1 := by
    have q1 := X₁.heapSize
    have q2 : T.heap.size < h₁.size := A₁.lt
    have q3 := hR.2.1
    rw [e₁] at q1
    have : n0 + (σ.length - k0) = s.heap.size + cells := hn
    have q3' : T.heap.size = n0 + (σ.length - k0) := q3
    omega
  refine ⟨T₁, locs, C, X₁, ?_, hF, hL, hC, fun target q => ?_⟩
  · rw [e₁]; exact QRep.push hR Ad E₁ hsz (hq _ _ _ A₁)
  · refine st _ ?_
    have e2 : ad σ.length = T.heap.size := by rw [Ad.1 _ hR.1]; exact hR.2.1.symm
    simp only [List.map_cons, qv, e2] at q
    exact q
set_option maxHeartbeats 4000000 in
theorem QTri.getfield (W : QW Z a0) {pc idx aux : Nat} {L : QLoc} {S : List Value} {σ : QHeap} {st' : QSt} (h : QTri l Z n0 ad m st' v σ') (hc : pCode m pc = some (.getfield idx, aux)) (hs : qget (pc + 3) L S σ aux = some st') : QTri l Z n0 ad m (pc, L, S, σ) v σ' := by
  have hd : decode (pBytes m) pc = .ok (.getfield idx, 3) := pDecN hc rfl
  obtain ⟨a, S', vs, w, rfl, hvs, hw, rfl⟩ := qget_inv hs
  have hm := mem_of_contains (show lkF.contains (pK m, idx, aux) = true from pRest hc)
  have hlt := lkF_lt _ hm
  refine QTri.pure h rfl fun p e R s mid args below meth c T locs cells slots C hcx X hR hL hC => ?_
  obtain ⟨hx, hZ, hby, hml, hret, hown, hnm, hfr, hlo⟩ := hcx
  have hd2 : decode c.code pc = .ok (.getfield idx, 3) := by rw [hby]; exact hd
  have F := (hR.2.2 _ _ hvs).2.2 aux w hlt hw
  obtain ⟨T₁, X₁, e₁, st⟩ := getF X hx hZ hown (host := "") (index := idx) (Or.inl (qw_fl W (pK m, idx, aux) hm)) Via.refl rfl F (g := mkF mid pc C (List.map (qv ad) (.ref a :: S'))) rfl rfl hd2
  exact ⟨T₁, C, X₁, e₁, hL, hC, st⟩
set_option maxHeartbeats 4000000 in
theorem QTri.putfield (Ad : QAd n0 ad) (W : QW Z a0) {pc idx aux : Nat} {L : QLoc} {S : List Value} {σ : QHeap} {st' : QSt} (h : QTri l Z n0 ad m st' v σ') (hc : pCode m pc = some (.putfield idx, aux)) (hs : qput (pc + 3) L S σ aux = some st') : QTri l Z n0 ad m (pc, L, S, σ) v σ' := by
  have hd : decode (pBytes m) pc = .ok (.putfield idx, 3) := pDecN hc rfl
  obtain ⟨w, a, S', vs, u, rfl, hvs, b1, b2, hu, rfl⟩ := qput_inv hs
  obtain ⟨r1, r2⟩ := Bool.and_eq_true_iff.mp (show (lkF.contains (pK m, idx, aux) && (!fFin aux || (pK m == 1 && pNm m == "<init>"))) = true from pRest hc)
  have hm := mem_of_contains r1
  have hlt := lkF_lt _ hm
  obtain ⟨rfl, q2, q3⟩ := qfit_inv (ad := ad) hu
  have hsz : qhs (σ.set a (Sum.inl (vs.set aux w))) = qhs σ := qhs_set hvs rfl
  refine QTri.gen h (by simp) (by show qhs σ ≤ qhs (σ.set a (Sum.inl (vs.set aux w))); rw [hsz]; exact Nat.le_refl _) fun p e R s mid args below meth c T locs cells slots C hcx X hR hF hL hC hn hc1 hsl => ?_
  obtain ⟨hx, hZ, hby, hml, hret, hown, hnm, hfr, hlo⟩ := hcx
  have hd2 : decode c.code pc = .ok (.putfield idx, 3) := by rw [hby]; exact hd
  obtain ⟨E, l1, Fs⟩ := hR.2.2 _ _ hvs
  obtain ⟨old, hold⟩ : ∃ old, vget vs aux = some old := by rw [vget_eq]; exact ⟨_, List.getElem?_eq_getElem b2⟩
  have lay : (Cond.lays cName cName (fNm aux) (fDs aux)).before a0 Z = true ∨ ((Cond.laysFinal cName cName (fNm aux) (fDs aux)).before a0 Z = true ∧ kName (pK m) = cName ∧ meth.name = "<init>") := by
    have q := (qw_lay W) aux hlt
    cases hf : fFin aux with
    | false => rw [hf] at q; exact Or.inl q
    | true =>
      rw [hf] at q r2
      simp at r2
      exact Or.inr ⟨q, by rw [r2.1]; exact kOne, by rw [hnm]; exact r2.2⟩
  obtain ⟨T₁, h₁, X₁, e₁, W₁, st⟩ := putF X hx hZ hown (host := "") (index := idx) (Or.inl (qw_fl W (pK m, idx, aux) hm)) Via.refl rfl (Fs aux old hlt hold) E lay ((qw_inst W)) (fPrs aux hlt) q2 q3 (g := mkF mid pc C (List.map (qv ad) (w :: .ref a :: S'))) rfl rfl hd2
  refine ⟨T₁, _, C, ?_, ?_, Fr.snoc X₁ hF (by rw [Ad.1 a b1]; exact Nat.le_add_right _ _), hL, hC, st⟩
  · show Stand _ _ _ _ _ _ _ _ _ _ _ _ (cells + ((σ.set a (Sum.inl (vs.set aux w))).length - σ.length)) (slots + (qhs (σ.set a (Sum.inl (vs.set aux w))) - qhs σ))
    rw [hsz, Nat.sub_self, List.length_set, Nat.sub_self]
    exact X₁
  · rw [e₁]
    refine QRep.set hR Ad W₁ hvs ⟨E.wr W₁, by simpa using l1, fun k u hk hu => ?_⟩
    rw [vget_set b2] at hu
    split at hu
    · rename_i e; cases hu; rw [e]; exact (Fs aux old hlt hold).same W₁
    · rename_i ne
      exact (Fs k u hk hu).other W₁ (Or.inr (slot_ne (laid_of W hk) (laid_of W hlt) (fun z => ne (fInj _ hk _ hlt z)) (fPrs _ hk) (fPrs _ hlt)))
theorem tyI_inv {ty : FieldType} (h : tyI ty = true) : ty = .int := by cases ty <;> simp [tyI] at h; rfl
theorem tyB_inv {ty : FieldType} (h : tyB ty = true) : ty = .boolean ∨ ty = .byte := by cases ty <;> simp [tyB] at h <;> simp
set_option maxHeartbeats 4000000 in
theorem QTri.iaload {pc aux : Nat} {L : QLoc} {S : List Value} {σ : QHeap} {st' : QSt} (h : QTri l Z n0 ad m st' v σ') (hc : pCode m pc = some (.iaload, aux)) (hs : qald (pc + 1) L S σ tyI = some st') : QTri l Z n0 ad m (pc, L, S, σ) v σ' := by
  have hd : decode (pBytes m) pc = .ok (.iaload, 1) := pDecN hc rfl
  obtain ⟨j, a, S', ty, xs, w, rfl, hx1, ht, hw, rfl⟩ := qald_inv hs
  obtain rfl := tyI_inv ht
  refine QTri.stack h fun p e R s mid args below meth c T locs cells slots C target hx hZ hby hown X hR hL k => ?_
  have hd2 : decode c.code pc = .ok (.iaload, 1) := by rw [hby]; exact hd
  obtain ⟨cl, A, hsl⟩ := hR.2.2 _ _ hx1
  obtain ⟨i1, i2⟩ := ald_in hsl hw
  exact X.iaload hx A.1 (State.isArrayOf_alike hZ.alike A.2.1) A.2.2 i1 i2 (g := mkF mid pc C (List.map (qv ad) (.int j :: .ref a :: S'))) rfl rfl hd2 _ k
set_option maxHeartbeats 4000000 in
theorem QTri.baload {pc aux : Nat} {L : QLoc} {S : List Value} {σ : QHeap} {st' : QSt} (h : QTri l Z n0 ad m st' v σ') (hc : pCode m pc = some (.baload, aux)) (hs : qald (pc + 1) L S σ tyB = some st') : QTri l Z n0 ad m (pc, L, S, σ) v σ' := by
  have hd : decode (pBytes m) pc = .ok (.baload, 1) := pDecN hc rfl
  obtain ⟨j, a, S', ty, xs, w, rfl, hx1, ht, hw, rfl⟩ := qald_inv hs
  refine QTri.stack h fun p e R s mid args below meth c T locs cells slots C target hx hZ hby hown X hR hL k => ?_
  have hd2 : decode c.code pc = .ok (.baload, 1) := by rw [hby]; exact hd
  obtain ⟨cl, A, hsl⟩ := hR.2.2 _ _ hx1
  obtain ⟨i1, i2⟩ := ald_in hsl hw
  rcases tyB_inv ht with rfl | rfl
  · exact X.baloadBooleans hx A.1 (State.isArrayOf_alike hZ.alike A.2.1) A.2.2 i1 i2 (g := mkF mid pc C (List.map (qv ad) (.int j :: .ref a :: S'))) rfl rfl hd2 _ k
  · exact X.baloadBytes hx A.1 (State.isArrayOf_alike hZ.alike A.2.1) A.2.2 i1 i2 (g := mkF mid pc C (List.map (qv ad) (.int j :: .ref a :: S'))) rfl rfl hd2 _ k
set_option maxHeartbeats 4000000 in
theorem QTri.laload {pc aux : Nat} {L : QLoc} {S : List Value} {σ : QHeap} {st' : QSt} (h : QTri l Z n0 ad m st' v σ') (hc : pCode m pc = some (.laload, aux)) (hs : qaldJ (pc + 1) L S σ = some st') : QTri l Z n0 ad m (pc, L, S, σ) v σ' := by
  have hd : decode (pBytes m) pc = .ok (.laload, 1) := pDecN hc rfl
  obtain ⟨j, a, S', xs, w, rfl, hx1, hw, rfl⟩ := qaldJ_inv hs
  refine QTri.stack h fun p e R s mid args below meth c T locs cells slots C target hx hZ hby hown X hR hL k => ?_
  have hd2 : decode c.code pc = .ok (.laload, 1) := by rw [hby]; exact hd
  obtain ⟨cl, A, hsl⟩ := hR.2.2 _ _ hx1
  obtain ⟨i1, i2⟩ := ald_in hsl hw
  exact X.laload hx A.1 (State.isArrayOf_alike hZ.alike A.2.1) A.2.2 i1 i2 (g := mkF mid pc C (List.map (qv ad) (.int j :: .ref a :: S'))) rfl rfl hd2 _ k
/-- behind a store into an array -/
theorem QTri.stored (Ad : QAd n0 ad) {pc : Nat} {L : QLoc} {S S' : List Value} {σ : QHeap} {a j : Nat} {w : Value} {c d : QCell} (hx1 : hget σ a = some c) (b1 : k0 ≤ a) (hz : qsz d = qsz c) (h : QTri l Z n0 ad m (pc + 1, L, S', σ.set a d) v σ')
    (hs : ∀ (p : Program) (e : Env) (R : Room) (s : State) (mid : MethodId) (args : Array Value) (below : List Frame) (meth : Method) (c : Code) (T : State) (locs : List Loc) (cells slots : Nat) (C : Array Slot),
      QCx Z p R s mid meth c m → Stand p l e R s mid args below meth c T locs cells slots → QRep Z n0 ad T.heap σ →
      ∃ T' h', Stand p l e R s mid args below meth c T' (locs ++ [⟨ad a, j⟩]) cells slots ∧ T'.heap = h' ∧ Wr T.heap h' (ad a) j w ∧ QCellOk Z ad h' (ad a) d ∧ ∀ target, Steps p.tables e below (T'.setTop (mkF mid (pc + 1) C (S'.map (qv ad)))) target → Steps p.tables e below (T.setTop (mkF mid pc C (S.map (qv ad)))) target) :
    QTri l Z n0 ad m (pc, L, S, σ) v σ' := by
  have hsz : qhs (σ.set a d) = qhs σ := qhs_set hx1 hz
  refine QTri.gen h (by simp) (by show qhs σ ≤ qhs (σ.set a d); rw [hsz]; exact Nat.le_refl _) fun p e R s mid args below meth c T locs cells slots C hcx X hR hF hL hC hn hc1 hsl => ?_
  obtain ⟨T₁, h₁, X₁, e₁, W₁, Q₁, st⟩ := hs p e R s mid args below meth c T locs cells slots C hcx X hR
  refine ⟨T₁, _, C, ?_, ?_, Fr.snoc X₁ hF (by rw [Ad.1 a b1]; exact Nat.le_add_right _ _), hL, hC, st⟩
  · show Stand _ _ _ _ _ _ _ _ _ _ _ _ (cells + ((σ.set a d).length - σ.length)) (slots + (qhs (σ.set a d) - qhs σ))
    rw [hsz, Nat.sub_self, List.length_set, Nat.sub_self]
    exact X₁
  · rw [e₁]
    exact QRep.set hR Ad W₁ hx1 Q₁
set_option maxHeartbeats 4000000 in
theorem QTri.iastore (Ad : QAd n0 ad) {pc aux : Nat} {L : QLoc} {S : List Value} {σ : QHeap} {st' : QSt} (h : QTri l Z n0 ad m st' v σ') (hc : pCode m pc = some (.iastore, aux)) (hs : qast (pc + 1) L S σ tyI = some st') : QTri l Z n0 ad m (pc, L, S, σ) v σ' := by
  have hd : decode (pBytes m) pc = .ok (.iastore, 1) := pDecN hc rfl
  obtain ⟨w, j, a, S', ty, xs, ys, rfl, hx1, ht, b1, hw, rfl⟩ := qast_inv hs
  obtain rfl := tyI_inv ht
  refine QTri.stored Ad (j := j.toNatClampNeg) (w := .int w) hx1 b1 (by rw [(aset_inv hw).2.2]; simp [qsz]) h fun p e R s mid args below meth c T locs cells slots C hcx X hR => ?_
  have hd2 : decode c.code pc = .ok (.iastore, 1) := by rw [hcx.2.2.1]; exact hd
  obtain ⟨cl, A, hsl⟩ := hR.2.2 _ _ hx1
  obtain ⟨i1, i2⟩ := ast_in hsl hw
  obtain ⟨T₁, h₁, X₁, e₁, W₁, st⟩ := stI X hcx.1 hcx.2.1 rfl A i1 (g := mkF mid pc C (List.map (qv ad) (.int w :: .int j :: .ref a :: S'))) rfl rfl hd2
  exact ⟨T₁, h₁, X₁, e₁, W₁, ⟨_, A.same W₁, i2⟩, st⟩
set_option maxHeartbeats 4000000 in
theorem QTri.bastore (Ad : QAd n0 ad) {pc aux : Nat} {L : QLoc} {S : List Value} {σ : QHeap} {st' : QSt} (h : QTri l Z n0 ad m st' v σ') (hc : pCode m pc = some (.bastore, aux)) (hs : qast (pc + 1) L S σ tyB = some st') : QTri l Z n0 ad m (pc, L, S, σ) v σ' := by
  have hd : decode (pBytes m) pc = .ok (.bastore, 1) := pDecN hc rfl
  obtain ⟨w, j, a, S', ty, xs, ys, rfl, hx1, ht, b1, hw, rfl⟩ := qast_inv hs
  refine QTri.stored Ad (j := j.toNatClampNeg) (w := .int (qnar ty w)) hx1 b1 (by rw [(aset_inv hw).2.2]; simp [qsz]) h fun p e R s mid args below meth c T locs cells slots C hcx X hR => ?_
  have hd2 : decode c.code pc = .ok (.bastore, 1) := by rw [hcx.2.2.1]; exact hd
  obtain ⟨cl, A, hsl⟩ := hR.2.2 _ _ hx1
  obtain ⟨i1, i2⟩ := ast_in hsl hw
  rcases tyB_inv ht with rfl | rfl
  · obtain ⟨T₁, h₁, X₁, e₁, W₁, st⟩ := stZ X hcx.1 hcx.2.1 rfl A i1 (g := mkF mid pc C (List.map (qv ad) (.int w :: .int j :: .ref a :: S'))) rfl rfl hd2
    exact ⟨T₁, h₁, X₁, e₁, W₁, ⟨_, A.same W₁, i2⟩, st⟩
  · obtain ⟨T₁, h₁, X₁, e₁, W₁, st⟩ := stB X hcx.1 hcx.2.1 rfl A i1 (g := mkF mid pc C (List.map (qv ad) (.int w :: .int j :: .ref a :: S'))) rfl rfl hd2
    exact ⟨T₁, h₁, X₁, e₁, W₁, ⟨_, A.same W₁, i2⟩, st⟩
set_option maxHeartbeats 4000000 in
theorem QTri.lastore (Ad : QAd n0 ad) {pc aux : Nat} {L : QLoc} {S : List Value} {σ : QHeap} {st' : QSt} (h : QTri l Z n0 ad m st' v σ') (hc : pCode m pc = some (.lastore, aux)) (hs : qastJ (pc + 1) L S σ = some st') : QTri l Z n0 ad m (pc, L, S, σ) v σ' := by
  have hd : decode (pBytes m) pc = .ok (.lastore, 1) := pDecN hc rfl
  obtain ⟨w, j, a, S', xs, ys, rfl, hx1, b1, hw, rfl⟩ := qastJ_inv hs
  refine QTri.stored Ad (j := j.toNatClampNeg) (w := .long w) hx1 b1 (by rw [(aset_inv hw).2.2]; simp [qsz]) h fun p e R s mid args below meth c T locs cells slots C hcx X hR => ?_
  have hd2 : decode c.code pc = .ok (.lastore, 1) := by rw [hcx.2.2.1]; exact hd
  obtain ⟨cl, A, hsl⟩ := hR.2.2 _ _ hx1
  obtain ⟨i1, i2⟩ := ast_in hsl hw
  obtain ⟨T₁, h₁, X₁, e₁, W₁, st⟩ := stJ X hcx.1 hcx.2.1 rfl A i1 (g := mkF mid pc C (List.map (qv ad) (.long w :: .int j :: .ref a :: S'))) rfl rfl hd2
  exact ⟨T₁, h₁, X₁, e₁, W₁, ⟨_, A.same W₁, i2⟩, st⟩
set_option maxHeartbeats 4000000 in
theorem QTri.alen {pc aux : Nat} {L : QLoc} {S : List Value} {σ : QHeap} {st' : QSt} (h : QTri l Z n0 ad m st' v σ') (hc : pCode m pc = some (.arraylength, aux)) (hs : qlen (pc + 1) L S σ = some st') : QTri l Z n0 ad m (pc, L, S, σ) v σ' := by
  have hd : decode (pBytes m) pc = .ok (.arraylength, 1) := pDecN hc rfl
  obtain ⟨a, S', n, rfl, hx1, rfl⟩ := qlen_inv hs
  refine QTri.stack h fun p e R s mid args below meth c T locs cells slots C target hx hZ hby hown X hR hL k => ?_
  have hd2 : decode c.code pc = .ok (.arraylength, 1) := by rw [hby]; exact hd
  rcases hx1 with ⟨ty, xs, hx1, rfl⟩ | ⟨xs, hx1, rfl⟩
  · obtain ⟨cl, A, hsl⟩ := hR.2.2 _ _ hx1
    have e1 : cl.slots.size = xs.length := by rw [hsl]; simp
    rw [← e1] at k
    exact X.arraylength hx A.1 (State.isArrayOf_alike hZ.alike A.2.1) (g := mkF mid pc C (List.map (qv ad) (.ref a :: S'))) rfl rfl hd2 _ k
  · obtain ⟨cl, A, hsl⟩ := hR.2.2 _ _ hx1
    have e1 : cl.slots.size = xs.length := by rw [hsl]; simp
    rw [← e1] at k
    exact X.arraylength hx A.1 (State.isArrayOf_alike hZ.alike A.2.1) (g := mkF mid pc C (List.map (qv ad) (.ref a :: S'))) rfl rfl hd2 _ k
set_option maxHeartbeats 4000000 in
theorem QTri.newObj (Ad : QAd n0 ad) (W : QW Z a0) {pc idx aux : Nat} {L : QLoc} {S : List Value} {σ : QHeap} (h : QTri l Z n0 ad m (pc + 3, L, .ref σ.length :: S, σ ++ [.inl cDef]) v σ') (hc : pCode m pc = some (.new idx, aux)) : QTri l Z n0 ad m (pc, L, S, σ) v σ' := by
  have hd : decode (pBytes m) pc = .ok (.new idx, 3) := pDecN hc rfl
  have hm := mem_of_contains (show lkN.contains (pK m, idx) = true from pRest hc)
  refine QTri.gen h (by simp) (by simp [qhs_app]) fun p e R s mid args below meth c T locs cells slots C hcx X hR hF hL hC hn hc1 hsl => ?_
  obtain ⟨hx, hZ, hby, hml, hret, hown, hnm, hfr, hlo⟩ := hcx
  have hd2 : decode c.code pc = .ok (.new idx, 3) := by rw [hby]; exact hd
  simp only [List.length_append, List.length_singleton, Nat.add_sub_cancel_left, qgrow, qsz] at hc1 hsl ⊢
  obtain ⟨T₁, h₁, X₁, e₁, E₁, A₁, D₁, -, st⟩ := newO X hx hZ hown (index := idx) (qw_nw W (pK m, idx) hm) ((qw_inst W)) ((qw_init W)) rfl (g := mkF mid pc C (S.map (qv ad))) rfl hd2 hc1 hsl
  have hsz : h₁.size = T.heap.size + 1 := by
    have q1 := X₁.heapSize
    have q2 : T.heap.size < h₁.size := A₁.lt
    have q3 : T.heap.size = n0 + (σ.length - k0) := hR.2.1
    rw [e₁] at q1
    have : n0 + (σ.length - k0) = s.heap.size + cells := hn
    omega
  refine ⟨T₁, locs, C, X₁, ?_, hF, hL, hC, fun target q => ?_⟩
  · rw [e₁]
    refine QRep.push hR Ad E₁ hsz ⟨A₁, cDefL, fun k u hk hu => ?_⟩
    rw [cDefs k hk] at hu
    cases hu
    have e3 : qv ad (defaultValue (fTy k)) = defaultValue (fTy k) := by
      cases hq : defaultValue (fTy k) with
      | ref a => exact absurd hq (fDef k hk a)
      | _ => rfl
    rw [e3]
    exact D₁ (laid_of W hk) (fPrs k hk)
  · refine st _ ?_
    have e2 : ad σ.length = T.heap.size := by rw [Ad.1 _ hR.1]; exact hR.2.1.symm
    simp only [List.map_cons, qv, e2] at q
    exact q
set_option maxHeartbeats 8000000 in
theorem QTri.step (Ad : QAd n0 ad) (W : QW Z a0) {st st' : QSt} (h : QTri l Z n0 ad m st' v σ') (hs : qstep m st = some st') : QTri l Z n0 ad m st v σ' := by
  obtain ⟨pc, L, S, σ⟩ := st
  unfold qstep at hs
  dsimp only at hs
  split at hs
  rotate_left
  · cases hs
  rename_i i aux hc
  have hd := pDecN hc rfl
  have hr := pRest hc
  unfold qexec at hs
  split at hs
  · -- aload_n
    obtain ⟨w, h1, h2, rfl⟩ := qload_inv hs
    obtain ⟨a, rfl⟩ := isR_inv h2
    exact QTri.stack h fun p e R s mid args below meth c T locs cells slots C target hx hZ hby hown X hR hL k => XS.aloadN X.here hx rfl (hb hby hd) (hL.2.1 _ _ h1) rfl k
  · obtain ⟨w, h1, h2, rfl⟩ := qload_inv hs
    obtain ⟨a, rfl⟩ := isR_inv h2
    exact QTri.stack h fun p e R s mid args below meth c T locs cells slots C target hx hZ hby hown X hR hL k => XS.aload X.here hx rfl (hb hby hd) (hL.2.1 _ _ h1) rfl k
  · obtain ⟨w, h1, h2, rfl⟩ := qload_inv hs
    obtain ⟨a, rfl⟩ := isI_inv h2
    exact QTri.stack h fun p e R s mid args below meth c T locs cells slots C target hx hZ hby hown X hR hL k => XS.iloadN X.here hx rfl (hb hby hd) (hL.2.1 _ _ h1) k
  · obtain ⟨w, h1, h2, rfl⟩ := qload_inv hs
    obtain ⟨a, rfl⟩ := isI_inv h2
    exact QTri.stack h fun p e R s mid args below meth c T locs cells slots C target hx hZ hby hown X hR hL k => XS.iload X.here hx rfl (hb hby hd) (hL.2.1 _ _ h1) k
  · obtain ⟨w, h1, h2, rfl⟩ := qload_inv hs
    obtain ⟨a, rfl⟩ := isJ_inv h2
    exact QTri.stack h fun p e R s mid args below meth c T locs cells slots C target hx hZ hby hown X hR hL k => XT.lloadN X.here hx rfl (hb hby hd) (hL.2.1 _ _ h1) k
  · obtain ⟨w, h1, h2, rfl⟩ := qload_inv hs
    obtain ⟨a, rfl⟩ := isJ_inv h2
    exact QTri.stack h fun p e R s mid args below meth c T locs cells slots C target hx hZ hby hown X hR hL k => XT.lload X.here hx rfl (hb hby hd) (hL.2.1 _ _ h1) k
  · cases hs -- iconst
    exact QTri.stack h fun p e R s mid args below meth c T locs cells slots C target hx hZ hby hown X hR hL k => XS.iconst X.here hx rfl (hb hby hd) k
  · cases hs
    exact QTri.stack h fun p e R s mid args below meth c T locs cells slots C target hx hZ hby hown X hR hL k => XS.bipush X.here hx rfl (hb hby hd) k
  · cases hs
    exact QTri.stack h fun p e R s mid args below meth c T locs cells slots C target hx hZ hby hown X hR hL k => XS.sipush X.here hx rfl (hb hby hd) k
  · cases hs
    exact QTri.stack h fun p e R s mid args below meth c T locs cells slots C target hx hZ hby hown X hR hL k => XT.lconst X.here hx rfl (hb hby hd) k
  · -- ldc
    unfold qldc at hs
    split at hs
    · rename_i w hw
      cases hs
      obtain ⟨x, hx1, hx2⟩ := qw_cI W (pK m, _, aux) (mem_of_contains (show lkC.contains (pK m, _, aux) = true from hr))
      rw [show vget cK aux = some w from hw] at hx1
      cases hx1
      exact QTri.stack h fun p e R s mid args below meth c T locs cells slots C target hx hZ hby hown X hR hL k => X.ldcI hx hown (mv hZ hx2) rfl (hb hby hd) k
    · cases hs
  · unfold qldc at hs
    split at hs
    · rename_i w hw
      cases hs
      obtain ⟨x, hx1, hx2⟩ := qw_cJ W (pK m, _, aux) (mem_of_contains (show lkD.contains (pK m, _, aux) = true from hr))
      rw [show vget cK aux = some w from hw] at hx1
      cases hx1
      exact QTri.stack h fun p e R s mid args below meth c T locs cells slots C target hx hZ hby hown X hR hL k => X.ldc2J hx hown (mv hZ hx2) rfl (hb hby hd) k
    · cases hs
  · -- istore_n
    obtain ⟨w, S', L', rfl, h2, h3, rfl⟩ := qstore_inv hs
    obtain ⟨a, rfl⟩ := isI_inv h2
    exact QTri.frame h fun p e R s mid args below meth c T locs cells slots C hcx X hR hL hC => by
      obtain ⟨D, d1, d2, d3⟩ := store_ok hL h3
      exact ⟨D, d2, d3.trans hC, fun target k => XS.istoreN X.here hcx.1 rfl (hb hcx.2.2.1 hd) rfl d1 k⟩
  · obtain ⟨w, S', L', rfl, h2, h3, rfl⟩ := qstore_inv hs
    obtain ⟨a, rfl⟩ := isI_inv h2
    exact QTri.frame h fun p e R s mid args below meth c T locs cells slots C hcx X hR hL hC => by
      obtain ⟨D, d1, d2, d3⟩ := store_ok hL h3
      exact ⟨D, d2, d3.trans hC, fun target k => XS.istore X.here hcx.1 rfl (hb hcx.2.2.1 hd) rfl d1 k⟩
  · obtain ⟨w, S', L', rfl, h2, h3, rfl⟩ := qstore_inv hs
    obtain ⟨a, rfl⟩ := isJ_inv h2
    exact QTri.frame h fun p e R s mid args below meth c T locs cells slots C hcx X hR hL hC => by
      obtain ⟨D, d1, d2, d3⟩ := store_ok hL h3
      exact ⟨D, d2, d3.trans hC, fun target k => XT.lstoreN X.here hcx.1 rfl (hb hcx.2.2.1 hd) rfl d1 k⟩
  · obtain ⟨w, S', L', rfl, h2, h3, rfl⟩ := qstore_inv hs
    obtain ⟨a, rfl⟩ := isJ_inv h2
    exact QTri.frame h fun p e R s mid args below meth c T locs cells slots C hcx X hR hL hC => by
      obtain ⟨D, d1, d2, d3⟩ := store_ok hL h3
      exact ⟨D, d2, d3.trans hC, fun target k => XT.lstore X.here hcx.1 rfl (hb hcx.2.2.1 hd) rfl d1 k⟩
  · obtain ⟨w, S', L', rfl, h2, h3, rfl⟩ := qstore_inv hs
    obtain ⟨a, rfl⟩ := isR_inv h2
    exact QTri.frame h fun p e R s mid args below meth c T locs cells slots C hcx X hR hL hC => by
      obtain ⟨D, d1, d2, d3⟩ := store_ok hL h3
      exact ⟨D, d2, d3.trans hC, fun target k => XS.astoreN X.here hcx.1 rfl (hb hcx.2.2.1 hd) rfl rfl d1 k⟩
  · obtain ⟨w, S', L', rfl, h2, h3, rfl⟩ := qstore_inv hs
    obtain ⟨a, rfl⟩ := isR_inv h2
    exact QTri.frame h fun p e R s mid args below meth c T locs cells slots C hcx X hR hL hC => by
      obtain ⟨D, d1, d2, d3⟩ := store_ok hL h3
      exact ⟨D, d2, d3.trans hC, fun target k => XS.astore X.here hcx.1 rfl (hb hcx.2.2.1 hd) rfl rfl d1 k⟩
  · -- iinc
    unfold qinc at hs
    split at hs
    · rename_i x hx1
      split at hs
      · rename_i L' hL'
        cases hs
        exact QTri.frame h fun p e R s mid args below meth c T locs cells slots C hcx X hR hL hC => by
          obtain ⟨D, d1, d2, d3⟩ := store_ok hL hL'
          exact ⟨D, d2, d3.trans hC, fun target k => XS.iinc X.here hcx.1 rfl (hb hcx.2.2.1 hd) (hL.2.1 _ _ hx1) d1 k⟩
      · cases hs
    · cases hs
  · obtain ⟨x, y, S', rfl, rfl⟩ := qbin_inv hs -- iadd
    exact QTri.stack h fun p e R s mid args below meth c T locs cells slots C target hx hZ hby hown X hR hL k => XS.iadd X.here hx rfl (hb hby hd) rfl k
  · obtain ⟨x, y, S', rfl, rfl⟩ := qbin_inv hs
    exact QTri.stack h fun p e R s mid args below meth c T locs cells slots C target hx hZ hby hown X hR hL k => XS.isub X.here hx rfl (hb hby hd) rfl k
  · obtain ⟨x, y, S', rfl, rfl⟩ := qbin_inv hs
    exact QTri.stack h fun p e R s mid args below meth c T locs cells slots C target hx hZ hby hown X hR hL k => XS.imul X.here hx rfl (hb hby hd) rfl k
  · obtain ⟨x, y, S', rfl, rfl⟩ := qbin_inv hs
    exact QTri.stack h fun p e R s mid args below meth c T locs cells slots C target hx hZ hby hown X hR hL k => XS.iand X.here hx rfl (hb hby hd) rfl k
  · obtain ⟨x, y, S', rfl, rfl⟩ := qbin_inv hs
    exact QTri.stack h fun p e R s mid args below meth c T locs cells slots C target hx hZ hby hown X hR hL k => XT.ior X.here hx rfl (hb hby hd) rfl k
  · obtain ⟨x, y, S', rfl, rfl⟩ := qbin_inv hs
    exact QTri.stack h fun p e R s mid args below meth c T locs cells slots C target hx hZ hby hown X hR hL k => XT.ixor X.here hx rfl (hb hby hd) rfl k
  · obtain ⟨x, y, S', rfl, rfl⟩ := qbin_inv hs
    exact QTri.stack h fun p e R s mid args below meth c T locs cells slots C target hx hZ hby hown X hR hL k => XT.ishl X.here hx rfl (hb hby hd) rfl k
  · obtain ⟨x, y, S', rfl, rfl⟩ := qbin_inv hs
    exact QTri.stack h fun p e R s mid args below meth c T locs cells slots C target hx hZ hby hown X hR hL k => XT.ishr X.here hx rfl (hb hby hd) rfl k
  · obtain ⟨x, y, S', rfl, rfl⟩ := qbin_inv hs
    exact QTri.stack h fun p e R s mid args below meth c T locs cells slots C target hx hZ hby hown X hR hL k => XT.iushr X.here hx rfl (hb hby hd) rfl k
  · obtain ⟨x, y, z, S', rfl, hz, rfl⟩ := qbino_inv hs -- idiv
    unfold qdiv at hz
    split at hz
    · cases hz
    · rename_i hy
      cases hz
      exact QTri.stack h fun p e R s mid args below meth c T locs cells slots C target hx hZ hby hown X hR hL k => XS.idiv X.here hx rfl (hb hby hd) rfl hy k
  · obtain ⟨x, y, z, S', rfl, hz, rfl⟩ := qbino_inv hs
    unfold qrem at hz
    split at hz
    · cases hz
    · rename_i hy
      cases hz
      exact QTri.stack h fun p e R s mid args below meth c T locs cells slots C target hx hZ hby hown X hR hL k => iremM X hx rfl (hb hby hd) rfl hy k
  · obtain ⟨x, S', rfl, rfl⟩ := quni_inv hs -- ineg
    exact QTri.stack h fun p e R s mid args below meth c T locs cells slots C target hx hZ hby hown X hR hL k => XS.ineg X.here hx rfl (hb hby hd) rfl k
  · obtain ⟨x, S', rfl, rfl⟩ := quni_inv hs
    exact QTri.stack h fun p e R s mid args below meth c T locs cells slots C target hx hZ hby hown X hR hL k => XT.i2l X.here hx rfl (hb hby hd) rfl k
  · obtain ⟨x, S', rfl, rfl⟩ := quni_inv hs
    exact QTri.stack h fun p e R s mid args below meth c T locs cells slots C target hx hZ hby hown X hR hL k => XT.i2b X.here hx rfl (hb hby hd) rfl k
  · obtain ⟨x, S', rfl, rfl⟩ := quniJ_inv hs
    exact QTri.stack h fun p e R s mid args below meth c T locs cells slots C target hx hZ hby hown X hR hL k => XT.l2i X.here hx rfl (hb hby hd) rfl k
  · obtain ⟨x, S', rfl, rfl⟩ := quniJ_inv hs
    exact QTri.stack h fun p e R s mid args below meth c T locs cells slots C target hx hZ hby hown X hR hL k => XT.lneg X.here hx rfl (hb hby hd) rfl k
  · obtain ⟨x, y, S', rfl, rfl⟩ := qbinJ_inv hs
    exact QTri.stack h fun p e R s mid args below meth c T locs cells slots C target hx hZ hby hown X hR hL k => XT.ladd X.here hx rfl (hb hby hd) rfl k
  · obtain ⟨x, y, S', rfl, rfl⟩ := qbinJ_inv hs
    exact QTri.stack h fun p e R s mid args below meth c T locs cells slots C target hx hZ hby hown X hR hL k => XT.lsub X.here hx rfl (hb hby hd) rfl k
  · obtain ⟨x, y, S', rfl, rfl⟩ := qbinJ_inv hs
    exact QTri.stack h fun p e R s mid args below meth c T locs cells slots C target hx hZ hby hown X hR hL k => XT.lmul X.here hx rfl (hb hby hd) rfl k
  · obtain ⟨x, y, S', rfl, rfl⟩ := qbinJ_inv hs
    exact QTri.stack h fun p e R s mid args below meth c T locs cells slots C target hx hZ hby hown X hR hL k => XT.land X.here hx rfl (hb hby hd) rfl k
  · obtain ⟨x, y, S', rfl, rfl⟩ := qbinJ_inv hs
    exact QTri.stack h fun p e R s mid args below meth c T locs cells slots C target hx hZ hby hown X hR hL k => XT.lor X.here hx rfl (hb hby hd) rfl k
  · obtain ⟨x, y, S', rfl, rfl⟩ := qbinJ_inv hs
    exact QTri.stack h fun p e R s mid args below meth c T locs cells slots C target hx hZ hby hown X hR hL k => XT.lxor X.here hx rfl (hb hby hd) rfl k
  · obtain ⟨x, y, S', rfl, rfl⟩ := qshJ_inv hs
    exact QTri.stack h fun p e R s mid args below meth c T locs cells slots C target hx hZ hby hown X hR hL k => XT.lshl X.here hx rfl (hb hby hd) rfl k
  · obtain ⟨x, y, S', rfl, rfl⟩ := qshJ_inv hs
    exact QTri.stack h fun p e R s mid args below meth c T locs cells slots C target hx hZ hby hown X hR hL k => XT.lshr X.here hx rfl (hb hby hd) rfl k
  · obtain ⟨x, y, S', rfl, rfl⟩ := qshJ_inv hs
    exact QTri.stack h fun p e R s mid args below meth c T locs cells slots C target hx hZ hby hown X hR hL k => XT.lushr X.here hx rfl (hb hby hd) rfl k
  · split at hs -- lcmp
    · cases hs
      exact QTri.stack h fun p e R s mid args below meth c T locs cells slots C target hx hZ hby hown X hR hL k => XT.lcmp X.here hx rfl (hb hby hd) rfl k
    · cases hs
  · cases hs -- goto
    obtain ⟨t1, t2⟩ := qtgt_spec hr
    exact QTri.stack h fun p e R s mid args below meth c T locs cells slots C target hx hZ hby hown X hR hL k => XS.goto X.here hx rfl rfl (hb hby hd) t1 t2 k
  · obtain ⟨x, S', rfl, rfl⟩ := qif_inv hs
    obtain ⟨t1, t2⟩ := qtgt_spec hr
    cases hh : ifCond.holds _ x with
    | true => rw [hh] at h; exact QTri.stack h fun p e R s mid args below meth c T locs cells slots C target hx hZ hby hown X hR hL k => XS.ifYes X.here hx rfl rfl (hb hby hd) rfl hh t1 t2 k
    | false => rw [hh] at h; exact QTri.stack h fun p e R s mid args below meth c T locs cells slots C target hx hZ hby hown X hR hL k => XS.ifNo X.here hx rfl (hb hby hd) rfl hh k
  · obtain ⟨x, y, S', rfl, rfl⟩ := qicmp_inv hs
    obtain ⟨t1, t2⟩ := qtgt_spec hr
    cases hh : if_icmp.holds _ x y with
    | true => rw [hh] at h; exact QTri.stack h fun p e R s mid args below meth c T locs cells slots C target hx hZ hby hown X hR hL k => XS.icmpYes X.here hx rfl rfl (hb hby hd) rfl hh t1 t2 k
    | false => rw [hh] at h; exact QTri.stack h fun p e R s mid args below meth c T locs cells slots C target hx hZ hby hown X hR hL k => XS.icmpNo X.here hx rfl (hb hby hd) rfl hh k
  · unfold qdup at hs
    split at hs
    · cases hs
      exact QTri.stack h fun p e R s mid args below meth c T locs cells slots C target hx hZ hby hown X hR hL k => XS.dup X.here hx rfl (hb hby hd) rfl rfl k
    · cases hs
      exact QTri.stack h fun p e R s mid args below meth c T locs cells slots C target hx hZ hby hown X hR hL k => XS.dup X.here hx rfl (hb hby hd) rfl rfl k
    · cases hs
  · unfold qdup2 at hs
    split at hs
    · cases hs
      exact QTri.stack h fun p e R s mid args below meth c T locs cells slots C target hx hZ hby hown X hR hL k => XT.dup2 X.here hx rfl (hb hby hd) rfl rfl rfl k
    · cases hs
      exact QTri.stack h fun p e R s mid args below meth c T locs cells slots C target hx hZ hby hown X hR hL k => XT.dup2 X.here hx rfl (hb hby hd) rfl rfl rfl k
    · cases hs
      exact QTri.stack h fun p e R s mid args below meth c T locs cells slots C target hx hZ hby hown X hR hL k => XT.dup2L X.here hx rfl (hb hby hd) rfl k
    · cases hs
  · unfold qpop at hs
    split at hs
    · cases hs
      exact QTri.stack h fun p e R s mid args below meth c T locs cells slots C target hx hZ hby hown X hR hL k => XT.pop X.here hx rfl (hb hby hd) rfl rfl k
    · cases hs
      exact QTri.stack h fun p e R s mid args below meth c T locs cells slots C target hx hZ hby hown X hR hL k => XT.pop X.here hx rfl (hb hby hd) rfl rfl k
    · cases hs
  · exact QTri.getfield W h hc hs
  · exact QTri.putfield Ad W h hc hs
  · exact QTri.iaload h hc hs
  · exact QTri.baload h hc hs
  · exact QTri.laload h hc hs
  · exact QTri.iastore Ad h hc hs
  · exact QTri.bastore Ad h hc hs
  · exact QTri.lastore Ad h hc hs
  · exact QTri.alen h hc hs
  · -- newarray
    unfold qnewA at hs
    split at hs
    · split at hs
      · obtain ⟨k, hk, hs⟩ := Option.bind_eq_some_iff.mp hs
        cases hs
        exact QTri.newArr (c := .inr (.inl (.int, List.replicate k 0))) Ad W hk hc (by simp [qsz]) (fun h' a cA A => ⟨_, A, by simp [newA, (qnew_inv hk).2.1]; exact Or.inr rfl⟩) h
      · obtain ⟨k, hk, hs⟩ := Option.bind_eq_some_iff.mp hs
        cases hs
        exact QTri.newArr (c := .inr (.inl (.boolean, List.replicate k 0))) Ad W hk hc (by simp [qsz]) (fun h' a cA A => ⟨_, A, by simp [newA, (qnew_inv hk).2.1]; exact Or.inr rfl⟩) h
      · obtain ⟨k, hk, hs⟩ := Option.bind_eq_some_iff.mp hs
        cases hs
        exact QTri.newArr (c := .inr (.inl (.byte, List.replicate k 0))) Ad W hk hc (by simp [qsz]) (fun h' a cA A => ⟨_, A, by simp [newA, (qnew_inv hk).2.1]; exact Or.inr rfl⟩) h
      · obtain ⟨k, hk, hs⟩ := Option.bind_eq_some_iff.mp hs
        cases hs
        exact QTri.newArr (c := .inr (.inr (List.replicate k 0))) Ad W hk hc (by simp [qsz]) (fun h' a cA A => ⟨_, A, by simp [newA, (qnew_inv hk).2.1]; exact Or.inr rfl⟩) h
      · cases hs
    · cases hs
  · cases hs; exact QTri.newObj Ad W h hc
  · cases hs
theorem QTri.steps (Ad : QAd n0 ad) (W : QW Z a0) : ∀ (n : Nat) {st st' : QSt}, qsteps m n st = some st' → QTri l Z n0 ad m st' v σ' → QTri l Z n0 ad m st v σ'
  | 0, st, st', h, k => by cases h; exact k
  | n + 1, st, st', h, k => by
    simp only [qsteps] at h
    split at h
    · rename_i st₁ h1
      exact QTri.step Ad W (QTri.steps Ad W n h k) h1
    · cases h
/-! ## returns, masks, calls -/
def lmask : List Bool → QLoc → QLoc
  | b :: t, x :: u => (bif b then x else none) :: lmask t u
  | _, L => L.map fun _ => none
theorem lmask_len : ∀ (b : List Bool) (L : QLoc), (lmask b L).length = L.length
  | [], L => by simp [lmask]
  | _ :: _, [] => by simp [lmask]
  | _ :: t, _ :: u => by simp [lmask, lmask_len t u]
theorem lmask_get : ∀ (b : List Bool) (L : QLoc) (k : Nat) (v : Value), lget (lmask b L) k = some v → lget L k = some v
  | [], L, k, v, h => by
    simp only [lmask, lget_eq, List.getElem?_map] at h
    cases hq : L[k]? <;> simp [hq] at h
  | _ :: _, [], k, v, h => by simp [lmask, lget] at h
  | b :: t, x :: u, 0, v, h => by
    simp only [lmask, lget] at h ⊢
    cases b
    · cases h
    · exact h
  | b :: t, x :: u, k + 1, v, h => by
    simp only [lmask, lget] at h ⊢
    exact lmask_get t u k v h
theorem QTri.mask {pc : Nat} {L : QLoc} {S : List Value} {σ : QHeap} (b : List Bool) (h : QTri l Z n0 ad m (pc, lmask b L, S, σ) v σ') : QTri l Z n0 ad m (pc, L, S, σ) v σ' :=
  QTri.frame h fun p e R s mid args below meth c T locs cells slots C hcx X hR hL hC => ⟨C, ⟨by rw [lmask_len]; exact hL.1, fun k u hk => hL.2.1 k u (lmask_get b L k u hk), hL.2.2⟩, hC, fun target k => k⟩
theorem QTri.ret0 {pc aux : Nat} {L : QLoc} {σ : QHeap} (hc : pCode m pc = some (.return_, aux)) (hr : pRet m = none) : QTri l Z n0 ad m (pc, L, [], σ) none σ :=
  have hd : decode (pBytes m) pc = .ok (.return_, 1) := pDecN hc rfl
  ⟨Nat.le_refl _, Nat.le_refl _, fun p e R s mid args below meth c T locs cells slots C hcx X hR hF hL hC hn hc1 hsl => ⟨T, locs, by simpa using X, hR, hF, fun fs hf => X.returnOut hcx.1 (hcx.2.2.2.2.1.trans hr) (hb hcx.2.2.1 hd) hf⟩⟩
theorem QTri.retI {pc aux : Nat} {L : QLoc} {S : List Value} {σ : QHeap} {x : Int32} (hc : pCode m pc = some (.ireturn, aux)) (hr : pRet m = some .int) : QTri l Z n0 ad m (pc, L, .int x :: S, σ) (some (.int x)) σ :=
  have hd : decode (pBytes m) pc = .ok (.ireturn, 1) := pDecN hc rfl
  ⟨Nat.le_refl _, Nat.le_refl _, fun p e R s mid args below meth c T locs cells slots C hcx X hR hF hL hC hn hc1 hsl => ⟨T, locs, by simpa using X, hR, hF, fun fs hf => Jvm.RoadKit.retI X hcx.1 (hcx.2.2.2.2.1.trans hr) (hb hcx.2.2.1 hd) hf⟩⟩
theorem QTri.retZ {pc aux : Nat} {L : QLoc} {S : List Value} {σ : QHeap} {x : Int32} (hc : pCode m pc = some (.ireturn, aux)) (hr : pRet m = some .boolean) : QTri l Z n0 ad m (pc, L, .int x :: S, σ) (some (.int (x &&& 1))) σ :=
  have hd : decode (pBytes m) pc = .ok (.ireturn, 1) := pDecN hc rfl
  ⟨Nat.le_refl _, Nat.le_refl _, fun p e R s mid args below meth c T locs cells slots C hcx X hR hF hL hC hn hc1 hsl => ⟨T, locs, by simpa using X, hR, hF, fun fs hf => retN X hcx.1 (t := .boolean) (hcx.2.2.2.2.1.trans hr) (by simp) (hb hcx.2.2.1 hd) hf⟩⟩
theorem QTri.retJ {pc aux : Nat} {L : QLoc} {S : List Value} {σ : QHeap} {x : Int64} (hc : pCode m pc = some (.lreturn, aux)) (hr : pRet m = some .long) : QTri l Z n0 ad m (pc, L, .long x :: S, σ) (some (.long x)) σ :=
  have hd : decode (pBytes m) pc = .ok (.lreturn, 1) := pDecN hc rfl
  ⟨Nat.le_refl _, Nat.le_refl _, fun p e R s mid args below meth c T locs cells slots C hcx X hR hF hL hC hn hc1 hsl => ⟨T, locs, by simpa using X, hR, hF, fun fs hf => retOut X hcx.1 (t := .long) (hcx.2.2.2.2.1.trans hr) rfl (Or.inr (Or.inl ⟨rfl, rfl, _, rfl⟩)) (hb hcx.2.2.1 hd) hf⟩⟩
def LOk (ad : Nat → Addr) (L : QLoc) (C : List Slot) : Prop :=
  L.length = C.length ∧ (∀ k v, lget L k = some v → C[k]? = some (.val (qv ad v))) ∧ (∀ k w, C[k]? = some (.val w) → w.category = 2 → C[k + 1]? = some .second) ∧ ∀ k, C[k]? = some .second → ∃ j w, k = j + 1 ∧ C[j]? = some (.val w) ∧ w.category = 2
theorem LOk.base (ad : Nat → Addr) (n : Nat) : LOk ad (List.replicate n none) (List.replicate n .unset) := by
  refine ⟨by simp, fun k u h => ?_, fun k w h => ?_, fun k h => ?_⟩
  · rw [lget_eq] at h
    rcases Nat.lt_or_ge k n with q | q
    · simp [List.getElem?_replicate, q] at h
    · simp [List.getElem?_eq_none, q] at h
  · rcases Nat.lt_or_ge k n with q | q
    · simp [List.getElem?_replicate, q] at h
    · simp [List.getElem?_eq_none, q] at h
  · rcases Nat.lt_or_ge k n with q | q
    · simp [List.getElem?_replicate, q] at h
    · simp [List.getElem?_eq_none, q] at h
theorem LOk.one {L : QLoc} {C : List Slot} (H : LOk ad L C) {u : Value} (hu : u.category = 1) : LOk ad (some u :: L) (.val (qv ad u) :: C) := by
  obtain ⟨h1, h2, h3, h4⟩ := H
  refine ⟨by simp [h1], fun k w h => ?_, fun k w h hw => ?_, fun k h => ?_⟩
  · cases k with
    | zero => simp only [lget] at h; cases h; simp
    | succ k => simp only [lget] at h; simpa using h2 k w h
  · cases k with
    | zero => simp at h; rw [← h, qv_cat, hu] at hw; cases hw
    | succ k => simpa using h3 k w (by simpa using h) hw
  · cases k with
    | zero => simp at h
    | succ k =>
      obtain ⟨j, w, z1, z2, z3⟩ := h4 k (by simpa using h)
      exact ⟨j + 1, w, by omega, by simpa using z2, z3⟩
theorem LOk.two {L : QLoc} {C : List Slot} (H : LOk ad L C) {u : Value} (hu : u.category = 2) : LOk ad (some u :: none :: L) (.val (qv ad u) :: .second :: C) := by
  obtain ⟨h1, h2, h3, h4⟩ := H
  refine ⟨by simp [h1], fun k w h => ?_, fun k w h hw => ?_, fun k h => ?_⟩
  · rcases k with _ | _ | k
    · simp only [lget] at h; cases h; simp
    · simp [lget] at h
    · simp only [lget] at h; simpa using h2 k w h
  · rcases k with _ | _ | k
    · simp
    · simp at h
    · simpa using h3 k w (by simpa using h) hw
  · rcases k with _ | _ | k
    · simp at h
    · exact ⟨0, qv ad u, rfl, by simp, by rw [qv_cat]; exact hu⟩
    · obtain ⟨j, w, z1, z2, z3⟩ := h4 k (by simpa using h)
      exact ⟨j + 2, w, by omega, by simpa using z2, z3⟩
def slotsOf (u : Value) : List Slot := if u.category = 2 then [.val u, .second] else [.val u]
theorem fold_slots : ∀ (as : List Value) (acc : Array Slot), (as.foldl (fun acc v => if v.category = 2 then (acc.push (.val v)).push .second else acc.push (.val v)) acc).toList = acc.toList ++ as.flatMap slotsOf
  | [], acc => by simp
  | u :: t, acc => by
    rw [List.foldl_cons, fold_slots t]
    by_cases hc : u.category = 2 <;> simp [slotsOf, hc]
theorem slots_len : ∀ (as : List Value), (as.flatMap slotsOf).length = (as.map fun v => v.category).sum
  | [] => rfl
  | u :: t => by
    rw [List.flatMap_cons, List.length_append, slots_len t, List.map_cons, List.sum_cons]
    cases u <;> simp [slotsOf, Value.category]
theorem cats_qv (as : List Value) : ((as.map (qv ad)).map fun v => v.category).sum = (as.map fun v => v.category).sum := by
  rw [List.map_map]
  congr 1
  exact List.map_congr_left fun x _ => qv_cat ad x
theorem entry_list : ∀ (as : List Value) (n : Nat), LOk ad ((as.flatMap fun v => match v with | .long x => [some (.long x), none] | .double x => [some (.double x), none] | v => [some v]) ++ List.replicate n none) ((as.map (qv ad)).flatMap slotsOf ++ List.replicate n .unset)
  | [], n => by simpa using LOk.base ad n
  | u :: t, n => by
    have ih := entry_list t n
    cases u with
    | long x => exact LOk.two ih rfl
    | double x => exact LOk.two ih rfl
    | int x => exact LOk.one ih rfl
    | float x => exact LOk.one ih rfl
    | null => exact LOk.one ih rfl
    | ref x => exact LOk.one ih rfl
    | retAddr x => exact LOk.one ih rfl
theorem qentry_ok (as : List Value) (mx : Nat) (h : (as.map fun v => v.category).sum ≤ mx) : QLocOk ad (qentry as mx) (argsToLocals (as.map (qv ad)).toArray mx) ∧ (argsToLocals (as.map (qv ad)).toArray mx).size = mx := by
  have e : (argsToLocals (as.map (qv ad)).toArray mx).toList = (as.map (qv ad)).flatMap slotsOf ++ List.replicate (mx - (as.map fun v => v.category).sum) .unset := by
    unfold argsToLocals
    have q := fold_slots (as.map (qv ad)) #[]
    simp only [List.foldl_toArray', Array.toList_append, Array.toList_replicate]
    have q2 : ((as.map (qv ad)).foldl (fun (acc : Array Slot) (v : Value) => if v.category = 2 then (acc.push (.val v)).push .second else acc.push (.val v)) #[]).size = (as.map fun v => v.category).sum := by
      rw [← Array.length_toList, q]
      simp only [List.nil_append]
      rw [slots_len, cats_qv]
    rw [q, q2]
    simp
  have H := entry_list (ad := ad) as (mx - (as.map fun v => v.category).sum)
  rw [← e] at H
  obtain ⟨h1, h2, h3, h4⟩ := H
  have hs : (argsToLocals (as.map (qv ad)).toArray mx).size = mx := by
    rw [← Array.length_toList, e, List.length_append, slots_len, cats_qv, List.length_replicate]
    omega
  refine ⟨⟨h1.trans Array.length_toList, fun k u hk => ?_, fun k w hk hw => ?_, fun k hk => ?_⟩, hs⟩
  · have := h2 k u hk; rwa [Array.getElem?_toList] at this
  · have := h3 k w (by rw [Array.getElem?_toList]; exact hk) hw; rwa [Array.getElem?_toList] at this
  · obtain ⟨j, w, z1, z2, z3⟩ := h4 k (by rw [Array.getElem?_toList]; exact hk)
    exact ⟨j, w, z1, by rwa [Array.getElem?_toList] at z2, z3⟩
set_option maxHeartbeats 4000000 in
theorem QTri.met {k : Nat} {as : List Value} {σ σ₁ : QHeap} {w : Option Value} {h0 : Heap} (hk : k < pN) (h : QTri l Z n0 ad k (0, qentry as (pMaxL k), [], σ) w σ₁) (hR : QRep Z n0 ad h0 σ) (hlen : (as.map fun v => v.category).sum ≤ pMaxL k) (hret : pRet k = none → w = none) (ws : List Jvm.Cond) {rm : Room}
    (r1 : pFr k ≤ rm.frames) (r2 : pLo k ≤ rm.locals) (r3 : σ₁.length - σ.length ≤ rm.cells) (r4 : qhs σ₁ - qhs σ ≤ rm.slots) :
    MetFree l (pName k) (head1 (Jvm.Cond.code (pName k) (pBytes k) (pMaxL k) (pRet k) :: ws) rm) (fun a U => a = (as.map (qv ad)).toArray ∧ Z.Warmed39 U.vm ∧ U.heap = h0) (fun _ _ _ _ _ => True)
      (fun _ U o U' => ∃ v L, o = .returned v ∧ (v = w.map (qv ad) ∧ QRep Z n0 ad U'.heap σ₁ ∧ Fr n0 L) ∧ FrameEnd U o U' L (σ₁.length - σ.length) (qhs σ₁ - qhs σ)) := by
  refine MetFree.of_bodySF (plainFor_of_name (kPlain _ (pKlt k hk))) hisR ?_
  intro p e s mid args below meth c s₁ Bd hml0 hP hK
  obtain ⟨rfl, hZ, hh⟩ := hP
  have e0 : s₁.heap = h0 := by rw [← hh, Bd.state]; rfl
  obtain ⟨hl1, hl2⟩ := qentry_ok (ad := ad) as (pMaxL k) hlen
  have hX : Stand p l e rm s mid (as.map (qv ad)).toArray below meth c s₁ [] 0 0 := Stand.of_body Bd
  obtain ⟨T', locs', X', R', F', S'⟩ := h.2.2 p e rm s mid _ below meth c s₁ [] 0 0 _ ⟨Bd.exec, hZ, Bd.bytes, hml0, Bd.returns, findClass_of_methodNamed Bd.named, (name_of_methodNamed Bd.named Bd.method).1, r1, r2⟩ hX (by rw [e0]; exact hR) (Fr.nil _) hl1 (hl2.trans hml0.symm) (by rw [hh, Nat.add_zero]; exact hR.2.1.symm) (by rw [Nat.zero_add]; exact r3) (by rw [Nat.zero_add]; exact r4)
  obtain ⟨fs, hr, hrun, hended, hW, hsame⟩ := X'.leave (v := w.map (qv ad)) (fun q => by rw [hret (Bd.returns.symm.trans q)]; rfl)
  refine ⟨_, _, S' fs hr, hrun, hended, _, _, rfl, ⟨rfl, R', F'⟩, ⟨_, rfl⟩, hW, ?_⟩
  simp only [Nat.zero_add] at hsame
  exact hsame
theorem QTri.room {k : Nat} {σ σ₁ : QHeap} {rest : List Value} {R : Room} (hroom : (Nat.ble (pFr k + 1) (pFr m) && Nat.ble ((rest.map fun v => v.category).sum + (pMaxL k + 11) + pLo k) (pLo m)) = true) (hfr : pFr m ≤ R.frames) (hlo : pLo m ≤ R.locals) :
    pFr k + 1 ≤ R.frames ∧ (rest.map fun v => v.category).sum + (pMaxL k + 11) + pLo k ≤ R.locals := by
  obtain ⟨q1, q2⟩ := Bool.and_eq_true_iff.mp hroom
  exact ⟨Nat.le_trans (Nat.le_of_ble_eq_true q1) hfr, Nat.le_trans (Nat.le_of_ble_eq_true q2) hlo⟩
theorem sig_len {k : Nat} (hk : k < pN) {as : List Value} (hna : as.length = pNA k) : ∀ sig, parseMethodDescriptor (pName k).desc = some sig → (as.map (qv ad)).length = sig.parameters.length := fun sig hs => by
  have q := pSig k hk
  rw [show parseMethodDescriptor (pDs k) = some sig from hs] at q
  simp at q
  simp [hna, q]
theorem ret_map (w : Option Value) (rest : List Value) : (w.toList ++ rest).map (qv ad) = (w.map (qv ad)).toList ++ rest.map (qv ad) := by cases w <;> simp
theorem QTri.after {as0 : List Value} {pc : Nat} {L : QLoc} {S rest : List Value} {σ σ₁ : QHeap} {w : Option Value} {k : Nat} (hcal : QTri l Z n0 ad k (0, qentry as0 (pMaxL k), [], σ) w σ₁) (h : QTri l Z n0 ad m (pc + 3, L, w.toList ++ rest, σ₁) v σ')
    (hs : ∀ (p : Program) (e : Env) (R : Room) (s : State) (mid : MethodId) (args : Array Value) (below : List Frame) (meth : Method) (c : Code) (T : State) (locs : List Loc) (cells slots : Nat) (C : Array Slot),
      QCx Z p R s mid meth c m → Stand p l e R s mid args below meth c T locs cells slots → QRep Z n0 ad T.heap σ → C.size = c.maxLocals → cells + (σ₁.length - σ.length) ≤ R.cells → slots + (qhs σ₁ - qhs σ) ≤ R.slots →
      ∃ T₁ Lc, Stand p l e R s mid args below meth c T₁ (locs ++ Lc) (cells + (σ₁.length - σ.length)) (slots + (qhs σ₁ - qhs σ)) ∧ QRep Z n0 ad T₁.heap σ₁ ∧ Fr n0 Lc ∧
        ∀ target, Steps p.tables e below (T₁.setTop (mkF mid (pc + 3) C ((w.map (qv ad)).toList ++ rest.map (qv ad)))) target → Steps p.tables e below (T.setTop (mkF mid pc C (S.map (qv ad)))) target) :
    QTri l Z n0 ad m (pc, L, S, σ) v σ' := by
  refine QTri.gen h hcal.1 hcal.2.1 fun p e R s mid args below meth c T locs cells slots C hcx X hR hF hL hC hn hc1 hsl => ?_
  obtain ⟨T₁, Lc, X₁, R₁, F₁, st⟩ := hs p e R s mid args below meth c T locs cells slots C hcx X hR hC hc1 hsl
  refine ⟨T₁, locs ++ Lc, C, X₁, R₁, hF.app F₁, hL, hC, fun target q => st target ?_⟩
  rw [← ret_map]
  exact q
set_option maxHeartbeats 4000000 in
theorem QTri.callV (W : QW Z a0) {pc idx k a : Nat} {L : QLoc} {S as rest vs : List Value} {σ σ₁ : QHeap} {w : Option Value} (hc : pCode m pc = some (.invokevirtual idx, k)) (hm : (lkV.contains (pK m, idx, k) && mV.contains k) = true) (hcell : hget σ a = some (.inl vs)) (hS : S = as.reverse ++ .ref a :: rest)
    (hna : as.length = pNA k) (hlen : Nat.ble (((Value.ref a :: as).map fun v => v.category).sum) (pMaxL k) = true) (hroom : (Nat.ble (pFr k + 1) (pFr m) && Nat.ble ((rest.map fun v => v.category).sum + (pMaxL k + 11) + pLo k) (pLo m)) = true) (hrb : (w.isNone || (pRet k).isSome) = true)
    (hcal : QTri l Z n0 ad k (0, qentry (.ref a :: as) (pMaxL k), [], σ) w σ₁) (h : QTri l Z n0 ad m (pc + 3, L, w.toList ++ rest, σ₁) v σ') : QTri l Z n0 ad m (pc, L, S, σ) v σ' := by
  have hd : decode (pBytes m) pc = .ok (.invokevirtual idx, 3) := pDecN hc rfl
  subst hS
  obtain ⟨m1, m2⟩ := Bool.and_eq_true_iff.mp hm
  have m1 := mem_of_contains m1
  have m2 := mem_of_contains m2
  have hkA := (mVlt k m2).1
  have hkN := mAlt k hkA
  have hret : pRet k = none → w = none := fun q => by
    rw [q] at hrb
    cases w with
    | none => rfl
    | some w => simp at hrb
  refine QTri.after hcal h fun p e R s mid args below meth c T locs cells slots C hcx X hR hC hc1 hsl => ?_
  obtain ⟨hx, hZ, hby, hml, hret', hown, hnm, hfr, hlo⟩ := hcx
  have hd2 : decode c.code pc = .ok (.invokevirtual idx, 3) := by rw [hby]; exact hd
  obtain ⟨f1, f2⟩ := QTri.room (σ := σ) (σ₁ := σ₁) hroom hfr hlo
  obtain ⟨cq, kq, q1, q2, q3⟩ := isOf hZ rfl (hR.2.2 _ _ hcell).1
  obtain ⟨w1, w2, w3⟩ := (qw_vi W) k m2
  obtain ⟨c1, c2⟩ := (qw_cod W) k hkA
  obtain ⟨_, _, ⟨T₁, L₁, k₁, n₁⟩, -, X₁, ⟨Lc, ⟨rfl, hR1, hF1⟩, l₁, y₁, z₁⟩, st⟩ := X.virtualBack hx (own := kName (pK m)) (index := idx) (y := pName k) (z := pName k) hown (mvT hZ (qw_ml W (pK m, idx, k) m1)) (mvT hZ w1) (notFace_of_selects (args := #[]) (mvT hZ w2)) (mvT hZ w2) (mvT hZ w3) (pOwn _ (pKlt k hkN))
    (backOf (W := (rest.map fun v => v.category).sum) (rm := ⟨pFr k, σ₁.length - σ.length, qhs σ₁ - qhs σ, pLo k⟩) (Q := fun v h L => v = Option.map (qv ad) w ∧ QRep Z n0 ad h σ₁ ∧ Fr n0 L) (QTri.met hkN hcal hR (Nat.le_of_ble_eq_true hlen) hret [] (Nat.le_refl _) (Nat.le_refl _) (Nat.le_refl _) (Nat.le_refl _)) hZ c1 c2 f1 f2) q1 q3 (g := mkF mid pc C (List.map (qv ad) (as.reverse ++ .ref a :: rest))) rfl hC (Steps.refl _) (argsL := as.map (qv ad)) (rest := rest.map (qv ad)) (sig_len hkN hna) (by simp [qv]) (by show 2 * 0 + _ ≤ _; rw [cats_qv]; omega) hd2 (fun _ _ => ⟨rfl, rfl, hc1, hsl⟩)
  dsimp only [Pt.U, Pt.locs, Pt.cells, Pt.slots] at X₁ l₁ y₁ z₁ st hR1
  subst l₁ y₁ z₁
  exact ⟨T₁, Lc, X₁, hR1, hF1, fun target q => st.trans q⟩
set_option maxHeartbeats 4000000 in
theorem QTri.callI (W : QW Z a0) {pc idx k a : Nat} {L : QLoc} {S as rest : List Value} {σ σ₁ : QHeap} (hc : pCode m pc = some (.invokespecial idx, k)) (hm : (lkV.contains (pK m, idx, k) && mI.contains k) = true) (hS : S = as.reverse ++ .ref a :: rest)
    (hna : as.length = pNA k) (hlen : Nat.ble (((Value.ref a :: as).map fun v => v.category).sum) (pMaxL k) = true) (hroom : (Nat.ble (pFr k + 1) (pFr m) && Nat.ble ((rest.map fun v => v.category).sum + (pMaxL k + 11) + pLo k) (pLo m)) = true)
    (hcal : QTri l Z n0 ad k (0, qentry (.ref a :: as) (pMaxL k), [], σ) none σ₁) (h : QTri l Z n0 ad m (pc + 3, L, rest, σ₁) v σ') : QTri l Z n0 ad m (pc, L, S, σ) v σ' := by
  have hd : decode (pBytes m) pc = .ok (.invokespecial idx, 3) := pDecN hc rfl
  subst hS
  obtain ⟨m1, m2⟩ := Bool.and_eq_true_iff.mp hm
  have m1 := mem_of_contains m1
  have m2 := mem_of_contains m2
  obtain ⟨hkA, -, hin, hrt⟩ := mIlt k m2
  have hkN := mAlt k hkA
  refine QTri.after (w := none) hcal h fun p e R s mid args below meth c T locs cells slots C hcx X hR hC hc1 hsl => ?_
  obtain ⟨hx, hZ, hby, hml, hret', hown, hnm, hfr, hlo⟩ := hcx
  have hd2 : decode c.code pc = .ok (.invokespecial idx, 3) := by rw [hby]; exact hd
  obtain ⟨f1, f2⟩ := QTri.room (σ := σ) (σ₁ := σ₁) hroom hfr hlo
  obtain ⟨c1, c2⟩ := (qw_cod W) k hkA
  have c1' := c1
  rw [hrt] at c1'
  obtain ⟨_, _, ⟨T₁, L₁, k₁, n₁⟩, -, X₁, ⟨Lc, ⟨rfl, hR1, hF1⟩, l₁, y₁, z₁⟩, st⟩ := X.specialBack hx (own := kName (pK m)) (index := idx) (y := pName k) hin hown (mvT hZ (qw_ml W (pK m, idx, k) m1)) (mvT hZ ((qw_ini W) k m2)) (mvT hZ c1') (pOwn _ (pKlt k hkN))
    (backOf (W := (rest.map fun v => v.category).sum) (rm := ⟨pFr k, σ₁.length - σ.length, qhs σ₁ - qhs σ, pLo k⟩) (Q := fun v h L => v = Option.map (qv ad) none ∧ QRep Z n0 ad h σ₁ ∧ Fr n0 L) (QTri.met hkN hcal hR (Nat.le_of_ble_eq_true hlen) (fun _ => rfl) [] (Nat.le_refl _) (Nat.le_refl _) (Nat.le_refl _) (Nat.le_refl _)) hZ c1 c2 f1 f2) (g := mkF mid pc C (List.map (qv ad) (as.reverse ++ .ref a :: rest))) rfl hC (Steps.refl _) (a := ad a) (argsL := as.map (qv ad)) (rest := rest.map (qv ad)) (sig_len hkN hna) (by simp [qv]) (by show 2 * 0 + _ ≤ _; rw [cats_qv]; omega) hd2 (fun _ _ => ⟨rfl, rfl, hc1, hsl⟩)
  dsimp only [Pt.U, Pt.locs, Pt.cells, Pt.slots] at X₁ l₁ y₁ z₁ st hR1
  subst l₁ y₁ z₁
  exact ⟨T₁, Lc, X₁, hR1, hF1, fun target q => st.trans q⟩
set_option maxHeartbeats 4000000 in
theorem QTri.callP (W : QW Z a0) {pc idx k a : Nat} {L : QLoc} {S as rest vs : List Value} {σ σ₁ : QHeap} {w : Option Value} (hc : pCode m pc = some (.invokevirtual idx, k)) (hm : (lkV.contains (pK m, idx, k) && mP.contains k) = true) (hcell : hget σ a = some (.inl vs)) (hS : S = as.reverse ++ .ref a :: rest)
    (hna : as.length = pNA k) (hlen : Nat.ble (((Value.ref a :: as).map fun v => v.category).sum) (pMaxL k) = true) (hroom : (Nat.ble (pFr k + 1) (pFr m) && Nat.ble ((rest.map fun v => v.category).sum + (pMaxL k + 11) + pLo k) (pLo m)) = true) (hrb : (w.isNone || (pRet k).isSome) = true)
    (hcal : QTri l Z n0 ad k (0, qentry (.ref a :: as) (pMaxL k), [], σ) w σ₁) (h : QTri l Z n0 ad m (pc + 3, L, w.toList ++ rest, σ₁) v σ') : QTri l Z n0 ad m (pc, L, S, σ) v σ' := by
  have hd : decode (pBytes m) pc = .ok (.invokevirtual idx, 3) := pDecN hc rfl
  subst hS
  obtain ⟨m1, m2⟩ := Bool.and_eq_true_iff.mp hm
  have m1 := mem_of_contains m1
  have m2 := mem_of_contains m2
  obtain ⟨hkA, hk1⟩ := mPlt k m2
  have hkN := mAlt k hkA
  have hret : pRet k = none → w = none := fun q => by
    rw [q] at hrb
    cases w with
    | none => rfl
    | some w => simp at hrb
  refine QTri.after hcal h fun p e R s mid args below meth c T locs cells slots C hcx X hR hC hc1 hsl => ?_
  obtain ⟨hx, hZ, hby, hml, hret', hown, hnm, hfr, hlo⟩ := hcx
  have hd2 : decode c.code pc = .ok (.invokevirtual idx, 3) := by rw [hby]; exact hd
  obtain ⟨f1, f2⟩ := QTri.room (σ := σ) (σ₁ := σ₁) hroom hfr hlo
  obtain ⟨cell, h1, h2⟩ := (hR.2.2 _ _ hcell).1.cell
  obtain ⟨w1, w2⟩ := (qw_pr W) k m2
  obtain ⟨c1, c2⟩ := (qw_cod W) k hkA
  have hpr : s.PrivateAt (pName k) := Cond.privateMethod_at (mvP hZ w2 (args := #[]))
  obtain ⟨cC, kC, i1, i2, i3, i4⟩ := Cond.instantiable_spec (args := #[]) (mvT hZ (qw_inst W))
  have hsel : (Cond.selects (pName k).cls (pName k) (pName k)).before args s = true := selects_self_of_private (c := cC) (k := kC) (by show s.vm.findClass (kName (pK k)) = _; rw [hk1]; exact i1) i2 (by have q := i4.1; cases hq : kC.isInterface with | false => rfl | true => rw [hq] at q; simp at q) hpr (mvT hZ w1) (pOwn _ (pKlt k hkN))
  obtain ⟨_, _, ⟨T₁, L₁, k₁, n₁⟩, -, X₁, ⟨Lc, ⟨rfl, hR1, hF1⟩, l₁, y₁, z₁⟩, st⟩ := X.privateBack hx (own := kName (pK m)) (index := idx) (y := pName k) hown (mvT hZ (qw_ml W (pK m, idx, k) m1)) (mvT hZ w1) hsel hpr (mvT hZ c1) (pOwn _ (pKlt k hkN))
    (backOf (W := (rest.map fun v => v.category).sum) (rm := ⟨pFr k, σ₁.length - σ.length, qhs σ₁ - qhs σ, pLo k⟩) (Q := fun v h L => v = Option.map (qv ad) w ∧ QRep Z n0 ad h σ₁ ∧ Fr n0 L) (QTri.met hkN hcal hR (Nat.le_of_ble_eq_true hlen) hret [] (Nat.le_refl _) (Nat.le_refl _) (Nat.le_refl _) (Nat.le_refl _)) hZ c1 c2 f1 f2) (g := mkF mid pc C (List.map (qv ad) (as.reverse ++ .ref a :: rest))) rfl hC (Steps.refl _) (a := ad a) h1 h2 (argsL := as.map (qv ad)) (rest := rest.map (qv ad)) (sig_len hkN hna) (by simp [qv]) (by show 2 * 0 + _ ≤ _; rw [cats_qv]; omega) hd2 (fun _ _ => ⟨rfl, rfl, hc1, hsl⟩)
  dsimp only [Pt.U, Pt.locs, Pt.cells, Pt.slots] at X₁ l₁ y₁ z₁ st hR1
  subst l₁ y₁ z₁
  exact ⟨T₁, Lc, X₁, hR1, hF1, fun target q => st.trans q⟩
set_option maxHeartbeats 4000000 in
theorem QTri.callS (W : QW Z a0) {pc idx k : Nat} {L : QLoc} {S as rest : List Value} {σ σ₁ : QHeap} {w : Option Value} (hc : pCode m pc = some (.invokestatic idx, k)) (hm : (lkV.contains (pK m, idx, k) && mS.contains k) = true) (hS : S = as.reverse ++ rest)
    (hna : as.length = pNA k) (hlen : Nat.ble ((as.map fun v => v.category).sum) (pMaxL k) = true) (hroom : (Nat.ble (pFr k + 1) (pFr m) && Nat.ble ((rest.map fun v => v.category).sum + (pMaxL k + 11) + pLo k) (pLo m)) = true) (hrb : (w.isNone || (pRet k).isSome) = true)
    (hcal : QTri l Z n0 ad k (0, qentry as (pMaxL k), [], σ) w σ₁) (h : QTri l Z n0 ad m (pc + 3, L, w.toList ++ rest, σ₁) v σ') : QTri l Z n0 ad m (pc, L, S, σ) v σ' := by
  have hd : decode (pBytes m) pc = .ok (.invokestatic idx, 3) := pDecN hc rfl
  subst hS
  obtain ⟨m1, m2⟩ := Bool.and_eq_true_iff.mp hm
  have m1 := mem_of_contains m1
  have m2 := mem_of_contains m2
  have hkA := mSlt k m2
  have hkN := mAlt k hkA
  have hret : pRet k = none → w = none := fun q => by
    rw [q] at hrb
    cases w with
    | none => rfl
    | some w => simp at hrb
  refine QTri.after hcal h fun p e R s mid args below meth c T locs cells slots C hcx X hR hC hc1 hsl => ?_
  obtain ⟨hx, hZ, hby, hml, hret', hown, hnm, hfr, hlo⟩ := hcx
  have hd2 : decode c.code pc = .ok (.invokestatic idx, 3) := by rw [hby]; exact hd
  obtain ⟨f1, f2⟩ := QTri.room (σ := σ) (σ₁ := σ₁) hroom hfr hlo
  obtain ⟨c1, c2⟩ := (qw_cod W) k hkA
  obtain ⟨_, _, ⟨T₁, L₁, k₁, n₁⟩, -, X₁, ⟨Lc, ⟨rfl, hR1, hF1⟩, l₁, y₁, z₁⟩, st⟩ := Jvm.LawKit.callS X hx (own := kName (pK m)) (index := idx) (y := pName k) hown (mvT hZ (qw_ml W (pK m, idx, k) m1)) (mvT hZ ((qw_st W) k m2)) (mvT hZ c2) (mvT hZ c1) (pOwn _ (pKlt k hkN))
    (backOf (W := (rest.map fun v => v.category).sum) (rm := ⟨pFr k, σ₁.length - σ.length, qhs σ₁ - qhs σ, pLo k⟩) (Q := fun v h L => v = Option.map (qv ad) w ∧ QRep Z n0 ad h σ₁ ∧ Fr n0 L) (QTri.met hkN hcal hR (Nat.le_of_ble_eq_true hlen) hret [] (Nat.le_refl _) (Nat.le_refl _) (Nat.le_refl _) (Nat.le_refl _)) hZ c1 c2 f1 f2) (g := mkF mid pc C (List.map (qv ad) (as.reverse ++ rest))) rfl hC (argsL := as.map (qv ad)) (rest := rest.map (qv ad)) (sig_len hkN hna) (by simp) (by show 2 * 0 + _ ≤ _; rw [cats_qv]; omega) hd2 (fun _ _ => ⟨rfl, rfl, hc1, hsl⟩)
  dsimp only [Pt.U, Pt.locs, Pt.cells, Pt.slots] at X₁ l₁ y₁ z₁ st hR1
  subst l₁ y₁ z₁
  exact ⟨T₁, Lc, X₁, hR1, hF1, fun target q => st target q⟩
set_option maxHeartbeats 4000000 in
theorem QTri.callO (W : QW Z a0) {pc idx k a : Nat} {L : QLoc} {rest : List Value} {σ : QHeap} (hc : pCode m pc = some (.invokespecial idx, k)) (hm : lkO.contains (pK m, idx) = true) (hroom : (Nat.ble 1 (pFr m) && Nat.ble ((rest.map fun v => v.category).sum + 12) (pLo m)) = true)
    (h : QTri l Z n0 ad m (pc + 3, L, rest, σ) v σ') : QTri l Z n0 ad m (pc, L, .ref a :: rest, σ) v σ' :=
  have hd : decode (pBytes m) pc = .ok (.invokespecial idx, 3) := pDecN hc rfl
  QTri.pure h rfl fun p e R s mid args below meth c T locs cells slots C hcx X hR hL hC => by
    obtain ⟨hx, hZ, hby, hml, hret', hown, hnm, hfr, hlo⟩ := hcx
    have hd2 : decode c.code pc = .ok (.invokespecial idx, 3) := by rw [hby]; exact hd
    obtain ⟨q1, q2⟩ := Bool.and_eq_true_iff.mp hroom
    obtain ⟨T₁, X₁, e₁, st⟩ := initO X hx hZ hown (idx := idx) (qw_mo W (pK m, idx) (mem_of_contains hm)) ((qw_oi W)) ((qw_oc W)) rfl (g := mkF mid pc C (List.map (qv ad) (.ref a :: rest))) rfl hC rfl hd2 (Nat.le_trans (Nat.le_of_ble_eq_true q1) hfr) (W := (rest.map fun v => v.category).sum) (by show 2 * 0 + _ ≤ _; rw [cats_qv]; omega) (Nat.le_trans (Nat.le_of_ble_eq_true q2) hlo)
    exact ⟨T₁, C, X₁, e₁, hL, hC, st⟩
theorem QTri.brT (Ad : QAd n0 ad) (W : QW Z a0) {st : QSt} {t f : Nat} {L : QLoc} {S : List Value} {σ : QHeap} {b : Bool} (hs : qstep m st = some (bif b then t else f, L, S, σ)) (hb : b = true) (h : QTri l Z n0 ad m (t, L, S, σ) v σ') : QTri l Z n0 ad m st v σ' := by
  subst hb; exact QTri.step Ad W h hs
theorem QTri.brF (Ad : QAd n0 ad) (W : QW Z a0) {st : QSt} {t f : Nat} {L : QLoc} {S : List Value} {σ : QHeap} {b : Bool} (hs : qstep m st = some (bif b then t else f, L, S, σ)) (hb : b = false) (h : QTri l Z n0 ad m (f, L, S, σ) v σ') : QTri l Z n0 ad m st v σ' := by
  subst hb; exact QTri.step Ad W h hs
theorem QTri.bnd {α : Type} (Ad : QAd n0 ad) (W : QW Z a0) {st : QSt} {x : Option α} {f : α → QSt} {a : α} (hs : qstep m st = x.bind fun v => some (f v)) (hx : x = some a) (h : QTri l Z n0 ad m (f a) v σ') : QTri l Z n0 ad m st v σ' :=
  QTri.step Ad W h (by rw [hs, hx]; rfl)
theorem QTri.bndB (Ad : QAd n0 ad) (W : QW Z a0) {st : QSt} {x y : Int32} {g : Value → QSt} (hs : qstep m st = ((qboo x).bind fun y => some (Value.int y)).bind fun w => some (g w)) (hx : qboo x = some y) (h : QTri l Z n0 ad m (g (.int y)) v σ') : QTri l Z n0 ad m st v σ' :=
  QTri.step Ad W h (by rw [hs, hx]; rfl)
end Triples
/-! ## plain: branches and loops -/
theorem qite {α : Type} {c : Prop} [Decidable c] {a b : Option α} {r : α} (h : (if c then a else b) = some r) : (c ∧ a = some r) ∨ (¬ c ∧ b = some r) := by
  by_cases hc : c
  · exact Or.inl ⟨hc, by rwa [if_pos hc] at h⟩
  · exact Or.inr ⟨hc, by rwa [if_neg hc] at h⟩
def qN : Nat := 4000
def loopN {V E : Type} (B : V → Option (E ⊕ V)) : Nat → V → Option E
  | 0, _ => none
  | n + 1, v => match B v with
    | none => none
    | some (.inl e) => some e
    | some (.inr v') => loopN B n v'
theorem loopN_tri {V E : Type} {B : V → Option (E ⊕ V)} {T : V → Prop} {KE : E → Prop} (hB : ∀ v r, B v = some r → (∀ e, r = .inl e → KE e) → (∀ v', r = .inr v' → T v') → T v) : ∀ (n : Nat) (v : V) (e : E), loopN B n v = some e → KE e → T v
  | 0, _, _, h, _ => by cases h
  | n + 1, v, e, h, k => by
    simp only [loopN] at h
    split at h
    · cases h
    · rename_i e' he
      cases h
      exact hB v _ he (fun e q => by cases q; exact k) (fun v' q => by cases q)
    · rename_i v' he
      exact hB v _ he (fun e q => by cases q) (fun v'' q => by cases q; exact loopN_tri hB n v' e h k)
/-- a loop: an invariant, a measure -/
theorem loopN_inv {V E : Type} {B : V → Option (E ⊕ V)} (I : V → Prop) (P : E → Prop) (μ : V → Nat) (hB : ∀ v, I v → (∃ e, B v = some (.inl e) ∧ P e) ∨ ∃ v', B v = some (.inr v') ∧ I v' ∧ μ v' < μ v) : ∀ (n : Nat) (v : V), I v → μ v < n → ∃ e, loopN B n v = some e ∧ P e
  | 0, _, _, h => absurd h (Nat.not_lt_zero _)
  | n + 1, v, hv, hm => by
    rcases hB v hv with ⟨e, h1, h2⟩ | ⟨v', h1, h2, h3⟩
    · exact ⟨e, by simp only [loopN, h1], h2⟩
    · obtain ⟨e, g1, g2⟩ := loopN_inv I P μ hB n v' h2 (by omega)
      exact ⟨e, by simp only [loopN, h1]; exact g1, g2⟩
theorem qfn {α : Type} {P : α → Prop} : ∀ t ∈ ([] : List α), P t := fun _ h => nomatch h
theorem qfc {α : Type} {P : α → Prop} {a : α} {t : List α} (h : P a) (ht : ∀ x ∈ t, P x) : ∀ x ∈ a :: t, P x := fun x hx => by rcases List.mem_cons.mp hx with rfl | q; exact h; exact ht x q
theorem QW_ok {Z : State} {a0 : Array Value} (hw : ∀ d ∈ tables_1, d.before a0 Z = true) : QW Z a0 := by
  have w0 : ∀ k ∈ List.range nF, bif fFin k then (Jvm.Cond.laysFinal cName cName (fNm k) (fDs k)).before a0 Z = true else (Jvm.Cond.lays cName cName (fNm k) (fDs k)).before a0 Z = true :=
    show ∀ k ∈ [0, 1, 2, 3, 4, 5, 6, 7, 8, 9, 10, 11, 12, 13, 14, 15, 16, 17, 18, 19, 20, 21, 22, 23, 24], bif fFin k then (Jvm.Cond.laysFinal cName cName (fNm k) (fDs k)).before a0 Z = true else (Jvm.Cond.lays cName cName (fNm k) (fDs k)).before a0 Z = true from
    (qfc (hw _ (List.mem_of_getElem? (i := 11) rfl)) (qfc (hw _ (List.mem_of_getElem? (i := 14) rfl)) (qfc (hw _ (List.mem_of_getElem? (i := 16) rfl)) (qfc (hw _ (List.mem_of_getElem? (i := 18) rfl)) (qfc (hw _ (List.mem_of_getElem? (i := 20) rfl)) (qfc (hw _ (List.mem_of_getElem? (i := 22) rfl)) (qfc (hw _ (List.mem_of_getElem? (i := 24) rfl)) (qfc (hw _ (List.mem_of_getElem? (i := 26) rfl)) (qfc (hw _ (List.mem_of_getElem? (i := 28) rfl)) (qfc (hw _ (List.mem_of_getElem? (i := 30) rfl)) (qfc (hw _ (List.mem_of_getElem? (i := 32) rfl)) (qfc (hw _ (List.mem_of_getElem? (i := 34) rfl)) (qfc (hw _ (List.mem_of_getElem? (i := 36) rfl)) (qfc (hw _ (List.mem_of_getElem? (i := 38) rfl)) (qfc (hw _ (List.mem_of_getElem? (i := 40) rfl)) (qfc (hw _ (List.mem_of_getElem? (i := 42) rfl)) (qfc (hw _ (List.mem_of_getElem? (i := 44) rfl)) (qfc (hw _ (List.mem_of_getElem? (i := 46) rfl)) (qfc (hw _ (List.mem_of_getElem? (i := 48) rfl)) (qfc (hw _ (List.mem_of_getElem? (i := 54) rfl)) (qfc (hw _ (List.mem_of_getElem? (i := 56) rfl)) (qfc (hw _ (List.mem_of_getElem? (i := 58) rfl)) (qfc (hw _ (List.mem_of_getElem? (i := 60) rfl)) (qfc (hw _ (List.mem_of_getElem? (i := 67) rfl)) (qfc (hw _ (List.mem_of_getElem? (i := 142) rfl)) qfn)))))))))))))))))))))))))
  refine ⟨?_, ?_, ?_, ?_, ?_, ?_, ?_, ?_, ?_, ?_, ?_, ?_, ?_, (fun k hk => w0 k (List.mem_range.mpr hk)), ?_, ?_, ?_⟩
  · exact (qfc (hw _ (List.mem_of_getElem? (i := 10) rfl)) (qfc (hw _ (List.mem_of_getElem? (i := 13) rfl)) (qfc (hw _ (List.mem_of_getElem? (i := 15) rfl)) (qfc (hw _ (List.mem_of_getElem? (i := 17) rfl)) (qfc (hw _ (List.mem_of_getElem? (i := 19) rfl)) (qfc (hw _ (List.mem_of_getElem? (i := 21) rfl)) (qfc (hw _ (List.mem_of_getElem? (i := 23) rfl)) (qfc (hw _ (List.mem_of_getElem? (i := 25) rfl)) (qfc (hw _ (List.mem_of_getElem? (i := 27) rfl)) (qfc (hw _ (List.mem_of_getElem? (i := 29) rfl)) (qfc (hw _ (List.mem_of_getElem? (i := 31) rfl)) (qfc (hw _ (List.mem_of_getElem? (i := 33) rfl)) (qfc (hw _ (List.mem_of_getElem? (i := 35) rfl)) (qfc (hw _ (List.mem_of_getElem? (i := 37) rfl)) (qfc (hw _ (List.mem_of_getElem? (i := 39) rfl)) (qfc (hw _ (List.mem_of_getElem? (i := 41) rfl)) (qfc (hw _ (List.mem_of_getElem? (i := 43) rfl)) (qfc (hw _ (List.mem_of_getElem? (i := 45) rfl)) (qfc (hw _ (List.mem_of_getElem? (i := 47) rfl)) (qfc (hw _ (List.mem_of_getElem? (i := 53) rfl)) (qfc (hw _ (List.mem_of_getElem? (i := 55) rfl)) (qfc (hw _ (List.mem_of_getElem? (i := 57) rfl)) (qfc (hw _ (List.mem_of_getElem? (i := 59) rfl)) (qfc (hw _ (List.mem_of_getElem? (i := 66) rfl)) (qfc (hw _ (List.mem_of_getElem? (i := 141) rfl)) qfn)))))))))))))))))))))))))
  · exact (qfc (hw _ (List.mem_of_getElem? (i := 0) rfl)) qfn)
  · exact qfn
  · exact qfn
  · exact (qfc (hw _ (List.mem_of_getElem? (i := 3) rfl)) (qfc (hw _ (List.mem_of_getElem? (i := 49) rfl)) (qfc (hw _ (List.mem_of_getElem? (i := 61) rfl)) (qfc (hw _ (List.mem_of_getElem? (i := 68) rfl)) (qfc (hw _ (List.mem_of_getElem? (i := 72) rfl)) (qfc (hw _ (List.mem_of_getElem? (i := 76) rfl)) (qfc (hw _ (List.mem_of_getElem? (i := 80) rfl)) (qfc (hw _ (List.mem_of_getElem? (i := 84) rfl)) (qfc (hw _ (List.mem_of_getElem? (i := 88) rfl)) (qfc (hw _ (List.mem_of_getElem? (i := 92) rfl)) (qfc (hw _ (List.mem_of_getElem? (i := 96) rfl)) (qfc (hw _ (List.mem_of_getElem? (i := 100) rfl)) (qfc (hw _ (List.mem_of_getElem? (i := 104) rfl)) (qfc (hw _ (List.mem_of_getElem? (i := 108) rfl)) (qfc (hw _ (List.mem_of_getElem? (i := 112) rfl)) (qfc (hw _ (List.mem_of_getElem? (i := 117) rfl)) (qfc (hw _ (List.mem_of_getElem? (i := 122) rfl)) (qfc (hw _ (List.mem_of_getElem? (i := 127) rfl)) (qfc (hw _ (List.mem_of_getElem? (i := 131) rfl)) (qfc (hw _ (List.mem_of_getElem? (i := 136) rfl)) qfn))))))))))))))))))))
  · exact (qfc (hw _ (List.mem_of_getElem? (i := 6) rfl)) qfn)
  · exact (qfc ⟨(hw _ (List.mem_of_getElem? (i := 62) rfl)), (hw _ (List.mem_of_getElem? (i := 64) rfl)), (hw _ (List.mem_of_getElem? (i := 63) rfl))⟩ (qfc ⟨(hw _ (List.mem_of_getElem? (i := 113) rfl)), (hw _ (List.mem_of_getElem? (i := 115) rfl)), (hw _ (List.mem_of_getElem? (i := 114) rfl))⟩ (qfc ⟨(hw _ (List.mem_of_getElem? (i := 118) rfl)), (hw _ (List.mem_of_getElem? (i := 120) rfl)), (hw _ (List.mem_of_getElem? (i := 119) rfl))⟩ (qfc ⟨(hw _ (List.mem_of_getElem? (i := 123) rfl)), (hw _ (List.mem_of_getElem? (i := 125) rfl)), (hw _ (List.mem_of_getElem? (i := 124) rfl))⟩ (qfc ⟨(hw _ (List.mem_of_getElem? (i := 132) rfl)), (hw _ (List.mem_of_getElem? (i := 134) rfl)), (hw _ (List.mem_of_getElem? (i := 133) rfl))⟩ (qfc ⟨(hw _ (List.mem_of_getElem? (i := 137) rfl)), (hw _ (List.mem_of_getElem? (i := 139) rfl)), (hw _ (List.mem_of_getElem? (i := 138) rfl))⟩ qfn))))))
  · exact (qfc ⟨(hw _ (List.mem_of_getElem? (i := 50) rfl)), (hw _ (List.mem_of_getElem? (i := 51) rfl))⟩ (qfc ⟨(hw _ (List.mem_of_getElem? (i := 69) rfl)), (hw _ (List.mem_of_getElem? (i := 70) rfl))⟩ (qfc ⟨(hw _ (List.mem_of_getElem? (i := 73) rfl)), (hw _ (List.mem_of_getElem? (i := 74) rfl))⟩ (qfc ⟨(hw _ (List.mem_of_getElem? (i := 77) rfl)), (hw _ (List.mem_of_getElem? (i := 78) rfl))⟩ (qfc ⟨(hw _ (List.mem_of_getElem? (i := 81) rfl)), (hw _ (List.mem_of_getElem? (i := 82) rfl))⟩ (qfc ⟨(hw _ (List.mem_of_getElem? (i := 85) rfl)), (hw _ (List.mem_of_getElem? (i := 86) rfl))⟩ (qfc ⟨(hw _ (List.mem_of_getElem? (i := 89) rfl)), (hw _ (List.mem_of_getElem? (i := 90) rfl))⟩ (qfc ⟨(hw _ (List.mem_of_getElem? (i := 93) rfl)), (hw _ (List.mem_of_getElem? (i := 94) rfl))⟩ (qfc ⟨(hw _ (List.mem_of_getElem? (i := 97) rfl)), (hw _ (List.mem_of_getElem? (i := 98) rfl))⟩ (qfc ⟨(hw _ (List.mem_of_getElem? (i := 101) rfl)), (hw _ (List.mem_of_getElem? (i := 102) rfl))⟩ (qfc ⟨(hw _ (List.mem_of_getElem? (i := 105) rfl)), (hw _ (List.mem_of_getElem? (i := 106) rfl))⟩ (qfc ⟨(hw _ (List.mem_of_getElem? (i := 109) rfl)), (hw _ (List.mem_of_getElem? (i := 110) rfl))⟩ (qfc ⟨(hw _ (List.mem_of_getElem? (i := 128) rfl)), (hw _ (List.mem_of_getElem? (i := 129) rfl))⟩ qfn)))))))))))))
  · exact qfn
  · exact (qfc (hw _ (List.mem_of_getElem? (i := 4) rfl)) qfn)
  · exact (qfc ⟨(hw _ (List.mem_of_getElem? (i := 5) rfl)), (hw _ (List.mem_of_getElem? (i := 2) rfl))⟩ (qfc ⟨(hw _ (List.mem_of_getElem? (i := 52) rfl)), (hw _ (List.mem_of_getElem? (i := 2) rfl))⟩ (qfc ⟨(hw _ (List.mem_of_getElem? (i := 65) rfl)), (hw _ (List.mem_of_getElem? (i := 2) rfl))⟩ (qfc ⟨(hw _ (List.mem_of_getElem? (i := 71) rfl)), (hw _ (List.mem_of_getElem? (i := 2) rfl))⟩ (qfc ⟨(hw _ (List.mem_of_getElem? (i := 75) rfl)), (hw _ (List.mem_of_getElem? (i := 2) rfl))⟩ (qfc ⟨(hw _ (List.mem_of_getElem? (i := 79) rfl)), (hw _ (List.mem_of_getElem? (i := 2) rfl))⟩ (qfc ⟨(hw _ (List.mem_of_getElem? (i := 83) rfl)), (hw _ (List.mem_of_getElem? (i := 2) rfl))⟩ (qfc ⟨(hw _ (List.mem_of_getElem? (i := 87) rfl)), (hw _ (List.mem_of_getElem? (i := 2) rfl))⟩ (qfc ⟨(hw _ (List.mem_of_getElem? (i := 91) rfl)), (hw _ (List.mem_of_getElem? (i := 2) rfl))⟩ (qfc ⟨(hw _ (List.mem_of_getElem? (i := 95) rfl)), (hw _ (List.mem_of_getElem? (i := 2) rfl))⟩ (qfc ⟨(hw _ (List.mem_of_getElem? (i := 99) rfl)), (hw _ (List.mem_of_getElem? (i := 2) rfl))⟩ (qfc ⟨(hw _ (List.mem_of_getElem? (i := 103) rfl)), (hw _ (List.mem_of_getElem? (i := 2) rfl))⟩ (qfc ⟨(hw _ (List.mem_of_getElem? (i := 107) rfl)), (hw _ (List.mem_of_getElem? (i := 2) rfl))⟩ (qfc ⟨(hw _ (List.mem_of_getElem? (i := 111) rfl)), (hw _ (List.mem_of_getElem? (i := 2) rfl))⟩ (qfc ⟨(hw _ (List.mem_of_getElem? (i := 116) rfl)), (hw _ (List.mem_of_getElem? (i := 2) rfl))⟩ (qfc ⟨(hw _ (List.mem_of_getElem? (i := 121) rfl)), (hw _ (List.mem_of_getElem? (i := 2) rfl))⟩ (qfc ⟨(hw _ (List.mem_of_getElem? (i := 126) rfl)), (hw _ (List.mem_of_getElem? (i := 2) rfl))⟩ (qfc ⟨(hw _ (List.mem_of_getElem? (i := 130) rfl)), (hw _ (List.mem_of_getElem? (i := 2) rfl))⟩ (qfc ⟨(hw _ (List.mem_of_getElem? (i := 135) rfl)), (hw _ (List.mem_of_getElem? (i := 2) rfl))⟩ (qfc ⟨(hw _ (List.mem_of_getElem? (i := 140) rfl)), (hw _ (List.mem_of_getElem? (i := 2) rfl))⟩ qfn))))))))))))))))))))
  · exact (hw _ (List.mem_of_getElem? (i := 7) rfl))
  · exact (hw _ (List.mem_of_getElem? (i := 8) rfl))
  · exact (hw _ (List.mem_of_getElem? (i := 1) rfl))
  · exact (hw _ (List.mem_of_getElem? (i := 2) rfl))
  · exact (qfc (hw _ (List.mem_of_getElem? (i := 9) rfl)) (qfc (hw _ (List.mem_of_getElem? (i := 12) rfl)) qfn))
abbrev Ob := List Int32 × List Int32 × List Int32 × List Int32 × List Int32 × List Int32 × List Int32 × List Int32 × List Int32 × List Int32 × List Int32 × List Int32 × List Int32 × List Int32 × List Int32 × List Int32 × List Int32 × List Int32 × List Int32 × Int32 × Int32 × Int32 × Int32 × Int32 × Int32
def f_srcPayload (o : Ob) : List Int32 := o.1
def f_pend (o : Ob) : List Int32 := o.2.1
def f_queue (o : Ob) : List Int32 := o.2.2.1
def f_stats (o : Ob) : List Int32 := o.2.2.2.1
def f_state (o : Ob) : List Int32 := o.2.2.2.2.1
def f_timer (o : Ob) : List Int32 := o.2.2.2.2.2.1
def f_rxVal (o : Ob) : List Int32 := o.2.2.2.2.2.2.1
def f_rxNext (o : Ob) : List Int32 := o.2.2.2.2.2.2.2.1
def f_rxLead (o : Ob) : List Int32 := o.2.2.2.2.2.2.2.2.1
def f_rxTrail (o : Ob) : List Int32 := o.2.2.2.2.2.2.2.2.2.1
def f_lossLeft (o : Ob) : List Int32 := o.2.2.2.2.2.2.2.2.2.2.1
def f_dups (o : Ob) : List Int32 := o.2.2.2.2.2.2.2.2.2.2.2.1
def f_drops (o : Ob) : List Int32 := o.2.2.2.2.2.2.2.2.2.2.2.2.1
def f_delSeq (o : Ob) : List Int32 := o.2.2.2.2.2.2.2.2.2.2.2.2.2.1
def f_delVal (o : Ob) : List Int32 := o.2.2.2.2.2.2.2.2.2.2.2.2.2.2.1
def f_delLen (o : Ob) : List Int32 := o.2.2.2.2.2.2.2.2.2.2.2.2.2.2.2.1
def f_lostLog (o : Ob) : List Int32 := o.2.2.2.2.2.2.2.2.2.2.2.2.2.2.2.2.1
def f_lostLen (o : Ob) : List Int32 := o.2.2.2.2.2.2.2.2.2.2.2.2.2.2.2.2.2.1
def f_nakBuf (o : Ob) : List Int32 := o.2.2.2.2.2.2.2.2.2.2.2.2.2.2.2.2.2.2.1
def f_win (o : Ob) : Int32 := o.2.2.2.2.2.2.2.2.2.2.2.2.2.2.2.2.2.2.2.1
def f_back (o : Ob) : Int32 := o.2.2.2.2.2.2.2.2.2.2.2.2.2.2.2.2.2.2.2.2.1
def f_repair (o : Ob) : Int32 := o.2.2.2.2.2.2.2.2.2.2.2.2.2.2.2.2.2.2.2.2.2.1
def f_period (o : Ob) : Int32 := o.2.2.2.2.2.2.2.2.2.2.2.2.2.2.2.2.2.2.2.2.2.2.1
def f_nextSeq (o : Ob) : Int32 := o.2.2.2.2.2.2.2.2.2.2.2.2.2.2.2.2.2.2.2.2.2.2.2.1
def f_qLen (o : Ob) : Int32 := o.2.2.2.2.2.2.2.2.2.2.2.2.2.2.2.2.2.2.2.2.2.2.2.2
def s_srcPayload (o : Ob) (v : List Int32) : Ob := (v, o.2.1, o.2.2.1, o.2.2.2.1, o.2.2.2.2.1, o.2.2.2.2.2.1, o.2.2.2.2.2.2.1, o.2.2.2.2.2.2.2.1, o.2.2.2.2.2.2.2.2.1, o.2.2.2.2.2.2.2.2.2.1, o.2.2.2.2.2.2.2.2.2.2.1, o.2.2.2.2.2.2.2.2.2.2.2.1, o.2.2.2.2.2.2.2.2.2.2.2.2.1, o.2.2.2.2.2.2.2.2.2.2.2.2.2.1, o.2.2.2.2.2.2.2.2.2.2.2.2.2.2.1, o.2.2.2.2.2.2.2.2.2.2.2.2.2.2.2.1, o.2.2.2.2.2.2.2.2.2.2.2.2.2.2.2.2.1, o.2.2.2.2.2.2.2.2.2.2.2.2.2.2.2.2.2.1, o.2.2.2.2.2.2.2.2.2.2.2.2.2.2.2.2.2.2.1, o.2.2.2.2.2.2.2.2.2.2.2.2.2.2.2.2.2.2.2.1, o.2.2.2.2.2.2.2.2.2.2.2.2.2.2.2.2.2.2.2.2.1, o.2.2.2.2.2.2.2.2.2.2.2.2.2.2.2.2.2.2.2.2.2.1, o.2.2.2.2.2.2.2.2.2.2.2.2.2.2.2.2.2.2.2.2.2.2.1, o.2.2.2.2.2.2.2.2.2.2.2.2.2.2.2.2.2.2.2.2.2.2.2.1, o.2.2.2.2.2.2.2.2.2.2.2.2.2.2.2.2.2.2.2.2.2.2.2.2)
def s_pend (o : Ob) (v : List Int32) : Ob := (o.1, v, o.2.2.1, o.2.2.2.1, o.2.2.2.2.1, o.2.2.2.2.2.1, o.2.2.2.2.2.2.1, o.2.2.2.2.2.2.2.1, o.2.2.2.2.2.2.2.2.1, o.2.2.2.2.2.2.2.2.2.1, o.2.2.2.2.2.2.2.2.2.2.1, o.2.2.2.2.2.2.2.2.2.2.2.1, o.2.2.2.2.2.2.2.2.2.2.2.2.1, o.2.2.2.2.2.2.2.2.2.2.2.2.2.1, o.2.2.2.2.2.2.2.2.2.2.2.2.2.2.1, o.2.2.2.2.2.2.2.2.2.2.2.2.2.2.2.1, o.2.2.2.2.2.2.2.2.2.2.2.2.2.2.2.2.1, o.2.2.2.2.2.2.2.2.2.2.2.2.2.2.2.2.2.1, o.2.2.2.2.2.2.2.2.2.2.2.2.2.2.2.2.2.2.1, o.2.2.2.2.2.2.2.2.2.2.2.2.2.2.2.2.2.2.2.1, o.2.2.2.2.2.2.2.2.2.2.2.2.2.2.2.2.2.2.2.2.1, o.2.2.2.2.2.2.2.2.2.2.2.2.2.2.2.2.2.2.2.2.2.1, o.2.2.2.2.2.2.2.2.2.2.2.2.2.2.2.2.2.2.2.2.2.2.1, o.2.2.2.2.2.2.2.2.2.2.2.2.2.2.2.2.2.2.2.2.2.2.2.1, o.2.2.2.2.2.2.2.2.2.2.2.2.2.2.2.2.2.2.2.2.2.2.2.2)
def s_queue (o : Ob) (v : List Int32) : Ob := (o.1, o.2.1, v, o.2.2.2.1, o.2.2.2.2.1, o.2.2.2.2.2.1, o.2.2.2.2.2.2.1, o.2.2.2.2.2.2.2.1, o.2.2.2.2.2.2.2.2.1, o.2.2.2.2.2.2.2.2.2.1, o.2.2.2.2.2.2.2.2.2.2.1, o.2.2.2.2.2.2.2.2.2.2.2.1, o.2.2.2.2.2.2.2.2.2.2.2.2.1, o.2.2.2.2.2.2.2.2.2.2.2.2.2.1, o.2.2.2.2.2.2.2.2.2.2.2.2.2.2.1, o.2.2.2.2.2.2.2.2.2.2.2.2.2.2.2.1, o.2.2.2.2.2.2.2.2.2.2.2.2.2.2.2.2.1, o.2.2.2.2.2.2.2.2.2.2.2.2.2.2.2.2.2.1, o.2.2.2.2.2.2.2.2.2.2.2.2.2.2.2.2.2.2.1, o.2.2.2.2.2.2.2.2.2.2.2.2.2.2.2.2.2.2.2.1, o.2.2.2.2.2.2.2.2.2.2.2.2.2.2.2.2.2.2.2.2.1, o.2.2.2.2.2.2.2.2.2.2.2.2.2.2.2.2.2.2.2.2.2.1, o.2.2.2.2.2.2.2.2.2.2.2.2.2.2.2.2.2.2.2.2.2.2.1, o.2.2.2.2.2.2.2.2.2.2.2.2.2.2.2.2.2.2.2.2.2.2.2.1, o.2.2.2.2.2.2.2.2.2.2.2.2.2.2.2.2.2.2.2.2.2.2.2.2)
def s_stats (o : Ob) (v : List Int32) : Ob := (o.1, o.2.1, o.2.2.1, v, o.2.2.2.2.1, o.2.2.2.2.2.1, o.2.2.2.2.2.2.1, o.2.2.2.2.2.2.2.1, o.2.2.2.2.2.2.2.2.1, o.2.2.2.2.2.2.2.2.2.1, o.2.2.2.2.2.2.2.2.2.2.1, o.2.2.2.2.2.2.2.2.2.2.2.1, o.2.2.2.2.2.2.2.2.2.2.2.2.1, o.2.2.2.2.2.2.2.2.2.2.2.2.2.1, o.2.2.2.2.2.2.2.2.2.2.2.2.2.2.1, o.2.2.2.2.2.2.2.2.2.2.2.2.2.2.2.1, o.2.2.2.2.2.2.2.2.2.2.2.2.2.2.2.2.1, o.2.2.2.2.2.2.2.2.2.2.2.2.2.2.2.2.2.1, o.2.2.2.2.2.2.2.2.2.2.2.2.2.2.2.2.2.2.1, o.2.2.2.2.2.2.2.2.2.2.2.2.2.2.2.2.2.2.2.1, o.2.2.2.2.2.2.2.2.2.2.2.2.2.2.2.2.2.2.2.2.1, o.2.2.2.2.2.2.2.2.2.2.2.2.2.2.2.2.2.2.2.2.2.1, o.2.2.2.2.2.2.2.2.2.2.2.2.2.2.2.2.2.2.2.2.2.2.1, o.2.2.2.2.2.2.2.2.2.2.2.2.2.2.2.2.2.2.2.2.2.2.2.1, o.2.2.2.2.2.2.2.2.2.2.2.2.2.2.2.2.2.2.2.2.2.2.2.2)
def s_state (o : Ob) (v : List Int32) : Ob := (o.1, o.2.1, o.2.2.1, o.2.2.2.1, v, o.2.2.2.2.2.1, o.2.2.2.2.2.2.1, o.2.2.2.2.2.2.2.1, o.2.2.2.2.2.2.2.2.1, o.2.2.2.2.2.2.2.2.2.1, o.2.2.2.2.2.2.2.2.2.2.1, o.2.2.2.2.2.2.2.2.2.2.2.1, o.2.2.2.2.2.2.2.2.2.2.2.2.1, o.2.2.2.2.2.2.2.2.2.2.2.2.2.1, o.2.2.2.2.2.2.2.2.2.2.2.2.2.2.1, o.2.2.2.2.2.2.2.2.2.2.2.2.2.2.2.1, o.2.2.2.2.2.2.2.2.2.2.2.2.2.2.2.2.1, o.2.2.2.2.2.2.2.2.2.2.2.2.2.2.2.2.2.1, o.2.2.2.2.2.2.2.2.2.2.2.2.2.2.2.2.2.2.1, o.2.2.2.2.2.2.2.2.2.2.2.2.2.2.2.2.2.2.2.1, o.2.2.2.2.2.2.2.2.2.2.2.2.2.2.2.2.2.2.2.2.1, o.2.2.2.2.2.2.2.2.2.2.2.2.2.2.2.2.2.2.2.2.2.1, o.2.2.2.2.2.2.2.2.2.2.2.2.2.2.2.2.2.2.2.2.2.2.1, o.2.2.2.2.2.2.2.2.2.2.2.2.2.2.2.2.2.2.2.2.2.2.2.1, o.2.2.2.2.2.2.2.2.2.2.2.2.2.2.2.2.2.2.2.2.2.2.2.2)
def s_timer (o : Ob) (v : List Int32) : Ob := (o.1, o.2.1, o.2.2.1, o.2.2.2.1, o.2.2.2.2.1, v, o.2.2.2.2.2.2.1, o.2.2.2.2.2.2.2.1, o.2.2.2.2.2.2.2.2.1, o.2.2.2.2.2.2.2.2.2.1, o.2.2.2.2.2.2.2.2.2.2.1, o.2.2.2.2.2.2.2.2.2.2.2.1, o.2.2.2.2.2.2.2.2.2.2.2.2.1, o.2.2.2.2.2.2.2.2.2.2.2.2.2.1, o.2.2.2.2.2.2.2.2.2.2.2.2.2.2.1, o.2.2.2.2.2.2.2.2.2.2.2.2.2.2.2.1, o.2.2.2.2.2.2.2.2.2.2.2.2.2.2.2.2.1, o.2.2.2.2.2.2.2.2.2.2.2.2.2.2.2.2.2.1, o.2.2.2.2.2.2.2.2.2.2.2.2.2.2.2.2.2.2.1, o.2.2.2.2.2.2.2.2.2.2.2.2.2.2.2.2.2.2.2.1, o.2.2.2.2.2.2.2.2.2.2.2.2.2.2.2.2.2.2.2.2.1, o.2.2.2.2.2.2.2.2.2.2.2.2.2.2.2.2.2.2.2.2.2.1, o.2.2.2.2.2.2.2.2.2.2.2.2.2.2.2.2.2.2.2.2.2.2.1, o.2.2.2.2.2.2.2.2.2.2.2.2.2.2.2.2.2.2.2.2.2.2.2.1, o.2.2.2.2.2.2.2.2.2.2.2.2.2.2.2.2.2.2.2.2.2.2.2.2)
def s_rxVal (o : Ob) (v : List Int32) : Ob := (o.1, o.2.1, o.2.2.1, o.2.2.2.1, o.2.2.2.2.1, o.2.2.2.2.2.1, v, o.2.2.2.2.2.2.2.1, o.2.2.2.2.2.2.2.2.1, o.2.2.2.2.2.2.2.2.2.1, o.2.2.2.2.2.2.2.2.2.2.1, o.2.2.2.2.2.2.2.2.2.2.2.1, o.2.2.2.2.2.2.2.2.2.2.2.2.1, o.2.2.2.2.2.2.2.2.2.2.2.2.2.1, o.2.2.2.2.2.2.2.2.2.2.2.2.2.2.1, o.2.2.2.2.2.2.2.2.2.2.2.2.2.2.2.1, o.2.2.2.2.2.2.2.2.2.2.2.2.2.2.2.2.1, o.2.2.2.2.2.2.2.2.2.2.2.2.2.2.2.2.2.1, o.2.2.2.2.2.2.2.2.2.2.2.2.2.2.2.2.2.2.1, o.2.2.2.2.2.2.2.2.2.2.2.2.2.2.2.2.2.2.2.1, o.2.2.2.2.2.2.2.2.2.2.2.2.2.2.2.2.2.2.2.2.1, o.2.2.2.2.2.2.2.2.2.2.2.2.2.2.2.2.2.2.2.2.2.1, o.2.2.2.2.2.2.2.2.2.2.2.2.2.2.2.2.2.2.2.2.2.2.1, o.2.2.2.2.2.2.2.2.2.2.2.2.2.2.2.2.2.2.2.2.2.2.2.1, o.2.2.2.2.2.2.2.2.2.2.2.2.2.2.2.2.2.2.2.2.2.2.2.2)
def s_rxNext (o : Ob) (v : List Int32) : Ob := (o.1, o.2.1, o.2.2.1, o.2.2.2.1, o.2.2.2.2.1, o.2.2.2.2.2.1, o.2.2.2.2.2.2.1, v, o.2.2.2.2.2.2.2.2.1, o.2.2.2.2.2.2.2.2.2.1, o.2.2.2.2.2.2.2.2.2.2.1, o.2.2.2.2.2.2.2.2.2.2.2.1, o.2.2.2.2.2.2.2.2.2.2.2.2.1, o.2.2.2.2.2.2.2.2.2.2.2.2.2.1, o.2.2.2.2.2.2.2.2.2.2.2.2.2.2.1, o.2.2.2.2.2.2.2.2.2.2.2.2.2.2.2.1, o.2.2.2.2.2.2.2.2.2.2.2.2.2.2.2.2.1, o.2.2.2.2.2.2.2.2.2.2.2.2.2.2.2.2.2.1, o.2.2.2.2.2.2.2.2.2.2.2.2.2.2.2.2.2.2.1, o.2.2.2.2.2.2.2.2.2.2.2.2.2.2.2.2.2.2.2.1, o.2.2.2.2.2.2.2.2.2.2.2.2.2.2.2.2.2.2.2.2.1, o.2.2.2.2.2.2.2.2.2.2.2.2.2.2.2.2.2.2.2.2.2.1, o.2.2.2.2.2.2.2.2.2.2.2.2.2.2.2.2.2.2.2.2.2.2.1, o.2.2.2.2.2.2.2.2.2.2.2.2.2.2.2.2.2.2.2.2.2.2.2.1, o.2.2.2.2.2.2.2.2.2.2.2.2.2.2.2.2.2.2.2.2.2.2.2.2)
def s_rxLead (o : Ob) (v : List Int32) : Ob := (o.1, o.2.1, o.2.2.1, o.2.2.2.1, o.2.2.2.2.1, o.2.2.2.2.2.1, o.2.2.2.2.2.2.1, o.2.2.2.2.2.2.2.1, v, o.2.2.2.2.2.2.2.2.2.1, o.2.2.2.2.2.2.2.2.2.2.1, o.2.2.2.2.2.2.2.2.2.2.2.1, o.2.2.2.2.2.2.2.2.2.2.2.2.1, o.2.2.2.2.2.2.2.2.2.2.2.2.2.1, o.2.2.2.2.2.2.2.2.2.2.2.2.2.2.1, o.2.2.2.2.2.2.2.2.2.2.2.2.2.2.2.1, o.2.2.2.2.2.2.2.2.2.2.2.2.2.2.2.2.1, o.2.2.2.2.2.2.2.2.2.2.2.2.2.2.2.2.2.1, o.2.2.2.2.2.2.2.2.2.2.2.2.2.2.2.2.2.2.1, o.2.2.2.2.2.2.2.2.2.2.2.2.2.2.2.2.2.2.2.1, o.2.2.2.2.2.2.2.2.2.2.2.2.2.2.2.2.2.2.2.2.1, o.2.2.2.2.2.2.2.2.2.2.2.2.2.2.2.2.2.2.2.2.2.1, o.2.2.2.2.2.2.2.2.2.2.2.2.2.2.2.2.2.2.2.2.2.2.1, o.2.2.2.2.2.2.2.2.2.2.2.2.2.2.2.2.2.2.2.2.2.2.2.1, o.2.2.2.2.2.2.2.2.2.2.2.2.2.2.2.2.2.2.2.2.2.2.2.2)
def s_rxTrail (o : Ob) (v : List Int32) : Ob := (o.1, o.2.1, o.2.2.1, o.2.2.2.1, o.2.2.2.2.1, o.2.2.2.2.2.1, o.2.2.2.2.2.2.1, o.2.2.2.2.2.2.2.1, o.2.2.2.2.2.2.2.2.1, v, o.2.2.2.2.2.2.2.2.2.2.1, o.2.2.2.2.2.2.2.2.2.2.2.1, o.2.2.2.2.2.2.2.2.2.2.2.2.1, o.2.2.2.2.2.2.2.2.2.2.2.2.2.1, o.2.2.2.2.2.2.2.2.2.2.2.2.2.2.1, o.2.2.2.2.2.2.2.2.2.2.2.2.2.2.2.1, o.2.2.2.2.2.2.2.2.2.2.2.2.2.2.2.2.1, o.2.2.2.2.2.2.2.2.2.2.2.2.2.2.2.2.2.1, o.2.2.2.2.2.2.2.2.2.2.2.2.2.2.2.2.2.2.1, o.2.2.2.2.2.2.2.2.2.2.2.2.2.2.2.2.2.2.2.1, o.2.2.2.2.2.2.2.2.2.2.2.2.2.2.2.2.2.2.2.2.1, o.2.2.2.2.2.2.2.2.2.2.2.2.2.2.2.2.2.2.2.2.2.1, o.2.2.2.2.2.2.2.2.2.2.2.2.2.2.2.2.2.2.2.2.2.2.1, o.2.2.2.2.2.2.2.2.2.2.2.2.2.2.2.2.2.2.2.2.2.2.2.1, o.2.2.2.2.2.2.2.2.2.2.2.2.2.2.2.2.2.2.2.2.2.2.2.2)
def s_lossLeft (o : Ob) (v : List Int32) : Ob := (o.1, o.2.1, o.2.2.1, o.2.2.2.1, o.2.2.2.2.1, o.2.2.2.2.2.1, o.2.2.2.2.2.2.1, o.2.2.2.2.2.2.2.1, o.2.2.2.2.2.2.2.2.1, o.2.2.2.2.2.2.2.2.2.1, v, o.2.2.2.2.2.2.2.2.2.2.2.1, o.2.2.2.2.2.2.2.2.2.2.2.2.1, o.2.2.2.2.2.2.2.2.2.2.2.2.2.1, o.2.2.2.2.2.2.2.2.2.2.2.2.2.2.1, o.2.2.2.2.2.2.2.2.2.2.2.2.2.2.2.1, o.2.2.2.2.2.2.2.2.2.2.2.2.2.2.2.2.1, o.2.2.2.2.2.2.2.2.2.2.2.2.2.2.2.2.2.1, o.2.2.2.2.2.2.2.2.2.2.2.2.2.2.2.2.2.2.1, o.2.2.2.2.2.2.2.2.2.2.2.2.2.2.2.2.2.2.2.1, o.2.2.2.2.2.2.2.2.2.2.2.2.2.2.2.2.2.2.2.2.1, o.2.2.2.2.2.2.2.2.2.2.2.2.2.2.2.2.2.2.2.2.2.1, o.2.2.2.2.2.2.2.2.2.2.2.2.2.2.2.2.2.2.2.2.2.2.1, o.2.2.2.2.2.2.2.2.2.2.2.2.2.2.2.2.2.2.2.2.2.2.2.1, o.2.2.2.2.2.2.2.2.2.2.2.2.2.2.2.2.2.2.2.2.2.2.2.2)
def s_dups (o : Ob) (v : List Int32) : Ob := (o.1, o.2.1, o.2.2.1, o.2.2.2.1, o.2.2.2.2.1, o.2.2.2.2.2.1, o.2.2.2.2.2.2.1, o.2.2.2.2.2.2.2.1, o.2.2.2.2.2.2.2.2.1, o.2.2.2.2.2.2.2.2.2.1, o.2.2.2.2.2.2.2.2.2.2.1, v, o.2.2.2.2.2.2.2.2.2.2.2.2.1, o.2.2.2.2.2.2.2.2.2.2.2.2.2.1, o.2.2.2.2.2.2.2.2.2.2.2.2.2.2.1, o.2.2.2.2.2.2.2.2.2.2.2.2.2.2.2.1, o.2.2.2.2.2.2.2.2.2.2.2.2.2.2.2.2.1, o.2.2.2.2.2.2.2.2.2.2.2.2.2.2.2.2.2.1, o.2.2.2.2.2.2.2.2.2.2.2.2.2.2.2.2.2.2.1, o.2.2.2.2.2.2.2.2.2.2.2.2.2.2.2.2.2.2.2.1, o.2.2.2.2.2.2.2.2.2.2.2.2.2.2.2.2.2.2.2.2.1, o.2.2.2.2.2.2.2.2.2.2.2.2.2.2.2.2.2.2.2.2.2.1, o.2.2.2.2.2.2.2.2.2.2.2.2.2.2.2.2.2.2.2.2.2.2.1, o.2.2.2.2.2.2.2.2.2.2.2.2.2.2.2.2.2.2.2.2.2.2.2.1, o.2.2.2.2.2.2.2.2.2.2.2.2.2.2.2.2.2.2.2.2.2.2.2.2)
def s_drops (o : Ob) (v : List Int32) : Ob := (o.1, o.2.1, o.2.2.1, o.2.2.2.1, o.2.2.2.2.1, o.2.2.2.2.2.1, o.2.2.2.2.2.2.1, o.2.2.2.2.2.2.2.1, o.2.2.2.2.2.2.2.2.1, o.2.2.2.2.2.2.2.2.2.1, o.2.2.2.2.2.2.2.2.2.2.1, o.2.2.2.2.2.2.2.2.2.2.2.1, v, o.2.2.2.2.2.2.2.2.2.2.2.2.2.1, o.2.2.2.2.2.2.2.2.2.2.2.2.2.2.1, o.2.2.2.2.2.2.2.2.2.2.2.2.2.2.2.1, o.2.2.2.2.2.2.2.2.2.2.2.2.2.2.2.2.1, o.2.2.2.2.2.2.2.2.2.2.2.2.2.2.2.2.2.1, o.2.2.2.2.2.2.2.2.2.2.2.2.2.2.2.2.2.2.1, o.2.2.2.2.2.2.2.2.2.2.2.2.2.2.2.2.2.2.2.1, o.2.2.2.2.2.2.2.2.2.2.2.2.2.2.2.2.2.2.2.2.1, o.2.2.2.2.2.2.2.2.2.2.2.2.2.2.2.2.2.2.2.2.2.1, o.2.2.2.2.2.2.2.2.2.2.2.2.2.2.2.2.2.2.2.2.2.2.1, o.2.2.2.2.2.2.2.2.2.2.2.2.2.2.2.2.2.2.2.2.2.2.2.1, o.2.2.2.2.2.2.2.2.2.2.2.2.2.2.2.2.2.2.2.2.2.2.2.2)
def s_delSeq (o : Ob) (v : List Int32) : Ob := (o.1, o.2.1, o.2.2.1, o.2.2.2.1, o.2.2.2.2.1, o.2.2.2.2.2.1, o.2.2.2.2.2.2.1, o.2.2.2.2.2.2.2.1, o.2.2.2.2.2.2.2.2.1, o.2.2.2.2.2.2.2.2.2.1, o.2.2.2.2.2.2.2.2.2.2.1, o.2.2.2.2.2.2.2.2.2.2.2.1, o.2.2.2.2.2.2.2.2.2.2.2.2.1, v, o.2.2.2.2.2.2.2.2.2.2.2.2.2.2.1, o.2.2.2.2.2.2.2.2.2.2.2.2.2.2.2.1, o.2.2.2.2.2.2.2.2.2.2.2.2.2.2.2.2.1, o.2.2.2.2.2.2.2.2.2.2.2.2.2.2.2.2.2.1, o.2.2.2.2.2.2.2.2.2.2.2.2.2.2.2.2.2.2.1, o.2.2.2.2.2.2.2.2.2.2.2.2.2.2.2.2.2.2.2.1, o.2.2.2.2.2.2.2.2.2.2.2.2.2.2.2.2.2.2.2.2.1, o.2.2.2.2.2.2.2.2.2.2.2.2.2.2.2.2.2.2.2.2.2.1, o.2.2.2.2.2.2.2.2.2.2.2.2.2.2.2.2.2.2.2.2.2.2.1, o.2.2.2.2.2.2.2.2.2.2.2.2.2.2.2.2.2.2.2.2.2.2.2.1, o.2.2.2.2.2.2.2.2.2.2.2.2.2.2.2.2.2.2.2.2.2.2.2.2)
def s_delVal (o : Ob) (v : List Int32) : Ob := (o.1, o.2.1, o.2.2.1, o.2.2.2.1, o.2.2.2.2.1, o.2.2.2.2.2.1, o.2.2.2.2.2.2.1, o.2.2.2.2.2.2.2.1, o.2.2.2.2.2.2.2.2.1, o.2.2.2.2.2.2.2.2.2.1, o.2.2.2.2.2.2.2.2.2.2.1, o.2.2.2.2.2.2.2.2.2.2.2.1, o.2.2.2.2.2.2.2.2.2.2.2.2.1, o.2.2.2.2.2.2.2.2.2.2.2.2.2.1, v, o.2.2.2.2.2.2.2.2.2.2.2.2.2.2.2.1, o.2.2.2.2.2.2.2.2.2.2.2.2.2.2.2.2.1, o.2.2.2.2.2.2.2.2.2.2.2.2.2.2.2.2.2.1, o.2.2.2.2.2.2.2.2.2.2.2.2.2.2.2.2.2.2.1, o.2.2.2.2.2.2.2.2.2.2.2.2.2.2.2.2.2.2.2.1, o.2.2.2.2.2.2.2.2.2.2.2.2.2.2.2.2.2.2.2.2.1, o.2.2.2.2.2.2.2.2.2.2.2.2.2.2.2.2.2.2.2.2.2.1, o.2.2.2.2.2.2.2.2.2.2.2.2.2.2.2.2.2.2.2.2.2.2.1, o.2.2.2.2.2.2.2.2.2.2.2.2.2.2.2.2.2.2.2.2.2.2.2.1, o.2.2.2.2.2.2.2.2.2.2.2.2.2.2.2.2.2.2.2.2.2.2.2.2)
def s_delLen (o : Ob) (v : List Int32) : Ob := (o.1, o.2.1, o.2.2.1, o.2.2.2.1, o.2.2.2.2.1, o.2.2.2.2.2.1, o.2.2.2.2.2.2.1, o.2.2.2.2.2.2.2.1, o.2.2.2.2.2.2.2.2.1, o.2.2.2.2.2.2.2.2.2.1, o.2.2.2.2.2.2.2.2.2.2.1, o.2.2.2.2.2.2.2.2.2.2.2.1, o.2.2.2.2.2.2.2.2.2.2.2.2.1, o.2.2.2.2.2.2.2.2.2.2.2.2.2.1, o.2.2.2.2.2.2.2.2.2.2.2.2.2.2.1, v, o.2.2.2.2.2.2.2.2.2.2.2.2.2.2.2.2.1, o.2.2.2.2.2.2.2.2.2.2.2.2.2.2.2.2.2.1, o.2.2.2.2.2.2.2.2.2.2.2.2.2.2.2.2.2.2.1, o.2.2.2.2.2.2.2.2.2.2.2.2.2.2.2.2.2.2.2.1, o.2.2.2.2.2.2.2.2.2.2.2.2.2.2.2.2.2.2.2.2.1, o.2.2.2.2.2.2.2.2.2.2.2.2.2.2.2.2.2.2.2.2.2.1, o.2.2.2.2.2.2.2.2.2.2.2.2.2.2.2.2.2.2.2.2.2.2.1, o.2.2.2.2.2.2.2.2.2.2.2.2.2.2.2.2.2.2.2.2.2.2.2.1, o.2.2.2.2.2.2.2.2.2.2.2.2.2.2.2.2.2.2.2.2.2.2.2.2)
def s_lostLog (o : Ob) (v : List Int32) : Ob := (o.1, o.2.1, o.2.2.1, o.2.2.2.1, o.2.2.2.2.1, o.2.2.2.2.2.1, o.2.2.2.2.2.2.1, o.2.2.2.2.2.2.2.1, o.2.2.2.2.2.2.2.2.1, o.2.2.2.2.2.2.2.2.2.1, o.2.2.2.2.2.2.2.2.2.2.1, o.2.2.2.2.2.2.2.2.2.2.2.1, o.2.2.2.2.2.2.2.2.2.2.2.2.1, o.2.2.2.2.2.2.2.2.2.2.2.2.2.1, o.2.2.2.2.2.2.2.2.2.2.2.2.2.2.1, o.2.2.2.2.2.2.2.2.2.2.2.2.2.2.2.1, v, o.2.2.2.2.2.2.2.2.2.2.2.2.2.2.2.2.2.1, o.2.2.2.2.2.2.2.2.2.2.2.2.2.2.2.2.2.2.1, o.2.2.2.2.2.2.2.2.2.2.2.2.2.2.2.2.2.2.2.1, o.2.2.2.2.2.2.2.2.2.2.2.2.2.2.2.2.2.2.2.2.1, o.2.2.2.2.2.2.2.2.2.2.2.2.2.2.2.2.2.2.2.2.2.1, o.2.2.2.2.2.2.2.2.2.2.2.2.2.2.2.2.2.2.2.2.2.2.1, o.2.2.2.2.2.2.2.2.2.2.2.2.2.2.2.2.2.2.2.2.2.2.2.1, o.2.2.2.2.2.2.2.2.2.2.2.2.2.2.2.2.2.2.2.2.2.2.2.2)
def s_lostLen (o : Ob) (v : List Int32) : Ob := (o.1, o.2.1, o.2.2.1, o.2.2.2.1, o.2.2.2.2.1, o.2.2.2.2.2.1, o.2.2.2.2.2.2.1, o.2.2.2.2.2.2.2.1, o.2.2.2.2.2.2.2.2.1, o.2.2.2.2.2.2.2.2.2.1, o.2.2.2.2.2.2.2.2.2.2.1, o.2.2.2.2.2.2.2.2.2.2.2.1, o.2.2.2.2.2.2.2.2.2.2.2.2.1, o.2.2.2.2.2.2.2.2.2.2.2.2.2.1, o.2.2.2.2.2.2.2.2.2.2.2.2.2.2.1, o.2.2.2.2.2.2.2.2.2.2.2.2.2.2.2.1, o.2.2.2.2.2.2.2.2.2.2.2.2.2.2.2.2.1, v, o.2.2.2.2.2.2.2.2.2.2.2.2.2.2.2.2.2.2.1, o.2.2.2.2.2.2.2.2.2.2.2.2.2.2.2.2.2.2.2.1, o.2.2.2.2.2.2.2.2.2.2.2.2.2.2.2.2.2.2.2.2.1, o.2.2.2.2.2.2.2.2.2.2.2.2.2.2.2.2.2.2.2.2.2.1, o.2.2.2.2.2.2.2.2.2.2.2.2.2.2.2.2.2.2.2.2.2.2.1, o.2.2.2.2.2.2.2.2.2.2.2.2.2.2.2.2.2.2.2.2.2.2.2.1, o.2.2.2.2.2.2.2.2.2.2.2.2.2.2.2.2.2.2.2.2.2.2.2.2)
def s_nakBuf (o : Ob) (v : List Int32) : Ob := (o.1, o.2.1, o.2.2.1, o.2.2.2.1, o.2.2.2.2.1, o.2.2.2.2.2.1, o.2.2.2.2.2.2.1, o.2.2.2.2.2.2.2.1, o.2.2.2.2.2.2.2.2.1, o.2.2.2.2.2.2.2.2.2.1, o.2.2.2.2.2.2.2.2.2.2.1, o.2.2.2.2.2.2.2.2.2.2.2.1, o.2.2.2.2.2.2.2.2.2.2.2.2.1, o.2.2.2.2.2.2.2.2.2.2.2.2.2.1, o.2.2.2.2.2.2.2.2.2.2.2.2.2.2.1, o.2.2.2.2.2.2.2.2.2.2.2.2.2.2.2.1, o.2.2.2.2.2.2.2.2.2.2.2.2.2.2.2.2.1, o.2.2.2.2.2.2.2.2.2.2.2.2.2.2.2.2.2.1, v, o.2.2.2.2.2.2.2.2.2.2.2.2.2.2.2.2.2.2.2.1, o.2.2.2.2.2.2.2.2.2.2.2.2.2.2.2.2.2.2.2.2.1, o.2.2.2.2.2.2.2.2.2.2.2.2.2.2.2.2.2.2.2.2.2.1, o.2.2.2.2.2.2.2.2.2.2.2.2.2.2.2.2.2.2.2.2.2.2.1, o.2.2.2.2.2.2.2.2.2.2.2.2.2.2.2.2.2.2.2.2.2.2.2.1, o.2.2.2.2.2.2.2.2.2.2.2.2.2.2.2.2.2.2.2.2.2.2.2.2)
def s_win (o : Ob) (v : Int32) : Ob := (o.1, o.2.1, o.2.2.1, o.2.2.2.1, o.2.2.2.2.1, o.2.2.2.2.2.1, o.2.2.2.2.2.2.1, o.2.2.2.2.2.2.2.1, o.2.2.2.2.2.2.2.2.1, o.2.2.2.2.2.2.2.2.2.1, o.2.2.2.2.2.2.2.2.2.2.1, o.2.2.2.2.2.2.2.2.2.2.2.1, o.2.2.2.2.2.2.2.2.2.2.2.2.1, o.2.2.2.2.2.2.2.2.2.2.2.2.2.1, o.2.2.2.2.2.2.2.2.2.2.2.2.2.2.1, o.2.2.2.2.2.2.2.2.2.2.2.2.2.2.2.1, o.2.2.2.2.2.2.2.2.2.2.2.2.2.2.2.2.1, o.2.2.2.2.2.2.2.2.2.2.2.2.2.2.2.2.2.1, o.2.2.2.2.2.2.2.2.2.2.2.2.2.2.2.2.2.2.1, v, o.2.2.2.2.2.2.2.2.2.2.2.2.2.2.2.2.2.2.2.2.1, o.2.2.2.2.2.2.2.2.2.2.2.2.2.2.2.2.2.2.2.2.2.1, o.2.2.2.2.2.2.2.2.2.2.2.2.2.2.2.2.2.2.2.2.2.2.1, o.2.2.2.2.2.2.2.2.2.2.2.2.2.2.2.2.2.2.2.2.2.2.2.1, o.2.2.2.2.2.2.2.2.2.2.2.2.2.2.2.2.2.2.2.2.2.2.2.2)
def s_back (o : Ob) (v : Int32) : Ob := (o.1, o.2.1, o.2.2.1, o.2.2.2.1, o.2.2.2.2.1, o.2.2.2.2.2.1, o.2.2.2.2.2.2.1, o.2.2.2.2.2.2.2.1, o.2.2.2.2.2.2.2.2.1, o.2.2.2.2.2.2.2.2.2.1, o.2.2.2.2.2.2.2.2.2.2.1, o.2.2.2.2.2.2.2.2.2.2.2.1, o.2.2.2.2.2.2.2.2.2.2.2.2.1, o.2.2.2.2.2.2.2.2.2.2.2.2.2.1, o.2.2.2.2.2.2.2.2.2.2.2.2.2.2.1, o.2.2.2.2.2.2.2.2.2.2.2.2.2.2.2.1, o.2.2.2.2.2.2.2.2.2.2.2.2.2.2.2.2.1, o.2.2.2.2.2.2.2.2.2.2.2.2.2.2.2.2.2.1, o.2.2.2.2.2.2.2.2.2.2.2.2.2.2.2.2.2.2.1, o.2.2.2.2.2.2.2.2.2.2.2.2.2.2.2.2.2.2.2.1, v, o.2.2.2.2.2.2.2.2.2.2.2.2.2.2.2.2.2.2.2.2.2.1, o.2.2.2.2.2.2.2.2.2.2.2.2.2.2.2.2.2.2.2.2.2.2.1, o.2.2.2.2.2.2.2.2.2.2.2.2.2.2.2.2.2.2.2.2.2.2.2.1, o.2.2.2.2.2.2.2.2.2.2.2.2.2.2.2.2.2.2.2.2.2.2.2.2)
def s_repair (o : Ob) (v : Int32) : Ob := (o.1, o.2.1, o.2.2.1, o.2.2.2.1, o.2.2.2.2.1, o.2.2.2.2.2.1, o.2.2.2.2.2.2.1, o.2.2.2.2.2.2.2.1, o.2.2.2.2.2.2.2.2.1, o.2.2.2.2.2.2.2.2.2.1, o.2.2.2.2.2.2.2.2.2.2.1, o.2.2.2.2.2.2.2.2.2.2.2.1, o.2.2.2.2.2.2.2.2.2.2.2.2.1, o.2.2.2.2.2.2.2.2.2.2.2.2.2.1, o.2.2.2.2.2.2.2.2.2.2.2.2.2.2.1, o.2.2.2.2.2.2.2.2.2.2.2.2.2.2.2.1, o.2.2.2.2.2.2.2.2.2.2.2.2.2.2.2.2.1, o.2.2.2.2.2.2.2.2.2.2.2.2.2.2.2.2.2.1, o.2.2.2.2.2.2.2.2.2.2.2.2.2.2.2.2.2.2.1, o.2.2.2.2.2.2.2.2.2.2.2.2.2.2.2.2.2.2.2.1, o.2.2.2.2.2.2.2.2.2.2.2.2.2.2.2.2.2.2.2.2.1, v, o.2.2.2.2.2.2.2.2.2.2.2.2.2.2.2.2.2.2.2.2.2.2.1, o.2.2.2.2.2.2.2.2.2.2.2.2.2.2.2.2.2.2.2.2.2.2.2.1, o.2.2.2.2.2.2.2.2.2.2.2.2.2.2.2.2.2.2.2.2.2.2.2.2)
def s_period (o : Ob) (v : Int32) : Ob := (o.1, o.2.1, o.2.2.1, o.2.2.2.1, o.2.2.2.2.1, o.2.2.2.2.2.1, o.2.2.2.2.2.2.1, o.2.2.2.2.2.2.2.1, o.2.2.2.2.2.2.2.2.1, o.2.2.2.2.2.2.2.2.2.1, o.2.2.2.2.2.2.2.2.2.2.1, o.2.2.2.2.2.2.2.2.2.2.2.1, o.2.2.2.2.2.2.2.2.2.2.2.2.1, o.2.2.2.2.2.2.2.2.2.2.2.2.2.1, o.2.2.2.2.2.2.2.2.2.2.2.2.2.2.1, o.2.2.2.2.2.2.2.2.2.2.2.2.2.2.2.1, o.2.2.2.2.2.2.2.2.2.2.2.2.2.2.2.2.1, o.2.2.2.2.2.2.2.2.2.2.2.2.2.2.2.2.2.1, o.2.2.2.2.2.2.2.2.2.2.2.2.2.2.2.2.2.2.1, o.2.2.2.2.2.2.2.2.2.2.2.2.2.2.2.2.2.2.2.1, o.2.2.2.2.2.2.2.2.2.2.2.2.2.2.2.2.2.2.2.2.1, o.2.2.2.2.2.2.2.2.2.2.2.2.2.2.2.2.2.2.2.2.2.1, v, o.2.2.2.2.2.2.2.2.2.2.2.2.2.2.2.2.2.2.2.2.2.2.2.1, o.2.2.2.2.2.2.2.2.2.2.2.2.2.2.2.2.2.2.2.2.2.2.2.2)
def s_nextSeq (o : Ob) (v : Int32) : Ob := (o.1, o.2.1, o.2.2.1, o.2.2.2.1, o.2.2.2.2.1, o.2.2.2.2.2.1, o.2.2.2.2.2.2.1, o.2.2.2.2.2.2.2.1, o.2.2.2.2.2.2.2.2.1, o.2.2.2.2.2.2.2.2.2.1, o.2.2.2.2.2.2.2.2.2.2.1, o.2.2.2.2.2.2.2.2.2.2.2.1, o.2.2.2.2.2.2.2.2.2.2.2.2.1, o.2.2.2.2.2.2.2.2.2.2.2.2.2.1, o.2.2.2.2.2.2.2.2.2.2.2.2.2.2.1, o.2.2.2.2.2.2.2.2.2.2.2.2.2.2.2.1, o.2.2.2.2.2.2.2.2.2.2.2.2.2.2.2.2.1, o.2.2.2.2.2.2.2.2.2.2.2.2.2.2.2.2.2.1, o.2.2.2.2.2.2.2.2.2.2.2.2.2.2.2.2.2.2.1, o.2.2.2.2.2.2.2.2.2.2.2.2.2.2.2.2.2.2.2.1, o.2.2.2.2.2.2.2.2.2.2.2.2.2.2.2.2.2.2.2.2.1, o.2.2.2.2.2.2.2.2.2.2.2.2.2.2.2.2.2.2.2.2.2.1, o.2.2.2.2.2.2.2.2.2.2.2.2.2.2.2.2.2.2.2.2.2.2.1, v, o.2.2.2.2.2.2.2.2.2.2.2.2.2.2.2.2.2.2.2.2.2.2.2.2)
def s_qLen (o : Ob) (v : Int32) : Ob := (o.1, o.2.1, o.2.2.1, o.2.2.2.1, o.2.2.2.2.1, o.2.2.2.2.2.1, o.2.2.2.2.2.2.1, o.2.2.2.2.2.2.2.1, o.2.2.2.2.2.2.2.2.1, o.2.2.2.2.2.2.2.2.2.1, o.2.2.2.2.2.2.2.2.2.2.1, o.2.2.2.2.2.2.2.2.2.2.2.1, o.2.2.2.2.2.2.2.2.2.2.2.2.1, o.2.2.2.2.2.2.2.2.2.2.2.2.2.1, o.2.2.2.2.2.2.2.2.2.2.2.2.2.2.1, o.2.2.2.2.2.2.2.2.2.2.2.2.2.2.2.1, o.2.2.2.2.2.2.2.2.2.2.2.2.2.2.2.2.1, o.2.2.2.2.2.2.2.2.2.2.2.2.2.2.2.2.2.1, o.2.2.2.2.2.2.2.2.2.2.2.2.2.2.2.2.2.2.1, o.2.2.2.2.2.2.2.2.2.2.2.2.2.2.2.2.2.2.2.1, o.2.2.2.2.2.2.2.2.2.2.2.2.2.2.2.2.2.2.2.2.1, o.2.2.2.2.2.2.2.2.2.2.2.2.2.2.2.2.2.2.2.2.2.1, o.2.2.2.2.2.2.2.2.2.2.2.2.2.2.2.2.2.2.2.2.2.2.1, o.2.2.2.2.2.2.2.2.2.2.2.2.2.2.2.2.2.2.2.2.2.2.2.1, v)
def ob0 : Ob := ([], [], [], [], [], [], [], [], [], [], [], [], [], [], [], [], [], [], [], 0, 0, 0, 0, 0, 0)
section Walks
variable {l : Launch} {Z : State} {n0 : Nat} {ad : Nat → Addr} {a0 : Array Value}
set_option maxRecDepth 20000
def H0 (o0 : Ob) : QHeap := [.inl [.ref 1, .ref 2, .ref 3, .ref 4, .ref 5, .ref 6, .ref 7, .ref 8, .ref 9, .ref 10, .ref 11, .ref 12, .ref 13, .ref 14, .ref 15, .ref 16, .ref 17, .ref 18, .ref 19, .int (f_win o0), .int (f_back o0), .int (f_repair o0), .int (f_period o0), .int (f_nextSeq o0), .int (f_qLen o0)], .inr (.inl (.int, (f_srcPayload o0))), .inr (.inl (.boolean, (f_pend o0))), .inr (.inl (.int, (f_queue o0))), .inr (.inl (.int, (f_stats o0))), .inr (.inl (.int, (f_state o0))), .inr (.inl (.int, (f_timer o0))), .inr (.inl (.int, (f_rxVal o0))), .inr (.inl (.int, (f_rxNext o0))), .inr (.inl (.int, (f_rxLead o0))), .inr (.inl (.int, (f_rxTrail o0))), .inr (.inl (.int, (f_lossLeft o0))), .inr (.inl (.int, (f_dups o0))), .inr (.inl (.int, (f_drops o0))), .inr (.inl (.int, (f_delSeq o0))), .inr (.inl (.int, (f_delVal o0))), .inr (.inl (.int, (f_delLen o0))), .inr (.inl (.int, (f_lostLog o0))), .inr (.inl (.int, (f_lostLen o0))), .inr (.inl (.int, (f_nakBuf o0)))]
/-- clamp(III)I -/
def F2 (x1 : Int32) (x2 : Int32) (x3 : Int32) : Option (Int32) :=
  (if x1 < x2 then some x2 else (if x3 < x1 then some x3 else some x1))
theorem tF2 (Ad : QAd n0 ad) (W : QW Z a0) {a : Nat} {σ : QHeap} (x1 : Int32) (x2 : Int32) (x3 : Int32) {r : Int32} (h : F2 x1 x2 x3 = some r) : QTri l Z n0 ad 2 (0, qentry [.ref a, .int x1, .int x2, .int x3] (pMaxL 2), [], σ) (some (Value.int r)) σ := by
  unfold F2 at h
  refine QTri.steps Ad W 2 (st' := (2, [some (.ref a), some (.int x1), some (.int x2), some (.int x3)], [.int x2, .int x1], σ)) rfl ?_
  rcases qite h with ⟨hc1, h⟩ | ⟨hc1, h⟩
  · refine QTri.brF Ad W (t := 7) (f := 5) (L := [some (.ref a), some (.int x1), some (.int x2), some (.int x3)]) (S := []) (σ := σ) rfl (XT.ii_ge_f hc1) ?_
    refine QTri.steps Ad W 1 (st' := (6, [some (.ref a), some (.int x1), some (.int x2), some (.int x3)], [.int x2], σ)) rfl ?_
    obtain rfl := Option.some.inj h
    exact QTri.retI rfl rfl
  · refine QTri.brT Ad W (t := 7) (f := 5) (L := [some (.ref a), some (.int x1), some (.int x2), some (.int x3)]) (S := []) (σ := σ) rfl (XT.ii_ge_t hc1) ?_
    refine QTri.steps Ad W 2 (st' := (9, [some (.ref a), some (.int x1), some (.int x2), some (.int x3)], [.int x3, .int x1], σ)) rfl ?_
    rcases qite h with ⟨hc2, h⟩ | ⟨hc2, h⟩
    · refine QTri.brF Ad W (t := 14) (f := 12) (L := [some (.ref a), some (.int x1), some (.int x2), some (.int x3)]) (S := []) (σ := σ) rfl (XT.ii_le_f hc2) ?_
      refine QTri.steps Ad W 1 (st' := (13, [some (.ref a), some (.int x1), some (.int x2), some (.int x3)], [.int x3], σ)) rfl ?_
      obtain rfl := Option.some.inj h
      exact QTri.retI rfl rfl
    · refine QTri.brT Ad W (t := 14) (f := 12) (L := [some (.ref a), some (.int x1), some (.int x2), some (.int x3)]) (S := []) (σ := σ) rfl (XT.ii_le_t hc2) ?_
      refine QTri.steps Ad W 1 (st' := (15, [some (.ref a), some (.int x1), some (.int x2), some (.int x3)], [.int x1], σ)) rfl ?_
      obtain rfl := Option.some.inj h
      exact QTri.retI rfl rfl
def B1_207 (v : Int32 × Ob) : Option (((Ob)) ⊕ (Int32 × Ob)) :=
  (if v.1 < (4 : Int32) then (aset (f_rxLead v.2) v.1 (-1 : Int32)).bind fun y9 => some (.inr ((v.1 + (1 : Int32)), (s_rxLead v.2 y9))) else some (.inl v.2))
theorem tB1_207 (Ad : QAd n0 ad) (W : QW Z a0) (v : Int32 × Ob) {r : ((Ob)) ⊕ (Int32 × Ob)} {u : Option Value} {τ : QHeap} (h : B1_207 v = some r) (hx0 : ∀ x : Ob, r = .inl x → u = (none : Option Value) ∧ τ = (H0 x)) (hc : ∀ x : Int32 × Ob, r = .inr x → QTri l Z n0 ad 1 (207, [some (.ref 0), none, none, none, none, some (.int x.1)], [], (H0 x.2)) u τ) : QTri l Z n0 ad 1 (207, [some (.ref 0), none, none, none, none, some (.int v.1)], [], (H0 v.2)) u τ := by
  unfold B1_207 at h
  refine QTri.steps Ad W 2 (st' := (210, [some (.ref 0), none, none, none, none, some (.int v.1)], [.int (4 : Int32), .int v.1], (H0 v.2))) rfl ?_
  rcases qite h with ⟨hc8, h⟩ | ⟨hc8, h⟩
  · refine QTri.brF Ad W (t := 227) (f := 213) (L := [some (.ref 0), none, none, none, none, some (.int v.1)]) (S := []) (σ := (H0 v.2)) rfl (XT.ii_ge_f hc8) ?_
    refine QTri.steps Ad W 4 (st' := (220, [some (.ref 0), none, none, none, none, some (.int v.1)], [.int (-1 : Int32), .int v.1, .ref 9], (H0 v.2))) rfl ?_
    obtain ⟨y9, hy9, h⟩ := Option.bind_eq_some_iff.mp h
    refine QTri.bnd Ad W (f := fun y9 => (221, [some (.ref 0), none, none, none, none, some (.int v.1)], [], [.inl [.ref 1, .ref 2, .ref 3, .ref 4, .ref 5, .ref 6, .ref 7, .ref 8, .ref 9, .ref 10, .ref 11, .ref 12, .ref 13, .ref 14, .ref 15, .ref 16, .ref 17, .ref 18, .ref 19, .int (f_win v.2), .int (f_back v.2), .int (f_repair v.2), .int (f_period v.2), .int (f_nextSeq v.2), .int (f_qLen v.2)], .inr (.inl (.int, (f_srcPayload v.2))), .inr (.inl (.boolean, (f_pend v.2))), .inr (.inl (.int, (f_queue v.2))), .inr (.inl (.int, (f_stats v.2))), .inr (.inl (.int, (f_state v.2))), .inr (.inl (.int, (f_timer v.2))), .inr (.inl (.int, (f_rxVal v.2))), .inr (.inl (.int, (f_rxNext v.2))), .inr (.inl (.int, y9)), .inr (.inl (.int, (f_rxTrail v.2))), .inr (.inl (.int, (f_lossLeft v.2))), .inr (.inl (.int, (f_dups v.2))), .inr (.inl (.int, (f_drops v.2))), .inr (.inl (.int, (f_delSeq v.2))), .inr (.inl (.int, (f_delVal v.2))), .inr (.inl (.int, (f_delLen v.2))), .inr (.inl (.int, (f_lostLog v.2))), .inr (.inl (.int, (f_lostLen v.2))), .inr (.inl (.int, (f_nakBuf v.2)))])) rfl hy9 ?_
    refine QTri.steps Ad W 2 (st' := (207, [some (.ref 0), none, none, none, none, some (.int (v.1 + (1 : Int32)))], [], [.inl [.ref 1, .ref 2, .ref 3, .ref 4, .ref 5, .ref 6, .ref 7, .ref 8, .ref 9, .ref 10, .ref 11, .ref 12, .ref 13, .ref 14, .ref 15, .ref 16, .ref 17, .ref 18, .ref 19, .int (f_win v.2), .int (f_back v.2), .int (f_repair v.2), .int (f_period v.2), .int (f_nextSeq v.2), .int (f_qLen v.2)], .inr (.inl (.int, (f_srcPayload v.2))), .inr (.inl (.boolean, (f_pend v.2))), .inr (.inl (.int, (f_queue v.2))), .inr (.inl (.int, (f_stats v.2))), .inr (.inl (.int, (f_state v.2))), .inr (.inl (.int, (f_timer v.2))), .inr (.inl (.int, (f_rxVal v.2))), .inr (.inl (.int, (f_rxNext v.2))), .inr (.inl (.int, y9)), .inr (.inl (.int, (f_rxTrail v.2))), .inr (.inl (.int, (f_lossLeft v.2))), .inr (.inl (.int, (f_dups v.2))), .inr (.inl (.int, (f_drops v.2))), .inr (.inl (.int, (f_delSeq v.2))), .inr (.inl (.int, (f_delVal v.2))), .inr (.inl (.int, (f_delLen v.2))), .inr (.inl (.int, (f_lostLog v.2))), .inr (.inl (.int, (f_lostLen v.2))), .inr (.inl (.int, (f_nakBuf v.2)))])) rfl ?_
    have E10 : ([.inl [.ref 1, .ref 2, .ref 3, .ref 4, .ref 5, .ref 6, .ref 7, .ref 8, .ref 9, .ref 10, .ref 11, .ref 12, .ref 13, .ref 14, .ref 15, .ref 16, .ref 17, .ref 18, .ref 19, .int (f_win v.2), .int (f_back v.2), .int (f_repair v.2), .int (f_period v.2), .int (f_nextSeq v.2), .int (f_qLen v.2)], .inr (.inl (.int, (f_srcPayload v.2))), .inr (.inl (.boolean, (f_pend v.2))), .inr (.inl (.int, (f_queue v.2))), .inr (.inl (.int, (f_stats v.2))), .inr (.inl (.int, (f_state v.2))), .inr (.inl (.int, (f_timer v.2))), .inr (.inl (.int, (f_rxVal v.2))), .inr (.inl (.int, (f_rxNext v.2))), .inr (.inl (.int, y9)), .inr (.inl (.int, (f_rxTrail v.2))), .inr (.inl (.int, (f_lossLeft v.2))), .inr (.inl (.int, (f_dups v.2))), .inr (.inl (.int, (f_drops v.2))), .inr (.inl (.int, (f_delSeq v.2))), .inr (.inl (.int, (f_delVal v.2))), .inr (.inl (.int, (f_delLen v.2))), .inr (.inl (.int, (f_lostLog v.2))), .inr (.inl (.int, (f_lostLen v.2))), .inr (.inl (.int, (f_nakBuf v.2)))] : QHeap) = (H0 (s_rxLead v.2 y9)) := by dsimp only [H0, f_srcPayload, f_pend, f_queue, f_stats, f_state, f_timer, f_rxVal, f_rxNext, f_rxLead, f_rxTrail, f_lossLeft, f_dups, f_drops, f_delSeq, f_delVal, f_delLen, f_lostLog, f_lostLen, f_nakBuf, f_win, f_back, f_repair, f_period, f_nextSeq, f_qLen, s_rxLead]
    rw [E10]
    obtain rfl := Option.some.inj h
    exact QTri.mask [true, false, false, false, false, true] (hc ((v.1 + (1 : Int32)), (s_rxLead v.2 y9)) rfl)
  · refine QTri.brT Ad W (t := 227) (f := 213) (L := [some (.ref 0), none, none, none, none, some (.int v.1)]) (S := []) (σ := (H0 v.2)) rfl (XT.ii_ge_t hc8) ?_
    obtain rfl := Option.some.inj h
    obtain ⟨rfl, rfl⟩ := hx0 v.2 rfl
    exact QTri.ret0 rfl rfl
/-- init(IIII)V -/
def F1 (x1 : Int32) (x2 : Int32) (x3 : Int32) (x4 : Int32) : Option (Ob) :=
  (F2 x1 (2 : Int32) (16 : Int32)).bind fun r3 => (F2 x2 (1 : Int32) (8 : Int32)).bind fun r4 => (F2 x3 (1 : Int32) (8 : Int32)).bind fun r5 => (F2 x4 (0 : Int32) (16 : Int32)).bind fun r6 => (loopN (B1_207) qN ((0 : Int32), (s_period (s_repair (s_back (s_win (s_nakBuf (s_lostLen (s_lostLog (s_delLen (s_delVal (s_delSeq (s_drops (s_dups (s_lossLeft (s_rxTrail (s_rxLead (s_rxNext (s_rxVal (s_timer (s_state (s_stats (s_queue (s_pend (s_srcPayload ob0 (List.replicate 32 0)) (List.replicate 32 0)) (List.replicate 64 0)) (List.replicate 10 0)) (List.replicate 128 0)) (List.replicate 128 0)) (List.replicate 128 0)) (List.replicate 4 0)) (List.replicate 4 0)) (List.replicate 4 0)) (List.replicate 4 0)) (List.replicate 4 0)) (List.replicate 4 0)) (List.replicate 128 0)) (List.replicate 128 0)) (List.replicate 4 0)) (List.replicate 128 0)) (List.replicate 4 0)) (List.replicate 128 0)) r3) r4) r5) r6))).bind fun e11 => some e11
theorem tF1 (Ad : QAd n0 ad) (W : QW Z a0) (x1 : Int32) (x2 : Int32) (x3 : Int32) (x4 : Int32) {r : Ob} (h : F1 x1 x2 x3 x4 = some r) : QTri l Z n0 ad 1 (0, qentry [.ref 0, .int x1, .int x2, .int x3, .int x4] (pMaxL 1), [], [.inl [.null, .null, .null, .null, .null, .null, .null, .null, .null, .null, .null, .null, .null, .null, .null, .null, .null, .null, .null, .int (f_win ob0), .int (f_back ob0), .int (f_repair ob0), .int (f_period ob0), .int (f_nextSeq ob0), .int (f_qLen ob0)]]) (none : Option Value) (H0 r) := by
  unfold F1 at h
  refine QTri.steps Ad W 1 (st' := (1, [some (.ref 0), some (.int x1), some (.int x2), some (.int x3), some (.int x4), none], [.ref 0], [.inl [.null, .null, .null, .null, .null, .null, .null, .null, .null, .null, .null, .null, .null, .null, .null, .null, .null, .null, .null, .int (f_win ob0), .int (f_back ob0), .int (f_repair ob0), .int (f_period ob0), .int (f_nextSeq ob0), .int (f_qLen ob0)]])) rfl ?_
  refine QTri.callO W rfl rfl rfl ?_
  refine QTri.steps Ad W 3 (st' := (9, [some (.ref 0), some (.int x1), some (.int x2), some (.int x3), some (.int x4), none], [.ref 1, .ref 0], [.inl [.null, .null, .null, .null, .null, .null, .null, .null, .null, .null, .null, .null, .null, .null, .null, .null, .null, .null, .null, .int (f_win ob0), .int (f_back ob0), .int (f_repair ob0), .int (f_period ob0), .int (f_nextSeq ob0), .int (f_qLen ob0)], .inr (.inl (.int, (List.replicate 32 0)))])) rfl ?_
  refine QTri.steps Ad W 1 (st' := (12, [some (.ref 0), some (.int x1), some (.int x2), some (.int x3), some (.int x4), none], [], [.inl [.ref 1, .null, .null, .null, .null, .null, .null, .null, .null, .null, .null, .null, .null, .null, .null, .null, .null, .null, .null, .int (f_win ob0), .int (f_back ob0), .int (f_repair ob0), .int (f_period ob0), .int (f_nextSeq ob0), .int (f_qLen ob0)], .inr (.inl (.int, (List.replicate 32 0)))])) rfl ?_
  refine QTri.steps Ad W 3 (st' := (17, [some (.ref 0), some (.int x1), some (.int x2), some (.int x3), some (.int x4), none], [.ref 2, .ref 0], [.inl [.ref 1, .null, .null, .null, .null, .null, .null, .null, .null, .null, .null, .null, .null, .null, .null, .null, .null, .null, .null, .int (f_win ob0), .int (f_back ob0), .int (f_repair ob0), .int (f_period ob0), .int (f_nextSeq ob0), .int (f_qLen ob0)], .inr (.inl (.int, (List.replicate 32 0))), .inr (.inl (.boolean, (List.replicate 32 0)))])) rfl ?_
  refine QTri.steps Ad W 1 (st' := (20, [some (.ref 0), some (.int x1), some (.int x2), some (.int x3), some (.int x4), none], [], [.inl [.ref 1, .ref 2, .null, .null, .null, .null, .null, .null, .null, .null, .null, .null, .null, .null, .null, .null, .null, .null, .null, .int (f_win ob0), .int (f_back ob0), .int (f_repair ob0), .int (f_period ob0), .int (f_nextSeq ob0), .int (f_qLen ob0)], .inr (.inl (.int, (List.replicate 32 0))), .inr (.inl (.boolean, (List.replicate 32 0)))])) rfl ?_
  refine QTri.steps Ad W 3 (st' := (25, [some (.ref 0), some (.int x1), some (.int x2), some (.int x3), some (.int x4), none], [.ref 3, .ref 0], [.inl [.ref 1, .ref 2, .null, .null, .null, .null, .null, .null, .null, .null, .null, .null, .null, .null, .null, .null, .null, .null, .null, .int (f_win ob0), .int (f_back ob0), .int (f_repair ob0), .int (f_period ob0), .int (f_nextSeq ob0), .int (f_qLen ob0)], .inr (.inl (.int, (List.replicate 32 0))), .inr (.inl (.boolean, (List.replicate 32 0))), .inr (.inl (.int, (List.replicate 64 0)))])) rfl ?_
  refine QTri.steps Ad W 1 (st' := (28, [some (.ref 0), some (.int x1), some (.int x2), some (.int x3), some (.int x4), none], [], [.inl [.ref 1, .ref 2, .ref 3, .null, .null, .null, .null, .null, .null, .null, .null, .null, .null, .null, .null, .null, .null, .null, .null, .int (f_win ob0), .int (f_back ob0), .int (f_repair ob0), .int (f_period ob0), .int (f_nextSeq ob0), .int (f_qLen ob0)], .inr (.inl (.int, (List.replicate 32 0))), .inr (.inl (.boolean, (List.replicate 32 0))), .inr (.inl (.int, (List.replicate 64 0)))])) rfl ?_
  refine QTri.steps Ad W 3 (st' := (33, [some (.ref 0), some (.int x1), some (.int x2), some (.int x3), some (.int x4), none], [.ref 4, .ref 0], [.inl [.ref 1, .ref 2, .ref 3, .null, .null, .null, .null, .null, .null, .null, .null, .null, .null, .null, .null, .null, .null, .null, .null, .int (f_win ob0), .int (f_back ob0), .int (f_repair ob0), .int (f_period ob0), .int (f_nextSeq ob0), .int (f_qLen ob0)], .inr (.inl (.int, (List.replicate 32 0))), .inr (.inl (.boolean, (List.replicate 32 0))), .inr (.inl (.int, (List.replicate 64 0))), .inr (.inl (.int, (List.replicate 10 0)))])) rfl ?_
  refine QTri.steps Ad W 1 (st' := (36, [some (.ref 0), some (.int x1), some (.int x2), some (.int x3), some (.int x4), none], [], [.inl [.ref 1, .ref 2, .ref 3, .ref 4, .null, .null, .null, .null, .null, .null, .null, .null, .null, .null, .null, .null, .null, .null, .null, .int (f_win ob0), .int (f_back ob0), .int (f_repair ob0), .int (f_period ob0), .int (f_nextSeq ob0), .int (f_qLen ob0)], .inr (.inl (.int, (List.replicate 32 0))), .inr (.inl (.boolean, (List.replicate 32 0))), .inr (.inl (.int, (List.replicate 64 0))), .inr (.inl (.int, (List.replicate 10 0)))])) rfl ?_
  refine QTri.steps Ad W 3 (st' := (42, [some (.ref 0), some (.int x1), some (.int x2), some (.int x3), some (.int x4), none], [.ref 5, .ref 0], [.inl [.ref 1, .ref 2, .ref 3, .ref 4, .null, .null, .null, .null, .null, .null, .null, .null, .null, .null, .null, .null, .null, .null, .null, .int (f_win ob0), .int (f_back ob0), .int (f_repair ob0), .int (f_period ob0), .int (f_nextSeq ob0), .int (f_qLen ob0)], .inr (.inl (.int, (List.replicate 32 0))), .inr (.inl (.boolean, (List.replicate 32 0))), .inr (.inl (.int, (List.replicate 64 0))), .inr (.inl (.int, (List.replicate 10 0))), .inr (.inl (.int, (List.replicate 128 0)))])) rfl ?_
  refine QTri.steps Ad W 1 (st' := (45, [some (.ref 0), some (.int x1), some (.int x2), some (.int x3), some (.int x4), none], [], [.inl [.ref 1, .ref 2, .ref 3, .ref 4, .ref 5, .null, .null, .null, .null, .null, .null, .null, .null, .null, .null, .null, .null, .null, .null, .int (f_win ob0), .int (f_back ob0), .int (f_repair ob0), .int (f_period ob0), .int (f_nextSeq ob0), .int (f_qLen ob0)], .inr (.inl (.int, (List.replicate 32 0))), .inr (.inl (.boolean, (List.replicate 32 0))), .inr (.inl (.int, (List.replicate 64 0))), .inr (.inl (.int, (List.replicate 10 0))), .inr (.inl (.int, (List.replicate 128 0)))])) rfl ?_
  refine QTri.steps Ad W 3 (st' := (51, [some (.ref 0), some (.int x1), some (.int x2), some (.int x3), some (.int x4), none], [.ref 6, .ref 0], [.inl [.ref 1, .ref 2, .ref 3, .ref 4, .ref 5, .null, .null, .null, .null, .null, .null, .null, .null, .null, .null, .null, .null, .null, .null, .int (f_win ob0), .int (f_back ob0), .int (f_repair ob0), .int (f_period ob0), .int (f_nextSeq ob0), .int (f_qLen ob0)], .inr (.inl (.int, (List.replicate 32 0))), .inr (.inl (.boolean, (List.replicate 32 0))), .inr (.inl (.int, (List.replicate 64 0))), .inr (.inl (.int, (List.replicate 10 0))), .inr (.inl (.int, (List.replicate 128 0))), .inr (.inl (.int, (List.replicate 128 0)))])) rfl ?_
  refine QTri.steps Ad W 1 (st' := (54, [some (.ref 0), some (.int x1), some (.int x2), some (.int x3), some (.int x4), none], [], [.inl [.ref 1, .ref 2, .ref 3, .ref 4, .ref 5, .ref 6, .null, .null, .null, .null, .null, .null, .null, .null, .null, .null, .null, .null, .null, .int (f_win ob0), .int (f_back ob0), .int (f_repair ob0), .int (f_period ob0), .int (f_nextSeq ob0), .int (f_qLen ob0)], .inr (.inl (.int, (List.replicate 32 0))), .inr (.inl (.boolean, (List.replicate 32 0))), .inr (.inl (.int, (List.replicate 64 0))), .inr (.inl (.int, (List.replicate 10 0))), .inr (.inl (.int, (List.replicate 128 0))), .inr (.inl (.int, (List.replicate 128 0)))])) rfl ?_
  refine QTri.steps Ad W 3 (st' := (60, [some (.ref 0), some (.int x1), some (.int x2), some (.int x3), some (.int x4), none], [.ref 7, .ref 0], [.inl [.ref 1, .ref 2, .ref 3, .ref 4, .ref 5, .ref 6, .null, .null, .null, .null, .null, .null, .null, .null, .null, .null, .null, .null, .null, .int (f_win ob0), .int (f_back ob0), .int (f_repair ob0), .int (f_period ob0), .int (f_nextSeq ob0), .int (f_qLen ob0)], .inr (.inl (.int, (List.replicate 32 0))), .inr (.inl (.boolean, (List.replicate 32 0))), .inr (.inl (.int, (List.replicate 64 0))), .inr (.inl (.int, (List.replicate 10 0))), .inr (.inl (.int, (List.replicate 128 0))), .inr (.inl (.int, (List.replicate 128 0))), .inr (.inl (.int, (List.replicate 128 0)))])) rfl ?_
  refine QTri.steps Ad W 1 (st' := (63, [some (.ref 0), some (.int x1), some (.int x2), some (.int x3), some (.int x4), none], [], [.inl [.ref 1, .ref 2, .ref 3, .ref 4, .ref 5, .ref 6, .ref 7, .null, .null, .null, .null, .null, .null, .null, .null, .null, .null, .null, .null, .int (f_win ob0), .int (f_back ob0), .int (f_repair ob0), .int (f_period ob0), .int (f_nextSeq ob0), .int (f_qLen ob0)], .inr (.inl (.int, (List.replicate 32 0))), .inr (.inl (.boolean, (List.replicate 32 0))), .inr (.inl (.int, (List.replicate 64 0))), .inr (.inl (.int, (List.replicate 10 0))), .inr (.inl (.int, (List.replicate 128 0))), .inr (.inl (.int, (List.replicate 128 0))), .inr (.inl (.int, (List.replicate 128 0)))])) rfl ?_
  refine QTri.steps Ad W 3 (st' := (67, [some (.ref 0), some (.int x1), some (.int x2), some (.int x3), some (.int x4), none], [.ref 8, .ref 0], [.inl [.ref 1, .ref 2, .ref 3, .ref 4, .ref 5, .ref 6, .ref 7, .null, .null, .null, .null, .null, .null, .null, .null, .null, .null, .null, .null, .int (f_win ob0), .int (f_back ob0), .int (f_repair ob0), .int (f_period ob0), .int (f_nextSeq ob0), .int (f_qLen ob0)], .inr (.inl (.int, (List.replicate 32 0))), .inr (.inl (.boolean, (List.replicate 32 0))), .inr (.inl (.int, (List.replicate 64 0))), .inr (.inl (.int, (List.replicate 10 0))), .inr (.inl (.int, (List.replicate 128 0))), .inr (.inl (.int, (List.replicate 128 0))), .inr (.inl (.int, (List.replicate 128 0))), .inr (.inl (.int, (List.replicate 4 0)))])) rfl ?_
  refine QTri.steps Ad W 1 (st' := (70, [some (.ref 0), some (.int x1), some (.int x2), some (.int x3), some (.int x4), none], [], [.inl [.ref 1, .ref 2, .ref 3, .ref 4, .ref 5, .ref 6, .ref 7, .ref 8, .null, .null, .null, .null, .null, .null, .null, .null, .null, .null, .null, .int (f_win ob0), .int (f_back ob0), .int (f_repair ob0), .int (f_period ob0), .int (f_nextSeq ob0), .int (f_qLen ob0)], .inr (.inl (.int, (List.replicate 32 0))), .inr (.inl (.boolean, (List.replicate 32 0))), .inr (.inl (.int, (List.replicate 64 0))), .inr (.inl (.int, (List.replicate 10 0))), .inr (.inl (.int, (List.replicate 128 0))), .inr (.inl (.int, (List.replicate 128 0))), .inr (.inl (.int, (List.replicate 128 0))), .inr (.inl (.int, (List.replicate 4 0)))])) rfl ?_
  refine QTri.steps Ad W 3 (st' := (74, [some (.ref 0), some (.int x1), some (.int x2), some (.int x3), some (.int x4), none], [.ref 9, .ref 0], [.inl [.ref 1, .ref 2, .ref 3, .ref 4, .ref 5, .ref 6, .ref 7, .ref 8, .null, .null, .null, .null, .null, .null, .null, .null, .null, .null, .null, .int (f_win ob0), .int (f_back ob0), .int (f_repair ob0), .int (f_period ob0), .int (f_nextSeq ob0), .int (f_qLen ob0)], .inr (.inl (.int, (List.replicate 32 0))), .inr (.inl (.boolean, (List.replicate 32 0))), .inr (.inl (.int, (List.replicate 64 0))), .inr (.inl (.int, (List.replicate 10 0))), .inr (.inl (.int, (List.replicate 128 0))), .inr (.inl (.int, (List.replicate 128 0))), .inr (.inl (.int, (List.replicate 128 0))), .inr (.inl (.int, (List.replicate 4 0))), .inr (.inl (.int, (List.replicate 4 0)))])) rfl ?_
  refine QTri.steps Ad W 1 (st' := (77, [some (.ref 0), some (.int x1), some (.int x2), some (.int x3), some (.int x4), none], [], [.inl [.ref 1, .ref 2, .ref 3, .ref 4, .ref 5, .ref 6, .ref 7, .ref 8, .ref 9, .null, .null, .null, .null, .null, .null, .null, .null, .null, .null, .int (f_win ob0), .int (f_back ob0), .int (f_repair ob0), .int (f_period ob0), .int (f_nextSeq ob0), .int (f_qLen ob0)], .inr (.inl (.int, (List.replicate 32 0))), .inr (.inl (.boolean, (List.replicate 32 0))), .inr (.inl (.int, (List.replicate 64 0))), .inr (.inl (.int, (List.replicate 10 0))), .inr (.inl (.int, (List.replicate 128 0))), .inr (.inl (.int, (List.replicate 128 0))), .inr (.inl (.int, (List.replicate 128 0))), .inr (.inl (.int, (List.replicate 4 0))), .inr (.inl (.int, (List.replicate 4 0)))])) rfl ?_
  refine QTri.steps Ad W 3 (st' := (81, [some (.ref 0), some (.int x1), some (.int x2), some (.int x3), some (.int x4), none], [.ref 10, .ref 0], [.inl [.ref 1, .ref 2, .ref 3, .ref 4, .ref 5, .ref 6, .ref 7, .ref 8, .ref 9, .null, .null, .null, .null, .null, .null, .null, .null, .null, .null, .int (f_win ob0), .int (f_back ob0), .int (f_repair ob0), .int (f_period ob0), .int (f_nextSeq ob0), .int (f_qLen ob0)], .inr (.inl (.int, (List.replicate 32 0))), .inr (.inl (.boolean, (List.replicate 32 0))), .inr (.inl (.int, (List.replicate 64 0))), .inr (.inl (.int, (List.replicate 10 0))), .inr (.inl (.int, (List.replicate 128 0))), .inr (.inl (.int, (List.replicate 128 0))), .inr (.inl (.int, (List.replicate 128 0))), .inr (.inl (.int, (List.replicate 4 0))), .inr (.inl (.int, (List.replicate 4 0))), .inr (.inl (.int, (List.replicate 4 0)))])) rfl ?_
  refine QTri.steps Ad W 1 (st' := (84, [some (.ref 0), some (.int x1), some (.int x2), some (.int x3), some (.int x4), none], [], [.inl [.ref 1, .ref 2, .ref 3, .ref 4, .ref 5, .ref 6, .ref 7, .ref 8, .ref 9, .ref 10, .null, .null, .null, .null, .null, .null, .null, .null, .null, .int (f_win ob0), .int (f_back ob0), .int (f_repair ob0), .int (f_period ob0), .int (f_nextSeq ob0), .int (f_qLen ob0)], .inr (.inl (.int, (List.replicate 32 0))), .inr (.inl (.boolean, (List.replicate 32 0))), .inr (.inl (.int, (List.replicate 64 0))), .inr (.inl (.int, (List.replicate 10 0))), .inr (.inl (.int, (List.replicate 128 0))), .inr (.inl (.int, (List.replicate 128 0))), .inr (.inl (.int, (List.replicate 128 0))), .inr (.inl (.int, (List.replicate 4 0))), .inr (.inl (.int, (List.replicate 4 0))), .inr (.inl (.int, (List.replicate 4 0)))])) rfl ?_
  refine QTri.steps Ad W 3 (st' := (88, [some (.ref 0), some (.int x1), some (.int x2), some (.int x3), some (.int x4), none], [.ref 11, .ref 0], [.inl [.ref 1, .ref 2, .ref 3, .ref 4, .ref 5, .ref 6, .ref 7, .ref 8, .ref 9, .ref 10, .null, .null, .null, .null, .null, .null, .null, .null, .null, .int (f_win ob0), .int (f_back ob0), .int (f_repair ob0), .int (f_period ob0), .int (f_nextSeq ob0), .int (f_qLen ob0)], .inr (.inl (.int, (List.replicate 32 0))), .inr (.inl (.boolean, (List.replicate 32 0))), .inr (.inl (.int, (List.replicate 64 0))), .inr (.inl (.int, (List.replicate 10 0))), .inr (.inl (.int, (List.replicate 128 0))), .inr (.inl (.int, (List.replicate 128 0))), .inr (.inl (.int, (List.replicate 128 0))), .inr (.inl (.int, (List.replicate 4 0))), .inr (.inl (.int, (List.replicate 4 0))), .inr (.inl (.int, (List.replicate 4 0))), .inr (.inl (.int, (List.replicate 4 0)))])) rfl ?_
  refine QTri.steps Ad W 1 (st' := (91, [some (.ref 0), some (.int x1), some (.int x2), some (.int x3), some (.int x4), none], [], [.inl [.ref 1, .ref 2, .ref 3, .ref 4, .ref 5, .ref 6, .ref 7, .ref 8, .ref 9, .ref 10, .ref 11, .null, .null, .null, .null, .null, .null, .null, .null, .int (f_win ob0), .int (f_back ob0), .int (f_repair ob0), .int (f_period ob0), .int (f_nextSeq ob0), .int (f_qLen ob0)], .inr (.inl (.int, (List.replicate 32 0))), .inr (.inl (.boolean, (List.replicate 32 0))), .inr (.inl (.int, (List.replicate 64 0))), .inr (.inl (.int, (List.replicate 10 0))), .inr (.inl (.int, (List.replicate 128 0))), .inr (.inl (.int, (List.replicate 128 0))), .inr (.inl (.int, (List.replicate 128 0))), .inr (.inl (.int, (List.replicate 4 0))), .inr (.inl (.int, (List.replicate 4 0))), .inr (.inl (.int, (List.replicate 4 0))), .inr (.inl (.int, (List.replicate 4 0)))])) rfl ?_
  refine QTri.steps Ad W 3 (st' := (95, [some (.ref 0), some (.int x1), some (.int x2), some (.int x3), some (.int x4), none], [.ref 12, .ref 0], [.inl [.ref 1, .ref 2, .ref 3, .ref 4, .ref 5, .ref 6, .ref 7, .ref 8, .ref 9, .ref 10, .ref 11, .null, .null, .null, .null, .null, .null, .null, .null, .int (f_win ob0), .int (f_back ob0), .int (f_repair ob0), .int (f_period ob0), .int (f_nextSeq ob0), .int (f_qLen ob0)], .inr (.inl (.int, (List.replicate 32 0))), .inr (.inl (.boolean, (List.replicate 32 0))), .inr (.inl (.int, (List.replicate 64 0))), .inr (.inl (.int, (List.replicate 10 0))), .inr (.inl (.int, (List.replicate 128 0))), .inr (.inl (.int, (List.replicate 128 0))), .inr (.inl (.int, (List.replicate 128 0))), .inr (.inl (.int, (List.replicate 4 0))), .inr (.inl (.int, (List.replicate 4 0))), .inr (.inl (.int, (List.replicate 4 0))), .inr (.inl (.int, (List.replicate 4 0))), .inr (.inl (.int, (List.replicate 4 0)))])) rfl ?_
  refine QTri.steps Ad W 1 (st' := (98, [some (.ref 0), some (.int x1), some (.int x2), some (.int x3), some (.int x4), none], [], [.inl [.ref 1, .ref 2, .ref 3, .ref 4, .ref 5, .ref 6, .ref 7, .ref 8, .ref 9, .ref 10, .ref 11, .ref 12, .null, .null, .null, .null, .null, .null, .null, .int (f_win ob0), .int (f_back ob0), .int (f_repair ob0), .int (f_period ob0), .int (f_nextSeq ob0), .int (f_qLen ob0)], .inr (.inl (.int, (List.replicate 32 0))), .inr (.inl (.boolean, (List.replicate 32 0))), .inr (.inl (.int, (List.replicate 64 0))), .inr (.inl (.int, (List.replicate 10 0))), .inr (.inl (.int, (List.replicate 128 0))), .inr (.inl (.int, (List.replicate 128 0))), .inr (.inl (.int, (List.replicate 128 0))), .inr (.inl (.int, (List.replicate 4 0))), .inr (.inl (.int, (List.replicate 4 0))), .inr (.inl (.int, (List.replicate 4 0))), .inr (.inl (.int, (List.replicate 4 0))), .inr (.inl (.int, (List.replicate 4 0)))])) rfl ?_
  refine QTri.steps Ad W 3 (st' := (102, [some (.ref 0), some (.int x1), some (.int x2), some (.int x3), some (.int x4), none], [.ref 13, .ref 0], [.inl [.ref 1, .ref 2, .ref 3, .ref 4, .ref 5, .ref 6, .ref 7, .ref 8, .ref 9, .ref 10, .ref 11, .ref 12, .null, .null, .null, .null, .null, .null, .null, .int (f_win ob0), .int (f_back ob0), .int (f_repair ob0), .int (f_period ob0), .int (f_nextSeq ob0), .int (f_qLen ob0)], .inr (.inl (.int, (List.replicate 32 0))), .inr (.inl (.boolean, (List.replicate 32 0))), .inr (.inl (.int, (List.replicate 64 0))), .inr (.inl (.int, (List.replicate 10 0))), .inr (.inl (.int, (List.replicate 128 0))), .inr (.inl (.int, (List.replicate 128 0))), .inr (.inl (.int, (List.replicate 128 0))), .inr (.inl (.int, (List.replicate 4 0))), .inr (.inl (.int, (List.replicate 4 0))), .inr (.inl (.int, (List.replicate 4 0))), .inr (.inl (.int, (List.replicate 4 0))), .inr (.inl (.int, (List.replicate 4 0))), .inr (.inl (.int, (List.replicate 4 0)))])) rfl ?_
  refine QTri.steps Ad W 1 (st' := (105, [some (.ref 0), some (.int x1), some (.int x2), some (.int x3), some (.int x4), none], [], [.inl [.ref 1, .ref 2, .ref 3, .ref 4, .ref 5, .ref 6, .ref 7, .ref 8, .ref 9, .ref 10, .ref 11, .ref 12, .ref 13, .null, .null, .null, .null, .null, .null, .int (f_win ob0), .int (f_back ob0), .int (f_repair ob0), .int (f_period ob0), .int (f_nextSeq ob0), .int (f_qLen ob0)], .inr (.inl (.int, (List.replicate 32 0))), .inr (.inl (.boolean, (List.replicate 32 0))), .inr (.inl (.int, (List.replicate 64 0))), .inr (.inl (.int, (List.replicate 10 0))), .inr (.inl (.int, (List.replicate 128 0))), .inr (.inl (.int, (List.replicate 128 0))), .inr (.inl (.int, (List.replicate 128 0))), .inr (.inl (.int, (List.replicate 4 0))), .inr (.inl (.int, (List.replicate 4 0))), .inr (.inl (.int, (List.replicate 4 0))), .inr (.inl (.int, (List.replicate 4 0))), .inr (.inl (.int, (List.replicate 4 0))), .inr (.inl (.int, (List.replicate 4 0)))])) rfl ?_
  refine QTri.steps Ad W 3 (st' := (111, [some (.ref 0), some (.int x1), some (.int x2), some (.int x3), some (.int x4), none], [.ref 14, .ref 0], [.inl [.ref 1, .ref 2, .ref 3, .ref 4, .ref 5, .ref 6, .ref 7, .ref 8, .ref 9, .ref 10, .ref 11, .ref 12, .ref 13, .null, .null, .null, .null, .null, .null, .int (f_win ob0), .int (f_back ob0), .int (f_repair ob0), .int (f_period ob0), .int (f_nextSeq ob0), .int (f_qLen ob0)], .inr (.inl (.int, (List.replicate 32 0))), .inr (.inl (.boolean, (List.replicate 32 0))), .inr (.inl (.int, (List.replicate 64 0))), .inr (.inl (.int, (List.replicate 10 0))), .inr (.inl (.int, (List.replicate 128 0))), .inr (.inl (.int, (List.replicate 128 0))), .inr (.inl (.int, (List.replicate 128 0))), .inr (.inl (.int, (List.replicate 4 0))), .inr (.inl (.int, (List.replicate 4 0))), .inr (.inl (.int, (List.replicate 4 0))), .inr (.inl (.int, (List.replicate 4 0))), .inr (.inl (.int, (List.replicate 4 0))), .inr (.inl (.int, (List.replicate 4 0))), .inr (.inl (.int, (List.replicate 128 0)))])) rfl ?_
  refine QTri.steps Ad W 1 (st' := (114, [some (.ref 0), some (.int x1), some (.int x2), some (.int x3), some (.int x4), none], [], [.inl [.ref 1, .ref 2, .ref 3, .ref 4, .ref 5, .ref 6, .ref 7, .ref 8, .ref 9, .ref 10, .ref 11, .ref 12, .ref 13, .ref 14, .null, .null, .null, .null, .null, .int (f_win ob0), .int (f_back ob0), .int (f_repair ob0), .int (f_period ob0), .int (f_nextSeq ob0), .int (f_qLen ob0)], .inr (.inl (.int, (List.replicate 32 0))), .inr (.inl (.boolean, (List.replicate 32 0))), .inr (.inl (.int, (List.replicate 64 0))), .inr (.inl (.int, (List.replicate 10 0))), .inr (.inl (.int, (List.replicate 128 0))), .inr (.inl (.int, (List.replicate 128 0))), .inr (.inl (.int, (List.replicate 128 0))), .inr (.inl (.int, (List.replicate 4 0))), .inr (.inl (.int, (List.replicate 4 0))), .inr (.inl (.int, (List.replicate 4 0))), .inr (.inl (.int, (List.replicate 4 0))), .inr (.inl (.int, (List.replicate 4 0))), .inr (.inl (.int, (List.replicate 4 0))), .inr (.inl (.int, (List.replicate 128 0)))])) rfl ?_
  refine QTri.steps Ad W 3 (st' := (120, [some (.ref 0), some (.int x1), some (.int x2), some (.int x3), some (.int x4), none], [.ref 15, .ref 0], [.inl [.ref 1, .ref 2, .ref 3, .ref 4, .ref 5, .ref 6, .ref 7, .ref 8, .ref 9, .ref 10, .ref 11, .ref 12, .ref 13, .ref 14, .null, .null, .null, .null, .null, .int (f_win ob0), .int (f_back ob0), .int (f_repair ob0), .int (f_period ob0), .int (f_nextSeq ob0), .int (f_qLen ob0)], .inr (.inl (.int, (List.replicate 32 0))), .inr (.inl (.boolean, (List.replicate 32 0))), .inr (.inl (.int, (List.replicate 64 0))), .inr (.inl (.int, (List.replicate 10 0))), .inr (.inl (.int, (List.replicate 128 0))), .inr (.inl (.int, (List.replicate 128 0))), .inr (.inl (.int, (List.replicate 128 0))), .inr (.inl (.int, (List.replicate 4 0))), .inr (.inl (.int, (List.replicate 4 0))), .inr (.inl (.int, (List.replicate 4 0))), .inr (.inl (.int, (List.replicate 4 0))), .inr (.inl (.int, (List.replicate 4 0))), .inr (.inl (.int, (List.replicate 4 0))), .inr (.inl (.int, (List.replicate 128 0))), .inr (.inl (.int, (List.replicate 128 0)))])) rfl ?_
  refine QTri.steps Ad W 1 (st' := (123, [some (.ref 0), some (.int x1), some (.int x2), some (.int x3), some (.int x4), none], [], [.inl [.ref 1, .ref 2, .ref 3, .ref 4, .ref 5, .ref 6, .ref 7, .ref 8, .ref 9, .ref 10, .ref 11, .ref 12, .ref 13, .ref 14, .ref 15, .null, .null, .null, .null, .int (f_win ob0), .int (f_back ob0), .int (f_repair ob0), .int (f_period ob0), .int (f_nextSeq ob0), .int (f_qLen ob0)], .inr (.inl (.int, (List.replicate 32 0))), .inr (.inl (.boolean, (List.replicate 32 0))), .inr (.inl (.int, (List.replicate 64 0))), .inr (.inl (.int, (List.replicate 10 0))), .inr (.inl (.int, (List.replicate 128 0))), .inr (.inl (.int, (List.replicate 128 0))), .inr (.inl (.int, (List.replicate 128 0))), .inr (.inl (.int, (List.replicate 4 0))), .inr (.inl (.int, (List.replicate 4 0))), .inr (.inl (.int, (List.replicate 4 0))), .inr (.inl (.int, (List.replicate 4 0))), .inr (.inl (.int, (List.replicate 4 0))), .inr (.inl (.int, (List.replicate 4 0))), .inr (.inl (.int, (List.replicate 128 0))), .inr (.inl (.int, (List.replicate 128 0)))])) rfl ?_
  refine QTri.steps Ad W 3 (st' := (127, [some (.ref 0), some (.int x1), some (.int x2), some (.int x3), some (.int x4), none], [.ref 16, .ref 0], [.inl [.ref 1, .ref 2, .ref 3, .ref 4, .ref 5, .ref 6, .ref 7, .ref 8, .ref 9, .ref 10, .ref 11, .ref 12, .ref 13, .ref 14, .ref 15, .null, .null, .null, .null, .int (f_win ob0), .int (f_back ob0), .int (f_repair ob0), .int (f_period ob0), .int (f_nextSeq ob0), .int (f_qLen ob0)], .inr (.inl (.int, (List.replicate 32 0))), .inr (.inl (.boolean, (List.replicate 32 0))), .inr (.inl (.int, (List.replicate 64 0))), .inr (.inl (.int, (List.replicate 10 0))), .inr (.inl (.int, (List.replicate 128 0))), .inr (.inl (.int, (List.replicate 128 0))), .inr (.inl (.int, (List.replicate 128 0))), .inr (.inl (.int, (List.replicate 4 0))), .inr (.inl (.int, (List.replicate 4 0))), .inr (.inl (.int, (List.replicate 4 0))), .inr (.inl (.int, (List.replicate 4 0))), .inr (.inl (.int, (List.replicate 4 0))), .inr (.inl (.int, (List.replicate 4 0))), .inr (.inl (.int, (List.replicate 128 0))), .inr (.inl (.int, (List.replicate 128 0))), .inr (.inl (.int, (List.replicate 4 0)))])) rfl ?_
  refine QTri.steps Ad W 1 (st' := (130, [some (.ref 0), some (.int x1), some (.int x2), some (.int x3), some (.int x4), none], [], [.inl [.ref 1, .ref 2, .ref 3, .ref 4, .ref 5, .ref 6, .ref 7, .ref 8, .ref 9, .ref 10, .ref 11, .ref 12, .ref 13, .ref 14, .ref 15, .ref 16, .null, .null, .null, .int (f_win ob0), .int (f_back ob0), .int (f_repair ob0), .int (f_period ob0), .int (f_nextSeq ob0), .int (f_qLen ob0)], .inr (.inl (.int, (List.replicate 32 0))), .inr (.inl (.boolean, (List.replicate 32 0))), .inr (.inl (.int, (List.replicate 64 0))), .inr (.inl (.int, (List.replicate 10 0))), .inr (.inl (.int, (List.replicate 128 0))), .inr (.inl (.int, (List.replicate 128 0))), .inr (.inl (.int, (List.replicate 128 0))), .inr (.inl (.int, (List.replicate 4 0))), .inr (.inl (.int, (List.replicate 4 0))), .inr (.inl (.int, (List.replicate 4 0))), .inr (.inl (.int, (List.replicate 4 0))), .inr (.inl (.int, (List.replicate 4 0))), .inr (.inl (.int, (List.replicate 4 0))), .inr (.inl (.int, (List.replicate 128 0))), .inr (.inl (.int, (List.replicate 128 0))), .inr (.inl (.int, (List.replicate 4 0)))])) rfl ?_
  refine QTri.steps Ad W 3 (st' := (136, [some (.ref 0), some (.int x1), some (.int x2), some (.int x3), some (.int x4), none], [.ref 17, .ref 0], [.inl [.ref 1, .ref 2, .ref 3, .ref 4, .ref 5, .ref 6, .ref 7, .ref 8, .ref 9, .ref 10, .ref 11, .ref 12, .ref 13, .ref 14, .ref 15, .ref 16, .null, .null, .null, .int (f_win ob0), .int (f_back ob0), .int (f_repair ob0), .int (f_period ob0), .int (f_nextSeq ob0), .int (f_qLen ob0)], .inr (.inl (.int, (List.replicate 32 0))), .inr (.inl (.boolean, (List.replicate 32 0))), .inr (.inl (.int, (List.replicate 64 0))), .inr (.inl (.int, (List.replicate 10 0))), .inr (.inl (.int, (List.replicate 128 0))), .inr (.inl (.int, (List.replicate 128 0))), .inr (.inl (.int, (List.replicate 128 0))), .inr (.inl (.int, (List.replicate 4 0))), .inr (.inl (.int, (List.replicate 4 0))), .inr (.inl (.int, (List.replicate 4 0))), .inr (.inl (.int, (List.replicate 4 0))), .inr (.inl (.int, (List.replicate 4 0))), .inr (.inl (.int, (List.replicate 4 0))), .inr (.inl (.int, (List.replicate 128 0))), .inr (.inl (.int, (List.replicate 128 0))), .inr (.inl (.int, (List.replicate 4 0))), .inr (.inl (.int, (List.replicate 128 0)))])) rfl ?_
  refine QTri.steps Ad W 1 (st' := (139, [some (.ref 0), some (.int x1), some (.int x2), some (.int x3), some (.int x4), none], [], [.inl [.ref 1, .ref 2, .ref 3, .ref 4, .ref 5, .ref 6, .ref 7, .ref 8, .ref 9, .ref 10, .ref 11, .ref 12, .ref 13, .ref 14, .ref 15, .ref 16, .ref 17, .null, .null, .int (f_win ob0), .int (f_back ob0), .int (f_repair ob0), .int (f_period ob0), .int (f_nextSeq ob0), .int (f_qLen ob0)], .inr (.inl (.int, (List.replicate 32 0))), .inr (.inl (.boolean, (List.replicate 32 0))), .inr (.inl (.int, (List.replicate 64 0))), .inr (.inl (.int, (List.replicate 10 0))), .inr (.inl (.int, (List.replicate 128 0))), .inr (.inl (.int, (List.replicate 128 0))), .inr (.inl (.int, (List.replicate 128 0))), .inr (.inl (.int, (List.replicate 4 0))), .inr (.inl (.int, (List.replicate 4 0))), .inr (.inl (.int, (List.replicate 4 0))), .inr (.inl (.int, (List.replicate 4 0))), .inr (.inl (.int, (List.replicate 4 0))), .inr (.inl (.int, (List.replicate 4 0))), .inr (.inl (.int, (List.replicate 128 0))), .inr (.inl (.int, (List.replicate 128 0))), .inr (.inl (.int, (List.replicate 4 0))), .inr (.inl (.int, (List.replicate 128 0)))])) rfl ?_
  refine QTri.steps Ad W 3 (st' := (143, [some (.ref 0), some (.int x1), some (.int x2), some (.int x3), some (.int x4), none], [.ref 18, .ref 0], [.inl [.ref 1, .ref 2, .ref 3, .ref 4, .ref 5, .ref 6, .ref 7, .ref 8, .ref 9, .ref 10, .ref 11, .ref 12, .ref 13, .ref 14, .ref 15, .ref 16, .ref 17, .null, .null, .int (f_win ob0), .int (f_back ob0), .int (f_repair ob0), .int (f_period ob0), .int (f_nextSeq ob0), .int (f_qLen ob0)], .inr (.inl (.int, (List.replicate 32 0))), .inr (.inl (.boolean, (List.replicate 32 0))), .inr (.inl (.int, (List.replicate 64 0))), .inr (.inl (.int, (List.replicate 10 0))), .inr (.inl (.int, (List.replicate 128 0))), .inr (.inl (.int, (List.replicate 128 0))), .inr (.inl (.int, (List.replicate 128 0))), .inr (.inl (.int, (List.replicate 4 0))), .inr (.inl (.int, (List.replicate 4 0))), .inr (.inl (.int, (List.replicate 4 0))), .inr (.inl (.int, (List.replicate 4 0))), .inr (.inl (.int, (List.replicate 4 0))), .inr (.inl (.int, (List.replicate 4 0))), .inr (.inl (.int, (List.replicate 128 0))), .inr (.inl (.int, (List.replicate 128 0))), .inr (.inl (.int, (List.replicate 4 0))), .inr (.inl (.int, (List.replicate 128 0))), .inr (.inl (.int, (List.replicate 4 0)))])) rfl ?_
  refine QTri.steps Ad W 1 (st' := (146, [some (.ref 0), some (.int x1), some (.int x2), some (.int x3), some (.int x4), none], [], [.inl [.ref 1, .ref 2, .ref 3, .ref 4, .ref 5, .ref 6, .ref 7, .ref 8, .ref 9, .ref 10, .ref 11, .ref 12, .ref 13, .ref 14, .ref 15, .ref 16, .ref 17, .ref 18, .null, .int (f_win ob0), .int (f_back ob0), .int (f_repair ob0), .int (f_period ob0), .int (f_nextSeq ob0), .int (f_qLen ob0)], .inr (.inl (.int, (List.replicate 32 0))), .inr (.inl (.boolean, (List.replicate 32 0))), .inr (.inl (.int, (List.replicate 64 0))), .inr (.inl (.int, (List.replicate 10 0))), .inr (.inl (.int, (List.replicate 128 0))), .inr (.inl (.int, (List.replicate 128 0))), .inr (.inl (.int, (List.replicate 128 0))), .inr (.inl (.int, (List.replicate 4 0))), .inr (.inl (.int, (List.replicate 4 0))), .inr (.inl (.int, (List.replicate 4 0))), .inr (.inl (.int, (List.replicate 4 0))), .inr (.inl (.int, (List.replicate 4 0))), .inr (.inl (.int, (List.replicate 4 0))), .inr (.inl (.int, (List.replicate 128 0))), .inr (.inl (.int, (List.replicate 128 0))), .inr (.inl (.int, (List.replicate 4 0))), .inr (.inl (.int, (List.replicate 128 0))), .inr (.inl (.int, (List.replicate 4 0)))])) rfl ?_
  refine QTri.steps Ad W 3 (st' := (152, [some (.ref 0), some (.int x1), some (.int x2), some (.int x3), some (.int x4), none], [.ref 19, .ref 0], [.inl [.ref 1, .ref 2, .ref 3, .ref 4, .ref 5, .ref 6, .ref 7, .ref 8, .ref 9, .ref 10, .ref 11, .ref 12, .ref 13, .ref 14, .ref 15, .ref 16, .ref 17, .ref 18, .null, .int (f_win ob0), .int (f_back ob0), .int (f_repair ob0), .int (f_period ob0), .int (f_nextSeq ob0), .int (f_qLen ob0)], .inr (.inl (.int, (List.replicate 32 0))), .inr (.inl (.boolean, (List.replicate 32 0))), .inr (.inl (.int, (List.replicate 64 0))), .inr (.inl (.int, (List.replicate 10 0))), .inr (.inl (.int, (List.replicate 128 0))), .inr (.inl (.int, (List.replicate 128 0))), .inr (.inl (.int, (List.replicate 128 0))), .inr (.inl (.int, (List.replicate 4 0))), .inr (.inl (.int, (List.replicate 4 0))), .inr (.inl (.int, (List.replicate 4 0))), .inr (.inl (.int, (List.replicate 4 0))), .inr (.inl (.int, (List.replicate 4 0))), .inr (.inl (.int, (List.replicate 4 0))), .inr (.inl (.int, (List.replicate 128 0))), .inr (.inl (.int, (List.replicate 128 0))), .inr (.inl (.int, (List.replicate 4 0))), .inr (.inl (.int, (List.replicate 128 0))), .inr (.inl (.int, (List.replicate 4 0))), .inr (.inl (.int, (List.replicate 128 0)))])) rfl ?_
  refine QTri.steps Ad W 1 (st' := (155, [some (.ref 0), some (.int x1), some (.int x2), some (.int x3), some (.int x4), none], [], [.inl [.ref 1, .ref 2, .ref 3, .ref 4, .ref 5, .ref 6, .ref 7, .ref 8, .ref 9, .ref 10, .ref 11, .ref 12, .ref 13, .ref 14, .ref 15, .ref 16, .ref 17, .ref 18, .ref 19, .int (f_win ob0), .int (f_back ob0), .int (f_repair ob0), .int (f_period ob0), .int (f_nextSeq ob0), .int (f_qLen ob0)], .inr (.inl (.int, (List.replicate 32 0))), .inr (.inl (.boolean, (List.replicate 32 0))), .inr (.inl (.int, (List.replicate 64 0))), .inr (.inl (.int, (List.replicate 10 0))), .inr (.inl (.int, (List.replicate 128 0))), .inr (.inl (.int, (List.replicate 128 0))), .inr (.inl (.int, (List.replicate 128 0))), .inr (.inl (.int, (List.replicate 4 0))), .inr (.inl (.int, (List.replicate 4 0))), .inr (.inl (.int, (List.replicate 4 0))), .inr (.inl (.int, (List.replicate 4 0))), .inr (.inl (.int, (List.replicate 4 0))), .inr (.inl (.int, (List.replicate 4 0))), .inr (.inl (.int, (List.replicate 128 0))), .inr (.inl (.int, (List.replicate 128 0))), .inr (.inl (.int, (List.replicate 4 0))), .inr (.inl (.int, (List.replicate 128 0))), .inr (.inl (.int, (List.replicate 4 0))), .inr (.inl (.int, (List.replicate 128 0)))])) rfl ?_
  refine QTri.steps Ad W 5 (st' := (161, [some (.ref 0), some (.int x1), some (.int x2), some (.int x3), some (.int x4), none], [.int (16 : Int32), .int (2 : Int32), .int x1, .ref 0, .ref 0], [.inl [.ref 1, .ref 2, .ref 3, .ref 4, .ref 5, .ref 6, .ref 7, .ref 8, .ref 9, .ref 10, .ref 11, .ref 12, .ref 13, .ref 14, .ref 15, .ref 16, .ref 17, .ref 18, .ref 19, .int (f_win ob0), .int (f_back ob0), .int (f_repair ob0), .int (f_period ob0), .int (f_nextSeq ob0), .int (f_qLen ob0)], .inr (.inl (.int, (List.replicate 32 0))), .inr (.inl (.boolean, (List.replicate 32 0))), .inr (.inl (.int, (List.replicate 64 0))), .inr (.inl (.int, (List.replicate 10 0))), .inr (.inl (.int, (List.replicate 128 0))), .inr (.inl (.int, (List.replicate 128 0))), .inr (.inl (.int, (List.replicate 128 0))), .inr (.inl (.int, (List.replicate 4 0))), .inr (.inl (.int, (List.replicate 4 0))), .inr (.inl (.int, (List.replicate 4 0))), .inr (.inl (.int, (List.replicate 4 0))), .inr (.inl (.int, (List.replicate 4 0))), .inr (.inl (.int, (List.replicate 4 0))), .inr (.inl (.int, (List.replicate 128 0))), .inr (.inl (.int, (List.replicate 128 0))), .inr (.inl (.int, (List.replicate 4 0))), .inr (.inl (.int, (List.replicate 128 0))), .inr (.inl (.int, (List.replicate 4 0))), .inr (.inl (.int, (List.replicate 128 0)))])) rfl ?_
  obtain ⟨r3, hr3, h⟩ := Option.bind_eq_some_iff.mp h
  refine QTri.callP W (a := 0) (as := [.int x1, .int (2 : Int32), .int (16 : Int32)]) (rest := [.ref 0]) (w := (some (.int r3))) (σ₁ := [.inl [.ref 1, .ref 2, .ref 3, .ref 4, .ref 5, .ref 6, .ref 7, .ref 8, .ref 9, .ref 10, .ref 11, .ref 12, .ref 13, .ref 14, .ref 15, .ref 16, .ref 17, .ref 18, .ref 19, .int (f_win ob0), .int (f_back ob0), .int (f_repair ob0), .int (f_period ob0), .int (f_nextSeq ob0), .int (f_qLen ob0)], .inr (.inl (.int, (List.replicate 32 0))), .inr (.inl (.boolean, (List.replicate 32 0))), .inr (.inl (.int, (List.replicate 64 0))), .inr (.inl (.int, (List.replicate 10 0))), .inr (.inl (.int, (List.replicate 128 0))), .inr (.inl (.int, (List.replicate 128 0))), .inr (.inl (.int, (List.replicate 128 0))), .inr (.inl (.int, (List.replicate 4 0))), .inr (.inl (.int, (List.replicate 4 0))), .inr (.inl (.int, (List.replicate 4 0))), .inr (.inl (.int, (List.replicate 4 0))), .inr (.inl (.int, (List.replicate 4 0))), .inr (.inl (.int, (List.replicate 4 0))), .inr (.inl (.int, (List.replicate 128 0))), .inr (.inl (.int, (List.replicate 128 0))), .inr (.inl (.int, (List.replicate 4 0))), .inr (.inl (.int, (List.replicate 128 0))), .inr (.inl (.int, (List.replicate 4 0))), .inr (.inl (.int, (List.replicate 128 0)))]) rfl rfl rfl rfl rfl rfl rfl rfl (tF2 Ad W x1 (2 : Int32) (16 : Int32) hr3) ?_
  refine QTri.steps Ad W 1 (st' := (167, [some (.ref 0), some (.int x1), some (.int x2), some (.int x3), some (.int x4), none], [], [.inl [.ref 1, .ref 2, .ref 3, .ref 4, .ref 5, .ref 6, .ref 7, .ref 8, .ref 9, .ref 10, .ref 11, .ref 12, .ref 13, .ref 14, .ref 15, .ref 16, .ref 17, .ref 18, .ref 19, .int r3, .int (f_back ob0), .int (f_repair ob0), .int (f_period ob0), .int (f_nextSeq ob0), .int (f_qLen ob0)], .inr (.inl (.int, (List.replicate 32 0))), .inr (.inl (.boolean, (List.replicate 32 0))), .inr (.inl (.int, (List.replicate 64 0))), .inr (.inl (.int, (List.replicate 10 0))), .inr (.inl (.int, (List.replicate 128 0))), .inr (.inl (.int, (List.replicate 128 0))), .inr (.inl (.int, (List.replicate 128 0))), .inr (.inl (.int, (List.replicate 4 0))), .inr (.inl (.int, (List.replicate 4 0))), .inr (.inl (.int, (List.replicate 4 0))), .inr (.inl (.int, (List.replicate 4 0))), .inr (.inl (.int, (List.replicate 4 0))), .inr (.inl (.int, (List.replicate 4 0))), .inr (.inl (.int, (List.replicate 128 0))), .inr (.inl (.int, (List.replicate 128 0))), .inr (.inl (.int, (List.replicate 4 0))), .inr (.inl (.int, (List.replicate 128 0))), .inr (.inl (.int, (List.replicate 4 0))), .inr (.inl (.int, (List.replicate 128 0)))])) rfl ?_
  refine QTri.steps Ad W 5 (st' := (173, [some (.ref 0), some (.int x1), some (.int x2), some (.int x3), some (.int x4), none], [.int (8 : Int32), .int (1 : Int32), .int x2, .ref 0, .ref 0], [.inl [.ref 1, .ref 2, .ref 3, .ref 4, .ref 5, .ref 6, .ref 7, .ref 8, .ref 9, .ref 10, .ref 11, .ref 12, .ref 13, .ref 14, .ref 15, .ref 16, .ref 17, .ref 18, .ref 19, .int r3, .int (f_back ob0), .int (f_repair ob0), .int (f_period ob0), .int (f_nextSeq ob0), .int (f_qLen ob0)], .inr (.inl (.int, (List.replicate 32 0))), .inr (.inl (.boolean, (List.replicate 32 0))), .inr (.inl (.int, (List.replicate 64 0))), .inr (.inl (.int, (List.replicate 10 0))), .inr (.inl (.int, (List.replicate 128 0))), .inr (.inl (.int, (List.replicate 128 0))), .inr (.inl (.int, (List.replicate 128 0))), .inr (.inl (.int, (List.replicate 4 0))), .inr (.inl (.int, (List.replicate 4 0))), .inr (.inl (.int, (List.replicate 4 0))), .inr (.inl (.int, (List.replicate 4 0))), .inr (.inl (.int, (List.replicate 4 0))), .inr (.inl (.int, (List.replicate 4 0))), .inr (.inl (.int, (List.replicate 128 0))), .inr (.inl (.int, (List.replicate 128 0))), .inr (.inl (.int, (List.replicate 4 0))), .inr (.inl (.int, (List.replicate 128 0))), .inr (.inl (.int, (List.replicate 4 0))), .inr (.inl (.int, (List.replicate 128 0)))])) rfl ?_
  obtain ⟨r4, hr4, h⟩ := Option.bind_eq_some_iff.mp h
  refine QTri.callP W (a := 0) (as := [.int x2, .int (1 : Int32), .int (8 : Int32)]) (rest := [.ref 0]) (w := (some (.int r4))) (σ₁ := [.inl [.ref 1, .ref 2, .ref 3, .ref 4, .ref 5, .ref 6, .ref 7, .ref 8, .ref 9, .ref 10, .ref 11, .ref 12, .ref 13, .ref 14, .ref 15, .ref 16, .ref 17, .ref 18, .ref 19, .int r3, .int (f_back ob0), .int (f_repair ob0), .int (f_period ob0), .int (f_nextSeq ob0), .int (f_qLen ob0)], .inr (.inl (.int, (List.replicate 32 0))), .inr (.inl (.boolean, (List.replicate 32 0))), .inr (.inl (.int, (List.replicate 64 0))), .inr (.inl (.int, (List.replicate 10 0))), .inr (.inl (.int, (List.replicate 128 0))), .inr (.inl (.int, (List.replicate 128 0))), .inr (.inl (.int, (List.replicate 128 0))), .inr (.inl (.int, (List.replicate 4 0))), .inr (.inl (.int, (List.replicate 4 0))), .inr (.inl (.int, (List.replicate 4 0))), .inr (.inl (.int, (List.replicate 4 0))), .inr (.inl (.int, (List.replicate 4 0))), .inr (.inl (.int, (List.replicate 4 0))), .inr (.inl (.int, (List.replicate 128 0))), .inr (.inl (.int, (List.replicate 128 0))), .inr (.inl (.int, (List.replicate 4 0))), .inr (.inl (.int, (List.replicate 128 0))), .inr (.inl (.int, (List.replicate 4 0))), .inr (.inl (.int, (List.replicate 128 0)))]) rfl rfl rfl rfl rfl rfl rfl rfl (tF2 Ad W x2 (1 : Int32) (8 : Int32) hr4) ?_
  refine QTri.steps Ad W 1 (st' := (179, [some (.ref 0), some (.int x1), some (.int x2), some (.int x3), some (.int x4), none], [], [.inl [.ref 1, .ref 2, .ref 3, .ref 4, .ref 5, .ref 6, .ref 7, .ref 8, .ref 9, .ref 10, .ref 11, .ref 12, .ref 13, .ref 14, .ref 15, .ref 16, .ref 17, .ref 18, .ref 19, .int r3, .int r4, .int (f_repair ob0), .int (f_period ob0), .int (f_nextSeq ob0), .int (f_qLen ob0)], .inr (.inl (.int, (List.replicate 32 0))), .inr (.inl (.boolean, (List.replicate 32 0))), .inr (.inl (.int, (List.replicate 64 0))), .inr (.inl (.int, (List.replicate 10 0))), .inr (.inl (.int, (List.replicate 128 0))), .inr (.inl (.int, (List.replicate 128 0))), .inr (.inl (.int, (List.replicate 128 0))), .inr (.inl (.int, (List.replicate 4 0))), .inr (.inl (.int, (List.replicate 4 0))), .inr (.inl (.int, (List.replicate 4 0))), .inr (.inl (.int, (List.replicate 4 0))), .inr (.inl (.int, (List.replicate 4 0))), .inr (.inl (.int, (List.replicate 4 0))), .inr (.inl (.int, (List.replicate 128 0))), .inr (.inl (.int, (List.replicate 128 0))), .inr (.inl (.int, (List.replicate 4 0))), .inr (.inl (.int, (List.replicate 128 0))), .inr (.inl (.int, (List.replicate 4 0))), .inr (.inl (.int, (List.replicate 128 0)))])) rfl ?_
  refine QTri.steps Ad W 5 (st' := (185, [some (.ref 0), some (.int x1), some (.int x2), some (.int x3), some (.int x4), none], [.int (8 : Int32), .int (1 : Int32), .int x3, .ref 0, .ref 0], [.inl [.ref 1, .ref 2, .ref 3, .ref 4, .ref 5, .ref 6, .ref 7, .ref 8, .ref 9, .ref 10, .ref 11, .ref 12, .ref 13, .ref 14, .ref 15, .ref 16, .ref 17, .ref 18, .ref 19, .int r3, .int r4, .int (f_repair ob0), .int (f_period ob0), .int (f_nextSeq ob0), .int (f_qLen ob0)], .inr (.inl (.int, (List.replicate 32 0))), .inr (.inl (.boolean, (List.replicate 32 0))), .inr (.inl (.int, (List.replicate 64 0))), .inr (.inl (.int, (List.replicate 10 0))), .inr (.inl (.int, (List.replicate 128 0))), .inr (.inl (.int, (List.replicate 128 0))), .inr (.inl (.int, (List.replicate 128 0))), .inr (.inl (.int, (List.replicate 4 0))), .inr (.inl (.int, (List.replicate 4 0))), .inr (.inl (.int, (List.replicate 4 0))), .inr (.inl (.int, (List.replicate 4 0))), .inr (.inl (.int, (List.replicate 4 0))), .inr (.inl (.int, (List.replicate 4 0))), .inr (.inl (.int, (List.replicate 128 0))), .inr (.inl (.int, (List.replicate 128 0))), .inr (.inl (.int, (List.replicate 4 0))), .inr (.inl (.int, (List.replicate 128 0))), .inr (.inl (.int, (List.replicate 4 0))), .inr (.inl (.int, (List.replicate 128 0)))])) rfl ?_
  obtain ⟨r5, hr5, h⟩ := Option.bind_eq_some_iff.mp h
  refine QTri.callP W (a := 0) (as := [.int x3, .int (1 : Int32), .int (8 : Int32)]) (rest := [.ref 0]) (w := (some (.int r5))) (σ₁ := [.inl [.ref 1, .ref 2, .ref 3, .ref 4, .ref 5, .ref 6, .ref 7, .ref 8, .ref 9, .ref 10, .ref 11, .ref 12, .ref 13, .ref 14, .ref 15, .ref 16, .ref 17, .ref 18, .ref 19, .int r3, .int r4, .int (f_repair ob0), .int (f_period ob0), .int (f_nextSeq ob0), .int (f_qLen ob0)], .inr (.inl (.int, (List.replicate 32 0))), .inr (.inl (.boolean, (List.replicate 32 0))), .inr (.inl (.int, (List.replicate 64 0))), .inr (.inl (.int, (List.replicate 10 0))), .inr (.inl (.int, (List.replicate 128 0))), .inr (.inl (.int, (List.replicate 128 0))), .inr (.inl (.int, (List.replicate 128 0))), .inr (.inl (.int, (List.replicate 4 0))), .inr (.inl (.int, (List.replicate 4 0))), .inr (.inl (.int, (List.replicate 4 0))), .inr (.inl (.int, (List.replicate 4 0))), .inr (.inl (.int, (List.replicate 4 0))), .inr (.inl (.int, (List.replicate 4 0))), .inr (.inl (.int, (List.replicate 128 0))), .inr (.inl (.int, (List.replicate 128 0))), .inr (.inl (.int, (List.replicate 4 0))), .inr (.inl (.int, (List.replicate 128 0))), .inr (.inl (.int, (List.replicate 4 0))), .inr (.inl (.int, (List.replicate 128 0)))]) rfl rfl rfl rfl rfl rfl rfl rfl (tF2 Ad W x3 (1 : Int32) (8 : Int32) hr5) ?_
  refine QTri.steps Ad W 1 (st' := (191, [some (.ref 0), some (.int x1), some (.int x2), some (.int x3), some (.int x4), none], [], [.inl [.ref 1, .ref 2, .ref 3, .ref 4, .ref 5, .ref 6, .ref 7, .ref 8, .ref 9, .ref 10, .ref 11, .ref 12, .ref 13, .ref 14, .ref 15, .ref 16, .ref 17, .ref 18, .ref 19, .int r3, .int r4, .int r5, .int (f_period ob0), .int (f_nextSeq ob0), .int (f_qLen ob0)], .inr (.inl (.int, (List.replicate 32 0))), .inr (.inl (.boolean, (List.replicate 32 0))), .inr (.inl (.int, (List.replicate 64 0))), .inr (.inl (.int, (List.replicate 10 0))), .inr (.inl (.int, (List.replicate 128 0))), .inr (.inl (.int, (List.replicate 128 0))), .inr (.inl (.int, (List.replicate 128 0))), .inr (.inl (.int, (List.replicate 4 0))), .inr (.inl (.int, (List.replicate 4 0))), .inr (.inl (.int, (List.replicate 4 0))), .inr (.inl (.int, (List.replicate 4 0))), .inr (.inl (.int, (List.replicate 4 0))), .inr (.inl (.int, (List.replicate 4 0))), .inr (.inl (.int, (List.replicate 128 0))), .inr (.inl (.int, (List.replicate 128 0))), .inr (.inl (.int, (List.replicate 4 0))), .inr (.inl (.int, (List.replicate 128 0))), .inr (.inl (.int, (List.replicate 4 0))), .inr (.inl (.int, (List.replicate 128 0)))])) rfl ?_
  refine QTri.steps Ad W 5 (st' := (198, [some (.ref 0), some (.int x1), some (.int x2), some (.int x3), some (.int x4), none], [.int (16 : Int32), .int (0 : Int32), .int x4, .ref 0, .ref 0], [.inl [.ref 1, .ref 2, .ref 3, .ref 4, .ref 5, .ref 6, .ref 7, .ref 8, .ref 9, .ref 10, .ref 11, .ref 12, .ref 13, .ref 14, .ref 15, .ref 16, .ref 17, .ref 18, .ref 19, .int r3, .int r4, .int r5, .int (f_period ob0), .int (f_nextSeq ob0), .int (f_qLen ob0)], .inr (.inl (.int, (List.replicate 32 0))), .inr (.inl (.boolean, (List.replicate 32 0))), .inr (.inl (.int, (List.replicate 64 0))), .inr (.inl (.int, (List.replicate 10 0))), .inr (.inl (.int, (List.replicate 128 0))), .inr (.inl (.int, (List.replicate 128 0))), .inr (.inl (.int, (List.replicate 128 0))), .inr (.inl (.int, (List.replicate 4 0))), .inr (.inl (.int, (List.replicate 4 0))), .inr (.inl (.int, (List.replicate 4 0))), .inr (.inl (.int, (List.replicate 4 0))), .inr (.inl (.int, (List.replicate 4 0))), .inr (.inl (.int, (List.replicate 4 0))), .inr (.inl (.int, (List.replicate 128 0))), .inr (.inl (.int, (List.replicate 128 0))), .inr (.inl (.int, (List.replicate 4 0))), .inr (.inl (.int, (List.replicate 128 0))), .inr (.inl (.int, (List.replicate 4 0))), .inr (.inl (.int, (List.replicate 128 0)))])) rfl ?_
  obtain ⟨r6, hr6, h⟩ := Option.bind_eq_some_iff.mp h
  refine QTri.callP W (a := 0) (as := [.int x4, .int (0 : Int32), .int (16 : Int32)]) (rest := [.ref 0]) (w := (some (.int r6))) (σ₁ := [.inl [.ref 1, .ref 2, .ref 3, .ref 4, .ref 5, .ref 6, .ref 7, .ref 8, .ref 9, .ref 10, .ref 11, .ref 12, .ref 13, .ref 14, .ref 15, .ref 16, .ref 17, .ref 18, .ref 19, .int r3, .int r4, .int r5, .int (f_period ob0), .int (f_nextSeq ob0), .int (f_qLen ob0)], .inr (.inl (.int, (List.replicate 32 0))), .inr (.inl (.boolean, (List.replicate 32 0))), .inr (.inl (.int, (List.replicate 64 0))), .inr (.inl (.int, (List.replicate 10 0))), .inr (.inl (.int, (List.replicate 128 0))), .inr (.inl (.int, (List.replicate 128 0))), .inr (.inl (.int, (List.replicate 128 0))), .inr (.inl (.int, (List.replicate 4 0))), .inr (.inl (.int, (List.replicate 4 0))), .inr (.inl (.int, (List.replicate 4 0))), .inr (.inl (.int, (List.replicate 4 0))), .inr (.inl (.int, (List.replicate 4 0))), .inr (.inl (.int, (List.replicate 4 0))), .inr (.inl (.int, (List.replicate 128 0))), .inr (.inl (.int, (List.replicate 128 0))), .inr (.inl (.int, (List.replicate 4 0))), .inr (.inl (.int, (List.replicate 128 0))), .inr (.inl (.int, (List.replicate 4 0))), .inr (.inl (.int, (List.replicate 128 0)))]) rfl rfl rfl rfl rfl rfl rfl rfl (tF2 Ad W x4 (0 : Int32) (16 : Int32) hr6) ?_
  refine QTri.steps Ad W 1 (st' := (204, [some (.ref 0), some (.int x1), some (.int x2), some (.int x3), some (.int x4), none], [], [.inl [.ref 1, .ref 2, .ref 3, .ref 4, .ref 5, .ref 6, .ref 7, .ref 8, .ref 9, .ref 10, .ref 11, .ref 12, .ref 13, .ref 14, .ref 15, .ref 16, .ref 17, .ref 18, .ref 19, .int r3, .int r4, .int r5, .int r6, .int (f_nextSeq ob0), .int (f_qLen ob0)], .inr (.inl (.int, (List.replicate 32 0))), .inr (.inl (.boolean, (List.replicate 32 0))), .inr (.inl (.int, (List.replicate 64 0))), .inr (.inl (.int, (List.replicate 10 0))), .inr (.inl (.int, (List.replicate 128 0))), .inr (.inl (.int, (List.replicate 128 0))), .inr (.inl (.int, (List.replicate 128 0))), .inr (.inl (.int, (List.replicate 4 0))), .inr (.inl (.int, (List.replicate 4 0))), .inr (.inl (.int, (List.replicate 4 0))), .inr (.inl (.int, (List.replicate 4 0))), .inr (.inl (.int, (List.replicate 4 0))), .inr (.inl (.int, (List.replicate 4 0))), .inr (.inl (.int, (List.replicate 128 0))), .inr (.inl (.int, (List.replicate 128 0))), .inr (.inl (.int, (List.replicate 4 0))), .inr (.inl (.int, (List.replicate 128 0))), .inr (.inl (.int, (List.replicate 4 0))), .inr (.inl (.int, (List.replicate 128 0)))])) rfl ?_
  refine QTri.steps Ad W 2 (st' := (207, [some (.ref 0), some (.int x1), some (.int x2), some (.int x3), some (.int x4), some (.int (0 : Int32))], [], [.inl [.ref 1, .ref 2, .ref 3, .ref 4, .ref 5, .ref 6, .ref 7, .ref 8, .ref 9, .ref 10, .ref 11, .ref 12, .ref 13, .ref 14, .ref 15, .ref 16, .ref 17, .ref 18, .ref 19, .int r3, .int r4, .int r5, .int r6, .int (f_nextSeq ob0), .int (f_qLen ob0)], .inr (.inl (.int, (List.replicate 32 0))), .inr (.inl (.boolean, (List.replicate 32 0))), .inr (.inl (.int, (List.replicate 64 0))), .inr (.inl (.int, (List.replicate 10 0))), .inr (.inl (.int, (List.replicate 128 0))), .inr (.inl (.int, (List.replicate 128 0))), .inr (.inl (.int, (List.replicate 128 0))), .inr (.inl (.int, (List.replicate 4 0))), .inr (.inl (.int, (List.replicate 4 0))), .inr (.inl (.int, (List.replicate 4 0))), .inr (.inl (.int, (List.replicate 4 0))), .inr (.inl (.int, (List.replicate 4 0))), .inr (.inl (.int, (List.replicate 4 0))), .inr (.inl (.int, (List.replicate 128 0))), .inr (.inl (.int, (List.replicate 128 0))), .inr (.inl (.int, (List.replicate 4 0))), .inr (.inl (.int, (List.replicate 128 0))), .inr (.inl (.int, (List.replicate 4 0))), .inr (.inl (.int, (List.replicate 128 0)))])) rfl ?_
  have E7 : ([.inl [.ref 1, .ref 2, .ref 3, .ref 4, .ref 5, .ref 6, .ref 7, .ref 8, .ref 9, .ref 10, .ref 11, .ref 12, .ref 13, .ref 14, .ref 15, .ref 16, .ref 17, .ref 18, .ref 19, .int r3, .int r4, .int r5, .int r6, .int (f_nextSeq ob0), .int (f_qLen ob0)], .inr (.inl (.int, (List.replicate 32 0))), .inr (.inl (.boolean, (List.replicate 32 0))), .inr (.inl (.int, (List.replicate 64 0))), .inr (.inl (.int, (List.replicate 10 0))), .inr (.inl (.int, (List.replicate 128 0))), .inr (.inl (.int, (List.replicate 128 0))), .inr (.inl (.int, (List.replicate 128 0))), .inr (.inl (.int, (List.replicate 4 0))), .inr (.inl (.int, (List.replicate 4 0))), .inr (.inl (.int, (List.replicate 4 0))), .inr (.inl (.int, (List.replicate 4 0))), .inr (.inl (.int, (List.replicate 4 0))), .inr (.inl (.int, (List.replicate 4 0))), .inr (.inl (.int, (List.replicate 128 0))), .inr (.inl (.int, (List.replicate 128 0))), .inr (.inl (.int, (List.replicate 4 0))), .inr (.inl (.int, (List.replicate 128 0))), .inr (.inl (.int, (List.replicate 4 0))), .inr (.inl (.int, (List.replicate 128 0)))] : QHeap) = (H0 (s_period (s_repair (s_back (s_win (s_nakBuf (s_lostLen (s_lostLog (s_delLen (s_delVal (s_delSeq (s_drops (s_dups (s_lossLeft (s_rxTrail (s_rxLead (s_rxNext (s_rxVal (s_timer (s_state (s_stats (s_queue (s_pend (s_srcPayload ob0 (List.replicate 32 0)) (List.replicate 32 0)) (List.replicate 64 0)) (List.replicate 10 0)) (List.replicate 128 0)) (List.replicate 128 0)) (List.replicate 128 0)) (List.replicate 4 0)) (List.replicate 4 0)) (List.replicate 4 0)) (List.replicate 4 0)) (List.replicate 4 0)) (List.replicate 4 0)) (List.replicate 128 0)) (List.replicate 128 0)) (List.replicate 4 0)) (List.replicate 128 0)) (List.replicate 4 0)) (List.replicate 128 0)) r3) r4) r5) r6)) := by dsimp only [H0, f_srcPayload, f_pend, f_queue, f_stats, f_state, f_timer, f_rxVal, f_rxNext, f_rxLead, f_rxTrail, f_lossLeft, f_dups, f_drops, f_delSeq, f_delVal, f_delLen, f_lostLog, f_lostLen, f_nakBuf, f_win, f_back, f_repair, f_period, f_nextSeq, f_qLen, s_srcPayload, s_pend, s_queue, s_stats, s_state, s_timer, s_rxVal, s_rxNext, s_rxLead, s_rxTrail, s_lossLeft, s_dups, s_drops, s_delSeq, s_delVal, s_delLen, s_lostLog, s_lostLen, s_nakBuf, s_win, s_back, s_repair, s_period, ob0]
  rw [E7]
  obtain ⟨e11, he11, h⟩ := Option.bind_eq_some_iff.mp h
  refine QTri.mask [true, false, false, false, false, true] (loopN_tri (B := B1_207) (T := fun lv12 => QTri l Z n0 ad 1 (207, [some (.ref 0), none, none, none, none, some (.int lv12.1)], [], (H0 lv12.2)) (none : Option Value) (H0 r)) (KE := fun e11a => (none : Option Value) = (none : Option Value) ∧ (H0 r) = (H0 e11a)) (fun lv12 r hB hE hC => tB1_207 Ad W  lv12 hB (fun x q => hE _ q) (fun x q => hC x q)) qN ((0 : Int32), (s_period (s_repair (s_back (s_win (s_nakBuf (s_lostLen (s_lostLog (s_delLen (s_delVal (s_delSeq (s_drops (s_dups (s_lossLeft (s_rxTrail (s_rxLead (s_rxNext (s_rxVal (s_timer (s_state (s_stats (s_queue (s_pend (s_srcPayload ob0 (List.replicate 32 0)) (List.replicate 32 0)) (List.replicate 64 0)) (List.replicate 10 0)) (List.replicate 128 0)) (List.replicate 128 0)) (List.replicate 128 0)) (List.replicate 4 0)) (List.replicate 4 0)) (List.replicate 4 0)) (List.replicate 4 0)) (List.replicate 4 0)) (List.replicate 4 0)) (List.replicate 128 0)) (List.replicate 128 0)) (List.replicate 4 0)) (List.replicate 128 0)) (List.replicate 4 0)) (List.replicate 128 0)) r3) r4) r5) r6)) e11 he11 ?_)
  obtain rfl := Option.some.inj h
  exact ⟨rfl, rfl⟩
/-- lead()I -/
def F5 (o : Ob) : Option (Int32) :=
  some ((f_nextSeq o) - (1 : Int32))
theorem tF5 (Ad : QAd n0 ad) (W : QW Z a0) (o : Ob) {r : Int32} (h : F5 o = some r) : QTri l Z n0 ad 5 (0, qentry [.ref 0] (pMaxL 5), [], (H0 o)) (some (Value.int r)) (H0 o) := by
  unfold F5 at h
  refine QTri.steps Ad W 4 (st' := (6, [some (.ref 0)], [.int ((f_nextSeq o) - (1 : Int32))], (H0 o))) rfl ?_
  obtain rfl := Option.some.inj h
  exact QTri.retI rfl rfl
/-- trail()I -/
def F6 (o : Ob) : Option (Int32) :=
  (if ((f_nextSeq o) - (f_win o)) < (0 : Int32) then some (0 : Int32) else some ((f_nextSeq o) - (f_win o)))
theorem tF6 (Ad : QAd n0 ad) (W : QW Z a0) (o : Ob) {r : Int32} (h : F6 o = some r) : QTri l Z n0 ad 6 (0, qentry [.ref 0] (pMaxL 6), [], (H0 o)) (some (Value.int r)) (H0 o) := by
  unfold F6 at h
  refine QTri.steps Ad W 7 (st' := (11, [some (.ref 0), some (.int ((f_nextSeq o) - (f_win o)))], [.int ((f_nextSeq o) - (f_win o))], (H0 o))) rfl ?_
  rcases qite h with ⟨hc26, h⟩ | ⟨hc26, h⟩
  · refine QTri.brF Ad W (t := 16) (f := 14) (L := [some (.ref 0), some (.int ((f_nextSeq o) - (f_win o)))]) (S := []) (σ := (H0 o)) rfl (XT.i0_ge_f hc26) ?_
    refine QTri.steps Ad W 1 (st' := (15, [some (.ref 0), some (.int ((f_nextSeq o) - (f_win o)))], [.int (0 : Int32)], (H0 o))) rfl ?_
    obtain rfl := Option.some.inj h
    exact QTri.retI rfl rfl
  · refine QTri.brT Ad W (t := 16) (f := 14) (L := [some (.ref 0), some (.int ((f_nextSeq o) - (f_win o)))]) (S := []) (σ := (H0 o)) rfl (XT.i0_ge_t hc26) ?_
    refine QTri.steps Ad W 1 (st' := (17, [some (.ref 0), some (.int ((f_nextSeq o) - (f_win o)))], [.int ((f_nextSeq o) - (f_win o))], (H0 o))) rfl ?_
    obtain rfl := Option.some.inj h
    exact QTri.retI rfl rfl
/-- validSeq(I)Z -/
def F10 (x1 : Int32) : Option (Int32) :=
  (if x1 < (0 : Int32) then some (0 : Int32) else (if x1 < (32 : Int32) then some (1 : Int32) else some (0 : Int32)))
theorem tF10 (Ad : QAd n0 ad) (W : QW Z a0) {a : Nat} {σ : QHeap} (x1 : Int32) {r : Int32} (h : F10 x1 = some r) : QTri l Z n0 ad 10 (0, qentry [.ref a, .int x1] (pMaxL 10), [], σ) (some (Value.int r)) σ := by
  unfold F10 at h
  refine QTri.steps Ad W 1 (st' := (1, [some (.ref a), some (.int x1)], [.int x1], σ)) rfl ?_
  rcases qite h with ⟨hc29, h⟩ | ⟨hc29, h⟩
  · refine QTri.brT Ad W (t := 14) (f := 4) (L := [some (.ref a), some (.int x1)]) (S := []) (σ := σ) rfl (XT.i0_lt_t hc29) ?_
    refine QTri.steps Ad W 1 (st' := (15, [some (.ref a), some (.int x1)], [.int (0 : Int32)], σ)) rfl ?_
    obtain rfl := Option.some.inj h
    exact QTri.retZ rfl rfl
  · refine QTri.brF Ad W (t := 14) (f := 4) (L := [some (.ref a), some (.int x1)]) (S := []) (σ := σ) rfl (XT.i0_lt_f hc29) ?_
    refine QTri.steps Ad W 2 (st' := (7, [some (.ref a), some (.int x1)], [.int (32 : Int32), .int x1], σ)) rfl ?_
    rcases qite h with ⟨hc30, h⟩ | ⟨hc30, h⟩
    · refine QTri.brF Ad W (t := 14) (f := 10) (L := [some (.ref a), some (.int x1)]) (S := []) (σ := σ) rfl (XT.ii_ge_f hc30) ?_
      refine QTri.steps Ad W 2 (st' := (15, [some (.ref a), some (.int x1)], [.int (1 : Int32)], σ)) rfl ?_
      obtain rfl := Option.some.inj h
      exact QTri.retZ rfl rfl
    · refine QTri.brT Ad W (t := 14) (f := 10) (L := [some (.ref a), some (.int x1)]) (S := []) (σ := σ) rfl (XT.ii_ge_t hc30) ?_
      refine QTri.steps Ad W 1 (st' := (15, [some (.ref a), some (.int x1)], [.int (0 : Int32)], σ)) rfl ?_
      obtain rfl := Option.some.inj h
      exact QTri.retZ rfl rfl
def B7_23 (x3 : Int32) (v : Int32 × Ob) : Option (((Ob)) ⊕ (Int32 × Ob)) :=
  (if v.1 < x3 then (if v.1 < (32 : Int32) then (aset (f_pend v.2) v.1 (0 : Int32)).bind fun y35 => some (.inr ((v.1 + (1 : Int32)), (s_pend v.2 y35))) else some (.inl v.2)) else some (.inl v.2))
theorem tB7_23 (Ad : QAd n0 ad) (W : QW Z a0) (x3 : Int32) (v : Int32 × Ob) {r : ((Ob)) ⊕ (Int32 × Ob)} {u : Option Value} {τ : QHeap} (h : B7_23 x3 v = some r) (hx0 : ∀ x : Ob, r = .inl x → u = (none : Option Value) ∧ τ = (H0 x)) (hc : ∀ x : Int32 × Ob, r = .inr x → QTri l Z n0 ad 7 (23, [some (.ref 0), none, none, some (.int x3), some (.int x.1)], [], (H0 x.2)) u τ) : QTri l Z n0 ad 7 (23, [some (.ref 0), none, none, some (.int x3), some (.int v.1)], [], (H0 v.2)) u τ := by
  unfold B7_23 at h
  refine QTri.steps Ad W 2 (st' := (26, [some (.ref 0), none, none, some (.int x3), some (.int v.1)], [.int x3, .int v.1], (H0 v.2))) rfl ?_
  rcases qite h with ⟨hc33, h⟩ | ⟨hc33, h⟩
  · refine QTri.brF Ad W (t := 50) (f := 29) (L := [some (.ref 0), none, none, some (.int x3), some (.int v.1)]) (S := []) (σ := (H0 v.2)) rfl (XT.ii_ge_f hc33) ?_
    refine QTri.steps Ad W 2 (st' := (33, [some (.ref 0), none, none, some (.int x3), some (.int v.1)], [.int (32 : Int32), .int v.1], (H0 v.2))) rfl ?_
    rcases qite h with ⟨hc34, h⟩ | ⟨hc34, h⟩
    · refine QTri.brF Ad W (t := 50) (f := 36) (L := [some (.ref 0), none, none, some (.int x3), some (.int v.1)]) (S := []) (σ := (H0 v.2)) rfl (XT.ii_ge_f hc34) ?_
      refine QTri.steps Ad W 4 (st' := (43, [some (.ref 0), none, none, some (.int x3), some (.int v.1)], [.int (0 : Int32), .int v.1, .ref 2], (H0 v.2))) rfl ?_
      obtain ⟨y35, hy35, h⟩ := Option.bind_eq_some_iff.mp h
      refine QTri.bnd Ad W (f := fun y35 => (44, [some (.ref 0), none, none, some (.int x3), some (.int v.1)], [], [.inl [.ref 1, .ref 2, .ref 3, .ref 4, .ref 5, .ref 6, .ref 7, .ref 8, .ref 9, .ref 10, .ref 11, .ref 12, .ref 13, .ref 14, .ref 15, .ref 16, .ref 17, .ref 18, .ref 19, .int (f_win v.2), .int (f_back v.2), .int (f_repair v.2), .int (f_period v.2), .int (f_nextSeq v.2), .int (f_qLen v.2)], .inr (.inl (.int, (f_srcPayload v.2))), .inr (.inl (.boolean, y35)), .inr (.inl (.int, (f_queue v.2))), .inr (.inl (.int, (f_stats v.2))), .inr (.inl (.int, (f_state v.2))), .inr (.inl (.int, (f_timer v.2))), .inr (.inl (.int, (f_rxVal v.2))), .inr (.inl (.int, (f_rxNext v.2))), .inr (.inl (.int, (f_rxLead v.2))), .inr (.inl (.int, (f_rxTrail v.2))), .inr (.inl (.int, (f_lossLeft v.2))), .inr (.inl (.int, (f_dups v.2))), .inr (.inl (.int, (f_drops v.2))), .inr (.inl (.int, (f_delSeq v.2))), .inr (.inl (.int, (f_delVal v.2))), .inr (.inl (.int, (f_delLen v.2))), .inr (.inl (.int, (f_lostLog v.2))), .inr (.inl (.int, (f_lostLen v.2))), .inr (.inl (.int, (f_nakBuf v.2)))])) rfl hy35 ?_
      refine QTri.steps Ad W 2 (st' := (23, [some (.ref 0), none, none, some (.int x3), some (.int (v.1 + (1 : Int32)))], [], [.inl [.ref 1, .ref 2, .ref 3, .ref 4, .ref 5, .ref 6, .ref 7, .ref 8, .ref 9, .ref 10, .ref 11, .ref 12, .ref 13, .ref 14, .ref 15, .ref 16, .ref 17, .ref 18, .ref 19, .int (f_win v.2), .int (f_back v.2), .int (f_repair v.2), .int (f_period v.2), .int (f_nextSeq v.2), .int (f_qLen v.2)], .inr (.inl (.int, (f_srcPayload v.2))), .inr (.inl (.boolean, y35)), .inr (.inl (.int, (f_queue v.2))), .inr (.inl (.int, (f_stats v.2))), .inr (.inl (.int, (f_state v.2))), .inr (.inl (.int, (f_timer v.2))), .inr (.inl (.int, (f_rxVal v.2))), .inr (.inl (.int, (f_rxNext v.2))), .inr (.inl (.int, (f_rxLead v.2))), .inr (.inl (.int, (f_rxTrail v.2))), .inr (.inl (.int, (f_lossLeft v.2))), .inr (.inl (.int, (f_dups v.2))), .inr (.inl (.int, (f_drops v.2))), .inr (.inl (.int, (f_delSeq v.2))), .inr (.inl (.int, (f_delVal v.2))), .inr (.inl (.int, (f_delLen v.2))), .inr (.inl (.int, (f_lostLog v.2))), .inr (.inl (.int, (f_lostLen v.2))), .inr (.inl (.int, (f_nakBuf v.2)))])) rfl ?_
      have E36 : ([.inl [.ref 1, .ref 2, .ref 3, .ref 4, .ref 5, .ref 6, .ref 7, .ref 8, .ref 9, .ref 10, .ref 11, .ref 12, .ref 13, .ref 14, .ref 15, .ref 16, .ref 17, .ref 18, .ref 19, .int (f_win v.2), .int (f_back v.2), .int (f_repair v.2), .int (f_period v.2), .int (f_nextSeq v.2), .int (f_qLen v.2)], .inr (.inl (.int, (f_srcPayload v.2))), .inr (.inl (.boolean, y35)), .inr (.inl (.int, (f_queue v.2))), .inr (.inl (.int, (f_stats v.2))), .inr (.inl (.int, (f_state v.2))), .inr (.inl (.int, (f_timer v.2))), .inr (.inl (.int, (f_rxVal v.2))), .inr (.inl (.int, (f_rxNext v.2))), .inr (.inl (.int, (f_rxLead v.2))), .inr (.inl (.int, (f_rxTrail v.2))), .inr (.inl (.int, (f_lossLeft v.2))), .inr (.inl (.int, (f_dups v.2))), .inr (.inl (.int, (f_drops v.2))), .inr (.inl (.int, (f_delSeq v.2))), .inr (.inl (.int, (f_delVal v.2))), .inr (.inl (.int, (f_delLen v.2))), .inr (.inl (.int, (f_lostLog v.2))), .inr (.inl (.int, (f_lostLen v.2))), .inr (.inl (.int, (f_nakBuf v.2)))] : QHeap) = (H0 (s_pend v.2 y35)) := by dsimp only [H0, f_srcPayload, f_pend, f_queue, f_stats, f_state, f_timer, f_rxVal, f_rxNext, f_rxLead, f_rxTrail, f_lossLeft, f_dups, f_drops, f_delSeq, f_delVal, f_delLen, f_lostLog, f_lostLen, f_nakBuf, f_win, f_back, f_repair, f_period, f_nextSeq, f_qLen, s_pend]
      rw [E36]
      obtain rfl := Option.some.inj h
      exact QTri.mask [true, false, false, true, true] (hc ((v.1 + (1 : Int32)), (s_pend v.2 y35)) rfl)
    · refine QTri.brT Ad W (t := 50) (f := 36) (L := [some (.ref 0), none, none, some (.int x3), some (.int v.1)]) (S := []) (σ := (H0 v.2)) rfl (XT.ii_ge_t hc34) ?_
      obtain rfl := Option.some.inj h
      obtain ⟨rfl, rfl⟩ := hx0 v.2 rfl
      exact QTri.ret0 rfl rfl
  · refine QTri.brT Ad W (t := 50) (f := 29) (L := [some (.ref 0), none, none, some (.int x3), some (.int v.1)]) (S := []) (σ := (H0 v.2)) rfl (XT.ii_ge_t hc33) ?_
    obtain rfl := Option.some.inj h
    obtain ⟨rfl, rfl⟩ := hx0 v.2 rfl
    exact QTri.ret0 rfl rfl
def J7_20 (o : Ob) (x3 : Int32) : Option (Ob) :=
  (loopN (B7_23 x3) qN ((0 : Int32), o)).bind fun e37 => some e37
theorem tJ7_20 (Ad : QAd n0 ad) (W : QW Z a0) (o : Ob) (x3 : Int32) {r : Ob} (h : J7_20 o x3 = some r) : QTri l Z n0 ad 7 (20, [some (.ref 0), none, none, some (.int x3), none], [], (H0 o)) (none : Option Value) (H0 r) := by
  unfold J7_20 at h
  refine QTri.steps Ad W 2 (st' := (23, [some (.ref 0), none, none, some (.int x3), some (.int (0 : Int32))], [], (H0 o))) rfl ?_
  obtain ⟨e37, he37, h⟩ := Option.bind_eq_some_iff.mp h
  refine QTri.mask [true, false, false, true, true] (loopN_tri (B := B7_23 x3) (T := fun lv38 => QTri l Z n0 ad 7 (23, [some (.ref 0), none, none, some (.int x3), some (.int lv38.1)], [], (H0 lv38.2)) (none : Option Value) (H0 r)) (KE := fun e37a => (none : Option Value) = (none : Option Value) ∧ (H0 r) = (H0 e37a)) (fun lv38 r hB hE hC => tB7_23 Ad W x3 lv38 hB (fun x q => hE _ q) (fun x q => hC x q)) qN ((0 : Int32), o) e37 he37 ?_)
  obtain rfl := Option.some.inj h
  exact ⟨rfl, rfl⟩
/-- aggregatorApply(III)V -/
def F7 (o : Ob) (x1 : Int32) (x2 : Int32) (x3 : Int32) : Option (Ob) :=
  (if x1 = (1 : Int32) then (F10 x2).bind fun r31 => (if r31 = (0 : Int32) then (J7_20 o x3) else (aset (f_pend o) x2 (0 : Int32)).bind fun y39 => (J7_20 (s_pend o y39) x3)) else (J7_20 o x3))
theorem tF7 (Ad : QAd n0 ad) (W : QW Z a0) (o : Ob) (x1 : Int32) (x2 : Int32) (x3 : Int32) {r : Ob} (h : F7 o x1 x2 x3 = some r) : QTri l Z n0 ad 7 (0, qentry [.ref 0, .int x1, .int x2, .int x3] (pMaxL 7), [], (H0 o)) (none : Option Value) (H0 r) := by
  unfold F7 at h
  refine QTri.steps Ad W 2 (st' := (2, [some (.ref 0), some (.int x1), some (.int x2), some (.int x3), none], [.int (1 : Int32), .int x1], (H0 o))) rfl ?_
  rcases qite h with ⟨hc28, h⟩ | ⟨hc28, h⟩
  · refine QTri.brF Ad W (t := 20) (f := 5) (L := [some (.ref 0), some (.int x1), some (.int x2), some (.int x3), none]) (S := []) (σ := (H0 o)) rfl (XT.ii_ne_f hc28) ?_
    refine QTri.steps Ad W 2 (st' := (7, [some (.ref 0), some (.int x1), some (.int x2), some (.int x3), none], [.int x2, .ref 0], (H0 o))) rfl ?_
    obtain ⟨r31, hr31, h⟩ := Option.bind_eq_some_iff.mp h
    refine QTri.callP W (a := 0) (as := [.int x2]) (rest := []) (w := (some (.int r31))) (σ₁ := (H0 o)) rfl rfl rfl rfl rfl rfl rfl rfl (tF10 Ad W x2 hr31) ?_
    rcases qite h with ⟨hc32, h⟩ | ⟨hc32, h⟩
    · refine QTri.brT Ad W (t := 20) (f := 13) (L := [some (.ref 0), some (.int x1), some (.int x2), some (.int x3), none]) (S := []) (σ := (H0 o)) rfl (XT.i0_eq_t hc32) ?_
      exact QTri.mask [true, false, false, true, false] (tJ7_20 Ad W o x3 h)
    · refine QTri.brF Ad W (t := 20) (f := 13) (L := [some (.ref 0), some (.int x1), some (.int x2), some (.int x3), none]) (S := []) (σ := (H0 o)) rfl (XT.i0_eq_f hc32) ?_
      refine QTri.steps Ad W 4 (st' := (19, [some (.ref 0), some (.int x1), some (.int x2), some (.int x3), none], [.int (0 : Int32), .int x2, .ref 2], (H0 o))) rfl ?_
      obtain ⟨y39, hy39, h⟩ := Option.bind_eq_some_iff.mp h
      refine QTri.bnd Ad W (f := fun y39 => (20, [some (.ref 0), some (.int x1), some (.int x2), some (.int x3), none], [], [.inl [.ref 1, .ref 2, .ref 3, .ref 4, .ref 5, .ref 6, .ref 7, .ref 8, .ref 9, .ref 10, .ref 11, .ref 12, .ref 13, .ref 14, .ref 15, .ref 16, .ref 17, .ref 18, .ref 19, .int (f_win o), .int (f_back o), .int (f_repair o), .int (f_period o), .int (f_nextSeq o), .int (f_qLen o)], .inr (.inl (.int, (f_srcPayload o))), .inr (.inl (.boolean, y39)), .inr (.inl (.int, (f_queue o))), .inr (.inl (.int, (f_stats o))), .inr (.inl (.int, (f_state o))), .inr (.inl (.int, (f_timer o))), .inr (.inl (.int, (f_rxVal o))), .inr (.inl (.int, (f_rxNext o))), .inr (.inl (.int, (f_rxLead o))), .inr (.inl (.int, (f_rxTrail o))), .inr (.inl (.int, (f_lossLeft o))), .inr (.inl (.int, (f_dups o))), .inr (.inl (.int, (f_drops o))), .inr (.inl (.int, (f_delSeq o))), .inr (.inl (.int, (f_delVal o))), .inr (.inl (.int, (f_delLen o))), .inr (.inl (.int, (f_lostLog o))), .inr (.inl (.int, (f_lostLen o))), .inr (.inl (.int, (f_nakBuf o)))])) rfl hy39 ?_
      have E40 : ([.inl [.ref 1, .ref 2, .ref 3, .ref 4, .ref 5, .ref 6, .ref 7, .ref 8, .ref 9, .ref 10, .ref 11, .ref 12, .ref 13, .ref 14, .ref 15, .ref 16, .ref 17, .ref 18, .ref 19, .int (f_win o), .int (f_back o), .int (f_repair o), .int (f_period o), .int (f_nextSeq o), .int (f_qLen o)], .inr (.inl (.int, (f_srcPayload o))), .inr (.inl (.boolean, y39)), .inr (.inl (.int, (f_queue o))), .inr (.inl (.int, (f_stats o))), .inr (.inl (.int, (f_state o))), .inr (.inl (.int, (f_timer o))), .inr (.inl (.int, (f_rxVal o))), .inr (.inl (.int, (f_rxNext o))), .inr (.inl (.int, (f_rxLead o))), .inr (.inl (.int, (f_rxTrail o))), .inr (.inl (.int, (f_lossLeft o))), .inr (.inl (.int, (f_dups o))), .inr (.inl (.int, (f_drops o))), .inr (.inl (.int, (f_delSeq o))), .inr (.inl (.int, (f_delVal o))), .inr (.inl (.int, (f_delLen o))), .inr (.inl (.int, (f_lostLog o))), .inr (.inl (.int, (f_lostLen o))), .inr (.inl (.int, (f_nakBuf o)))] : QHeap) = (H0 (s_pend o y39)) := by dsimp only [H0, f_srcPayload, f_pend, f_queue, f_stats, f_state, f_timer, f_rxVal, f_rxNext, f_rxLead, f_rxTrail, f_lossLeft, f_dups, f_drops, f_delSeq, f_delVal, f_delLen, f_lostLog, f_lostLen, f_nakBuf, f_win, f_back, f_repair, f_period, f_nextSeq, f_qLen, s_pend]
      rw [E40]
      exact QTri.mask [true, false, false, true, false] (tJ7_20 Ad W (s_pend o y39) x3 h)
  · refine QTri.brT Ad W (t := 20) (f := 5) (L := [some (.ref 0), some (.int x1), some (.int x2), some (.int x3), none]) (S := []) (σ := (H0 o)) rfl (XT.ii_ne_t hc28) ?_
    exact QTri.mask [true, false, false, true, false] (tJ7_20 Ad W o x3 h)
def B11_18 (o : Ob) (x1 : Int32) (x2 : Int32) (v : Int32) : Option (((Int32) ⊕ (Unit)) ⊕ (Int32)) :=
  (if x2 < v then some (.inl (Sum.inr ())) else (if v < (32 : Int32) then (aget (f_state o) ((x1 * (32 : Int32)) + v)).bind fun y61 => (if y61 = (0 : Int32) then some (.inl (Sum.inl ((x1 * (32 : Int32)) + v))) else some (.inr (v + (1 : Int32)))) else some (.inl (Sum.inr ()))))
theorem tB11_18 (Ad : QAd n0 ad) (W : QW Z a0) (o : Ob) (x1 : Int32) (x2 : Int32) (v : Int32) {r : ((Int32) ⊕ (Unit)) ⊕ (Int32)} {u : Option Value} {τ : QHeap} (h : B11_18 o x1 x2 v = some r) (hx0 : ∀ x : Int32, r = .inl (Sum.inl x) → QTri l Z n0 ad 11 (50, [some (.ref 0), some (.int x1), none, none, none, some (.int x)], [], (H0 o)) u τ) (hx1 : ∀ x : Unit, r = .inl (Sum.inr x) → QTri l Z n0 ad 11 (76, [some (.ref 0), some (.int x1), some (.int x2), none, none, none], [], (H0 o)) u τ) (hc : ∀ x : Int32, r = .inr x → QTri l Z n0 ad 11 (18, [some (.ref 0), some (.int x1), some (.int x2), none, some (.int x), none], [], (H0 o)) u τ) : QTri l Z n0 ad 11 (18, [some (.ref 0), some (.int x1), some (.int x2), none, some (.int v), none], [], (H0 o)) u τ := by
  unfold B11_18 at h
  refine QTri.steps Ad W 2 (st' := (21, [some (.ref 0), some (.int x1), some (.int x2), none, some (.int v), none], [.int x2, .int v], (H0 o))) rfl ?_
  rcases qite h with ⟨hc59, h⟩ | ⟨hc59, h⟩
  · refine QTri.brT Ad W (t := 76) (f := 24) (L := [some (.ref 0), some (.int x1), some (.int x2), none, some (.int v), none]) (S := []) (σ := (H0 o)) rfl (XT.ii_gt_t hc59) ?_
    obtain rfl := Option.some.inj h
    exact QTri.mask [true, true, true, false, false, false] (hx1 () rfl)
  · refine QTri.brF Ad W (t := 76) (f := 24) (L := [some (.ref 0), some (.int x1), some (.int x2), none, some (.int v), none]) (S := []) (σ := (H0 o)) rfl (XT.ii_gt_f hc59) ?_
    refine QTri.steps Ad W 2 (st' := (28, [some (.ref 0), some (.int x1), some (.int x2), none, some (.int v), none], [.int (32 : Int32), .int v], (H0 o))) rfl ?_
    rcases qite h with ⟨hc60, h⟩ | ⟨hc60, h⟩
    · refine QTri.brF Ad W (t := 76) (f := 31) (L := [some (.ref 0), some (.int x1), some (.int x2), none, some (.int v), none]) (S := []) (σ := (H0 o)) rfl (XT.ii_ge_f hc60) ?_
      refine QTri.steps Ad W 9 (st' := (46, [some (.ref 0), some (.int x1), some (.int x2), none, some (.int v), some (.int ((x1 * (32 : Int32)) + v))], [.int ((x1 * (32 : Int32)) + v), .ref 5], (H0 o))) rfl ?_
      obtain ⟨y61, hy61, h⟩ := Option.bind_eq_some_iff.mp h
      refine QTri.bnd Ad W (f := fun y61 => (47, [some (.ref 0), some (.int x1), some (.int x2), none, some (.int v), some (.int ((x1 * (32 : Int32)) + v))], [.int y61], (H0 o))) rfl hy61 ?_
      rcases qite h with ⟨hc62, h⟩ | ⟨hc62, h⟩
      · refine QTri.brF Ad W (t := 70) (f := 50) (L := [some (.ref 0), some (.int x1), some (.int x2), none, some (.int v), some (.int ((x1 * (32 : Int32)) + v))]) (S := []) (σ := (H0 o)) rfl (XT.i0_ne_f hc62) ?_
        obtain rfl := Option.some.inj h
        exact QTri.mask [true, true, false, false, false, true] (hx0 ((x1 * (32 : Int32)) + v) rfl)
      · refine QTri.brT Ad W (t := 70) (f := 50) (L := [some (.ref 0), some (.int x1), some (.int x2), none, some (.int v), some (.int ((x1 * (32 : Int32)) + v))]) (S := []) (σ := (H0 o)) rfl (XT.i0_ne_t hc62) ?_
        refine QTri.steps Ad W 2 (st' := (18, [some (.ref 0), some (.int x1), some (.int x2), none, some (.int (v + (1 : Int32))), some (.int ((x1 * (32 : Int32)) + v))], [], (H0 o))) rfl ?_
        obtain rfl := Option.some.inj h
        exact QTri.mask [true, true, true, false, true, false] (hc (v + (1 : Int32)) rfl)
    · refine QTri.brT Ad W (t := 76) (f := 31) (L := [some (.ref 0), some (.int x1), some (.int x2), none, some (.int v), none]) (S := []) (σ := (H0 o)) rfl (XT.ii_ge_t hc60) ?_
      obtain rfl := Option.some.inj h
      exact QTri.mask [true, true, true, false, false, false] (hx1 () rfl)
def J11_76 (o : Ob) (x1 : Int32) (x2 : Int32) : Option (Ob) :=
  (aget (f_rxLead o) x1).bind fun y66 => (if y66 < x2 then (aset (f_rxLead o) x1 x2).bind fun y68 => some (s_rxLead o y68) else some o)
theorem tJ11_76 (Ad : QAd n0 ad) (W : QW Z a0) (o : Ob) (x1 : Int32) (x2 : Int32) {r : Ob} (h : J11_76 o x1 x2 = some r) : QTri l Z n0 ad 11 (76, [some (.ref 0), some (.int x1), some (.int x2), none, none, none], [], (H0 o)) (none : Option Value) (H0 r) := by
  unfold J11_76 at h
  refine QTri.steps Ad W 4 (st' := (82, [some (.ref 0), some (.int x1), some (.int x2), none, none, none], [.int x1, .ref 9, .int x2], (H0 o))) rfl ?_
  obtain ⟨y66, hy66, h⟩ := Option.bind_eq_some_iff.mp h
  refine QTri.bnd Ad W (f := fun y66 => (83, [some (.ref 0), some (.int x1), some (.int x2), none, none, none], [.int y66, .int x2], (H0 o))) rfl hy66 ?_
  rcases qite h with ⟨hc67, h⟩ | ⟨hc67, h⟩
  · refine QTri.brF Ad W (t := 93) (f := 86) (L := [some (.ref 0), some (.int x1), some (.int x2), none, none, none]) (S := []) (σ := (H0 o)) rfl (XT.ii_le_f hc67) ?_
    refine QTri.steps Ad W 4 (st' := (92, [some (.ref 0), some (.int x1), some (.int x2), none, none, none], [.int x2, .int x1, .ref 9], (H0 o))) rfl ?_
    obtain ⟨y68, hy68, h⟩ := Option.bind_eq_some_iff.mp h
    refine QTri.bnd Ad W (f := fun y68 => (93, [some (.ref 0), some (.int x1), some (.int x2), none, none, none], [], [.inl [.ref 1, .ref 2, .ref 3, .ref 4, .ref 5, .ref 6, .ref 7, .ref 8, .ref 9, .ref 10, .ref 11, .ref 12, .ref 13, .ref 14, .ref 15, .ref 16, .ref 17, .ref 18, .ref 19, .int (f_win o), .int (f_back o), .int (f_repair o), .int (f_period o), .int (f_nextSeq o), .int (f_qLen o)], .inr (.inl (.int, (f_srcPayload o))), .inr (.inl (.boolean, (f_pend o))), .inr (.inl (.int, (f_queue o))), .inr (.inl (.int, (f_stats o))), .inr (.inl (.int, (f_state o))), .inr (.inl (.int, (f_timer o))), .inr (.inl (.int, (f_rxVal o))), .inr (.inl (.int, (f_rxNext o))), .inr (.inl (.int, y68)), .inr (.inl (.int, (f_rxTrail o))), .inr (.inl (.int, (f_lossLeft o))), .inr (.inl (.int, (f_dups o))), .inr (.inl (.int, (f_drops o))), .inr (.inl (.int, (f_delSeq o))), .inr (.inl (.int, (f_delVal o))), .inr (.inl (.int, (f_delLen o))), .inr (.inl (.int, (f_lostLog o))), .inr (.inl (.int, (f_lostLen o))), .inr (.inl (.int, (f_nakBuf o)))])) rfl hy68 ?_
    have E69 : ([.inl [.ref 1, .ref 2, .ref 3, .ref 4, .ref 5, .ref 6, .ref 7, .ref 8, .ref 9, .ref 10, .ref 11, .ref 12, .ref 13, .ref 14, .ref 15, .ref 16, .ref 17, .ref 18, .ref 19, .int (f_win o), .int (f_back o), .int (f_repair o), .int (f_period o), .int (f_nextSeq o), .int (f_qLen o)], .inr (.inl (.int, (f_srcPayload o))), .inr (.inl (.boolean, (f_pend o))), .inr (.inl (.int, (f_queue o))), .inr (.inl (.int, (f_stats o))), .inr (.inl (.int, (f_state o))), .inr (.inl (.int, (f_timer o))), .inr (.inl (.int, (f_rxVal o))), .inr (.inl (.int, (f_rxNext o))), .inr (.inl (.int, y68)), .inr (.inl (.int, (f_rxTrail o))), .inr (.inl (.int, (f_lossLeft o))), .inr (.inl (.int, (f_dups o))), .inr (.inl (.int, (f_drops o))), .inr (.inl (.int, (f_delSeq o))), .inr (.inl (.int, (f_delVal o))), .inr (.inl (.int, (f_delLen o))), .inr (.inl (.int, (f_lostLog o))), .inr (.inl (.int, (f_lostLen o))), .inr (.inl (.int, (f_nakBuf o)))] : QHeap) = (H0 (s_rxLead o y68)) := by dsimp only [H0, f_srcPayload, f_pend, f_queue, f_stats, f_state, f_timer, f_rxVal, f_rxNext, f_rxLead, f_rxTrail, f_lossLeft, f_dups, f_drops, f_delSeq, f_delVal, f_delLen, f_lostLog, f_lostLen, f_nakBuf, f_win, f_back, f_repair, f_period, f_nextSeq, f_qLen, s_rxLead]
    rw [E69]
    obtain rfl := Option.some.inj h
    exact QTri.ret0 rfl rfl
  · refine QTri.brT Ad W (t := 93) (f := 86) (L := [some (.ref 0), some (.int x1), some (.int x2), none, none, none]) (S := []) (σ := (H0 o)) rfl (XT.ii_le_t hc67) ?_
    obtain rfl := Option.some.inj h
    exact QTri.ret0 rfl rfl
/-- applyLead(II)V -/
def F11 (o : Ob) (x1 : Int32) (x2 : Int32) : Option (Ob) :=
  (aget (f_rxLead o) x1).bind fun y55 => ((loopN (B11_18 o x1 x2) qN (if (y55 + (1 : Int32)) < (0 : Int32) then (0 : Int32) else (y55 + (1 : Int32)))).bind fun e63 => match e63 with | .inl e63a => (aset (f_state o) e63a (1 : Int32)).bind fun y65 => none | .inr e63a => (J11_76 o x1 x2))
theorem tF11 (Ad : QAd n0 ad) (W : QW Z a0) (o : Ob) (x1 : Int32) (x2 : Int32) {r : Ob} (h : F11 o x1 x2 = some r) : QTri l Z n0 ad 11 (0, qentry [.ref 0, .int x1, .int x2] (pMaxL 11), [], (H0 o)) (none : Option Value) (H0 r) := by
  unfold F11 at h
  refine QTri.steps Ad W 3 (st' := (5, [some (.ref 0), some (.int x1), some (.int x2), none, none, none], [.int x1, .ref 9], (H0 o))) rfl ?_
  obtain ⟨y55, hy55, h⟩ := Option.bind_eq_some_iff.mp h
  refine QTri.bnd Ad W (f := fun y55 => (6, [some (.ref 0), some (.int x1), some (.int x2), none, none, none], [.int y55], (H0 o))) rfl hy55 ?_
  refine QTri.steps Ad W 4 (st' := (10, [some (.ref 0), some (.int x1), some (.int x2), some (.int (y55 + (1 : Int32))), none, none], [.int (y55 + (1 : Int32))], (H0 o))) rfl ?_
  have K57 : ∀ z56 : Int32, z56 = (if (y55 + (1 : Int32)) < (0 : Int32) then (0 : Int32) else (y55 + (1 : Int32))) → QTri l Z n0 ad 11 (15, [some (.ref 0), some (.int x1), some (.int x2), some (.int z56), none, none], [], (H0 o)) (none : Option Value) (H0 r) := by
    intro z56 ez56
    subst ez56
    refine QTri.steps Ad W 2 (st' := (18, [some (.ref 0), some (.int x1), some (.int x2), some (.int (if (y55 + (1 : Int32)) < (0 : Int32) then (0 : Int32) else (y55 + (1 : Int32)))), some (.int (if (y55 + (1 : Int32)) < (0 : Int32) then (0 : Int32) else (y55 + (1 : Int32)))), none], [], (H0 o))) rfl ?_
    obtain ⟨e63, he63, h⟩ := Option.bind_eq_some_iff.mp h
    refine QTri.mask [true, true, true, false, true, false] (loopN_tri (B := B11_18 o x1 x2) (T := fun lv64 => QTri l Z n0 ad 11 (18, [some (.ref 0), some (.int x1), some (.int x2), none, some (.int lv64), none], [], (H0 o)) (none : Option Value) (H0 r)) (KE := fun e => match e with | .inl e63a => QTri l Z n0 ad 11 (50, [some (.ref 0), some (.int x1), none, none, none, some (.int e63a)], [], (H0 o)) (none : Option Value) (H0 r) | .inr e63a => QTri l Z n0 ad 11 (76, [some (.ref 0), some (.int x1), some (.int x2), none, none, none], [], (H0 o)) (none : Option Value) (H0 r)) (fun lv64 r hB hE hC => tB11_18 Ad W o x1 x2 lv64 hB (fun x q => hE _ q) (fun x q => hE _ q) (fun x q => hC x q)) qN (if (y55 + (1 : Int32)) < (0 : Int32) then (0 : Int32) else (y55 + (1 : Int32))) e63 he63 ?_)
    rcases e63 with e63a | e63a
    · refine QTri.steps Ad W 4 (st' := (57, [some (.ref 0), some (.int x1), none, none, none, some (.int e63a)], [.int (1 : Int32), .int e63a, .ref 5], (H0 o))) rfl ?_
      obtain ⟨y65, hy65, h⟩ := Option.bind_eq_some_iff.mp h
      refine QTri.bnd Ad W (f := fun y65 => (58, [some (.ref 0), some (.int x1), none, none, none, some (.int e63a)], [], [.inl [.ref 1, .ref 2, .ref 3, .ref 4, .ref 5, .ref 6, .ref 7, .ref 8, .ref 9, .ref 10, .ref 11, .ref 12, .ref 13, .ref 14, .ref 15, .ref 16, .ref 17, .ref 18, .ref 19, .int (f_win o), .int (f_back o), .int (f_repair o), .int (f_period o), .int (f_nextSeq o), .int (f_qLen o)], .inr (.inl (.int, (f_srcPayload o))), .inr (.inl (.boolean, (f_pend o))), .inr (.inl (.int, (f_queue o))), .inr (.inl (.int, (f_stats o))), .inr (.inl (.int, y65)), .inr (.inl (.int, (f_timer o))), .inr (.inl (.int, (f_rxVal o))), .inr (.inl (.int, (f_rxNext o))), .inr (.inl (.int, (f_rxLead o))), .inr (.inl (.int, (f_rxTrail o))), .inr (.inl (.int, (f_lossLeft o))), .inr (.inl (.int, (f_dups o))), .inr (.inl (.int, (f_drops o))), .inr (.inl (.int, (f_delSeq o))), .inr (.inl (.int, (f_delVal o))), .inr (.inl (.int, (f_delLen o))), .inr (.inl (.int, (f_lostLog o))), .inr (.inl (.int, (f_lostLen o))), .inr (.inl (.int, (f_nakBuf o)))])) rfl hy65 ?_
      cases h
    · exact QTri.mask [true, true, true, false, false, false] (tJ11_76 Ad W o x1 x2 h)
  rcases Classical.em ((y55 + (1 : Int32)) < (0 : Int32)) with hc58 | hc58
  · refine QTri.brF Ad W (t := 15) (f := 13) (L := [some (.ref 0), some (.int x1), some (.int x2), some (.int (y55 + (1 : Int32))), none, none]) (S := []) (σ := (H0 o)) rfl (XT.i0_ge_f hc58) ?_
    refine QTri.steps Ad W 2 (st' := (15, [some (.ref 0), some (.int x1), some (.int x2), some (.int (0 : Int32)), none, none], [], (H0 o))) rfl ?_
    exact QTri.mask [true, true, true, true, false, false] (K57 _ (if_pos hc58).symm)
  · refine QTri.brT Ad W (t := 15) (f := 13) (L := [some (.ref 0), some (.int x1), some (.int x2), some (.int (y55 + (1 : Int32))), none, none]) (S := []) (σ := (H0 o)) rfl (XT.i0_ge_t hc58) ?_
    exact QTri.mask [true, true, true, true, false, false] (K57 _ (if_neg hc58).symm)
def J12_108 (o : Ob) (x1 : Int32) (x2 : Int32) (x4 : Int32) : Option (((Int32 × Int32) ⊕ (Ob)) ⊕ (Int32)) :=
  some (.inr (x4 + (1 : Int32)))
theorem tJ12_108 (Ad : QAd n0 ad) (W : QW Z a0) (o : Ob) (x1 : Int32) (x2 : Int32) (x4 : Int32) {r : ((Int32 × Int32) ⊕ (Ob)) ⊕ (Int32)} {u : Option Value} {τ : QHeap} (h : J12_108 o x1 x2 x4 = some r) (hx0 : ∀ x : Int32 × Int32, r = .inl (Sum.inl x) → QTri l Z n0 ad 12 (84, [some (.ref 0), some (.int x1), none, none, some (.int x.1), some (.int x.2), none], [], (H0 o)) u τ) (hx1 : ∀ x : Ob, r = .inl (Sum.inr x) → u = (none : Option Value) ∧ τ = (H0 x)) (hc : ∀ x : Int32, r = .inr x → QTri l Z n0 ad 12 (34, [some (.ref 0), some (.int x1), some (.int x2), none, some (.int x), none, none], [], (H0 o)) u τ) : QTri l Z n0 ad 12 (108, [some (.ref 0), some (.int x1), some (.int x2), none, some (.int x4), none, none], [], (H0 o)) u τ := by
  unfold J12_108 at h
  refine QTri.steps Ad W 2 (st' := (34, [some (.ref 0), some (.int x1), some (.int x2), none, some (.int (x4 + (1 : Int32))), none, none], [], (H0 o))) rfl ?_
  obtain rfl := Option.some.inj h
  exact QTri.mask [true, true, true, false, true, false, false] (hc (x4 + (1 : Int32)) rfl)
def B12_34 (o : Ob) (x1 : Int32) (x2 : Int32) (v : Int32) : Option (((Int32 × Int32) ⊕ (Ob)) ⊕ (Int32)) :=
  (if v < x2 then (if v < (32 : Int32) then (aget (f_state o) ((x1 * (32 : Int32)) + v)).bind fun y81 => (if y81 = (4 : Int32) then (J12_108 o x1 x2 v) else (if y81 = (5 : Int32) then (J12_108 o x1 x2 v) else (if y81 = (6 : Int32) then (J12_108 o x1 x2 v) else some (.inl (Sum.inl (v, ((x1 * (32 : Int32)) + v))))))) else some (.inl (Sum.inr o))) else some (.inl (Sum.inr o)))
theorem tB12_34 (Ad : QAd n0 ad) (W : QW Z a0) (o : Ob) (x1 : Int32) (x2 : Int32) (v : Int32) {r : ((Int32 × Int32) ⊕ (Ob)) ⊕ (Int32)} {u : Option Value} {τ : QHeap} (h : B12_34 o x1 x2 v = some r) (hx0 : ∀ x : Int32 × Int32, r = .inl (Sum.inl x) → QTri l Z n0 ad 12 (84, [some (.ref 0), some (.int x1), none, none, some (.int x.1), some (.int x.2), none], [], (H0 o)) u τ) (hx1 : ∀ x : Ob, r = .inl (Sum.inr x) → u = (none : Option Value) ∧ τ = (H0 x)) (hc : ∀ x : Int32, r = .inr x → QTri l Z n0 ad 12 (34, [some (.ref 0), some (.int x1), some (.int x2), none, some (.int x), none, none], [], (H0 o)) u τ) : QTri l Z n0 ad 12 (34, [some (.ref 0), some (.int x1), some (.int x2), none, some (.int v), none, none], [], (H0 o)) u τ := by
  unfold B12_34 at h
  refine QTri.steps Ad W 2 (st' := (37, [some (.ref 0), some (.int x1), some (.int x2), none, some (.int v), none, none], [.int x2, .int v], (H0 o))) rfl ?_
  rcases qite h with ⟨hc79, h⟩ | ⟨hc79, h⟩
  · refine QTri.brF Ad W (t := 114) (f := 40) (L := [some (.ref 0), some (.int x1), some (.int x2), none, some (.int v), none, none]) (S := []) (σ := (H0 o)) rfl (XT.ii_ge_f hc79) ?_
    refine QTri.steps Ad W 2 (st' := (44, [some (.ref 0), some (.int x1), some (.int x2), none, some (.int v), none, none], [.int (32 : Int32), .int v], (H0 o))) rfl ?_
    rcases qite h with ⟨hc80, h⟩ | ⟨hc80, h⟩
    · refine QTri.brF Ad W (t := 114) (f := 47) (L := [some (.ref 0), some (.int x1), some (.int x2), none, some (.int v), none, none]) (S := []) (σ := (H0 o)) rfl (XT.ii_ge_f hc80) ?_
      refine QTri.steps Ad W 9 (st' := (62, [some (.ref 0), some (.int x1), some (.int x2), none, some (.int v), some (.int ((x1 * (32 : Int32)) + v)), none], [.int ((x1 * (32 : Int32)) + v), .ref 5], (H0 o))) rfl ?_
      obtain ⟨y81, hy81, h⟩ := Option.bind_eq_some_iff.mp h
      refine QTri.bnd Ad W (f := fun y81 => (63, [some (.ref 0), some (.int x1), some (.int x2), none, some (.int v), some (.int ((x1 * (32 : Int32)) + v)), none], [.int y81], (H0 o))) rfl hy81 ?_
      refine QTri.steps Ad W 3 (st' := (68, [some (.ref 0), some (.int x1), some (.int x2), none, some (.int v), some (.int ((x1 * (32 : Int32)) + v)), some (.int y81)], [.int (4 : Int32), .int y81], (H0 o))) rfl ?_
      rcases qite h with ⟨hc82, h⟩ | ⟨hc82, h⟩
      · refine QTri.brT Ad W (t := 108) (f := 71) (L := [some (.ref 0), some (.int x1), some (.int x2), none, some (.int v), some (.int ((x1 * (32 : Int32)) + v)), some (.int y81)]) (S := []) (σ := (H0 o)) rfl (XT.ii_eq_t hc82) ?_
        exact QTri.mask [true, true, true, false, true, false, false] (tJ12_108 Ad W o x1 x2 v h hx0 hx1 hc)
      · refine QTri.brF Ad W (t := 108) (f := 71) (L := [some (.ref 0), some (.int x1), some (.int x2), none, some (.int v), some (.int ((x1 * (32 : Int32)) + v)), some (.int y81)]) (S := []) (σ := (H0 o)) rfl (XT.ii_eq_f hc82) ?_
        refine QTri.steps Ad W 2 (st' := (74, [some (.ref 0), some (.int x1), some (.int x2), none, some (.int v), some (.int ((x1 * (32 : Int32)) + v)), some (.int y81)], [.int (5 : Int32), .int y81], (H0 o))) rfl ?_
        rcases qite h with ⟨hc83, h⟩ | ⟨hc83, h⟩
        · refine QTri.brT Ad W (t := 108) (f := 77) (L := [some (.ref 0), some (.int x1), some (.int x2), none, some (.int v), some (.int ((x1 * (32 : Int32)) + v)), some (.int y81)]) (S := []) (σ := (H0 o)) rfl (XT.ii_eq_t hc83) ?_
          exact QTri.mask [true, true, true, false, true, false, false] (tJ12_108 Ad W o x1 x2 v h hx0 hx1 hc)
        · refine QTri.brF Ad W (t := 108) (f := 77) (L := [some (.ref 0), some (.int x1), some (.int x2), none, some (.int v), some (.int ((x1 * (32 : Int32)) + v)), some (.int y81)]) (S := []) (σ := (H0 o)) rfl (XT.ii_eq_f hc83) ?_
          refine QTri.steps Ad W 2 (st' := (81, [some (.ref 0), some (.int x1), some (.int x2), none, some (.int v), some (.int ((x1 * (32 : Int32)) + v)), some (.int y81)], [.int (6 : Int32), .int y81], (H0 o))) rfl ?_
          rcases qite h with ⟨hc84, h⟩ | ⟨hc84, h⟩
          · refine QTri.brT Ad W (t := 108) (f := 84) (L := [some (.ref 0), some (.int x1), some (.int x2), none, some (.int v), some (.int ((x1 * (32 : Int32)) + v)), some (.int y81)]) (S := []) (σ := (H0 o)) rfl (XT.ii_eq_t hc84) ?_
            exact QTri.mask [true, true, true, false, true, false, false] (tJ12_108 Ad W o x1 x2 v h hx0 hx1 hc)
          · refine QTri.brF Ad W (t := 108) (f := 84) (L := [some (.ref 0), some (.int x1), some (.int x2), none, some (.int v), some (.int ((x1 * (32 : Int32)) + v)), some (.int y81)]) (S := []) (σ := (H0 o)) rfl (XT.ii_eq_f hc84) ?_
            obtain rfl := Option.some.inj h
            exact QTri.mask [true, true, false, false, true, true, false] (hx0 (v, ((x1 * (32 : Int32)) + v)) rfl)
    · refine QTri.brT Ad W (t := 114) (f := 47) (L := [some (.ref 0), some (.int x1), some (.int x2), none, some (.int v), none, none]) (S := []) (σ := (H0 o)) rfl (XT.ii_ge_t hc80) ?_
      obtain rfl := Option.some.inj h
      obtain ⟨rfl, rfl⟩ := hx1 o rfl
      exact QTri.ret0 rfl rfl
  · refine QTri.brT Ad W (t := 114) (f := 40) (L := [some (.ref 0), some (.int x1), some (.int x2), none, some (.int v), none, none]) (S := []) (σ := (H0 o)) rfl (XT.ii_ge_t hc79) ?_
    obtain rfl := Option.some.inj h
    obtain ⟨rfl, rfl⟩ := hx1 o rfl
    exact QTri.ret0 rfl rfl
/-- applyTrail(II)V -/
def F12 (o : Ob) (x1 : Int32) (x2 : Int32) : Option (Ob) :=
  (aget (f_rxTrail o) x1).bind fun y71 => (if y71 < x2 then (aset (f_rxTrail o) x1 x2).bind fun y73 => (aget (f_rxNext o) x1).bind fun y74 => ((loopN (B12_34 (s_rxTrail o y73) x1 x2) qN (if y74 < (0 : Int32) then (0 : Int32) else y74)).bind fun e85 => match e85 with | .inl e85a => (aset (f_state (s_rxTrail o y73)) e85a.2 (6 : Int32)).bind fun y87 => (aset (f_timer (s_rxTrail o y73)) e85a.2 (0 : Int32)).bind fun y88 => none | .inr e85a => some e85a) else some o)
theorem tF12 (Ad : QAd n0 ad) (W : QW Z a0) (o : Ob) (x1 : Int32) (x2 : Int32) {r : Ob} (h : F12 o x1 x2 = some r) : QTri l Z n0 ad 12 (0, qentry [.ref 0, .int x1, .int x2] (pMaxL 12), [], (H0 o)) (none : Option Value) (H0 r) := by
  unfold F12 at h
  refine QTri.steps Ad W 4 (st' := (6, [some (.ref 0), some (.int x1), some (.int x2), none, none, none, none], [.int x1, .ref 10, .int x2], (H0 o))) rfl ?_
  obtain ⟨y71, hy71, h⟩ := Option.bind_eq_some_iff.mp h
  refine QTri.bnd Ad W (f := fun y71 => (7, [some (.ref 0), some (.int x1), some (.int x2), none, none, none, none], [.int y71, .int x2], (H0 o))) rfl hy71 ?_
  rcases qite h with ⟨hc72, h⟩ | ⟨hc72, h⟩
  · refine QTri.brT Ad W (t := 11) (f := 10) (L := [some (.ref 0), some (.int x1), some (.int x2), none, none, none, none]) (S := []) (σ := (H0 o)) rfl (XT.ii_gt_t hc72) ?_
    refine QTri.steps Ad W 4 (st' := (17, [some (.ref 0), some (.int x1), some (.int x2), none, none, none, none], [.int x2, .int x1, .ref 10], (H0 o))) rfl ?_
    obtain ⟨y73, hy73, h⟩ := Option.bind_eq_some_iff.mp h
    refine QTri.bnd Ad W (f := fun y73 => (18, [some (.ref 0), some (.int x1), some (.int x2), none, none, none, none], [], [.inl [.ref 1, .ref 2, .ref 3, .ref 4, .ref 5, .ref 6, .ref 7, .ref 8, .ref 9, .ref 10, .ref 11, .ref 12, .ref 13, .ref 14, .ref 15, .ref 16, .ref 17, .ref 18, .ref 19, .int (f_win o), .int (f_back o), .int (f_repair o), .int (f_period o), .int (f_nextSeq o), .int (f_qLen o)], .inr (.inl (.int, (f_srcPayload o))), .inr (.inl (.boolean, (f_pend o))), .inr (.inl (.int, (f_queue o))), .inr (.inl (.int, (f_stats o))), .inr (.inl (.int, (f_state o))), .inr (.inl (.int, (f_timer o))), .inr (.inl (.int, (f_rxVal o))), .inr (.inl (.int, (f_rxNext o))), .inr (.inl (.int, (f_rxLead o))), .inr (.inl (.int, y73)), .inr (.inl (.int, (f_lossLeft o))), .inr (.inl (.int, (f_dups o))), .inr (.inl (.int, (f_drops o))), .inr (.inl (.int, (f_delSeq o))), .inr (.inl (.int, (f_delVal o))), .inr (.inl (.int, (f_delLen o))), .inr (.inl (.int, (f_lostLog o))), .inr (.inl (.int, (f_lostLen o))), .inr (.inl (.int, (f_nakBuf o)))])) rfl hy73 ?_
    refine QTri.steps Ad W 3 (st' := (23, [some (.ref 0), some (.int x1), some (.int x2), none, none, none, none], [.int x1, .ref 8], [.inl [.ref 1, .ref 2, .ref 3, .ref 4, .ref 5, .ref 6, .ref 7, .ref 8, .ref 9, .ref 10, .ref 11, .ref 12, .ref 13, .ref 14, .ref 15, .ref 16, .ref 17, .ref 18, .ref 19, .int (f_win o), .int (f_back o), .int (f_repair o), .int (f_period o), .int (f_nextSeq o), .int (f_qLen o)], .inr (.inl (.int, (f_srcPayload o))), .inr (.inl (.boolean, (f_pend o))), .inr (.inl (.int, (f_queue o))), .inr (.inl (.int, (f_stats o))), .inr (.inl (.int, (f_state o))), .inr (.inl (.int, (f_timer o))), .inr (.inl (.int, (f_rxVal o))), .inr (.inl (.int, (f_rxNext o))), .inr (.inl (.int, (f_rxLead o))), .inr (.inl (.int, y73)), .inr (.inl (.int, (f_lossLeft o))), .inr (.inl (.int, (f_dups o))), .inr (.inl (.int, (f_drops o))), .inr (.inl (.int, (f_delSeq o))), .inr (.inl (.int, (f_delVal o))), .inr (.inl (.int, (f_delLen o))), .inr (.inl (.int, (f_lostLog o))), .inr (.inl (.int, (f_lostLen o))), .inr (.inl (.int, (f_nakBuf o)))])) rfl ?_
    obtain ⟨y74, hy74, h⟩ := Option.bind_eq_some_iff.mp h
    refine QTri.bnd Ad W (f := fun y74 => (24, [some (.ref 0), some (.int x1), some (.int x2), none, none, none, none], [.int y74], [.inl [.ref 1, .ref 2, .ref 3, .ref 4, .ref 5, .ref 6, .ref 7, .ref 8, .ref 9, .ref 10, .ref 11, .ref 12, .ref 13, .ref 14, .ref 15, .ref 16, .ref 17, .ref 18, .ref 19, .int (f_win o), .int (f_back o), .int (f_repair o), .int (f_period o), .int (f_nextSeq o), .int (f_qLen o)], .inr (.inl (.int, (f_srcPayload o))), .inr (.inl (.boolean, (f_pend o))), .inr (.inl (.int, (f_queue o))), .inr (.inl (.int, (f_stats o))), .inr (.inl (.int, (f_state o))), .inr (.inl (.int, (f_timer o))), .inr (.inl (.int, (f_rxVal o))), .inr (.inl (.int, (f_rxNext o))), .inr (.inl (.int, (f_rxLead o))), .inr (.inl (.int, y73)), .inr (.inl (.int, (f_lossLeft o))), .inr (.inl (.int, (f_dups o))), .inr (.inl (.int, (f_drops o))), .inr (.inl (.int, (f_delSeq o))), .inr (.inl (.int, (f_delVal o))), .inr (.inl (.int, (f_delLen o))), .inr (.inl (.int, (f_lostLog o))), .inr (.inl (.int, (f_lostLen o))), .inr (.inl (.int, (f_nakBuf o)))])) rfl hy74 ?_
    refine QTri.steps Ad W 2 (st' := (26, [some (.ref 0), some (.int x1), some (.int x2), some (.int y74), none, none, none], [.int y74], [.inl [.ref 1, .ref 2, .ref 3, .ref 4, .ref 5, .ref 6, .ref 7, .ref 8, .ref 9, .ref 10, .ref 11, .ref 12, .ref 13, .ref 14, .ref 15, .ref 16, .ref 17, .ref 18, .ref 19, .int (f_win o), .int (f_back o), .int (f_repair o), .int (f_period o), .int (f_nextSeq o), .int (f_qLen o)], .inr (.inl (.int, (f_srcPayload o))), .inr (.inl (.boolean, (f_pend o))), .inr (.inl (.int, (f_queue o))), .inr (.inl (.int, (f_stats o))), .inr (.inl (.int, (f_state o))), .inr (.inl (.int, (f_timer o))), .inr (.inl (.int, (f_rxVal o))), .inr (.inl (.int, (f_rxNext o))), .inr (.inl (.int, (f_rxLead o))), .inr (.inl (.int, y73)), .inr (.inl (.int, (f_lossLeft o))), .inr (.inl (.int, (f_dups o))), .inr (.inl (.int, (f_drops o))), .inr (.inl (.int, (f_delSeq o))), .inr (.inl (.int, (f_delVal o))), .inr (.inl (.int, (f_delLen o))), .inr (.inl (.int, (f_lostLog o))), .inr (.inl (.int, (f_lostLen o))), .inr (.inl (.int, (f_nakBuf o)))])) rfl ?_
    have K76 : ∀ z75 : Int32, z75 = (if y74 < (0 : Int32) then (0 : Int32) else y74) → QTri l Z n0 ad 12 (31, [some (.ref 0), some (.int x1), some (.int x2), some (.int z75), none, none, none], [], [.inl [.ref 1, .ref 2, .ref 3, .ref 4, .ref 5, .ref 6, .ref 7, .ref 8, .ref 9, .ref 10, .ref 11, .ref 12, .ref 13, .ref 14, .ref 15, .ref 16, .ref 17, .ref 18, .ref 19, .int (f_win o), .int (f_back o), .int (f_repair o), .int (f_period o), .int (f_nextSeq o), .int (f_qLen o)], .inr (.inl (.int, (f_srcPayload o))), .inr (.inl (.boolean, (f_pend o))), .inr (.inl (.int, (f_queue o))), .inr (.inl (.int, (f_stats o))), .inr (.inl (.int, (f_state o))), .inr (.inl (.int, (f_timer o))), .inr (.inl (.int, (f_rxVal o))), .inr (.inl (.int, (f_rxNext o))), .inr (.inl (.int, (f_rxLead o))), .inr (.inl (.int, y73)), .inr (.inl (.int, (f_lossLeft o))), .inr (.inl (.int, (f_dups o))), .inr (.inl (.int, (f_drops o))), .inr (.inl (.int, (f_delSeq o))), .inr (.inl (.int, (f_delVal o))), .inr (.inl (.int, (f_delLen o))), .inr (.inl (.int, (f_lostLog o))), .inr (.inl (.int, (f_lostLen o))), .inr (.inl (.int, (f_nakBuf o)))]) (none : Option Value) (H0 r) := by
      intro z75 ez75
      subst ez75
      refine QTri.steps Ad W 2 (st' := (34, [some (.ref 0), some (.int x1), some (.int x2), some (.int (if y74 < (0 : Int32) then (0 : Int32) else y74)), some (.int (if y74 < (0 : Int32) then (0 : Int32) else y74)), none, none], [], [.inl [.ref 1, .ref 2, .ref 3, .ref 4, .ref 5, .ref 6, .ref 7, .ref 8, .ref 9, .ref 10, .ref 11, .ref 12, .ref 13, .ref 14, .ref 15, .ref 16, .ref 17, .ref 18, .ref 19, .int (f_win o), .int (f_back o), .int (f_repair o), .int (f_period o), .int (f_nextSeq o), .int (f_qLen o)], .inr (.inl (.int, (f_srcPayload o))), .inr (.inl (.boolean, (f_pend o))), .inr (.inl (.int, (f_queue o))), .inr (.inl (.int, (f_stats o))), .inr (.inl (.int, (f_state o))), .inr (.inl (.int, (f_timer o))), .inr (.inl (.int, (f_rxVal o))), .inr (.inl (.int, (f_rxNext o))), .inr (.inl (.int, (f_rxLead o))), .inr (.inl (.int, y73)), .inr (.inl (.int, (f_lossLeft o))), .inr (.inl (.int, (f_dups o))), .inr (.inl (.int, (f_drops o))), .inr (.inl (.int, (f_delSeq o))), .inr (.inl (.int, (f_delVal o))), .inr (.inl (.int, (f_delLen o))), .inr (.inl (.int, (f_lostLog o))), .inr (.inl (.int, (f_lostLen o))), .inr (.inl (.int, (f_nakBuf o)))])) rfl ?_
      have E78 : ([.inl [.ref 1, .ref 2, .ref 3, .ref 4, .ref 5, .ref 6, .ref 7, .ref 8, .ref 9, .ref 10, .ref 11, .ref 12, .ref 13, .ref 14, .ref 15, .ref 16, .ref 17, .ref 18, .ref 19, .int (f_win o), .int (f_back o), .int (f_repair o), .int (f_period o), .int (f_nextSeq o), .int (f_qLen o)], .inr (.inl (.int, (f_srcPayload o))), .inr (.inl (.boolean, (f_pend o))), .inr (.inl (.int, (f_queue o))), .inr (.inl (.int, (f_stats o))), .inr (.inl (.int, (f_state o))), .inr (.inl (.int, (f_timer o))), .inr (.inl (.int, (f_rxVal o))), .inr (.inl (.int, (f_rxNext o))), .inr (.inl (.int, (f_rxLead o))), .inr (.inl (.int, y73)), .inr (.inl (.int, (f_lossLeft o))), .inr (.inl (.int, (f_dups o))), .inr (.inl (.int, (f_drops o))), .inr (.inl (.int, (f_delSeq o))), .inr (.inl (.int, (f_delVal o))), .inr (.inl (.int, (f_delLen o))), .inr (.inl (.int, (f_lostLog o))), .inr (.inl (.int, (f_lostLen o))), .inr (.inl (.int, (f_nakBuf o)))] : QHeap) = (H0 (s_rxTrail o y73)) := by dsimp only [H0, f_srcPayload, f_pend, f_queue, f_stats, f_state, f_timer, f_rxVal, f_rxNext, f_rxLead, f_rxTrail, f_lossLeft, f_dups, f_drops, f_delSeq, f_delVal, f_delLen, f_lostLog, f_lostLen, f_nakBuf, f_win, f_back, f_repair, f_period, f_nextSeq, f_qLen, s_rxTrail]
      rw [E78]
      obtain ⟨e85, he85, h⟩ := Option.bind_eq_some_iff.mp h
      refine QTri.mask [true, true, true, false, true, false, false] (loopN_tri (B := B12_34 (s_rxTrail o y73) x1 x2) (T := fun lv86 => QTri l Z n0 ad 12 (34, [some (.ref 0), some (.int x1), some (.int x2), none, some (.int lv86), none, none], [], (H0 (s_rxTrail o y73))) (none : Option Value) (H0 r)) (KE := fun e => match e with | .inl e85a => QTri l Z n0 ad 12 (84, [some (.ref 0), some (.int x1), none, none, some (.int e85a.1), some (.int e85a.2), none], [], (H0 (s_rxTrail o y73))) (none : Option Value) (H0 r) | .inr e85a => (none : Option Value) = (none : Option Value) ∧ (H0 r) = (H0 e85a)) (fun lv86 r hB hE hC => tB12_34 Ad W (s_rxTrail o y73) x1 x2 lv86 hB (fun x q => hE _ q) (fun x q => hE _ q) (fun x q => hC x q)) qN (if y74 < (0 : Int32) then (0 : Int32) else y74) e85 he85 ?_)
      rcases e85 with e85a | e85a
      · refine QTri.steps Ad W 4 (st' := (92, [some (.ref 0), some (.int x1), none, none, some (.int e85a.1), some (.int e85a.2), none], [.int (6 : Int32), .int e85a.2, .ref 5], (H0 (s_rxTrail o y73)))) rfl ?_
        obtain ⟨y87, hy87, h⟩ := Option.bind_eq_some_iff.mp h
        refine QTri.bnd Ad W (f := fun y87 => (93, [some (.ref 0), some (.int x1), none, none, some (.int e85a.1), some (.int e85a.2), none], [], [.inl [.ref 1, .ref 2, .ref 3, .ref 4, .ref 5, .ref 6, .ref 7, .ref 8, .ref 9, .ref 10, .ref 11, .ref 12, .ref 13, .ref 14, .ref 15, .ref 16, .ref 17, .ref 18, .ref 19, .int (f_win (s_rxTrail o y73)), .int (f_back (s_rxTrail o y73)), .int (f_repair (s_rxTrail o y73)), .int (f_period (s_rxTrail o y73)), .int (f_nextSeq (s_rxTrail o y73)), .int (f_qLen (s_rxTrail o y73))], .inr (.inl (.int, (f_srcPayload (s_rxTrail o y73)))), .inr (.inl (.boolean, (f_pend (s_rxTrail o y73)))), .inr (.inl (.int, (f_queue (s_rxTrail o y73)))), .inr (.inl (.int, (f_stats (s_rxTrail o y73)))), .inr (.inl (.int, y87)), .inr (.inl (.int, (f_timer (s_rxTrail o y73)))), .inr (.inl (.int, (f_rxVal (s_rxTrail o y73)))), .inr (.inl (.int, (f_rxNext (s_rxTrail o y73)))), .inr (.inl (.int, (f_rxLead (s_rxTrail o y73)))), .inr (.inl (.int, (f_rxTrail (s_rxTrail o y73)))), .inr (.inl (.int, (f_lossLeft (s_rxTrail o y73)))), .inr (.inl (.int, (f_dups (s_rxTrail o y73)))), .inr (.inl (.int, (f_drops (s_rxTrail o y73)))), .inr (.inl (.int, (f_delSeq (s_rxTrail o y73)))), .inr (.inl (.int, (f_delVal (s_rxTrail o y73)))), .inr (.inl (.int, (f_delLen (s_rxTrail o y73)))), .inr (.inl (.int, (f_lostLog (s_rxTrail o y73)))), .inr (.inl (.int, (f_lostLen (s_rxTrail o y73)))), .inr (.inl (.int, (f_nakBuf (s_rxTrail o y73))))])) rfl hy87 ?_
        refine QTri.steps Ad W 4 (st' := (100, [some (.ref 0), some (.int x1), none, none, some (.int e85a.1), some (.int e85a.2), none], [.int (0 : Int32), .int e85a.2, .ref 6], [.inl [.ref 1, .ref 2, .ref 3, .ref 4, .ref 5, .ref 6, .ref 7, .ref 8, .ref 9, .ref 10, .ref 11, .ref 12, .ref 13, .ref 14, .ref 15, .ref 16, .ref 17, .ref 18, .ref 19, .int (f_win (s_rxTrail o y73)), .int (f_back (s_rxTrail o y73)), .int (f_repair (s_rxTrail o y73)), .int (f_period (s_rxTrail o y73)), .int (f_nextSeq (s_rxTrail o y73)), .int (f_qLen (s_rxTrail o y73))], .inr (.inl (.int, (f_srcPayload (s_rxTrail o y73)))), .inr (.inl (.boolean, (f_pend (s_rxTrail o y73)))), .inr (.inl (.int, (f_queue (s_rxTrail o y73)))), .inr (.inl (.int, (f_stats (s_rxTrail o y73)))), .inr (.inl (.int, y87)), .inr (.inl (.int, (f_timer (s_rxTrail o y73)))), .inr (.inl (.int, (f_rxVal (s_rxTrail o y73)))), .inr (.inl (.int, (f_rxNext (s_rxTrail o y73)))), .inr (.inl (.int, (f_rxLead (s_rxTrail o y73)))), .inr (.inl (.int, (f_rxTrail (s_rxTrail o y73)))), .inr (.inl (.int, (f_lossLeft (s_rxTrail o y73)))), .inr (.inl (.int, (f_dups (s_rxTrail o y73)))), .inr (.inl (.int, (f_drops (s_rxTrail o y73)))), .inr (.inl (.int, (f_delSeq (s_rxTrail o y73)))), .inr (.inl (.int, (f_delVal (s_rxTrail o y73)))), .inr (.inl (.int, (f_delLen (s_rxTrail o y73)))), .inr (.inl (.int, (f_lostLog (s_rxTrail o y73)))), .inr (.inl (.int, (f_lostLen (s_rxTrail o y73)))), .inr (.inl (.int, (f_nakBuf (s_rxTrail o y73))))])) rfl ?_
        obtain ⟨y88, hy88, h⟩ := Option.bind_eq_some_iff.mp h
        refine QTri.bnd Ad W (f := fun y88 => (101, [some (.ref 0), some (.int x1), none, none, some (.int e85a.1), some (.int e85a.2), none], [], [.inl [.ref 1, .ref 2, .ref 3, .ref 4, .ref 5, .ref 6, .ref 7, .ref 8, .ref 9, .ref 10, .ref 11, .ref 12, .ref 13, .ref 14, .ref 15, .ref 16, .ref 17, .ref 18, .ref 19, .int (f_win (s_rxTrail o y73)), .int (f_back (s_rxTrail o y73)), .int (f_repair (s_rxTrail o y73)), .int (f_period (s_rxTrail o y73)), .int (f_nextSeq (s_rxTrail o y73)), .int (f_qLen (s_rxTrail o y73))], .inr (.inl (.int, (f_srcPayload (s_rxTrail o y73)))), .inr (.inl (.boolean, (f_pend (s_rxTrail o y73)))), .inr (.inl (.int, (f_queue (s_rxTrail o y73)))), .inr (.inl (.int, (f_stats (s_rxTrail o y73)))), .inr (.inl (.int, y87)), .inr (.inl (.int, y88)), .inr (.inl (.int, (f_rxVal (s_rxTrail o y73)))), .inr (.inl (.int, (f_rxNext (s_rxTrail o y73)))), .inr (.inl (.int, (f_rxLead (s_rxTrail o y73)))), .inr (.inl (.int, (f_rxTrail (s_rxTrail o y73)))), .inr (.inl (.int, (f_lossLeft (s_rxTrail o y73)))), .inr (.inl (.int, (f_dups (s_rxTrail o y73)))), .inr (.inl (.int, (f_drops (s_rxTrail o y73)))), .inr (.inl (.int, (f_delSeq (s_rxTrail o y73)))), .inr (.inl (.int, (f_delVal (s_rxTrail o y73)))), .inr (.inl (.int, (f_delLen (s_rxTrail o y73)))), .inr (.inl (.int, (f_lostLog (s_rxTrail o y73)))), .inr (.inl (.int, (f_lostLen (s_rxTrail o y73)))), .inr (.inl (.int, (f_nakBuf (s_rxTrail o y73))))])) rfl hy88 ?_
        cases h
      · obtain rfl := Option.some.inj h
        exact ⟨rfl, rfl⟩
    rcases Classical.em (y74 < (0 : Int32)) with hc77 | hc77
    · refine QTri.brF Ad W (t := 31) (f := 29) (L := [some (.ref 0), some (.int x1), some (.int x2), some (.int y74), none, none, none]) (S := []) (σ := [.inl [.ref 1, .ref 2, .ref 3, .ref 4, .ref 5, .ref 6, .ref 7, .ref 8, .ref 9, .ref 10, .ref 11, .ref 12, .ref 13, .ref 14, .ref 15, .ref 16, .ref 17, .ref 18, .ref 19, .int (f_win o), .int (f_back o), .int (f_repair o), .int (f_period o), .int (f_nextSeq o), .int (f_qLen o)], .inr (.inl (.int, (f_srcPayload o))), .inr (.inl (.boolean, (f_pend o))), .inr (.inl (.int, (f_queue o))), .inr (.inl (.int, (f_stats o))), .inr (.inl (.int, (f_state o))), .inr (.inl (.int, (f_timer o))), .inr (.inl (.int, (f_rxVal o))), .inr (.inl (.int, (f_rxNext o))), .inr (.inl (.int, (f_rxLead o))), .inr (.inl (.int, y73)), .inr (.inl (.int, (f_lossLeft o))), .inr (.inl (.int, (f_dups o))), .inr (.inl (.int, (f_drops o))), .inr (.inl (.int, (f_delSeq o))), .inr (.inl (.int, (f_delVal o))), .inr (.inl (.int, (f_delLen o))), .inr (.inl (.int, (f_lostLog o))), .inr (.inl (.int, (f_lostLen o))), .inr (.inl (.int, (f_nakBuf o)))]) rfl (XT.i0_ge_f hc77) ?_
      refine QTri.steps Ad W 2 (st' := (31, [some (.ref 0), some (.int x1), some (.int x2), some (.int (0 : Int32)), none, none, none], [], [.inl [.ref 1, .ref 2, .ref 3, .ref 4, .ref 5, .ref 6, .ref 7, .ref 8, .ref 9, .ref 10, .ref 11, .ref 12, .ref 13, .ref 14, .ref 15, .ref 16, .ref 17, .ref 18, .ref 19, .int (f_win o), .int (f_back o), .int (f_repair o), .int (f_period o), .int (f_nextSeq o), .int (f_qLen o)], .inr (.inl (.int, (f_srcPayload o))), .inr (.inl (.boolean, (f_pend o))), .inr (.inl (.int, (f_queue o))), .inr (.inl (.int, (f_stats o))), .inr (.inl (.int, (f_state o))), .inr (.inl (.int, (f_timer o))), .inr (.inl (.int, (f_rxVal o))), .inr (.inl (.int, (f_rxNext o))), .inr (.inl (.int, (f_rxLead o))), .inr (.inl (.int, y73)), .inr (.inl (.int, (f_lossLeft o))), .inr (.inl (.int, (f_dups o))), .inr (.inl (.int, (f_drops o))), .inr (.inl (.int, (f_delSeq o))), .inr (.inl (.int, (f_delVal o))), .inr (.inl (.int, (f_delLen o))), .inr (.inl (.int, (f_lostLog o))), .inr (.inl (.int, (f_lostLen o))), .inr (.inl (.int, (f_nakBuf o)))])) rfl ?_
      exact QTri.mask [true, true, true, true, false, false, false] (K76 _ (if_pos hc77).symm)
    · refine QTri.brT Ad W (t := 31) (f := 29) (L := [some (.ref 0), some (.int x1), some (.int x2), some (.int y74), none, none, none]) (S := []) (σ := [.inl [.ref 1, .ref 2, .ref 3, .ref 4, .ref 5, .ref 6, .ref 7, .ref 8, .ref 9, .ref 10, .ref 11, .ref 12, .ref 13, .ref 14, .ref 15, .ref 16, .ref 17, .ref 18, .ref 19, .int (f_win o), .int (f_back o), .int (f_repair o), .int (f_period o), .int (f_nextSeq o), .int (f_qLen o)], .inr (.inl (.int, (f_srcPayload o))), .inr (.inl (.boolean, (f_pend o))), .inr (.inl (.int, (f_queue o))), .inr (.inl (.int, (f_stats o))), .inr (.inl (.int, (f_state o))), .inr (.inl (.int, (f_timer o))), .inr (.inl (.int, (f_rxVal o))), .inr (.inl (.int, (f_rxNext o))), .inr (.inl (.int, (f_rxLead o))), .inr (.inl (.int, y73)), .inr (.inl (.int, (f_lossLeft o))), .inr (.inl (.int, (f_dups o))), .inr (.inl (.int, (f_drops o))), .inr (.inl (.int, (f_delSeq o))), .inr (.inl (.int, (f_delVal o))), .inr (.inl (.int, (f_delLen o))), .inr (.inl (.int, (f_lostLog o))), .inr (.inl (.int, (f_lostLen o))), .inr (.inl (.int, (f_nakBuf o)))]) rfl (XT.i0_ge_t hc77) ?_
      exact QTri.mask [true, true, true, true, false, false, false] (K76 _ (if_neg hc77).symm)
  · refine QTri.brF Ad W (t := 11) (f := 10) (L := [some (.ref 0), some (.int x1), some (.int x2), none, none, none, none]) (S := []) (σ := (H0 o)) rfl (XT.ii_gt_f hc72) ?_
    obtain rfl := Option.some.inj h
    exact QTri.ret0 rfl rfl
/-- appendDelivered(III)V -/
def F14 (o : Ob) (x1 : Int32) (x2 : Int32) (x3 : Int32) : Option (Ob) :=
  (aget (f_delLen o) x1).bind fun y97 => (if y97 < (32 : Int32) then (aget (f_delLen o) x1).bind fun y99 => (aset (f_delSeq o) ((x1 * (32 : Int32)) + y99) x2).bind fun y100 => (aset (f_delVal o) ((x1 * (32 : Int32)) + y99) x3).bind fun y101 => (aget (f_delLen o) x1).bind fun y102 => (aset (f_delLen o) x1 (y102 + (1 : Int32))).bind fun y103 => some (s_delLen (s_delVal (s_delSeq o y100) y101) y103) else some o)
theorem tF14 (Ad : QAd n0 ad) (W : QW Z a0) (o : Ob) (x1 : Int32) (x2 : Int32) (x3 : Int32) {r : Ob} (h : F14 o x1 x2 x3 = some r) : QTri l Z n0 ad 14 (0, qentry [.ref 0, .int x1, .int x2, .int x3] (pMaxL 14), [], (H0 o)) (none : Option Value) (H0 r) := by
  unfold F14 at h
  refine QTri.steps Ad W 3 (st' := (5, [some (.ref 0), some (.int x1), some (.int x2), some (.int x3), none], [.int x1, .ref 16], (H0 o))) rfl ?_
  obtain ⟨y97, hy97, h⟩ := Option.bind_eq_some_iff.mp h
  refine QTri.bnd Ad W (f := fun y97 => (6, [some (.ref 0), some (.int x1), some (.int x2), some (.int x3), none], [.int y97], (H0 o))) rfl hy97 ?_
  refine QTri.steps Ad W 1 (st' := (8, [some (.ref 0), some (.int x1), some (.int x2), some (.int x3), none], [.int (32 : Int32), .int y97], (H0 o))) rfl ?_
  rcases qite h with ⟨hc98, h⟩ | ⟨hc98, h⟩
  · refine QTri.brF Ad W (t := 50) (f := 11) (L := [some (.ref 0), some (.int x1), some (.int x2), some (.int x3), none]) (S := []) (σ := (H0 o)) rfl (XT.ii_ge_f hc98) ?_
    refine QTri.steps Ad W 6 (st' := (20, [some (.ref 0), some (.int x1), some (.int x2), some (.int x3), none], [.int x1, .ref 16, .int (x1 * (32 : Int32))], (H0 o))) rfl ?_
    obtain ⟨y99, hy99, h⟩ := Option.bind_eq_some_iff.mp h
    refine QTri.bnd Ad W (f := fun y99 => (21, [some (.ref 0), some (.int x1), some (.int x2), some (.int x3), none], [.int y99, .int (x1 * (32 : Int32))], (H0 o))) rfl hy99 ?_
    refine QTri.steps Ad W 6 (st' := (31, [some (.ref 0), some (.int x1), some (.int x2), some (.int x3), some (.int ((x1 * (32 : Int32)) + y99))], [.int x2, .int ((x1 * (32 : Int32)) + y99), .ref 14], (H0 o))) rfl ?_
    obtain ⟨y100, hy100, h⟩ := Option.bind_eq_some_iff.mp h
    refine QTri.bnd Ad W (f := fun y100 => (32, [some (.ref 0), some (.int x1), some (.int x2), some (.int x3), some (.int ((x1 * (32 : Int32)) + y99))], [], [.inl [.ref 1, .ref 2, .ref 3, .ref 4, .ref 5, .ref 6, .ref 7, .ref 8, .ref 9, .ref 10, .ref 11, .ref 12, .ref 13, .ref 14, .ref 15, .ref 16, .ref 17, .ref 18, .ref 19, .int (f_win o), .int (f_back o), .int (f_repair o), .int (f_period o), .int (f_nextSeq o), .int (f_qLen o)], .inr (.inl (.int, (f_srcPayload o))), .inr (.inl (.boolean, (f_pend o))), .inr (.inl (.int, (f_queue o))), .inr (.inl (.int, (f_stats o))), .inr (.inl (.int, (f_state o))), .inr (.inl (.int, (f_timer o))), .inr (.inl (.int, (f_rxVal o))), .inr (.inl (.int, (f_rxNext o))), .inr (.inl (.int, (f_rxLead o))), .inr (.inl (.int, (f_rxTrail o))), .inr (.inl (.int, (f_lossLeft o))), .inr (.inl (.int, (f_dups o))), .inr (.inl (.int, (f_drops o))), .inr (.inl (.int, y100)), .inr (.inl (.int, (f_delVal o))), .inr (.inl (.int, (f_delLen o))), .inr (.inl (.int, (f_lostLog o))), .inr (.inl (.int, (f_lostLen o))), .inr (.inl (.int, (f_nakBuf o)))])) rfl hy100 ?_
    refine QTri.steps Ad W 4 (st' := (39, [some (.ref 0), some (.int x1), some (.int x2), some (.int x3), some (.int ((x1 * (32 : Int32)) + y99))], [.int x3, .int ((x1 * (32 : Int32)) + y99), .ref 15], [.inl [.ref 1, .ref 2, .ref 3, .ref 4, .ref 5, .ref 6, .ref 7, .ref 8, .ref 9, .ref 10, .ref 11, .ref 12, .ref 13, .ref 14, .ref 15, .ref 16, .ref 17, .ref 18, .ref 19, .int (f_win o), .int (f_back o), .int (f_repair o), .int (f_period o), .int (f_nextSeq o), .int (f_qLen o)], .inr (.inl (.int, (f_srcPayload o))), .inr (.inl (.boolean, (f_pend o))), .inr (.inl (.int, (f_queue o))), .inr (.inl (.int, (f_stats o))), .inr (.inl (.int, (f_state o))), .inr (.inl (.int, (f_timer o))), .inr (.inl (.int, (f_rxVal o))), .inr (.inl (.int, (f_rxNext o))), .inr (.inl (.int, (f_rxLead o))), .inr (.inl (.int, (f_rxTrail o))), .inr (.inl (.int, (f_lossLeft o))), .inr (.inl (.int, (f_dups o))), .inr (.inl (.int, (f_drops o))), .inr (.inl (.int, y100)), .inr (.inl (.int, (f_delVal o))), .inr (.inl (.int, (f_delLen o))), .inr (.inl (.int, (f_lostLog o))), .inr (.inl (.int, (f_lostLen o))), .inr (.inl (.int, (f_nakBuf o)))])) rfl ?_
    obtain ⟨y101, hy101, h⟩ := Option.bind_eq_some_iff.mp h
    refine QTri.bnd Ad W (f := fun y101 => (40, [some (.ref 0), some (.int x1), some (.int x2), some (.int x3), some (.int ((x1 * (32 : Int32)) + y99))], [], [.inl [.ref 1, .ref 2, .ref 3, .ref 4, .ref 5, .ref 6, .ref 7, .ref 8, .ref 9, .ref 10, .ref 11, .ref 12, .ref 13, .ref 14, .ref 15, .ref 16, .ref 17, .ref 18, .ref 19, .int (f_win o), .int (f_back o), .int (f_repair o), .int (f_period o), .int (f_nextSeq o), .int (f_qLen o)], .inr (.inl (.int, (f_srcPayload o))), .inr (.inl (.boolean, (f_pend o))), .inr (.inl (.int, (f_queue o))), .inr (.inl (.int, (f_stats o))), .inr (.inl (.int, (f_state o))), .inr (.inl (.int, (f_timer o))), .inr (.inl (.int, (f_rxVal o))), .inr (.inl (.int, (f_rxNext o))), .inr (.inl (.int, (f_rxLead o))), .inr (.inl (.int, (f_rxTrail o))), .inr (.inl (.int, (f_lossLeft o))), .inr (.inl (.int, (f_dups o))), .inr (.inl (.int, (f_drops o))), .inr (.inl (.int, y100)), .inr (.inl (.int, y101)), .inr (.inl (.int, (f_delLen o))), .inr (.inl (.int, (f_lostLog o))), .inr (.inl (.int, (f_lostLen o))), .inr (.inl (.int, (f_nakBuf o)))])) rfl hy101 ?_
    refine QTri.steps Ad W 4 (st' := (46, [some (.ref 0), some (.int x1), some (.int x2), some (.int x3), some (.int ((x1 * (32 : Int32)) + y99))], [.int x1, .ref 16, .int x1, .ref 16], [.inl [.ref 1, .ref 2, .ref 3, .ref 4, .ref 5, .ref 6, .ref 7, .ref 8, .ref 9, .ref 10, .ref 11, .ref 12, .ref 13, .ref 14, .ref 15, .ref 16, .ref 17, .ref 18, .ref 19, .int (f_win o), .int (f_back o), .int (f_repair o), .int (f_period o), .int (f_nextSeq o), .int (f_qLen o)], .inr (.inl (.int, (f_srcPayload o))), .inr (.inl (.boolean, (f_pend o))), .inr (.inl (.int, (f_queue o))), .inr (.inl (.int, (f_stats o))), .inr (.inl (.int, (f_state o))), .inr (.inl (.int, (f_timer o))), .inr (.inl (.int, (f_rxVal o))), .inr (.inl (.int, (f_rxNext o))), .inr (.inl (.int, (f_rxLead o))), .inr (.inl (.int, (f_rxTrail o))), .inr (.inl (.int, (f_lossLeft o))), .inr (.inl (.int, (f_dups o))), .inr (.inl (.int, (f_drops o))), .inr (.inl (.int, y100)), .inr (.inl (.int, y101)), .inr (.inl (.int, (f_delLen o))), .inr (.inl (.int, (f_lostLog o))), .inr (.inl (.int, (f_lostLen o))), .inr (.inl (.int, (f_nakBuf o)))])) rfl ?_
    obtain ⟨y102, hy102, h⟩ := Option.bind_eq_some_iff.mp h
    refine QTri.bnd Ad W (f := fun y102 => (47, [some (.ref 0), some (.int x1), some (.int x2), some (.int x3), some (.int ((x1 * (32 : Int32)) + y99))], [.int y102, .int x1, .ref 16], [.inl [.ref 1, .ref 2, .ref 3, .ref 4, .ref 5, .ref 6, .ref 7, .ref 8, .ref 9, .ref 10, .ref 11, .ref 12, .ref 13, .ref 14, .ref 15, .ref 16, .ref 17, .ref 18, .ref 19, .int (f_win o), .int (f_back o), .int (f_repair o), .int (f_period o), .int (f_nextSeq o), .int (f_qLen o)], .inr (.inl (.int, (f_srcPayload o))), .inr (.inl (.boolean, (f_pend o))), .inr (.inl (.int, (f_queue o))), .inr (.inl (.int, (f_stats o))), .inr (.inl (.int, (f_state o))), .inr (.inl (.int, (f_timer o))), .inr (.inl (.int, (f_rxVal o))), .inr (.inl (.int, (f_rxNext o))), .inr (.inl (.int, (f_rxLead o))), .inr (.inl (.int, (f_rxTrail o))), .inr (.inl (.int, (f_lossLeft o))), .inr (.inl (.int, (f_dups o))), .inr (.inl (.int, (f_drops o))), .inr (.inl (.int, y100)), .inr (.inl (.int, y101)), .inr (.inl (.int, (f_delLen o))), .inr (.inl (.int, (f_lostLog o))), .inr (.inl (.int, (f_lostLen o))), .inr (.inl (.int, (f_nakBuf o)))])) rfl hy102 ?_
    refine QTri.steps Ad W 2 (st' := (49, [some (.ref 0), some (.int x1), some (.int x2), some (.int x3), some (.int ((x1 * (32 : Int32)) + y99))], [.int (y102 + (1 : Int32)), .int x1, .ref 16], [.inl [.ref 1, .ref 2, .ref 3, .ref 4, .ref 5, .ref 6, .ref 7, .ref 8, .ref 9, .ref 10, .ref 11, .ref 12, .ref 13, .ref 14, .ref 15, .ref 16, .ref 17, .ref 18, .ref 19, .int (f_win o), .int (f_back o), .int (f_repair o), .int (f_period o), .int (f_nextSeq o), .int (f_qLen o)], .inr (.inl (.int, (f_srcPayload o))), .inr (.inl (.boolean, (f_pend o))), .inr (.inl (.int, (f_queue o))), .inr (.inl (.int, (f_stats o))), .inr (.inl (.int, (f_state o))), .inr (.inl (.int, (f_timer o))), .inr (.inl (.int, (f_rxVal o))), .inr (.inl (.int, (f_rxNext o))), .inr (.inl (.int, (f_rxLead o))), .inr (.inl (.int, (f_rxTrail o))), .inr (.inl (.int, (f_lossLeft o))), .inr (.inl (.int, (f_dups o))), .inr (.inl (.int, (f_drops o))), .inr (.inl (.int, y100)), .inr (.inl (.int, y101)), .inr (.inl (.int, (f_delLen o))), .inr (.inl (.int, (f_lostLog o))), .inr (.inl (.int, (f_lostLen o))), .inr (.inl (.int, (f_nakBuf o)))])) rfl ?_
    obtain ⟨y103, hy103, h⟩ := Option.bind_eq_some_iff.mp h
    refine QTri.bnd Ad W (f := fun y103 => (50, [some (.ref 0), some (.int x1), some (.int x2), some (.int x3), some (.int ((x1 * (32 : Int32)) + y99))], [], [.inl [.ref 1, .ref 2, .ref 3, .ref 4, .ref 5, .ref 6, .ref 7, .ref 8, .ref 9, .ref 10, .ref 11, .ref 12, .ref 13, .ref 14, .ref 15, .ref 16, .ref 17, .ref 18, .ref 19, .int (f_win o), .int (f_back o), .int (f_repair o), .int (f_period o), .int (f_nextSeq o), .int (f_qLen o)], .inr (.inl (.int, (f_srcPayload o))), .inr (.inl (.boolean, (f_pend o))), .inr (.inl (.int, (f_queue o))), .inr (.inl (.int, (f_stats o))), .inr (.inl (.int, (f_state o))), .inr (.inl (.int, (f_timer o))), .inr (.inl (.int, (f_rxVal o))), .inr (.inl (.int, (f_rxNext o))), .inr (.inl (.int, (f_rxLead o))), .inr (.inl (.int, (f_rxTrail o))), .inr (.inl (.int, (f_lossLeft o))), .inr (.inl (.int, (f_dups o))), .inr (.inl (.int, (f_drops o))), .inr (.inl (.int, y100)), .inr (.inl (.int, y101)), .inr (.inl (.int, y103)), .inr (.inl (.int, (f_lostLog o))), .inr (.inl (.int, (f_lostLen o))), .inr (.inl (.int, (f_nakBuf o)))])) rfl hy103 ?_
    have E104 : ([.inl [.ref 1, .ref 2, .ref 3, .ref 4, .ref 5, .ref 6, .ref 7, .ref 8, .ref 9, .ref 10, .ref 11, .ref 12, .ref 13, .ref 14, .ref 15, .ref 16, .ref 17, .ref 18, .ref 19, .int (f_win o), .int (f_back o), .int (f_repair o), .int (f_period o), .int (f_nextSeq o), .int (f_qLen o)], .inr (.inl (.int, (f_srcPayload o))), .inr (.inl (.boolean, (f_pend o))), .inr (.inl (.int, (f_queue o))), .inr (.inl (.int, (f_stats o))), .inr (.inl (.int, (f_state o))), .inr (.inl (.int, (f_timer o))), .inr (.inl (.int, (f_rxVal o))), .inr (.inl (.int, (f_rxNext o))), .inr (.inl (.int, (f_rxLead o))), .inr (.inl (.int, (f_rxTrail o))), .inr (.inl (.int, (f_lossLeft o))), .inr (.inl (.int, (f_dups o))), .inr (.inl (.int, (f_drops o))), .inr (.inl (.int, y100)), .inr (.inl (.int, y101)), .inr (.inl (.int, y103)), .inr (.inl (.int, (f_lostLog o))), .inr (.inl (.int, (f_lostLen o))), .inr (.inl (.int, (f_nakBuf o)))] : QHeap) = (H0 (s_delLen (s_delVal (s_delSeq o y100) y101) y103)) := by dsimp only [H0, f_srcPayload, f_pend, f_queue, f_stats, f_state, f_timer, f_rxVal, f_rxNext, f_rxLead, f_rxTrail, f_lossLeft, f_dups, f_drops, f_delSeq, f_delVal, f_delLen, f_lostLog, f_lostLen, f_nakBuf, f_win, f_back, f_repair, f_period, f_nextSeq, f_qLen, s_delSeq, s_delVal, s_delLen]
    rw [E104]
    obtain rfl := Option.some.inj h
    exact QTri.ret0 rfl rfl
  · refine QTri.brT Ad W (t := 50) (f := 11) (L := [some (.ref 0), some (.int x1), some (.int x2), some (.int x3), none]) (S := []) (σ := (H0 o)) rfl (XT.ii_ge_t hc98) ?_
    obtain rfl := Option.some.inj h
    exact QTri.ret0 rfl rfl
def J13_73 (o : Ob) (x1 : Int32) (x2 : Int32) : Option (((Ob)) ⊕ (Int32 × Ob)) :=
  (aset (f_rxNext o) x1 (x2 + (1 : Int32))).bind fun y108 => some (.inr ((x2 + (1 : Int32)), (s_rxNext o y108)))
theorem tJ13_73 (Ad : QAd n0 ad) (W : QW Z a0) (o : Ob) (x1 : Int32) (x2 : Int32) {r : ((Ob)) ⊕ (Int32 × Ob)} {u : Option Value} {τ : QHeap} (h : J13_73 o x1 x2 = some r) (hx0 : ∀ x : Ob, r = .inl x → u = (none : Option Value) ∧ τ = (H0 x)) (hc : ∀ x : Int32 × Ob, r = .inr x → QTri l Z n0 ad 13 (7, [some (.ref 0), some (.int x1), some (.int x.1), none, none], [], (H0 x.2)) u τ) : QTri l Z n0 ad 13 (73, [some (.ref 0), some (.int x1), some (.int x2), none, none], [], (H0 o)) u τ := by
  unfold J13_73 at h
  refine QTri.steps Ad W 6 (st' := (81, [some (.ref 0), some (.int x1), some (.int x2), none, none], [.int (x2 + (1 : Int32)), .int x1, .ref 8], (H0 o))) rfl ?_
  obtain ⟨y108, hy108, h⟩ := Option.bind_eq_some_iff.mp h
  refine QTri.bnd Ad W (f := fun y108 => (82, [some (.ref 0), some (.int x1), some (.int x2), none, none], [], [.inl [.ref 1, .ref 2, .ref 3, .ref 4, .ref 5, .ref 6, .ref 7, .ref 8, .ref 9, .ref 10, .ref 11, .ref 12, .ref 13, .ref 14, .ref 15, .ref 16, .ref 17, .ref 18, .ref 19, .int (f_win o), .int (f_back o), .int (f_repair o), .int (f_period o), .int (f_nextSeq o), .int (f_qLen o)], .inr (.inl (.int, (f_srcPayload o))), .inr (.inl (.boolean, (f_pend o))), .inr (.inl (.int, (f_queue o))), .inr (.inl (.int, (f_stats o))), .inr (.inl (.int, (f_state o))), .inr (.inl (.int, (f_timer o))), .inr (.inl (.int, (f_rxVal o))), .inr (.inl (.int, y108)), .inr (.inl (.int, (f_rxLead o))), .inr (.inl (.int, (f_rxTrail o))), .inr (.inl (.int, (f_lossLeft o))), .inr (.inl (.int, (f_dups o))), .inr (.inl (.int, (f_drops o))), .inr (.inl (.int, (f_delSeq o))), .inr (.inl (.int, (f_delVal o))), .inr (.inl (.int, (f_delLen o))), .inr (.inl (.int, (f_lostLog o))), .inr (.inl (.int, (f_lostLen o))), .inr (.inl (.int, (f_nakBuf o)))])) rfl hy108 ?_
  refine QTri.steps Ad W 2 (st' := (7, [some (.ref 0), some (.int x1), some (.int (x2 + (1 : Int32))), none, none], [], [.inl [.ref 1, .ref 2, .ref 3, .ref 4, .ref 5, .ref 6, .ref 7, .ref 8, .ref 9, .ref 10, .ref 11, .ref 12, .ref 13, .ref 14, .ref 15, .ref 16, .ref 17, .ref 18, .ref 19, .int (f_win o), .int (f_back o), .int (f_repair o), .int (f_period o), .int (f_nextSeq o), .int (f_qLen o)], .inr (.inl (.int, (f_srcPayload o))), .inr (.inl (.boolean, (f_pend o))), .inr (.inl (.int, (f_queue o))), .inr (.inl (.int, (f_stats o))), .inr (.inl (.int, (f_state o))), .inr (.inl (.int, (f_timer o))), .inr (.inl (.int, (f_rxVal o))), .inr (.inl (.int, y108)), .inr (.inl (.int, (f_rxLead o))), .inr (.inl (.int, (f_rxTrail o))), .inr (.inl (.int, (f_lossLeft o))), .inr (.inl (.int, (f_dups o))), .inr (.inl (.int, (f_drops o))), .inr (.inl (.int, (f_delSeq o))), .inr (.inl (.int, (f_delVal o))), .inr (.inl (.int, (f_delLen o))), .inr (.inl (.int, (f_lostLog o))), .inr (.inl (.int, (f_lostLen o))), .inr (.inl (.int, (f_nakBuf o)))])) rfl ?_
  have E109 : ([.inl [.ref 1, .ref 2, .ref 3, .ref 4, .ref 5, .ref 6, .ref 7, .ref 8, .ref 9, .ref 10, .ref 11, .ref 12, .ref 13, .ref 14, .ref 15, .ref 16, .ref 17, .ref 18, .ref 19, .int (f_win o), .int (f_back o), .int (f_repair o), .int (f_period o), .int (f_nextSeq o), .int (f_qLen o)], .inr (.inl (.int, (f_srcPayload o))), .inr (.inl (.boolean, (f_pend o))), .inr (.inl (.int, (f_queue o))), .inr (.inl (.int, (f_stats o))), .inr (.inl (.int, (f_state o))), .inr (.inl (.int, (f_timer o))), .inr (.inl (.int, (f_rxVal o))), .inr (.inl (.int, y108)), .inr (.inl (.int, (f_rxLead o))), .inr (.inl (.int, (f_rxTrail o))), .inr (.inl (.int, (f_lossLeft o))), .inr (.inl (.int, (f_dups o))), .inr (.inl (.int, (f_drops o))), .inr (.inl (.int, (f_delSeq o))), .inr (.inl (.int, (f_delVal o))), .inr (.inl (.int, (f_delLen o))), .inr (.inl (.int, (f_lostLog o))), .inr (.inl (.int, (f_lostLen o))), .inr (.inl (.int, (f_nakBuf o)))] : QHeap) = (H0 (s_rxNext o y108)) := by dsimp only [H0, f_srcPayload, f_pend, f_queue, f_stats, f_state, f_timer, f_rxVal, f_rxNext, f_rxLead, f_rxTrail, f_lossLeft, f_dups, f_drops, f_delSeq, f_delVal, f_delLen, f_lostLog, f_lostLen, f_nakBuf, f_win, f_back, f_repair, f_period, f_nextSeq, f_qLen, s_rxNext]
  rw [E109]
  obtain rfl := Option.some.inj h
  exact QTri.mask [true, true, true, false, false] (hc ((x2 + (1 : Int32)), (s_rxNext o y108)) rfl)
def J13_48 (o : Ob) (x1 : Int32) (x2 : Int32) (x3 : Int32) (x4 : Int32) : Option (((Ob)) ⊕ (Int32 × Ob)) :=
  (if x4 = (4 : Int32) then (aget (f_rxVal o) x3).bind fun y96 => (F14 o x1 x2 y96).bind fun r105 => (aset (f_state r105) x3 (5 : Int32)).bind fun y106 => (J13_73 (s_state r105 y106) x1 x2) else (J13_73 o x1 x2))
theorem tJ13_48 (Ad : QAd n0 ad) (W : QW Z a0) (o : Ob) (x1 : Int32) (x2 : Int32) (x3 : Int32) (x4 : Int32) {r : ((Ob)) ⊕ (Int32 × Ob)} {u : Option Value} {τ : QHeap} (h : J13_48 o x1 x2 x3 x4 = some r) (hx0 : ∀ x : Ob, r = .inl x → u = (none : Option Value) ∧ τ = (H0 x)) (hc : ∀ x : Int32 × Ob, r = .inr x → QTri l Z n0 ad 13 (7, [some (.ref 0), some (.int x1), some (.int x.1), none, none], [], (H0 x.2)) u τ) : QTri l Z n0 ad 13 (48, [some (.ref 0), some (.int x1), some (.int x2), some (.int x3), some (.int x4)], [], (H0 o)) u τ := by
  unfold J13_48 at h
  refine QTri.steps Ad W 2 (st' := (51, [some (.ref 0), some (.int x1), some (.int x2), some (.int x3), some (.int x4)], [.int (4 : Int32), .int x4], (H0 o))) rfl ?_
  rcases qite h with ⟨hc95, h⟩ | ⟨hc95, h⟩
  · refine QTri.brF Ad W (t := 73) (f := 54) (L := [some (.ref 0), some (.int x1), some (.int x2), some (.int x3), some (.int x4)]) (S := []) (σ := (H0 o)) rfl (XT.ii_ne_f hc95) ?_
    refine QTri.steps Ad W 6 (st' := (62, [some (.ref 0), some (.int x1), some (.int x2), some (.int x3), some (.int x4)], [.int x3, .ref 7, .int x2, .int x1, .ref 0], (H0 o))) rfl ?_
    obtain ⟨y96, hy96, h⟩ := Option.bind_eq_some_iff.mp h
    refine QTri.bnd Ad W (f := fun y96 => (63, [some (.ref 0), some (.int x1), some (.int x2), some (.int x3), some (.int x4)], [.int y96, .int x2, .int x1, .ref 0], (H0 o))) rfl hy96 ?_
    obtain ⟨r105, hr105, h⟩ := Option.bind_eq_some_iff.mp h
    refine QTri.callP W (a := 0) (as := [.int x1, .int x2, .int y96]) (rest := []) (w := none) (σ₁ := (H0 r105)) rfl rfl rfl rfl rfl rfl rfl rfl (tF14 Ad W o x1 x2 y96 hr105) ?_
    refine QTri.steps Ad W 4 (st' := (72, [some (.ref 0), some (.int x1), some (.int x2), some (.int x3), some (.int x4)], [.int (5 : Int32), .int x3, .ref 5], (H0 r105))) rfl ?_
    obtain ⟨y106, hy106, h⟩ := Option.bind_eq_some_iff.mp h
    refine QTri.bnd Ad W (f := fun y106 => (73, [some (.ref 0), some (.int x1), some (.int x2), some (.int x3), some (.int x4)], [], [.inl [.ref 1, .ref 2, .ref 3, .ref 4, .ref 5, .ref 6, .ref 7, .ref 8, .ref 9, .ref 10, .ref 11, .ref 12, .ref 13, .ref 14, .ref 15, .ref 16, .ref 17, .ref 18, .ref 19, .int (f_win r105), .int (f_back r105), .int (f_repair r105), .int (f_period r105), .int (f_nextSeq r105), .int (f_qLen r105)], .inr (.inl (.int, (f_srcPayload r105))), .inr (.inl (.boolean, (f_pend r105))), .inr (.inl (.int, (f_queue r105))), .inr (.inl (.int, (f_stats r105))), .inr (.inl (.int, y106)), .inr (.inl (.int, (f_timer r105))), .inr (.inl (.int, (f_rxVal r105))), .inr (.inl (.int, (f_rxNext r105))), .inr (.inl (.int, (f_rxLead r105))), .inr (.inl (.int, (f_rxTrail r105))), .inr (.inl (.int, (f_lossLeft r105))), .inr (.inl (.int, (f_dups r105))), .inr (.inl (.int, (f_drops r105))), .inr (.inl (.int, (f_delSeq r105))), .inr (.inl (.int, (f_delVal r105))), .inr (.inl (.int, (f_delLen r105))), .inr (.inl (.int, (f_lostLog r105))), .inr (.inl (.int, (f_lostLen r105))), .inr (.inl (.int, (f_nakBuf r105)))])) rfl hy106 ?_
    have E107 : ([.inl [.ref 1, .ref 2, .ref 3, .ref 4, .ref 5, .ref 6, .ref 7, .ref 8, .ref 9, .ref 10, .ref 11, .ref 12, .ref 13, .ref 14, .ref 15, .ref 16, .ref 17, .ref 18, .ref 19, .int (f_win r105), .int (f_back r105), .int (f_repair r105), .int (f_period r105), .int (f_nextSeq r105), .int (f_qLen r105)], .inr (.inl (.int, (f_srcPayload r105))), .inr (.inl (.boolean, (f_pend r105))), .inr (.inl (.int, (f_queue r105))), .inr (.inl (.int, (f_stats r105))), .inr (.inl (.int, y106)), .inr (.inl (.int, (f_timer r105))), .inr (.inl (.int, (f_rxVal r105))), .inr (.inl (.int, (f_rxNext r105))), .inr (.inl (.int, (f_rxLead r105))), .inr (.inl (.int, (f_rxTrail r105))), .inr (.inl (.int, (f_lossLeft r105))), .inr (.inl (.int, (f_dups r105))), .inr (.inl (.int, (f_drops r105))), .inr (.inl (.int, (f_delSeq r105))), .inr (.inl (.int, (f_delVal r105))), .inr (.inl (.int, (f_delLen r105))), .inr (.inl (.int, (f_lostLog r105))), .inr (.inl (.int, (f_lostLen r105))), .inr (.inl (.int, (f_nakBuf r105)))] : QHeap) = (H0 (s_state r105 y106)) := by dsimp only [H0, f_srcPayload, f_pend, f_queue, f_stats, f_state, f_timer, f_rxVal, f_rxNext, f_rxLead, f_rxTrail, f_lossLeft, f_dups, f_drops, f_delSeq, f_delVal, f_delLen, f_lostLog, f_lostLen, f_nakBuf, f_win, f_back, f_repair, f_period, f_nextSeq, f_qLen, s_state]
    rw [E107]
    exact QTri.mask [true, true, true, false, false] (tJ13_73 Ad W (s_state r105 y106) x1 x2 h hx0 hc)
  · refine QTri.brT Ad W (t := 73) (f := 54) (L := [some (.ref 0), some (.int x1), some (.int x2), some (.int x3), some (.int x4)]) (S := []) (σ := (H0 o)) rfl (XT.ii_ne_t hc95) ?_
    exact QTri.mask [true, true, true, false, false] (tJ13_73 Ad W o x1 x2 h hx0 hc)
def B13_7 (x1 : Int32) (v : Int32 × Ob) : Option (((Ob)) ⊕ (Int32 × Ob)) :=
  (if v.1 < (0 : Int32) then some (.inl v.2) else (if v.1 < (32 : Int32) then (aget (f_state v.2) ((x1 * (32 : Int32)) + v.1)).bind fun y93 => (if y93 = (4 : Int32) then (J13_48 v.2 x1 v.1 ((x1 * (32 : Int32)) + v.1) y93) else (if y93 = (6 : Int32) then (J13_48 v.2 x1 v.1 ((x1 * (32 : Int32)) + v.1) y93) else some (.inl v.2))) else some (.inl v.2)))
theorem tB13_7 (Ad : QAd n0 ad) (W : QW Z a0) (x1 : Int32) (v : Int32 × Ob) {r : ((Ob)) ⊕ (Int32 × Ob)} {u : Option Value} {τ : QHeap} (h : B13_7 x1 v = some r) (hx0 : ∀ x : Ob, r = .inl x → u = (none : Option Value) ∧ τ = (H0 x)) (hc : ∀ x : Int32 × Ob, r = .inr x → QTri l Z n0 ad 13 (7, [some (.ref 0), some (.int x1), some (.int x.1), none, none], [], (H0 x.2)) u τ) : QTri l Z n0 ad 13 (7, [some (.ref 0), some (.int x1), some (.int v.1), none, none], [], (H0 v.2)) u τ := by
  unfold B13_7 at h
  refine QTri.steps Ad W 1 (st' := (8, [some (.ref 0), some (.int x1), some (.int v.1), none, none], [.int v.1], (H0 v.2))) rfl ?_
  rcases qite h with ⟨hc91, h⟩ | ⟨hc91, h⟩
  · refine QTri.brT Ad W (t := 88) (f := 11) (L := [some (.ref 0), some (.int x1), some (.int v.1), none, none]) (S := []) (σ := (H0 v.2)) rfl (XT.i0_lt_t hc91) ?_
    obtain rfl := Option.some.inj h
    obtain ⟨rfl, rfl⟩ := hx0 v.2 rfl
    exact QTri.ret0 rfl rfl
  · refine QTri.brF Ad W (t := 88) (f := 11) (L := [some (.ref 0), some (.int x1), some (.int v.1), none, none]) (S := []) (σ := (H0 v.2)) rfl (XT.i0_lt_f hc91) ?_
    refine QTri.steps Ad W 2 (st' := (14, [some (.ref 0), some (.int x1), some (.int v.1), none, none], [.int (32 : Int32), .int v.1], (H0 v.2))) rfl ?_
    rcases qite h with ⟨hc92, h⟩ | ⟨hc92, h⟩
    · refine QTri.brF Ad W (t := 88) (f := 17) (L := [some (.ref 0), some (.int x1), some (.int v.1), none, none]) (S := []) (σ := (H0 v.2)) rfl (XT.ii_ge_f hc92) ?_
      refine QTri.steps Ad W 9 (st' := (29, [some (.ref 0), some (.int x1), some (.int v.1), some (.int ((x1 * (32 : Int32)) + v.1)), none], [.int ((x1 * (32 : Int32)) + v.1), .ref 5], (H0 v.2))) rfl ?_
      obtain ⟨y93, hy93, h⟩ := Option.bind_eq_some_iff.mp h
      refine QTri.bnd Ad W (f := fun y93 => (30, [some (.ref 0), some (.int x1), some (.int v.1), some (.int ((x1 * (32 : Int32)) + v.1)), none], [.int y93], (H0 v.2))) rfl hy93 ?_
      refine QTri.steps Ad W 3 (st' := (35, [some (.ref 0), some (.int x1), some (.int v.1), some (.int ((x1 * (32 : Int32)) + v.1)), some (.int y93)], [.int (4 : Int32), .int y93], (H0 v.2))) rfl ?_
      rcases qite h with ⟨hc94, h⟩ | ⟨hc94, h⟩
      · refine QTri.brT Ad W (t := 48) (f := 38) (L := [some (.ref 0), some (.int x1), some (.int v.1), some (.int ((x1 * (32 : Int32)) + v.1)), some (.int y93)]) (S := []) (σ := (H0 v.2)) rfl (XT.ii_eq_t hc94) ?_
        exact QTri.mask [true, true, true, true, true] (tJ13_48 Ad W v.2 x1 v.1 ((x1 * (32 : Int32)) + v.1) y93 h hx0 hc)
      · refine QTri.brF Ad W (t := 48) (f := 38) (L := [some (.ref 0), some (.int x1), some (.int v.1), some (.int ((x1 * (32 : Int32)) + v.1)), some (.int y93)]) (S := []) (σ := (H0 v.2)) rfl (XT.ii_eq_f hc94) ?_
        refine QTri.steps Ad W 2 (st' := (42, [some (.ref 0), some (.int x1), some (.int v.1), some (.int ((x1 * (32 : Int32)) + v.1)), some (.int y93)], [.int (6 : Int32), .int y93], (H0 v.2))) rfl ?_
        rcases qite h with ⟨hc110, h⟩ | ⟨hc110, h⟩
        · refine QTri.brT Ad W (t := 48) (f := 45) (L := [some (.ref 0), some (.int x1), some (.int v.1), some (.int ((x1 * (32 : Int32)) + v.1)), some (.int y93)]) (S := []) (σ := (H0 v.2)) rfl (XT.ii_eq_t hc110) ?_
          exact QTri.mask [true, true, true, true, true] (tJ13_48 Ad W v.2 x1 v.1 ((x1 * (32 : Int32)) + v.1) y93 h hx0 hc)
        · refine QTri.brF Ad W (t := 48) (f := 45) (L := [some (.ref 0), some (.int x1), some (.int v.1), some (.int ((x1 * (32 : Int32)) + v.1)), some (.int y93)]) (S := []) (σ := (H0 v.2)) rfl (XT.ii_eq_f hc110) ?_
          refine QTri.steps Ad W 1 (st' := (88, [some (.ref 0), some (.int x1), some (.int v.1), some (.int ((x1 * (32 : Int32)) + v.1)), some (.int y93)], [], (H0 v.2))) rfl ?_
          obtain rfl := Option.some.inj h
          obtain ⟨rfl, rfl⟩ := hx0 v.2 rfl
          exact QTri.ret0 rfl rfl
    · refine QTri.brT Ad W (t := 88) (f := 17) (L := [some (.ref 0), some (.int x1), some (.int v.1), none, none]) (S := []) (σ := (H0 v.2)) rfl (XT.ii_ge_t hc92) ?_
      obtain rfl := Option.some.inj h
      obtain ⟨rfl, rfl⟩ := hx0 v.2 rfl
      exact QTri.ret0 rfl rfl
/-- deliver(I)V -/
def F13 (o : Ob) (x1 : Int32) : Option (Ob) :=
  (aget (f_rxNext o) x1).bind fun y90 => (loopN (B13_7 x1) qN (y90, o)).bind fun e111 => some e111
theorem tF13 (Ad : QAd n0 ad) (W : QW Z a0) (o : Ob) (x1 : Int32) {r : Ob} (h : F13 o x1 = some r) : QTri l Z n0 ad 13 (0, qentry [.ref 0, .int x1] (pMaxL 13), [], (H0 o)) (none : Option Value) (H0 r) := by
  unfold F13 at h
  refine QTri.steps Ad W 3 (st' := (5, [some (.ref 0), some (.int x1), none, none, none], [.int x1, .ref 8], (H0 o))) rfl ?_
  obtain ⟨y90, hy90, h⟩ := Option.bind_eq_some_iff.mp h
  refine QTri.bnd Ad W (f := fun y90 => (6, [some (.ref 0), some (.int x1), none, none, none], [.int y90], (H0 o))) rfl hy90 ?_
  refine QTri.steps Ad W 1 (st' := (7, [some (.ref 0), some (.int x1), some (.int y90), none, none], [], (H0 o))) rfl ?_
  obtain ⟨e111, he111, h⟩ := Option.bind_eq_some_iff.mp h
  refine QTri.mask [true, true, true, false, false] (loopN_tri (B := B13_7 x1) (T := fun lv112 => QTri l Z n0 ad 13 (7, [some (.ref 0), some (.int x1), some (.int lv112.1), none, none], [], (H0 lv112.2)) (none : Option Value) (H0 r)) (KE := fun e111a => (none : Option Value) = (none : Option Value) ∧ (H0 r) = (H0 e111a)) (fun lv112 r hB hE hC => tB13_7 Ad W x1 lv112 hB (fun x q => hE _ q) (fun x q => hC x q)) qN (y90, o) e111 he111 ?_)
  obtain rfl := Option.some.inj h
  exact ⟨rfl, rfl⟩
def J9_76 (o : Ob) (x1 : Int32) (x4 : Int32) (x5 : Int32) : Option (Ob) :=
  (F11 o x1 x4).bind fun r70 => (F12 r70 x1 x5).bind fun r89 => (F13 r89 x1).bind fun r113 => some r113
theorem tJ9_76 (Ad : QAd n0 ad) (W : QW Z a0) (o : Ob) (x1 : Int32) (x4 : Int32) (x5 : Int32) {r : Ob} (h : J9_76 o x1 x4 x5 = some r) : QTri l Z n0 ad 9 (76, [some (.ref 0), some (.int x1), none, none, some (.int x4), some (.int x5), none, none], [], (H0 o)) (none : Option Value) (H0 r) := by
  unfold J9_76 at h
  refine QTri.steps Ad W 3 (st' := (80, [some (.ref 0), some (.int x1), none, none, some (.int x4), some (.int x5), none, none], [.int x4, .int x1, .ref 0], (H0 o))) rfl ?_
  obtain ⟨r70, hr70, h⟩ := Option.bind_eq_some_iff.mp h
  refine QTri.callP W (a := 0) (as := [.int x1, .int x4]) (rest := []) (w := none) (σ₁ := (H0 r70)) rfl rfl rfl rfl rfl rfl rfl rfl (tF11 Ad W o x1 x4 hr70) ?_
  refine QTri.steps Ad W 3 (st' := (87, [some (.ref 0), some (.int x1), none, none, some (.int x4), some (.int x5), none, none], [.int x5, .int x1, .ref 0], (H0 r70))) rfl ?_
  obtain ⟨r89, hr89, h⟩ := Option.bind_eq_some_iff.mp h
  refine QTri.callP W (a := 0) (as := [.int x1, .int x5]) (rest := []) (w := none) (σ₁ := (H0 r89)) rfl rfl rfl rfl rfl rfl rfl rfl (tF12 Ad W r70 x1 x5 hr89) ?_
  refine QTri.steps Ad W 2 (st' := (92, [some (.ref 0), some (.int x1), none, none, some (.int x4), some (.int x5), none, none], [.int x1, .ref 0], (H0 r89))) rfl ?_
  obtain ⟨r113, hr113, h⟩ := Option.bind_eq_some_iff.mp h
  refine QTri.callP W (a := 0) (as := [.int x1]) (rest := []) (w := none) (σ₁ := (H0 r113)) rfl rfl rfl rfl rfl rfl rfl rfl (tF13 Ad W r89 x1 hr113) ?_
  obtain rfl := Option.some.inj h
  exact QTri.ret0 rfl rfl
/-- applyData(IIIII)V -/
def F9 (o : Ob) (x1 : Int32) (x2 : Int32) (x3 : Int32) (x4 : Int32) (x5 : Int32) : Option (Ob) :=
  (F10 x2).bind fun r53 => (if r53 = (0 : Int32) then (J9_76 o x1 x4 x5) else (aget (f_state o) ((x1 * (32 : Int32)) + x2)).bind fun y114 => (if y114 = (0 : Int32) then (aset (f_state o) ((x1 * (32 : Int32)) + x2) (4 : Int32)).bind fun y116 => (aset (f_rxVal o) ((x1 * (32 : Int32)) + x2) x3).bind fun y117 => (aset (f_timer o) ((x1 * (32 : Int32)) + x2) (0 : Int32)).bind fun y118 => (J9_76 (s_timer (s_rxVal (s_state o y116) y117) y118) x1 x4 x5) else none))
theorem tF9 (Ad : QAd n0 ad) (W : QW Z a0) (o : Ob) (x1 : Int32) (x2 : Int32) (x3 : Int32) (x4 : Int32) (x5 : Int32) {r : Ob} (h : F9 o x1 x2 x3 x4 x5 = some r) : QTri l Z n0 ad 9 (0, qentry [.ref 0, .int x1, .int x2, .int x3, .int x4, .int x5] (pMaxL 9), [], (H0 o)) (none : Option Value) (H0 r) := by
  unfold F9 at h
  refine QTri.steps Ad W 2 (st' := (2, [some (.ref 0), some (.int x1), some (.int x2), some (.int x3), some (.int x4), some (.int x5), none, none], [.int x2, .ref 0], (H0 o))) rfl ?_
  obtain ⟨r53, hr53, h⟩ := Option.bind_eq_some_iff.mp h
  refine QTri.callP W (a := 0) (as := [.int x2]) (rest := []) (w := (some (.int r53))) (σ₁ := (H0 o)) rfl rfl rfl rfl rfl rfl rfl rfl (tF10 Ad W x2 hr53) ?_
  rcases qite h with ⟨hc54, h⟩ | ⟨hc54, h⟩
  · refine QTri.brT Ad W (t := 76) (f := 8) (L := [some (.ref 0), some (.int x1), some (.int x2), some (.int x3), some (.int x4), some (.int x5), none, none]) (S := []) (σ := (H0 o)) rfl (XT.i0_eq_t hc54) ?_
    exact QTri.mask [true, true, false, false, true, true, false, false] (tJ9_76 Ad W o x1 x4 x5 h)
  · refine QTri.brF Ad W (t := 76) (f := 8) (L := [some (.ref 0), some (.int x1), some (.int x2), some (.int x3), some (.int x4), some (.int x5), none, none]) (S := []) (σ := (H0 o)) rfl (XT.i0_eq_f hc54) ?_
    refine QTri.steps Ad W 9 (st' := (22, [some (.ref 0), some (.int x1), some (.int x2), some (.int x3), some (.int x4), some (.int x5), some (.int ((x1 * (32 : Int32)) + x2)), none], [.int ((x1 * (32 : Int32)) + x2), .ref 5], (H0 o))) rfl ?_
    obtain ⟨y114, hy114, h⟩ := Option.bind_eq_some_iff.mp h
    refine QTri.bnd Ad W (f := fun y114 => (23, [some (.ref 0), some (.int x1), some (.int x2), some (.int x3), some (.int x4), some (.int x5), some (.int ((x1 * (32 : Int32)) + x2)), none], [.int y114], (H0 o))) rfl hy114 ?_
    refine QTri.steps Ad W 2 (st' := (27, [some (.ref 0), some (.int x1), some (.int x2), some (.int x3), some (.int x4), some (.int x5), some (.int ((x1 * (32 : Int32)) + x2)), some (.int y114)], [.int y114], (H0 o))) rfl ?_
    rcases qite h with ⟨hc115, h⟩ | ⟨hc115, h⟩
    · refine QTri.brT Ad W (t := 39) (f := 30) (L := [some (.ref 0), some (.int x1), some (.int x2), some (.int x3), some (.int x4), some (.int x5), some (.int ((x1 * (32 : Int32)) + x2)), some (.int y114)]) (S := []) (σ := (H0 o)) rfl (XT.i0_eq_t hc115) ?_
      refine QTri.steps Ad W 4 (st' := (46, [some (.ref 0), some (.int x1), some (.int x2), some (.int x3), some (.int x4), some (.int x5), some (.int ((x1 * (32 : Int32)) + x2)), some (.int y114)], [.int (4 : Int32), .int ((x1 * (32 : Int32)) + x2), .ref 5], (H0 o))) rfl ?_
      obtain ⟨y116, hy116, h⟩ := Option.bind_eq_some_iff.mp h
      refine QTri.bnd Ad W (f := fun y116 => (47, [some (.ref 0), some (.int x1), some (.int x2), some (.int x3), some (.int x4), some (.int x5), some (.int ((x1 * (32 : Int32)) + x2)), some (.int y114)], [], [.inl [.ref 1, .ref 2, .ref 3, .ref 4, .ref 5, .ref 6, .ref 7, .ref 8, .ref 9, .ref 10, .ref 11, .ref 12, .ref 13, .ref 14, .ref 15, .ref 16, .ref 17, .ref 18, .ref 19, .int (f_win o), .int (f_back o), .int (f_repair o), .int (f_period o), .int (f_nextSeq o), .int (f_qLen o)], .inr (.inl (.int, (f_srcPayload o))), .inr (.inl (.boolean, (f_pend o))), .inr (.inl (.int, (f_queue o))), .inr (.inl (.int, (f_stats o))), .inr (.inl (.int, y116)), .inr (.inl (.int, (f_timer o))), .inr (.inl (.int, (f_rxVal o))), .inr (.inl (.int, (f_rxNext o))), .inr (.inl (.int, (f_rxLead o))), .inr (.inl (.int, (f_rxTrail o))), .inr (.inl (.int, (f_lossLeft o))), .inr (.inl (.int, (f_dups o))), .inr (.inl (.int, (f_drops o))), .inr (.inl (.int, (f_delSeq o))), .inr (.inl (.int, (f_delVal o))), .inr (.inl (.int, (f_delLen o))), .inr (.inl (.int, (f_lostLog o))), .inr (.inl (.int, (f_lostLen o))), .inr (.inl (.int, (f_nakBuf o)))])) rfl hy116 ?_
      refine QTri.steps Ad W 4 (st' := (54, [some (.ref 0), some (.int x1), some (.int x2), some (.int x3), some (.int x4), some (.int x5), some (.int ((x1 * (32 : Int32)) + x2)), some (.int y114)], [.int x3, .int ((x1 * (32 : Int32)) + x2), .ref 7], [.inl [.ref 1, .ref 2, .ref 3, .ref 4, .ref 5, .ref 6, .ref 7, .ref 8, .ref 9, .ref 10, .ref 11, .ref 12, .ref 13, .ref 14, .ref 15, .ref 16, .ref 17, .ref 18, .ref 19, .int (f_win o), .int (f_back o), .int (f_repair o), .int (f_period o), .int (f_nextSeq o), .int (f_qLen o)], .inr (.inl (.int, (f_srcPayload o))), .inr (.inl (.boolean, (f_pend o))), .inr (.inl (.int, (f_queue o))), .inr (.inl (.int, (f_stats o))), .inr (.inl (.int, y116)), .inr (.inl (.int, (f_timer o))), .inr (.inl (.int, (f_rxVal o))), .inr (.inl (.int, (f_rxNext o))), .inr (.inl (.int, (f_rxLead o))), .inr (.inl (.int, (f_rxTrail o))), .inr (.inl (.int, (f_lossLeft o))), .inr (.inl (.int, (f_dups o))), .inr (.inl (.int, (f_drops o))), .inr (.inl (.int, (f_delSeq o))), .inr (.inl (.int, (f_delVal o))), .inr (.inl (.int, (f_delLen o))), .inr (.inl (.int, (f_lostLog o))), .inr (.inl (.int, (f_lostLen o))), .inr (.inl (.int, (f_nakBuf o)))])) rfl ?_
      obtain ⟨y117, hy117, h⟩ := Option.bind_eq_some_iff.mp h
      refine QTri.bnd Ad W (f := fun y117 => (55, [some (.ref 0), some (.int x1), some (.int x2), some (.int x3), some (.int x4), some (.int x5), some (.int ((x1 * (32 : Int32)) + x2)), some (.int y114)], [], [.inl [.ref 1, .ref 2, .ref 3, .ref 4, .ref 5, .ref 6, .ref 7, .ref 8, .ref 9, .ref 10, .ref 11, .ref 12, .ref 13, .ref 14, .ref 15, .ref 16, .ref 17, .ref 18, .ref 19, .int (f_win o), .int (f_back o), .int (f_repair o), .int (f_period o), .int (f_nextSeq o), .int (f_qLen o)], .inr (.inl (.int, (f_srcPayload o))), .inr (.inl (.boolean, (f_pend o))), .inr (.inl (.int, (f_queue o))), .inr (.inl (.int, (f_stats o))), .inr (.inl (.int, y116)), .inr (.inl (.int, (f_timer o))), .inr (.inl (.int, y117)), .inr (.inl (.int, (f_rxNext o))), .inr (.inl (.int, (f_rxLead o))), .inr (.inl (.int, (f_rxTrail o))), .inr (.inl (.int, (f_lossLeft o))), .inr (.inl (.int, (f_dups o))), .inr (.inl (.int, (f_drops o))), .inr (.inl (.int, (f_delSeq o))), .inr (.inl (.int, (f_delVal o))), .inr (.inl (.int, (f_delLen o))), .inr (.inl (.int, (f_lostLog o))), .inr (.inl (.int, (f_lostLen o))), .inr (.inl (.int, (f_nakBuf o)))])) rfl hy117 ?_
      refine QTri.steps Ad W 4 (st' := (62, [some (.ref 0), some (.int x1), some (.int x2), some (.int x3), some (.int x4), some (.int x5), some (.int ((x1 * (32 : Int32)) + x2)), some (.int y114)], [.int (0 : Int32), .int ((x1 * (32 : Int32)) + x2), .ref 6], [.inl [.ref 1, .ref 2, .ref 3, .ref 4, .ref 5, .ref 6, .ref 7, .ref 8, .ref 9, .ref 10, .ref 11, .ref 12, .ref 13, .ref 14, .ref 15, .ref 16, .ref 17, .ref 18, .ref 19, .int (f_win o), .int (f_back o), .int (f_repair o), .int (f_period o), .int (f_nextSeq o), .int (f_qLen o)], .inr (.inl (.int, (f_srcPayload o))), .inr (.inl (.boolean, (f_pend o))), .inr (.inl (.int, (f_queue o))), .inr (.inl (.int, (f_stats o))), .inr (.inl (.int, y116)), .inr (.inl (.int, (f_timer o))), .inr (.inl (.int, y117)), .inr (.inl (.int, (f_rxNext o))), .inr (.inl (.int, (f_rxLead o))), .inr (.inl (.int, (f_rxTrail o))), .inr (.inl (.int, (f_lossLeft o))), .inr (.inl (.int, (f_dups o))), .inr (.inl (.int, (f_drops o))), .inr (.inl (.int, (f_delSeq o))), .inr (.inl (.int, (f_delVal o))), .inr (.inl (.int, (f_delLen o))), .inr (.inl (.int, (f_lostLog o))), .inr (.inl (.int, (f_lostLen o))), .inr (.inl (.int, (f_nakBuf o)))])) rfl ?_
      obtain ⟨y118, hy118, h⟩ := Option.bind_eq_some_iff.mp h
      refine QTri.bnd Ad W (f := fun y118 => (63, [some (.ref 0), some (.int x1), some (.int x2), some (.int x3), some (.int x4), some (.int x5), some (.int ((x1 * (32 : Int32)) + x2)), some (.int y114)], [], [.inl [.ref 1, .ref 2, .ref 3, .ref 4, .ref 5, .ref 6, .ref 7, .ref 8, .ref 9, .ref 10, .ref 11, .ref 12, .ref 13, .ref 14, .ref 15, .ref 16, .ref 17, .ref 18, .ref 19, .int (f_win o), .int (f_back o), .int (f_repair o), .int (f_period o), .int (f_nextSeq o), .int (f_qLen o)], .inr (.inl (.int, (f_srcPayload o))), .inr (.inl (.boolean, (f_pend o))), .inr (.inl (.int, (f_queue o))), .inr (.inl (.int, (f_stats o))), .inr (.inl (.int, y116)), .inr (.inl (.int, y118)), .inr (.inl (.int, y117)), .inr (.inl (.int, (f_rxNext o))), .inr (.inl (.int, (f_rxLead o))), .inr (.inl (.int, (f_rxTrail o))), .inr (.inl (.int, (f_lossLeft o))), .inr (.inl (.int, (f_dups o))), .inr (.inl (.int, (f_drops o))), .inr (.inl (.int, (f_delSeq o))), .inr (.inl (.int, (f_delVal o))), .inr (.inl (.int, (f_delLen o))), .inr (.inl (.int, (f_lostLog o))), .inr (.inl (.int, (f_lostLen o))), .inr (.inl (.int, (f_nakBuf o)))])) rfl hy118 ?_
      refine QTri.steps Ad W 1 (st' := (76, [some (.ref 0), some (.int x1), some (.int x2), some (.int x3), some (.int x4), some (.int x5), some (.int ((x1 * (32 : Int32)) + x2)), some (.int y114)], [], [.inl [.ref 1, .ref 2, .ref 3, .ref 4, .ref 5, .ref 6, .ref 7, .ref 8, .ref 9, .ref 10, .ref 11, .ref 12, .ref 13, .ref 14, .ref 15, .ref 16, .ref 17, .ref 18, .ref 19, .int (f_win o), .int (f_back o), .int (f_repair o), .int (f_period o), .int (f_nextSeq o), .int (f_qLen o)], .inr (.inl (.int, (f_srcPayload o))), .inr (.inl (.boolean, (f_pend o))), .inr (.inl (.int, (f_queue o))), .inr (.inl (.int, (f_stats o))), .inr (.inl (.int, y116)), .inr (.inl (.int, y118)), .inr (.inl (.int, y117)), .inr (.inl (.int, (f_rxNext o))), .inr (.inl (.int, (f_rxLead o))), .inr (.inl (.int, (f_rxTrail o))), .inr (.inl (.int, (f_lossLeft o))), .inr (.inl (.int, (f_dups o))), .inr (.inl (.int, (f_drops o))), .inr (.inl (.int, (f_delSeq o))), .inr (.inl (.int, (f_delVal o))), .inr (.inl (.int, (f_delLen o))), .inr (.inl (.int, (f_lostLog o))), .inr (.inl (.int, (f_lostLen o))), .inr (.inl (.int, (f_nakBuf o)))])) rfl ?_
      have E119 : ([.inl [.ref 1, .ref 2, .ref 3, .ref 4, .ref 5, .ref 6, .ref 7, .ref 8, .ref 9, .ref 10, .ref 11, .ref 12, .ref 13, .ref 14, .ref 15, .ref 16, .ref 17, .ref 18, .ref 19, .int (f_win o), .int (f_back o), .int (f_repair o), .int (f_period o), .int (f_nextSeq o), .int (f_qLen o)], .inr (.inl (.int, (f_srcPayload o))), .inr (.inl (.boolean, (f_pend o))), .inr (.inl (.int, (f_queue o))), .inr (.inl (.int, (f_stats o))), .inr (.inl (.int, y116)), .inr (.inl (.int, y118)), .inr (.inl (.int, y117)), .inr (.inl (.int, (f_rxNext o))), .inr (.inl (.int, (f_rxLead o))), .inr (.inl (.int, (f_rxTrail o))), .inr (.inl (.int, (f_lossLeft o))), .inr (.inl (.int, (f_dups o))), .inr (.inl (.int, (f_drops o))), .inr (.inl (.int, (f_delSeq o))), .inr (.inl (.int, (f_delVal o))), .inr (.inl (.int, (f_delLen o))), .inr (.inl (.int, (f_lostLog o))), .inr (.inl (.int, (f_lostLen o))), .inr (.inl (.int, (f_nakBuf o)))] : QHeap) = (H0 (s_timer (s_rxVal (s_state o y116) y117) y118)) := by dsimp only [H0, f_srcPayload, f_pend, f_queue, f_stats, f_state, f_timer, f_rxVal, f_rxNext, f_rxLead, f_rxTrail, f_lossLeft, f_dups, f_drops, f_delSeq, f_delVal, f_delLen, f_lostLog, f_lostLen, f_nakBuf, f_win, f_back, f_repair, f_period, f_nextSeq, f_qLen, s_state, s_timer, s_rxVal]
      rw [E119]
      exact QTri.mask [true, true, false, false, true, true, false, false] (tJ9_76 Ad W (s_timer (s_rxVal (s_state o y116) y117) y118) x1 x4 x5 h)
    · refine QTri.brF Ad W (t := 39) (f := 30) (L := [some (.ref 0), some (.int x1), some (.int x2), some (.int x3), some (.int x4), some (.int x5), some (.int ((x1 * (32 : Int32)) + x2)), some (.int y114)]) (S := []) (σ := (H0 o)) rfl (XT.i0_eq_f hc115) ?_
      cases h
def J8_50 (o : Ob) (x1 : Int32) (x3 : Int32) (x4 : Int32) (x5 : Int32) (x6 : Int32) : Option (Ob) :=
  (F9 o x1 x3 x4 x5 x6).bind fun r120 => some r120
theorem tJ8_50 (Ad : QAd n0 ad) (W : QW Z a0) (o : Ob) (x1 : Int32) (x3 : Int32) (x4 : Int32) (x5 : Int32) (x6 : Int32) {r : Ob} (h : J8_50 o x1 x3 x4 x5 x6 = some r) : QTri l Z n0 ad 8 (50, [some (.ref 0), some (.int x1), none, some (.int x3), some (.int x4), some (.int x5), some (.int x6)], [], (H0 o)) (none : Option Value) (H0 r) := by
  unfold J8_50 at h
  refine QTri.steps Ad W 6 (st' := (59, [some (.ref 0), some (.int x1), none, some (.int x3), some (.int x4), some (.int x5), some (.int x6)], [.int x6, .int x5, .int x4, .int x3, .int x1, .ref 0], (H0 o))) rfl ?_
  obtain ⟨r120, hr120, h⟩ := Option.bind_eq_some_iff.mp h
  refine QTri.callP W (a := 0) (as := [.int x1, .int x3, .int x4, .int x5, .int x6]) (rest := []) (w := none) (σ₁ := (H0 r120)) rfl rfl rfl rfl rfl rfl rfl rfl (tF9 Ad W o x1 x3 x4 x5 x6 hr120) ?_
  refine QTri.steps Ad W 1 (st' := (98, [some (.ref 0), some (.int x1), none, some (.int x3), some (.int x4), some (.int x5), some (.int x6)], [], (H0 r120))) rfl ?_
  obtain rfl := Option.some.inj h
  exact QTri.ret0 rfl rfl
/-- copyTo(IIIIII)V -/
def F8 (o : Ob) (x1 : Int32) (x2 : Int32) (x3 : Int32) (x4 : Int32) (x5 : Int32) (x6 : Int32) : Option (Ob) :=
  (aget (f_lossLeft o) x1).bind fun y43 => (if (0 : Int32) < y43 then (aget (f_lossLeft o) x1).bind fun y45 => (aset (f_lossLeft o) x1 (y45 - (1 : Int32))).bind fun y46 => (aget (f_drops o) x1).bind fun y47 => (aset (f_drops o) x1 (y47 + (1 : Int32))).bind fun y48 => (aget (f_stats o) (9 : Int32)).bind fun y49 => (aset (f_stats o) (9 : Int32) (y49 + (1 : Int32))).bind fun y50 => some (s_stats (s_drops (s_lossLeft o y46) y48) y50) else (if x2 = (0 : Int32) then (J8_50 o x1 x3 x4 x5 x6) else (if x2 = (1 : Int32) then (J8_50 o x1 x3 x4 x5 x6) else (if x2 = (2 : Int32) then (F11 o x1 x5).bind fun r123 => (F12 r123 x1 x6).bind fun r124 => (F13 r124 x1).bind fun r125 => some r125 else none))))
theorem tF8 (Ad : QAd n0 ad) (W : QW Z a0) (o : Ob) (x1 : Int32) (x2 : Int32) (x3 : Int32) (x4 : Int32) (x5 : Int32) (x6 : Int32) {r : Ob} (h : F8 o x1 x2 x3 x4 x5 x6 = some r) : QTri l Z n0 ad 8 (0, qentry [.ref 0, .int x1, .int x2, .int x3, .int x4, .int x5, .int x6] (pMaxL 8), [], (H0 o)) (none : Option Value) (H0 r) := by
  unfold F8 at h
  refine QTri.steps Ad W 3 (st' := (5, [some (.ref 0), some (.int x1), some (.int x2), some (.int x3), some (.int x4), some (.int x5), some (.int x6)], [.int x1, .ref 11], (H0 o))) rfl ?_
  obtain ⟨y43, hy43, h⟩ := Option.bind_eq_some_iff.mp h
  refine QTri.bnd Ad W (f := fun y43 => (6, [some (.ref 0), some (.int x1), some (.int x2), some (.int x3), some (.int x4), some (.int x5), some (.int x6)], [.int y43], (H0 o))) rfl hy43 ?_
  rcases qite h with ⟨hc44, h⟩ | ⟨hc44, h⟩
  · refine QTri.brF Ad W (t := 41) (f := 9) (L := [some (.ref 0), some (.int x1), some (.int x2), some (.int x3), some (.int x4), some (.int x5), some (.int x6)]) (S := []) (σ := (H0 o)) rfl (XT.i0_le_f hc44) ?_
    refine QTri.steps Ad W 4 (st' := (15, [some (.ref 0), some (.int x1), some (.int x2), some (.int x3), some (.int x4), some (.int x5), some (.int x6)], [.int x1, .ref 11, .int x1, .ref 11], (H0 o))) rfl ?_
    obtain ⟨y45, hy45, h⟩ := Option.bind_eq_some_iff.mp h
    refine QTri.bnd Ad W (f := fun y45 => (16, [some (.ref 0), some (.int x1), some (.int x2), some (.int x3), some (.int x4), some (.int x5), some (.int x6)], [.int y45, .int x1, .ref 11], (H0 o))) rfl hy45 ?_
    refine QTri.steps Ad W 2 (st' := (18, [some (.ref 0), some (.int x1), some (.int x2), some (.int x3), some (.int x4), some (.int x5), some (.int x6)], [.int (y45 - (1 : Int32)), .int x1, .ref 11], (H0 o))) rfl ?_
    obtain ⟨y46, hy46, h⟩ := Option.bind_eq_some_iff.mp h
    refine QTri.bnd Ad W (f := fun y46 => (19, [some (.ref 0), some (.int x1), some (.int x2), some (.int x3), some (.int x4), some (.int x5), some (.int x6)], [], [.inl [.ref 1, .ref 2, .ref 3, .ref 4, .ref 5, .ref 6, .ref 7, .ref 8, .ref 9, .ref 10, .ref 11, .ref 12, .ref 13, .ref 14, .ref 15, .ref 16, .ref 17, .ref 18, .ref 19, .int (f_win o), .int (f_back o), .int (f_repair o), .int (f_period o), .int (f_nextSeq o), .int (f_qLen o)], .inr (.inl (.int, (f_srcPayload o))), .inr (.inl (.boolean, (f_pend o))), .inr (.inl (.int, (f_queue o))), .inr (.inl (.int, (f_stats o))), .inr (.inl (.int, (f_state o))), .inr (.inl (.int, (f_timer o))), .inr (.inl (.int, (f_rxVal o))), .inr (.inl (.int, (f_rxNext o))), .inr (.inl (.int, (f_rxLead o))), .inr (.inl (.int, (f_rxTrail o))), .inr (.inl (.int, y46)), .inr (.inl (.int, (f_dups o))), .inr (.inl (.int, (f_drops o))), .inr (.inl (.int, (f_delSeq o))), .inr (.inl (.int, (f_delVal o))), .inr (.inl (.int, (f_delLen o))), .inr (.inl (.int, (f_lostLog o))), .inr (.inl (.int, (f_lostLen o))), .inr (.inl (.int, (f_nakBuf o)))])) rfl hy46 ?_
    refine QTri.steps Ad W 4 (st' := (25, [some (.ref 0), some (.int x1), some (.int x2), some (.int x3), some (.int x4), some (.int x5), some (.int x6)], [.int x1, .ref 13, .int x1, .ref 13], [.inl [.ref 1, .ref 2, .ref 3, .ref 4, .ref 5, .ref 6, .ref 7, .ref 8, .ref 9, .ref 10, .ref 11, .ref 12, .ref 13, .ref 14, .ref 15, .ref 16, .ref 17, .ref 18, .ref 19, .int (f_win o), .int (f_back o), .int (f_repair o), .int (f_period o), .int (f_nextSeq o), .int (f_qLen o)], .inr (.inl (.int, (f_srcPayload o))), .inr (.inl (.boolean, (f_pend o))), .inr (.inl (.int, (f_queue o))), .inr (.inl (.int, (f_stats o))), .inr (.inl (.int, (f_state o))), .inr (.inl (.int, (f_timer o))), .inr (.inl (.int, (f_rxVal o))), .inr (.inl (.int, (f_rxNext o))), .inr (.inl (.int, (f_rxLead o))), .inr (.inl (.int, (f_rxTrail o))), .inr (.inl (.int, y46)), .inr (.inl (.int, (f_dups o))), .inr (.inl (.int, (f_drops o))), .inr (.inl (.int, (f_delSeq o))), .inr (.inl (.int, (f_delVal o))), .inr (.inl (.int, (f_delLen o))), .inr (.inl (.int, (f_lostLog o))), .inr (.inl (.int, (f_lostLen o))), .inr (.inl (.int, (f_nakBuf o)))])) rfl ?_
    obtain ⟨y47, hy47, h⟩ := Option.bind_eq_some_iff.mp h
    refine QTri.bnd Ad W (f := fun y47 => (26, [some (.ref 0), some (.int x1), some (.int x2), some (.int x3), some (.int x4), some (.int x5), some (.int x6)], [.int y47, .int x1, .ref 13], [.inl [.ref 1, .ref 2, .ref 3, .ref 4, .ref 5, .ref 6, .ref 7, .ref 8, .ref 9, .ref 10, .ref 11, .ref 12, .ref 13, .ref 14, .ref 15, .ref 16, .ref 17, .ref 18, .ref 19, .int (f_win o), .int (f_back o), .int (f_repair o), .int (f_period o), .int (f_nextSeq o), .int (f_qLen o)], .inr (.inl (.int, (f_srcPayload o))), .inr (.inl (.boolean, (f_pend o))), .inr (.inl (.int, (f_queue o))), .inr (.inl (.int, (f_stats o))), .inr (.inl (.int, (f_state o))), .inr (.inl (.int, (f_timer o))), .inr (.inl (.int, (f_rxVal o))), .inr (.inl (.int, (f_rxNext o))), .inr (.inl (.int, (f_rxLead o))), .inr (.inl (.int, (f_rxTrail o))), .inr (.inl (.int, y46)), .inr (.inl (.int, (f_dups o))), .inr (.inl (.int, (f_drops o))), .inr (.inl (.int, (f_delSeq o))), .inr (.inl (.int, (f_delVal o))), .inr (.inl (.int, (f_delLen o))), .inr (.inl (.int, (f_lostLog o))), .inr (.inl (.int, (f_lostLen o))), .inr (.inl (.int, (f_nakBuf o)))])) rfl hy47 ?_
    refine QTri.steps Ad W 2 (st' := (28, [some (.ref 0), some (.int x1), some (.int x2), some (.int x3), some (.int x4), some (.int x5), some (.int x6)], [.int (y47 + (1 : Int32)), .int x1, .ref 13], [.inl [.ref 1, .ref 2, .ref 3, .ref 4, .ref 5, .ref 6, .ref 7, .ref 8, .ref 9, .ref 10, .ref 11, .ref 12, .ref 13, .ref 14, .ref 15, .ref 16, .ref 17, .ref 18, .ref 19, .int (f_win o), .int (f_back o), .int (f_repair o), .int (f_period o), .int (f_nextSeq o), .int (f_qLen o)], .inr (.inl (.int, (f_srcPayload o))), .inr (.inl (.boolean, (f_pend o))), .inr (.inl (.int, (f_queue o))), .inr (.inl (.int, (f_stats o))), .inr (.inl (.int, (f_state o))), .inr (.inl (.int, (f_timer o))), .inr (.inl (.int, (f_rxVal o))), .inr (.inl (.int, (f_rxNext o))), .inr (.inl (.int, (f_rxLead o))), .inr (.inl (.int, (f_rxTrail o))), .inr (.inl (.int, y46)), .inr (.inl (.int, (f_dups o))), .inr (.inl (.int, (f_drops o))), .inr (.inl (.int, (f_delSeq o))), .inr (.inl (.int, (f_delVal o))), .inr (.inl (.int, (f_delLen o))), .inr (.inl (.int, (f_lostLog o))), .inr (.inl (.int, (f_lostLen o))), .inr (.inl (.int, (f_nakBuf o)))])) rfl ?_
    obtain ⟨y48, hy48, h⟩ := Option.bind_eq_some_iff.mp h
    refine QTri.bnd Ad W (f := fun y48 => (29, [some (.ref 0), some (.int x1), some (.int x2), some (.int x3), some (.int x4), some (.int x5), some (.int x6)], [], [.inl [.ref 1, .ref 2, .ref 3, .ref 4, .ref 5, .ref 6, .ref 7, .ref 8, .ref 9, .ref 10, .ref 11, .ref 12, .ref 13, .ref 14, .ref 15, .ref 16, .ref 17, .ref 18, .ref 19, .int (f_win o), .int (f_back o), .int (f_repair o), .int (f_period o), .int (f_nextSeq o), .int (f_qLen o)], .inr (.inl (.int, (f_srcPayload o))), .inr (.inl (.boolean, (f_pend o))), .inr (.inl (.int, (f_queue o))), .inr (.inl (.int, (f_stats o))), .inr (.inl (.int, (f_state o))), .inr (.inl (.int, (f_timer o))), .inr (.inl (.int, (f_rxVal o))), .inr (.inl (.int, (f_rxNext o))), .inr (.inl (.int, (f_rxLead o))), .inr (.inl (.int, (f_rxTrail o))), .inr (.inl (.int, y46)), .inr (.inl (.int, (f_dups o))), .inr (.inl (.int, y48)), .inr (.inl (.int, (f_delSeq o))), .inr (.inl (.int, (f_delVal o))), .inr (.inl (.int, (f_delLen o))), .inr (.inl (.int, (f_lostLog o))), .inr (.inl (.int, (f_lostLen o))), .inr (.inl (.int, (f_nakBuf o)))])) rfl hy48 ?_
    refine QTri.steps Ad W 4 (st' := (36, [some (.ref 0), some (.int x1), some (.int x2), some (.int x3), some (.int x4), some (.int x5), some (.int x6)], [.int (9 : Int32), .ref 4, .int (9 : Int32), .ref 4], [.inl [.ref 1, .ref 2, .ref 3, .ref 4, .ref 5, .ref 6, .ref 7, .ref 8, .ref 9, .ref 10, .ref 11, .ref 12, .ref 13, .ref 14, .ref 15, .ref 16, .ref 17, .ref 18, .ref 19, .int (f_win o), .int (f_back o), .int (f_repair o), .int (f_period o), .int (f_nextSeq o), .int (f_qLen o)], .inr (.inl (.int, (f_srcPayload o))), .inr (.inl (.boolean, (f_pend o))), .inr (.inl (.int, (f_queue o))), .inr (.inl (.int, (f_stats o))), .inr (.inl (.int, (f_state o))), .inr (.inl (.int, (f_timer o))), .inr (.inl (.int, (f_rxVal o))), .inr (.inl (.int, (f_rxNext o))), .inr (.inl (.int, (f_rxLead o))), .inr (.inl (.int, (f_rxTrail o))), .inr (.inl (.int, y46)), .inr (.inl (.int, (f_dups o))), .inr (.inl (.int, y48)), .inr (.inl (.int, (f_delSeq o))), .inr (.inl (.int, (f_delVal o))), .inr (.inl (.int, (f_delLen o))), .inr (.inl (.int, (f_lostLog o))), .inr (.inl (.int, (f_lostLen o))), .inr (.inl (.int, (f_nakBuf o)))])) rfl ?_
    obtain ⟨y49, hy49, h⟩ := Option.bind_eq_some_iff.mp h
    refine QTri.bnd Ad W (f := fun y49 => (37, [some (.ref 0), some (.int x1), some (.int x2), some (.int x3), some (.int x4), some (.int x5), some (.int x6)], [.int y49, .int (9 : Int32), .ref 4], [.inl [.ref 1, .ref 2, .ref 3, .ref 4, .ref 5, .ref 6, .ref 7, .ref 8, .ref 9, .ref 10, .ref 11, .ref 12, .ref 13, .ref 14, .ref 15, .ref 16, .ref 17, .ref 18, .ref 19, .int (f_win o), .int (f_back o), .int (f_repair o), .int (f_period o), .int (f_nextSeq o), .int (f_qLen o)], .inr (.inl (.int, (f_srcPayload o))), .inr (.inl (.boolean, (f_pend o))), .inr (.inl (.int, (f_queue o))), .inr (.inl (.int, (f_stats o))), .inr (.inl (.int, (f_state o))), .inr (.inl (.int, (f_timer o))), .inr (.inl (.int, (f_rxVal o))), .inr (.inl (.int, (f_rxNext o))), .inr (.inl (.int, (f_rxLead o))), .inr (.inl (.int, (f_rxTrail o))), .inr (.inl (.int, y46)), .inr (.inl (.int, (f_dups o))), .inr (.inl (.int, y48)), .inr (.inl (.int, (f_delSeq o))), .inr (.inl (.int, (f_delVal o))), .inr (.inl (.int, (f_delLen o))), .inr (.inl (.int, (f_lostLog o))), .inr (.inl (.int, (f_lostLen o))), .inr (.inl (.int, (f_nakBuf o)))])) rfl hy49 ?_
    refine QTri.steps Ad W 2 (st' := (39, [some (.ref 0), some (.int x1), some (.int x2), some (.int x3), some (.int x4), some (.int x5), some (.int x6)], [.int (y49 + (1 : Int32)), .int (9 : Int32), .ref 4], [.inl [.ref 1, .ref 2, .ref 3, .ref 4, .ref 5, .ref 6, .ref 7, .ref 8, .ref 9, .ref 10, .ref 11, .ref 12, .ref 13, .ref 14, .ref 15, .ref 16, .ref 17, .ref 18, .ref 19, .int (f_win o), .int (f_back o), .int (f_repair o), .int (f_period o), .int (f_nextSeq o), .int (f_qLen o)], .inr (.inl (.int, (f_srcPayload o))), .inr (.inl (.boolean, (f_pend o))), .inr (.inl (.int, (f_queue o))), .inr (.inl (.int, (f_stats o))), .inr (.inl (.int, (f_state o))), .inr (.inl (.int, (f_timer o))), .inr (.inl (.int, (f_rxVal o))), .inr (.inl (.int, (f_rxNext o))), .inr (.inl (.int, (f_rxLead o))), .inr (.inl (.int, (f_rxTrail o))), .inr (.inl (.int, y46)), .inr (.inl (.int, (f_dups o))), .inr (.inl (.int, y48)), .inr (.inl (.int, (f_delSeq o))), .inr (.inl (.int, (f_delVal o))), .inr (.inl (.int, (f_delLen o))), .inr (.inl (.int, (f_lostLog o))), .inr (.inl (.int, (f_lostLen o))), .inr (.inl (.int, (f_nakBuf o)))])) rfl ?_
    obtain ⟨y50, hy50, h⟩ := Option.bind_eq_some_iff.mp h
    refine QTri.bnd Ad W (f := fun y50 => (40, [some (.ref 0), some (.int x1), some (.int x2), some (.int x3), some (.int x4), some (.int x5), some (.int x6)], [], [.inl [.ref 1, .ref 2, .ref 3, .ref 4, .ref 5, .ref 6, .ref 7, .ref 8, .ref 9, .ref 10, .ref 11, .ref 12, .ref 13, .ref 14, .ref 15, .ref 16, .ref 17, .ref 18, .ref 19, .int (f_win o), .int (f_back o), .int (f_repair o), .int (f_period o), .int (f_nextSeq o), .int (f_qLen o)], .inr (.inl (.int, (f_srcPayload o))), .inr (.inl (.boolean, (f_pend o))), .inr (.inl (.int, (f_queue o))), .inr (.inl (.int, y50)), .inr (.inl (.int, (f_state o))), .inr (.inl (.int, (f_timer o))), .inr (.inl (.int, (f_rxVal o))), .inr (.inl (.int, (f_rxNext o))), .inr (.inl (.int, (f_rxLead o))), .inr (.inl (.int, (f_rxTrail o))), .inr (.inl (.int, y46)), .inr (.inl (.int, (f_dups o))), .inr (.inl (.int, y48)), .inr (.inl (.int, (f_delSeq o))), .inr (.inl (.int, (f_delVal o))), .inr (.inl (.int, (f_delLen o))), .inr (.inl (.int, (f_lostLog o))), .inr (.inl (.int, (f_lostLen o))), .inr (.inl (.int, (f_nakBuf o)))])) rfl hy50 ?_
    have E51 : ([.inl [.ref 1, .ref 2, .ref 3, .ref 4, .ref 5, .ref 6, .ref 7, .ref 8, .ref 9, .ref 10, .ref 11, .ref 12, .ref 13, .ref 14, .ref 15, .ref 16, .ref 17, .ref 18, .ref 19, .int (f_win o), .int (f_back o), .int (f_repair o), .int (f_period o), .int (f_nextSeq o), .int (f_qLen o)], .inr (.inl (.int, (f_srcPayload o))), .inr (.inl (.boolean, (f_pend o))), .inr (.inl (.int, (f_queue o))), .inr (.inl (.int, y50)), .inr (.inl (.int, (f_state o))), .inr (.inl (.int, (f_timer o))), .inr (.inl (.int, (f_rxVal o))), .inr (.inl (.int, (f_rxNext o))), .inr (.inl (.int, (f_rxLead o))), .inr (.inl (.int, (f_rxTrail o))), .inr (.inl (.int, y46)), .inr (.inl (.int, (f_dups o))), .inr (.inl (.int, y48)), .inr (.inl (.int, (f_delSeq o))), .inr (.inl (.int, (f_delVal o))), .inr (.inl (.int, (f_delLen o))), .inr (.inl (.int, (f_lostLog o))), .inr (.inl (.int, (f_lostLen o))), .inr (.inl (.int, (f_nakBuf o)))] : QHeap) = (H0 (s_stats (s_drops (s_lossLeft o y46) y48) y50)) := by dsimp only [H0, f_srcPayload, f_pend, f_queue, f_stats, f_state, f_timer, f_rxVal, f_rxNext, f_rxLead, f_rxTrail, f_lossLeft, f_dups, f_drops, f_delSeq, f_delVal, f_delLen, f_lostLog, f_lostLen, f_nakBuf, f_win, f_back, f_repair, f_period, f_nextSeq, f_qLen, s_stats, s_lossLeft, s_drops]
    rw [E51]
    obtain rfl := Option.some.inj h
    exact QTri.ret0 rfl rfl
  · refine QTri.brT Ad W (t := 41) (f := 9) (L := [some (.ref 0), some (.int x1), some (.int x2), some (.int x3), some (.int x4), some (.int x5), some (.int x6)]) (S := []) (σ := (H0 o)) rfl (XT.i0_le_t hc44) ?_
    refine QTri.steps Ad W 1 (st' := (42, [some (.ref 0), some (.int x1), some (.int x2), some (.int x3), some (.int x4), some (.int x5), some (.int x6)], [.int x2], (H0 o))) rfl ?_
    rcases qite h with ⟨hc52, h⟩ | ⟨hc52, h⟩
    · refine QTri.brT Ad W (t := 50) (f := 45) (L := [some (.ref 0), some (.int x1), some (.int x2), some (.int x3), some (.int x4), some (.int x5), some (.int x6)]) (S := []) (σ := (H0 o)) rfl (XT.i0_eq_t hc52) ?_
      exact QTri.mask [true, true, false, true, true, true, true] (tJ8_50 Ad W o x1 x3 x4 x5 x6 h)
    · refine QTri.brF Ad W (t := 50) (f := 45) (L := [some (.ref 0), some (.int x1), some (.int x2), some (.int x3), some (.int x4), some (.int x5), some (.int x6)]) (S := []) (σ := (H0 o)) rfl (XT.i0_eq_f hc52) ?_
      refine QTri.steps Ad W 2 (st' := (47, [some (.ref 0), some (.int x1), some (.int x2), some (.int x3), some (.int x4), some (.int x5), some (.int x6)], [.int (1 : Int32), .int x2], (H0 o))) rfl ?_
      rcases qite h with ⟨hc121, h⟩ | ⟨hc121, h⟩
      · refine QTri.brF Ad W (t := 65) (f := 50) (L := [some (.ref 0), some (.int x1), some (.int x2), some (.int x3), some (.int x4), some (.int x5), some (.int x6)]) (S := []) (σ := (H0 o)) rfl (XT.ii_ne_f hc121) ?_
        exact QTri.mask [true, true, false, true, true, true, true] (tJ8_50 Ad W o x1 x3 x4 x5 x6 h)
      · refine QTri.brT Ad W (t := 65) (f := 50) (L := [some (.ref 0), some (.int x1), some (.int x2), some (.int x3), some (.int x4), some (.int x5), some (.int x6)]) (S := []) (σ := (H0 o)) rfl (XT.ii_ne_t hc121) ?_
        refine QTri.steps Ad W 2 (st' := (67, [some (.ref 0), some (.int x1), some (.int x2), some (.int x3), some (.int x4), some (.int x5), some (.int x6)], [.int (2 : Int32), .int x2], (H0 o))) rfl ?_
        rcases qite h with ⟨hc122, h⟩ | ⟨hc122, h⟩
        · refine QTri.brF Ad W (t := 92) (f := 70) (L := [some (.ref 0), some (.int x1), some (.int x2), some (.int x3), some (.int x4), some (.int x5), some (.int x6)]) (S := []) (σ := (H0 o)) rfl (XT.ii_ne_f hc122) ?_
          refine QTri.steps Ad W 3 (st' := (74, [some (.ref 0), some (.int x1), some (.int x2), some (.int x3), some (.int x4), some (.int x5), some (.int x6)], [.int x5, .int x1, .ref 0], (H0 o))) rfl ?_
          obtain ⟨r123, hr123, h⟩ := Option.bind_eq_some_iff.mp h
          refine QTri.callP W (a := 0) (as := [.int x1, .int x5]) (rest := []) (w := none) (σ₁ := (H0 r123)) rfl rfl rfl rfl rfl rfl rfl rfl (tF11 Ad W o x1 x5 hr123) ?_
          refine QTri.steps Ad W 3 (st' := (81, [some (.ref 0), some (.int x1), some (.int x2), some (.int x3), some (.int x4), some (.int x5), some (.int x6)], [.int x6, .int x1, .ref 0], (H0 r123))) rfl ?_
          obtain ⟨r124, hr124, h⟩ := Option.bind_eq_some_iff.mp h
          refine QTri.callP W (a := 0) (as := [.int x1, .int x6]) (rest := []) (w := none) (σ₁ := (H0 r124)) rfl rfl rfl rfl rfl rfl rfl rfl (tF12 Ad W r123 x1 x6 hr124) ?_
          refine QTri.steps Ad W 2 (st' := (86, [some (.ref 0), some (.int x1), some (.int x2), some (.int x3), some (.int x4), some (.int x5), some (.int x6)], [.int x1, .ref 0], (H0 r124))) rfl ?_
          obtain ⟨r125, hr125, h⟩ := Option.bind_eq_some_iff.mp h
          refine QTri.callP W (a := 0) (as := [.int x1]) (rest := []) (w := none) (σ₁ := (H0 r125)) rfl rfl rfl rfl rfl rfl rfl rfl (tF13 Ad W r124 x1 hr125) ?_
          refine QTri.steps Ad W 1 (st' := (98, [some (.ref 0), some (.int x1), some (.int x2), some (.int x3), some (.int x4), some (.int x5), some (.int x6)], [], (H0 r125))) rfl ?_
          obtain rfl := Option.some.inj h
          exact QTri.ret0 rfl rfl
        · refine QTri.brT Ad W (t := 92) (f := 70) (L := [some (.ref 0), some (.int x1), some (.int x2), some (.int x3), some (.int x4), some (.int x5), some (.int x6)]) (S := []) (σ := (H0 o)) rfl (XT.ii_ne_t hc122) ?_
          cases h
def B4_23 (x1 : Int32) (x2 : Int32) (x3 : Int32) (x4 : Int32) (x5 : Int32) (v : Int32 × Ob) : Option (((Ob)) ⊕ (Int32 × Ob)) :=
  (if v.1 < (4 : Int32) then (F8 v.2 v.1 x1 x2 x3 x4 x5).bind fun r126 => some (.inr ((v.1 + (1 : Int32)), r126)) else some (.inl v.2))
theorem tB4_23 (Ad : QAd n0 ad) (W : QW Z a0) (x1 : Int32) (x2 : Int32) (x3 : Int32) (x4 : Int32) (x5 : Int32) (v : Int32 × Ob) {r : ((Ob)) ⊕ (Int32 × Ob)} {u : Option Value} {τ : QHeap} (h : B4_23 x1 x2 x3 x4 x5 v = some r) (hx0 : ∀ x : Ob, r = .inl x → u = (none : Option Value) ∧ τ = (H0 x)) (hc : ∀ x : Int32 × Ob, r = .inr x → QTri l Z n0 ad 4 (23, [some (.ref 0), some (.int x1), some (.int x2), some (.int x3), some (.int x4), some (.int x5), some (.int x.1)], [], (H0 x.2)) u τ) : QTri l Z n0 ad 4 (23, [some (.ref 0), some (.int x1), some (.int x2), some (.int x3), some (.int x4), some (.int x5), some (.int v.1)], [], (H0 v.2)) u τ := by
  unfold B4_23 at h
  refine QTri.steps Ad W 2 (st' := (26, [some (.ref 0), some (.int x1), some (.int x2), some (.int x3), some (.int x4), some (.int x5), some (.int v.1)], [.int (4 : Int32), .int v.1], (H0 v.2))) rfl ?_
  rcases qite h with ⟨hc42, h⟩ | ⟨hc42, h⟩
  · refine QTri.brF Ad W (t := 48) (f := 29) (L := [some (.ref 0), some (.int x1), some (.int x2), some (.int x3), some (.int x4), some (.int x5), some (.int v.1)]) (S := []) (σ := (H0 v.2)) rfl (XT.ii_ge_f hc42) ?_
    refine QTri.steps Ad W 7 (st' := (39, [some (.ref 0), some (.int x1), some (.int x2), some (.int x3), some (.int x4), some (.int x5), some (.int v.1)], [.int x5, .int x4, .int x3, .int x2, .int x1, .int v.1, .ref 0], (H0 v.2))) rfl ?_
    obtain ⟨r126, hr126, h⟩ := Option.bind_eq_some_iff.mp h
    refine QTri.callP W (a := 0) (as := [.int v.1, .int x1, .int x2, .int x3, .int x4, .int x5]) (rest := []) (w := none) (σ₁ := (H0 r126)) rfl rfl rfl rfl rfl rfl rfl rfl (tF8 Ad W v.2 v.1 x1 x2 x3 x4 x5 hr126) ?_
    refine QTri.steps Ad W 2 (st' := (23, [some (.ref 0), some (.int x1), some (.int x2), some (.int x3), some (.int x4), some (.int x5), some (.int (v.1 + (1 : Int32)))], [], (H0 r126))) rfl ?_
    obtain rfl := Option.some.inj h
    exact QTri.mask [true, true, true, true, true, true, true] (hc ((v.1 + (1 : Int32)), r126) rfl)
  · refine QTri.brT Ad W (t := 48) (f := 29) (L := [some (.ref 0), some (.int x1), some (.int x2), some (.int x3), some (.int x4), some (.int x5), some (.int v.1)]) (S := []) (σ := (H0 v.2)) rfl (XT.ii_ge_t hc42) ?_
    obtain rfl := Option.some.inj h
    obtain ⟨rfl, rfl⟩ := hx0 v.2 rfl
    exact QTri.ret0 rfl rfl
/-- multicastSource(III)V -/
def F4 (o : Ob) (x1 : Int32) (x2 : Int32) (x3 : Int32) : Option (Ob) :=
  (F5 o).bind fun r25 => (F6 o).bind fun r27 => (F7 o x1 x2 r27).bind fun r41 => (loopN (B4_23 x1 x2 x3 r25 r27) qN ((0 : Int32), r41)).bind fun e127 => some e127
theorem tF4 (Ad : QAd n0 ad) (W : QW Z a0) (o : Ob) (x1 : Int32) (x2 : Int32) (x3 : Int32) {r : Ob} (h : F4 o x1 x2 x3 = some r) : QTri l Z n0 ad 4 (0, qentry [.ref 0, .int x1, .int x2, .int x3] (pMaxL 4), [], (H0 o)) (none : Option Value) (H0 r) := by
  unfold F4 at h
  refine QTri.steps Ad W 1 (st' := (1, [some (.ref 0), some (.int x1), some (.int x2), some (.int x3), none, none, none], [.ref 0], (H0 o))) rfl ?_
  obtain ⟨r25, hr25, h⟩ := Option.bind_eq_some_iff.mp h
  refine QTri.callP W (a := 0) (as := []) (rest := []) (w := (some (.int r25))) (σ₁ := (H0 o)) rfl rfl rfl rfl rfl rfl rfl rfl (tF5 Ad W o hr25) ?_
  refine QTri.steps Ad W 2 (st' := (7, [some (.ref 0), some (.int x1), some (.int x2), some (.int x3), some (.int r25), none, none], [.ref 0], (H0 o))) rfl ?_
  obtain ⟨r27, hr27, h⟩ := Option.bind_eq_some_iff.mp h
  refine QTri.callP W (a := 0) (as := []) (rest := []) (w := (some (.int r27))) (σ₁ := (H0 o)) rfl rfl rfl rfl rfl rfl rfl rfl (tF6 Ad W o hr27) ?_
  refine QTri.steps Ad W 5 (st' := (17, [some (.ref 0), some (.int x1), some (.int x2), some (.int x3), some (.int r25), some (.int r27), none], [.int r27, .int x2, .int x1, .ref 0], (H0 o))) rfl ?_
  obtain ⟨r41, hr41, h⟩ := Option.bind_eq_some_iff.mp h
  refine QTri.callP W (a := 0) (as := [.int x1, .int x2, .int r27]) (rest := []) (w := none) (σ₁ := (H0 r41)) rfl rfl rfl rfl rfl rfl rfl rfl (tF7 Ad W o x1 x2 r27 hr41) ?_
  refine QTri.steps Ad W 2 (st' := (23, [some (.ref 0), some (.int x1), some (.int x2), some (.int x3), some (.int r25), some (.int r27), some (.int (0 : Int32))], [], (H0 r41))) rfl ?_
  obtain ⟨e127, he127, h⟩ := Option.bind_eq_some_iff.mp h
  refine QTri.mask [true, true, true, true, true, true, true] (loopN_tri (B := B4_23 x1 x2 x3 r25 r27) (T := fun lv128 => QTri l Z n0 ad 4 (23, [some (.ref 0), some (.int x1), some (.int x2), some (.int x3), some (.int r25), some (.int r27), some (.int lv128.1)], [], (H0 lv128.2)) (none : Option Value) (H0 r)) (KE := fun e127a => (none : Option Value) = (none : Option Value) ∧ (H0 r) = (H0 e127a)) (fun lv128 r hB hE hC => tB4_23 Ad W x1 x2 x3 r25 r27 lv128 hB (fun x q => hE _ q) (fun x q => hC x q)) qN ((0 : Int32), r41) e127 he127 ?_)
  obtain rfl := Option.some.inj h
  exact ⟨rfl, rfl⟩
/-- send(I)I -/
def F3 (o : Ob) (x1 : Int32) : Option (Int32 × Ob) :=
  (if x1 < (0 : Int32) then some ((-1 : Int32), o) else (if (255 : Int32) < x1 then some ((-1 : Int32), o) else (if (f_nextSeq o) < (32 : Int32) then (aset (f_srcPayload o) (f_nextSeq o) x1).bind fun y21 => (aget (f_stats o) (1 : Int32)).bind fun y22 => (aset (f_stats o) (1 : Int32) (y22 + (1 : Int32))).bind fun y23 => (F4 (s_stats (s_nextSeq (s_srcPayload o y21) ((f_nextSeq o) + (1 : Int32))) y23) (0 : Int32) (f_nextSeq o) x1).bind fun r129 => some ((f_nextSeq o), r129) else some ((-1 : Int32), o))))
theorem tF3 (Ad : QAd n0 ad) (W : QW Z a0) (o : Ob) (x1 : Int32) {r : Int32 × Ob} (h : F3 o x1 = some r) : QTri l Z n0 ad 3 (0, qentry [.ref 0, .int x1] (pMaxL 3), [], (H0 o)) (some (Value.int r.1)) (H0 r.2) := by
  unfold F3 at h
  refine QTri.steps Ad W 1 (st' := (1, [some (.ref 0), some (.int x1), none], [.int x1], (H0 o))) rfl ?_
  rcases qite h with ⟨hc18, h⟩ | ⟨hc18, h⟩
  · refine QTri.brT Ad W (t := 11) (f := 4) (L := [some (.ref 0), some (.int x1), none]) (S := []) (σ := (H0 o)) rfl (XT.i0_lt_t hc18) ?_
    refine QTri.steps Ad W 1 (st' := (12, [some (.ref 0), some (.int x1), none], [.int (-1 : Int32)], (H0 o))) rfl ?_
    obtain rfl := Option.some.inj h
    exact QTri.retI rfl rfl
  · refine QTri.brF Ad W (t := 11) (f := 4) (L := [some (.ref 0), some (.int x1), none]) (S := []) (σ := (H0 o)) rfl (XT.i0_lt_f hc18) ?_
    refine QTri.steps Ad W 2 (st' := (8, [some (.ref 0), some (.int x1), none], [.int (255 : Int32), .int x1], (H0 o))) rfl ?_
    rcases qite h with ⟨hc19, h⟩ | ⟨hc19, h⟩
    · refine QTri.brF Ad W (t := 13) (f := 11) (L := [some (.ref 0), some (.int x1), none]) (S := []) (σ := (H0 o)) rfl (XT.ii_le_f hc19) ?_
      refine QTri.steps Ad W 1 (st' := (12, [some (.ref 0), some (.int x1), none], [.int (-1 : Int32)], (H0 o))) rfl ?_
      obtain rfl := Option.some.inj h
      exact QTri.retI rfl rfl
    · refine QTri.brT Ad W (t := 13) (f := 11) (L := [some (.ref 0), some (.int x1), none]) (S := []) (σ := (H0 o)) rfl (XT.ii_le_t hc19) ?_
      refine QTri.steps Ad W 3 (st' := (19, [some (.ref 0), some (.int x1), none], [.int (32 : Int32), .int (f_nextSeq o)], (H0 o))) rfl ?_
      rcases qite h with ⟨hc20, h⟩ | ⟨hc20, h⟩
      · refine QTri.brT Ad W (t := 24) (f := 22) (L := [some (.ref 0), some (.int x1), none]) (S := []) (σ := (H0 o)) rfl (XT.ii_lt_t hc20) ?_
        refine QTri.steps Ad W 7 (st' := (35, [some (.ref 0), some (.int x1), some (.int (f_nextSeq o))], [.int x1, .int (f_nextSeq o), .ref 1], (H0 o))) rfl ?_
        obtain ⟨y21, hy21, h⟩ := Option.bind_eq_some_iff.mp h
        refine QTri.bnd Ad W (f := fun y21 => (36, [some (.ref 0), some (.int x1), some (.int (f_nextSeq o))], [], [.inl [.ref 1, .ref 2, .ref 3, .ref 4, .ref 5, .ref 6, .ref 7, .ref 8, .ref 9, .ref 10, .ref 11, .ref 12, .ref 13, .ref 14, .ref 15, .ref 16, .ref 17, .ref 18, .ref 19, .int (f_win o), .int (f_back o), .int (f_repair o), .int (f_period o), .int (f_nextSeq o), .int (f_qLen o)], .inr (.inl (.int, y21)), .inr (.inl (.boolean, (f_pend o))), .inr (.inl (.int, (f_queue o))), .inr (.inl (.int, (f_stats o))), .inr (.inl (.int, (f_state o))), .inr (.inl (.int, (f_timer o))), .inr (.inl (.int, (f_rxVal o))), .inr (.inl (.int, (f_rxNext o))), .inr (.inl (.int, (f_rxLead o))), .inr (.inl (.int, (f_rxTrail o))), .inr (.inl (.int, (f_lossLeft o))), .inr (.inl (.int, (f_dups o))), .inr (.inl (.int, (f_drops o))), .inr (.inl (.int, (f_delSeq o))), .inr (.inl (.int, (f_delVal o))), .inr (.inl (.int, (f_delLen o))), .inr (.inl (.int, (f_lostLog o))), .inr (.inl (.int, (f_lostLen o))), .inr (.inl (.int, (f_nakBuf o)))])) rfl hy21 ?_
        refine QTri.steps Ad W 6 (st' := (46, [some (.ref 0), some (.int x1), some (.int (f_nextSeq o))], [], [.inl [.ref 1, .ref 2, .ref 3, .ref 4, .ref 5, .ref 6, .ref 7, .ref 8, .ref 9, .ref 10, .ref 11, .ref 12, .ref 13, .ref 14, .ref 15, .ref 16, .ref 17, .ref 18, .ref 19, .int (f_win o), .int (f_back o), .int (f_repair o), .int (f_period o), .int ((f_nextSeq o) + (1 : Int32)), .int (f_qLen o)], .inr (.inl (.int, y21)), .inr (.inl (.boolean, (f_pend o))), .inr (.inl (.int, (f_queue o))), .inr (.inl (.int, (f_stats o))), .inr (.inl (.int, (f_state o))), .inr (.inl (.int, (f_timer o))), .inr (.inl (.int, (f_rxVal o))), .inr (.inl (.int, (f_rxNext o))), .inr (.inl (.int, (f_rxLead o))), .inr (.inl (.int, (f_rxTrail o))), .inr (.inl (.int, (f_lossLeft o))), .inr (.inl (.int, (f_dups o))), .inr (.inl (.int, (f_drops o))), .inr (.inl (.int, (f_delSeq o))), .inr (.inl (.int, (f_delVal o))), .inr (.inl (.int, (f_delLen o))), .inr (.inl (.int, (f_lostLog o))), .inr (.inl (.int, (f_lostLen o))), .inr (.inl (.int, (f_nakBuf o)))])) rfl ?_
        refine QTri.steps Ad W 4 (st' := (52, [some (.ref 0), some (.int x1), some (.int (f_nextSeq o))], [.int (1 : Int32), .ref 4, .int (1 : Int32), .ref 4], [.inl [.ref 1, .ref 2, .ref 3, .ref 4, .ref 5, .ref 6, .ref 7, .ref 8, .ref 9, .ref 10, .ref 11, .ref 12, .ref 13, .ref 14, .ref 15, .ref 16, .ref 17, .ref 18, .ref 19, .int (f_win o), .int (f_back o), .int (f_repair o), .int (f_period o), .int ((f_nextSeq o) + (1 : Int32)), .int (f_qLen o)], .inr (.inl (.int, y21)), .inr (.inl (.boolean, (f_pend o))), .inr (.inl (.int, (f_queue o))), .inr (.inl (.int, (f_stats o))), .inr (.inl (.int, (f_state o))), .inr (.inl (.int, (f_timer o))), .inr (.inl (.int, (f_rxVal o))), .inr (.inl (.int, (f_rxNext o))), .inr (.inl (.int, (f_rxLead o))), .inr (.inl (.int, (f_rxTrail o))), .inr (.inl (.int, (f_lossLeft o))), .inr (.inl (.int, (f_dups o))), .inr (.inl (.int, (f_drops o))), .inr (.inl (.int, (f_delSeq o))), .inr (.inl (.int, (f_delVal o))), .inr (.inl (.int, (f_delLen o))), .inr (.inl (.int, (f_lostLog o))), .inr (.inl (.int, (f_lostLen o))), .inr (.inl (.int, (f_nakBuf o)))])) rfl ?_
        obtain ⟨y22, hy22, h⟩ := Option.bind_eq_some_iff.mp h
        refine QTri.bnd Ad W (f := fun y22 => (53, [some (.ref 0), some (.int x1), some (.int (f_nextSeq o))], [.int y22, .int (1 : Int32), .ref 4], [.inl [.ref 1, .ref 2, .ref 3, .ref 4, .ref 5, .ref 6, .ref 7, .ref 8, .ref 9, .ref 10, .ref 11, .ref 12, .ref 13, .ref 14, .ref 15, .ref 16, .ref 17, .ref 18, .ref 19, .int (f_win o), .int (f_back o), .int (f_repair o), .int (f_period o), .int ((f_nextSeq o) + (1 : Int32)), .int (f_qLen o)], .inr (.inl (.int, y21)), .inr (.inl (.boolean, (f_pend o))), .inr (.inl (.int, (f_queue o))), .inr (.inl (.int, (f_stats o))), .inr (.inl (.int, (f_state o))), .inr (.inl (.int, (f_timer o))), .inr (.inl (.int, (f_rxVal o))), .inr (.inl (.int, (f_rxNext o))), .inr (.inl (.int, (f_rxLead o))), .inr (.inl (.int, (f_rxTrail o))), .inr (.inl (.int, (f_lossLeft o))), .inr (.inl (.int, (f_dups o))), .inr (.inl (.int, (f_drops o))), .inr (.inl (.int, (f_delSeq o))), .inr (.inl (.int, (f_delVal o))), .inr (.inl (.int, (f_delLen o))), .inr (.inl (.int, (f_lostLog o))), .inr (.inl (.int, (f_lostLen o))), .inr (.inl (.int, (f_nakBuf o)))])) rfl hy22 ?_
        refine QTri.steps Ad W 2 (st' := (55, [some (.ref 0), some (.int x1), some (.int (f_nextSeq o))], [.int (y22 + (1 : Int32)), .int (1 : Int32), .ref 4], [.inl [.ref 1, .ref 2, .ref 3, .ref 4, .ref 5, .ref 6, .ref 7, .ref 8, .ref 9, .ref 10, .ref 11, .ref 12, .ref 13, .ref 14, .ref 15, .ref 16, .ref 17, .ref 18, .ref 19, .int (f_win o), .int (f_back o), .int (f_repair o), .int (f_period o), .int ((f_nextSeq o) + (1 : Int32)), .int (f_qLen o)], .inr (.inl (.int, y21)), .inr (.inl (.boolean, (f_pend o))), .inr (.inl (.int, (f_queue o))), .inr (.inl (.int, (f_stats o))), .inr (.inl (.int, (f_state o))), .inr (.inl (.int, (f_timer o))), .inr (.inl (.int, (f_rxVal o))), .inr (.inl (.int, (f_rxNext o))), .inr (.inl (.int, (f_rxLead o))), .inr (.inl (.int, (f_rxTrail o))), .inr (.inl (.int, (f_lossLeft o))), .inr (.inl (.int, (f_dups o))), .inr (.inl (.int, (f_drops o))), .inr (.inl (.int, (f_delSeq o))), .inr (.inl (.int, (f_delVal o))), .inr (.inl (.int, (f_delLen o))), .inr (.inl (.int, (f_lostLog o))), .inr (.inl (.int, (f_lostLen o))), .inr (.inl (.int, (f_nakBuf o)))])) rfl ?_
        obtain ⟨y23, hy23, h⟩ := Option.bind_eq_some_iff.mp h
        refine QTri.bnd Ad W (f := fun y23 => (56, [some (.ref 0), some (.int x1), some (.int (f_nextSeq o))], [], [.inl [.ref 1, .ref 2, .ref 3, .ref 4, .ref 5, .ref 6, .ref 7, .ref 8, .ref 9, .ref 10, .ref 11, .ref 12, .ref 13, .ref 14, .ref 15, .ref 16, .ref 17, .ref 18, .ref 19, .int (f_win o), .int (f_back o), .int (f_repair o), .int (f_period o), .int ((f_nextSeq o) + (1 : Int32)), .int (f_qLen o)], .inr (.inl (.int, y21)), .inr (.inl (.boolean, (f_pend o))), .inr (.inl (.int, (f_queue o))), .inr (.inl (.int, y23)), .inr (.inl (.int, (f_state o))), .inr (.inl (.int, (f_timer o))), .inr (.inl (.int, (f_rxVal o))), .inr (.inl (.int, (f_rxNext o))), .inr (.inl (.int, (f_rxLead o))), .inr (.inl (.int, (f_rxTrail o))), .inr (.inl (.int, (f_lossLeft o))), .inr (.inl (.int, (f_dups o))), .inr (.inl (.int, (f_drops o))), .inr (.inl (.int, (f_delSeq o))), .inr (.inl (.int, (f_delVal o))), .inr (.inl (.int, (f_delLen o))), .inr (.inl (.int, (f_lostLog o))), .inr (.inl (.int, (f_lostLen o))), .inr (.inl (.int, (f_nakBuf o)))])) rfl hy23 ?_
        refine QTri.steps Ad W 4 (st' := (60, [some (.ref 0), some (.int x1), some (.int (f_nextSeq o))], [.int x1, .int (f_nextSeq o), .int (0 : Int32), .ref 0], [.inl [.ref 1, .ref 2, .ref 3, .ref 4, .ref 5, .ref 6, .ref 7, .ref 8, .ref 9, .ref 10, .ref 11, .ref 12, .ref 13, .ref 14, .ref 15, .ref 16, .ref 17, .ref 18, .ref 19, .int (f_win o), .int (f_back o), .int (f_repair o), .int (f_period o), .int ((f_nextSeq o) + (1 : Int32)), .int (f_qLen o)], .inr (.inl (.int, y21)), .inr (.inl (.boolean, (f_pend o))), .inr (.inl (.int, (f_queue o))), .inr (.inl (.int, y23)), .inr (.inl (.int, (f_state o))), .inr (.inl (.int, (f_timer o))), .inr (.inl (.int, (f_rxVal o))), .inr (.inl (.int, (f_rxNext o))), .inr (.inl (.int, (f_rxLead o))), .inr (.inl (.int, (f_rxTrail o))), .inr (.inl (.int, (f_lossLeft o))), .inr (.inl (.int, (f_dups o))), .inr (.inl (.int, (f_drops o))), .inr (.inl (.int, (f_delSeq o))), .inr (.inl (.int, (f_delVal o))), .inr (.inl (.int, (f_delLen o))), .inr (.inl (.int, (f_lostLog o))), .inr (.inl (.int, (f_lostLen o))), .inr (.inl (.int, (f_nakBuf o)))])) rfl ?_
        have E24 : ([.inl [.ref 1, .ref 2, .ref 3, .ref 4, .ref 5, .ref 6, .ref 7, .ref 8, .ref 9, .ref 10, .ref 11, .ref 12, .ref 13, .ref 14, .ref 15, .ref 16, .ref 17, .ref 18, .ref 19, .int (f_win o), .int (f_back o), .int (f_repair o), .int (f_period o), .int ((f_nextSeq o) + (1 : Int32)), .int (f_qLen o)], .inr (.inl (.int, y21)), .inr (.inl (.boolean, (f_pend o))), .inr (.inl (.int, (f_queue o))), .inr (.inl (.int, y23)), .inr (.inl (.int, (f_state o))), .inr (.inl (.int, (f_timer o))), .inr (.inl (.int, (f_rxVal o))), .inr (.inl (.int, (f_rxNext o))), .inr (.inl (.int, (f_rxLead o))), .inr (.inl (.int, (f_rxTrail o))), .inr (.inl (.int, (f_lossLeft o))), .inr (.inl (.int, (f_dups o))), .inr (.inl (.int, (f_drops o))), .inr (.inl (.int, (f_delSeq o))), .inr (.inl (.int, (f_delVal o))), .inr (.inl (.int, (f_delLen o))), .inr (.inl (.int, (f_lostLog o))), .inr (.inl (.int, (f_lostLen o))), .inr (.inl (.int, (f_nakBuf o)))] : QHeap) = (H0 (s_stats (s_nextSeq (s_srcPayload o y21) ((f_nextSeq o) + (1 : Int32))) y23)) := by dsimp only [H0, f_srcPayload, f_pend, f_queue, f_stats, f_state, f_timer, f_rxVal, f_rxNext, f_rxLead, f_rxTrail, f_lossLeft, f_dups, f_drops, f_delSeq, f_delVal, f_delLen, f_lostLog, f_lostLen, f_nakBuf, f_win, f_back, f_repair, f_period, f_nextSeq, f_qLen, s_srcPayload, s_stats, s_nextSeq]
        rw [E24]
        obtain ⟨r129, hr129, h⟩ := Option.bind_eq_some_iff.mp h
        refine QTri.callP W (a := 0) (as := [.int (0 : Int32), .int (f_nextSeq o), .int x1]) (rest := []) (w := none) (σ₁ := (H0 r129)) rfl rfl rfl rfl rfl rfl rfl rfl (tF4 Ad W (s_stats (s_nextSeq (s_srcPayload o y21) ((f_nextSeq o) + (1 : Int32))) y23) (0 : Int32) (f_nextSeq o) x1 hr129) ?_
        refine QTri.steps Ad W 1 (st' := (64, [some (.ref 0), some (.int x1), some (.int (f_nextSeq o))], [.int (f_nextSeq o)], (H0 r129))) rfl ?_
        obtain rfl := Option.some.inj h
        exact QTri.retI rfl rfl
      · refine QTri.brF Ad W (t := 24) (f := 22) (L := [some (.ref 0), some (.int x1), none]) (S := []) (σ := (H0 o)) rfl (XT.ii_lt_f hc20) ?_
        refine QTri.steps Ad W 1 (st' := (23, [some (.ref 0), some (.int x1), none], [.int (-1 : Int32)], (H0 o))) rfl ?_
        obtain rfl := Option.some.inj h
        exact QTri.retI rfl rfl
/-- sourceLead()I -/
def F15 (o : Ob) : Option (Int32) :=
  (F5 o).bind fun r135 => some r135
theorem tF15 (Ad : QAd n0 ad) (W : QW Z a0) (o : Ob) {r : Int32} (h : F15 o = some r) : QTri l Z n0 ad 15 (0, qentry [.ref 0] (pMaxL 15), [], (H0 o)) (some (Value.int r)) (H0 o) := by
  unfold F15 at h
  refine QTri.steps Ad W 1 (st' := (1, [some (.ref 0)], [.ref 0], (H0 o))) rfl ?_
  obtain ⟨r135, hr135, h⟩ := Option.bind_eq_some_iff.mp h
  refine QTri.callP W (a := 0) (as := []) (rest := []) (w := (some (.int r135))) (σ₁ := (H0 o)) rfl rfl rfl rfl rfl rfl rfl rfl (tF5 Ad W o hr135) ?_
  obtain rfl := Option.some.inj h
  exact QTri.retI rfl rfl
/-- stat(I)I -/
def F16 (o : Ob) (x1 : Int32) : Option (Int32) :=
  (if x1 = (8 : Int32) then some (f_qLen o) else (if x1 < (0 : Int32) then some (-1 : Int32) else (if (9 : Int32) < x1 then some (-1 : Int32) else (aget (f_stats o) x1).bind fun y144 => some y144)))
theorem tF16 (Ad : QAd n0 ad) (W : QW Z a0) (o : Ob) (x1 : Int32) {r : Int32} (h : F16 o x1 = some r) : QTri l Z n0 ad 16 (0, qentry [.ref 0, .int x1] (pMaxL 16), [], (H0 o)) (some (Value.int r)) (H0 o) := by
  unfold F16 at h
  refine QTri.steps Ad W 2 (st' := (3, [some (.ref 0), some (.int x1)], [.int (8 : Int32), .int x1], (H0 o))) rfl ?_
  rcases qite h with ⟨hc141, h⟩ | ⟨hc141, h⟩
  · refine QTri.brF Ad W (t := 11) (f := 6) (L := [some (.ref 0), some (.int x1)]) (S := []) (σ := (H0 o)) rfl (XT.ii_ne_f hc141) ?_
    refine QTri.steps Ad W 2 (st' := (10, [some (.ref 0), some (.int x1)], [.int (f_qLen o)], (H0 o))) rfl ?_
    obtain rfl := Option.some.inj h
    exact QTri.retI rfl rfl
  · refine QTri.brT Ad W (t := 11) (f := 6) (L := [some (.ref 0), some (.int x1)]) (S := []) (σ := (H0 o)) rfl (XT.ii_ne_t hc141) ?_
    refine QTri.steps Ad W 1 (st' := (12, [some (.ref 0), some (.int x1)], [.int x1], (H0 o))) rfl ?_
    rcases qite h with ⟨hc142, h⟩ | ⟨hc142, h⟩
    · refine QTri.brT Ad W (t := 21) (f := 15) (L := [some (.ref 0), some (.int x1)]) (S := []) (σ := (H0 o)) rfl (XT.i0_lt_t hc142) ?_
      refine QTri.steps Ad W 1 (st' := (22, [some (.ref 0), some (.int x1)], [.int (-1 : Int32)], (H0 o))) rfl ?_
      obtain rfl := Option.some.inj h
      exact QTri.retI rfl rfl
    · refine QTri.brF Ad W (t := 21) (f := 15) (L := [some (.ref 0), some (.int x1)]) (S := []) (σ := (H0 o)) rfl (XT.i0_lt_f hc142) ?_
      refine QTri.steps Ad W 2 (st' := (18, [some (.ref 0), some (.int x1)], [.int (9 : Int32), .int x1], (H0 o))) rfl ?_
      rcases qite h with ⟨hc143, h⟩ | ⟨hc143, h⟩
      · refine QTri.brF Ad W (t := 23) (f := 21) (L := [some (.ref 0), some (.int x1)]) (S := []) (σ := (H0 o)) rfl (XT.ii_le_f hc143) ?_
        refine QTri.steps Ad W 1 (st' := (22, [some (.ref 0), some (.int x1)], [.int (-1 : Int32)], (H0 o))) rfl ?_
        obtain rfl := Option.some.inj h
        exact QTri.retI rfl rfl
      · refine QTri.brT Ad W (t := 23) (f := 21) (L := [some (.ref 0), some (.int x1)]) (S := []) (σ := (H0 o)) rfl (XT.ii_le_t hc143) ?_
        refine QTri.steps Ad W 3 (st' := (28, [some (.ref 0), some (.int x1)], [.int x1, .ref 4], (H0 o))) rfl ?_
        obtain ⟨y144, hy144, h⟩ := Option.bind_eq_some_iff.mp h
        refine QTri.bnd Ad W (f := fun y144 => (29, [some (.ref 0), some (.int x1)], [.int y144], (H0 o))) rfl hy144 ?_
        obtain rfl := Option.some.inj h
        exact QTri.retI rfl rfl
/-- validRx(I)Z -/
def F18 (x1 : Int32) : Option (Int32) :=
  (if x1 < (0 : Int32) then some (0 : Int32) else (if x1 < (4 : Int32) then some (1 : Int32) else some (0 : Int32)))
theorem tF18 (Ad : QAd n0 ad) (W : QW Z a0) {a : Nat} {σ : QHeap} (x1 : Int32) {r : Int32} (h : F18 x1 = some r) : QTri l Z n0 ad 18 (0, qentry [.ref a, .int x1] (pMaxL 18), [], σ) (some (Value.int r)) σ := by
  unfold F18 at h
  refine QTri.steps Ad W 1 (st' := (1, [some (.ref a), some (.int x1)], [.int x1], σ)) rfl ?_
  rcases qite h with ⟨hc150, h⟩ | ⟨hc150, h⟩
  · refine QTri.brT Ad W (t := 13) (f := 4) (L := [some (.ref a), some (.int x1)]) (S := []) (σ := σ) rfl (XT.i0_lt_t hc150) ?_
    refine QTri.steps Ad W 1 (st' := (14, [some (.ref a), some (.int x1)], [.int (0 : Int32)], σ)) rfl ?_
    obtain rfl := Option.some.inj h
    exact QTri.retZ rfl rfl
  · refine QTri.brF Ad W (t := 13) (f := 4) (L := [some (.ref a), some (.int x1)]) (S := []) (σ := σ) rfl (XT.i0_lt_f hc150) ?_
    refine QTri.steps Ad W 2 (st' := (6, [some (.ref a), some (.int x1)], [.int (4 : Int32), .int x1], σ)) rfl ?_
    rcases qite h with ⟨hc151, h⟩ | ⟨hc151, h⟩
    · refine QTri.brF Ad W (t := 13) (f := 9) (L := [some (.ref a), some (.int x1)]) (S := []) (σ := σ) rfl (XT.ii_ge_f hc151) ?_
      refine QTri.steps Ad W 2 (st' := (14, [some (.ref a), some (.int x1)], [.int (1 : Int32)], σ)) rfl ?_
      obtain rfl := Option.some.inj h
      exact QTri.retZ rfl rfl
    · refine QTri.brT Ad W (t := 13) (f := 9) (L := [some (.ref a), some (.int x1)]) (S := []) (σ := σ) rfl (XT.ii_ge_t hc151) ?_
      refine QTri.steps Ad W 1 (st' := (14, [some (.ref a), some (.int x1)], [.int (0 : Int32)], σ)) rfl ?_
      obtain rfl := Option.some.inj h
      exact QTri.retZ rfl rfl
/-- rxInfo(II)I -/
def F17 (o : Ob) (x1 : Int32) (x2 : Int32) : Option (Int32) :=
  (F18 x1).bind fun r152 => (if r152 = (0 : Int32) then some (-2 : Int32) else (if x2 = (0 : Int32) then (aget (f_rxNext o) x1).bind fun y155 => some y155 else (if x2 = (1 : Int32) then (aget (f_rxLead o) x1).bind fun y157 => some y157 else (if x2 = (2 : Int32) then (aget (f_rxTrail o) x1).bind fun y159 => some y159 else (if x2 = (3 : Int32) then (aget (f_delLen o) x1).bind fun y161 => some y161 else (if x2 = (4 : Int32) then (aget (f_lostLen o) x1).bind fun y163 => some y163 else (if x2 = (5 : Int32) then (aget (f_lossLeft o) x1).bind fun y165 => some y165 else (if x2 = (6 : Int32) then (aget (f_dups o) x1).bind fun y167 => some y167 else (if x2 = (7 : Int32) then (aget (f_drops o) x1).bind fun y169 => some y169 else some (-2 : Int32))))))))))
theorem tF17 (Ad : QAd n0 ad) (W : QW Z a0) (o : Ob) (x1 : Int32) (x2 : Int32) {r : Int32} (h : F17 o x1 x2 = some r) : QTri l Z n0 ad 17 (0, qentry [.ref 0, .int x1, .int x2] (pMaxL 17), [], (H0 o)) (some (Value.int r)) (H0 o) := by
  unfold F17 at h
  refine QTri.steps Ad W 2 (st' := (2, [some (.ref 0), some (.int x1), some (.int x2)], [.int x1, .ref 0], (H0 o))) rfl ?_
  obtain ⟨r152, hr152, h⟩ := Option.bind_eq_some_iff.mp h
  refine QTri.callP W (a := 0) (as := [.int x1]) (rest := []) (w := (some (.int r152))) (σ₁ := (H0 o)) rfl rfl rfl rfl rfl rfl rfl rfl (tF18 Ad W x1 hr152) ?_
  rcases qite h with ⟨hc153, h⟩ | ⟨hc153, h⟩
  · refine QTri.brF Ad W (t := 11) (f := 8) (L := [some (.ref 0), some (.int x1), some (.int x2)]) (S := []) (σ := (H0 o)) rfl (XT.i0_ne_f hc153) ?_
    refine QTri.steps Ad W 1 (st' := (10, [some (.ref 0), some (.int x1), some (.int x2)], [.int (-2 : Int32)], (H0 o))) rfl ?_
    obtain rfl := Option.some.inj h
    exact QTri.retI rfl rfl
  · refine QTri.brT Ad W (t := 11) (f := 8) (L := [some (.ref 0), some (.int x1), some (.int x2)]) (S := []) (σ := (H0 o)) rfl (XT.i0_ne_t hc153) ?_
    refine QTri.steps Ad W 1 (st' := (12, [some (.ref 0), some (.int x1), some (.int x2)], [.int x2], (H0 o))) rfl ?_
    rcases qite h with ⟨hc154, h⟩ | ⟨hc154, h⟩
    · refine QTri.brF Ad W (t := 22) (f := 15) (L := [some (.ref 0), some (.int x1), some (.int x2)]) (S := []) (σ := (H0 o)) rfl (XT.i0_ne_f hc154) ?_
      refine QTri.steps Ad W 3 (st' := (20, [some (.ref 0), some (.int x1), some (.int x2)], [.int x1, .ref 8], (H0 o))) rfl ?_
      obtain ⟨y155, hy155, h⟩ := Option.bind_eq_some_iff.mp h
      refine QTri.bnd Ad W (f := fun y155 => (21, [some (.ref 0), some (.int x1), some (.int x2)], [.int y155], (H0 o))) rfl hy155 ?_
      obtain rfl := Option.some.inj h
      exact QTri.retI rfl rfl
    · refine QTri.brT Ad W (t := 22) (f := 15) (L := [some (.ref 0), some (.int x1), some (.int x2)]) (S := []) (σ := (H0 o)) rfl (XT.i0_ne_t hc154) ?_
      refine QTri.steps Ad W 2 (st' := (24, [some (.ref 0), some (.int x1), some (.int x2)], [.int (1 : Int32), .int x2], (H0 o))) rfl ?_
      rcases qite h with ⟨hc156, h⟩ | ⟨hc156, h⟩
      · refine QTri.brF Ad W (t := 34) (f := 27) (L := [some (.ref 0), some (.int x1), some (.int x2)]) (S := []) (σ := (H0 o)) rfl (XT.ii_ne_f hc156) ?_
        refine QTri.steps Ad W 3 (st' := (32, [some (.ref 0), some (.int x1), some (.int x2)], [.int x1, .ref 9], (H0 o))) rfl ?_
        obtain ⟨y157, hy157, h⟩ := Option.bind_eq_some_iff.mp h
        refine QTri.bnd Ad W (f := fun y157 => (33, [some (.ref 0), some (.int x1), some (.int x2)], [.int y157], (H0 o))) rfl hy157 ?_
        obtain rfl := Option.some.inj h
        exact QTri.retI rfl rfl
      · refine QTri.brT Ad W (t := 34) (f := 27) (L := [some (.ref 0), some (.int x1), some (.int x2)]) (S := []) (σ := (H0 o)) rfl (XT.ii_ne_t hc156) ?_
        refine QTri.steps Ad W 2 (st' := (36, [some (.ref 0), some (.int x1), some (.int x2)], [.int (2 : Int32), .int x2], (H0 o))) rfl ?_
        rcases qite h with ⟨hc158, h⟩ | ⟨hc158, h⟩
        · refine QTri.brF Ad W (t := 46) (f := 39) (L := [some (.ref 0), some (.int x1), some (.int x2)]) (S := []) (σ := (H0 o)) rfl (XT.ii_ne_f hc158) ?_
          refine QTri.steps Ad W 3 (st' := (44, [some (.ref 0), some (.int x1), some (.int x2)], [.int x1, .ref 10], (H0 o))) rfl ?_
          obtain ⟨y159, hy159, h⟩ := Option.bind_eq_some_iff.mp h
          refine QTri.bnd Ad W (f := fun y159 => (45, [some (.ref 0), some (.int x1), some (.int x2)], [.int y159], (H0 o))) rfl hy159 ?_
          obtain rfl := Option.some.inj h
          exact QTri.retI rfl rfl
        · refine QTri.brT Ad W (t := 46) (f := 39) (L := [some (.ref 0), some (.int x1), some (.int x2)]) (S := []) (σ := (H0 o)) rfl (XT.ii_ne_t hc158) ?_
          refine QTri.steps Ad W 2 (st' := (48, [some (.ref 0), some (.int x1), some (.int x2)], [.int (3 : Int32), .int x2], (H0 o))) rfl ?_
          rcases qite h with ⟨hc160, h⟩ | ⟨hc160, h⟩
          · refine QTri.brF Ad W (t := 58) (f := 51) (L := [some (.ref 0), some (.int x1), some (.int x2)]) (S := []) (σ := (H0 o)) rfl (XT.ii_ne_f hc160) ?_
            refine QTri.steps Ad W 3 (st' := (56, [some (.ref 0), some (.int x1), some (.int x2)], [.int x1, .ref 16], (H0 o))) rfl ?_
            obtain ⟨y161, hy161, h⟩ := Option.bind_eq_some_iff.mp h
            refine QTri.bnd Ad W (f := fun y161 => (57, [some (.ref 0), some (.int x1), some (.int x2)], [.int y161], (H0 o))) rfl hy161 ?_
            obtain rfl := Option.some.inj h
            exact QTri.retI rfl rfl
          · refine QTri.brT Ad W (t := 58) (f := 51) (L := [some (.ref 0), some (.int x1), some (.int x2)]) (S := []) (σ := (H0 o)) rfl (XT.ii_ne_t hc160) ?_
            refine QTri.steps Ad W 2 (st' := (60, [some (.ref 0), some (.int x1), some (.int x2)], [.int (4 : Int32), .int x2], (H0 o))) rfl ?_
            rcases qite h with ⟨hc162, h⟩ | ⟨hc162, h⟩
            · refine QTri.brF Ad W (t := 70) (f := 63) (L := [some (.ref 0), some (.int x1), some (.int x2)]) (S := []) (σ := (H0 o)) rfl (XT.ii_ne_f hc162) ?_
              refine QTri.steps Ad W 3 (st' := (68, [some (.ref 0), some (.int x1), some (.int x2)], [.int x1, .ref 18], (H0 o))) rfl ?_
              obtain ⟨y163, hy163, h⟩ := Option.bind_eq_some_iff.mp h
              refine QTri.bnd Ad W (f := fun y163 => (69, [some (.ref 0), some (.int x1), some (.int x2)], [.int y163], (H0 o))) rfl hy163 ?_
              obtain rfl := Option.some.inj h
              exact QTri.retI rfl rfl
            · refine QTri.brT Ad W (t := 70) (f := 63) (L := [some (.ref 0), some (.int x1), some (.int x2)]) (S := []) (σ := (H0 o)) rfl (XT.ii_ne_t hc162) ?_
              refine QTri.steps Ad W 2 (st' := (72, [some (.ref 0), some (.int x1), some (.int x2)], [.int (5 : Int32), .int x2], (H0 o))) rfl ?_
              rcases qite h with ⟨hc164, h⟩ | ⟨hc164, h⟩
              · refine QTri.brF Ad W (t := 82) (f := 75) (L := [some (.ref 0), some (.int x1), some (.int x2)]) (S := []) (σ := (H0 o)) rfl (XT.ii_ne_f hc164) ?_
                refine QTri.steps Ad W 3 (st' := (80, [some (.ref 0), some (.int x1), some (.int x2)], [.int x1, .ref 11], (H0 o))) rfl ?_
                obtain ⟨y165, hy165, h⟩ := Option.bind_eq_some_iff.mp h
                refine QTri.bnd Ad W (f := fun y165 => (81, [some (.ref 0), some (.int x1), some (.int x2)], [.int y165], (H0 o))) rfl hy165 ?_
                obtain rfl := Option.some.inj h
                exact QTri.retI rfl rfl
              · refine QTri.brT Ad W (t := 82) (f := 75) (L := [some (.ref 0), some (.int x1), some (.int x2)]) (S := []) (σ := (H0 o)) rfl (XT.ii_ne_t hc164) ?_
                refine QTri.steps Ad W 2 (st' := (85, [some (.ref 0), some (.int x1), some (.int x2)], [.int (6 : Int32), .int x2], (H0 o))) rfl ?_
                rcases qite h with ⟨hc166, h⟩ | ⟨hc166, h⟩
                · refine QTri.brF Ad W (t := 95) (f := 88) (L := [some (.ref 0), some (.int x1), some (.int x2)]) (S := []) (σ := (H0 o)) rfl (XT.ii_ne_f hc166) ?_
                  refine QTri.steps Ad W 3 (st' := (93, [some (.ref 0), some (.int x1), some (.int x2)], [.int x1, .ref 12], (H0 o))) rfl ?_
                  obtain ⟨y167, hy167, h⟩ := Option.bind_eq_some_iff.mp h
                  refine QTri.bnd Ad W (f := fun y167 => (94, [some (.ref 0), some (.int x1), some (.int x2)], [.int y167], (H0 o))) rfl hy167 ?_
                  obtain rfl := Option.some.inj h
                  exact QTri.retI rfl rfl
                · refine QTri.brT Ad W (t := 95) (f := 88) (L := [some (.ref 0), some (.int x1), some (.int x2)]) (S := []) (σ := (H0 o)) rfl (XT.ii_ne_t hc166) ?_
                  refine QTri.steps Ad W 2 (st' := (98, [some (.ref 0), some (.int x1), some (.int x2)], [.int (7 : Int32), .int x2], (H0 o))) rfl ?_
                  rcases qite h with ⟨hc168, h⟩ | ⟨hc168, h⟩
                  · refine QTri.brF Ad W (t := 108) (f := 101) (L := [some (.ref 0), some (.int x1), some (.int x2)]) (S := []) (σ := (H0 o)) rfl (XT.ii_ne_f hc168) ?_
                    refine QTri.steps Ad W 3 (st' := (106, [some (.ref 0), some (.int x1), some (.int x2)], [.int x1, .ref 13], (H0 o))) rfl ?_
                    obtain ⟨y169, hy169, h⟩ := Option.bind_eq_some_iff.mp h
                    refine QTri.bnd Ad W (f := fun y169 => (107, [some (.ref 0), some (.int x1), some (.int x2)], [.int y169], (H0 o))) rfl hy169 ?_
                    obtain rfl := Option.some.inj h
                    exact QTri.retI rfl rfl
                  · refine QTri.brT Ad W (t := 108) (f := 101) (L := [some (.ref 0), some (.int x1), some (.int x2)]) (S := []) (σ := (H0 o)) rfl (XT.ii_ne_t hc168) ?_
                    refine QTri.steps Ad W 1 (st' := (110, [some (.ref 0), some (.int x1), some (.int x2)], [.int (-2 : Int32)], (H0 o))) rfl ?_
                    obtain rfl := Option.some.inj h
                    exact QTri.retI rfl rfl
/-- deliveredValue(II)I -/
def F19 (o : Ob) (x1 : Int32) (x2 : Int32) : Option (Int32) :=
  (F18 x1).bind fun r175 => (if r175 = (0 : Int32) then some (-1 : Int32) else (if x2 < (0 : Int32) then some (-1 : Int32) else (aget (f_delLen o) x1).bind fun y178 => (if x2 < y178 then (aget (f_delVal o) ((x1 * (32 : Int32)) + x2)).bind fun y180 => some y180 else some (-1 : Int32))))
theorem tF19 (Ad : QAd n0 ad) (W : QW Z a0) (o : Ob) (x1 : Int32) (x2 : Int32) {r : Int32} (h : F19 o x1 x2 = some r) : QTri l Z n0 ad 19 (0, qentry [.ref 0, .int x1, .int x2] (pMaxL 19), [], (H0 o)) (some (Value.int r)) (H0 o) := by
  unfold F19 at h
  refine QTri.steps Ad W 2 (st' := (2, [some (.ref 0), some (.int x1), some (.int x2)], [.int x1, .ref 0], (H0 o))) rfl ?_
  obtain ⟨r175, hr175, h⟩ := Option.bind_eq_some_iff.mp h
  refine QTri.callP W (a := 0) (as := [.int x1]) (rest := []) (w := (some (.int r175))) (σ₁ := (H0 o)) rfl rfl rfl rfl rfl rfl rfl rfl (tF18 Ad W x1 hr175) ?_
  rcases qite h with ⟨hc176, h⟩ | ⟨hc176, h⟩
  · refine QTri.brT Ad W (t := 22) (f := 8) (L := [some (.ref 0), some (.int x1), some (.int x2)]) (S := []) (σ := (H0 o)) rfl (XT.i0_eq_t hc176) ?_
    refine QTri.steps Ad W 1 (st' := (23, [some (.ref 0), some (.int x1), some (.int x2)], [.int (-1 : Int32)], (H0 o))) rfl ?_
    obtain rfl := Option.some.inj h
    exact QTri.retI rfl rfl
  · refine QTri.brF Ad W (t := 22) (f := 8) (L := [some (.ref 0), some (.int x1), some (.int x2)]) (S := []) (σ := (H0 o)) rfl (XT.i0_eq_f hc176) ?_
    refine QTri.steps Ad W 1 (st' := (9, [some (.ref 0), some (.int x1), some (.int x2)], [.int x2], (H0 o))) rfl ?_
    rcases qite h with ⟨hc177, h⟩ | ⟨hc177, h⟩
    · refine QTri.brT Ad W (t := 22) (f := 12) (L := [some (.ref 0), some (.int x1), some (.int x2)]) (S := []) (σ := (H0 o)) rfl (XT.i0_lt_t hc177) ?_
      refine QTri.steps Ad W 1 (st' := (23, [some (.ref 0), some (.int x1), some (.int x2)], [.int (-1 : Int32)], (H0 o))) rfl ?_
      obtain rfl := Option.some.inj h
      exact QTri.retI rfl rfl
    · refine QTri.brF Ad W (t := 22) (f := 12) (L := [some (.ref 0), some (.int x1), some (.int x2)]) (S := []) (σ := (H0 o)) rfl (XT.i0_lt_f hc177) ?_
      refine QTri.steps Ad W 4 (st' := (18, [some (.ref 0), some (.int x1), some (.int x2)], [.int x1, .ref 16, .int x2], (H0 o))) rfl ?_
      obtain ⟨y178, hy178, h⟩ := Option.bind_eq_some_iff.mp h
      refine QTri.bnd Ad W (f := fun y178 => (19, [some (.ref 0), some (.int x1), some (.int x2)], [.int y178, .int x2], (H0 o))) rfl hy178 ?_
      rcases qite h with ⟨hc179, h⟩ | ⟨hc179, h⟩
      · refine QTri.brT Ad W (t := 24) (f := 22) (L := [some (.ref 0), some (.int x1), some (.int x2)]) (S := []) (σ := (H0 o)) rfl (XT.ii_lt_t hc179) ?_
        refine QTri.steps Ad W 7 (st' := (34, [some (.ref 0), some (.int x1), some (.int x2)], [.int ((x1 * (32 : Int32)) + x2), .ref 15], (H0 o))) rfl ?_
        obtain ⟨y180, hy180, h⟩ := Option.bind_eq_some_iff.mp h
        refine QTri.bnd Ad W (f := fun y180 => (35, [some (.ref 0), some (.int x1), some (.int x2)], [.int y180], (H0 o))) rfl hy180 ?_
        obtain rfl := Option.some.inj h
        exact QTri.retI rfl rfl
      · refine QTri.brF Ad W (t := 24) (f := 22) (L := [some (.ref 0), some (.int x1), some (.int x2)]) (S := []) (σ := (H0 o)) rfl (XT.ii_lt_f hc179) ?_
        refine QTri.steps Ad W 1 (st' := (23, [some (.ref 0), some (.int x1), some (.int x2)], [.int (-1 : Int32)], (H0 o))) rfl ?_
        obtain rfl := Option.some.inj h
        exact QTri.retI rfl rfl
/-- sourceTrail()I -/
def F20 (o : Ob) : Option (Int32) :=
  (F6 o).bind fun r186 => some r186
theorem tF20 (Ad : QAd n0 ad) (W : QW Z a0) (o : Ob) {r : Int32} (h : F20 o = some r) : QTri l Z n0 ad 20 (0, qentry [.ref 0] (pMaxL 20), [], (H0 o)) (some (Value.int r)) (H0 o) := by
  unfold F20 at h
  refine QTri.steps Ad W 1 (st' := (1, [some (.ref 0)], [.ref 0], (H0 o))) rfl ?_
  obtain ⟨r186, hr186, h⟩ := Option.bind_eq_some_iff.mp h
  refine QTri.callP W (a := 0) (as := []) (rest := []) (w := (some (.int r186))) (σ₁ := (H0 o)) rfl rfl rfl rfl rfl rfl rfl rfl (tF6 Ad W o hr186) ?_
  obtain rfl := Option.some.inj h
  exact QTri.retI rfl rfl
/-- the law -/
def F0 (x0 : Int32) (x1 : Int32) (x2 : Int32) (x3 : Int32) (x4 : Int32) : Option (Int32 × QHeap) :=
  (F1 x0 x1 x2 x3).bind fun r13 => (F3 r13 x4).bind fun r130 => (if r130.1 = (if (if x4 < (0 : Int32) then (0 : Int32) else (if (255 : Int32) < x4 then (0 : Int32) else (1 : Int32))) = (0 : Int32) then (-1 : Int32) else (0 : Int32)) then (F15 r130.2).bind fun r136 => (if r136 = (if (if x4 < (0 : Int32) then (0 : Int32) else (if (255 : Int32) < x4 then (0 : Int32) else (1 : Int32))) = (0 : Int32) then (-1 : Int32) else (0 : Int32)) then (F16 r130.2 (1 : Int32)).bind fun r145 => (if r145 = (if (if x4 < (0 : Int32) then (0 : Int32) else (if (255 : Int32) < x4 then (0 : Int32) else (1 : Int32))) = (0 : Int32) then (0 : Int32) else (1 : Int32)) then (F17 r130.2 (3 : Int32) (0 : Int32)).bind fun r170 => (if r170 = (if (if x4 < (0 : Int32) then (0 : Int32) else (if (255 : Int32) < x4 then (0 : Int32) else (1 : Int32))) = (0 : Int32) then (0 : Int32) else (1 : Int32)) then (F19 r130.2 (3 : Int32) (0 : Int32)).bind fun r181 => (if r181 = (if (if x4 < (0 : Int32) then (0 : Int32) else (if (255 : Int32) < x4 then (0 : Int32) else (1 : Int32))) = (0 : Int32) then (-1 : Int32) else x4) then (F20 r130.2).bind fun r187 => (if r187 = (0 : Int32) then some ((1 : Int32), (H0 r130.2)) else some ((0 : Int32), (H0 r130.2))) else some ((0 : Int32), (H0 r130.2))) else some ((0 : Int32), (H0 r130.2))) else some ((0 : Int32), (H0 r130.2))) else some ((0 : Int32), (H0 r130.2))) else some ((0 : Int32), (H0 r130.2)))
theorem tF0 (Ad : QAd n0 ad) (W : QW Z a0) (x0 : Int32) (x1 : Int32) (x2 : Int32) (x3 : Int32) (x4 : Int32) {r : Int32 × QHeap} (h : F0 x0 x1 x2 x3 x4 = some r) : QTri l Z n0 ad 0 (0, qentry [.int x0, .int x1, .int x2, .int x3, .int x4] (pMaxL 0), [], []) (some (Value.int r.1)) r.2 := by
  unfold F0 at h
  refine QTri.steps Ad W 1 (st' := (3, [some (.int x0), some (.int x1), some (.int x2), some (.int x3), some (.int x4), none, none, none, none, none, none, none, none], [.ref 0], [.inl [.null, .null, .null, .null, .null, .null, .null, .null, .null, .null, .null, .null, .null, .null, .null, .null, .null, .null, .null, .int (f_win ob0), .int (f_back ob0), .int (f_repair ob0), .int (f_period ob0), .int (f_nextSeq ob0), .int (f_qLen ob0)]])) rfl ?_
  refine QTri.steps Ad W 5 (st' := (8, [some (.int x0), some (.int x1), some (.int x2), some (.int x3), some (.int x4), none, none, none, none, none, none, none, none], [.int x3, .int x2, .int x1, .int x0, .ref 0, .ref 0], [.inl [.null, .null, .null, .null, .null, .null, .null, .null, .null, .null, .null, .null, .null, .null, .null, .null, .null, .null, .null, .int (f_win ob0), .int (f_back ob0), .int (f_repair ob0), .int (f_period ob0), .int (f_nextSeq ob0), .int (f_qLen ob0)]])) rfl ?_
  obtain ⟨r13, hr13, h⟩ := Option.bind_eq_some_iff.mp h
  refine QTri.callI W (a := 0) (as := [.int x0, .int x1, .int x2, .int x3]) (rest := [.ref 0]) (σ₁ := (H0 r13)) rfl rfl rfl rfl rfl rfl (tF1 Ad W x0 x1 x2 x3 hr13) ?_
  refine QTri.steps Ad W 2 (st' := (15, [some (.int x0), some (.int x1), some (.int x2), some (.int x3), some (.int x4), some (.ref 0), none, none, none, none, none, none, none], [.int x4], (H0 r13))) rfl ?_
  have K15 : ∀ z14 : Int32, z14 = (if x4 < (0 : Int32) then (0 : Int32) else (if (255 : Int32) < x4 then (0 : Int32) else (1 : Int32))) → QTri l Z n0 ad 0 (31, [none, none, none, none, some (.int x4), some (.ref 0), none, none, none, none, none, none, none], [.int z14], (H0 r13)) (some (Value.int r.1)) r.2 := by
    intro z14 ez14
    subst ez14
    refine QTri.steps Ad W 3 (st' := (37, [none, none, none, none, some (.int x4), some (.ref 0), some (.int (if x4 < (0 : Int32) then (0 : Int32) else (if (255 : Int32) < x4 then (0 : Int32) else (1 : Int32)))), none, none, none, none, none, none], [.int x4, .ref 0], (H0 r13))) rfl ?_
    obtain ⟨r130, hr130, h⟩ := Option.bind_eq_some_iff.mp h
    refine QTri.callV W (a := 0) (as := [.int x4]) (rest := []) (w := (some (.int r130.1))) (σ₁ := (H0 r130.2)) rfl rfl rfl rfl rfl rfl rfl rfl (tF3 Ad W r13 x4 hr130) ?_
    refine QTri.steps Ad W 3 (st' := (46, [none, none, none, none, some (.int x4), some (.ref 0), some (.int (if x4 < (0 : Int32) then (0 : Int32) else (if (255 : Int32) < x4 then (0 : Int32) else (1 : Int32)))), some (.int r130.1), none, none, none, none, none], [.int (if x4 < (0 : Int32) then (0 : Int32) else (if (255 : Int32) < x4 then (0 : Int32) else (1 : Int32))), .int r130.1], (H0 r130.2))) rfl ?_
    have K132 : ∀ z131 : Int32, z131 = (if (if x4 < (0 : Int32) then (0 : Int32) else (if (255 : Int32) < x4 then (0 : Int32) else (1 : Int32))) = (0 : Int32) then (-1 : Int32) else (0 : Int32)) → QTri l Z n0 ad 0 (54, [none, none, none, none, some (.int x4), some (.ref 0), some (.int (if x4 < (0 : Int32) then (0 : Int32) else (if (255 : Int32) < x4 then (0 : Int32) else (1 : Int32)))), none, none, none, none, none, none], [.int z131, .int r130.1], (H0 r130.2)) (some (Value.int r.1)) r.2 := by
      intro z131 ez131
      subst ez131
      rcases qite h with ⟨hc134, h⟩ | ⟨hc134, h⟩
      · refine QTri.brT Ad W (t := 59) (f := 57) (L := [none, none, none, none, some (.int x4), some (.ref 0), some (.int (if x4 < (0 : Int32) then (0 : Int32) else (if (255 : Int32) < x4 then (0 : Int32) else (1 : Int32)))), none, none, none, none, none, none]) (S := []) (σ := (H0 r130.2)) rfl (XT.ii_eq_t hc134) ?_
        refine QTri.steps Ad W 1 (st' := (61, [none, none, none, none, some (.int x4), some (.ref 0), some (.int (if x4 < (0 : Int32) then (0 : Int32) else (if (255 : Int32) < x4 then (0 : Int32) else (1 : Int32)))), none, none, none, none, none, none], [.ref 0], (H0 r130.2))) rfl ?_
        obtain ⟨r136, hr136, h⟩ := Option.bind_eq_some_iff.mp h
        refine QTri.callV W (a := 0) (as := []) (rest := []) (w := (some (.int r136))) (σ₁ := (H0 r130.2)) rfl rfl rfl rfl rfl rfl rfl rfl (tF15 Ad W r130.2 hr136) ?_
        refine QTri.steps Ad W 3 (st' := (70, [none, none, none, none, some (.int x4), some (.ref 0), some (.int (if x4 < (0 : Int32) then (0 : Int32) else (if (255 : Int32) < x4 then (0 : Int32) else (1 : Int32)))), none, some (.int r136), none, none, none, none], [.int (if x4 < (0 : Int32) then (0 : Int32) else (if (255 : Int32) < x4 then (0 : Int32) else (1 : Int32))), .int r136], (H0 r130.2))) rfl ?_
        have K138 : ∀ z137 : Int32, z137 = (if (if x4 < (0 : Int32) then (0 : Int32) else (if (255 : Int32) < x4 then (0 : Int32) else (1 : Int32))) = (0 : Int32) then (-1 : Int32) else (0 : Int32)) → QTri l Z n0 ad 0 (78, [none, none, none, none, some (.int x4), some (.ref 0), some (.int (if x4 < (0 : Int32) then (0 : Int32) else (if (255 : Int32) < x4 then (0 : Int32) else (1 : Int32)))), none, none, none, none, none, none], [.int z137, .int r136], (H0 r130.2)) (some (Value.int r.1)) r.2 := by
          intro z137 ez137
          subst ez137
          rcases qite h with ⟨hc140, h⟩ | ⟨hc140, h⟩
          · refine QTri.brT Ad W (t := 83) (f := 81) (L := [none, none, none, none, some (.int x4), some (.ref 0), some (.int (if x4 < (0 : Int32) then (0 : Int32) else (if (255 : Int32) < x4 then (0 : Int32) else (1 : Int32)))), none, none, none, none, none, none]) (S := []) (σ := (H0 r130.2)) rfl (XT.ii_eq_t hc140) ?_
            refine QTri.steps Ad W 2 (st' := (86, [none, none, none, none, some (.int x4), some (.ref 0), some (.int (if x4 < (0 : Int32) then (0 : Int32) else (if (255 : Int32) < x4 then (0 : Int32) else (1 : Int32)))), none, none, none, none, none, none], [.int (1 : Int32), .ref 0], (H0 r130.2))) rfl ?_
            obtain ⟨r145, hr145, h⟩ := Option.bind_eq_some_iff.mp h
            refine QTri.callV W (a := 0) (as := [.int (1 : Int32)]) (rest := []) (w := (some (.int r145))) (σ₁ := (H0 r130.2)) rfl rfl rfl rfl rfl rfl rfl rfl (tF16 Ad W r130.2 (1 : Int32) hr145) ?_
            refine QTri.steps Ad W 3 (st' := (95, [none, none, none, none, some (.int x4), some (.ref 0), some (.int (if x4 < (0 : Int32) then (0 : Int32) else (if (255 : Int32) < x4 then (0 : Int32) else (1 : Int32)))), none, none, some (.int r145), none, none, none], [.int (if x4 < (0 : Int32) then (0 : Int32) else (if (255 : Int32) < x4 then (0 : Int32) else (1 : Int32))), .int r145], (H0 r130.2))) rfl ?_
            have K147 : ∀ z146 : Int32, z146 = (if (if x4 < (0 : Int32) then (0 : Int32) else (if (255 : Int32) < x4 then (0 : Int32) else (1 : Int32))) = (0 : Int32) then (0 : Int32) else (1 : Int32)) → QTri l Z n0 ad 0 (103, [none, none, none, none, some (.int x4), some (.ref 0), some (.int (if x4 < (0 : Int32) then (0 : Int32) else (if (255 : Int32) < x4 then (0 : Int32) else (1 : Int32)))), none, none, none, none, none, none], [.int z146, .int r145], (H0 r130.2)) (some (Value.int r.1)) r.2 := by
              intro z146 ez146
              subst ez146
              rcases qite h with ⟨hc149, h⟩ | ⟨hc149, h⟩
              · refine QTri.brT Ad W (t := 108) (f := 106) (L := [none, none, none, none, some (.int x4), some (.ref 0), some (.int (if x4 < (0 : Int32) then (0 : Int32) else (if (255 : Int32) < x4 then (0 : Int32) else (1 : Int32)))), none, none, none, none, none, none]) (S := []) (σ := (H0 r130.2)) rfl (XT.ii_eq_t hc149) ?_
                refine QTri.steps Ad W 3 (st' := (112, [none, none, none, none, some (.int x4), some (.ref 0), some (.int (if x4 < (0 : Int32) then (0 : Int32) else (if (255 : Int32) < x4 then (0 : Int32) else (1 : Int32)))), none, none, none, none, none, none], [.int (0 : Int32), .int (3 : Int32), .ref 0], (H0 r130.2))) rfl ?_
                obtain ⟨r170, hr170, h⟩ := Option.bind_eq_some_iff.mp h
                refine QTri.callV W (a := 0) (as := [.int (3 : Int32), .int (0 : Int32)]) (rest := []) (w := (some (.int r170))) (σ₁ := (H0 r130.2)) rfl rfl rfl rfl rfl rfl rfl rfl (tF17 Ad W r130.2 (3 : Int32) (0 : Int32) hr170) ?_
                refine QTri.steps Ad W 3 (st' := (121, [none, none, none, none, some (.int x4), some (.ref 0), some (.int (if x4 < (0 : Int32) then (0 : Int32) else (if (255 : Int32) < x4 then (0 : Int32) else (1 : Int32)))), none, none, none, some (.int r170), none, none], [.int (if x4 < (0 : Int32) then (0 : Int32) else (if (255 : Int32) < x4 then (0 : Int32) else (1 : Int32))), .int r170], (H0 r130.2))) rfl ?_
                have K172 : ∀ z171 : Int32, z171 = (if (if x4 < (0 : Int32) then (0 : Int32) else (if (255 : Int32) < x4 then (0 : Int32) else (1 : Int32))) = (0 : Int32) then (0 : Int32) else (1 : Int32)) → QTri l Z n0 ad 0 (129, [none, none, none, none, some (.int x4), some (.ref 0), some (.int (if x4 < (0 : Int32) then (0 : Int32) else (if (255 : Int32) < x4 then (0 : Int32) else (1 : Int32)))), none, none, none, none, none, none], [.int z171, .int r170], (H0 r130.2)) (some (Value.int r.1)) r.2 := by
                  intro z171 ez171
                  subst ez171
                  rcases qite h with ⟨hc174, h⟩ | ⟨hc174, h⟩
                  · refine QTri.brT Ad W (t := 134) (f := 132) (L := [none, none, none, none, some (.int x4), some (.ref 0), some (.int (if x4 < (0 : Int32) then (0 : Int32) else (if (255 : Int32) < x4 then (0 : Int32) else (1 : Int32)))), none, none, none, none, none, none]) (S := []) (σ := (H0 r130.2)) rfl (XT.ii_eq_t hc174) ?_
                    refine QTri.steps Ad W 3 (st' := (138, [none, none, none, none, some (.int x4), some (.ref 0), some (.int (if x4 < (0 : Int32) then (0 : Int32) else (if (255 : Int32) < x4 then (0 : Int32) else (1 : Int32)))), none, none, none, none, none, none], [.int (0 : Int32), .int (3 : Int32), .ref 0], (H0 r130.2))) rfl ?_
                    obtain ⟨r181, hr181, h⟩ := Option.bind_eq_some_iff.mp h
                    refine QTri.callV W (a := 0) (as := [.int (3 : Int32), .int (0 : Int32)]) (rest := []) (w := (some (.int r181))) (σ₁ := (H0 r130.2)) rfl rfl rfl rfl rfl rfl rfl rfl (tF19 Ad W r130.2 (3 : Int32) (0 : Int32) hr181) ?_
                    refine QTri.steps Ad W 3 (st' := (147, [none, none, none, none, some (.int x4), some (.ref 0), some (.int (if x4 < (0 : Int32) then (0 : Int32) else (if (255 : Int32) < x4 then (0 : Int32) else (1 : Int32)))), none, none, none, none, some (.int r181), none], [.int (if x4 < (0 : Int32) then (0 : Int32) else (if (255 : Int32) < x4 then (0 : Int32) else (1 : Int32))), .int r181], (H0 r130.2))) rfl ?_
                    have K183 : ∀ z182 : Int32, z182 = (if (if x4 < (0 : Int32) then (0 : Int32) else (if (255 : Int32) < x4 then (0 : Int32) else (1 : Int32))) = (0 : Int32) then (-1 : Int32) else x4) → QTri l Z n0 ad 0 (156, [none, none, none, none, none, some (.ref 0), none, none, none, none, none, none, none], [.int z182, .int r181], (H0 r130.2)) (some (Value.int r.1)) r.2 := by
                      intro z182 ez182
                      subst ez182
                      rcases qite h with ⟨hc185, h⟩ | ⟨hc185, h⟩
                      · refine QTri.brT Ad W (t := 161) (f := 159) (L := [none, none, none, none, none, some (.ref 0), none, none, none, none, none, none, none]) (S := []) (σ := (H0 r130.2)) rfl (XT.ii_eq_t hc185) ?_
                        refine QTri.steps Ad W 1 (st' := (163, [none, none, none, none, none, some (.ref 0), none, none, none, none, none, none, none], [.ref 0], (H0 r130.2))) rfl ?_
                        obtain ⟨r187, hr187, h⟩ := Option.bind_eq_some_iff.mp h
                        refine QTri.callV W (a := 0) (as := []) (rest := []) (w := (some (.int r187))) (σ₁ := (H0 r130.2)) rfl rfl rfl rfl rfl rfl rfl rfl (tF20 Ad W r130.2 hr187) ?_
                        refine QTri.steps Ad W 2 (st' := (170, [none, none, none, none, none, some (.ref 0), none, none, none, none, none, none, some (.int r187)], [.int r187], (H0 r130.2))) rfl ?_
                        rcases qite h with ⟨hc188, h⟩ | ⟨hc188, h⟩
                        · refine QTri.brF Ad W (t := 177) (f := 173) (L := [none, none, none, none, none, some (.ref 0), none, none, none, none, none, none, some (.int r187)]) (S := []) (σ := (H0 r130.2)) rfl (XT.i0_ne_f hc188) ?_
                          refine QTri.steps Ad W 2 (st' := (178, [none, none, none, none, none, some (.ref 0), none, none, none, none, none, none, some (.int r187)], [.int (1 : Int32)], (H0 r130.2))) rfl ?_
                          obtain rfl := Option.some.inj h
                          exact QTri.retZ rfl rfl
                        · refine QTri.brT Ad W (t := 177) (f := 173) (L := [none, none, none, none, none, some (.ref 0), none, none, none, none, none, none, some (.int r187)]) (S := []) (σ := (H0 r130.2)) rfl (XT.i0_ne_t hc188) ?_
                          refine QTri.steps Ad W 1 (st' := (178, [none, none, none, none, none, some (.ref 0), none, none, none, none, none, none, some (.int r187)], [.int (0 : Int32)], (H0 r130.2))) rfl ?_
                          obtain rfl := Option.some.inj h
                          exact QTri.retZ rfl rfl
                      · refine QTri.brF Ad W (t := 161) (f := 159) (L := [none, none, none, none, none, some (.ref 0), none, none, none, none, none, none, none]) (S := []) (σ := (H0 r130.2)) rfl (XT.ii_eq_f hc185) ?_
                        refine QTri.steps Ad W 1 (st' := (160, [none, none, none, none, none, some (.ref 0), none, none, none, none, none, none, none], [.int (0 : Int32)], (H0 r130.2))) rfl ?_
                        obtain rfl := Option.some.inj h
                        exact QTri.retZ rfl rfl
                    rcases Classical.em ((if x4 < (0 : Int32) then (0 : Int32) else (if (255 : Int32) < x4 then (0 : Int32) else (1 : Int32))) = (0 : Int32)) with hc184 | hc184
                    · refine QTri.brT Ad W (t := 155) (f := 150) (L := [none, none, none, none, some (.int x4), some (.ref 0), some (.int (if x4 < (0 : Int32) then (0 : Int32) else (if (255 : Int32) < x4 then (0 : Int32) else (1 : Int32)))), none, none, none, none, some (.int r181), none]) (S := [.int r181]) (σ := (H0 r130.2)) rfl (XT.i0_eq_t hc184) ?_
                      refine QTri.steps Ad W 1 (st' := (156, [none, none, none, none, some (.int x4), some (.ref 0), some (.int (if x4 < (0 : Int32) then (0 : Int32) else (if (255 : Int32) < x4 then (0 : Int32) else (1 : Int32)))), none, none, none, none, some (.int r181), none], [.int (-1 : Int32), .int r181], (H0 r130.2))) rfl ?_
                      exact QTri.mask [false, false, false, false, false, true, false, false, false, false, false, false, false] (K183 _ (if_pos hc184).symm)
                    · refine QTri.brF Ad W (t := 155) (f := 150) (L := [none, none, none, none, some (.int x4), some (.ref 0), some (.int (if x4 < (0 : Int32) then (0 : Int32) else (if (255 : Int32) < x4 then (0 : Int32) else (1 : Int32)))), none, none, none, none, some (.int r181), none]) (S := [.int r181]) (σ := (H0 r130.2)) rfl (XT.i0_eq_f hc184) ?_
                      refine QTri.steps Ad W 2 (st' := (156, [none, none, none, none, some (.int x4), some (.ref 0), some (.int (if x4 < (0 : Int32) then (0 : Int32) else (if (255 : Int32) < x4 then (0 : Int32) else (1 : Int32)))), none, none, none, none, some (.int r181), none], [.int x4, .int r181], (H0 r130.2))) rfl ?_
                      exact QTri.mask [false, false, false, false, false, true, false, false, false, false, false, false, false] (K183 _ (if_neg hc184).symm)
                  · refine QTri.brF Ad W (t := 134) (f := 132) (L := [none, none, none, none, some (.int x4), some (.ref 0), some (.int (if x4 < (0 : Int32) then (0 : Int32) else (if (255 : Int32) < x4 then (0 : Int32) else (1 : Int32)))), none, none, none, none, none, none]) (S := []) (σ := (H0 r130.2)) rfl (XT.ii_eq_f hc174) ?_
                    refine QTri.steps Ad W 1 (st' := (133, [none, none, none, none, some (.int x4), some (.ref 0), some (.int (if x4 < (0 : Int32) then (0 : Int32) else (if (255 : Int32) < x4 then (0 : Int32) else (1 : Int32)))), none, none, none, none, none, none], [.int (0 : Int32)], (H0 r130.2))) rfl ?_
                    obtain rfl := Option.some.inj h
                    exact QTri.retZ rfl rfl
                rcases Classical.em ((if x4 < (0 : Int32) then (0 : Int32) else (if (255 : Int32) < x4 then (0 : Int32) else (1 : Int32))) = (0 : Int32)) with hc173 | hc173
                · refine QTri.brT Ad W (t := 128) (f := 124) (L := [none, none, none, none, some (.int x4), some (.ref 0), some (.int (if x4 < (0 : Int32) then (0 : Int32) else (if (255 : Int32) < x4 then (0 : Int32) else (1 : Int32)))), none, none, none, some (.int r170), none, none]) (S := [.int r170]) (σ := (H0 r130.2)) rfl (XT.i0_eq_t hc173) ?_
                  refine QTri.steps Ad W 1 (st' := (129, [none, none, none, none, some (.int x4), some (.ref 0), some (.int (if x4 < (0 : Int32) then (0 : Int32) else (if (255 : Int32) < x4 then (0 : Int32) else (1 : Int32)))), none, none, none, some (.int r170), none, none], [.int (0 : Int32), .int r170], (H0 r130.2))) rfl ?_
                  exact QTri.mask [false, false, false, false, true, true, true, false, false, false, false, false, false] (K172 _ (if_pos hc173).symm)
                · refine QTri.brF Ad W (t := 128) (f := 124) (L := [none, none, none, none, some (.int x4), some (.ref 0), some (.int (if x4 < (0 : Int32) then (0 : Int32) else (if (255 : Int32) < x4 then (0 : Int32) else (1 : Int32)))), none, none, none, some (.int r170), none, none]) (S := [.int r170]) (σ := (H0 r130.2)) rfl (XT.i0_eq_f hc173) ?_
                  refine QTri.steps Ad W 2 (st' := (129, [none, none, none, none, some (.int x4), some (.ref 0), some (.int (if x4 < (0 : Int32) then (0 : Int32) else (if (255 : Int32) < x4 then (0 : Int32) else (1 : Int32)))), none, none, none, some (.int r170), none, none], [.int (1 : Int32), .int r170], (H0 r130.2))) rfl ?_
                  exact QTri.mask [false, false, false, false, true, true, true, false, false, false, false, false, false] (K172 _ (if_neg hc173).symm)
              · refine QTri.brF Ad W (t := 108) (f := 106) (L := [none, none, none, none, some (.int x4), some (.ref 0), some (.int (if x4 < (0 : Int32) then (0 : Int32) else (if (255 : Int32) < x4 then (0 : Int32) else (1 : Int32)))), none, none, none, none, none, none]) (S := []) (σ := (H0 r130.2)) rfl (XT.ii_eq_f hc149) ?_
                refine QTri.steps Ad W 1 (st' := (107, [none, none, none, none, some (.int x4), some (.ref 0), some (.int (if x4 < (0 : Int32) then (0 : Int32) else (if (255 : Int32) < x4 then (0 : Int32) else (1 : Int32)))), none, none, none, none, none, none], [.int (0 : Int32)], (H0 r130.2))) rfl ?_
                obtain rfl := Option.some.inj h
                exact QTri.retZ rfl rfl
            rcases Classical.em ((if x4 < (0 : Int32) then (0 : Int32) else (if (255 : Int32) < x4 then (0 : Int32) else (1 : Int32))) = (0 : Int32)) with hc148 | hc148
            · refine QTri.brT Ad W (t := 102) (f := 98) (L := [none, none, none, none, some (.int x4), some (.ref 0), some (.int (if x4 < (0 : Int32) then (0 : Int32) else (if (255 : Int32) < x4 then (0 : Int32) else (1 : Int32)))), none, none, some (.int r145), none, none, none]) (S := [.int r145]) (σ := (H0 r130.2)) rfl (XT.i0_eq_t hc148) ?_
              refine QTri.steps Ad W 1 (st' := (103, [none, none, none, none, some (.int x4), some (.ref 0), some (.int (if x4 < (0 : Int32) then (0 : Int32) else (if (255 : Int32) < x4 then (0 : Int32) else (1 : Int32)))), none, none, some (.int r145), none, none, none], [.int (0 : Int32), .int r145], (H0 r130.2))) rfl ?_
              exact QTri.mask [false, false, false, false, true, true, true, false, false, false, false, false, false] (K147 _ (if_pos hc148).symm)
            · refine QTri.brF Ad W (t := 102) (f := 98) (L := [none, none, none, none, some (.int x4), some (.ref 0), some (.int (if x4 < (0 : Int32) then (0 : Int32) else (if (255 : Int32) < x4 then (0 : Int32) else (1 : Int32)))), none, none, some (.int r145), none, none, none]) (S := [.int r145]) (σ := (H0 r130.2)) rfl (XT.i0_eq_f hc148) ?_
              refine QTri.steps Ad W 2 (st' := (103, [none, none, none, none, some (.int x4), some (.ref 0), some (.int (if x4 < (0 : Int32) then (0 : Int32) else (if (255 : Int32) < x4 then (0 : Int32) else (1 : Int32)))), none, none, some (.int r145), none, none, none], [.int (1 : Int32), .int r145], (H0 r130.2))) rfl ?_
              exact QTri.mask [false, false, false, false, true, true, true, false, false, false, false, false, false] (K147 _ (if_neg hc148).symm)
          · refine QTri.brF Ad W (t := 83) (f := 81) (L := [none, none, none, none, some (.int x4), some (.ref 0), some (.int (if x4 < (0 : Int32) then (0 : Int32) else (if (255 : Int32) < x4 then (0 : Int32) else (1 : Int32)))), none, none, none, none, none, none]) (S := []) (σ := (H0 r130.2)) rfl (XT.ii_eq_f hc140) ?_
            refine QTri.steps Ad W 1 (st' := (82, [none, none, none, none, some (.int x4), some (.ref 0), some (.int (if x4 < (0 : Int32) then (0 : Int32) else (if (255 : Int32) < x4 then (0 : Int32) else (1 : Int32)))), none, none, none, none, none, none], [.int (0 : Int32)], (H0 r130.2))) rfl ?_
            obtain rfl := Option.some.inj h
            exact QTri.retZ rfl rfl
        rcases Classical.em ((if x4 < (0 : Int32) then (0 : Int32) else (if (255 : Int32) < x4 then (0 : Int32) else (1 : Int32))) = (0 : Int32)) with hc139 | hc139
        · refine QTri.brT Ad W (t := 77) (f := 73) (L := [none, none, none, none, some (.int x4), some (.ref 0), some (.int (if x4 < (0 : Int32) then (0 : Int32) else (if (255 : Int32) < x4 then (0 : Int32) else (1 : Int32)))), none, some (.int r136), none, none, none, none]) (S := [.int r136]) (σ := (H0 r130.2)) rfl (XT.i0_eq_t hc139) ?_
          refine QTri.steps Ad W 1 (st' := (78, [none, none, none, none, some (.int x4), some (.ref 0), some (.int (if x4 < (0 : Int32) then (0 : Int32) else (if (255 : Int32) < x4 then (0 : Int32) else (1 : Int32)))), none, some (.int r136), none, none, none, none], [.int (-1 : Int32), .int r136], (H0 r130.2))) rfl ?_
          exact QTri.mask [false, false, false, false, true, true, true, false, false, false, false, false, false] (K138 _ (if_pos hc139).symm)
        · refine QTri.brF Ad W (t := 77) (f := 73) (L := [none, none, none, none, some (.int x4), some (.ref 0), some (.int (if x4 < (0 : Int32) then (0 : Int32) else (if (255 : Int32) < x4 then (0 : Int32) else (1 : Int32)))), none, some (.int r136), none, none, none, none]) (S := [.int r136]) (σ := (H0 r130.2)) rfl (XT.i0_eq_f hc139) ?_
          refine QTri.steps Ad W 2 (st' := (78, [none, none, none, none, some (.int x4), some (.ref 0), some (.int (if x4 < (0 : Int32) then (0 : Int32) else (if (255 : Int32) < x4 then (0 : Int32) else (1 : Int32)))), none, some (.int r136), none, none, none, none], [.int (0 : Int32), .int r136], (H0 r130.2))) rfl ?_
          exact QTri.mask [false, false, false, false, true, true, true, false, false, false, false, false, false] (K138 _ (if_neg hc139).symm)
      · refine QTri.brF Ad W (t := 59) (f := 57) (L := [none, none, none, none, some (.int x4), some (.ref 0), some (.int (if x4 < (0 : Int32) then (0 : Int32) else (if (255 : Int32) < x4 then (0 : Int32) else (1 : Int32)))), none, none, none, none, none, none]) (S := []) (σ := (H0 r130.2)) rfl (XT.ii_eq_f hc134) ?_
        refine QTri.steps Ad W 1 (st' := (58, [none, none, none, none, some (.int x4), some (.ref 0), some (.int (if x4 < (0 : Int32) then (0 : Int32) else (if (255 : Int32) < x4 then (0 : Int32) else (1 : Int32)))), none, none, none, none, none, none], [.int (0 : Int32)], (H0 r130.2))) rfl ?_
        obtain rfl := Option.some.inj h
        exact QTri.retZ rfl rfl
    rcases Classical.em ((if x4 < (0 : Int32) then (0 : Int32) else (if (255 : Int32) < x4 then (0 : Int32) else (1 : Int32))) = (0 : Int32)) with hc133 | hc133
    · refine QTri.brT Ad W (t := 53) (f := 49) (L := [none, none, none, none, some (.int x4), some (.ref 0), some (.int (if x4 < (0 : Int32) then (0 : Int32) else (if (255 : Int32) < x4 then (0 : Int32) else (1 : Int32)))), some (.int r130.1), none, none, none, none, none]) (S := [.int r130.1]) (σ := (H0 r130.2)) rfl (XT.i0_eq_t hc133) ?_
      refine QTri.steps Ad W 1 (st' := (54, [none, none, none, none, some (.int x4), some (.ref 0), some (.int (if x4 < (0 : Int32) then (0 : Int32) else (if (255 : Int32) < x4 then (0 : Int32) else (1 : Int32)))), some (.int r130.1), none, none, none, none, none], [.int (-1 : Int32), .int r130.1], (H0 r130.2))) rfl ?_
      exact QTri.mask [false, false, false, false, true, true, true, false, false, false, false, false, false] (K132 _ (if_pos hc133).symm)
    · refine QTri.brF Ad W (t := 53) (f := 49) (L := [none, none, none, none, some (.int x4), some (.ref 0), some (.int (if x4 < (0 : Int32) then (0 : Int32) else (if (255 : Int32) < x4 then (0 : Int32) else (1 : Int32)))), some (.int r130.1), none, none, none, none, none]) (S := [.int r130.1]) (σ := (H0 r130.2)) rfl (XT.i0_eq_f hc133) ?_
      refine QTri.steps Ad W 2 (st' := (54, [none, none, none, none, some (.int x4), some (.ref 0), some (.int (if x4 < (0 : Int32) then (0 : Int32) else (if (255 : Int32) < x4 then (0 : Int32) else (1 : Int32)))), some (.int r130.1), none, none, none, none, none], [.int (0 : Int32), .int r130.1], (H0 r130.2))) rfl ?_
      exact QTri.mask [false, false, false, false, true, true, true, false, false, false, false, false, false] (K132 _ (if_neg hc133).symm)
  rcases Classical.em (x4 < (0 : Int32)) with hc16 | hc16
  · refine QTri.brT Ad W (t := 30) (f := 18) (L := [some (.int x0), some (.int x1), some (.int x2), some (.int x3), some (.int x4), some (.ref 0), none, none, none, none, none, none, none]) (S := []) (σ := (H0 r13)) rfl (XT.i0_lt_t hc16) ?_
    refine QTri.steps Ad W 1 (st' := (31, [some (.int x0), some (.int x1), some (.int x2), some (.int x3), some (.int x4), some (.ref 0), none, none, none, none, none, none, none], [.int (0 : Int32)], (H0 r13))) rfl ?_
    exact QTri.mask [false, false, false, false, true, true, false, false, false, false, false, false, false] (K15 _ (if_pos hc16).symm)
  · refine QTri.brF Ad W (t := 30) (f := 18) (L := [some (.int x0), some (.int x1), some (.int x2), some (.int x3), some (.int x4), some (.ref 0), none, none, none, none, none, none, none]) (S := []) (σ := (H0 r13)) rfl (XT.i0_lt_f hc16) ?_
    refine QTri.steps Ad W 2 (st' := (23, [some (.int x0), some (.int x1), some (.int x2), some (.int x3), some (.int x4), some (.ref 0), none, none, none, none, none, none, none], [.int (255 : Int32), .int x4], (H0 r13))) rfl ?_
    rcases Classical.em ((255 : Int32) < x4) with hc17 | hc17
    · refine QTri.brT Ad W (t := 30) (f := 26) (L := [some (.int x0), some (.int x1), some (.int x2), some (.int x3), some (.int x4), some (.ref 0), none, none, none, none, none, none, none]) (S := []) (σ := (H0 r13)) rfl (XT.ii_gt_t hc17) ?_
      refine QTri.steps Ad W 1 (st' := (31, [some (.int x0), some (.int x1), some (.int x2), some (.int x3), some (.int x4), some (.ref 0), none, none, none, none, none, none, none], [.int (0 : Int32)], (H0 r13))) rfl ?_
      exact QTri.mask [false, false, false, false, true, true, false, false, false, false, false, false, false] (K15 _ ((if_neg hc16).trans (if_pos hc17)).symm)
    · refine QTri.brF Ad W (t := 30) (f := 26) (L := [some (.int x0), some (.int x1), some (.int x2), some (.int x3), some (.int x4), some (.ref 0), none, none, none, none, none, none, none]) (S := []) (σ := (H0 r13)) rfl (XT.ii_gt_f hc17) ?_
      refine QTri.steps Ad W 2 (st' := (31, [some (.int x0), some (.int x1), some (.int x2), some (.int x3), some (.int x4), some (.ref 0), none, none, none, none, none, none, none], [.int (1 : Int32)], (H0 r13))) rfl ?_
      exact QTri.mask [false, false, false, false, true, true, false, false, false, false, false, false, false] (K15 _ ((if_neg hc16).trans (if_neg hc17)).symm)
end Walks
/-! ## ints, plainly -/
theorem i_lt {x y : Int32} : x < y ↔ x.toInt < y.toInt := Int32.lt_iff_toInt_lt
theorem i_eq {x y : Int32} : x = y ↔ x.toInt = y.toInt := Int32.toInt_inj.symm
theorem i_lo (x : Int32) : -2147483648 ≤ x.toInt := Int32.le_toInt x
theorem i_hi (x : Int32) : x.toInt < 2147483648 := Int32.toInt_lt x
theorem i_add {x y : Int32} (h1 : -2147483648 ≤ x.toInt + y.toInt) (h2 : x.toInt + y.toInt < 2147483648) : (x + y).toInt = x.toInt + y.toInt := XT.add32 ⟨h1, by omega⟩
theorem i_sub {x y : Int32} (h1 : -2147483648 ≤ x.toInt - y.toInt) (h2 : x.toInt - y.toInt < 2147483648) : (x - y).toInt = x.toInt - y.toInt := XT.sub32 ⟨h1, by omega⟩
theorem i_mul {x y : Int32} (h1 : -2147483648 ≤ x.toInt * y.toInt) (h2 : x.toInt * y.toInt < 2147483648) : (x * y).toInt = x.toInt * y.toInt := XT.mul32 ⟨h1, by omega⟩
theorem i_nat (x : Int32) : x.toNatClampNeg = x.toInt.toNat := rfl
theorem aget_at {α : Type} {xs : List α} {j : Int32} {n : Nat} (hj : j.toInt = n) (hn : n < xs.length) : aget xs j = some xs[n] := by
  have h0 : ¬ j < 0 := by rw [i_lt]; show ¬ j.toInt < 0; omega
  unfold aget
  rw [if_neg h0, i_nat, hj]
  simp [hn]
theorem aget_rep {α : Type} {m : Nat} {a : α} {j : Int32} (h0 : 0 ≤ j.toInt) (h1 : j.toInt < m) : aget (List.replicate m a) j = some a := by
  rw [aget_at (n := j.toInt.toNat) (by omega) (by rw [List.length_replicate]; omega)]
  simp
theorem aset_at {α : Type} {xs : List α} {j : Int32} {n : Nat} {v : α} (hj : j.toInt = n) (hn : n < xs.length) : aset xs j v = some (xs.set n v) := by
  have h0 : ¬ j < 0 := by rw [i_lt]; show ¬ j.toInt < 0; omega
  unfold aset
  have e : j.toNatClampNeg = n := by rw [i_nat, hj]; simp
  rw [if_neg h0, e, if_pos hn]
theorem rep_set {α : Type} (m k : Nat) (a : α) : (List.replicate m a).set k a = List.replicate m a := by
  apply List.ext_getElem (by simp)
  intro i h1 h2
  rw [List.getElem_set]
  split <;> simp
theorem small_cases {x : Int32} (h0 : 0 ≤ x.toInt) {n : Nat} (h1 : x.toInt < n) {P : Int32 → Prop} (h : ∀ m : Nat, m < n → P (Int32.ofInt m)) : P x := by
  have e : Int32.ofInt (x.toInt.toNat : Nat) = x := by
    rw [Int.toNat_of_nonneg h0, Int32.ofInt_toInt]
  rw [← e]
  exact h _ (by omega)
theorem bit_ne {x : Int32} (h0 : 0 ≤ x.toInt) (h1 : x.toInt < 32) : ¬ (((1 : Int32) <<< (x &&& 31)) &&& ((1 : Int32) <<< (x &&& 31))) = 0 :=
  small_cases (P := fun x => ¬ (((1 : Int32) <<< (x &&& 31)) &&& ((1 : Int32) <<< (x &&& 31))) = 0) h0 (n := 32) h1 (by decide)
/-! ## a plain run that succeeds, and what it gives -/
def okP {α : Type} (m : Option α) (P : α → Prop) : Prop := ∃ a, m = some a ∧ P a
theorem okP.some {α : Type} {a : α} {P : α → Prop} (h : P a) : okP (some a) P := ⟨a, rfl, h⟩
theorem okP.bind {α β : Type} {m : Option α} {f : α → Option β} {P : β → Prop} (h : okP m fun a => okP (f a) P) : okP (m.bind f) P := by
  obtain ⟨a, e, b, e2, h2⟩ := h
  exact ⟨b, by rw [e]; exact e2, h2⟩
theorem okP.ite {α : Type} {c : Prop} [Decidable c] {a b : Option α} {P : α → Prop} (h1 : c → okP a P) (h2 : ¬ c → okP b P) : okP (if c then a else b) P := by
  by_cases h : c
  · rw [if_pos h]; exact h1 h
  · rw [if_neg h]; exact h2 h
theorem okP.mono {α : Type} {m : Option α} {P Q : α → Prop} (h : okP m P) (k : ∀ a, P a → Q a) : okP m Q := by
  obtain ⟨a, e, h⟩ := h
  exact ⟨a, e, k a h⟩
theorem okP.of {α : Type} {m : Option α} {a : α} {P : α → Prop} (e : m = Option.some a) (h : P a) : okP m P := ⟨a, e, h⟩
theorem okP.aget {α : Type} {xs : List α} {j : Int32} {P : α → Prop} (h0 : 0 ≤ j.toInt) (h1 : j.toInt < xs.length) (k : ∀ v, xs[j.toInt.toNat]? = Option.some v → P v) : okP (aget xs j) P :=
  ⟨_, aget_at (n := j.toInt.toNat) (by omega) (by omega), k _ (List.getElem?_eq_getElem _)⟩
theorem okP.aset {α : Type} {xs : List α} {j : Int32} {v : α} {P : List α → Prop} (h0 : 0 ≤ j.toInt) (h1 : j.toInt < xs.length) (k : P (xs.set j.toInt.toNat v)) : okP (aset xs j v) P :=
  ⟨_, aset_at (n := j.toInt.toNat) (by omega) (by omega), k⟩
theorem okP.loop {V E : Type} {B : V → Option (E ⊕ V)} {P : E → Prop} {n : Nat} {v : V} (I : V → Prop) (μ : V → Nat) (hv : I v) (hm : μ v < n) (hB : ∀ v, I v → okP (B v) (fun r => Sum.elim P (fun v' => I v' ∧ μ v' < μ v) r)) : okP (loopN B n v) P := by
  refine loopN_inv I P μ ?_ n v hv hm
  intro v hv
  obtain ⟨r, e, h⟩ := hB v hv
  cases r with
  | inl x => exact Or.inl ⟨x, e, h⟩
  | inr x => exact Or.inr ⟨x, e, h⟩
theorem len_i {n : Nat} (h : n ≤ 1000) : (n.toInt32).toInt = n := by
  have e : n.toInt32 = Int32.ofInt n := rfl
  rw [e, Int32.toInt_ofInt_of_le (by show _ ≤ (n : Int); omega) (by show (n : Int) < _; omega)]
theorem and1 (x : Int32) : x &&& 1 = 0 ∨ x &&& 1 = 1 := by
  have e : (x &&& 1).toBitVec = x.toBitVec &&& 1#32 := rfl
  have h := BitVec.and_one_eq_setWidth_ofBool_getLsbD (x := x.toBitVec)
  cases g : x.toBitVec.getLsbD 0
  · left; apply Int32.toBitVec_inj.1; rw [e, h, g]; rfl
  · right; apply Int32.toBitVec_inj.1; rw [e, h, g]; rfl
theorem okP.not {α : Type} {m : Option α} {a : α} {P : α → Prop} (h : okP m P) (e : m = Option.some a) : P a := by
  obtain ⟨b, e2, h⟩ := h
  rw [e] at e2
  exact (Option.some.inj e2) ▸ h
theorem and_rng {x m : Int32} (hm : 0 ≤ m.toInt) : 0 ≤ (x &&& m).toInt ∧ (x &&& m).toInt ≤ m.toInt := by
  have e : (x &&& m).toBitVec.toNat = x.toBitVec.toNat &&& m.toBitVec.toNat := BitVec.toNat_and ..
  have l : (x &&& m).toBitVec.toNat ≤ m.toBitVec.toNat := by rw [e]; exact Nat.and_le_right
  have c1 : m.toInt = if 2 * m.toBitVec.toNat < 2 ^ 32 then (m.toBitVec.toNat : Int) else m.toBitVec.toNat - (2 ^ 32 : Nat) := BitVec.toInt_eq_toNat_cond m.toBitVec
  have c2 : (x &&& m).toInt = if 2 * (x &&& m).toBitVec.toNat < 2 ^ 32 then ((x &&& m).toBitVec.toNat : Int) else (x &&& m).toBitVec.toNat - (2 ^ 32 : Nat) := BitVec.toInt_eq_toNat_cond (x &&& m).toBitVec
  have b : m.toBitVec.toNat < 2 ^ 32 := m.toBitVec.isLt
  by_cases h : 2 * m.toBitVec.toNat < 2 ^ 32
  · rw [if_pos h] at c1
    rw [if_pos (by omega)] at c2
    omega
  · rw [if_neg h] at c1
    omega
theorem mod_rng {x m : Int32} (hx : 0 ≤ x.toInt) (hm : 0 < m.toInt) : 0 ≤ (x % m).toInt ∧ (x % m).toInt < m.toInt := by
  rw [Int32.toInt_mod, Int.tmod_eq_emod_of_nonneg hx]
  exact ⟨Int.emod_nonneg _ (by omega), Int.emod_lt_of_pos _ hm⟩
/-- the law's own room, over the script's array -/
def sFit (s : List Int32) (τ : QHeap) : Prop := τ.length - List.length ([Sum.inr (Sum.inl (FieldType.int, s))] : QHeap) ≤ room_1.cells ∧ qhs τ - qhs [Sum.inr (Sum.inl (FieldType.int, s))] ≤ room_1.slots
def Sh (W : Int32) (o : Ob) : Prop := (f_srcPayload o).length = 32 ∧ (f_pend o).length = 32 ∧ (f_queue o).length = 64 ∧ (f_stats o).length = 10 ∧ (f_state o).length = 128 ∧ (f_timer o).length = 128 ∧ (f_rxVal o).length = 128 ∧ (f_rxNext o).length = 4 ∧ (f_rxLead o).length = 4 ∧ (f_rxTrail o).length = 4 ∧ (f_lossLeft o).length = 4 ∧ (f_dups o).length = 4 ∧ (f_drops o).length = 4 ∧ (f_delSeq o).length = 128 ∧ (f_delVal o).length = 128 ∧ (f_delLen o).length = 4 ∧ (f_lostLog o).length = 128 ∧ (f_lostLen o).length = 4 ∧ (f_nakBuf o).length = 128 ∧ f_win o = W
theorem Sh_srcPayload {W : Int32} {o : Ob} {x : List Int32} (h : Sh W o) (hx : x.length = 32) : Sh W (s_srcPayload o x) := by
  dsimp only [Sh, f_srcPayload, f_pend, f_queue, f_stats, f_state, f_timer, f_rxVal, f_rxNext, f_rxLead, f_rxTrail, f_lossLeft, f_dups, f_drops, f_delSeq, f_delVal, f_delLen, f_lostLog, f_lostLen, f_nakBuf, f_win, s_srcPayload] at h ⊢
  exact ⟨hx, h.2.1, h.2.2.1, h.2.2.2.1, h.2.2.2.2.1, h.2.2.2.2.2.1, h.2.2.2.2.2.2.1, h.2.2.2.2.2.2.2.1, h.2.2.2.2.2.2.2.2.1, h.2.2.2.2.2.2.2.2.2.1, h.2.2.2.2.2.2.2.2.2.2.1, h.2.2.2.2.2.2.2.2.2.2.2.1, h.2.2.2.2.2.2.2.2.2.2.2.2.1, h.2.2.2.2.2.2.2.2.2.2.2.2.2.1, h.2.2.2.2.2.2.2.2.2.2.2.2.2.2.1, h.2.2.2.2.2.2.2.2.2.2.2.2.2.2.2.1, h.2.2.2.2.2.2.2.2.2.2.2.2.2.2.2.2.1, h.2.2.2.2.2.2.2.2.2.2.2.2.2.2.2.2.2.1, h.2.2.2.2.2.2.2.2.2.2.2.2.2.2.2.2.2.2.1, h.2.2.2.2.2.2.2.2.2.2.2.2.2.2.2.2.2.2.2⟩
theorem Sh_l_srcPayload {W : Int32} {o : Ob} (h : Sh W o) : (f_srcPayload o).length = 32 := h.1
theorem Sh_pend {W : Int32} {o : Ob} {x : List Int32} (h : Sh W o) (hx : x.length = 32) : Sh W (s_pend o x) := by
  dsimp only [Sh, f_srcPayload, f_pend, f_queue, f_stats, f_state, f_timer, f_rxVal, f_rxNext, f_rxLead, f_rxTrail, f_lossLeft, f_dups, f_drops, f_delSeq, f_delVal, f_delLen, f_lostLog, f_lostLen, f_nakBuf, f_win, s_pend] at h ⊢
  exact ⟨h.1, hx, h.2.2.1, h.2.2.2.1, h.2.2.2.2.1, h.2.2.2.2.2.1, h.2.2.2.2.2.2.1, h.2.2.2.2.2.2.2.1, h.2.2.2.2.2.2.2.2.1, h.2.2.2.2.2.2.2.2.2.1, h.2.2.2.2.2.2.2.2.2.2.1, h.2.2.2.2.2.2.2.2.2.2.2.1, h.2.2.2.2.2.2.2.2.2.2.2.2.1, h.2.2.2.2.2.2.2.2.2.2.2.2.2.1, h.2.2.2.2.2.2.2.2.2.2.2.2.2.2.1, h.2.2.2.2.2.2.2.2.2.2.2.2.2.2.2.1, h.2.2.2.2.2.2.2.2.2.2.2.2.2.2.2.2.1, h.2.2.2.2.2.2.2.2.2.2.2.2.2.2.2.2.2.1, h.2.2.2.2.2.2.2.2.2.2.2.2.2.2.2.2.2.2.1, h.2.2.2.2.2.2.2.2.2.2.2.2.2.2.2.2.2.2.2⟩
theorem Sh_l_pend {W : Int32} {o : Ob} (h : Sh W o) : (f_pend o).length = 32 := h.2.1
theorem Sh_queue {W : Int32} {o : Ob} {x : List Int32} (h : Sh W o) (hx : x.length = 64) : Sh W (s_queue o x) := by
  dsimp only [Sh, f_srcPayload, f_pend, f_queue, f_stats, f_state, f_timer, f_rxVal, f_rxNext, f_rxLead, f_rxTrail, f_lossLeft, f_dups, f_drops, f_delSeq, f_delVal, f_delLen, f_lostLog, f_lostLen, f_nakBuf, f_win, s_queue] at h ⊢
  exact ⟨h.1, h.2.1, hx, h.2.2.2.1, h.2.2.2.2.1, h.2.2.2.2.2.1, h.2.2.2.2.2.2.1, h.2.2.2.2.2.2.2.1, h.2.2.2.2.2.2.2.2.1, h.2.2.2.2.2.2.2.2.2.1, h.2.2.2.2.2.2.2.2.2.2.1, h.2.2.2.2.2.2.2.2.2.2.2.1, h.2.2.2.2.2.2.2.2.2.2.2.2.1, h.2.2.2.2.2.2.2.2.2.2.2.2.2.1, h.2.2.2.2.2.2.2.2.2.2.2.2.2.2.1, h.2.2.2.2.2.2.2.2.2.2.2.2.2.2.2.1, h.2.2.2.2.2.2.2.2.2.2.2.2.2.2.2.2.1, h.2.2.2.2.2.2.2.2.2.2.2.2.2.2.2.2.2.1, h.2.2.2.2.2.2.2.2.2.2.2.2.2.2.2.2.2.2.1, h.2.2.2.2.2.2.2.2.2.2.2.2.2.2.2.2.2.2.2⟩
theorem Sh_l_queue {W : Int32} {o : Ob} (h : Sh W o) : (f_queue o).length = 64 := h.2.2.1
theorem Sh_stats {W : Int32} {o : Ob} {x : List Int32} (h : Sh W o) (hx : x.length = 10) : Sh W (s_stats o x) := by
  dsimp only [Sh, f_srcPayload, f_pend, f_queue, f_stats, f_state, f_timer, f_rxVal, f_rxNext, f_rxLead, f_rxTrail, f_lossLeft, f_dups, f_drops, f_delSeq, f_delVal, f_delLen, f_lostLog, f_lostLen, f_nakBuf, f_win, s_stats] at h ⊢
  exact ⟨h.1, h.2.1, h.2.2.1, hx, h.2.2.2.2.1, h.2.2.2.2.2.1, h.2.2.2.2.2.2.1, h.2.2.2.2.2.2.2.1, h.2.2.2.2.2.2.2.2.1, h.2.2.2.2.2.2.2.2.2.1, h.2.2.2.2.2.2.2.2.2.2.1, h.2.2.2.2.2.2.2.2.2.2.2.1, h.2.2.2.2.2.2.2.2.2.2.2.2.1, h.2.2.2.2.2.2.2.2.2.2.2.2.2.1, h.2.2.2.2.2.2.2.2.2.2.2.2.2.2.1, h.2.2.2.2.2.2.2.2.2.2.2.2.2.2.2.1, h.2.2.2.2.2.2.2.2.2.2.2.2.2.2.2.2.1, h.2.2.2.2.2.2.2.2.2.2.2.2.2.2.2.2.2.1, h.2.2.2.2.2.2.2.2.2.2.2.2.2.2.2.2.2.2.1, h.2.2.2.2.2.2.2.2.2.2.2.2.2.2.2.2.2.2.2⟩
theorem Sh_l_stats {W : Int32} {o : Ob} (h : Sh W o) : (f_stats o).length = 10 := h.2.2.2.1
theorem Sh_state {W : Int32} {o : Ob} {x : List Int32} (h : Sh W o) (hx : x.length = 128) : Sh W (s_state o x) := by
  dsimp only [Sh, f_srcPayload, f_pend, f_queue, f_stats, f_state, f_timer, f_rxVal, f_rxNext, f_rxLead, f_rxTrail, f_lossLeft, f_dups, f_drops, f_delSeq, f_delVal, f_delLen, f_lostLog, f_lostLen, f_nakBuf, f_win, s_state] at h ⊢
  exact ⟨h.1, h.2.1, h.2.2.1, h.2.2.2.1, hx, h.2.2.2.2.2.1, h.2.2.2.2.2.2.1, h.2.2.2.2.2.2.2.1, h.2.2.2.2.2.2.2.2.1, h.2.2.2.2.2.2.2.2.2.1, h.2.2.2.2.2.2.2.2.2.2.1, h.2.2.2.2.2.2.2.2.2.2.2.1, h.2.2.2.2.2.2.2.2.2.2.2.2.1, h.2.2.2.2.2.2.2.2.2.2.2.2.2.1, h.2.2.2.2.2.2.2.2.2.2.2.2.2.2.1, h.2.2.2.2.2.2.2.2.2.2.2.2.2.2.2.1, h.2.2.2.2.2.2.2.2.2.2.2.2.2.2.2.2.1, h.2.2.2.2.2.2.2.2.2.2.2.2.2.2.2.2.2.1, h.2.2.2.2.2.2.2.2.2.2.2.2.2.2.2.2.2.2.1, h.2.2.2.2.2.2.2.2.2.2.2.2.2.2.2.2.2.2.2⟩
theorem Sh_l_state {W : Int32} {o : Ob} (h : Sh W o) : (f_state o).length = 128 := h.2.2.2.2.1
theorem Sh_timer {W : Int32} {o : Ob} {x : List Int32} (h : Sh W o) (hx : x.length = 128) : Sh W (s_timer o x) := by
  dsimp only [Sh, f_srcPayload, f_pend, f_queue, f_stats, f_state, f_timer, f_rxVal, f_rxNext, f_rxLead, f_rxTrail, f_lossLeft, f_dups, f_drops, f_delSeq, f_delVal, f_delLen, f_lostLog, f_lostLen, f_nakBuf, f_win, s_timer] at h ⊢
  exact ⟨h.1, h.2.1, h.2.2.1, h.2.2.2.1, h.2.2.2.2.1, hx, h.2.2.2.2.2.2.1, h.2.2.2.2.2.2.2.1, h.2.2.2.2.2.2.2.2.1, h.2.2.2.2.2.2.2.2.2.1, h.2.2.2.2.2.2.2.2.2.2.1, h.2.2.2.2.2.2.2.2.2.2.2.1, h.2.2.2.2.2.2.2.2.2.2.2.2.1, h.2.2.2.2.2.2.2.2.2.2.2.2.2.1, h.2.2.2.2.2.2.2.2.2.2.2.2.2.2.1, h.2.2.2.2.2.2.2.2.2.2.2.2.2.2.2.1, h.2.2.2.2.2.2.2.2.2.2.2.2.2.2.2.2.1, h.2.2.2.2.2.2.2.2.2.2.2.2.2.2.2.2.2.1, h.2.2.2.2.2.2.2.2.2.2.2.2.2.2.2.2.2.2.1, h.2.2.2.2.2.2.2.2.2.2.2.2.2.2.2.2.2.2.2⟩
theorem Sh_l_timer {W : Int32} {o : Ob} (h : Sh W o) : (f_timer o).length = 128 := h.2.2.2.2.2.1
theorem Sh_rxVal {W : Int32} {o : Ob} {x : List Int32} (h : Sh W o) (hx : x.length = 128) : Sh W (s_rxVal o x) := by
  dsimp only [Sh, f_srcPayload, f_pend, f_queue, f_stats, f_state, f_timer, f_rxVal, f_rxNext, f_rxLead, f_rxTrail, f_lossLeft, f_dups, f_drops, f_delSeq, f_delVal, f_delLen, f_lostLog, f_lostLen, f_nakBuf, f_win, s_rxVal] at h ⊢
  exact ⟨h.1, h.2.1, h.2.2.1, h.2.2.2.1, h.2.2.2.2.1, h.2.2.2.2.2.1, hx, h.2.2.2.2.2.2.2.1, h.2.2.2.2.2.2.2.2.1, h.2.2.2.2.2.2.2.2.2.1, h.2.2.2.2.2.2.2.2.2.2.1, h.2.2.2.2.2.2.2.2.2.2.2.1, h.2.2.2.2.2.2.2.2.2.2.2.2.1, h.2.2.2.2.2.2.2.2.2.2.2.2.2.1, h.2.2.2.2.2.2.2.2.2.2.2.2.2.2.1, h.2.2.2.2.2.2.2.2.2.2.2.2.2.2.2.1, h.2.2.2.2.2.2.2.2.2.2.2.2.2.2.2.2.1, h.2.2.2.2.2.2.2.2.2.2.2.2.2.2.2.2.2.1, h.2.2.2.2.2.2.2.2.2.2.2.2.2.2.2.2.2.2.1, h.2.2.2.2.2.2.2.2.2.2.2.2.2.2.2.2.2.2.2⟩
theorem Sh_l_rxVal {W : Int32} {o : Ob} (h : Sh W o) : (f_rxVal o).length = 128 := h.2.2.2.2.2.2.1
theorem Sh_rxNext {W : Int32} {o : Ob} {x : List Int32} (h : Sh W o) (hx : x.length = 4) : Sh W (s_rxNext o x) := by
  dsimp only [Sh, f_srcPayload, f_pend, f_queue, f_stats, f_state, f_timer, f_rxVal, f_rxNext, f_rxLead, f_rxTrail, f_lossLeft, f_dups, f_drops, f_delSeq, f_delVal, f_delLen, f_lostLog, f_lostLen, f_nakBuf, f_win, s_rxNext] at h ⊢
  exact ⟨h.1, h.2.1, h.2.2.1, h.2.2.2.1, h.2.2.2.2.1, h.2.2.2.2.2.1, h.2.2.2.2.2.2.1, hx, h.2.2.2.2.2.2.2.2.1, h.2.2.2.2.2.2.2.2.2.1, h.2.2.2.2.2.2.2.2.2.2.1, h.2.2.2.2.2.2.2.2.2.2.2.1, h.2.2.2.2.2.2.2.2.2.2.2.2.1, h.2.2.2.2.2.2.2.2.2.2.2.2.2.1, h.2.2.2.2.2.2.2.2.2.2.2.2.2.2.1, h.2.2.2.2.2.2.2.2.2.2.2.2.2.2.2.1, h.2.2.2.2.2.2.2.2.2.2.2.2.2.2.2.2.1, h.2.2.2.2.2.2.2.2.2.2.2.2.2.2.2.2.2.1, h.2.2.2.2.2.2.2.2.2.2.2.2.2.2.2.2.2.2.1, h.2.2.2.2.2.2.2.2.2.2.2.2.2.2.2.2.2.2.2⟩
theorem Sh_l_rxNext {W : Int32} {o : Ob} (h : Sh W o) : (f_rxNext o).length = 4 := h.2.2.2.2.2.2.2.1
theorem Sh_rxLead {W : Int32} {o : Ob} {x : List Int32} (h : Sh W o) (hx : x.length = 4) : Sh W (s_rxLead o x) := by
  dsimp only [Sh, f_srcPayload, f_pend, f_queue, f_stats, f_state, f_timer, f_rxVal, f_rxNext, f_rxLead, f_rxTrail, f_lossLeft, f_dups, f_drops, f_delSeq, f_delVal, f_delLen, f_lostLog, f_lostLen, f_nakBuf, f_win, s_rxLead] at h ⊢
  exact ⟨h.1, h.2.1, h.2.2.1, h.2.2.2.1, h.2.2.2.2.1, h.2.2.2.2.2.1, h.2.2.2.2.2.2.1, h.2.2.2.2.2.2.2.1, hx, h.2.2.2.2.2.2.2.2.2.1, h.2.2.2.2.2.2.2.2.2.2.1, h.2.2.2.2.2.2.2.2.2.2.2.1, h.2.2.2.2.2.2.2.2.2.2.2.2.1, h.2.2.2.2.2.2.2.2.2.2.2.2.2.1, h.2.2.2.2.2.2.2.2.2.2.2.2.2.2.1, h.2.2.2.2.2.2.2.2.2.2.2.2.2.2.2.1, h.2.2.2.2.2.2.2.2.2.2.2.2.2.2.2.2.1, h.2.2.2.2.2.2.2.2.2.2.2.2.2.2.2.2.2.1, h.2.2.2.2.2.2.2.2.2.2.2.2.2.2.2.2.2.2.1, h.2.2.2.2.2.2.2.2.2.2.2.2.2.2.2.2.2.2.2⟩
theorem Sh_l_rxLead {W : Int32} {o : Ob} (h : Sh W o) : (f_rxLead o).length = 4 := h.2.2.2.2.2.2.2.2.1
theorem Sh_rxTrail {W : Int32} {o : Ob} {x : List Int32} (h : Sh W o) (hx : x.length = 4) : Sh W (s_rxTrail o x) := by
  dsimp only [Sh, f_srcPayload, f_pend, f_queue, f_stats, f_state, f_timer, f_rxVal, f_rxNext, f_rxLead, f_rxTrail, f_lossLeft, f_dups, f_drops, f_delSeq, f_delVal, f_delLen, f_lostLog, f_lostLen, f_nakBuf, f_win, s_rxTrail] at h ⊢
  exact ⟨h.1, h.2.1, h.2.2.1, h.2.2.2.1, h.2.2.2.2.1, h.2.2.2.2.2.1, h.2.2.2.2.2.2.1, h.2.2.2.2.2.2.2.1, h.2.2.2.2.2.2.2.2.1, hx, h.2.2.2.2.2.2.2.2.2.2.1, h.2.2.2.2.2.2.2.2.2.2.2.1, h.2.2.2.2.2.2.2.2.2.2.2.2.1, h.2.2.2.2.2.2.2.2.2.2.2.2.2.1, h.2.2.2.2.2.2.2.2.2.2.2.2.2.2.1, h.2.2.2.2.2.2.2.2.2.2.2.2.2.2.2.1, h.2.2.2.2.2.2.2.2.2.2.2.2.2.2.2.2.1, h.2.2.2.2.2.2.2.2.2.2.2.2.2.2.2.2.2.1, h.2.2.2.2.2.2.2.2.2.2.2.2.2.2.2.2.2.2.1, h.2.2.2.2.2.2.2.2.2.2.2.2.2.2.2.2.2.2.2⟩
theorem Sh_l_rxTrail {W : Int32} {o : Ob} (h : Sh W o) : (f_rxTrail o).length = 4 := h.2.2.2.2.2.2.2.2.2.1
theorem Sh_lossLeft {W : Int32} {o : Ob} {x : List Int32} (h : Sh W o) (hx : x.length = 4) : Sh W (s_lossLeft o x) := by
  dsimp only [Sh, f_srcPayload, f_pend, f_queue, f_stats, f_state, f_timer, f_rxVal, f_rxNext, f_rxLead, f_rxTrail, f_lossLeft, f_dups, f_drops, f_delSeq, f_delVal, f_delLen, f_lostLog, f_lostLen, f_nakBuf, f_win, s_lossLeft] at h ⊢
  exact ⟨h.1, h.2.1, h.2.2.1, h.2.2.2.1, h.2.2.2.2.1, h.2.2.2.2.2.1, h.2.2.2.2.2.2.1, h.2.2.2.2.2.2.2.1, h.2.2.2.2.2.2.2.2.1, h.2.2.2.2.2.2.2.2.2.1, hx, h.2.2.2.2.2.2.2.2.2.2.2.1, h.2.2.2.2.2.2.2.2.2.2.2.2.1, h.2.2.2.2.2.2.2.2.2.2.2.2.2.1, h.2.2.2.2.2.2.2.2.2.2.2.2.2.2.1, h.2.2.2.2.2.2.2.2.2.2.2.2.2.2.2.1, h.2.2.2.2.2.2.2.2.2.2.2.2.2.2.2.2.1, h.2.2.2.2.2.2.2.2.2.2.2.2.2.2.2.2.2.1, h.2.2.2.2.2.2.2.2.2.2.2.2.2.2.2.2.2.2.1, h.2.2.2.2.2.2.2.2.2.2.2.2.2.2.2.2.2.2.2⟩
theorem Sh_l_lossLeft {W : Int32} {o : Ob} (h : Sh W o) : (f_lossLeft o).length = 4 := h.2.2.2.2.2.2.2.2.2.2.1
theorem Sh_dups {W : Int32} {o : Ob} {x : List Int32} (h : Sh W o) (hx : x.length = 4) : Sh W (s_dups o x) := by
  dsimp only [Sh, f_srcPayload, f_pend, f_queue, f_stats, f_state, f_timer, f_rxVal, f_rxNext, f_rxLead, f_rxTrail, f_lossLeft, f_dups, f_drops, f_delSeq, f_delVal, f_delLen, f_lostLog, f_lostLen, f_nakBuf, f_win, s_dups] at h ⊢
  exact ⟨h.1, h.2.1, h.2.2.1, h.2.2.2.1, h.2.2.2.2.1, h.2.2.2.2.2.1, h.2.2.2.2.2.2.1, h.2.2.2.2.2.2.2.1, h.2.2.2.2.2.2.2.2.1, h.2.2.2.2.2.2.2.2.2.1, h.2.2.2.2.2.2.2.2.2.2.1, hx, h.2.2.2.2.2.2.2.2.2.2.2.2.1, h.2.2.2.2.2.2.2.2.2.2.2.2.2.1, h.2.2.2.2.2.2.2.2.2.2.2.2.2.2.1, h.2.2.2.2.2.2.2.2.2.2.2.2.2.2.2.1, h.2.2.2.2.2.2.2.2.2.2.2.2.2.2.2.2.1, h.2.2.2.2.2.2.2.2.2.2.2.2.2.2.2.2.2.1, h.2.2.2.2.2.2.2.2.2.2.2.2.2.2.2.2.2.2.1, h.2.2.2.2.2.2.2.2.2.2.2.2.2.2.2.2.2.2.2⟩
theorem Sh_l_dups {W : Int32} {o : Ob} (h : Sh W o) : (f_dups o).length = 4 := h.2.2.2.2.2.2.2.2.2.2.2.1
theorem Sh_drops {W : Int32} {o : Ob} {x : List Int32} (h : Sh W o) (hx : x.length = 4) : Sh W (s_drops o x) := by
  dsimp only [Sh, f_srcPayload, f_pend, f_queue, f_stats, f_state, f_timer, f_rxVal, f_rxNext, f_rxLead, f_rxTrail, f_lossLeft, f_dups, f_drops, f_delSeq, f_delVal, f_delLen, f_lostLog, f_lostLen, f_nakBuf, f_win, s_drops] at h ⊢
  exact ⟨h.1, h.2.1, h.2.2.1, h.2.2.2.1, h.2.2.2.2.1, h.2.2.2.2.2.1, h.2.2.2.2.2.2.1, h.2.2.2.2.2.2.2.1, h.2.2.2.2.2.2.2.2.1, h.2.2.2.2.2.2.2.2.2.1, h.2.2.2.2.2.2.2.2.2.2.1, h.2.2.2.2.2.2.2.2.2.2.2.1, hx, h.2.2.2.2.2.2.2.2.2.2.2.2.2.1, h.2.2.2.2.2.2.2.2.2.2.2.2.2.2.1, h.2.2.2.2.2.2.2.2.2.2.2.2.2.2.2.1, h.2.2.2.2.2.2.2.2.2.2.2.2.2.2.2.2.1, h.2.2.2.2.2.2.2.2.2.2.2.2.2.2.2.2.2.1, h.2.2.2.2.2.2.2.2.2.2.2.2.2.2.2.2.2.2.1, h.2.2.2.2.2.2.2.2.2.2.2.2.2.2.2.2.2.2.2⟩
theorem Sh_l_drops {W : Int32} {o : Ob} (h : Sh W o) : (f_drops o).length = 4 := h.2.2.2.2.2.2.2.2.2.2.2.2.1
theorem Sh_delSeq {W : Int32} {o : Ob} {x : List Int32} (h : Sh W o) (hx : x.length = 128) : Sh W (s_delSeq o x) := by
  dsimp only [Sh, f_srcPayload, f_pend, f_queue, f_stats, f_state, f_timer, f_rxVal, f_rxNext, f_rxLead, f_rxTrail, f_lossLeft, f_dups, f_drops, f_delSeq, f_delVal, f_delLen, f_lostLog, f_lostLen, f_nakBuf, f_win, s_delSeq] at h ⊢
  exact ⟨h.1, h.2.1, h.2.2.1, h.2.2.2.1, h.2.2.2.2.1, h.2.2.2.2.2.1, h.2.2.2.2.2.2.1, h.2.2.2.2.2.2.2.1, h.2.2.2.2.2.2.2.2.1, h.2.2.2.2.2.2.2.2.2.1, h.2.2.2.2.2.2.2.2.2.2.1, h.2.2.2.2.2.2.2.2.2.2.2.1, h.2.2.2.2.2.2.2.2.2.2.2.2.1, hx, h.2.2.2.2.2.2.2.2.2.2.2.2.2.2.1, h.2.2.2.2.2.2.2.2.2.2.2.2.2.2.2.1, h.2.2.2.2.2.2.2.2.2.2.2.2.2.2.2.2.1, h.2.2.2.2.2.2.2.2.2.2.2.2.2.2.2.2.2.1, h.2.2.2.2.2.2.2.2.2.2.2.2.2.2.2.2.2.2.1, h.2.2.2.2.2.2.2.2.2.2.2.2.2.2.2.2.2.2.2⟩
theorem Sh_l_delSeq {W : Int32} {o : Ob} (h : Sh W o) : (f_delSeq o).length = 128 := h.2.2.2.2.2.2.2.2.2.2.2.2.2.1
theorem Sh_delVal {W : Int32} {o : Ob} {x : List Int32} (h : Sh W o) (hx : x.length = 128) : Sh W (s_delVal o x) := by
  dsimp only [Sh, f_srcPayload, f_pend, f_queue, f_stats, f_state, f_timer, f_rxVal, f_rxNext, f_rxLead, f_rxTrail, f_lossLeft, f_dups, f_drops, f_delSeq, f_delVal, f_delLen, f_lostLog, f_lostLen, f_nakBuf, f_win, s_delVal] at h ⊢
  exact ⟨h.1, h.2.1, h.2.2.1, h.2.2.2.1, h.2.2.2.2.1, h.2.2.2.2.2.1, h.2.2.2.2.2.2.1, h.2.2.2.2.2.2.2.1, h.2.2.2.2.2.2.2.2.1, h.2.2.2.2.2.2.2.2.2.1, h.2.2.2.2.2.2.2.2.2.2.1, h.2.2.2.2.2.2.2.2.2.2.2.1, h.2.2.2.2.2.2.2.2.2.2.2.2.1, h.2.2.2.2.2.2.2.2.2.2.2.2.2.1, hx, h.2.2.2.2.2.2.2.2.2.2.2.2.2.2.2.1, h.2.2.2.2.2.2.2.2.2.2.2.2.2.2.2.2.1, h.2.2.2.2.2.2.2.2.2.2.2.2.2.2.2.2.2.1, h.2.2.2.2.2.2.2.2.2.2.2.2.2.2.2.2.2.2.1, h.2.2.2.2.2.2.2.2.2.2.2.2.2.2.2.2.2.2.2⟩
theorem Sh_l_delVal {W : Int32} {o : Ob} (h : Sh W o) : (f_delVal o).length = 128 := h.2.2.2.2.2.2.2.2.2.2.2.2.2.2.1
theorem Sh_delLen {W : Int32} {o : Ob} {x : List Int32} (h : Sh W o) (hx : x.length = 4) : Sh W (s_delLen o x) := by
  dsimp only [Sh, f_srcPayload, f_pend, f_queue, f_stats, f_state, f_timer, f_rxVal, f_rxNext, f_rxLead, f_rxTrail, f_lossLeft, f_dups, f_drops, f_delSeq, f_delVal, f_delLen, f_lostLog, f_lostLen, f_nakBuf, f_win, s_delLen] at h ⊢
  exact ⟨h.1, h.2.1, h.2.2.1, h.2.2.2.1, h.2.2.2.2.1, h.2.2.2.2.2.1, h.2.2.2.2.2.2.1, h.2.2.2.2.2.2.2.1, h.2.2.2.2.2.2.2.2.1, h.2.2.2.2.2.2.2.2.2.1, h.2.2.2.2.2.2.2.2.2.2.1, h.2.2.2.2.2.2.2.2.2.2.2.1, h.2.2.2.2.2.2.2.2.2.2.2.2.1, h.2.2.2.2.2.2.2.2.2.2.2.2.2.1, h.2.2.2.2.2.2.2.2.2.2.2.2.2.2.1, hx, h.2.2.2.2.2.2.2.2.2.2.2.2.2.2.2.2.1, h.2.2.2.2.2.2.2.2.2.2.2.2.2.2.2.2.2.1, h.2.2.2.2.2.2.2.2.2.2.2.2.2.2.2.2.2.2.1, h.2.2.2.2.2.2.2.2.2.2.2.2.2.2.2.2.2.2.2⟩
theorem Sh_l_delLen {W : Int32} {o : Ob} (h : Sh W o) : (f_delLen o).length = 4 := h.2.2.2.2.2.2.2.2.2.2.2.2.2.2.2.1
theorem Sh_lostLog {W : Int32} {o : Ob} {x : List Int32} (h : Sh W o) (hx : x.length = 128) : Sh W (s_lostLog o x) := by
  dsimp only [Sh, f_srcPayload, f_pend, f_queue, f_stats, f_state, f_timer, f_rxVal, f_rxNext, f_rxLead, f_rxTrail, f_lossLeft, f_dups, f_drops, f_delSeq, f_delVal, f_delLen, f_lostLog, f_lostLen, f_nakBuf, f_win, s_lostLog] at h ⊢
  exact ⟨h.1, h.2.1, h.2.2.1, h.2.2.2.1, h.2.2.2.2.1, h.2.2.2.2.2.1, h.2.2.2.2.2.2.1, h.2.2.2.2.2.2.2.1, h.2.2.2.2.2.2.2.2.1, h.2.2.2.2.2.2.2.2.2.1, h.2.2.2.2.2.2.2.2.2.2.1, h.2.2.2.2.2.2.2.2.2.2.2.1, h.2.2.2.2.2.2.2.2.2.2.2.2.1, h.2.2.2.2.2.2.2.2.2.2.2.2.2.1, h.2.2.2.2.2.2.2.2.2.2.2.2.2.2.1, h.2.2.2.2.2.2.2.2.2.2.2.2.2.2.2.1, hx, h.2.2.2.2.2.2.2.2.2.2.2.2.2.2.2.2.2.1, h.2.2.2.2.2.2.2.2.2.2.2.2.2.2.2.2.2.2.1, h.2.2.2.2.2.2.2.2.2.2.2.2.2.2.2.2.2.2.2⟩
theorem Sh_l_lostLog {W : Int32} {o : Ob} (h : Sh W o) : (f_lostLog o).length = 128 := h.2.2.2.2.2.2.2.2.2.2.2.2.2.2.2.2.1
theorem Sh_lostLen {W : Int32} {o : Ob} {x : List Int32} (h : Sh W o) (hx : x.length = 4) : Sh W (s_lostLen o x) := by
  dsimp only [Sh, f_srcPayload, f_pend, f_queue, f_stats, f_state, f_timer, f_rxVal, f_rxNext, f_rxLead, f_rxTrail, f_lossLeft, f_dups, f_drops, f_delSeq, f_delVal, f_delLen, f_lostLog, f_lostLen, f_nakBuf, f_win, s_lostLen] at h ⊢
  exact ⟨h.1, h.2.1, h.2.2.1, h.2.2.2.1, h.2.2.2.2.1, h.2.2.2.2.2.1, h.2.2.2.2.2.2.1, h.2.2.2.2.2.2.2.1, h.2.2.2.2.2.2.2.2.1, h.2.2.2.2.2.2.2.2.2.1, h.2.2.2.2.2.2.2.2.2.2.1, h.2.2.2.2.2.2.2.2.2.2.2.1, h.2.2.2.2.2.2.2.2.2.2.2.2.1, h.2.2.2.2.2.2.2.2.2.2.2.2.2.1, h.2.2.2.2.2.2.2.2.2.2.2.2.2.2.1, h.2.2.2.2.2.2.2.2.2.2.2.2.2.2.2.1, h.2.2.2.2.2.2.2.2.2.2.2.2.2.2.2.2.1, hx, h.2.2.2.2.2.2.2.2.2.2.2.2.2.2.2.2.2.2.1, h.2.2.2.2.2.2.2.2.2.2.2.2.2.2.2.2.2.2.2⟩
theorem Sh_l_lostLen {W : Int32} {o : Ob} (h : Sh W o) : (f_lostLen o).length = 4 := h.2.2.2.2.2.2.2.2.2.2.2.2.2.2.2.2.2.1
theorem Sh_nakBuf {W : Int32} {o : Ob} {x : List Int32} (h : Sh W o) (hx : x.length = 128) : Sh W (s_nakBuf o x) := by
  dsimp only [Sh, f_srcPayload, f_pend, f_queue, f_stats, f_state, f_timer, f_rxVal, f_rxNext, f_rxLead, f_rxTrail, f_lossLeft, f_dups, f_drops, f_delSeq, f_delVal, f_delLen, f_lostLog, f_lostLen, f_nakBuf, f_win, s_nakBuf] at h ⊢
  exact ⟨h.1, h.2.1, h.2.2.1, h.2.2.2.1, h.2.2.2.2.1, h.2.2.2.2.2.1, h.2.2.2.2.2.2.1, h.2.2.2.2.2.2.2.1, h.2.2.2.2.2.2.2.2.1, h.2.2.2.2.2.2.2.2.2.1, h.2.2.2.2.2.2.2.2.2.2.1, h.2.2.2.2.2.2.2.2.2.2.2.1, h.2.2.2.2.2.2.2.2.2.2.2.2.1, h.2.2.2.2.2.2.2.2.2.2.2.2.2.1, h.2.2.2.2.2.2.2.2.2.2.2.2.2.2.1, h.2.2.2.2.2.2.2.2.2.2.2.2.2.2.2.1, h.2.2.2.2.2.2.2.2.2.2.2.2.2.2.2.2.1, h.2.2.2.2.2.2.2.2.2.2.2.2.2.2.2.2.2.1, hx, h.2.2.2.2.2.2.2.2.2.2.2.2.2.2.2.2.2.2.2⟩
theorem Sh_l_nakBuf {W : Int32} {o : Ob} (h : Sh W o) : (f_nakBuf o).length = 128 := h.2.2.2.2.2.2.2.2.2.2.2.2.2.2.2.2.2.2.1
theorem Sh_back {W : Int32} {o : Ob} {x : Int32} (h : Sh W o) : Sh W (s_back o x) := by
  dsimp only [Sh, f_srcPayload, f_pend, f_queue, f_stats, f_state, f_timer, f_rxVal, f_rxNext, f_rxLead, f_rxTrail, f_lossLeft, f_dups, f_drops, f_delSeq, f_delVal, f_delLen, f_lostLog, f_lostLen, f_nakBuf, f_win, s_back] at h ⊢
  exact h
theorem Sh_repair {W : Int32} {o : Ob} {x : Int32} (h : Sh W o) : Sh W (s_repair o x) := by
  dsimp only [Sh, f_srcPayload, f_pend, f_queue, f_stats, f_state, f_timer, f_rxVal, f_rxNext, f_rxLead, f_rxTrail, f_lossLeft, f_dups, f_drops, f_delSeq, f_delVal, f_delLen, f_lostLog, f_lostLen, f_nakBuf, f_win, s_repair] at h ⊢
  exact h
theorem Sh_period {W : Int32} {o : Ob} {x : Int32} (h : Sh W o) : Sh W (s_period o x) := by
  dsimp only [Sh, f_srcPayload, f_pend, f_queue, f_stats, f_state, f_timer, f_rxVal, f_rxNext, f_rxLead, f_rxTrail, f_lossLeft, f_dups, f_drops, f_delSeq, f_delVal, f_delLen, f_lostLog, f_lostLen, f_nakBuf, f_win, s_period] at h ⊢
  exact h
theorem Sh_nextSeq {W : Int32} {o : Ob} {x : Int32} (h : Sh W o) : Sh W (s_nextSeq o x) := by
  dsimp only [Sh, f_srcPayload, f_pend, f_queue, f_stats, f_state, f_timer, f_rxVal, f_rxNext, f_rxLead, f_rxTrail, f_lossLeft, f_dups, f_drops, f_delSeq, f_delVal, f_delLen, f_lostLog, f_lostLen, f_nakBuf, f_win, s_nextSeq] at h ⊢
  exact h
theorem Sh_qLen {W : Int32} {o : Ob} {x : Int32} (h : Sh W o) : Sh W (s_qLen o x) := by
  dsimp only [Sh, f_srcPayload, f_pend, f_queue, f_stats, f_state, f_timer, f_rxVal, f_rxNext, f_rxLead, f_rxTrail, f_lossLeft, f_dups, f_drops, f_delSeq, f_delVal, f_delLen, f_lostLog, f_lostLen, f_nakBuf, f_win, s_qLen] at h ⊢
  exact h
theorem gs_srcPayload (o : Ob) (v : List Int32) : f_srcPayload (s_srcPayload o v) = v ∧ f_pend (s_srcPayload o v) = f_pend o ∧ f_queue (s_srcPayload o v) = f_queue o ∧ f_stats (s_srcPayload o v) = f_stats o ∧ f_state (s_srcPayload o v) = f_state o ∧ f_timer (s_srcPayload o v) = f_timer o ∧ f_rxVal (s_srcPayload o v) = f_rxVal o ∧ f_rxNext (s_srcPayload o v) = f_rxNext o ∧ f_rxLead (s_srcPayload o v) = f_rxLead o ∧ f_rxTrail (s_srcPayload o v) = f_rxTrail o ∧ f_lossLeft (s_srcPayload o v) = f_lossLeft o ∧ f_dups (s_srcPayload o v) = f_dups o ∧ f_drops (s_srcPayload o v) = f_drops o ∧ f_delSeq (s_srcPayload o v) = f_delSeq o ∧ f_delVal (s_srcPayload o v) = f_delVal o ∧ f_delLen (s_srcPayload o v) = f_delLen o ∧ f_lostLog (s_srcPayload o v) = f_lostLog o ∧ f_lostLen (s_srcPayload o v) = f_lostLen o ∧ f_nakBuf (s_srcPayload o v) = f_nakBuf o ∧ f_win (s_srcPayload o v) = f_win o ∧ f_back (s_srcPayload o v) = f_back o ∧ f_repair (s_srcPayload o v) = f_repair o ∧ f_period (s_srcPayload o v) = f_period o ∧ f_nextSeq (s_srcPayload o v) = f_nextSeq o ∧ f_qLen (s_srcPayload o v) = f_qLen o := by
  simp only [f_srcPayload, f_pend, f_queue, f_stats, f_state, f_timer, f_rxVal, f_rxNext, f_rxLead, f_rxTrail, f_lossLeft, f_dups, f_drops, f_delSeq, f_delVal, f_delLen, f_lostLog, f_lostLen, f_nakBuf, f_win, f_back, f_repair, f_period, f_nextSeq, f_qLen, s_srcPayload, and_self]
theorem gs_stats (o : Ob) (v : List Int32) : f_srcPayload (s_stats o v) = f_srcPayload o ∧ f_pend (s_stats o v) = f_pend o ∧ f_queue (s_stats o v) = f_queue o ∧ f_stats (s_stats o v) = v ∧ f_state (s_stats o v) = f_state o ∧ f_timer (s_stats o v) = f_timer o ∧ f_rxVal (s_stats o v) = f_rxVal o ∧ f_rxNext (s_stats o v) = f_rxNext o ∧ f_rxLead (s_stats o v) = f_rxLead o ∧ f_rxTrail (s_stats o v) = f_rxTrail o ∧ f_lossLeft (s_stats o v) = f_lossLeft o ∧ f_dups (s_stats o v) = f_dups o ∧ f_drops (s_stats o v) = f_drops o ∧ f_delSeq (s_stats o v) = f_delSeq o ∧ f_delVal (s_stats o v) = f_delVal o ∧ f_delLen (s_stats o v) = f_delLen o ∧ f_lostLog (s_stats o v) = f_lostLog o ∧ f_lostLen (s_stats o v) = f_lostLen o ∧ f_nakBuf (s_stats o v) = f_nakBuf o ∧ f_win (s_stats o v) = f_win o ∧ f_back (s_stats o v) = f_back o ∧ f_repair (s_stats o v) = f_repair o ∧ f_period (s_stats o v) = f_period o ∧ f_nextSeq (s_stats o v) = f_nextSeq o ∧ f_qLen (s_stats o v) = f_qLen o := by
  simp only [f_srcPayload, f_pend, f_queue, f_stats, f_state, f_timer, f_rxVal, f_rxNext, f_rxLead, f_rxTrail, f_lossLeft, f_dups, f_drops, f_delSeq, f_delVal, f_delLen, f_lostLog, f_lostLen, f_nakBuf, f_win, f_back, f_repair, f_period, f_nextSeq, f_qLen, s_stats, and_self]
theorem gs_state (o : Ob) (v : List Int32) : f_srcPayload (s_state o v) = f_srcPayload o ∧ f_pend (s_state o v) = f_pend o ∧ f_queue (s_state o v) = f_queue o ∧ f_stats (s_state o v) = f_stats o ∧ f_state (s_state o v) = v ∧ f_timer (s_state o v) = f_timer o ∧ f_rxVal (s_state o v) = f_rxVal o ∧ f_rxNext (s_state o v) = f_rxNext o ∧ f_rxLead (s_state o v) = f_rxLead o ∧ f_rxTrail (s_state o v) = f_rxTrail o ∧ f_lossLeft (s_state o v) = f_lossLeft o ∧ f_dups (s_state o v) = f_dups o ∧ f_drops (s_state o v) = f_drops o ∧ f_delSeq (s_state o v) = f_delSeq o ∧ f_delVal (s_state o v) = f_delVal o ∧ f_delLen (s_state o v) = f_delLen o ∧ f_lostLog (s_state o v) = f_lostLog o ∧ f_lostLen (s_state o v) = f_lostLen o ∧ f_nakBuf (s_state o v) = f_nakBuf o ∧ f_win (s_state o v) = f_win o ∧ f_back (s_state o v) = f_back o ∧ f_repair (s_state o v) = f_repair o ∧ f_period (s_state o v) = f_period o ∧ f_nextSeq (s_state o v) = f_nextSeq o ∧ f_qLen (s_state o v) = f_qLen o := by
  simp only [f_srcPayload, f_pend, f_queue, f_stats, f_state, f_timer, f_rxVal, f_rxNext, f_rxLead, f_rxTrail, f_lossLeft, f_dups, f_drops, f_delSeq, f_delVal, f_delLen, f_lostLog, f_lostLen, f_nakBuf, f_win, f_back, f_repair, f_period, f_nextSeq, f_qLen, s_state, and_self]
theorem gs_timer (o : Ob) (v : List Int32) : f_srcPayload (s_timer o v) = f_srcPayload o ∧ f_pend (s_timer o v) = f_pend o ∧ f_queue (s_timer o v) = f_queue o ∧ f_stats (s_timer o v) = f_stats o ∧ f_state (s_timer o v) = f_state o ∧ f_timer (s_timer o v) = v ∧ f_rxVal (s_timer o v) = f_rxVal o ∧ f_rxNext (s_timer o v) = f_rxNext o ∧ f_rxLead (s_timer o v) = f_rxLead o ∧ f_rxTrail (s_timer o v) = f_rxTrail o ∧ f_lossLeft (s_timer o v) = f_lossLeft o ∧ f_dups (s_timer o v) = f_dups o ∧ f_drops (s_timer o v) = f_drops o ∧ f_delSeq (s_timer o v) = f_delSeq o ∧ f_delVal (s_timer o v) = f_delVal o ∧ f_delLen (s_timer o v) = f_delLen o ∧ f_lostLog (s_timer o v) = f_lostLog o ∧ f_lostLen (s_timer o v) = f_lostLen o ∧ f_nakBuf (s_timer o v) = f_nakBuf o ∧ f_win (s_timer o v) = f_win o ∧ f_back (s_timer o v) = f_back o ∧ f_repair (s_timer o v) = f_repair o ∧ f_period (s_timer o v) = f_period o ∧ f_nextSeq (s_timer o v) = f_nextSeq o ∧ f_qLen (s_timer o v) = f_qLen o := by
  simp only [f_srcPayload, f_pend, f_queue, f_stats, f_state, f_timer, f_rxVal, f_rxNext, f_rxLead, f_rxTrail, f_lossLeft, f_dups, f_drops, f_delSeq, f_delVal, f_delLen, f_lostLog, f_lostLen, f_nakBuf, f_win, f_back, f_repair, f_period, f_nextSeq, f_qLen, s_timer, and_self]
theorem gs_rxVal (o : Ob) (v : List Int32) : f_srcPayload (s_rxVal o v) = f_srcPayload o ∧ f_pend (s_rxVal o v) = f_pend o ∧ f_queue (s_rxVal o v) = f_queue o ∧ f_stats (s_rxVal o v) = f_stats o ∧ f_state (s_rxVal o v) = f_state o ∧ f_timer (s_rxVal o v) = f_timer o ∧ f_rxVal (s_rxVal o v) = v ∧ f_rxNext (s_rxVal o v) = f_rxNext o ∧ f_rxLead (s_rxVal o v) = f_rxLead o ∧ f_rxTrail (s_rxVal o v) = f_rxTrail o ∧ f_lossLeft (s_rxVal o v) = f_lossLeft o ∧ f_dups (s_rxVal o v) = f_dups o ∧ f_drops (s_rxVal o v) = f_drops o ∧ f_delSeq (s_rxVal o v) = f_delSeq o ∧ f_delVal (s_rxVal o v) = f_delVal o ∧ f_delLen (s_rxVal o v) = f_delLen o ∧ f_lostLog (s_rxVal o v) = f_lostLog o ∧ f_lostLen (s_rxVal o v) = f_lostLen o ∧ f_nakBuf (s_rxVal o v) = f_nakBuf o ∧ f_win (s_rxVal o v) = f_win o ∧ f_back (s_rxVal o v) = f_back o ∧ f_repair (s_rxVal o v) = f_repair o ∧ f_period (s_rxVal o v) = f_period o ∧ f_nextSeq (s_rxVal o v) = f_nextSeq o ∧ f_qLen (s_rxVal o v) = f_qLen o := by
  simp only [f_srcPayload, f_pend, f_queue, f_stats, f_state, f_timer, f_rxVal, f_rxNext, f_rxLead, f_rxTrail, f_lossLeft, f_dups, f_drops, f_delSeq, f_delVal, f_delLen, f_lostLog, f_lostLen, f_nakBuf, f_win, f_back, f_repair, f_period, f_nextSeq, f_qLen, s_rxVal, and_self]
theorem gs_rxNext (o : Ob) (v : List Int32) : f_srcPayload (s_rxNext o v) = f_srcPayload o ∧ f_pend (s_rxNext o v) = f_pend o ∧ f_queue (s_rxNext o v) = f_queue o ∧ f_stats (s_rxNext o v) = f_stats o ∧ f_state (s_rxNext o v) = f_state o ∧ f_timer (s_rxNext o v) = f_timer o ∧ f_rxVal (s_rxNext o v) = f_rxVal o ∧ f_rxNext (s_rxNext o v) = v ∧ f_rxLead (s_rxNext o v) = f_rxLead o ∧ f_rxTrail (s_rxNext o v) = f_rxTrail o ∧ f_lossLeft (s_rxNext o v) = f_lossLeft o ∧ f_dups (s_rxNext o v) = f_dups o ∧ f_drops (s_rxNext o v) = f_drops o ∧ f_delSeq (s_rxNext o v) = f_delSeq o ∧ f_delVal (s_rxNext o v) = f_delVal o ∧ f_delLen (s_rxNext o v) = f_delLen o ∧ f_lostLog (s_rxNext o v) = f_lostLog o ∧ f_lostLen (s_rxNext o v) = f_lostLen o ∧ f_nakBuf (s_rxNext o v) = f_nakBuf o ∧ f_win (s_rxNext o v) = f_win o ∧ f_back (s_rxNext o v) = f_back o ∧ f_repair (s_rxNext o v) = f_repair o ∧ f_period (s_rxNext o v) = f_period o ∧ f_nextSeq (s_rxNext o v) = f_nextSeq o ∧ f_qLen (s_rxNext o v) = f_qLen o := by
  simp only [f_srcPayload, f_pend, f_queue, f_stats, f_state, f_timer, f_rxVal, f_rxNext, f_rxLead, f_rxTrail, f_lossLeft, f_dups, f_drops, f_delSeq, f_delVal, f_delLen, f_lostLog, f_lostLen, f_nakBuf, f_win, f_back, f_repair, f_period, f_nextSeq, f_qLen, s_rxNext, and_self]
theorem gs_rxLead (o : Ob) (v : List Int32) : f_srcPayload (s_rxLead o v) = f_srcPayload o ∧ f_pend (s_rxLead o v) = f_pend o ∧ f_queue (s_rxLead o v) = f_queue o ∧ f_stats (s_rxLead o v) = f_stats o ∧ f_state (s_rxLead o v) = f_state o ∧ f_timer (s_rxLead o v) = f_timer o ∧ f_rxVal (s_rxLead o v) = f_rxVal o ∧ f_rxNext (s_rxLead o v) = f_rxNext o ∧ f_rxLead (s_rxLead o v) = v ∧ f_rxTrail (s_rxLead o v) = f_rxTrail o ∧ f_lossLeft (s_rxLead o v) = f_lossLeft o ∧ f_dups (s_rxLead o v) = f_dups o ∧ f_drops (s_rxLead o v) = f_drops o ∧ f_delSeq (s_rxLead o v) = f_delSeq o ∧ f_delVal (s_rxLead o v) = f_delVal o ∧ f_delLen (s_rxLead o v) = f_delLen o ∧ f_lostLog (s_rxLead o v) = f_lostLog o ∧ f_lostLen (s_rxLead o v) = f_lostLen o ∧ f_nakBuf (s_rxLead o v) = f_nakBuf o ∧ f_win (s_rxLead o v) = f_win o ∧ f_back (s_rxLead o v) = f_back o ∧ f_repair (s_rxLead o v) = f_repair o ∧ f_period (s_rxLead o v) = f_period o ∧ f_nextSeq (s_rxLead o v) = f_nextSeq o ∧ f_qLen (s_rxLead o v) = f_qLen o := by
  simp only [f_srcPayload, f_pend, f_queue, f_stats, f_state, f_timer, f_rxVal, f_rxNext, f_rxLead, f_rxTrail, f_lossLeft, f_dups, f_drops, f_delSeq, f_delVal, f_delLen, f_lostLog, f_lostLen, f_nakBuf, f_win, f_back, f_repair, f_period, f_nextSeq, f_qLen, s_rxLead, and_self]
theorem gs_lossLeft (o : Ob) (v : List Int32) : f_srcPayload (s_lossLeft o v) = f_srcPayload o ∧ f_pend (s_lossLeft o v) = f_pend o ∧ f_queue (s_lossLeft o v) = f_queue o ∧ f_stats (s_lossLeft o v) = f_stats o ∧ f_state (s_lossLeft o v) = f_state o ∧ f_timer (s_lossLeft o v) = f_timer o ∧ f_rxVal (s_lossLeft o v) = f_rxVal o ∧ f_rxNext (s_lossLeft o v) = f_rxNext o ∧ f_rxLead (s_lossLeft o v) = f_rxLead o ∧ f_rxTrail (s_lossLeft o v) = f_rxTrail o ∧ f_lossLeft (s_lossLeft o v) = v ∧ f_dups (s_lossLeft o v) = f_dups o ∧ f_drops (s_lossLeft o v) = f_drops o ∧ f_delSeq (s_lossLeft o v) = f_delSeq o ∧ f_delVal (s_lossLeft o v) = f_delVal o ∧ f_delLen (s_lossLeft o v) = f_delLen o ∧ f_lostLog (s_lossLeft o v) = f_lostLog o ∧ f_lostLen (s_lossLeft o v) = f_lostLen o ∧ f_nakBuf (s_lossLeft o v) = f_nakBuf o ∧ f_win (s_lossLeft o v) = f_win o ∧ f_back (s_lossLeft o v) = f_back o ∧ f_repair (s_lossLeft o v) = f_repair o ∧ f_period (s_lossLeft o v) = f_period o ∧ f_nextSeq (s_lossLeft o v) = f_nextSeq o ∧ f_qLen (s_lossLeft o v) = f_qLen o := by
  simp only [f_srcPayload, f_pend, f_queue, f_stats, f_state, f_timer, f_rxVal, f_rxNext, f_rxLead, f_rxTrail, f_lossLeft, f_dups, f_drops, f_delSeq, f_delVal, f_delLen, f_lostLog, f_lostLen, f_nakBuf, f_win, f_back, f_repair, f_period, f_nextSeq, f_qLen, s_lossLeft, and_self]
theorem gs_drops (o : Ob) (v : List Int32) : f_srcPayload (s_drops o v) = f_srcPayload o ∧ f_pend (s_drops o v) = f_pend o ∧ f_queue (s_drops o v) = f_queue o ∧ f_stats (s_drops o v) = f_stats o ∧ f_state (s_drops o v) = f_state o ∧ f_timer (s_drops o v) = f_timer o ∧ f_rxVal (s_drops o v) = f_rxVal o ∧ f_rxNext (s_drops o v) = f_rxNext o ∧ f_rxLead (s_drops o v) = f_rxLead o ∧ f_rxTrail (s_drops o v) = f_rxTrail o ∧ f_lossLeft (s_drops o v) = f_lossLeft o ∧ f_dups (s_drops o v) = f_dups o ∧ f_drops (s_drops o v) = v ∧ f_delSeq (s_drops o v) = f_delSeq o ∧ f_delVal (s_drops o v) = f_delVal o ∧ f_delLen (s_drops o v) = f_delLen o ∧ f_lostLog (s_drops o v) = f_lostLog o ∧ f_lostLen (s_drops o v) = f_lostLen o ∧ f_nakBuf (s_drops o v) = f_nakBuf o ∧ f_win (s_drops o v) = f_win o ∧ f_back (s_drops o v) = f_back o ∧ f_repair (s_drops o v) = f_repair o ∧ f_period (s_drops o v) = f_period o ∧ f_nextSeq (s_drops o v) = f_nextSeq o ∧ f_qLen (s_drops o v) = f_qLen o := by
  simp only [f_srcPayload, f_pend, f_queue, f_stats, f_state, f_timer, f_rxVal, f_rxNext, f_rxLead, f_rxTrail, f_lossLeft, f_dups, f_drops, f_delSeq, f_delVal, f_delLen, f_lostLog, f_lostLen, f_nakBuf, f_win, f_back, f_repair, f_period, f_nextSeq, f_qLen, s_drops, and_self]
theorem gs_delSeq (o : Ob) (v : List Int32) : f_srcPayload (s_delSeq o v) = f_srcPayload o ∧ f_pend (s_delSeq o v) = f_pend o ∧ f_queue (s_delSeq o v) = f_queue o ∧ f_stats (s_delSeq o v) = f_stats o ∧ f_state (s_delSeq o v) = f_state o ∧ f_timer (s_delSeq o v) = f_timer o ∧ f_rxVal (s_delSeq o v) = f_rxVal o ∧ f_rxNext (s_delSeq o v) = f_rxNext o ∧ f_rxLead (s_delSeq o v) = f_rxLead o ∧ f_rxTrail (s_delSeq o v) = f_rxTrail o ∧ f_lossLeft (s_delSeq o v) = f_lossLeft o ∧ f_dups (s_delSeq o v) = f_dups o ∧ f_drops (s_delSeq o v) = f_drops o ∧ f_delSeq (s_delSeq o v) = v ∧ f_delVal (s_delSeq o v) = f_delVal o ∧ f_delLen (s_delSeq o v) = f_delLen o ∧ f_lostLog (s_delSeq o v) = f_lostLog o ∧ f_lostLen (s_delSeq o v) = f_lostLen o ∧ f_nakBuf (s_delSeq o v) = f_nakBuf o ∧ f_win (s_delSeq o v) = f_win o ∧ f_back (s_delSeq o v) = f_back o ∧ f_repair (s_delSeq o v) = f_repair o ∧ f_period (s_delSeq o v) = f_period o ∧ f_nextSeq (s_delSeq o v) = f_nextSeq o ∧ f_qLen (s_delSeq o v) = f_qLen o := by
  simp only [f_srcPayload, f_pend, f_queue, f_stats, f_state, f_timer, f_rxVal, f_rxNext, f_rxLead, f_rxTrail, f_lossLeft, f_dups, f_drops, f_delSeq, f_delVal, f_delLen, f_lostLog, f_lostLen, f_nakBuf, f_win, f_back, f_repair, f_period, f_nextSeq, f_qLen, s_delSeq, and_self]
theorem gs_delVal (o : Ob) (v : List Int32) : f_srcPayload (s_delVal o v) = f_srcPayload o ∧ f_pend (s_delVal o v) = f_pend o ∧ f_queue (s_delVal o v) = f_queue o ∧ f_stats (s_delVal o v) = f_stats o ∧ f_state (s_delVal o v) = f_state o ∧ f_timer (s_delVal o v) = f_timer o ∧ f_rxVal (s_delVal o v) = f_rxVal o ∧ f_rxNext (s_delVal o v) = f_rxNext o ∧ f_rxLead (s_delVal o v) = f_rxLead o ∧ f_rxTrail (s_delVal o v) = f_rxTrail o ∧ f_lossLeft (s_delVal o v) = f_lossLeft o ∧ f_dups (s_delVal o v) = f_dups o ∧ f_drops (s_delVal o v) = f_drops o ∧ f_delSeq (s_delVal o v) = f_delSeq o ∧ f_delVal (s_delVal o v) = v ∧ f_delLen (s_delVal o v) = f_delLen o ∧ f_lostLog (s_delVal o v) = f_lostLog o ∧ f_lostLen (s_delVal o v) = f_lostLen o ∧ f_nakBuf (s_delVal o v) = f_nakBuf o ∧ f_win (s_delVal o v) = f_win o ∧ f_back (s_delVal o v) = f_back o ∧ f_repair (s_delVal o v) = f_repair o ∧ f_period (s_delVal o v) = f_period o ∧ f_nextSeq (s_delVal o v) = f_nextSeq o ∧ f_qLen (s_delVal o v) = f_qLen o := by
  simp only [f_srcPayload, f_pend, f_queue, f_stats, f_state, f_timer, f_rxVal, f_rxNext, f_rxLead, f_rxTrail, f_lossLeft, f_dups, f_drops, f_delSeq, f_delVal, f_delLen, f_lostLog, f_lostLen, f_nakBuf, f_win, f_back, f_repair, f_period, f_nextSeq, f_qLen, s_delVal, and_self]
theorem gs_delLen (o : Ob) (v : List Int32) : f_srcPayload (s_delLen o v) = f_srcPayload o ∧ f_pend (s_delLen o v) = f_pend o ∧ f_queue (s_delLen o v) = f_queue o ∧ f_stats (s_delLen o v) = f_stats o ∧ f_state (s_delLen o v) = f_state o ∧ f_timer (s_delLen o v) = f_timer o ∧ f_rxVal (s_delLen o v) = f_rxVal o ∧ f_rxNext (s_delLen o v) = f_rxNext o ∧ f_rxLead (s_delLen o v) = f_rxLead o ∧ f_rxTrail (s_delLen o v) = f_rxTrail o ∧ f_lossLeft (s_delLen o v) = f_lossLeft o ∧ f_dups (s_delLen o v) = f_dups o ∧ f_drops (s_delLen o v) = f_drops o ∧ f_delSeq (s_delLen o v) = f_delSeq o ∧ f_delVal (s_delLen o v) = f_delVal o ∧ f_delLen (s_delLen o v) = v ∧ f_lostLog (s_delLen o v) = f_lostLog o ∧ f_lostLen (s_delLen o v) = f_lostLen o ∧ f_nakBuf (s_delLen o v) = f_nakBuf o ∧ f_win (s_delLen o v) = f_win o ∧ f_back (s_delLen o v) = f_back o ∧ f_repair (s_delLen o v) = f_repair o ∧ f_period (s_delLen o v) = f_period o ∧ f_nextSeq (s_delLen o v) = f_nextSeq o ∧ f_qLen (s_delLen o v) = f_qLen o := by
  simp only [f_srcPayload, f_pend, f_queue, f_stats, f_state, f_timer, f_rxVal, f_rxNext, f_rxLead, f_rxTrail, f_lossLeft, f_dups, f_drops, f_delSeq, f_delVal, f_delLen, f_lostLog, f_lostLen, f_nakBuf, f_win, f_back, f_repair, f_period, f_nextSeq, f_qLen, s_delLen, and_self]
theorem gs_nextSeq (o : Ob) (v : Int32) : f_srcPayload (s_nextSeq o v) = f_srcPayload o ∧ f_pend (s_nextSeq o v) = f_pend o ∧ f_queue (s_nextSeq o v) = f_queue o ∧ f_stats (s_nextSeq o v) = f_stats o ∧ f_state (s_nextSeq o v) = f_state o ∧ f_timer (s_nextSeq o v) = f_timer o ∧ f_rxVal (s_nextSeq o v) = f_rxVal o ∧ f_rxNext (s_nextSeq o v) = f_rxNext o ∧ f_rxLead (s_nextSeq o v) = f_rxLead o ∧ f_rxTrail (s_nextSeq o v) = f_rxTrail o ∧ f_lossLeft (s_nextSeq o v) = f_lossLeft o ∧ f_dups (s_nextSeq o v) = f_dups o ∧ f_drops (s_nextSeq o v) = f_drops o ∧ f_delSeq (s_nextSeq o v) = f_delSeq o ∧ f_delVal (s_nextSeq o v) = f_delVal o ∧ f_delLen (s_nextSeq o v) = f_delLen o ∧ f_lostLog (s_nextSeq o v) = f_lostLog o ∧ f_lostLen (s_nextSeq o v) = f_lostLen o ∧ f_nakBuf (s_nextSeq o v) = f_nakBuf o ∧ f_win (s_nextSeq o v) = f_win o ∧ f_back (s_nextSeq o v) = f_back o ∧ f_repair (s_nextSeq o v) = f_repair o ∧ f_period (s_nextSeq o v) = f_period o ∧ f_nextSeq (s_nextSeq o v) = v ∧ f_qLen (s_nextSeq o v) = f_qLen o := by
  simp only [f_srcPayload, f_pend, f_queue, f_stats, f_state, f_timer, f_rxVal, f_rxNext, f_rxLead, f_rxTrail, f_lossLeft, f_dups, f_drops, f_delSeq, f_delVal, f_delLen, f_lostLog, f_lostLen, f_nakBuf, f_win, f_back, f_repair, f_period, f_nextSeq, f_qLen, s_nextSeq, and_self]
theorem inc1 {x : Int32} (h : x.toInt < 2147483647) : (x + 1).toInt = x.toInt + 1 := by
  have := i_lo x
  have e1 : (1 : Int32).toInt = 1 := rfl
  rw [i_add (by omega) (by omega), e1]
def gd (l : List Int32) (k : Nat) : Int := (l.getD k 0).toInt
theorem gd_set {l : List Int32} {i k : Nat} {v : Int32} (hi : i < l.length) : gd (l.set i v) k = if i = k then v.toInt else gd l k := by
  unfold gd
  rw [List.getD_eq_getElem?_getD, List.getD_eq_getElem?_getD, List.getElem?_set]
  by_cases h : i = k
  · rw [if_pos h, if_pos h, if_pos hi]; rfl
  · rw [if_neg h, if_neg h]
theorem gd_rep (n k : Nat) : gd (List.replicate n 0) k = 0 := by
  unfold gd
  rw [List.getD_eq_getElem?_getD, List.getElem?_replicate]
  split <;> rfl
theorem okP_agd {l : List Int32} {j : Int32} {n : Nat} {P : Int32 → Prop} (hj : j.toInt = n) (hn : n < l.length) (k : ∀ w : Int32, w.toInt = gd l n → P w) : okP (aget l j) P := by
  refine ⟨_, aget_at hj hn, k _ ?_⟩
  unfold gd
  rw [List.getD_eq_getElem?_getD, List.getElem?_eq_getElem hn]; rfl
theorem okP_asn {α : Type} {xs : List α} {j : Int32} {n : Nat} {v : α} {P : List α → Prop} (hj : j.toInt = n) (hn : n < xs.length) (k : P (xs.set n v)) : okP (aset xs j v) P := ⟨_, aset_at hj hn, k⟩
theorem r32 {r : Int32} {n : Nat} (h : r.toInt = n) (h4 : n < 4) {k : Int32} {m : Nat} (hk : k.toInt = m) (hm : m < 32) : (r * 32 + k).toInt = ((n * 32 + m : Nat) : Int) := by
  have e : (r * 32).toInt = r.toInt * 32 := i_mul (x := r) (y := 32) (by show _ ≤ r.toInt * 32; omega) (by show r.toInt * 32 < _; omega)
  rw [i_add (by omega) (by omega), e]
  omega
theorem lead_ok {W : Int32} {p : Ob} (S : Sh W p) {r : Int32} {n : Nat} (hr : r.toInt = n) (h4 : n < 4) (hl : gd (f_rxLead p) n = -1) (hs : gd (f_state p) (n * 32) ≠ 0) : okP (F11 p r 0) (fun q => q = s_rxLead p ((f_rxLead p).set n 0)) := by
  have l1 := Sh_l_rxLead S
  have l2 := Sh_l_state S
  have z0 : (0 : Int32).toInt = 0 := rfl
  unfold F11
  apply okP.bind
  refine okP_agd hr (by omega) (fun w hw => ?_)
  have w1 : w = -1 := by rw [i_eq, hw, hl]; rfl
  subst w1
  have e0 : (if (-1 : Int32) + 1 < 0 then (0 : Int32) else -1 + 1) = 0 := by decide
  rw [e0]
  have lp : loopN (B11_18 p r 0) qN 0 = some (Sum.inr ()) := by
    show loopN (B11_18 p r 0) (3998 + 1 + 1) 0 = _
    have b1 : B11_18 p r 0 0 = some (.inr 1) := by
      unfold B11_18
      obtain ⟨y, hy, q⟩ : okP (aget (f_state p) (r * 32 + 0)) (fun y => y.toInt = gd (f_state p) (n * 32 + 0)) := okP_agd (r32 hr h4 (m := 0) rfl (by decide)) (by omega) (fun _ q => q)
      rw [if_neg (by decide), if_pos (by decide), hy]
      simp only [Option.bind_some]
      rw [if_neg (by intro e; rw [e] at q; exact hs (show gd (f_state p) (n * 32 + 0) = 0 from by rw [← q]; rfl))]
      rfl
    have b2 : B11_18 p r 0 1 = some (.inl (Sum.inr ())) := by
      unfold B11_18
      rw [if_pos (by decide)]
    simp only [loopN, b1, b2]
  rw [lp]
  simp only [Option.bind_some]
  unfold J11_76
  apply okP.bind
  refine okP_agd hr (by omega) (fun w hw => ?_)
  rw [if_pos (by rw [i_lt, hw, hl]; decide)]
  apply okP.bind
  refine okP_asn hr (by omega) ?_
  exact okP.some rfl
theorem trail_ok {W : Int32} {p : Ob} (S : Sh W p) {r : Int32} {n : Nat} (hr : r.toInt = n) (h4 : n < 4) (hl : gd (f_rxTrail p) n = 0) : F12 p r 0 = some p := by
  have l1 := Sh_l_rxTrail S
  have : okP (F12 p r 0) (fun q => q = p) := by
    unfold F12
    apply okP.bind
    refine okP_agd hr (by omega) (fun w hw => ?_)
    rw [if_neg (by rw [i_lt, hw, hl]; decide)]
    exact okP.some rfl
  obtain ⟨_, e, rfl⟩ := this
  exact e
theorem deliver_ok {W : Int32} {p : Ob} (S : Sh W p) {r : Int32} {n : Nat} (hr : r.toInt = n) (h4 : n < 4) (hn : gd (f_rxNext p) n = 0) (hs : gd (f_state p) (n * 32) = 4) (hs1 : gd (f_state p) (n * 32 + 1) = 0) (hd : gd (f_delLen p) n = 0) : okP (F13 p r) (fun q => ∃ w u : Int32, w.toInt = gd (f_rxVal p) (n * 32) ∧ u.toInt = 1 ∧ q = s_rxNext (s_state (s_delLen (s_delVal (s_delSeq p ((f_delSeq p).set (n * 32) 0)) ((f_delVal p).set (n * 32) w)) ((f_delLen p).set n u)) ((f_state p).set (n * 32) 5)) ((f_rxNext p).set n 1)) := by
  have l1 := Sh_l_rxNext S
  have l2 := Sh_l_state S
  have l3 := Sh_l_delLen S
  have l4 := Sh_l_delSeq S
  have l5 := Sh_l_delVal S
  have l6 := Sh_l_rxVal S
  have z0 : (0 : Int32).toInt = 0 := rfl
  have z1 : (1 : Int32).toInt = 1 := rfl
  have z5 : (5 : Int32).toInt = 5 := rfl
  unfold F13
  apply okP.bind
  refine okP_agd hr (by omega) (fun w hw => ?_)
  have w0 : w = 0 := by rw [i_eq, hw, hn]; rfl
  subst w0
  have i0 := r32 hr h4 (k := 0) (m := 0) rfl (by decide)
  have i1 := r32 hr h4 (k := 1) (m := 1) rfl (by decide)
  have first : okP (B13_7 r (0, p)) (fun x => ∃ w u : Int32, w.toInt = gd (f_rxVal p) (n * 32) ∧ u.toInt = 1 ∧ x = Sum.inr (1, s_rxNext (s_state (s_delLen (s_delVal (s_delSeq p ((f_delSeq p).set (n * 32) 0)) ((f_delVal p).set (n * 32) w)) ((f_delLen p).set n u)) ((f_state p).set (n * 32) 5)) ((f_rxNext p).set n 1))) := by
    unfold B13_7
    simp only
    rw [if_neg (by decide), if_pos (by decide)]
    apply okP.bind
    refine okP_agd i0 (by omega) (fun w hw => ?_)
    have w4 : w = 4 := by rw [i_eq, hw]; exact hs
    subst w4
    rw [if_pos rfl]
    unfold J13_48
    rw [if_pos rfl]
    apply okP.bind
    refine okP_agd i0 (by omega) (fun w hw => ?_)
    unfold F14
    apply okP.bind
    apply okP.bind
    refine okP_agd hr (by omega) (fun d hdd => ?_)
    have d0 : d = 0 := by rw [i_eq, hdd, hd]; rfl
    subst d0
    rw [if_pos (by decide)]
    apply okP.bind
    refine okP_agd hr (by omega) (fun d hdd => ?_)
    have d0 : d = 0 := by rw [i_eq, hdd, hd]; rfl
    subst d0
    apply okP.bind
    refine okP_asn i0 (by omega) ?_
    apply okP.bind
    refine okP_asn i0 (by omega) ?_
    apply okP.bind
    refine okP_agd hr (by omega) (fun d hdd => ?_)
    have d0 : d = 0 := by rw [i_eq, hdd, hd]; rfl
    subst d0
    apply okP.bind
    refine okP_asn hr (by omega) ?_
    apply okP.some
    simp only [gs_srcPayload, gs_nextSeq, gs_stats, gs_state, gs_timer, gs_rxVal, gs_rxNext, gs_rxLead, gs_lossLeft, gs_drops, gs_delSeq, gs_delVal, gs_delLen]
    apply okP.bind
    refine okP_asn i0 (by omega) ?_
    unfold J13_73
    simp only [gs_srcPayload, gs_nextSeq, gs_stats, gs_state, gs_timer, gs_rxVal, gs_rxNext, gs_rxLead, gs_lossLeft, gs_drops, gs_delSeq, gs_delVal, gs_delLen]
    apply okP.bind
    refine okP_asn hr (by omega) ?_
    apply okP.some
    exact ⟨w, 0 + 1, hw, rfl, rfl⟩
  obtain ⟨_, b1, w, u, hw, hu, rfl⟩ := first
  obtain ⟨q, hq⟩ : ∃ q, q = s_rxNext (s_state (s_delLen (s_delVal (s_delSeq p ((f_delSeq p).set (n * 32) 0)) ((f_delVal p).set (n * 32) w)) ((f_delLen p).set n u)) ((f_state p).set (n * 32) 5)) ((f_rxNext p).set n 1) := ⟨_, rfl⟩
  rw [← hq] at b1
  have fs : f_state q = (f_state p).set (n * 32) 5 := by rw [hq]; simp only [gs_srcPayload, gs_nextSeq, gs_stats, gs_state, gs_timer, gs_rxVal, gs_rxNext, gs_rxLead, gs_lossLeft, gs_drops, gs_delSeq, gs_delVal, gs_delLen]
  have b2 : B13_7 r (1, q) = some (.inl q) := by
    unfold B13_7
    simp only
    rw [if_neg (by decide), if_pos (by decide), fs]
    obtain ⟨y, hy, g⟩ : okP (aget ((f_state p).set (n * 32) 5) (r * 32 + 1)) (fun y => y.toInt = gd ((f_state p).set (n * 32) 5) (n * 32 + 1)) := okP_agd i1 (by rw [List.length_set]; omega) (fun _ q => q)
    rw [gd_set (by omega), if_neg (by omega), hs1] at g
    rw [hy]
    simp only [Option.bind_some]
    rw [if_neg (by intro e; rw [e] at g; revert g; decide), if_neg (by intro e; rw [e] at g; revert g; decide)]
  have lp : loopN (B13_7 r) qN (0, p) = some q := by
    show loopN (B13_7 r) (3998 + 1 + 1) (0, p) = _
    simp only [loopN, b1, b2]
  rw [lp]
  exact okP.some ⟨w, u, hw, hu, hq⟩
/-- what is known of a receiver before and behind its copy -/
def Fr (p : Ob) (n : Nat) (k : Int) : Prop := gd (f_state p) (n * 32) = 0 ∧ gd (f_state p) (n * 32 + 1) = 0 ∧ gd (f_rxLead p) n = -1 ∧ gd (f_rxTrail p) n = 0 ∧ gd (f_rxNext p) n = 0 ∧ gd (f_delLen p) n = 0 ∧ gd (f_lossLeft p) n = k ∧ gd (f_drops p) n = 0
def Dn (p : Ob) (n : Nat) (k : Int) (v : Int32) : Prop := (0 < k → gd (f_rxNext p) n = 0 ∧ gd (f_lossLeft p) n = k - 1 ∧ gd (f_drops p) n = 1) ∧ (k = 0 → gd (f_rxNext p) n = 1 ∧ gd (f_lossLeft p) n = 0 ∧ gd (f_drops p) n = 0 ∧ gd (f_delLen p) n = 1 ∧ gd (f_delVal p) (n * 32) = v.toInt)
def cnt (L : Nat → Int) : Nat → Int
  | 0 => 0
  | n + 1 => cnt L n + (if 0 < L n then 1 else 0)
theorem copy_ok {W : Int32} {p : Ob} (S : Sh W p) {r v : Int32} {n : Nat} (hr : r.toInt = n) (h4 : n < 4) (L : Nat → Int) (hL : ∀ m, 0 ≤ L m ∧ L m ≤ 255) (hF : ∀ m, n ≤ m → m < 4 → Fr p m (L m)) (hD : ∀ m, m < n → Dn p m (L m) v) (h9 : gd (f_stats p) 9 = cnt L n) (hc : 0 ≤ cnt L n ∧ cnt L n ≤ 4) : okP (F8 p r 0 0 v 0 0) (fun q => Sh W q ∧ f_nextSeq q = f_nextSeq p ∧ gd (f_stats q) 1 = gd (f_stats p) 1 ∧ (∀ m, n + 1 ≤ m → m < 4 → Fr q m (L m)) ∧ (∀ m, m < n + 1 → Dn q m (L m) v) ∧ gd (f_stats q) 9 = cnt L (n + 1)) := by
  have l1 := Sh_l_rxNext S
  have l2 := Sh_l_state S
  have l3 := Sh_l_delLen S
  have l4 := Sh_l_delSeq S
  have l5 := Sh_l_delVal S
  have l6 := Sh_l_rxVal S
  have l7 := Sh_l_lossLeft S
  have l8 := Sh_l_drops S
  have l9 := Sh_l_stats S
  have l10 := Sh_l_timer S
  have l11 := Sh_l_rxLead S
  have z0 : (0 : Int32).toInt = 0 := rfl
  have z1 : (1 : Int32).toInt = 1 := rfl
  obtain ⟨f1, f2, f3, f4, f5, f6, f7, f8⟩ := hF n (Nat.le_refl _) h4
  have Ln := hL n
  unfold F8
  apply okP.bind
  refine okP_agd hr (by omega) (fun w hw => ?_)
  rw [f7] at hw
  apply okP.ite
  · intro c
    rw [i_lt, z0, hw] at c
    apply okP.bind
    refine okP_agd hr (by omega) (fun w hw => ?_)
    rw [f7] at hw
    apply okP.bind
    refine okP_asn hr (by omega) ?_
    apply okP.bind
    refine okP_agd hr (by omega) (fun d hd => ?_)
    rw [f8] at hd
    apply okP.bind
    refine okP_asn hr (by omega) ?_
    apply okP.bind
    refine okP_agd (n := 9) rfl (by omega) (fun t ht => ?_)
    rw [h9] at ht
    apply okP.bind
    refine okP_asn (n := 9) rfl (by omega) ?_
    apply okP.some
    have ew : (w - 1).toInt = w.toInt - 1 := by rw [i_sub (by omega) (by omega), z1]
    have ed : (d + 1).toInt = d.toInt + 1 := inc1 (by omega)
    have et : (t + 1).toInt = t.toInt + 1 := inc1 (by omega)
    refine ⟨?_, ?_, ?_, ?_, ?_, ?_⟩
    · exact Sh_stats (Sh_drops (Sh_lossLeft S (by rw [List.length_set]; exact l7)) (by rw [List.length_set]; exact l8)) (by rw [List.length_set]; exact l9)
    · simp only [gs_srcPayload, gs_nextSeq, gs_stats, gs_state, gs_timer, gs_rxVal, gs_rxNext, gs_rxLead, gs_lossLeft, gs_drops, gs_delSeq, gs_delVal, gs_delLen]
    · simp only [gs_srcPayload, gs_nextSeq, gs_stats, gs_state, gs_timer, gs_rxVal, gs_rxNext, gs_rxLead, gs_lossLeft, gs_drops, gs_delSeq, gs_delVal, gs_delLen]
      rw [gd_set (by omega), if_neg (by decide)]
    · intro m m1 m2
      have t := hF m (by omega) m2
      unfold Fr at t ⊢
      simp only [gs_srcPayload, gs_nextSeq, gs_stats, gs_state, gs_timer, gs_rxVal, gs_rxNext, gs_rxLead, gs_lossLeft, gs_drops, gs_delSeq, gs_delVal, gs_delLen]
      rw [gd_set (by omega), gd_set (by omega), if_neg (by omega), if_neg (by omega)]
      exact t
    · intro m m1
      unfold Dn
      simp only [gs_srcPayload, gs_nextSeq, gs_stats, gs_state, gs_timer, gs_rxVal, gs_rxNext, gs_rxLead, gs_lossLeft, gs_drops, gs_delSeq, gs_delVal, gs_delLen]
      rw [gd_set (by omega), gd_set (by omega)]
      by_cases e : n = m
      · subst e
        rw [if_pos rfl, if_pos rfl]
        exact ⟨fun _ => ⟨f5, by omega, by omega⟩, fun q => by omega⟩
      · rw [if_neg e, if_neg e]
        exact hD m (by omega)
    · simp only [gs_srcPayload, gs_nextSeq, gs_stats, gs_state, gs_timer, gs_rxVal, gs_rxNext, gs_rxLead, gs_lossLeft, gs_drops, gs_delSeq, gs_delVal, gs_delLen]
      rw [gd_set (by omega), if_pos rfl, cnt, if_pos c]
      omega
  · intro c
    rw [i_lt, z0, hw] at c
    have k0 : L n = 0 := by omega
    rw [if_pos rfl]
    unfold J8_50 F9
    have vs : F10 0 = some 1 := rfl
    rw [vs]
    simp only [Option.bind_some]
    rw [if_neg (by decide)]
    have i0 := r32 hr h4 (k := 0) (m := 0) rfl (by decide)
    apply okP.bind
    apply okP.bind
    refine okP_agd i0 (by omega) (fun y hy => ?_)
    have y0 : y = 0 := by rw [i_eq, hy]; exact f1
    rw [if_pos y0]
    apply okP.bind
    refine okP_asn i0 (by omega) ?_
    apply okP.bind
    refine okP_asn i0 (by omega) ?_
    apply okP.bind
    refine okP_asn i0 (by omega) ?_
    unfold J9_76
    have S1 : Sh W (s_timer (s_rxVal (s_state p ((f_state p).set (n * 32 + 0) 4)) ((f_rxVal p).set (n * 32 + 0) v)) ((f_timer p).set (n * 32 + 0) 0)) := Sh_timer (Sh_rxVal (Sh_state S (by rw [List.length_set]; exact l2)) (by rw [List.length_set]; exact l6)) (by rw [List.length_set]; exact l10)
    obtain ⟨p1, hp1⟩ : ∃ q, q = s_timer (s_rxVal (s_state p ((f_state p).set (n * 32 + 0) 4)) ((f_rxVal p).set (n * 32 + 0) v)) ((f_timer p).set (n * 32 + 0) 0) := ⟨_, rfl⟩
    rw [← hp1] at S1 ⊢
    have g1 : f_state p1 = (f_state p).set (n * 32 + 0) 4 := by rw [hp1]; simp only [gs_srcPayload, gs_nextSeq, gs_stats, gs_state, gs_timer, gs_rxVal, gs_rxNext, gs_rxLead, gs_lossLeft, gs_drops, gs_delSeq, gs_delVal, gs_delLen]
    have g2 : f_rxLead p1 = f_rxLead p := by rw [hp1]; simp only [gs_srcPayload, gs_nextSeq, gs_stats, gs_state, gs_timer, gs_rxVal, gs_rxNext, gs_rxLead, gs_lossLeft, gs_drops, gs_delSeq, gs_delVal, gs_delLen]
    have g3 : f_rxTrail p1 = f_rxTrail p := by rw [hp1]; simp only [gs_srcPayload, gs_nextSeq, gs_stats, gs_state, gs_timer, gs_rxVal, gs_rxNext, gs_rxLead, gs_lossLeft, gs_drops, gs_delSeq, gs_delVal, gs_delLen]
    have g4 : f_rxNext p1 = f_rxNext p := by rw [hp1]; simp only [gs_srcPayload, gs_nextSeq, gs_stats, gs_state, gs_timer, gs_rxVal, gs_rxNext, gs_rxLead, gs_lossLeft, gs_drops, gs_delSeq, gs_delVal, gs_delLen]
    have g5 : f_delLen p1 = f_delLen p := by rw [hp1]; simp only [gs_srcPayload, gs_nextSeq, gs_stats, gs_state, gs_timer, gs_rxVal, gs_rxNext, gs_rxLead, gs_lossLeft, gs_drops, gs_delSeq, gs_delVal, gs_delLen]
    have g6 : f_rxVal p1 = (f_rxVal p).set (n * 32 + 0) v := by rw [hp1]; simp only [gs_srcPayload, gs_nextSeq, gs_stats, gs_state, gs_timer, gs_rxVal, gs_rxNext, gs_rxLead, gs_lossLeft, gs_drops, gs_delSeq, gs_delVal, gs_delLen]
    have g7 : f_lossLeft p1 = f_lossLeft p := by rw [hp1]; simp only [gs_srcPayload, gs_nextSeq, gs_stats, gs_state, gs_timer, gs_rxVal, gs_rxNext, gs_rxLead, gs_lossLeft, gs_drops, gs_delSeq, gs_delVal, gs_delLen]
    have g8 : f_drops p1 = f_drops p := by rw [hp1]; simp only [gs_srcPayload, gs_nextSeq, gs_stats, gs_state, gs_timer, gs_rxVal, gs_rxNext, gs_rxLead, gs_lossLeft, gs_drops, gs_delSeq, gs_delVal, gs_delLen]
    have g9 : f_stats p1 = f_stats p := by rw [hp1]; simp only [gs_srcPayload, gs_nextSeq, gs_stats, gs_state, gs_timer, gs_rxVal, gs_rxNext, gs_rxLead, gs_lossLeft, gs_drops, gs_delSeq, gs_delVal, gs_delLen]
    have g10 : f_delVal p1 = f_delVal p := by rw [hp1]; simp only [gs_srcPayload, gs_nextSeq, gs_stats, gs_state, gs_timer, gs_rxVal, gs_rxNext, gs_rxLead, gs_lossLeft, gs_drops, gs_delSeq, gs_delVal, gs_delLen]
    have g11 : f_nextSeq p1 = f_nextSeq p := by rw [hp1]; simp only [gs_srcPayload, gs_nextSeq, gs_stats, gs_state, gs_timer, gs_rxVal, gs_rxNext, gs_rxLead, gs_lossLeft, gs_drops, gs_delSeq, gs_delVal, gs_delLen]
    apply okP.bind
    refine okP.mono (lead_ok S1 hr h4 (by rw [g2]; exact f3) (by rw [g1, gd_set (by omega), if_pos (by omega)]; decide)) ?_
    rintro p2 hp2
    have S2 : Sh W p2 := by rw [hp2]; exact Sh_rxLead S1 (by rw [List.length_set, g2]; exact l11)
    have e1 : f_state p2 = (f_state p).set (n * 32 + 0) 4 := by rw [hp2]; simp only [gs_srcPayload, gs_nextSeq, gs_stats, gs_state, gs_timer, gs_rxVal, gs_rxNext, gs_rxLead, gs_lossLeft, gs_drops, gs_delSeq, gs_delVal, gs_delLen, g1]
    have e2 : f_rxLead p2 = (f_rxLead p).set n 0 := by rw [hp2]; simp only [gs_srcPayload, gs_nextSeq, gs_stats, gs_state, gs_timer, gs_rxVal, gs_rxNext, gs_rxLead, gs_lossLeft, gs_drops, gs_delSeq, gs_delVal, gs_delLen, g2]
    have e3 : f_rxTrail p2 = f_rxTrail p := by rw [hp2]; simp only [gs_srcPayload, gs_nextSeq, gs_stats, gs_state, gs_timer, gs_rxVal, gs_rxNext, gs_rxLead, gs_lossLeft, gs_drops, gs_delSeq, gs_delVal, gs_delLen, g3]
    have e4 : f_rxNext p2 = f_rxNext p := by rw [hp2]; simp only [gs_srcPayload, gs_nextSeq, gs_stats, gs_state, gs_timer, gs_rxVal, gs_rxNext, gs_rxLead, gs_lossLeft, gs_drops, gs_delSeq, gs_delVal, gs_delLen, g4]
    have e5 : f_delLen p2 = f_delLen p := by rw [hp2]; simp only [gs_srcPayload, gs_nextSeq, gs_stats, gs_state, gs_timer, gs_rxVal, gs_rxNext, gs_rxLead, gs_lossLeft, gs_drops, gs_delSeq, gs_delVal, gs_delLen, g5]
    have e6 : f_rxVal p2 = (f_rxVal p).set (n * 32 + 0) v := by rw [hp2]; simp only [gs_srcPayload, gs_nextSeq, gs_stats, gs_state, gs_timer, gs_rxVal, gs_rxNext, gs_rxLead, gs_lossLeft, gs_drops, gs_delSeq, gs_delVal, gs_delLen, g6]
    have e7 : f_lossLeft p2 = f_lossLeft p := by rw [hp2]; simp only [gs_srcPayload, gs_nextSeq, gs_stats, gs_state, gs_timer, gs_rxVal, gs_rxNext, gs_rxLead, gs_lossLeft, gs_drops, gs_delSeq, gs_delVal, gs_delLen, g7]
    have e8 : f_drops p2 = f_drops p := by rw [hp2]; simp only [gs_srcPayload, gs_nextSeq, gs_stats, gs_state, gs_timer, gs_rxVal, gs_rxNext, gs_rxLead, gs_lossLeft, gs_drops, gs_delSeq, gs_delVal, gs_delLen, g8]
    have e9 : f_stats p2 = f_stats p := by rw [hp2]; simp only [gs_srcPayload, gs_nextSeq, gs_stats, gs_state, gs_timer, gs_rxVal, gs_rxNext, gs_rxLead, gs_lossLeft, gs_drops, gs_delSeq, gs_delVal, gs_delLen, g9]
    have e10 : f_delVal p2 = f_delVal p := by rw [hp2]; simp only [gs_srcPayload, gs_nextSeq, gs_stats, gs_state, gs_timer, gs_rxVal, gs_rxNext, gs_rxLead, gs_lossLeft, gs_drops, gs_delSeq, gs_delVal, gs_delLen, g10]
    have e11 : f_nextSeq p2 = f_nextSeq p := by rw [hp2]; simp only [gs_srcPayload, gs_nextSeq, gs_stats, gs_state, gs_timer, gs_rxVal, gs_rxNext, gs_rxLead, gs_lossLeft, gs_drops, gs_delSeq, gs_delVal, gs_delLen, g11]
    rw [trail_ok S2 hr h4 (by rw [e3]; exact f4)]
    simp only [Option.bind_some]
    apply okP.bind
    refine okP.mono (deliver_ok S2 hr h4 (by rw [e4]; exact f5) (by rw [e1, gd_set (by omega), if_pos (by omega)]; decide) (by rw [e1, gd_set (by omega), if_neg (by omega)]; exact f2) (by rw [e5]; exact f6)) ?_
    rintro q ⟨w, u, hw, hu, rfl⟩
    rw [e6, gd_set (by omega), if_pos (by omega)] at hw
    apply okP.some
    apply okP.some
    have m1' := Sh_l_delSeq S2
    refine ⟨?_, ?_, ?_, ?_, ?_, ?_⟩
    · refine Sh_rxNext (Sh_state (Sh_delLen (Sh_delVal (Sh_delSeq S2 ?_) ?_) ?_) ?_) ?_ <;> rw [List.length_set]
      · exact m1'
      · rw [e10]; exact l5
      · rw [e5]; exact l3
      · rw [e1, List.length_set]; exact l2
      · rw [e4]; exact l1
    · simp only [gs_srcPayload, gs_nextSeq, gs_stats, gs_state, gs_timer, gs_rxVal, gs_rxNext, gs_rxLead, gs_lossLeft, gs_drops, gs_delSeq, gs_delVal, gs_delLen, e11]
    · simp only [gs_srcPayload, gs_nextSeq, gs_stats, gs_state, gs_timer, gs_rxVal, gs_rxNext, gs_rxLead, gs_lossLeft, gs_drops, gs_delSeq, gs_delVal, gs_delLen, e9]
    · intro m m1 m2
      have t := hF m (by omega) m2
      unfold Fr at t ⊢
      simp only [gs_srcPayload, gs_nextSeq, gs_stats, gs_state, gs_timer, gs_rxVal, gs_rxNext, gs_rxLead, gs_lossLeft, gs_drops, gs_delSeq, gs_delVal, gs_delLen, e1, e2, e3, e4, e5, e7, e8]
      have dl : n * 32 + 0 < (f_state p).length := by omega
      have dl2 : n * 32 < ((f_state p).set (n * 32 + 0) 4).length := by rw [List.length_set]; omega
      have dl3 : n < (f_rxLead p).length := by omega
      have dl4 : n < (f_rxNext p).length := by omega
      have dl5 : n < (f_delLen p).length := by omega
      rw [gd_set dl2, gd_set dl, gd_set dl2, gd_set dl, gd_set dl3, gd_set dl4, gd_set dl5, if_neg (by omega), if_neg (by omega), if_neg (by omega), if_neg (by omega), if_neg (by omega), if_neg (by omega), if_neg (by omega)]
      exact t
    · intro m m1
      unfold Dn
      simp only [gs_srcPayload, gs_nextSeq, gs_stats, gs_state, gs_timer, gs_rxVal, gs_rxNext, gs_rxLead, gs_lossLeft, gs_drops, gs_delSeq, gs_delVal, gs_delLen, e1, e2, e3, e4, e5, e7, e8, e10]
      have dl4 : n < (f_rxNext p).length := by omega
      have dl5 : n < (f_delLen p).length := by omega
      have dl6 : n * 32 < (f_delVal p).length := by omega
      rw [gd_set dl4, gd_set dl5, gd_set dl6]
      by_cases e : n = m
      · subst e
        rw [if_pos rfl, if_pos rfl, if_pos rfl]
        exact ⟨fun q => by omega, fun _ => ⟨rfl, by omega, f8, hu, hw⟩⟩
      · rw [if_neg e, if_neg e, if_neg (by omega)]
        exact hD m (by omega)
    · simp only [gs_srcPayload, gs_nextSeq, gs_stats, gs_state, gs_timer, gs_rxVal, gs_rxNext, gs_rxLead, gs_lossLeft, gs_drops, gs_delSeq, gs_delVal, gs_delLen, e9]
      rw [cnt, if_neg (by omega)]
      omega
theorem cnt_rng (L : Nat → Int) : ∀ n, 0 ≤ cnt L n ∧ cnt L n ≤ n
  | 0 => by simp [cnt]
  | n + 1 => by
    have := cnt_rng L n
    simp only [cnt]
    split <;> omega
/-- a valid send on a fresh object -/
theorem send_ok {W : Int32} {o : Ob} (S : Sh W o) (hW : 2 ≤ W.toInt ∧ W.toInt ≤ 16) (h0 : f_nextSeq o = 0) {v : Int32} (hv : 0 ≤ v.toInt ∧ v.toInt ≤ 255) (L : Nat → Int) (hL : ∀ m, 0 ≤ L m ∧ L m ≤ 255) (hF : ∀ m, m < 4 → Fr o m (L m)) (h9 : gd (f_stats o) 9 = 0) (h1 : gd (f_stats o) 1 = 0) : okP (F3 o v) (fun r => r.1 = 0 ∧ Sh W r.2 ∧ f_nextSeq r.2 = 1 ∧ gd (f_stats r.2) 1 = 1 ∧ (∀ m, m < 4 → Dn r.2 m (L m) v) ∧ gd (f_stats r.2) 9 = cnt L 4) := by
  have z0 : (0 : Int32).toInt = 0 := rfl
  have z1 : (1 : Int32).toInt = 1 := rfl
  have z4 : (4 : Int32).toInt = 4 := rfl
  have l1 := Sh_l_srcPayload S
  have l2 := Sh_l_stats S
  unfold F3
  rw [if_neg (by rw [i_lt, z0]; omega), if_neg (by rw [i_lt]; show ¬ 255 < v.toInt; omega), h0, if_pos (by decide)]
  apply okP.bind
  refine okP_asn (n := 0) rfl (by omega) ?_
  apply okP.bind
  refine okP_agd (n := 1) rfl (by omega) (fun t ht => ?_)
  apply okP.bind
  refine okP_asn (n := 1) rfl (by omega) ?_
  obtain ⟨p, hp⟩ : ∃ q, q = s_stats (s_nextSeq (s_srcPayload o ((f_srcPayload o).set 0 v)) (0 + 1)) ((f_stats o).set 1 (t + 1)) := ⟨_, rfl⟩
  rw [← hp]
  have S1 : Sh W p := by rw [hp]; exact Sh_stats (Sh_nextSeq (Sh_srcPayload S (by rw [List.length_set]; exact l1))) (by rw [List.length_set]; exact l2)
  have n1 : f_nextSeq p = 1 := by rw [hp]; simp only [gs_srcPayload, gs_nextSeq, gs_stats, gs_state, gs_timer, gs_rxVal, gs_rxNext, gs_rxLead, gs_lossLeft, gs_drops, gs_delSeq, gs_delVal, gs_delLen]; decide
  have t1 : (t + 1).toInt = 1 := by rw [inc1 (by omega), ht, h1]; rfl
  have s1 : gd (f_stats p) 1 = 1 := by rw [hp]; simp only [gs_srcPayload, gs_nextSeq, gs_stats, gs_state, gs_timer, gs_rxVal, gs_rxNext, gs_rxLead, gs_lossLeft, gs_drops, gs_delSeq, gs_delVal, gs_delLen]; rw [gd_set (by omega), if_pos rfl]; exact t1
  have s9 : gd (f_stats p) 9 = 0 := by rw [hp]; simp only [gs_srcPayload, gs_nextSeq, gs_stats, gs_state, gs_timer, gs_rxVal, gs_rxNext, gs_rxLead, gs_lossLeft, gs_drops, gs_delSeq, gs_delVal, gs_delLen]; rw [gd_set (by omega), if_neg (by decide)]; exact h9
  have hF1 : ∀ m, m < 4 → Fr p m (L m) := by
    intro m hm
    have t := hF m hm
    unfold Fr at t ⊢
    rw [hp]
    simp only [gs_srcPayload, gs_nextSeq, gs_stats, gs_state, gs_timer, gs_rxVal, gs_rxNext, gs_rxLead, gs_lossLeft, gs_drops, gs_delSeq, gs_delVal, gs_delLen]
    exact t
  apply okP.bind
  unfold F4
  have ld : F5 p = some 0 := by unfold F5; rw [n1]; rfl
  have tr : F6 p = some 0 := by
    unfold F6
    rw [n1, S1.2.2.2.2.2.2.2.2.2.2.2.2.2.2.2.2.2.2.2]
    rw [if_pos (by rw [i_lt, i_sub (by omega) (by omega)]; omega)]
  rw [ld, tr]
  simp only [Option.bind_some]
  have ag : F7 p 0 0 0 = some p := by
    unfold F7 J7_20
    rw [if_neg (by decide)]
    have : loopN (B7_23 0) qN (0, p) = some p := by
      show loopN (B7_23 0) (3999 + 1) (0, p) = some p
      have b : B7_23 0 (0, p) = some (.inl p) := by unfold B7_23; rfl
      simp only [loopN, b]
    rw [this]; rfl
  rw [ag]
  simp only [Option.bind_some]
  apply okP.bind
  refine okP.loop (fun w => 0 ≤ w.1.toInt ∧ w.1.toInt ≤ 4 ∧ Sh W w.2 ∧ f_nextSeq w.2 = 1 ∧ gd (f_stats w.2) 1 = 1 ∧ (∀ m, w.1.toInt.toNat ≤ m → m < 4 → Fr w.2 m (L m)) ∧ (∀ m, m < w.1.toInt.toNat → Dn w.2 m (L m) v) ∧ gd (f_stats w.2) 9 = cnt L w.1.toInt.toNat) (fun w => (4 - w.1.toInt).toNat) ⟨by show (0 : Int) ≤ 0; decide, by show (0 : Int) ≤ 4; decide, S1, n1, s1, fun m _ hm => hF1 m hm, fun m hm => absurd hm (Nat.not_lt_zero _), s9⟩ (by show (4 - (0 : Int)).toNat < 4000; decide) ?_
  rintro ⟨w, p⟩ ⟨a1, a2, a3, a4, a5, a6, a7, a8⟩
  simp only at a1 a2 a3 a4 a5 a6 a7 a8
  unfold B4_23
  simp only
  apply okP.ite <;> intro c
  · rw [i_lt, z4] at c
    have e2 : (w + 1).toInt = w.toInt + 1 := inc1 (by omega)
    have en : (w + 1).toInt.toNat = w.toInt.toNat + 1 := by omega
    have cr := cnt_rng L w.toInt.toNat
    apply okP.bind
    refine okP.mono (copy_ok a3 (n := w.toInt.toNat) (by omega) (by omega) L hL a6 a7 a8 ⟨cr.1, by omega⟩) ?_
    rintro q ⟨b1, b2, b3, b4, b5, b6⟩
    apply okP.some
    refine ⟨⟨by simp only; omega, by simp only; omega, b1, ?_, ?_, ?_, ?_, ?_⟩, by simp only; omega⟩
    · simp only; rw [b2]; exact a4
    · simp only; rw [b3]; exact a5
    · simp only; rw [en]; exact b4
    · simp only; rw [en]; exact b5
    · simp only; rw [en]; exact b6
  · rw [i_lt, z4] at c
    have en : w.toInt.toNat = 4 := by omega
    rw [en] at a7 a8
    apply okP.some
    apply okP.some
    apply okP.some
    exact ⟨rfl, a3, a4, a5, a7, a8⟩
theorem siz {W : Int32} {o : Ob} (h : Sh W o) : qhs (H0 o) ≤ 1300 := by
  obtain ⟨z1, z2, z3, z4, z5, z6, z7, z8, z9, z10, z11, z12, z13, z14, z15, z16, z17, z18, z19, _⟩ := h
  simp only [H0, qhs, qsz, z1, z2, z3, z4, z5, z6, z7, z8, z9, z10, z11, z12, z13, z14, z15, z16, z17, z18, z19, cN]
  omega
theorem clampE (a lo hi : Int32) : F2 a lo hi = some (if a < lo then lo else if hi < a then hi else a) := by
  unfold F2
  by_cases h1 : a < lo
  · rw [if_pos h1, if_pos h1]
  · rw [if_neg h1, if_neg h1]
    by_cases h2 : hi < a
    · rw [if_pos h2, if_pos h2]
    · rw [if_neg h2, if_neg h2]
theorem clampR {a lo hi : Int32} (h : lo.toInt ≤ hi.toInt) : lo.toInt ≤ (if a < lo then lo else if hi < a then hi else a).toInt ∧ (if a < lo then lo else if hi < a then hi else a).toInt ≤ hi.toInt := by
  by_cases h1 : a < lo
  · rw [if_pos h1]; omega
  · rw [if_neg h1]
    by_cases h2 : hi < a
    · rw [if_pos h2]; omega
    · rw [if_neg h2]
      rw [i_lt] at h1 h2
      omega
theorem init_ok (x0 x1 x2 x3 : Int32) : okP (F1 x0 x1 x2 x3) (fun o => ∃ W : Int32, (2 ≤ W.toInt ∧ W.toInt ≤ 16) ∧ Sh W o ∧ f_nextSeq o = 0 ∧ (∀ m, m < 4 → Fr o m 0) ∧ f_stats o = List.replicate 10 0 ∧ f_drops o = List.replicate 4 0) := by
  unfold F1
  rw [clampE, clampE, clampE, clampE]
  simp only [Option.bind_some]
  have cw := clampR (a := x0) (lo := 2) (hi := 16) (by decide)
  obtain ⟨W, hW⟩ : ∃ W, W = (if x0 < 2 then 2 else if (16 : Int32) < x0 then 16 else x0) := ⟨_, rfl⟩
  rw [← hW] at cw ⊢
  generalize (if x1 < 1 then 1 else if (8 : Int32) < x1 then 8 else x1) = b
  generalize (if x2 < 1 then 1 else if (8 : Int32) < x2 then 8 else x2) = c
  generalize (if x3 < 0 then 0 else if (16 : Int32) < x3 then 16 else x3) = d
  apply okP.bind
  have z4 : (4 : Int32).toInt = 4 := rfl
  refine okP.loop (fun w => 0 ≤ w.1.toInt ∧ w.1.toInt ≤ 4 ∧ Sh W w.2 ∧ f_nextSeq w.2 = 0 ∧ (∀ m, m < w.1.toInt.toNat → gd (f_rxLead w.2) m = -1) ∧ f_stats w.2 = List.replicate 10 0 ∧ f_state w.2 = List.replicate 128 0 ∧ f_rxTrail w.2 = List.replicate 4 0 ∧ f_rxNext w.2 = List.replicate 4 0 ∧ f_delLen w.2 = List.replicate 4 0 ∧ f_lossLeft w.2 = List.replicate 4 0 ∧ f_drops w.2 = List.replicate 4 0) (fun w => (4 - w.1.toInt).toNat) ⟨by show (0 : Int) ≤ 0; decide, by show (0 : Int) ≤ 4; decide, ?_, ?_, fun m hm => absurd hm (Nat.not_lt_zero _), ?_⟩ (by show (4 - (0 : Int)).toNat < 4000; decide) ?_
  · dsimp only [Sh, f_srcPayload, f_pend, f_queue, f_stats, f_state, f_timer, f_rxVal, f_rxNext, f_rxLead, f_rxTrail, f_lossLeft, f_dups, f_drops, f_delSeq, f_delVal, f_delLen, f_lostLog, f_lostLen, f_nakBuf, f_win, f_back, f_repair, f_period, f_nextSeq, f_qLen, s_srcPayload, s_pend, s_queue, s_stats, s_state, s_timer, s_rxVal, s_rxNext, s_rxLead, s_rxTrail, s_lossLeft, s_dups, s_drops, s_delSeq, s_delVal, s_delLen, s_lostLog, s_lostLen, s_nakBuf, s_win, s_back, s_repair, s_period, s_nextSeq, s_qLen]
    refine ⟨?_, ?_, ?_, ?_, ?_, ?_, ?_, ?_, ?_, ?_, ?_, ?_, ?_, ?_, ?_, ?_, ?_, ?_, ?_, rfl⟩ <;> exact List.length_replicate
  · dsimp only [f_srcPayload, f_pend, f_queue, f_stats, f_state, f_timer, f_rxVal, f_rxNext, f_rxLead, f_rxTrail, f_lossLeft, f_dups, f_drops, f_delSeq, f_delVal, f_delLen, f_lostLog, f_lostLen, f_nakBuf, f_win, f_back, f_repair, f_period, f_nextSeq, f_qLen, s_srcPayload, s_pend, s_queue, s_stats, s_state, s_timer, s_rxVal, s_rxNext, s_rxLead, s_rxTrail, s_lossLeft, s_dups, s_drops, s_delSeq, s_delVal, s_delLen, s_lostLog, s_lostLen, s_nakBuf, s_win, s_back, s_repair, s_period, s_nextSeq, s_qLen, ob0]
  · dsimp only [f_srcPayload, f_pend, f_queue, f_stats, f_state, f_timer, f_rxVal, f_rxNext, f_rxLead, f_rxTrail, f_lossLeft, f_dups, f_drops, f_delSeq, f_delVal, f_delLen, f_lostLog, f_lostLen, f_nakBuf, f_win, f_back, f_repair, f_period, f_nextSeq, f_qLen, s_srcPayload, s_pend, s_queue, s_stats, s_state, s_timer, s_rxVal, s_rxNext, s_rxLead, s_rxTrail, s_lossLeft, s_dups, s_drops, s_delSeq, s_delVal, s_delLen, s_lostLog, s_lostLen, s_nakBuf, s_win, s_back, s_repair, s_period, s_nextSeq, s_qLen]
    exact ⟨rfl, rfl, rfl, rfl, rfl, rfl, rfl⟩
  rintro ⟨w, p⟩ ⟨a1, a2, a3, a4, a5, a6, a7, a8, a9, a10, a11, a12⟩
  simp only at a1 a2 a3 a4 a5 a6 a7 a8 a9 a10 a11 a12
  unfold B1_207
  simp only
  apply okP.ite <;> intro c
  · rw [i_lt, z4] at c
    have l1 := Sh_l_rxLead a3
    have e2 : (w + 1).toInt = w.toInt + 1 := inc1 (by omega)
    apply okP.bind
    refine okP_asn (n := w.toInt.toNat) (by omega) (by omega) ?_
    apply okP.some
    refine ⟨⟨by simp only; omega, by simp only; omega, Sh_rxLead a3 (by rw [List.length_set]; exact l1), ?_⟩, by simp only; omega⟩
    simp only [gs_srcPayload, gs_nextSeq, gs_stats, gs_state, gs_timer, gs_rxVal, gs_rxNext, gs_rxLead, gs_lossLeft, gs_drops, gs_delSeq, gs_delVal, gs_delLen, a4, a6, a7, a8, a9, a10, a11, a12, true_and, and_true]
    intro m hm
    rw [gd_set (by omega)]
    split
    · rfl
    · exact a5 m (by omega)
  · rw [i_lt, z4] at c
    apply okP.some
    apply okP.some
    refine ⟨W, cw, a3, a4, ?_, a6, a12⟩
    intro m hm
    unfold Fr
    rw [a7, a8, a9, a10, a11, a12]
    simp only [gd_rep, true_and, and_true]
    exact a5 m (by omega)
theorem bad_send {W : Int32} {o : Ob} (S : Sh W o) {v : Int32} (hv : ¬ (0 ≤ v.toInt ∧ v.toInt ≤ 255)) : F3 o v = some (-1, o) := by
  unfold F3
  by_cases a : v < 0
  · rw [if_pos a]
  · rw [if_neg a, if_pos (by rw [i_lt] at a ⊢; have z0 : (0 : Int32).toInt = 0 := rfl; show 255 < v.toInt; omega)]

theorem law_ok (x0 x1 x2 x3 x4 : Int32) : ∃ τ, F0 x0 x1 x2 x3 x4 = some (1, τ) ∧ τ.length - List.length ([] : QHeap) ≤ room_1.cells ∧ qhs τ - qhs [] ≤ room_1.slots := by
  obtain ⟨o, ho, W, cw, S, h0, hF, hs, hd⟩ := init_ok x0 x1 x2 x3
  have z0 : (0 : Int32).toInt = 0 := rfl
  have z255 : (255 : Int32).toInt = 255 := rfl
  have okc : (if x4 < 0 then (0 : Int32) else if (255 : Int32) < x4 then 0 else 1) = (if 0 ≤ x4.toInt ∧ x4.toInt ≤ 255 then 1 else 0) := by
    simp only [i_lt, z0, z255]
    by_cases a : x4.toInt < 0
    · rw [if_pos a, if_neg (by omega)]
    · rw [if_neg a]
      by_cases b : 255 < x4.toInt
      · rw [if_pos b, if_neg (by omega)]
      · rw [if_neg b, if_pos (by omega)]
  unfold F0
  rw [ho]
  simp only [Option.bind_some, okc]
  have trl : ∀ p : Ob, Sh W p → (f_nextSeq p).toInt ≤ 1 → 0 ≤ (f_nextSeq p).toInt → F20 p = some 0 := by
    intro p Sp h1 h2
    unfold F20 F6
    rw [Sp.2.2.2.2.2.2.2.2.2.2.2.2.2.2.2.2.2.2.2]
    rw [if_pos (by rw [i_lt, i_sub (by omega) (by omega)]; omega)]; rfl
  have g1 : ∀ (l : List Int32) (k : Int32) (n : Nat) (w : Int32), k.toInt = n → n < l.length → gd l n = w.toInt → aget l k = some w := by
    intro l k n w hk hn hw
    obtain ⟨y, hy, q⟩ : okP (aget l k) (fun y => y.toInt = gd l n) := okP_agd hk hn (fun _ q => q)
    rw [hy]
    congr 1
    rw [i_eq, q, hw]
  by_cases v : 0 ≤ x4.toInt ∧ x4.toInt ≤ 255
  · obtain ⟨⟨r, p⟩, hp, q1, q2, q3, q4, q5, q6⟩ := send_ok S cw h0 v (fun _ => 0) (fun _ => by omega) hF (by rw [hs]; exact gd_rep _ _) (by rw [hs]; exact gd_rep _ _)
    simp only at q1 q2 q3 q4 q5 q6
    subst q1
    have D3 := (q5 3 (by decide)).2 rfl
    have c1 : F15 p = some 0 := by unfold F15 F5; rw [q3]; rfl
    have c2 : F16 p 1 = some 1 := by
      unfold F16
      rw [if_neg (by decide), if_neg (by decide), if_neg (by decide), g1 _ 1 1 1 rfl (by rw [Sh_l_stats q2]; decide) q4]; rfl
    have c3 : F17 p 3 0 = some 1 := by
      unfold F17
      have : F18 3 = some 1 := rfl
      rw [this]
      simp only [Option.bind_some]
      rw [if_neg (by decide), if_pos trivial, g1 _ 3 3 1 rfl (by rw [Sh_l_rxNext q2]; decide) D3.1]; rfl
    have c4 : F19 p 3 0 = some x4 := by
      unfold F19
      have : F18 3 = some 1 := rfl
      rw [this]
      simp only [Option.bind_some]
      rw [if_neg (by decide), if_neg (by decide), g1 _ 3 3 1 rfl (by rw [Sh_l_delLen q2]; decide) D3.2.2.2.1]
      simp only [Option.bind_some]
      rw [if_pos (by decide), g1 _ _ (3 * 32) x4 (by decide) (by rw [Sh_l_delVal q2]; decide) D3.2.2.2.2]; rfl
    have c5 := trl p q2 (by rw [q3]; decide) (by rw [q3]; decide)
    refine ⟨H0 p, ?_, by show 20 - 0 ≤ _; decide, by have := siz q2; have e : room_1.slots = 2304 := rfl; show qhs (H0 p) - 0 ≤ room_1.slots; rw [e]; omega⟩
    simp only [hp, Option.bind_some, if_pos v, c1, c2, c3, c4, c5]
    simp +decide
  · have hp := bad_send S v
    have F3 := hF 3 (by decide)
    have c1 : F15 o = some (-1) := by unfold F15 F5; rw [h0]; rfl
    have c2 : F16 o 1 = some 0 := by
      unfold F16
      rw [if_neg (by decide), if_neg (by decide), if_neg (by decide), g1 _ 1 1 0 rfl (by rw [Sh_l_stats S]; decide) (by rw [hs]; exact gd_rep _ _)]; rfl
    have c3 : F17 o 3 0 = some 0 := by
      unfold F17
      have : F18 3 = some 1 := rfl
      rw [this]
      simp only [Option.bind_some]
      rw [if_neg (by decide), if_pos trivial, g1 _ 3 3 0 rfl (by rw [Sh_l_rxNext S]; decide) F3.2.2.2.2.1]; rfl
    have c4 : F19 o 3 0 = some (-1) := by
      unfold F19
      have : F18 3 = some 1 := rfl
      rw [this]
      simp only [Option.bind_some]
      rw [if_neg (by decide), if_neg (by decide), g1 _ 3 3 0 rfl (by rw [Sh_l_delLen S]; decide) F3.2.2.2.2.2.1]
      rfl
    have c5 := trl o S (by rw [h0]; decide) (by rw [h0]; decide)
    refine ⟨H0 o, ?_, by show 20 - 0 ≤ _; decide, by have := siz S; have e : room_1.slots = 2304 := rfl; show qhs (H0 o) - 0 ≤ room_1.slots; rw [e]; omega⟩
    simp only [hp, Option.bind_some, if_neg v, c1, c2, c3, c4, c5]
    simp +decide
set_option maxRecDepth 65536 in
theorem comes_1 {Post : Tables → Env → Array Value → State → Outcome → State → Prop} (hpost : ∀ tb e args s v u, (limb_1_1.after args s (.returned v) u = true ∧ limb_1_2.after args s (.returned v) u = true ∧ True) → FrameEnd s (.returned v) u (Jvm.fieldLocs frame_1_writes args s ++ Jvm.arrayLocs frame_1_arrays args s ++ Jvm.staticLocs frame_1_statics s) 48 2304 → Post tb e args s (.returned v) u) :
    ArmFor flags0 classFile x code maxLocals ret World_1 tables_1 room_1 Calls_1 rest_1 Pre_1 Post := by
  intro l hfl _ _ p e ha hc hk s m args below hf hA hF happ hP
  obtain ⟨hcalls, hrest, hpre⟩ := hP
  obtain ⟨-, -, -, hnamed, -, -, -, hat⟩ := (Spec.applies_iff hf).mp happ
  obtain ⟨hg, hn⟩ := and_e (Cond.before_iff.mp (show (Jvm.Cond.and given_1 narrow_1).before args s = true from hpre))
  obtain ⟨g0, g1⟩ := and_e hg
  obtain ⟨w0, w1, w2, w3, w4, rfl⟩ : ∃ w0 w1 w2 w3 w4 : Value, args = #[w0, w1, w2, w3, w4] := by
    have hs : args.size = 5 := by simpa [Cond.value, given_1] using g0
    obtain ⟨L⟩ := args
    match L, hs with
    | [w0, w1, w2, w3, w4], _ => exact ⟨w0, w1, w2, w3, w4, rfl⟩
  have hw := fun d (hd : d ∈ tables_1) => atoms_spec (ws := Jvm.Cond.code x code maxLocals ret :: tables_1) hat d (List.mem_cons_of_mem _ hd)
  obtain ⟨a0, g2⟩ := and_e g1
  obtain ⟨i0, ei0⟩ := is_v a0
  obtain rfl : w0 = (.int i0) := Option.some.inj ei0
  obtain ⟨a1, g3⟩ := and_e g2
  obtain ⟨i1, ei1⟩ := is_v a1
  obtain rfl : w1 = (.int i1) := Option.some.inj ei1
  obtain ⟨a2, g4⟩ := and_e g3
  obtain ⟨i2, ei2⟩ := is_v a2
  obtain rfl : w2 = (.int i2) := Option.some.inj ei2
  obtain ⟨a3, g5⟩ := and_e g4
  obtain ⟨i3, ei3⟩ := is_v a3
  obtain rfl : w3 = (.int i3) := Option.some.inj ei3
  obtain ⟨i4, ei4⟩ := is_v g5
  obtain rfl : w4 = (.int i4) := Option.some.inj ei4
  obtain ⟨τ, hF0, hc1, hs1⟩ := law_ok i0 i1 i2 i3 i4
  have Ad : QAd s.heap.size (fun k => s.heap.size + k) := ⟨fun k _ => rfl, fun i j h => Nat.add_left_cancel h⟩
  have hR : QRep s s.heap.size (fun k => s.heap.size + k) s.heap [] := ⟨Nat.le_refl _, rfl, fun k c h => by cases h⟩
  have T := tF0 (l := l) (Z := s) Ad (QW_ok hw) i0 i1 i2 i3 i4 hF0
  have M := QTri.met (k := 0) (as := [.int i0, .int i1, .int i2, .int i3, .int i4]) (by decide) T hR (Nat.le_of_ble_eq_true rfl) (fun q => by cases q) tables_1 (rm := room_1) (by decide) (by decide) hc1 hs1
  obtain ⟨n, o, h1, h2, h3, _, L, rfl, ⟨rfl, R', N⟩, hq⟩ := M p e ha hc hk s m _ below hf ((Spec.applies_iff_loose hf).mp happ).1 ⟨rfl, State.Warmed39.refl s, rfl⟩ trivial
  refine ⟨n, _, h1, h2, h3, hpost _ _ _ _ _ _ ⟨Cond.after_iff.mpr rfl, Cond.after_iff.mpr (eq_i res_at (Term.int_eval (1)) rfl), trivial⟩ ⟨hq.1, hq.2.1, (hq.2.2.sift fun y hy => Or.inr (N y hy)).mono hc1 hs1⟩⟩
theorem main_1_1 : Claimed_1_1 := comes_1 fun _ _ _ _ _ _ h hF => ⟨h.1, hF⟩
theorem main_1_2 : Claimed_1_2 := comes_1 fun _ _ _ _ _ _ h hF => ⟨h.2.1, hF⟩
end Jvm.Pilot.@@N@@
namespace Jvm.Pilot.@@N@@
open Jvm Jvm.ClassFile Sem Op Lib Jvm.Free Jvm.Stand Jvm.Pilot.@@N@@.Jvm.D
/-! MADE BY PROGRAM (witnessworld.py) out of the Statement's table words and the real class files: 11 classes; the members and pool entries that the words name. The judged class is class 1, her method 1. -/
namespace start1
open Jvm.ClassFile
def u (s : String) : CpInfo := .utf8 (stringToUtf16 s)
/-- a pool by its gaps: so many unusable entries, then the entry; so many at the end -/
def gap : Nat → List CpInfo → List CpInfo
  | 0, r => r
  | n + 1, r => .unusable :: gap n r
def poolList (es : List (Nat × CpInfo)) (last : Nat) : List CpInfo := es.foldr (fun e r => gap e.1 (e.2 :: r)) (gap last [])
def pool (es : List (Nat × CpInfo)) (last : Nat) : Array CpInfo := ⟨poolList es last⟩
def fileOf (pool : Array CpInfo) (this : Nat) (attrs : Array Attribute := #[]) (ms : Array MethodInfo := #[]) (fl : Nat := 33) (sup : Nat := 0) (ifs : Array Nat := #[]) (fds : Array FieldInfo := #[]) : ClassFile where
  minorVersion := 0
  majorVersion := 65
  constantPool := pool
  accessFlags := fl
  thisClass := this
  superClass := sup
  interfaces := ifs
  fields := fds
  methods := ms
  attributes := attrs
def plain (name : String) (sup : Option ClassId) : Class where
  name := name
  kind := .ordinary
  loader := none
  accessFlags := 33
  super := sup
  interfaces := #[]
  cf := none
  fields := #[]
  methods := #[]
  instanceTypes := #[]
  staticTypes := #[]
  resolved := #[]
  callSites := []
  init := .initialized
  statics := none
  mirror := none

def pool0 : Array CpInfo := pool [(5, u "<init>"), (0, u "()V"), (1, .class_ 10), (1, u "java/lang/Object")] 113

def k0c0 : Code := { maxStack := 0, maxLocals := 1, code := object_method_1_code, exceptionTable := #[], attributes := #[] }
def k0m0 : Method := { name := "<init>", desc := "()V", sig := { parameters := [], returnType := none }, accessFlags := 1, code := some k0c0 }
/-- java/lang/Object -/
def k0 : Class := { plain "java/lang/Object" none with
  accessFlags := 33
  interfaces := #[]
  cf := some (fileOf pool0 8 #[] #[{ accessFlags := 1, nameIndex := 5, descriptorIndex := 6, attributes := #[] }] 33 0 #[] #[])
  fields := #[]
  methods := #[k0m0]
  instanceTypes := #[]
  staticTypes := #[]
  resolved := Array.replicate 124 none
  statics := none }

def pool1 : Array CpInfo := pool [(2, .class_ 4), (1, u "java/lang/Object"), (0, u "<init>"), (0, u "()V"), (0, .class_ 8), (0, u "NakMulticast"), (0, .methodref 7 10), (0, .nameAndType 5 11), (0, u "(IIII)V"), (0, .methodref 7 13), (0, .nameAndType 14 15), (0, u "send"), (0, u "(I)I"), (0, .methodref 7 17), (0, .nameAndType 18 19), (0, u "sourceLead"), (0, u "()I"), (0, .methodref 7 21), (0, .nameAndType 22 15), (0, u "stat"), (0, .methodref 7 24), (0, .nameAndType 25 26), (0, u "rxInfo"), (0, u "(II)I"), (0, .methodref 7 28), (0, .nameAndType 29 26), (0, u "deliveredValue"), (0, .methodref 7 31), (0, .nameAndType 32 19), (0, u "sourceTrail"), (0, .class_ 34), (0, u "NakMulticastL1"), (2, u "law"), (0, u "(IIIII)Z")] 3

def k1m0 : Method := { name := "<init>", desc := "()V", sig := { parameters := [], returnType := none }, accessFlags := 1, code := none }
def k1c1 : Code := { maxStack := 6, maxLocals := 13, code := code, exceptionTable := #[], attributes := #[] }
def k1m1 : Method := { name := "law", desc := "(IIIII)Z", sig := { parameters := [.int, .int, .int, .int, .int], returnType := some .boolean }, accessFlags := 9, code := some k1c1 }
/-- NakMulticastL1 -/
def k1 : Class := { plain "NakMulticastL1" (some 0) with
  accessFlags := 33
  interfaces := #[]
  cf := some (fileOf pool1 33 #[] #[{ accessFlags := 1, nameIndex := 5, descriptorIndex := 6, attributes := #[] }, { accessFlags := 9, nameIndex := 37, descriptorIndex := 38, attributes := #[] }] 33 2 #[] #[])
  fields := #[]
  methods := #[k1m0, k1m1]
  instanceTypes := #[]
  staticTypes := #[]
  resolved := Array.replicate 42 none
  statics := none }

def pool2 : Array CpInfo := pool [(1, .methodref 2 3), (0, .class_ 4), (0, .nameAndType 5 6), (0, u "java/lang/Object"), (0, u "<init>"), (0, u "()V"), (0, .fieldref 8 9), (0, .class_ 10), (0, .nameAndType 11 12), (0, u "NakMulticast"), (0, u "srcPayload"), (0, u "[I"), (0, .fieldref 8 14), (0, .nameAndType 15 16), (0, u "pend"), (0, u "[Z"), (0, .fieldref 8 18), (0, .nameAndType 19 12), (0, u "queue"), (0, .fieldref 8 21), (0, .nameAndType 22 12), (0, u "stats"), (0, .fieldref 8 24), (0, .nameAndType 25 12), (0, u "state"), (0, .fieldref 8 27), (0, .nameAndType 28 12), (0, u "timer"), (0, .fieldref 8 30), (0, .nameAndType 31 12), (0, u "rxVal"), (0, .fieldref 8 33), (0, .nameAndType 34 12), (0, u "rxNext"), (0, .fieldref 8 36), (0, .nameAndType 37 12), (0, u "rxLead"), (0, .fieldref 8 39), (0, .nameAndType 40 12), (0, u "rxTrail"), (0, .fieldref 8 42), (0, .nameAndType 43 12), (0, u "lossLeft"), (0, .fieldref 8 45), (0, .nameAndType 46 12), (0, u "dups"), (0, .fieldref 8 48), (0, .nameAndType 49 12), (0, u "drops"), (0, .fieldref 8 51), (0, .nameAndType 52 12), (0, u "delSeq"), (0, .fieldref 8 54), (0, .nameAndType 55 12), (0, u "delVal"), (0, .fieldref 8 57), (0, .nameAndType 58 12), (0, u "delLen"), (0, .fieldref 8 60), (0, .nameAndType 61 12), (0, u "lostLog"), (0, .fieldref 8 63), (0, .nameAndType 64 12), (0, u "lostLen"), (0, .fieldref 8 66), (0, .nameAndType 67 12), (0, u "nakBuf"), (0, .methodref 8 69), (0, .nameAndType 70 71), (0, u "clamp"), (0, u "(III)I"), (0, .fieldref 8 73), (0, .nameAndType 74 75), (0, u "win"), (0, u "I"), (0, .fieldref 8 77), (0, .nameAndType 78 75), (0, u "back"), (0, .fieldref 8 80), (0, .nameAndType 81 75), (0, u "repair"), (0, .fieldref 8 83), (0, .nameAndType 84 75), (0, u "period"), (0, .fieldref 8 86), (0, .nameAndType 87 75), (0, u "nextSeq"), (0, .methodref 8 89), (0, .nameAndType 90 91), (0, u "multicastSource"), (0, u "(III)V"), (0, .methodref 8 93), (0, .nameAndType 94 95), (0, u "validRx"), (0, u "(I)Z"), (9, .methodref 8 106), (0, .nameAndType 107 108), (0, u "lead"), (0, u "()I"), (0, .methodref 8 110), (0, .nameAndType 111 108), (0, u "trail"), (0, .fieldref 8 113), (0, .nameAndType 114 75), (0, u "qLen"), (0, .methodref 8 116), (0, .nameAndType 117 95), (0, u "validSeq"), (0, .methodref 8 119), (0, .nameAndType 120 91), (0, u "aggregatorApply"), (0, .methodref 8 122), (0, .nameAndType 123 124), (0, u "copyTo"), (0, u "(IIIIII)V"), (0, .methodref 8 126), (0, .nameAndType 127 128), (0, u "applyData"), (0, u "(IIIII)V"), (0, .methodref 8 130), (0, .nameAndType 131 132), (0, u "applyLead"), (0, u "(II)V"), (0, .methodref 8 134), (0, .nameAndType 135 132), (0, u "applyTrail"), (0, .methodref 8 137), (0, .nameAndType 138 139), (0, u "deliver"), (0, u "(I)V"), (9, u "(I)I"), (3, .methodref 8 154), (0, .nameAndType 155 91), (0, u "appendDelivered"), (2, u "nakLen"), (9, u "MAX_SEQ"), (2, u "RECEIVERS"), (1, u "BAD"), (1, u "RX_UNKNOWN"), (1, u "RX_BACKOFF"), (1, u "RX_WAIT_NCF"), (1, u "RX_WAIT_DATA"), (1, u "RX_HAVE"), (0, u "RX_DELIVERED"), (1, u "RX_LOST"), (1, u "INFO_NEXT"), (0, u "INFO_LEAD"), (0, u "INFO_TRAIL"), (0, u "INFO_DELIVERED"), (0, u "INFO_LOST"), (0, u "INFO_LOSS_LEFT"), (0, u "INFO_DUPLICATES"), (0, u "INFO_DROPPED"), (1, u "STAT_TIME"), (0, u "STAT_ODATA"), (0, u "STAT_RDATA"), (0, u "STAT_SPM"), (0, u "STAT_NAK"), (0, u "STAT_FORWARDED"), (0, u "STAT_SUPPRESSED"), (0, u "STAT_NCF"), (0, u "STAT_QUEUE"), (1, u "STAT_DROPPED"), (1, u "(IIII)V"), (3, u "send"), (4, u "sourceLead"), (0, u "sourceTrail"), (0, u "stat"), (2, u "rxInfo"), (0, u "(II)I"), (3, u "deliveredValue")] 3

def k2c0 : Code := { maxStack := 5, maxLocals := 6, code := prog_1_method_1_code, exceptionTable := #[], attributes := #[] }
def k2m0 : Method := { name := "<init>", desc := "(IIII)V", sig := { parameters := [.int, .int, .int, .int], returnType := none }, accessFlags := 1, code := some k2c0 }
def k2c1 : Code := { maxStack := 4, maxLocals := 3, code := prog_1_method_2_code, exceptionTable := #[], attributes := #[] }
def k2m1 : Method := { name := "send", desc := "(I)I", sig := { parameters := [.int], returnType := some .int }, accessFlags := 1, code := some k2c1 }
def k2c2 : Code := { maxStack := 1, maxLocals := 1, code := prog_1_method_6_code, exceptionTable := #[], attributes := #[] }
def k2m2 : Method := { name := "sourceLead", desc := "()I", sig := { parameters := [], returnType := some .int }, accessFlags := 1, code := some k2c2 }
def k2c3 : Code := { maxStack := 1, maxLocals := 1, code := prog_1_method_7_code, exceptionTable := #[], attributes := #[] }
def k2m3 : Method := { name := "sourceTrail", desc := "()I", sig := { parameters := [], returnType := some .int }, accessFlags := 1, code := some k2c3 }
def k2c4 : Code := { maxStack := 2, maxLocals := 2, code := prog_1_method_8_code, exceptionTable := #[], attributes := #[] }
def k2m4 : Method := { name := "stat", desc := "(I)I", sig := { parameters := [.int], returnType := some .int }, accessFlags := 1, code := some k2c4 }
def k2c5 : Code := { maxStack := 2, maxLocals := 3, code := prog_1_method_11_code, exceptionTable := #[], attributes := #[] }
def k2m5 : Method := { name := "rxInfo", desc := "(II)I", sig := { parameters := [.int, .int], returnType := some .int }, accessFlags := 1, code := some k2c5 }
def k2c6 : Code := { maxStack := 3, maxLocals := 3, code := prog_1_method_15_code, exceptionTable := #[], attributes := #[] }
def k2m6 : Method := { name := "deliveredValue", desc := "(II)I", sig := { parameters := [.int, .int], returnType := some .int }, accessFlags := 1, code := some k2c6 }
def k2c7 : Code := { maxStack := 2, maxLocals := 4, code := prog_1_method_17_code, exceptionTable := #[], attributes := #[] }
def k2m7 : Method := { name := "clamp", desc := "(III)I", sig := { parameters := [.int, .int, .int], returnType := some .int }, accessFlags := 2, code := some k2c7 }
def k2c8 : Code := { maxStack := 2, maxLocals := 2, code := prog_1_method_18_code, exceptionTable := #[], attributes := #[] }
def k2m8 : Method := { name := "validRx", desc := "(I)Z", sig := { parameters := [.int], returnType := some .boolean }, accessFlags := 2, code := some k2c8 }
def k2c9 : Code := { maxStack := 2, maxLocals := 2, code := prog_1_method_19_code, exceptionTable := #[], attributes := #[] }
def k2m9 : Method := { name := "validSeq", desc := "(I)Z", sig := { parameters := [.int], returnType := some .boolean }, accessFlags := 2, code := some k2c9 }
def k2c10 : Code := { maxStack := 2, maxLocals := 1, code := prog_1_method_20_code, exceptionTable := #[], attributes := #[] }
def k2m10 : Method := { name := "lead", desc := "()I", sig := { parameters := [], returnType := some .int }, accessFlags := 2, code := some k2c10 }
def k2c11 : Code := { maxStack := 2, maxLocals := 2, code := prog_1_method_21_code, exceptionTable := #[], attributes := #[] }
def k2m11 : Method := { name := "trail", desc := "()I", sig := { parameters := [], returnType := some .int }, accessFlags := 2, code := some k2c11 }
def k2c12 : Code := { maxStack := 7, maxLocals := 7, code := prog_1_method_24_code, exceptionTable := #[], attributes := #[] }
def k2m12 : Method := { name := "multicastSource", desc := "(III)V", sig := { parameters := [.int, .int, .int], returnType := none }, accessFlags := 2, code := some k2c12 }
def k2c13 : Code := { maxStack := 3, maxLocals := 5, code := prog_1_method_25_code, exceptionTable := #[], attributes := #[] }
def k2m13 : Method := { name := "aggregatorApply", desc := "(III)V", sig := { parameters := [.int, .int, .int], returnType := none }, accessFlags := 2, code := some k2c13 }
def k2c14 : Code := { maxStack := 6, maxLocals := 7, code := prog_1_method_27_code, exceptionTable := #[], attributes := #[] }
def k2m14 : Method := { name := "copyTo", desc := "(IIIIII)V", sig := { parameters := [.int, .int, .int, .int, .int, .int], returnType := none }, accessFlags := 2, code := some k2c14 }
def k2c15 : Code := { maxStack := 4, maxLocals := 8, code := prog_1_method_28_code, exceptionTable := #[], attributes := #[] }
def k2m15 : Method := { name := "applyData", desc := "(IIIII)V", sig := { parameters := [.int, .int, .int, .int, .int], returnType := none }, accessFlags := 2, code := some k2c15 }
def k2c16 : Code := { maxStack := 4, maxLocals := 6, code := prog_1_method_30_code, exceptionTable := #[], attributes := #[] }
def k2m16 : Method := { name := "applyLead", desc := "(II)V", sig := { parameters := [.int, .int], returnType := none }, accessFlags := 2, code := some k2c16 }
def k2c17 : Code := { maxStack := 3, maxLocals := 7, code := prog_1_method_31_code, exceptionTable := #[], attributes := #[] }
def k2m17 : Method := { name := "applyTrail", desc := "(II)V", sig := { parameters := [.int, .int], returnType := none }, accessFlags := 2, code := some k2c17 }
def k2c18 : Code := { maxStack := 5, maxLocals := 5, code := prog_1_method_33_code, exceptionTable := #[], attributes := #[] }
def k2m18 : Method := { name := "deliver", desc := "(I)V", sig := { parameters := [.int], returnType := none }, accessFlags := 2, code := some k2c18 }
def k2c19 : Code := { maxStack := 4, maxLocals := 5, code := prog_1_method_34_code, exceptionTable := #[], attributes := #[] }
def k2m19 : Method := { name := "appendDelivered", desc := "(III)V", sig := { parameters := [.int, .int, .int], returnType := none }, accessFlags := 2, code := some k2c19 }
/-- NakMulticast -/
def k2 : Class := { plain "NakMulticast" (some 0) with
  accessFlags := 49
  interfaces := #[]
  cf := some (fileOf pool2 8 #[] #[{ accessFlags := 1, nameIndex := 5, descriptorIndex := 209, attributes := #[] }, { accessFlags := 1, nameIndex := 213, descriptorIndex := 149, attributes := #[] }, { accessFlags := 1, nameIndex := 218, descriptorIndex := 108, attributes := #[] }, { accessFlags := 1, nameIndex := 219, descriptorIndex := 108, attributes := #[] }, { accessFlags := 1, nameIndex := 220, descriptorIndex := 149, attributes := #[] }, { accessFlags := 1, nameIndex := 223, descriptorIndex := 224, attributes := #[] }, { accessFlags := 1, nameIndex := 228, descriptorIndex := 224, attributes := #[] }, { accessFlags := 2, nameIndex := 70, descriptorIndex := 71, attributes := #[] }, { accessFlags := 2, nameIndex := 94, descriptorIndex := 95, attributes := #[] }, { accessFlags := 2, nameIndex := 117, descriptorIndex := 95, attributes := #[] }, { accessFlags := 2, nameIndex := 107, descriptorIndex := 108, attributes := #[] }, { accessFlags := 2, nameIndex := 111, descriptorIndex := 108, attributes := #[] }, { accessFlags := 2, nameIndex := 90, descriptorIndex := 91, attributes := #[] }, { accessFlags := 2, nameIndex := 120, descriptorIndex := 91, attributes := #[] }, { accessFlags := 2, nameIndex := 123, descriptorIndex := 124, attributes := #[] }, { accessFlags := 2, nameIndex := 127, descriptorIndex := 128, attributes := #[] }, { accessFlags := 2, nameIndex := 131, descriptorIndex := 132, attributes := #[] }, { accessFlags := 2, nameIndex := 135, descriptorIndex := 132, attributes := #[] }, { accessFlags := 2, nameIndex := 138, descriptorIndex := 139, attributes := #[] }, { accessFlags := 2, nameIndex := 155, descriptorIndex := 91, attributes := #[] }] 49 2 #[] #[{ accessFlags := 25, nameIndex := 168, descriptorIndex := 75, attributes := #[] }, { accessFlags := 25, nameIndex := 171, descriptorIndex := 75, attributes := #[] }, { accessFlags := 25, nameIndex := 173, descriptorIndex := 75, attributes := #[] }, { accessFlags := 25, nameIndex := 175, descriptorIndex := 75, attributes := #[] }, { accessFlags := 25, nameIndex := 177, descriptorIndex := 75, attributes := #[] }, { accessFlags := 25, nameIndex := 179, descriptorIndex := 75, attributes := #[] }, { accessFlags := 25, nameIndex := 181, descriptorIndex := 75, attributes := #[] }, { accessFlags := 25, nameIndex := 183, descriptorIndex := 75, attributes := #[] }, { accessFlags := 25, nameIndex := 184, descriptorIndex := 75, attributes := #[] }, { accessFlags := 25, nameIndex := 186, descriptorIndex := 75, attributes := #[] }, { accessFlags := 25, nameIndex := 188, descriptorIndex := 75, attributes := #[] }, { accessFlags := 25, nameIndex := 189, descriptorIndex := 75, attributes := #[] }, { accessFlags := 25, nameIndex := 190, descriptorIndex := 75, attributes := #[] }, { accessFlags := 25, nameIndex := 191, descriptorIndex := 75, attributes := #[] }, { accessFlags := 25, nameIndex := 192, descriptorIndex := 75, attributes := #[] }, { accessFlags := 25, nameIndex := 193, descriptorIndex := 75, attributes := #[] }, { accessFlags := 25, nameIndex := 194, descriptorIndex := 75, attributes := #[] }, { accessFlags := 25, nameIndex := 195, descriptorIndex := 75, attributes := #[] }, { accessFlags := 25, nameIndex := 197, descriptorIndex := 75, attributes := #[] }, { accessFlags := 25, nameIndex := 198, descriptorIndex := 75, attributes := #[] }, { accessFlags := 25, nameIndex := 199, descriptorIndex := 75, attributes := #[] }, { accessFlags := 25, nameIndex := 200, descriptorIndex := 75, attributes := #[] }, { accessFlags := 25, nameIndex := 201, descriptorIndex := 75, attributes := #[] }, { accessFlags := 25, nameIndex := 202, descriptorIndex := 75, attributes := #[] }, { accessFlags := 25, nameIndex := 203, descriptorIndex := 75, attributes := #[] }, { accessFlags := 25, nameIndex := 204, descriptorIndex := 75, attributes := #[] }, { accessFlags := 25, nameIndex := 205, descriptorIndex := 75, attributes := #[] }, { accessFlags := 25, nameIndex := 207, descriptorIndex := 75, attributes := #[] }, { accessFlags := 2, nameIndex := 74, descriptorIndex := 75, attributes := #[] }, { accessFlags := 2, nameIndex := 78, descriptorIndex := 75, attributes := #[] }, { accessFlags := 2, nameIndex := 81, descriptorIndex := 75, attributes := #[] }, { accessFlags := 2, nameIndex := 84, descriptorIndex := 75, attributes := #[] }, { accessFlags := 2, nameIndex := 87, descriptorIndex := 75, attributes := #[] }, { accessFlags := 18, nameIndex := 11, descriptorIndex := 12, attributes := #[] }, { accessFlags := 18, nameIndex := 15, descriptorIndex := 16, attributes := #[] }, { accessFlags := 18, nameIndex := 19, descriptorIndex := 12, attributes := #[] }, { accessFlags := 2, nameIndex := 114, descriptorIndex := 75, attributes := #[] }, { accessFlags := 18, nameIndex := 22, descriptorIndex := 12, attributes := #[] }, { accessFlags := 18, nameIndex := 25, descriptorIndex := 12, attributes := #[] }, { accessFlags := 18, nameIndex := 28, descriptorIndex := 12, attributes := #[] }, { accessFlags := 18, nameIndex := 31, descriptorIndex := 12, attributes := #[] }, { accessFlags := 18, nameIndex := 34, descriptorIndex := 12, attributes := #[] }, { accessFlags := 18, nameIndex := 37, descriptorIndex := 12, attributes := #[] }, { accessFlags := 18, nameIndex := 40, descriptorIndex := 12, attributes := #[] }, { accessFlags := 18, nameIndex := 43, descriptorIndex := 12, attributes := #[] }, { accessFlags := 18, nameIndex := 46, descriptorIndex := 12, attributes := #[] }, { accessFlags := 18, nameIndex := 49, descriptorIndex := 12, attributes := #[] }, { accessFlags := 18, nameIndex := 52, descriptorIndex := 12, attributes := #[] }, { accessFlags := 18, nameIndex := 55, descriptorIndex := 12, attributes := #[] }, { accessFlags := 18, nameIndex := 58, descriptorIndex := 12, attributes := #[] }, { accessFlags := 18, nameIndex := 61, descriptorIndex := 12, attributes := #[] }, { accessFlags := 18, nameIndex := 64, descriptorIndex := 12, attributes := #[] }, { accessFlags := 18, nameIndex := 67, descriptorIndex := 12, attributes := #[] }, { accessFlags := 2, nameIndex := 158, descriptorIndex := 75, attributes := #[] }])
  fields := #[{ name := "MAX_SEQ", type := .int, accessFlags := 25, slot := 0, constantValue := 0 }, { name := "RECEIVERS", type := .int, accessFlags := 25, slot := 1, constantValue := 0 }, { name := "BAD", type := .int, accessFlags := 25, slot := 2, constantValue := 0 }, { name := "RX_UNKNOWN", type := .int, accessFlags := 25, slot := 3, constantValue := 0 }, { name := "RX_BACKOFF", type := .int, accessFlags := 25, slot := 4, constantValue := 0 }, { name := "RX_WAIT_NCF", type := .int, accessFlags := 25, slot := 5, constantValue := 0 }, { name := "RX_WAIT_DATA", type := .int, accessFlags := 25, slot := 6, constantValue := 0 }, { name := "RX_HAVE", type := .int, accessFlags := 25, slot := 7, constantValue := 0 }, { name := "RX_DELIVERED", type := .int, accessFlags := 25, slot := 8, constantValue := 0 }, { name := "RX_LOST", type := .int, accessFlags := 25, slot := 9, constantValue := 0 }, { name := "INFO_NEXT", type := .int, accessFlags := 25, slot := 10, constantValue := 0 }, { name := "INFO_LEAD", type := .int, accessFlags := 25, slot := 11, constantValue := 0 }, { name := "INFO_TRAIL", type := .int, accessFlags := 25, slot := 12, constantValue := 0 }, { name := "INFO_DELIVERED", type := .int, accessFlags := 25, slot := 13, constantValue := 0 }, { name := "INFO_LOST", type := .int, accessFlags := 25, slot := 14, constantValue := 0 }, { name := "INFO_LOSS_LEFT", type := .int, accessFlags := 25, slot := 15, constantValue := 0 }, { name := "INFO_DUPLICATES", type := .int, accessFlags := 25, slot := 16, constantValue := 0 }, { name := "INFO_DROPPED", type := .int, accessFlags := 25, slot := 17, constantValue := 0 }, { name := "STAT_TIME", type := .int, accessFlags := 25, slot := 18, constantValue := 0 }, { name := "STAT_ODATA", type := .int, accessFlags := 25, slot := 19, constantValue := 0 }, { name := "STAT_RDATA", type := .int, accessFlags := 25, slot := 20, constantValue := 0 }, { name := "STAT_SPM", type := .int, accessFlags := 25, slot := 21, constantValue := 0 }, { name := "STAT_NAK", type := .int, accessFlags := 25, slot := 22, constantValue := 0 }, { name := "STAT_FORWARDED", type := .int, accessFlags := 25, slot := 23, constantValue := 0 }, { name := "STAT_SUPPRESSED", type := .int, accessFlags := 25, slot := 24, constantValue := 0 }, { name := "STAT_NCF", type := .int, accessFlags := 25, slot := 25, constantValue := 0 }, { name := "STAT_QUEUE", type := .int, accessFlags := 25, slot := 26, constantValue := 0 }, { name := "STAT_DROPPED", type := .int, accessFlags := 25, slot := 27, constantValue := 0 }, { name := "win", type := .int, accessFlags := 2, slot := 0, constantValue := 0 }, { name := "back", type := .int, accessFlags := 2, slot := 1, constantValue := 0 }, { name := "repair", type := .int, accessFlags := 2, slot := 2, constantValue := 0 }, { name := "period", type := .int, accessFlags := 2, slot := 3, constantValue := 0 }, { name := "nextSeq", type := .int, accessFlags := 2, slot := 4, constantValue := 0 }, { name := "srcPayload", type := (.array .int), accessFlags := 18, slot := 5, constantValue := 0 }, { name := "pend", type := (.array .boolean), accessFlags := 18, slot := 6, constantValue := 0 }, { name := "queue", type := (.array .int), accessFlags := 18, slot := 7, constantValue := 0 }, { name := "qLen", type := .int, accessFlags := 2, slot := 8, constantValue := 0 }, { name := "stats", type := (.array .int), accessFlags := 18, slot := 9, constantValue := 0 }, { name := "state", type := (.array .int), accessFlags := 18, slot := 10, constantValue := 0 }, { name := "timer", type := (.array .int), accessFlags := 18, slot := 11, constantValue := 0 }, { name := "rxVal", type := (.array .int), accessFlags := 18, slot := 12, constantValue := 0 }, { name := "rxNext", type := (.array .int), accessFlags := 18, slot := 13, constantValue := 0 }, { name := "rxLead", type := (.array .int), accessFlags := 18, slot := 14, constantValue := 0 }, { name := "rxTrail", type := (.array .int), accessFlags := 18, slot := 15, constantValue := 0 }, { name := "lossLeft", type := (.array .int), accessFlags := 18, slot := 16, constantValue := 0 }, { name := "dups", type := (.array .int), accessFlags := 18, slot := 17, constantValue := 0 }, { name := "drops", type := (.array .int), accessFlags := 18, slot := 18, constantValue := 0 }, { name := "delSeq", type := (.array .int), accessFlags := 18, slot := 19, constantValue := 0 }, { name := "delVal", type := (.array .int), accessFlags := 18, slot := 20, constantValue := 0 }, { name := "delLen", type := (.array .int), accessFlags := 18, slot := 21, constantValue := 0 }, { name := "lostLog", type := (.array .int), accessFlags := 18, slot := 22, constantValue := 0 }, { name := "lostLen", type := (.array .int), accessFlags := 18, slot := 23, constantValue := 0 }, { name := "nakBuf", type := (.array .int), accessFlags := 18, slot := 24, constantValue := 0 }, { name := "nakLen", type := .int, accessFlags := 2, slot := 25, constantValue := 0 }]
  methods := #[k2m0, k2m1, k2m2, k2m3, k2m4, k2m5, k2m6, k2m7, k2m8, k2m9, k2m10, k2m11, k2m12, k2m13, k2m14, k2m15, k2m16, k2m17, k2m18, k2m19]
  instanceTypes := #[.int, .int, .int, .int, .int, (.array .int), (.array .boolean), (.array .int), .int, (.array .int), (.array .int), (.array .int), (.array .int), (.array .int), (.array .int), (.array .int), (.array .int), (.array .int), (.array .int), (.array .int), (.array .int), (.array .int), (.array .int), (.array .int), (.array .int), .int]
  staticTypes := #[.int, .int, .int, .int, .int, .int, .int, .int, .int, .int, .int, .int, .int, .int, .int, .int, .int, .int, .int, .int, .int, .int, .int, .int, .int, .int, .int, .int]
  resolved := Array.replicate 232 none
  statics := none }

def pool3 : Array CpInfo := pool [(1, u "java/lang/Cloneable"), (0, .class_ 1), (0, u "java/lang/Object"), (0, .class_ 3)] 3

/-- java/lang/Cloneable -/
def k3 : Class := { plain "java/lang/Cloneable" (some 0) with
  accessFlags := 1537
  interfaces := #[]
  cf := some (fileOf pool3 2 #[] #[] 1537 4 #[] #[])
  fields := #[]
  methods := #[]
  instanceTypes := #[]
  staticTypes := #[]
  resolved := Array.replicate 8 none
  statics := none }

def pool4 : Array CpInfo := pool [(1, u "java/io/Serializable"), (0, .class_ 1), (0, u "java/lang/Object"), (0, .class_ 3)] 3

/-- java/io/Serializable -/
def k4 : Class := { plain "java/io/Serializable" (some 0) with
  accessFlags := 1537
  interfaces := #[]
  cf := some (fileOf pool4 2 #[] #[] 1537 4 #[] #[])
  fields := #[]
  methods := #[]
  instanceTypes := #[]
  staticTypes := #[]
  resolved := Array.replicate 8 none
  statics := none }

/-- the primitive boolean -/
def k5 : Class := { plain "boolean" none with kind := .primitive 'Z', accessFlags := 0x411 }
/-- [Z -/
def k6 : Class := { plain "[Z" (some 0) with kind := .array 5 .boolean, interfaces := #[3, 4], accessFlags := 1041 }

/-- the primitive byte -/
def k7 : Class := { plain "byte" none with kind := .primitive 'B', accessFlags := 0x411 }
/-- [B -/
def k8 : Class := { plain "[B" (some 0) with kind := .array 7 .byte, interfaces := #[3, 4], accessFlags := 1041 }

/-- the primitive int -/
def k9 : Class := { plain "int" none with kind := .primitive 'I', accessFlags := 0x411 }
/-- [I -/
def k10 : Class := { plain "[I" (some 0) with kind := .array 9 .int, interfaces := #[3, 4], accessFlags := 1041 }

def heap : Heap := #[]
def classes : Array Class := #[k0, k1, k2, k3, k4, k5, k6, k7, k8, k9, k10]
def interned : List (Array UInt16 × Addr) := []
def slotsUsed : Nat := 0
def theMethod : MethodId := ⟨1, 1⟩
def args0 : Array Value := #[.int 5, .int 5, .int 5, .int 5, .int 5]
def aboutOver (below : List Frame) : State where
  vm := { classes := classes, interned := interned.toArray }
  heap := heap
  slotsUsed := slotsUsed
  threads := #[{ frames := .invoking theMethod args0 :: below }]
def below0 : List Frame := [.native { method := ⟨0, 0⟩, args := #[] }]
def about1 : State := aboutOver below0
def p0 : Program := .bare "" "" ""
def e0 : Env := launch0.env 0 0 0
theorem w_frames : about1.frames = Frame.invoking theMethod args0 :: below0 := rfl
set_option maxRecDepth 65536 in
theorem w_args : argsFit about1.vm theMethod args0 = true := by decide +kernel
set_option maxRecDepth 65536 in
theorem w_heap : heapFits about1 = true := by decide +kernel
set_option maxRecDepth 65536 in
theorem w_runnable : about1.curStatus? = some .runnable := by decide +kernel
set_option maxRecDepth 65536 in
theorem w_alone : about1.alone = true := by decide +kernel
set_option maxRecDepth 65536 in
theorem w_named : about1.methodNamed? x = some theMethod := by decide +kernel
set_option maxRecDepth 65536 in
theorem w_hears : about1.hears theMethod below0 = true := by decide +kernel
set_option maxRecDepth 65536 in
theorem w_ripe : about1.ripe theMethod args0 below0 = true := by decide +kernel
theorem w_running : about1.status = .running := rfl
set_option maxRecDepth 65536 in
theorem w_room : about1.hasRoom e0.platform room_1 = true :=
  launch0.hasRoom_least _ room_1 (by decide +kernel) (by decide +kernel) (by decide +kernel) (by decide +kernel) (by decide +kernel) (by decide +kernel)
theorem allAtoms_all (ts : List Jvm.Cond) (a : Array Jvm.Value) (st : Jvm.State) : (allAtoms ts).before a st = ts.all (fun c => c.before a st) := by
  induction ts with
  | nil => rfl
  | cons c t ih =>
    show (Jvm.Cond.and c (allAtoms t)).before a st = _
    rw [Jvm.Cond.before_and, ih, List.all_cons]
def words1 : List Jvm.Cond := Jvm.Cond.code x code maxLocals ret :: tables_1
/-- a 'code' word, met by the world's own term for the bytes: nothing is compared byte by byte -/
theorem code_word {y : MethodName} {bytes : ByteArray} {mx : Nat} {rt : Option FieldType} {a : Array Value} {s : State} {m : MethodId} {meth : Method} {c : Code} (h1 : s.methodNamed? y = some m) (h2 : s.vm.method? m = some meth) (h3 : meth.code = some c) (h4 : c.code = bytes)
    (h5 : (c.maxLocals == mx && c.exceptionTable.isEmpty && decide (c.maxStack ≤ mostOperands) && decide (meth.sig.returnType = rt) && !meth.locks && decide (parseMethodDescriptor y.desc = some meth.sig)) = true) : (Jvm.Cond.code y bytes mx rt).before a s = true := by
  simp only [Bool.and_eq_true, beq_iff_eq, Bool.not_eq_true', decide_eq_true_eq] at h5
  obtain ⟨⟨⟨⟨⟨g1, g2⟩, g3⟩, g4⟩, g5⟩, g6⟩ := h5
  simp [Cond.before, Cond.holds, Cond.value, h1, h2, h3, h4, g1, g2, g3, g4, g5, g6]
def isCode : Jvm.Cond → Bool
  | .code _ _ _ _ => true
  | _ => false
theorem all_split {L : List Jvm.Cond} {P : Jvm.Cond → Bool} (h1 : L.all (fun c => isCode c || P c) = true) (h2 : ∀ c ∈ L.filter isCode, P c = true) : L.all P = true := by
  refine List.all_eq_true.mpr fun c hc => ?_
  have h := List.all_eq_true.mp h1 c hc
  rcases Bool.eq_false_or_eq_true (isCode c) with hi | hi
  · exact h2 c (List.mem_filter.mpr ⟨hc, hi⟩)
  · simpa [hi] using h
set_option maxRecDepth 65536 in
theorem w_c0 : (Jvm.Cond.code x code maxLocals ret).before args0 about1 = true := code_word (m := ⟨1, 1⟩) (meth := k1m1) (c := k1c1) (by decide +kernel) rfl rfl rfl (by decide +kernel)
set_option maxRecDepth 65536 in
theorem w_c1 : (Jvm.Cond.code ({ cls := "NakMulticast", name := "<init>", desc := "(IIII)V" } : Jvm.MethodName) prog_1_method_1_code (6 : Nat) (Option.none : Option Jvm.ClassFile.FieldType)).before args0 about1 = true := code_word (m := ⟨2, 0⟩) (meth := k2m0) (c := k2c0) (by decide +kernel) rfl rfl rfl (by decide +kernel)
set_option maxRecDepth 65536 in
theorem w_c2 : (Jvm.Cond.code ({ cls := "java/lang/Object", name := "<init>", desc := "()V" } : Jvm.MethodName) object_method_1_code (1 : Nat) (Option.none : Option Jvm.ClassFile.FieldType)).before args0 about1 = true := code_word (m := ⟨0, 0⟩) (meth := k0m0) (c := k0c0) (by decide +kernel) rfl rfl rfl (by decide +kernel)
set_option maxRecDepth 65536 in
theorem w_c3 : (Jvm.Cond.code ({ cls := "NakMulticast", name := "clamp", desc := "(III)I" } : Jvm.MethodName) prog_1_method_17_code (4 : Nat) (Option.some Jvm.ClassFile.FieldType.int)).before args0 about1 = true := code_word (m := ⟨2, 7⟩) (meth := k2m7) (c := k2c7) (by decide +kernel) rfl rfl rfl (by decide +kernel)
set_option maxRecDepth 65536 in
theorem w_c4 : (Jvm.Cond.code ({ cls := "NakMulticast", name := "send", desc := "(I)I" } : Jvm.MethodName) prog_1_method_2_code (3 : Nat) (Option.some Jvm.ClassFile.FieldType.int)).before args0 about1 = true := code_word (m := ⟨2, 1⟩) (meth := k2m1) (c := k2c1) (by decide +kernel) rfl rfl rfl (by decide +kernel)
set_option maxRecDepth 65536 in
theorem w_c5 : (Jvm.Cond.code ({ cls := "NakMulticast", name := "multicastSource", desc := "(III)V" } : Jvm.MethodName) prog_1_method_24_code (7 : Nat) (Option.none : Option Jvm.ClassFile.FieldType)).before args0 about1 = true := code_word (m := ⟨2, 12⟩) (meth := k2m12) (c := k2c12) (by decide +kernel) rfl rfl rfl (by decide +kernel)
set_option maxRecDepth 65536 in
theorem w_c6 : (Jvm.Cond.code ({ cls := "NakMulticast", name := "lead", desc := "()I" } : Jvm.MethodName) prog_1_method_20_code (1 : Nat) (Option.some Jvm.ClassFile.FieldType.int)).before args0 about1 = true := code_word (m := ⟨2, 10⟩) (meth := k2m10) (c := k2c10) (by decide +kernel) rfl rfl rfl (by decide +kernel)
set_option maxRecDepth 65536 in
theorem w_c7 : (Jvm.Cond.code ({ cls := "NakMulticast", name := "trail", desc := "()I" } : Jvm.MethodName) prog_1_method_21_code (2 : Nat) (Option.some Jvm.ClassFile.FieldType.int)).before args0 about1 = true := code_word (m := ⟨2, 11⟩) (meth := k2m11) (c := k2c11) (by decide +kernel) rfl rfl rfl (by decide +kernel)
set_option maxRecDepth 65536 in
theorem w_c8 : (Jvm.Cond.code ({ cls := "NakMulticast", name := "aggregatorApply", desc := "(III)V" } : Jvm.MethodName) prog_1_method_25_code (5 : Nat) (Option.none : Option Jvm.ClassFile.FieldType)).before args0 about1 = true := code_word (m := ⟨2, 13⟩) (meth := k2m13) (c := k2c13) (by decide +kernel) rfl rfl rfl (by decide +kernel)
set_option maxRecDepth 65536 in
theorem w_c9 : (Jvm.Cond.code ({ cls := "NakMulticast", name := "copyTo", desc := "(IIIIII)V" } : Jvm.MethodName) prog_1_method_27_code (7 : Nat) (Option.none : Option Jvm.ClassFile.FieldType)).before args0 about1 = true := code_word (m := ⟨2, 14⟩) (meth := k2m14) (c := k2c14) (by decide +kernel) rfl rfl rfl (by decide +kernel)
set_option maxRecDepth 65536 in
theorem w_c10 : (Jvm.Cond.code ({ cls := "NakMulticast", name := "applyData", desc := "(IIIII)V" } : Jvm.MethodName) prog_1_method_28_code (8 : Nat) (Option.none : Option Jvm.ClassFile.FieldType)).before args0 about1 = true := code_word (m := ⟨2, 15⟩) (meth := k2m15) (c := k2c15) (by decide +kernel) rfl rfl rfl (by decide +kernel)
set_option maxRecDepth 65536 in
theorem w_c11 : (Jvm.Cond.code ({ cls := "NakMulticast", name := "validSeq", desc := "(I)Z" } : Jvm.MethodName) prog_1_method_19_code (2 : Nat) (Option.some Jvm.ClassFile.FieldType.boolean)).before args0 about1 = true := code_word (m := ⟨2, 9⟩) (meth := k2m9) (c := k2c9) (by decide +kernel) rfl rfl rfl (by decide +kernel)
set_option maxRecDepth 65536 in
theorem w_c12 : (Jvm.Cond.code ({ cls := "NakMulticast", name := "applyLead", desc := "(II)V" } : Jvm.MethodName) prog_1_method_30_code (6 : Nat) (Option.none : Option Jvm.ClassFile.FieldType)).before args0 about1 = true := code_word (m := ⟨2, 16⟩) (meth := k2m16) (c := k2c16) (by decide +kernel) rfl rfl rfl (by decide +kernel)
set_option maxRecDepth 65536 in
theorem w_c13 : (Jvm.Cond.code ({ cls := "NakMulticast", name := "applyTrail", desc := "(II)V" } : Jvm.MethodName) prog_1_method_31_code (7 : Nat) (Option.none : Option Jvm.ClassFile.FieldType)).before args0 about1 = true := code_word (m := ⟨2, 17⟩) (meth := k2m17) (c := k2c17) (by decide +kernel) rfl rfl rfl (by decide +kernel)
set_option maxRecDepth 65536 in
theorem w_c14 : (Jvm.Cond.code ({ cls := "NakMulticast", name := "deliver", desc := "(I)V" } : Jvm.MethodName) prog_1_method_33_code (5 : Nat) (Option.none : Option Jvm.ClassFile.FieldType)).before args0 about1 = true := code_word (m := ⟨2, 18⟩) (meth := k2m18) (c := k2c18) (by decide +kernel) rfl rfl rfl (by decide +kernel)
set_option maxRecDepth 65536 in
theorem w_c15 : (Jvm.Cond.code ({ cls := "NakMulticast", name := "appendDelivered", desc := "(III)V" } : Jvm.MethodName) prog_1_method_34_code (5 : Nat) (Option.none : Option Jvm.ClassFile.FieldType)).before args0 about1 = true := code_word (m := ⟨2, 19⟩) (meth := k2m19) (c := k2c19) (by decide +kernel) rfl rfl rfl (by decide +kernel)
set_option maxRecDepth 65536 in
theorem w_c16 : (Jvm.Cond.code ({ cls := "NakMulticast", name := "sourceLead", desc := "()I" } : Jvm.MethodName) prog_1_method_6_code (1 : Nat) (Option.some Jvm.ClassFile.FieldType.int)).before args0 about1 = true := code_word (m := ⟨2, 2⟩) (meth := k2m2) (c := k2c2) (by decide +kernel) rfl rfl rfl (by decide +kernel)
set_option maxRecDepth 65536 in
theorem w_c17 : (Jvm.Cond.code ({ cls := "NakMulticast", name := "stat", desc := "(I)I" } : Jvm.MethodName) prog_1_method_8_code (2 : Nat) (Option.some Jvm.ClassFile.FieldType.int)).before args0 about1 = true := code_word (m := ⟨2, 4⟩) (meth := k2m4) (c := k2c4) (by decide +kernel) rfl rfl rfl (by decide +kernel)
set_option maxRecDepth 65536 in
theorem w_c18 : (Jvm.Cond.code ({ cls := "NakMulticast", name := "rxInfo", desc := "(II)I" } : Jvm.MethodName) prog_1_method_11_code (3 : Nat) (Option.some Jvm.ClassFile.FieldType.int)).before args0 about1 = true := code_word (m := ⟨2, 5⟩) (meth := k2m5) (c := k2c5) (by decide +kernel) rfl rfl rfl (by decide +kernel)
set_option maxRecDepth 65536 in
theorem w_c19 : (Jvm.Cond.code ({ cls := "NakMulticast", name := "validRx", desc := "(I)Z" } : Jvm.MethodName) prog_1_method_18_code (2 : Nat) (Option.some Jvm.ClassFile.FieldType.boolean)).before args0 about1 = true := code_word (m := ⟨2, 8⟩) (meth := k2m8) (c := k2c8) (by decide +kernel) rfl rfl rfl (by decide +kernel)
set_option maxRecDepth 65536 in
theorem w_c20 : (Jvm.Cond.code ({ cls := "NakMulticast", name := "deliveredValue", desc := "(II)I" } : Jvm.MethodName) prog_1_method_15_code (3 : Nat) (Option.some Jvm.ClassFile.FieldType.int)).before args0 about1 = true := code_word (m := ⟨2, 6⟩) (meth := k2m6) (c := k2c6) (by decide +kernel) rfl rfl rfl (by decide +kernel)
set_option maxRecDepth 65536 in
theorem w_c21 : (Jvm.Cond.code ({ cls := "NakMulticast", name := "sourceTrail", desc := "()I" } : Jvm.MethodName) prog_1_method_7_code (1 : Nat) (Option.some Jvm.ClassFile.FieldType.int)).before args0 about1 = true := code_word (m := ⟨2, 3⟩) (meth := k2m3) (c := k2c3) (by decide +kernel) rfl rfl rfl (by decide +kernel)
def codes1 : List Jvm.Cond := [Jvm.Cond.code x code maxLocals ret, Jvm.Cond.code ({ cls := "NakMulticast", name := "<init>", desc := "(IIII)V" } : Jvm.MethodName) prog_1_method_1_code (6 : Nat) (Option.none : Option Jvm.ClassFile.FieldType), Jvm.Cond.code ({ cls := "java/lang/Object", name := "<init>", desc := "()V" } : Jvm.MethodName) object_method_1_code (1 : Nat) (Option.none : Option Jvm.ClassFile.FieldType), Jvm.Cond.code ({ cls := "NakMulticast", name := "clamp", desc := "(III)I" } : Jvm.MethodName) prog_1_method_17_code (4 : Nat) (Option.some Jvm.ClassFile.FieldType.int), Jvm.Cond.code ({ cls := "NakMulticast", name := "send", desc := "(I)I" } : Jvm.MethodName) prog_1_method_2_code (3 : Nat) (Option.some Jvm.ClassFile.FieldType.int), Jvm.Cond.code ({ cls := "NakMulticast", name := "multicastSource", desc := "(III)V" } : Jvm.MethodName) prog_1_method_24_code (7 : Nat) (Option.none : Option Jvm.ClassFile.FieldType), Jvm.Cond.code ({ cls := "NakMulticast", name := "lead", desc := "()I" } : Jvm.MethodName) prog_1_method_20_code (1 : Nat) (Option.some Jvm.ClassFile.FieldType.int), Jvm.Cond.code ({ cls := "NakMulticast", name := "trail", desc := "()I" } : Jvm.MethodName) prog_1_method_21_code (2 : Nat) (Option.some Jvm.ClassFile.FieldType.int), Jvm.Cond.code ({ cls := "NakMulticast", name := "aggregatorApply", desc := "(III)V" } : Jvm.MethodName) prog_1_method_25_code (5 : Nat) (Option.none : Option Jvm.ClassFile.FieldType), Jvm.Cond.code ({ cls := "NakMulticast", name := "copyTo", desc := "(IIIIII)V" } : Jvm.MethodName) prog_1_method_27_code (7 : Nat) (Option.none : Option Jvm.ClassFile.FieldType), Jvm.Cond.code ({ cls := "NakMulticast", name := "applyData", desc := "(IIIII)V" } : Jvm.MethodName) prog_1_method_28_code (8 : Nat) (Option.none : Option Jvm.ClassFile.FieldType), Jvm.Cond.code ({ cls := "NakMulticast", name := "validSeq", desc := "(I)Z" } : Jvm.MethodName) prog_1_method_19_code (2 : Nat) (Option.some Jvm.ClassFile.FieldType.boolean), Jvm.Cond.code ({ cls := "NakMulticast", name := "applyLead", desc := "(II)V" } : Jvm.MethodName) prog_1_method_30_code (6 : Nat) (Option.none : Option Jvm.ClassFile.FieldType), Jvm.Cond.code ({ cls := "NakMulticast", name := "applyTrail", desc := "(II)V" } : Jvm.MethodName) prog_1_method_31_code (7 : Nat) (Option.none : Option Jvm.ClassFile.FieldType), Jvm.Cond.code ({ cls := "NakMulticast", name := "deliver", desc := "(I)V" } : Jvm.MethodName) prog_1_method_33_code (5 : Nat) (Option.none : Option Jvm.ClassFile.FieldType), Jvm.Cond.code ({ cls := "NakMulticast", name := "appendDelivered", desc := "(III)V" } : Jvm.MethodName) prog_1_method_34_code (5 : Nat) (Option.none : Option Jvm.ClassFile.FieldType), Jvm.Cond.code ({ cls := "NakMulticast", name := "sourceLead", desc := "()I" } : Jvm.MethodName) prog_1_method_6_code (1 : Nat) (Option.some Jvm.ClassFile.FieldType.int), Jvm.Cond.code ({ cls := "NakMulticast", name := "stat", desc := "(I)I" } : Jvm.MethodName) prog_1_method_8_code (2 : Nat) (Option.some Jvm.ClassFile.FieldType.int), Jvm.Cond.code ({ cls := "NakMulticast", name := "rxInfo", desc := "(II)I" } : Jvm.MethodName) prog_1_method_11_code (3 : Nat) (Option.some Jvm.ClassFile.FieldType.int), Jvm.Cond.code ({ cls := "NakMulticast", name := "validRx", desc := "(I)Z" } : Jvm.MethodName) prog_1_method_18_code (2 : Nat) (Option.some Jvm.ClassFile.FieldType.boolean), Jvm.Cond.code ({ cls := "NakMulticast", name := "deliveredValue", desc := "(II)I" } : Jvm.MethodName) prog_1_method_15_code (3 : Nat) (Option.some Jvm.ClassFile.FieldType.int), Jvm.Cond.code ({ cls := "NakMulticast", name := "sourceTrail", desc := "()I" } : Jvm.MethodName) prog_1_method_7_code (1 : Nat) (Option.some Jvm.ClassFile.FieldType.int)]
set_option maxRecDepth 65536 in
theorem codes_eq : words1.filter isCode = codes1 := rfl
theorem w_codes : ∀ c ∈ words1.filter isCode, c.before args0 about1 = true := by
  rw [codes_eq]
  intro c hc
  simp only [codes1, List.mem_cons, List.not_mem_nil, or_false] at hc
  rcases hc with rfl | rfl | rfl | rfl | rfl | rfl | rfl | rfl | rfl | rfl | rfl | rfl | rfl | rfl | rfl | rfl | rfl | rfl | rfl | rfl | rfl | rfl
  · exact w_c0
  · exact w_c1
  · exact w_c2
  · exact w_c3
  · exact w_c4
  · exact w_c5
  · exact w_c6
  · exact w_c7
  · exact w_c8
  · exact w_c9
  · exact w_c10
  · exact w_c11
  · exact w_c12
  · exact w_c13
  · exact w_c14
  · exact w_c15
  · exact w_c16
  · exact w_c17
  · exact w_c18
  · exact w_c19
  · exact w_c20
  · exact w_c21
set_option maxRecDepth 65536 in
theorem w_t1 : (words1.take 24).all (fun c => isCode c || c.before args0 about1) = true := by decide +kernel
set_option maxRecDepth 65536 in
theorem w_t2 : ((words1.drop 24).take 24).all (fun c => isCode c || c.before args0 about1) = true := by decide +kernel
set_option maxRecDepth 65536 in
theorem w_t3 : (((words1.drop 24).drop 24).take 24).all (fun c => isCode c || c.before args0 about1) = true := by decide +kernel
set_option maxRecDepth 65536 in
theorem w_t4 : ((((words1.drop 24).drop 24).drop 24).take 24).all (fun c => isCode c || c.before args0 about1) = true := by decide +kernel
set_option maxRecDepth 65536 in
theorem w_t5 : (((((words1.drop 24).drop 24).drop 24).drop 24).take 24).all (fun c => isCode c || c.before args0 about1) = true := by decide +kernel
set_option maxRecDepth 65536 in
theorem w_t6 : (((((words1.drop 24).drop 24).drop 24).drop 24).drop 24).all (fun c => isCode c || c.before args0 about1) = true := by decide +kernel
theorem w_tables : (allAtoms (Jvm.Cond.code x code maxLocals ret :: tables_1)).before args0 about1 = true := by
  rw [allAtoms_all]
  show words1.all (fun c => c.before args0 about1) = true
  refine all_split ?_ w_codes
  rw [← List.take_append_drop 24 words1, List.all_append, w_t1, ← List.take_append_drop 24 (words1.drop 24), List.all_append, w_t2, ← List.take_append_drop 24 ((words1.drop 24).drop 24), List.all_append, w_t3, ← List.take_append_drop 24 (((words1.drop 24).drop 24).drop 24), List.all_append, w_t4, ← List.take_append_drop 24 ((((words1.drop 24).drop 24).drop 24).drop 24), List.all_append, w_t5, w_t6]
  rfl
set_option maxRecDepth 65536 in
theorem w_case : (Jvm.Cond.and given_1 narrow_1).before args0 about1 = true := by decide +kernel
theorem w_applies : (headSpec (Jvm.Cond.code x code maxLocals ret :: tables_1) room_1).applies x e0.platform about1 = true :=
  (Spec.applies_iff w_frames).mpr ⟨w_running, w_runnable, w_alone, w_named, w_hears, w_ripe, w_room, w_tables⟩
theorem atStart : AtStart classFile x code maxLocals ret World_1 tables_1 room_1 Calls_1 rest_1 Pre_1 launch0 p0 e0 about1 theMethod args0 below0 :=
  ⟨lists_1, trivial, launch0.admits_env _ _ _, launch0.least_env, fairChoices_fair.cas, fairChoices_fair.clock, w_frames, w_args, w_heap, w_applies, trivial, trivial, w_case⟩
end start1
theorem witness_1 : WitnessClaimed_1 := ⟨start1.p0, start1.e0, start1.about1, start1.theMethod, start1.args0, start1.below0, start1.atStart⟩
end Jvm.Pilot.@@N@@
