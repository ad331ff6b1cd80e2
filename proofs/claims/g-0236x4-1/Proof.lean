import JvmDerived
import JvmDerived.Pilot.@@N@@Statement
import JvmDerived.Pilot.@@N@@Code
set_option linter.unusedVariables false
set_option linter.unusedSimpArgs false
namespace Jvm.RoadKit
open Sem ClassFile Op Lib Jvm.Stand Jvm.Free Jvm.LawKit
section New
variable {p : Program} {l : Launch} {e : Env} {R : Room} {s : State} {m : MethodId} {args : Array Value} {below : List Frame} {meth : Method} {c : Code} {T : State} {locs : List Loc} {cells slots : Nat}
theorem retI (X : Stand p l e R s m args below meth c T locs cells slots) (hx : p.tables.exec = Jvm.exec) {pc : Nat} {Ls : Array Slot} {z : Int32} {rest : List Value} (hret : meth.sig.returnType = some .int) (hd : decode c.code pc = .ok (.ireturn, 1)) {fs : List Frame}
    (hl : ∀ (f : JFrame) (acts : List Action), f.method = m → f.locked = none → f.entered = [] → (doReturn e (T.setTop f) acts (some (.int z))).1 = T.setFrames fs) : Steps p.tables e below (T.setTop (mkF m pc Ls (.int z :: rest))) (T.setFrames fs) := by
  have hm' : T.vm.method? m = some meth := X.method'
  have hn : narrow .int (.int z) = .int z := rfl
  show Steps p.tables e below (T.setTop { method := m, pc := pc, locals := Ls, stack := _ :: rest, locked := none }) _
  jvm_step X.here [X.here.top, hx, hd, hm', hret, hn]
  first | (intro acts; rw [hl _ acts rfl rfl rfl]) | rw [hl _ _ rfl rfl rfl]
  exact Steps.refl _
end New
end Jvm.RoadKit
namespace Jvm.Pilot.@@N@@
open Jvm Jvm.ClassFile Sem Op Lib Jvm.Free Jvm.Stand Jvm.LawKit Jvm.RoadKit Bundle Jvm.Pilot.@@N@@.Jvm.D
/-! TABLES of this claim: printed by claim.py -/
def k0 : Nat := 0
def cName : String := "NakMulticast"
def cN : Nat := 26
def nF : Nat := 25
def kName (k : Nat) : String := bif Nat.beq k 0 then "NakMulticastL2" else "NakMulticast"
def fNm (k : Nat) : String := (bif Nat.ble 12 k then (bif Nat.ble 18 k then (bif Nat.ble 21 k then (bif Nat.ble 23 k then (bif Nat.ble 24 k then "qLen" else "nextSeq") else (bif Nat.ble 22 k then "period" else "repair")) else (bif Nat.ble 19 k then (bif Nat.ble 20 k then "back" else "win") else "nakBuf")) else (bif Nat.ble 15 k then (bif Nat.ble 16 k then (bif Nat.ble 17 k then "lostLen" else "lostLog") else "delLen") else (bif Nat.ble 13 k then (bif Nat.ble 14 k then "delVal" else "delSeq") else "drops"))) else (bif Nat.ble 6 k then (bif Nat.ble 9 k then (bif Nat.ble 10 k then (bif Nat.ble 11 k then "dups" else "lossLeft") else "rxTrail") else (bif Nat.ble 7 k then (bif Nat.ble 8 k then "rxLead" else "rxNext") else "rxVal")) else (bif Nat.ble 3 k then (bif Nat.ble 4 k then (bif Nat.ble 5 k then "timer" else "state") else "stats") else (bif Nat.ble 1 k then (bif Nat.ble 2 k then "queue" else "pend") else "srcPayload"))))
def fDs (k : Nat) : String := (bif Nat.ble 12 k then (bif Nat.ble 18 k then (bif Nat.ble 21 k then (bif Nat.ble 23 k then (bif Nat.ble 24 k then "I" else "I") else (bif Nat.ble 22 k then "I" else "I")) else (bif Nat.ble 19 k then (bif Nat.ble 20 k then "I" else "I") else "[I")) else (bif Nat.ble 15 k then (bif Nat.ble 16 k then (bif Nat.ble 17 k then "[I" else "[I") else "[I") else (bif Nat.ble 13 k then (bif Nat.ble 14 k then "[I" else "[I") else "[I"))) else (bif Nat.ble 6 k then (bif Nat.ble 9 k then (bif Nat.ble 10 k then (bif Nat.ble 11 k then "[I" else "[I") else "[I") else (bif Nat.ble 7 k then (bif Nat.ble 8 k then "[I" else "[I") else "[I")) else (bif Nat.ble 3 k then (bif Nat.ble 4 k then (bif Nat.ble 5 k then "[I" else "[I") else "[I") else (bif Nat.ble 1 k then (bif Nat.ble 2 k then "[I" else "[Z") else "[I"))))
def fTy (k : Nat) : FieldType := (bif Nat.ble 12 k then (bif Nat.ble 18 k then (bif Nat.ble 21 k then (bif Nat.ble 23 k then (bif Nat.ble 24 k then .int else .int) else (bif Nat.ble 22 k then .int else .int)) else (bif Nat.ble 19 k then (bif Nat.ble 20 k then .int else .int) else (.array .int))) else (bif Nat.ble 15 k then (bif Nat.ble 16 k then (bif Nat.ble 17 k then (.array .int) else (.array .int)) else (.array .int)) else (bif Nat.ble 13 k then (bif Nat.ble 14 k then (.array .int) else (.array .int)) else (.array .int)))) else (bif Nat.ble 6 k then (bif Nat.ble 9 k then (bif Nat.ble 10 k then (bif Nat.ble 11 k then (.array .int) else (.array .int)) else (.array .int)) else (bif Nat.ble 7 k then (bif Nat.ble 8 k then (.array .int) else (.array .int)) else (.array .int))) else (bif Nat.ble 3 k then (bif Nat.ble 4 k then (bif Nat.ble 5 k then (.array .int) else (.array .int)) else (.array .int)) else (bif Nat.ble 1 k then (bif Nat.ble 2 k then (.array .int) else (.array .boolean)) else (.array .int)))))
def fFin (k : Nat) : Bool := (bif Nat.ble 12 k then (bif Nat.ble 18 k then (bif Nat.ble 21 k then (bif Nat.ble 23 k then (bif Nat.ble 24 k then false else false) else (bif Nat.ble 22 k then false else false)) else (bif Nat.ble 19 k then (bif Nat.ble 20 k then false else false) else true)) else (bif Nat.ble 15 k then (bif Nat.ble 16 k then (bif Nat.ble 17 k then true else true) else true) else (bif Nat.ble 13 k then (bif Nat.ble 14 k then true else true) else true))) else (bif Nat.ble 6 k then (bif Nat.ble 9 k then (bif Nat.ble 10 k then (bif Nat.ble 11 k then true else true) else true) else (bif Nat.ble 7 k then (bif Nat.ble 8 k then true else true) else true)) else (bif Nat.ble 3 k then (bif Nat.ble 4 k then (bif Nat.ble 5 k then true else true) else true) else (bif Nat.ble 1 k then (bif Nat.ble 2 k then true else true) else true))))
def cDef : List Value := [.null, .null, .null, .null, .null, .null, .null, .null, .null, .null, .null, .null, .null, .null, .null, .null, .null, .null, .null, .int 0, .int 0, .int 0, .int 0, .int 0, .int 0]
def cK : List Value := []
def pN : Nat := 19
def pTop : Nat := 345
def pK (m : Nat) : Nat := (bif Nat.ble 9 m then (bif Nat.ble 14 m then (bif Nat.ble 16 m then (bif Nat.ble 17 m then (bif Nat.ble 18 m then 1 else 1) else 1) else (bif Nat.ble 15 m then 1 else 1)) else (bif Nat.ble 11 m then (bif Nat.ble 12 m then (bif Nat.ble 13 m then 1 else 1) else 1) else (bif Nat.ble 10 m then 1 else 1))) else (bif Nat.ble 4 m then (bif Nat.ble 6 m then (bif Nat.ble 7 m then (bif Nat.ble 8 m then 1 else 1) else 1) else (bif Nat.ble 5 m then 1 else 1)) else (bif Nat.ble 2 m then (bif Nat.ble 3 m then 1 else 1) else (bif Nat.ble 1 m then 1 else 0))))
def pNm (m : Nat) : String := (bif Nat.ble 9 m then (bif Nat.ble 14 m then (bif Nat.ble 16 m then (bif Nat.ble 17 m then (bif Nat.ble 18 m then "stat" else "rxInfo") else "appendDelivered") else (bif Nat.ble 15 m then "deliver" else "applyTrail")) else (bif Nat.ble 11 m then (bif Nat.ble 12 m then (bif Nat.ble 13 m then "applyLead" else "validSeq") else "applyData") else (bif Nat.ble 10 m then "copyTo" else "aggregatorApply"))) else (bif Nat.ble 4 m then (bif Nat.ble 6 m then (bif Nat.ble 7 m then (bif Nat.ble 8 m then "trail" else "lead") else "multicastSource") else (bif Nat.ble 5 m then "send" else "validRx")) else (bif Nat.ble 2 m then (bif Nat.ble 3 m then "setLoss" else "clamp") else (bif Nat.ble 1 m then "<init>" else "law"))))
def pDs (m : Nat) : String := (bif Nat.ble 9 m then (bif Nat.ble 14 m then (bif Nat.ble 16 m then (bif Nat.ble 17 m then (bif Nat.ble 18 m then "(I)I" else "(II)I") else "(III)V") else (bif Nat.ble 15 m then "(I)V" else "(II)V")) else (bif Nat.ble 11 m then (bif Nat.ble 12 m then (bif Nat.ble 13 m then "(II)V" else "(I)Z") else "(IIIII)V") else (bif Nat.ble 10 m then "(IIIIII)V" else "(III)V"))) else (bif Nat.ble 4 m then (bif Nat.ble 6 m then (bif Nat.ble 7 m then (bif Nat.ble 8 m then "()I" else "()I") else "(III)V") else (bif Nat.ble 5 m then "(I)I" else "(I)Z")) else (bif Nat.ble 2 m then (bif Nat.ble 3 m then "(II)Z" else "(III)I") else (bif Nat.ble 1 m then "(IIII)V" else "(IIIIII)Z"))))
def pName (m : Nat) : MethodName := ⟨kName (pK m), pNm m, pDs m⟩
def pBytes (m : Nat) : ByteArray := (bif Nat.ble 9 m then (bif Nat.ble 14 m then (bif Nat.ble 16 m then (bif Nat.ble 17 m then (bif Nat.ble 18 m then prog_1_method_8_code else prog_1_method_11_code) else prog_1_method_34_code) else (bif Nat.ble 15 m then prog_1_method_33_code else prog_1_method_31_code)) else (bif Nat.ble 11 m then (bif Nat.ble 12 m then (bif Nat.ble 13 m then prog_1_method_30_code else prog_1_method_19_code) else prog_1_method_28_code) else (bif Nat.ble 10 m then prog_1_method_27_code else prog_1_method_25_code))) else (bif Nat.ble 4 m then (bif Nat.ble 6 m then (bif Nat.ble 7 m then (bif Nat.ble 8 m then prog_1_method_21_code else prog_1_method_20_code) else prog_1_method_24_code) else (bif Nat.ble 5 m then prog_1_method_2_code else prog_1_method_18_code)) else (bif Nat.ble 2 m then (bif Nat.ble 3 m then prog_1_method_4_code else prog_1_method_17_code) else (bif Nat.ble 1 m then prog_1_method_1_code else code))))
def pMaxL (m : Nat) : Nat := (bif Nat.ble 9 m then (bif Nat.ble 14 m then (bif Nat.ble 16 m then (bif Nat.ble 17 m then (bif Nat.ble 18 m then 2 else 3) else 5) else (bif Nat.ble 15 m then 5 else 7)) else (bif Nat.ble 11 m then (bif Nat.ble 12 m then (bif Nat.ble 13 m then 6 else 2) else 8) else (bif Nat.ble 10 m then 7 else 5))) else (bif Nat.ble 4 m then (bif Nat.ble 6 m then (bif Nat.ble 7 m then (bif Nat.ble 8 m then 2 else 1) else 7) else (bif Nat.ble 5 m then 3 else 2)) else (bif Nat.ble 2 m then (bif Nat.ble 3 m then 3 else 4) else (bif Nat.ble 1 m then 6 else 21))))
def pRet (m : Nat) : Option FieldType := (bif Nat.ble 9 m then (bif Nat.ble 14 m then (bif Nat.ble 16 m then (bif Nat.ble 17 m then (bif Nat.ble 18 m then (some .int) else (some .int)) else none) else (bif Nat.ble 15 m then none else none)) else (bif Nat.ble 11 m then (bif Nat.ble 12 m then (bif Nat.ble 13 m then none else (some .boolean)) else none) else (bif Nat.ble 10 m then none else none))) else (bif Nat.ble 4 m then (bif Nat.ble 6 m then (bif Nat.ble 7 m then (bif Nat.ble 8 m then (some .int) else (some .int)) else none) else (bif Nat.ble 5 m then (some .int) else (some .boolean))) else (bif Nat.ble 2 m then (bif Nat.ble 3 m then (some .boolean) else (some .int)) else (bif Nat.ble 1 m then none else (some .boolean)))))
def pNA (m : Nat) : Nat := (bif Nat.ble 9 m then (bif Nat.ble 14 m then (bif Nat.ble 16 m then (bif Nat.ble 17 m then (bif Nat.ble 18 m then 1 else 2) else 3) else (bif Nat.ble 15 m then 1 else 2)) else (bif Nat.ble 11 m then (bif Nat.ble 12 m then (bif Nat.ble 13 m then 2 else 1) else 5) else (bif Nat.ble 10 m then 6 else 3))) else (bif Nat.ble 4 m then (bif Nat.ble 6 m then (bif Nat.ble 7 m then (bif Nat.ble 8 m then 0 else 0) else 3) else (bif Nat.ble 5 m then 1 else 1)) else (bif Nat.ble 2 m then (bif Nat.ble 3 m then 2 else 3) else (bif Nat.ble 1 m then 4 else 6))))
def pFr (m : Nat) : Nat := (bif Nat.ble 9 m then (bif Nat.ble 14 m then (bif Nat.ble 16 m then (bif Nat.ble 17 m then (bif Nat.ble 18 m then 0 else 1) else 0) else (bif Nat.ble 15 m then 1 else 0)) else (bif Nat.ble 11 m then (bif Nat.ble 12 m then (bif Nat.ble 13 m then 0 else 0) else 2) else (bif Nat.ble 10 m then 3 else 1))) else (bif Nat.ble 4 m then (bif Nat.ble 6 m then (bif Nat.ble 7 m then (bif Nat.ble 8 m then 0 else 0) else 4) else (bif Nat.ble 5 m then 5 else 0)) else (bif Nat.ble 2 m then (bif Nat.ble 3 m then 1 else 0) else (bif Nat.ble 1 m then 1 else 6))))
def pLo (m : Nat) : Nat := (bif Nat.ble 9 m then (bif Nat.ble 14 m then (bif Nat.ble 16 m then (bif Nat.ble 17 m then (bif Nat.ble 18 m then 0 else 13) else 0) else (bif Nat.ble 15 m then 16 else 0)) else (bif Nat.ble 11 m then (bif Nat.ble 12 m then (bif Nat.ble 13 m then 0 else 0) else 32) else (bif Nat.ble 10 m then 51 else 13))) else (bif Nat.ble 4 m then (bif Nat.ble 6 m then (bif Nat.ble 7 m then (bif Nat.ble 8 m then 0 else 0) else 69) else (bif Nat.ble 5 m then 87 else 0)) else (bif Nat.ble 2 m then (bif Nat.ble 3 m then 17 else 0) else (bif Nat.ble 1 m then 16 else 101))))
abbrev tB (k p : Nat) (a b : Option (Instr × Nat)) : Option (Instr × Nat) := bif Nat.ble k p then a else b
abbrev tL (k p : Nat) (i : Instr) (x : Nat) : Option (Instr × Nat) := bif Nat.beq p k then some (i, x) else none
def cd0 (p : Nat) : Option (Instr × Nat) := (tB 176 p (tB 264 p (tB 302 p (tB 324 p (tB 334 p (tB 340 p (tB 343 p (tB 344 p (tL 344 p .ireturn 0) (tL 343 p (.iconst 0) 0)) (tL 340 p (.goto 4) 344)) (tB 336 p (tB 339 p (tL 339 p (.iconst 1) 0) (tL 336 p (.ifCond .ne 7) 343)) (tL 334 p (.iload 20) 0))) (tB 328 p (tB 329 p (tB 332 p (tL 332 p (.istore 20) 0) (tL 329 p (.invokevirtual 20) 17)) (tL 328 p (.iconst 5) 0)) (tB 326 p (tL 326 p (.iload 18) 0) (tL 324 p (.aload 6) 0)))) (tB 314 p (tB 319 p (tB 322 p (tB 323 p (tL 323 p .ireturn 0) (tL 322 p (.iconst 0) 0)) (tL 319 p (.if_icmp .eq 5) 324)) (tB 315 p (tB 318 p (tL 318 p (.iconst 0) 0) (tL 315 p (.goto 4) 319)) (tL 314 p (.iconst 1) 0))) (tB 307 p (tB 309 p (tB 311 p (tL 311 p (.ifCond .eq 7) 318) (tL 309 p (.iload 8) 0)) (tL 307 p (.iload 19) 0)) (tB 305 p (tL 305 p (.istore 19) 0) (tL 302 p (.invokevirtual 20) 17))))) (tB 288 p (tB 293 p (tB 297 p (tB 299 p (tB 301 p (tL 301 p (.iconst 0) 0) (tL 299 p (.iload 18) 0)) (tL 297 p (.aload 6) 0)) (tB 294 p (tB 295 p (tL 295 p (.istore 18) 0) (tL 294 p .iand 0)) (tL 293 p (.iconst 3) 0))) (tB 290 p (tB 291 p (tB 292 p (tL 292 p .iadd 0) (tL 291 p (.iconst 1) 0)) (tL 290 p (.iload_n 3) 0)) (tB 289 p (tL 289 p .ireturn 0) (tL 288 p (.iconst 0) 0)))) (tB 275 p (tB 281 p (tB 284 p (tB 285 p (tL 285 p (.if_icmp .eq 5) 290) (tL 284 p (.iconst 0) 0)) (tL 281 p (.goto 4) 285)) (tB 277 p (tB 280 p (tL 280 p (.iconst 1) 0) (tL 277 p (.ifCond .eq 7) 284)) (tL 275 p (.iload 12) 0))) (tB 268 p (tB 271 p (tB 273 p (tL 273 p (.iload 17) 0) (tL 271 p (.istore 17) 0)) (tL 268 p (.invokevirtual 24) 18)) (tB 266 p (tL 266 p (.bipush 9) 0) (tL 264 p (.aload 6) 0)))))) (tB 221 p (tB 241 p (tB 253 p (tB 259 p (tB 262 p (tB 263 p (tL 263 p .ireturn 0) (tL 262 p (.iconst 0) 0)) (tL 259 p (.if_icmp .eq 5) 264)) (tB 254 p (tB 257 p (tL 257 p (.iload 13) 0) (tL 254 p (.goto 5) 259)) (tL 253 p (.iconst 0) 0))) (tB 246 p (tB 249 p (tB 250 p (tL 250 p (.goto 9) 259) (tL 249 p (.iconst 1) 0)) (tL 246 p (.ifCond .ne 7) 253)) (tB 244 p (tL 244 p (.iload 12) 0) (tL 241 p (.ifCond .eq 12) 253)))) (tB 227 p (tB 234 p (tB 236 p (tB 239 p (tL 239 p (.iload 8) 0) (tL 236 p (.ifCond .eq 21) 257)) (tL 234 p (.iload 7) 0)) (tB 230 p (tB 232 p (tL 232 p (.iload 16) 0) (tL 230 p (.istore 16) 0)) (tL 227 p (.invokevirtual 20) 17))) (tB 223 p (tB 225 p (tB 226 p (tL 226 p (.iconst 0) 0) (tL 225 p (.iload_n 3) 0)) (tL 223 p (.aload 6) 0)) (tB 222 p (tL 222 p .ireturn 0) (tL 221 p (.iconst 0) 0))))) (tB 196 p (tB 208 p (tB 213 p (tB 216 p (tB 218 p (tL 218 p (.if_icmp .eq 5) 223) (tL 216 p (.iload 13) 0)) (tL 213 p (.goto 5) 218)) (tB 209 p (tB 212 p (tL 212 p (.iconst 0) 0) (tL 209 p (.goto 9) 218)) (tL 208 p (.iconst 1) 0))) (tB 200 p (tB 203 p (tB 205 p (tL 205 p (.ifCond .eq 7) 212) (tL 203 p (.iload 12) 0)) (tL 200 p (.ifCond .eq 16) 216)) (tB 198 p (tL 198 p (.iload 7) 0) (tL 196 p (.iload 15) 0)))) (tB 186 p (tB 189 p (tB 191 p (tB 194 p (tL 194 p (.istore 15) 0) (tL 191 p (.invokevirtual 20) 17)) (tL 189 p (.bipush 7) 0)) (tB 188 p (tL 188 p (.iload_n 3) 0) (tL 186 p (.aload 6) 0))) (tB 181 p (tB 184 p (tB 185 p (tL 185 p .ireturn 0) (tL 184 p (.iconst 0) 0)) (tL 181 p (.if_icmp .eq 5) 186)) (tB 179 p (tL 179 p (.iload 13) 0) (tL 176 p (.goto 5) 181))))))) (tB 88 p (tB 133 p (tB 154 p (tB 165 p (tB 171 p (tB 174 p (tB 175 p (tL 175 p .isub 0) (tL 174 p (.iconst 0) 0)) (tL 171 p (.goto 4) 175)) (tB 167 p (tB 170 p (tL 170 p (.iconst 1) 0) (tL 167 p (.ifCond .eq 7) 174)) (tL 165 p (.iload 12) 0))) (tB 158 p (tB 160 p (tB 163 p (tL 163 p (.iload 9) 0) (tL 160 p (.ifCond .eq 19) 179)) (tL 158 p (.iload 7) 0)) (tB 156 p (tL 156 p (.iload 14) 0) (tL 154 p (.istore 14) 0)))) (tB 143 p (tB 149 p (tB 150 p (tB 151 p (tL 151 p (.invokevirtual 20) 17) (tL 150 p (.iconst 5) 0)) (tL 149 p (.iload_n 3) 0)) (tB 145 p (tB 147 p (tL 147 p (.aload 6) 0) (tL 145 p (.istore 13) 0)) (tL 143 p (.bipush (-2)) 0))) (tB 137 p (tB 140 p (tB 141 p (tL 141 p (.istore 12) 0) (tL 140 p (.iconst 0) 0)) (tL 137 p (.goto 4) 141)) (tB 136 p (tL 136 p (.iconst 1) 0) (tL 133 p (.ifCond .le 7) 140))))) (tB 111 p (tB 120 p (tB 126 p (tB 128 p (tB 131 p (tL 131 p (.iload 9) 0) (tL 128 p (.ifCond .eq 12) 140)) (tL 126 p (.iload 8) 0)) (tB 121 p (tB 123 p (tL 123 p (.ifCond .eq 17) 140) (tL 121 p (.iload 7) 0)) (tL 120 p .ireturn 0))) (tB 115 p (tB 116 p (tB 119 p (tL 119 p (.iconst 0) 0) (tL 116 p (.if_icmp .eq 5) 121)) (tL 115 p (.iconst (-1)) 0)) (tB 112 p (tL 112 p (.goto 4) 116) (tL 111 p (.iconst 0) 0)))) (tB 97 p (tB 104 p (tB 106 p (tB 108 p (tL 108 p (.ifCond .eq 7) 115) (tL 106 p (.iload 8) 0)) (tL 104 p (.iload 11) 0)) (tB 99 p (tB 102 p (tL 102 p (.istore 11) 0) (tL 99 p (.invokevirtual 16) 5)) (tL 97 p (.iload 5) 0))) (tB 93 p (tB 94 p (tB 95 p (tL 95 p (.aload 6) 0) (tL 94 p .ireturn 0)) (tL 93 p (.iconst 0) 0)) (tB 90 p (tL 90 p (.if_icmp .eq 5) 95) (tL 88 p (.iload 7) 0)))))) (tB 39 p (tB 63 p (tB 76 p (tB 81 p (tB 84 p (tB 86 p (tL 86 p (.iload 10) 0) (tL 84 p (.istore 10) 0)) (tL 81 p (.invokevirtual 12) 3)) (tB 78 p (tB 79 p (tL 79 p (.iload 4) 0) (tL 78 p (.iload_n 3) 0)) (tL 76 p (.aload 6) 0))) (tB 69 p (tB 72 p (tB 74 p (tL 74 p (.istore 9) 0) (tL 72 p (.iload 4) 0)) (tL 69 p (.goto 5) 74)) (tB 66 p (tL 66 p (.sipush 255) 0) (tL 63 p (.if_icmp .le 9) 72)))) (tB 49 p (tB 55 p (tB 58 p (tB 60 p (tL 60 p (.sipush 255) 0) (tL 58 p (.iload 4) 0)) (tL 55 p (.goto 19) 74)) (tB 51 p (tB 54 p (tL 54 p (.iconst 0) 0) (tL 51 p (.ifCond .ge 7) 58)) (tL 49 p (.iload 4) 0))) (tB 43 p (tB 46 p (tB 47 p (tL 47 p (.istore 8) 0) (tL 46 p (.iconst 0) 0)) (tL 43 p (.goto 4) 47)) (tB 42 p (tL 42 p (.iconst 1) 0) (tL 39 p (.if_icmp .gt 7) 46))))) (tB 17 p (tB 26 p (tB 31 p (tB 34 p (tB 36 p (tL 36 p (.sipush 255) 0) (tL 34 p (.iload 5) 0)) (tL 31 p (.ifCond .lt 15) 46)) (tB 27 p (tB 29 p (tL 29 p (.iload 5) 0) (tL 27 p (.istore 7) 0)) (tL 26 p (.iconst 0) 0))) (tB 19 p (tB 22 p (tB 23 p (tL 23 p (.goto 4) 27) (tL 22 p (.iconst 1) 0)) (tL 19 p (.if_icmp .gt 7) 26)) (tB 18 p (tL 18 p (.iconst 3) 0) (tL 17 p (.iload_n 3) 0)))) (tB 7 p (tB 11 p (tB 13 p (tB 14 p (tL 14 p (.ifCond .lt 12) 26) (tL 13 p (.iload_n 3) 0)) (tL 11 p (.astore 6) 0)) (tB 8 p (tL 8 p (.invokespecial 9) 1) (tL 7 p (.iload_n 2) 0))) (tB 4 p (tB 5 p (tB 6 p (tL 6 p (.iload_n 1) 0) (tL 5 p (.iload_n 1) 0)) (tL 4 p (.iload_n 0) 0)) (tB 3 p (tL 3 p .dup 0) (tL 0 p (.new 7) 0))))))))
def cd1 (p : Nat) : Option (Instr × Nat) := (tB 115 p (tB 171 p (tB 198 p (tB 213 p (tB 220 p (tB 224 p (tB 227 p (tL 227 p .return_ 0) (tL 224 p (.goto (-17)) 207)) (tB 221 p (tL 221 p (.iinc 5 1) 0) (tL 220 p .iastore 0))) (tB 217 p (tB 219 p (tL 219 p (.iconst (-1)) 0) (tL 217 p (.iload 5) 0)) (tB 214 p (tL 214 p (.getfield 35) 8) (tL 213 p (.aload_n 0) 0)))) (tB 205 p (tB 209 p (tB 210 p (tL 210 p (.if_icmp .ge 17) 227) (tL 209 p (.iconst 4) 0)) (tB 207 p (tL 207 p (.iload 5) 0) (tL 205 p (.istore 5) 0))) (tB 201 p (tB 204 p (tL 204 p (.iconst 0) 0) (tL 201 p (.putfield 82) 22)) (tL 198 p (.invokevirtual 68) 2)))) (tB 183 p (tB 192 p (tB 195 p (tB 196 p (tL 196 p (.bipush 16) 0) (tL 195 p (.iconst 0) 0)) (tB 193 p (tL 193 p (.iload 4) 0) (tL 192 p (.aload_n 0) 0))) (tB 188 p (tB 191 p (tL 191 p (.aload_n 0) 0) (tL 188 p (.putfield 79) 21)) (tB 185 p (tL 185 p (.invokevirtual 68) 2) (tL 183 p (.bipush 8) 0)))) (tB 179 p (tB 181 p (tB 182 p (tL 182 p (.iconst 1) 0) (tL 181 p (.iload_n 3) 0)) (tB 180 p (tL 180 p (.aload_n 0) 0) (tL 179 p (.aload_n 0) 0))) (tB 173 p (tB 176 p (tL 176 p (.putfield 76) 20) (tL 173 p (.invokevirtual 68) 2)) (tL 171 p (.bipush 8) 0))))) (tB 146 p (tB 158 p (tB 167 p (tB 169 p (tB 170 p (tL 170 p (.iconst 1) 0) (tL 169 p (.iload_n 2) 0)) (tB 168 p (tL 168 p (.aload_n 0) 0) (tL 167 p (.aload_n 0) 0))) (tB 161 p (tB 164 p (tL 164 p (.putfield 72) 19) (tL 161 p (.invokevirtual 68) 2)) (tB 159 p (tL 159 p (.bipush 16) 0) (tL 158 p (.iconst 2) 0)))) (tB 152 p (tB 156 p (tB 157 p (tL 157 p (.iload_n 1) 0) (tL 156 p (.aload_n 0) 0)) (tB 155 p (tL 155 p (.aload_n 0) 0) (tL 152 p (.putfield 65) 18))) (tB 147 p (tB 150 p (tL 150 p (.newarray .int) 0) (tL 147 p (.sipush 128) 0)) (tL 146 p (.aload_n 0) 0)))) (tB 130 p (tB 139 p (tB 141 p (tB 143 p (tL 143 p (.putfield 62) 17) (tL 141 p (.newarray .int) 0)) (tB 140 p (tL 140 p (.iconst 4) 0) (tL 139 p (.aload_n 0) 0))) (tB 134 p (tB 136 p (tL 136 p (.putfield 59) 16) (tL 134 p (.newarray .int) 0)) (tB 131 p (tL 131 p (.sipush 128) 0) (tL 130 p (.aload_n 0) 0)))) (tB 123 p (tB 125 p (tB 127 p (tL 127 p (.putfield 56) 15) (tL 125 p (.newarray .int) 0)) (tB 124 p (tL 124 p (.iconst 4) 0) (tL 123 p (.aload_n 0) 0))) (tB 118 p (tB 120 p (tL 120 p (.putfield 53) 14) (tL 118 p (.newarray .int) 0)) (tL 115 p (.sipush 128) 0)))))) (tB 60 p (tB 86 p (tB 99 p (tB 106 p (tB 111 p (tB 114 p (tL 114 p (.aload_n 0) 0) (tL 111 p (.putfield 50) 13)) (tB 109 p (tL 109 p (.newarray .int) 0) (tL 106 p (.sipush 128) 0))) (tB 102 p (tB 105 p (tL 105 p (.aload_n 0) 0) (tL 102 p (.putfield 47) 12)) (tB 100 p (tL 100 p (.newarray .int) 0) (tL 99 p (.iconst 4) 0)))) (tB 92 p (tB 95 p (tB 98 p (tL 98 p (.aload_n 0) 0) (tL 95 p (.putfield 44) 11)) (tB 93 p (tL 93 p (.newarray .int) 0) (tL 92 p (.iconst 4) 0))) (tB 88 p (tB 91 p (tL 91 p (.aload_n 0) 0) (tL 88 p (.putfield 41) 10)) (tL 86 p (.newarray .int) 0)))) (tB 72 p (tB 79 p (tB 84 p (tB 85 p (tL 85 p (.iconst 4) 0) (tL 84 p (.aload_n 0) 0)) (tB 81 p (tL 81 p (.putfield 38) 9) (tL 79 p (.newarray .int) 0))) (tB 77 p (tB 78 p (tL 78 p (.iconst 4) 0) (tL 77 p (.aload_n 0) 0)) (tB 74 p (tL 74 p (.putfield 35) 8) (tL 72 p (.newarray .int) 0)))) (tB 65 p (tB 70 p (tB 71 p (tL 71 p (.iconst 4) 0) (tL 70 p (.aload_n 0) 0)) (tB 67 p (tL 67 p (.putfield 32) 7) (tL 65 p (.newarray .int) 0))) (tB 63 p (tB 64 p (tL 64 p (.iconst 4) 0) (tL 63 p (.aload_n 0) 0)) (tL 60 p (.putfield 29) 6))))) (tB 28 p (tB 42 p (tB 51 p (tB 55 p (tB 58 p (tL 58 p (.newarray .int) 0) (tL 55 p (.sipush 128) 0)) (tB 54 p (tL 54 p (.aload_n 0) 0) (tL 51 p (.putfield 26) 5))) (tB 46 p (tB 49 p (tL 49 p (.newarray .int) 0) (tL 46 p (.sipush 128) 0)) (tB 45 p (tL 45 p (.aload_n 0) 0) (tL 42 p (.putfield 23) 4)))) (tB 33 p (tB 37 p (tB 40 p (tL 40 p (.newarray .int) 0) (tL 37 p (.sipush 128) 0)) (tB 36 p (tL 36 p (.aload_n 0) 0) (tL 33 p (.putfield 20) 3))) (tB 29 p (tB 31 p (tL 31 p (.newarray .int) 0) (tL 29 p (.bipush 10) 0)) (tL 28 p (.aload_n 0) 0)))) (tB 13 p (tB 20 p (tB 23 p (tB 25 p (tL 25 p (.putfield 17) 2) (tL 23 p (.newarray .int) 0)) (tB 21 p (tL 21 p (.bipush 64) 0) (tL 20 p (.aload_n 0) 0))) (tB 15 p (tB 17 p (tL 17 p (.putfield 13) 1) (tL 15 p (.newarray .boolean) 0)) (tL 13 p (.bipush 32) 0))) (tB 5 p (tB 9 p (tB 12 p (tL 12 p (.aload_n 0) 0) (tL 9 p (.putfield 7) 0)) (tB 7 p (tL 7 p (.newarray .int) 0) (tL 5 p (.bipush 32) 0))) (tB 1 p (tB 4 p (tL 4 p (.aload_n 0) 0) (tL 1 p (.invokespecial 1) 0)) (tL 0 p (.aload_n 0) 0)))))))
def cd2 (p : Nat) : Option (Instr × Nat) := (tB 8 p (tB 13 p (tB 14 p (tB 15 p (tL 15 p .ireturn 0) (tL 14 p (.iload_n 1) 0)) (tL 13 p .ireturn 0)) (tB 9 p (tB 12 p (tL 12 p (.iload_n 3) 0) (tL 9 p (.if_icmp .le 5) 14)) (tL 8 p (.iload_n 3) 0))) (tB 5 p (tB 6 p (tB 7 p (tL 7 p (.iload_n 1) 0) (tL 6 p .ireturn 0)) (tL 5 p (.iload_n 2) 0)) (tB 1 p (tB 2 p (tL 2 p (.if_icmp .ge 5) 7) (tL 1 p (.iload_n 2) 0)) (tL 0 p (.iload_n 1) 0))))
def cd3 (p : Nat) : Option (Instr × Nat) := (tB 14 p (tB 18 p (tB 24 p (tB 25 p (tB 26 p (tL 26 p .ireturn 0) (tL 25 p (.iconst 1) 0)) (tL 24 p .iastore 0)) (tB 21 p (tL 21 p (.invokevirtual 68) 2) (tL 18 p (.sipush 255) 0))) (tB 16 p (tB 17 p (tL 17 p (.iconst 0) 0) (tL 16 p (.iload_n 2) 0)) (tB 15 p (tL 15 p (.aload_n 0) 0) (tL 14 p (.iload_n 1) 0)))) (tB 8 p (tB 10 p (tB 11 p (tL 11 p (.getfield 41) 10) (tL 10 p (.aload_n 0) 0)) (tB 9 p (tL 9 p .ireturn 0) (tL 8 p (.iconst 0) 0))) (tB 2 p (tB 5 p (tL 5 p (.ifCond .ne 5) 10) (tL 2 p (.invokevirtual 92) 4)) (tB 1 p (tL 1 p (.iload_n 1) 0) (tL 0 p (.aload_n 0) 0)))))
def cd4 (p : Nat) : Option (Instr × Nat) := (tB 6 p (tB 10 p (tB 13 p (tB 14 p (tL 14 p .ireturn 0) (tL 13 p (.iconst 0) 0)) (tL 10 p (.goto 4) 14)) (tB 9 p (tL 9 p (.iconst 1) 0) (tL 6 p (.if_icmp .ge 7) 13))) (tB 4 p (tB 5 p (tL 5 p (.iconst 4) 0) (tL 4 p (.iload_n 1) 0)) (tB 1 p (tL 1 p (.ifCond .lt 12) 13) (tL 0 p (.iload_n 1) 0))))
def cd5 (p : Nat) : Option (Instr × Nat) := (tB 36 p (tB 52 p (tB 57 p (tB 60 p (tB 63 p (tB 64 p (tL 64 p .ireturn 0) (tL 63 p (.iload_n 2) 0)) (tL 60 p (.invokevirtual 88) 6)) (tB 58 p (tB 59 p (tL 59 p (.iload_n 1) 0) (tL 58 p (.iload_n 2) 0)) (tL 57 p (.iconst 0) 0))) (tB 54 p (tB 55 p (tB 56 p (tL 56 p (.aload_n 0) 0) (tL 55 p .iastore 0)) (tL 54 p .iadd 0)) (tB 53 p (tL 53 p (.iconst 1) 0) (tL 52 p .iaload 0)))) (tB 43 p (tB 47 p (tB 50 p (tB 51 p (tL 51 p .dup2 0) (tL 50 p (.iconst 1) 0)) (tL 47 p (.getfield 20) 3)) (tB 46 p (tL 46 p (.aload_n 0) 0) (tL 43 p (.putfield 85) 23))) (tB 38 p (tB 41 p (tB 42 p (tL 42 p .iadd 0) (tL 41 p (.iconst 1) 0)) (tL 38 p (.getfield 85) 23)) (tB 37 p (tL 37 p (.aload_n 0) 0) (tL 36 p (.aload_n 0) 0))))) (tB 19 p (tB 28 p (tB 33 p (tB 34 p (tB 35 p (tL 35 p .iastore 0) (tL 34 p (.iload_n 1) 0)) (tL 33 p (.iload_n 2) 0)) (tB 29 p (tB 30 p (tL 30 p (.getfield 7) 0) (tL 29 p (.aload_n 0) 0)) (tL 28 p (.istore_n 2) 0))) (tB 23 p (tB 24 p (tB 25 p (tL 25 p (.getfield 85) 23) (tL 24 p (.aload_n 0) 0)) (tL 23 p .ireturn 0)) (tB 22 p (tL 22 p (.iconst (-1)) 0) (tL 19 p (.if_icmp .lt 5) 24)))) (tB 11 p (tB 13 p (tB 14 p (tB 17 p (tL 17 p (.bipush 32) 0) (tL 14 p (.getfield 85) 23)) (tL 13 p (.aload_n 0) 0)) (tB 12 p (tL 12 p .ireturn 0) (tL 11 p (.iconst (-1)) 0))) (tB 4 p (tB 5 p (tB 8 p (tL 8 p (.if_icmp .le 5) 13) (tL 5 p (.sipush 255) 0)) (tL 4 p (.iload_n 1) 0)) (tB 1 p (tL 1 p (.ifCond .lt 10) 11) (tL 0 p (.iload_n 1) 0))))))
def cd6 (p : Nat) : Option (Instr × Nat) := (tB 23 p (tB 34 p (tB 39 p (tB 45 p (tB 48 p (tL 48 p .return_ 0) (tL 45 p (.goto (-22)) 23)) (tB 42 p (tL 42 p (.iinc 6 1) 0) (tL 39 p (.invokevirtual 121) 10))) (tB 35 p (tB 37 p (tL 37 p (.iload 5) 0) (tL 35 p (.iload 4) 0)) (tL 34 p (.iload_n 3) 0))) (tB 29 p (tB 32 p (tB 33 p (tL 33 p (.iload_n 2) 0) (tL 32 p (.iload_n 1) 0)) (tB 30 p (tL 30 p (.iload 6) 0) (tL 29 p (.aload_n 0) 0))) (tB 25 p (tB 26 p (tL 26 p (.if_icmp .ge 22) 48) (tL 25 p (.iconst 4) 0)) (tL 23 p (.iload 6) 0)))) (tB 12 p (tB 15 p (tB 20 p (tB 21 p (tL 21 p (.istore 6) 0) (tL 20 p (.iconst 0) 0)) (tB 17 p (tL 17 p (.invokevirtual 118) 9) (tL 15 p (.iload 5) 0))) (tB 13 p (tB 14 p (tL 14 p (.iload_n 2) 0) (tL 13 p (.iload_n 1) 0)) (tL 12 p (.aload_n 0) 0))) (tB 6 p (tB 7 p (tB 10 p (tL 10 p (.istore 5) 0) (tL 7 p (.invokevirtual 109) 8)) (tL 6 p (.aload_n 0) 0)) (tB 1 p (tB 4 p (tL 4 p (.istore 4) 0) (tL 1 p (.invokevirtual 105) 7)) (tL 0 p (.aload_n 0) 0)))))
def cd7 (p : Nat) : Option (Instr × Nat) := (tB 4 p (tB 5 p (tB 6 p (tL 6 p .ireturn 0) (tL 5 p .isub 0)) (tL 4 p (.iconst 1) 0)) (tB 1 p (tL 1 p (.getfield 85) 23) (tL 0 p (.aload_n 0) 0)))
def cd8 (p : Nat) : Option (Instr × Nat) := (tB 10 p (tB 15 p (tB 16 p (tB 17 p (tL 17 p .ireturn 0) (tL 16 p (.iload_n 1) 0)) (tL 15 p .ireturn 0)) (tB 11 p (tB 14 p (tL 14 p (.iconst 0) 0) (tL 11 p (.ifCond .ge 5) 16)) (tL 10 p (.iload_n 1) 0))) (tB 5 p (tB 8 p (tB 9 p (tL 9 p (.istore_n 1) 0) (tL 8 p .isub 0)) (tL 5 p (.getfield 72) 19)) (tB 1 p (tB 4 p (tL 4 p (.aload_n 0) 0) (tL 1 p (.getfield 85) 23)) (tL 0 p (.aload_n 0) 0))))
def cd9 (p : Nat) : Option (Instr × Nat) := (tB 23 p (tB 37 p (tB 43 p (tB 47 p (tB 50 p (tL 50 p .return_ 0) (tL 47 p (.goto (-24)) 23)) (tB 44 p (tL 44 p (.iinc 4 1) 0) (tL 43 p .bastore 0))) (tB 40 p (tB 42 p (tL 42 p (.iconst 0) 0) (tL 40 p (.iload 4) 0)) (tL 37 p (.getfield 13) 1))) (tB 29 p (tB 33 p (tB 36 p (tL 36 p (.aload_n 0) 0) (tL 33 p (.if_icmp .ge 17) 50)) (tB 31 p (tL 31 p (.bipush 32) 0) (tL 29 p (.iload 4) 0))) (tB 25 p (tB 26 p (tL 26 p (.if_icmp .ge 24) 50) (tL 25 p (.iload_n 3) 0)) (tL 23 p (.iload 4) 0)))) (tB 13 p (tB 18 p (tB 20 p (tB 21 p (tL 21 p (.istore 4) 0) (tL 20 p (.iconst 0) 0)) (tB 19 p (tL 19 p .bastore 0) (tL 18 p (.iconst 0) 0))) (tB 14 p (tB 17 p (tL 17 p (.iload_n 2) 0) (tL 14 p (.getfield 13) 1)) (tL 13 p (.aload_n 0) 0))) (tB 5 p (tB 7 p (tB 10 p (tL 10 p (.ifCond .eq 10) 20) (tL 7 p (.invokevirtual 115) 12)) (tB 6 p (tL 6 p (.iload_n 2) 0) (tL 5 p (.aload_n 0) 0))) (tB 1 p (tB 2 p (tL 2 p (.if_icmp .ne 18) 20) (tL 1 p (.iconst 1) 0)) (tL 0 p (.iload_n 1) 0)))))
def cd10 (p : Nat) : Option (Instr × Nat) := (tB 42 p (tB 70 p (tB 84 p (tB 92 p (tB 94 p (tB 98 p (tL 98 p .return_ 0) (tL 94 p (.iload_n 3) 0)) (tB 93 p (tL 93 p (.iload_n 1) 0) (tL 92 p (.aload_n 0) 0))) (tB 86 p (tB 89 p (tL 89 p (.goto 9) 98) (tL 86 p (.invokevirtual 136) 15)) (tB 85 p (tL 85 p (.iload_n 1) 0) (tL 84 p (.aload_n 0) 0)))) (tB 77 p (tB 79 p (tB 81 p (tL 81 p (.invokevirtual 133) 14) (tL 79 p (.iload 6) 0)) (tB 78 p (tL 78 p (.iload_n 1) 0) (tL 77 p (.aload_n 0) 0))) (tB 72 p (tB 74 p (tL 74 p (.invokevirtual 129) 13) (tL 72 p (.iload 5) 0)) (tB 71 p (tL 71 p (.iload_n 1) 0) (tL 70 p (.aload_n 0) 0))))) (tB 53 p (tB 62 p (tB 66 p (tB 67 p (tL 67 p (.if_icmp .ne 25) 92) (tL 66 p (.iconst 2) 0)) (tB 65 p (tL 65 p (.iload_n 2) 0) (tL 62 p (.goto 36) 98))) (tB 57 p (tB 59 p (tL 59 p (.invokevirtual 125) 11) (tL 57 p (.iload 6) 0)) (tB 55 p (tL 55 p (.iload 5) 0) (tL 53 p (.iload 4) 0)))) (tB 47 p (tB 51 p (tB 52 p (tL 52 p (.iload_n 3) 0) (tL 51 p (.iload_n 1) 0)) (tB 50 p (tL 50 p (.aload_n 0) 0) (tL 47 p (.if_icmp .ne 18) 65))) (tB 45 p (tB 46 p (tL 46 p (.iconst 1) 0) (tL 45 p (.iload_n 2) 0)) (tL 42 p (.ifCond .eq 8) 50))))) (tB 23 p (tB 33 p (tB 38 p (tB 40 p (tB 41 p (tL 41 p (.iload_n 2) 0) (tL 40 p .return_ 0)) (tB 39 p (tL 39 p .iastore 0) (tL 38 p .iadd 0))) (tB 36 p (tB 37 p (tL 37 p (.iconst 1) 0) (tL 36 p .iaload 0)) (tB 35 p (tL 35 p .dup2 0) (tL 33 p (.bipush 9) 0)))) (tB 27 p (tB 29 p (tB 30 p (tL 30 p (.getfield 20) 3) (tL 29 p (.aload_n 0) 0)) (tB 28 p (tL 28 p .iastore 0) (tL 27 p .iadd 0))) (tB 25 p (tB 26 p (tL 26 p (.iconst 1) 0) (tL 25 p .iaload 0)) (tB 24 p (tL 24 p .dup2 0) (tL 23 p (.iload_n 1) 0))))) (tB 13 p (tB 17 p (tB 19 p (tB 20 p (tL 20 p (.getfield 47) 12) (tL 19 p (.aload_n 0) 0)) (tB 18 p (tL 18 p .iastore 0) (tL 17 p .isub 0))) (tB 15 p (tB 16 p (tL 16 p (.iconst 1) 0) (tL 15 p .iaload 0)) (tB 14 p (tL 14 p .dup2 0) (tL 13 p (.iload_n 1) 0)))) (tB 5 p (tB 9 p (tB 10 p (tL 10 p (.getfield 41) 10) (tL 9 p (.aload_n 0) 0)) (tB 6 p (tL 6 p (.ifCond .le 35) 41) (tL 5 p .iaload 0))) (tB 1 p (tB 4 p (tL 4 p (.iload_n 1) 0) (tL 1 p (.getfield 41) 10)) (tL 0 p (.aload_n 0) 0))))))
def cd11 (p : Nat) : Option (Instr × Nat) := (tB 53 p (tB 74 p (tB 84 p (tB 90 p (tB 92 p (tB 95 p (tL 95 p .return_ 0) (tL 92 p (.invokevirtual 136) 15)) (tB 91 p (tL 91 p (.iload_n 1) 0) (tL 90 p (.aload_n 0) 0))) (tB 85 p (tB 87 p (tL 87 p (.invokevirtual 133) 14) (tL 85 p (.iload 5) 0)) (tL 84 p (.iload_n 1) 0))) (tB 77 p (tB 80 p (tB 83 p (tL 83 p (.aload_n 0) 0) (tL 80 p (.invokevirtual 129) 13)) (tB 78 p (tL 78 p (.iload 4) 0) (tL 77 p (.iload_n 1) 0))) (tB 75 p (tB 76 p (tL 76 p (.aload_n 0) 0) (tL 75 p .iastore 0)) (tL 74 p .iadd 0)))) (tB 63 p (tB 70 p (tB 72 p (tB 73 p (tL 73 p (.iconst 1) 0) (tL 72 p .iaload 0)) (tB 71 p (tL 71 p .dup2 0) (tL 70 p (.iload_n 1) 0))) (tB 66 p (tB 67 p (tL 67 p (.getfield 44) 11) (tL 66 p (.aload_n 0) 0)) (tL 63 p (.goto 13) 76))) (tB 56 p (tB 61 p (tB 62 p (tL 62 p .iastore 0) (tL 61 p (.iconst 0) 0)) (tB 59 p (tL 59 p (.iload 6) 0) (tL 56 p (.getfield 26) 5))) (tB 54 p (tB 55 p (tL 55 p (.aload_n 0) 0) (tL 54 p .iastore 0)) (tL 53 p (.iload_n 3) 0))))) (tB 23 p (tB 40 p (tB 46 p (tB 48 p (tB 51 p (tL 51 p (.iload 6) 0) (tL 48 p (.getfield 29) 6)) (tB 47 p (tL 47 p (.aload_n 0) 0) (tL 46 p .iastore 0))) (tB 43 p (tB 45 p (tL 45 p (.iconst 4) 0) (tL 43 p (.iload 6) 0)) (tL 40 p (.getfield 23) 4))) (tB 30 p (tB 36 p (tB 39 p (tL 39 p (.aload_n 0) 0) (tL 36 p (.ifCond .eq 30) 66)) (tB 31 p (tL 31 p (.iload 7) 0) (tL 30 p (.aload_n 0) 0))) (tB 25 p (tB 27 p (tL 27 p (.ifCond .eq 12) 39) (tL 25 p (.iload 7) 0)) (tL 23 p (.istore 7) 0)))) (tB 12 p (tB 16 p (tB 20 p (tB 22 p (tL 22 p .iaload 0) (tL 20 p (.iload 6) 0)) (tB 17 p (tL 17 p (.getfield 23) 4) (tL 16 p (.aload_n 0) 0))) (tB 13 p (tB 14 p (tL 14 p (.istore 6) 0) (tL 13 p .iadd 0)) (tL 12 p (.iload_n 2) 0))) (tB 5 p (tB 9 p (tB 11 p (tL 11 p .imul 0) (tL 9 p (.bipush 32) 0)) (tB 8 p (tL 8 p (.iload_n 1) 0) (tL 5 p (.ifCond .eq 71) 76))) (tB 1 p (tB 2 p (tL 2 p (.invokevirtual 115) 12) (tL 1 p (.iload_n 2) 0)) (tL 0 p (.aload_n 0) 0))))))
def cd12 (p : Nat) : Option (Instr × Nat) := (tB 7 p (tB 11 p (tB 14 p (tB 15 p (tL 15 p .ireturn 0) (tL 14 p (.iconst 0) 0)) (tL 11 p (.goto 4) 15)) (tB 10 p (tL 10 p (.iconst 1) 0) (tL 7 p (.if_icmp .ge 7) 14))) (tB 4 p (tB 5 p (tL 5 p (.bipush 32) 0) (tL 4 p (.iload_n 1) 0)) (tB 1 p (tL 1 p (.ifCond .lt 13) 14) (tL 0 p (.iload_n 1) 0))))
def cd13 (p : Nat) : Option (Instr × Nat) := (tB 44 p (tB 70 p (tB 83 p (tB 90 p (tB 92 p (tB 93 p (tL 93 p .return_ 0) (tL 92 p .iastore 0)) (tB 91 p (tL 91 p (.iload_n 2) 0) (tL 90 p (.iload_n 1) 0))) (tB 86 p (tB 87 p (tL 87 p (.getfield 35) 8) (tL 86 p (.aload_n 0) 0)) (tL 83 p (.if_icmp .le 10) 93))) (tB 77 p (tB 81 p (tB 82 p (tL 82 p .iaload 0) (tL 81 p (.iload_n 1) 0)) (tB 78 p (tL 78 p (.getfield 35) 8) (tL 77 p (.aload_n 0) 0))) (tB 73 p (tB 76 p (tL 76 p (.iload_n 2) 0) (tL 73 p (.goto (-55)) 18)) (tL 70 p (.iinc 4 1) 0)))) (tB 57 p (tB 62 p (tB 65 p (tB 69 p (tL 69 p .iastore 0) (tL 65 p (.iload_n 1) 0)) (tB 64 p (tL 64 p (.aload_n 0) 0) (tL 62 p (.iload 5) 0))) (tB 58 p (tB 59 p (tL 59 p (.getfield 26) 5) (tL 58 p (.aload_n 0) 0)) (tL 57 p .iastore 0))) (tB 50 p (tB 54 p (tB 56 p (tL 56 p (.iconst 1) 0) (tL 54 p (.iload 5) 0)) (tB 51 p (tL 51 p (.getfield 23) 4) (tL 50 p (.aload_n 0) 0))) (tB 46 p (tB 47 p (tL 47 p (.ifCond .ne 23) 70) (tL 46 p .iaload 0)) (tL 44 p (.iload 5) 0))))) (tB 18 p (tB 32 p (tB 37 p (tB 40 p (tB 41 p (tL 41 p (.getfield 23) 4) (tL 40 p (.aload_n 0) 0)) (tB 38 p (tL 38 p (.istore 5) 0) (tL 37 p .iadd 0))) (tB 34 p (tB 35 p (tL 35 p (.iload 4) 0) (tL 34 p .imul 0)) (tL 32 p (.bipush 32) 0))) (tB 24 p (tB 28 p (tB 31 p (tL 31 p (.iload_n 1) 0) (tL 28 p (.if_icmp .ge 48) 76)) (tB 26 p (tL 26 p (.bipush 32) 0) (tL 24 p (.iload 4) 0))) (tB 20 p (tB 21 p (tL 21 p (.if_icmp .gt 55) 76) (tL 20 p (.iload_n 2) 0)) (tL 18 p (.iload 4) 0)))) (tB 8 p (tB 13 p (tB 15 p (tB 16 p (tL 16 p (.istore 4) 0) (tL 15 p (.iload_n 3) 0)) (tB 14 p (tL 14 p (.istore_n 3) 0) (tL 13 p (.iconst 0) 0))) (tB 9 p (tB 10 p (tL 10 p (.ifCond .ge 5) 15) (tL 9 p (.iload_n 3) 0)) (tL 8 p (.istore_n 3) 0))) (tB 5 p (tB 6 p (tB 7 p (tL 7 p .iadd 0) (tL 6 p (.iconst 1) 0)) (tL 5 p .iaload 0)) (tB 1 p (tB 4 p (tL 4 p (.iload_n 1) 0) (tL 1 p (.getfield 35) 8)) (tL 0 p (.aload_n 0) 0))))))
def cd14 (p : Nat) : Option (Instr × Nat) := (tB 51 p (tB 81 p (tB 97 p (tB 102 p (tB 108 p (tB 111 p (tB 114 p (tL 114 p .return_ 0) (tL 111 p (.goto (-77)) 34)) (tL 108 p (.iinc 4 1) 0)) (tB 103 p (tL 103 p (.iload 4) 0) (tL 102 p (.iload_n 1) 0))) (tB 100 p (tB 101 p (tL 101 p (.aload_n 0) 0) (tL 100 p .iastore 0)) (tB 99 p (tL 99 p (.iconst 0) 0) (tL 97 p (.iload 5) 0)))) (tB 90 p (tB 93 p (tB 94 p (tL 94 p (.getfield 26) 5) (tL 93 p (.aload_n 0) 0)) (tB 92 p (tL 92 p .iastore 0) (tL 90 p (.bipush 6) 0))) (tB 85 p (tB 88 p (tL 88 p (.iload 5) 0) (tL 85 p (.getfield 23) 4)) (tB 84 p (tL 84 p (.aload_n 0) 0) (tL 81 p (.if_icmp .eq 27) 108))))) (tB 65 p (tB 73 p (tB 77 p (tB 79 p (tL 79 p (.bipush 6) 0) (tL 77 p (.iload 6) 0)) (tB 74 p (tL 74 p (.if_icmp .eq 34) 108) (tL 73 p (.iconst 5) 0))) (tB 68 p (tB 71 p (tL 71 p (.iload 6) 0) (tL 68 p (.if_icmp .eq 40) 108)) (tB 67 p (tL 67 p (.iconst 4) 0) (tL 65 p (.iload 6) 0)))) (tB 57 p (tB 62 p (tB 63 p (tL 63 p (.istore 6) 0) (tL 62 p .iaload 0)) (tB 60 p (tL 60 p (.iload 5) 0) (tL 57 p (.getfield 23) 4))) (tB 54 p (tB 56 p (tL 56 p (.aload_n 0) 0) (tL 54 p (.istore 5) 0)) (tB 53 p (tL 53 p .iadd 0) (tL 51 p (.iload 4) 0)))))) (tB 24 p (tB 36 p (tB 44 p (tB 48 p (tB 50 p (tL 50 p .imul 0) (tL 48 p (.bipush 32) 0)) (tB 47 p (tL 47 p (.iload_n 1) 0) (tL 44 p (.if_icmp .ge 70) 114))) (tB 40 p (tB 42 p (tL 42 p (.bipush 32) 0) (tL 40 p (.iload 4) 0)) (tB 37 p (tL 37 p (.if_icmp .ge 77) 114) (tL 36 p (.iload_n 2) 0)))) (tB 30 p (tB 32 p (tB 34 p (tL 34 p (.iload 4) 0) (tL 32 p (.istore 4) 0)) (tB 31 p (tL 31 p (.iload_n 3) 0) (tL 30 p (.istore_n 3) 0))) (tB 26 p (tB 29 p (tL 29 p (.iconst 0) 0) (tL 26 p (.ifCond .ge 5) 31)) (tB 25 p (tL 25 p (.iload_n 3) 0) (tL 24 p (.istore_n 3) 0))))) (tB 12 p (tB 18 p (tB 22 p (tB 23 p (tL 23 p .iaload 0) (tL 22 p (.iload_n 1) 0)) (tB 19 p (tL 19 p (.getfield 32) 7) (tL 18 p (.aload_n 0) 0))) (tB 16 p (tB 17 p (tL 17 p .iastore 0) (tL 16 p (.iload_n 2) 0)) (tB 15 p (tL 15 p (.iload_n 1) 0) (tL 12 p (.getfield 38) 9)))) (tB 6 p (tB 10 p (tB 11 p (tL 11 p (.aload_n 0) 0) (tL 10 p .return_ 0)) (tB 7 p (tL 7 p (.if_icmp .gt 4) 11) (tL 6 p .iaload 0))) (tB 2 p (tB 5 p (tL 5 p (.iload_n 1) 0) (tL 2 p (.getfield 38) 9)) (tB 1 p (tL 1 p (.aload_n 0) 0) (tL 0 p (.iload_n 2) 0)))))))
def cd15 (p : Nat) : Option (Instr × Nat) := (tB 45 p (tB 67 p (tB 78 p (tB 81 p (tB 85 p (tB 88 p (tL 88 p .return_ 0) (tL 85 p (.goto (-78)) 7)) (tB 82 p (tL 82 p (.iinc 2 1) 0) (tL 81 p .iastore 0))) (tB 79 p (tB 80 p (tL 80 p .iadd 0) (tL 79 p (.iconst 1) 0)) (tL 78 p (.iload_n 2) 0))) (tB 72 p (tB 74 p (tB 77 p (tL 77 p (.iload_n 1) 0) (tL 74 p (.getfield 32) 7)) (tB 73 p (tL 73 p (.aload_n 0) 0) (tL 72 p .iastore 0))) (tB 70 p (tB 71 p (tL 71 p (.iconst 5) 0) (tL 70 p (.iload_n 3) 0)) (tL 67 p (.getfield 23) 4)))) (tB 56 p (tB 61 p (tB 63 p (tB 66 p (tL 66 p (.aload_n 0) 0) (tL 63 p (.invokevirtual 153) 16)) (tB 62 p (tL 62 p .iaload 0) (tL 61 p (.iload_n 3) 0))) (tB 57 p (tB 58 p (tL 58 p (.getfield 29) 6) (tL 57 p (.aload_n 0) 0)) (tL 56 p (.iload_n 2) 0))) (tB 51 p (tB 54 p (tB 55 p (tL 55 p (.iload_n 1) 0) (tL 54 p (.aload_n 0) 0)) (tL 51 p (.if_icmp .ne 22) 73)) (tB 48 p (tB 50 p (tL 50 p (.iconst 4) 0) (tL 48 p (.iload 4) 0)) (tL 45 p (.goto 43) 88))))) (tB 21 p (tB 30 p (tB 35 p (tB 40 p (tB 42 p (tL 42 p (.if_icmp .eq 6) 48) (tL 40 p (.bipush 6) 0)) (tB 38 p (tL 38 p (.iload 4) 0) (tL 35 p (.if_icmp .eq 13) 48))) (tB 32 p (tB 34 p (tL 34 p (.iconst 4) 0) (tL 32 p (.iload 4) 0)) (tL 30 p (.istore 4) 0))) (tB 24 p (tB 28 p (tB 29 p (tL 29 p .iaload 0) (tL 28 p (.iload_n 3) 0)) (tB 25 p (tL 25 p (.getfield 23) 4) (tL 24 p (.aload_n 0) 0))) (tB 22 p (tB 23 p (tL 23 p (.istore_n 3) 0) (tL 22 p .iadd 0)) (tL 21 p (.iload_n 2) 0)))) (tB 8 p (tB 14 p (tB 18 p (tB 20 p (tL 20 p .imul 0) (tL 18 p (.bipush 32) 0)) (tB 17 p (tL 17 p (.iload_n 1) 0) (tL 14 p (.if_icmp .ge 74) 88))) (tB 11 p (tB 12 p (tL 12 p (.bipush 32) 0) (tL 11 p (.iload_n 2) 0)) (tL 8 p (.ifCond .lt 80) 88))) (tB 5 p (tB 6 p (tB 7 p (tL 7 p (.iload_n 2) 0) (tL 6 p (.istore_n 2) 0)) (tL 5 p .iaload 0)) (tB 1 p (tB 4 p (tL 4 p (.iload_n 1) 0) (tL 1 p (.getfield 32) 7)) (tL 0 p (.aload_n 0) 0))))))
def cd16 (p : Nat) : Option (Instr × Nat) := (tB 28 p (tB 40 p (tB 46 p (tB 48 p (tB 49 p (tB 50 p (tL 50 p .return_ 0) (tL 49 p .iastore 0)) (tL 48 p .iadd 0)) (tB 47 p (tL 47 p (.iconst 1) 0) (tL 46 p .iaload 0))) (tB 44 p (tB 45 p (tL 45 p .dup2 0) (tL 44 p (.iload_n 1) 0)) (tB 41 p (tL 41 p (.getfield 56) 15) (tL 40 p (.aload_n 0) 0)))) (tB 33 p (tB 38 p (tB 39 p (tL 39 p .iastore 0) (tL 38 p (.iload_n 3) 0)) (tB 36 p (tL 36 p (.iload 4) 0) (tL 33 p (.getfield 53) 14))) (tB 31 p (tB 32 p (tL 32 p (.aload_n 0) 0) (tL 31 p .iastore 0)) (tB 30 p (tL 30 p (.iload_n 2) 0) (tL 28 p (.iload 4) 0))))) (tB 14 p (tB 20 p (tB 22 p (tB 24 p (tB 25 p (tL 25 p (.getfield 50) 13) (tL 24 p (.aload_n 0) 0)) (tL 22 p (.istore 4) 0)) (tB 21 p (tL 21 p .iadd 0) (tL 20 p .iaload 0))) (tB 16 p (tB 19 p (tL 19 p (.iload_n 1) 0) (tL 16 p (.getfield 56) 15)) (tB 15 p (tL 15 p (.aload_n 0) 0) (tL 14 p .imul 0)))) (tB 6 p (tB 11 p (tB 12 p (tL 12 p (.bipush 32) 0) (tL 11 p (.iload_n 1) 0)) (tB 8 p (tL 8 p (.if_icmp .ge 42) 50) (tL 6 p (.bipush 32) 0))) (tB 4 p (tB 5 p (tL 5 p .iaload 0) (tL 4 p (.iload_n 1) 0)) (tB 1 p (tL 1 p (.getfield 56) 15) (tL 0 p (.aload_n 0) 0))))))
def cd17 (p : Nat) : Option (Instr × Nat) := (tB 56 p (tB 82 p (tB 96 p (tB 105 p (tB 107 p (tB 108 p (tB 110 p (tL 110 p .ireturn 0) (tL 108 p (.bipush (-2)) 0)) (tL 107 p .ireturn 0)) (tB 106 p (tL 106 p .iaload 0) (tL 105 p (.iload_n 1) 0))) (tB 101 p (tB 102 p (tL 102 p (.getfield 47) 12) (tL 101 p (.aload_n 0) 0)) (tB 98 p (tL 98 p (.if_icmp .ne 10) 108) (tL 96 p (.bipush 7) 0)))) (tB 89 p (tB 93 p (tB 94 p (tB 95 p (tL 95 p (.iload_n 2) 0) (tL 94 p .ireturn 0)) (tL 93 p .iaload 0)) (tB 92 p (tL 92 p (.iload_n 1) 0) (tL 89 p (.getfield 44) 11))) (tB 85 p (tB 88 p (tL 88 p (.aload_n 0) 0) (tL 85 p (.if_icmp .ne 10) 95)) (tB 83 p (tL 83 p (.bipush 6) 0) (tL 82 p (.iload_n 2) 0))))) (tB 69 p (tB 75 p (tB 79 p (tB 80 p (tB 81 p (tL 81 p .ireturn 0) (tL 80 p .iaload 0)) (tL 79 p (.iload_n 1) 0)) (tB 76 p (tL 76 p (.getfield 41) 10) (tL 75 p (.aload_n 0) 0))) (tB 71 p (tB 72 p (tL 72 p (.if_icmp .ne 10) 82) (tL 71 p (.iconst 5) 0)) (tB 70 p (tL 70 p (.iload_n 2) 0) (tL 69 p .ireturn 0)))) (tB 60 p (tB 64 p (tB 67 p (tB 68 p (tL 68 p .iaload 0) (tL 67 p (.iload_n 1) 0)) (tL 64 p (.getfield 62) 17)) (tB 63 p (tL 63 p (.aload_n 0) 0) (tL 60 p (.if_icmp .ne 10) 70))) (tB 58 p (tB 59 p (tL 59 p (.iconst 4) 0) (tL 58 p (.iload_n 2) 0)) (tB 57 p (tL 57 p .ireturn 0) (tL 56 p .iaload 0)))))) (tB 28 p (tB 43 p (tB 47 p (tB 51 p (tB 52 p (tB 55 p (tL 55 p (.iload_n 1) 0) (tL 52 p (.getfield 56) 15)) (tL 51 p (.aload_n 0) 0)) (tB 48 p (tL 48 p (.if_icmp .ne 10) 58) (tL 47 p (.iconst 3) 0))) (tB 45 p (tB 46 p (tL 46 p (.iload_n 2) 0) (tL 45 p .ireturn 0)) (tB 44 p (tL 44 p .iaload 0) (tL 43 p (.iload_n 1) 0)))) (tB 34 p (tB 36 p (tB 39 p (tB 40 p (tL 40 p (.getfield 38) 9) (tL 39 p (.aload_n 0) 0)) (tL 36 p (.if_icmp .ne 10) 46)) (tB 35 p (tL 35 p (.iconst 2) 0) (tL 34 p (.iload_n 2) 0))) (tB 32 p (tB 33 p (tL 33 p .ireturn 0) (tL 32 p .iaload 0)) (tB 31 p (tL 31 p (.iload_n 1) 0) (tL 28 p (.getfield 35) 8))))) (tB 15 p (tB 21 p (tB 23 p (tB 24 p (tB 27 p (tL 27 p (.aload_n 0) 0) (tL 24 p (.if_icmp .ne 10) 34)) (tL 23 p (.iconst 1) 0)) (tB 22 p (tL 22 p (.iload_n 2) 0) (tL 21 p .ireturn 0))) (tB 19 p (tB 20 p (tL 20 p .iaload 0) (tL 19 p (.iload_n 1) 0)) (tB 16 p (tL 16 p (.getfield 32) 7) (tL 15 p (.aload_n 0) 0)))) (tB 8 p (tB 11 p (tB 12 p (tL 12 p (.ifCond .ne 10) 22) (tL 11 p (.iload_n 2) 0)) (tB 10 p (tL 10 p .ireturn 0) (tL 8 p (.bipush (-2)) 0))) (tB 2 p (tB 5 p (tL 5 p (.ifCond .ne 6) 11) (tL 2 p (.invokevirtual 92) 4)) (tB 1 p (tL 1 p (.iload_n 1) 0) (tL 0 p (.aload_n 0) 0)))))))
def cd18 (p : Nat) : Option (Instr × Nat) := (tB 16 p (tB 23 p (tB 27 p (tB 28 p (tB 29 p (tL 29 p .ireturn 0) (tL 28 p .iaload 0)) (tL 27 p (.iload_n 1) 0)) (tB 24 p (tL 24 p (.getfield 20) 3) (tL 23 p (.aload_n 0) 0))) (tB 21 p (tB 22 p (tL 22 p .ireturn 0) (tL 21 p (.iconst (-1)) 0)) (tB 18 p (tL 18 p (.if_icmp .le 5) 23) (tL 16 p (.bipush 9) 0)))) (tB 7 p (tB 11 p (tB 12 p (tB 15 p (tL 15 p (.iload_n 1) 0) (tL 12 p (.ifCond .lt 9) 21)) (tL 11 p (.iload_n 1) 0)) (tB 10 p (tL 10 p .ireturn 0) (tL 7 p (.getfield 112) 24))) (tB 3 p (tB 6 p (tL 6 p (.aload_n 0) 0) (tL 3 p (.if_icmp .ne 8) 11)) (tB 1 p (tL 1 p (.bipush 8) 0) (tL 0 p (.iload_n 1) 0)))))
def pCode (m pc : Nat) : Option (Instr × Nat) := bif Nat.ble pN m then none else bif Nat.ble pTop pc then none else (bif Nat.ble 9 m then (bif Nat.ble 14 m then (bif Nat.ble 16 m then (bif Nat.ble 17 m then (bif Nat.ble 18 m then cd18 pc else cd17 pc) else cd16 pc) else (bif Nat.ble 15 m then cd15 pc else cd14 pc)) else (bif Nat.ble 11 m then (bif Nat.ble 12 m then (bif Nat.ble 13 m then cd13 pc else cd12 pc) else cd11 pc) else (bif Nat.ble 10 m then cd10 pc else cd9 pc))) else (bif Nat.ble 4 m then (bif Nat.ble 6 m then (bif Nat.ble 7 m then (bif Nat.ble 8 m then cd8 pc else cd7 pc) else cd6 pc) else (bif Nat.ble 5 m then cd5 pc else cd4 pc)) else (bif Nat.ble 2 m then (bif Nat.ble 3 m then cd3 pc else cd2 pc) else (bif Nat.ble 1 m then cd1 pc else cd0 pc))))
def lkF : List (Nat × Nat × Nat) := [(1, 7, 0), (1, 13, 1), (1, 17, 2), (1, 20, 3), (1, 23, 4), (1, 26, 5), (1, 29, 6), (1, 32, 7), (1, 35, 8), (1, 38, 9), (1, 41, 10), (1, 44, 11), (1, 47, 12), (1, 50, 13), (1, 53, 14), (1, 56, 15), (1, 59, 16), (1, 62, 17), (1, 65, 18), (1, 72, 19), (1, 76, 20), (1, 79, 21), (1, 82, 22), (1, 85, 23), (1, 112, 24)]
def lkN : List (Nat × Nat) := [(0, 7)]
def lkC : List (Nat × Nat × Nat) := []
def lkD : List (Nat × Nat × Nat) := []
def lkV : List (Nat × Nat × Nat) := [(0, 9, 1), (1, 68, 2), (0, 12, 3), (1, 92, 4), (0, 16, 5), (1, 88, 6), (1, 105, 7), (1, 109, 8), (1, 118, 9), (1, 121, 10), (1, 125, 11), (1, 115, 12), (1, 129, 13), (1, 133, 14), (1, 136, 15), (1, 153, 16), (0, 20, 17), (0, 24, 18)]
def lkO : List (Nat × Nat) := [(1, 1)]
def mV : List Nat := [3, 5, 17, 18]
def mP : List Nat := [2, 4, 6, 7, 8, 9, 10, 11, 12, 13, 14, 15, 16]
def mS : List Nat := []
def mI : List Nat := [1]
def mA : List Nat := [1, 2, 3, 4, 5, 6, 7, 8, 9, 10, 11, 12, 13, 14, 15, 16, 17, 18]
def aTys : List FieldType := [.int, .boolean]
/-! ENGINE: abstract cells, locals, one-step function, and what a triple says of the model. -/
abbrev QCell := List Value ⊕ ((FieldType × List Int32) ⊕ List Int64)
abbrev QHeap := List QCell
abbrev QLoc := List (Option Value)
abbrev vI (x : Int32) : Option Value := some (.int x)
abbrev QSt := Nat × QLoc × List Value × QHeap
def qv (ad : Nat → Addr) : Value → Value
  | .ref k => .ref (ad k)
  | v => v
def qsz : QCell → Nat
  | .inl _ => cN
  | .inr (.inl x) => x.2.length
  | .inr (.inr x) => x.length
def qhs : QHeap → Nat
  | [] => 0
  | c :: t => qsz c + qhs t
def aget {α : Type} (xs : List α) (j : Int32) : Option α := if j < 0 then none else xs[j.toNatClampNeg]?
def aset {α : Type} (xs : List α) (j : Int32) (v : α) : Option (List α) := if j < 0 then none else if j.toNatClampNeg < xs.length then some (xs.set j.toNatClampNeg v) else none
def qnew (n : Int32) : Option Nat := if n < 0 then none else if n.toNatClampNeg ≤ 67108864 then some n.toNatClampNeg else none
def qdiv (x y : Int32) : Option Int32 := if y = 0 then none else some (x / y)
def qrem (x y : Int32) : Option Int32 := if y = 0 then none else some (x % y)
def qboo (x : Int32) : Option Int32 := if x = 0 then some x else if x = 1 then some x else none
def lget : QLoc → Nat → Option Value
  | [], _ => none
  | v :: _, 0 => v
  | _ :: t, k + 1 => lget t k
def hget : QHeap → Nat → Option QCell
  | [], _ => none
  | v :: _, 0 => some v
  | _ :: t, k + 1 => hget t k
def vget : List Value → Nat → Option Value
  | [], _ => none
  | v :: _, 0 => some v
  | _ :: t, k + 1 => vget t k
def lkill (L : QLoc) : Nat → QLoc
  | 0 => L
  | k + 1 => match lget L k with
    | some (.long _) => L.set k none
    | some (.double _) => L.set k none
    | _ => L
def lput (L : QLoc) (k : Nat) (v : Value) : Option QLoc :=
  match v with
  | .long x => bif Nat.ble (k + 2) L.length then some (((lkill L k).set k (some (.long x))).set (k + 1) none) else none
  | .double _ => none
  | v => bif Nat.ble (k + 1) L.length then some ((lkill L k).set k (some v)) else none
/-- push what a local holds, if it is of the kind -/
def qload (pc : Nat) (L : QLoc) (S : List Value) (σ : QHeap) (k : Nat) (ok : Value → Bool) : Option QSt :=
  match lget L k with
  | some v => bif ok v then some (pc, L, v :: S, σ) else none
  | none => none
def isI : Value → Bool | .int _ => true | _ => false
def isJ : Value → Bool | .long _ => true | _ => false
def isR : Value → Bool | .ref _ => true | _ => false
def qstore (pc : Nat) (L : QLoc) (S : List Value) (σ : QHeap) (k : Nat) (ok : Value → Bool) : Option QSt :=
  match S with
  | v :: S' => bif ok v then (match lput L k v with | some L' => some (pc, L', S', σ) | none => none) else none
  | [] => none
def qbin (pc : Nat) (L : QLoc) (S : List Value) (σ : QHeap) (f : Int32 → Int32 → Int32) : Option QSt :=
  match S with
  | .int y :: .int x :: S' => some (pc, L, .int (f x y) :: S', σ)
  | _ => none
def qbino (pc : Nat) (L : QLoc) (S : List Value) (σ : QHeap) (f : Int32 → Int32 → Option Int32) : Option QSt :=
  match S with
  | .int y :: .int x :: S' => (f x y).bind fun z => some (pc, L, .int z :: S', σ)
  | _ => none
def qbinJ (pc : Nat) (L : QLoc) (S : List Value) (σ : QHeap) (f : Int64 → Int64 → Int64) : Option QSt :=
  match S with
  | .long y :: .long x :: S' => some (pc, L, .long (f x y) :: S', σ)
  | _ => none
def qshJ (pc : Nat) (L : QLoc) (S : List Value) (σ : QHeap) (f : Int64 → Int32 → Int64) : Option QSt :=
  match S with
  | .int y :: .long x :: S' => some (pc, L, .long (f x y) :: S', σ)
  | _ => none
def quni (pc : Nat) (L : QLoc) (S : List Value) (σ : QHeap) (f : Int32 → Value) : Option QSt :=
  match S with
  | .int x :: S' => some (pc, L, f x :: S', σ)
  | _ => none
def quniJ (pc : Nat) (L : QLoc) (S : List Value) (σ : QHeap) (f : Int64 → Value) : Option QSt :=
  match S with
  | .long x :: S' => some (pc, L, f x :: S', σ)
  | _ => none
def qald (pc : Nat) (L : QLoc) (S : List Value) (σ : QHeap) (ok : FieldType → Bool) : Option QSt :=
  match S with
  | .int j :: .ref a :: S' => (match hget σ a with
    | some (.inr (.inl x)) => bif ok x.1 then (aget x.2 j).bind fun v => some (pc, L, .int v :: S', σ) else none
    | _ => none)
  | _ => none
def qaldJ (pc : Nat) (L : QLoc) (S : List Value) (σ : QHeap) : Option QSt :=
  match S with
  | .int j :: .ref a :: S' => (match hget σ a with
    | some (.inr (.inr x)) => (aget x j).bind fun v => some (pc, L, .long v :: S', σ)
    | _ => none)
  | _ => none
def qnar : FieldType → Int32 → Int32
  | .boolean, x => x &&& 1
  | .byte, x => x.toInt8.toInt32
  | _, x => x
def qast (pc : Nat) (L : QLoc) (S : List Value) (σ : QHeap) (ok : FieldType → Bool) : Option QSt :=
  match S with
  | .int v :: .int j :: .ref a :: S' => (match hget σ a with
    | some (.inr (.inl x)) => bif ok x.1 && Nat.ble k0 a then (aset x.2 j (qnar x.1 v)).bind fun y => some (pc, L, S', σ.set a (.inr (.inl (x.1, y)))) else none
    | _ => none)
  | _ => none
def qastJ (pc : Nat) (L : QLoc) (S : List Value) (σ : QHeap) : Option QSt :=
  match S with
  | .long v :: .int j :: .ref a :: S' => (match hget σ a with
    | some (.inr (.inr x)) => bif Nat.ble k0 a then (aset x j v).bind fun y => some (pc, L, S', σ.set a (.inr (.inr y))) else none
    | _ => none)
  | _ => none
def tyI : FieldType → Bool | .int => true | _ => false
def tyB : FieldType → Bool | .boolean => true | .byte => true | _ => false
/-- what a value becomes in a field of the type (none: it doesn't fit) -/
def qfit : FieldType → Value → Option Value
  | .int, .int x => some (.int x)
  | .boolean, .int x => (qboo x).bind fun y => some (.int y)
  | .long, .long x => some (.long x)
  | .array t, .ref a => some (.ref a)
  | _, _ => none
def qget (pc : Nat) (L : QLoc) (S : List Value) (σ : QHeap) (k : Nat) : Option QSt :=
  match S with
  | .ref a :: S' => (match hget σ a with
    | some (.inl vs) => (match vget vs k with | some v => some (pc, L, v :: S', σ) | none => none)
    | _ => none)
  | _ => none
def qput (pc : Nat) (L : QLoc) (S : List Value) (σ : QHeap) (k : Nat) : Option QSt :=
  match S with
  | v :: .ref a :: S' => (match hget σ a with
    | some (.inl vs) => bif Nat.ble k0 a && Nat.ble (k + 1) vs.length then (qfit (fTy k) v).bind fun w => some (pc, L, S', σ.set a (.inl (vs.set k w))) else none
    | _ => none)
  | _ => none
def qnewA (pc : Nat) (L : QLoc) (S : List Value) (σ : QHeap) (t : ArrayType) : Option QSt :=
  match S with
  | .int n :: S' => (match t with
    | .int => (qnew n).bind fun k => some (pc, L, .ref σ.length :: S', σ ++ [.inr (.inl (.int, List.replicate k 0))])
    | .boolean => (qnew n).bind fun k => some (pc, L, .ref σ.length :: S', σ ++ [.inr (.inl (.boolean, List.replicate k 0))])
    | .byte => (qnew n).bind fun k => some (pc, L, .ref σ.length :: S', σ ++ [.inr (.inl (.byte, List.replicate k 0))])
    | .long => (qnew n).bind fun k => some (pc, L, .ref σ.length :: S', σ ++ [.inr (.inr (List.replicate k 0))])
    | _ => none)
  | _ => none
def qlen (pc : Nat) (L : QLoc) (S : List Value) (σ : QHeap) : Option QSt :=
  match S with
  | .ref a :: S' => (match hget σ a with
    | some (.inr (.inl x)) => some (pc, L, .int x.2.length.toInt32 :: S', σ)
    | some (.inr (.inr x)) => some (pc, L, .int x.length.toInt32 :: S', σ)
    | _ => none)
  | _ => none
def qdup (pc : Nat) (L : QLoc) (S : List Value) (σ : QHeap) : Option QSt :=
  match S with
  | .int x :: S' => some (pc, L, .int x :: .int x :: S', σ)
  | .ref x :: S' => some (pc, L, .ref x :: .ref x :: S', σ)
  | _ => none
def qdup2 (pc : Nat) (L : QLoc) (S : List Value) (σ : QHeap) : Option QSt :=
  match S with
  | .int x :: .ref y :: S' => some (pc, L, .int x :: .ref y :: .int x :: .ref y :: S', σ)
  | .int x :: .int y :: S' => some (pc, L, .int x :: .int y :: .int x :: .int y :: S', σ)
  | .long x :: S' => some (pc, L, .long x :: .long x :: S', σ)
  | _ => none
def qpop (pc : Nat) (L : QLoc) (S : List Value) (σ : QHeap) : Option QSt :=
  match S with
  | .int _ :: S' => some (pc, L, S', σ)
  | .ref _ :: S' => some (pc, L, S', σ)
  | _ => none
def qif (pc : Nat) (L : QLoc) (S : List Value) (σ : QHeap) (cd : ClassFile.Cond) (tgt : Nat) : Option QSt :=
  match S with
  | .int x :: S' => some (bif ifCond.holds cd x then tgt else pc, L, S', σ)
  | _ => none
def qicmp (pc : Nat) (L : QLoc) (S : List Value) (σ : QHeap) (cd : ClassFile.Cond) (tgt : Nat) : Option QSt :=
  match S with
  | .int y :: .int x :: S' => some (bif if_icmp.holds cd x y then tgt else pc, L, S', σ)
  | _ => none
def qinc (pc : Nat) (L : QLoc) (S : List Value) (σ : QHeap) (k : Nat) (i : Int) : Option QSt :=
  match lget L k with
  | some (.int x) => (match lput L k (.int (x + Int32.ofInt i)) with | some L' => some (pc, L', S, σ) | none => none)
  | _ => none
def qldc (pc : Nat) (L : QLoc) (S : List Value) (σ : QHeap) (k : Nat) : Option QSt :=
  match vget cK k with
  | some v => some (pc, L, v :: S, σ)
  | none => none
def qexec (pc : Nat) (L : QLoc) (S : List Value) (σ : QHeap) (aux : Nat) : Instr → Option QSt
  | .aload_n k => qload (pc + 1) L S σ k.val isR
  | .aload k => qload (pc + 2) L S σ k isR
  | .iload_n k => qload (pc + 1) L S σ k.val isI
  | .iload k => qload (pc + 2) L S σ k isI
  | .lload_n k => qload (pc + 1) L S σ k.val isJ
  | .lload k => qload (pc + 2) L S σ k isJ
  | .iconst i => some (pc + 1, L, .int (Int32.ofInt i) :: S, σ)
  | .bipush i => some (pc + 2, L, .int (Int8.ofInt i).toInt32 :: S, σ)
  | .sipush i => some (pc + 3, L, .int (Int16.ofInt i).toInt32 :: S, σ)
  | .lconst k => some (pc + 1, L, .long (Int64.ofNat k.val) :: S, σ)
  | .ldc _ => qldc (pc + 2) L S σ aux
  | .ldc2_w _ => qldc (pc + 3) L S σ aux
  | .istore_n k => qstore (pc + 1) L S σ k.val isI
  | .istore k => qstore (pc + 2) L S σ k isI
  | .lstore_n k => qstore (pc + 1) L S σ k.val isJ
  | .lstore k => qstore (pc + 2) L S σ k isJ
  | .astore_n k => qstore (pc + 1) L S σ k.val isR
  | .astore k => qstore (pc + 2) L S σ k isR
  | .iinc k i => qinc (pc + 3) L S σ k i
  | .iadd => qbin (pc + 1) L S σ fun x y => x + y
  | .isub => qbin (pc + 1) L S σ fun x y => x - y
  | .imul => qbin (pc + 1) L S σ fun x y => x * y
  | .iand => qbin (pc + 1) L S σ fun x y => x &&& y
  | .ior => qbin (pc + 1) L S σ fun x y => x ||| y
  | .ixor => qbin (pc + 1) L S σ fun x y => x ^^^ y
  | .ishl => qbin (pc + 1) L S σ fun x y => x <<< (y &&& 31)
  | .ishr => qbin (pc + 1) L S σ fun x y => x >>> (y &&& 31)
  | .iushr => qbin (pc + 1) L S σ fun x y => XT.ushr x y
  | .idiv => qbino (pc + 1) L S σ qdiv
  | .irem => qbino (pc + 1) L S σ qrem
  | .ineg => quni (pc + 1) L S σ fun x => .int (-x)
  | .i2l => quni (pc + 1) L S σ fun x => .long x.toInt64
  | .i2b => quni (pc + 1) L S σ fun x => .int x.toInt8.toInt32
  | .l2i => quniJ (pc + 1) L S σ fun x => .int x.toInt32
  | .lneg => quniJ (pc + 1) L S σ fun x => .long (-x)
  | .ladd => qbinJ (pc + 1) L S σ fun x y => x + y
  | .lsub => qbinJ (pc + 1) L S σ fun x y => x - y
  | .lmul => qbinJ (pc + 1) L S σ fun x y => x * y
  | .land => qbinJ (pc + 1) L S σ fun x y => x &&& y
  | .lor => qbinJ (pc + 1) L S σ fun x y => x ||| y
  | .lxor => qbinJ (pc + 1) L S σ fun x y => x ^^^ y
  | .lshl => qshJ (pc + 1) L S σ fun x y => x <<< (y.toInt64 &&& 63)
  | .lshr => qshJ (pc + 1) L S σ fun x y => x >>> (y.toInt64 &&& 63)
  | .lushr => qshJ (pc + 1) L S σ fun x y => XT.ushrL x y
  | .lcmp => (match S with
    | .long y :: .long x :: S' => some (pc + 1, L, .int (XT.cmpL x y) :: S', σ)
    | _ => none)
  | .goto _ => some (aux, L, S, σ)
  | .ifCond cd _ => qif (pc + 3) L S σ cd aux
  | .if_icmp cd _ => qicmp (pc + 3) L S σ cd aux
  | .dup => qdup (pc + 1) L S σ
  | .dup2 => qdup2 (pc + 1) L S σ
  | .pop => qpop (pc + 1) L S σ
  | .getfield _ => qget (pc + 3) L S σ aux
  | .putfield _ => qput (pc + 3) L S σ aux
  | .iaload => qald (pc + 1) L S σ tyI
  | .baload => qald (pc + 1) L S σ tyB
  | .laload => qaldJ (pc + 1) L S σ
  | .iastore => qast (pc + 1) L S σ tyI
  | .bastore => qast (pc + 1) L S σ tyB
  | .lastore => qastJ (pc + 1) L S σ
  | .arraylength => qlen (pc + 1) L S σ
  | .newarray t => qnewA (pc + 2) L S σ t
  | .new _ => some (pc + 3, L, .ref σ.length :: S, σ ++ [.inl cDef])
  | _ => none
def qstep (m : Nat) (st : QSt) : Option QSt :=
  match pCode m st.1 with
  | some (i, aux) => qexec st.1 st.2.1 st.2.2.1 st.2.2.2 aux i
  | none => none
def qsteps (m : Nat) : Nat → QSt → Option QSt
  | 0, st => some st
  | n + 1, st => match qstep m st with | some st' => qsteps m n st' | none => none
def qentry (args : List Value) (mx : Nat) : QLoc := (args.flatMap fun v => match v with | .long x => [some (.long x), none] | .double x => [some (.double x), none] | v => [some v]) ++ List.replicate (mx - (args.map fun v => v.category).sum) none
/-! ## what the abstract state says of the model's -/
def ilen : Instr → Nat
  | .aload _ | .iload _ | .lload _ | .istore _ | .lstore _ | .astore _ | .bipush _ | .ldc _ | .newarray _ => 2
  | .sipush _ | .ldc2_w _ | .iinc _ _ | .goto _ | .ifCond _ _ | .if_icmp _ _ | .getfield _ | .putfield _ | .new _ | .invokevirtual _ | .invokespecial _ | .invokestatic _ => 3
  | _ => 1
def qtgt (pc : Nat) (o : Int) (aux : Nat) : Bool := decide (0 ≤ (pc : Int) + o) && decide (((pc : Int) + o).toNat = aux)
def qlk (m pc : Nat) (i : Instr) (aux : Nat) : Bool :=
  match i with
  | .goto o => qtgt pc o aux
  | .ifCond _ o => qtgt pc o aux
  | .if_icmp _ o => qtgt pc o aux
  | .getfield idx => lkF.contains (pK m, idx, aux)
  | .putfield idx => lkF.contains (pK m, idx, aux) && (!fFin aux || (pK m == 1 && pNm m == "<init>"))
  | .new idx => lkN.contains (pK m, idx)
  | .newarray t => aTys.contains (newarray.typeOf t)
  | .ldc idx => lkC.contains (pK m, idx, aux)
  | .ldc2_w idx => lkD.contains (pK m, idx, aux)
  | _ => true
def qchk (m pc : Nat) (i : Instr) (aux : Nat) : Bool := decide (decode (pBytes m) pc = .ok (i, ilen i)) && qlk m pc i aux
def QCellOk (Z : State) (ad : Nat → Addr) (h : Heap) (a : Addr) : QCell → Prop
  | .inl vs => Exa Z h a cName ∧ vs.length = nF ∧ ∀ (k : Nat) (v : Value), k < nF → vget vs k = some v → Fld Z h a cName (fNm k) (fDs k) (qv ad v)
  | .inr (.inl x) => ∃ c : Cell, Arr Z h a c x.1 ∧ c.slots = (x.2.map Value.int).toArray
  | .inr (.inr x) => ∃ c : Cell, Arr Z h a c .long ∧ c.slots = (x.map Value.long).toArray
def QAd (n0 : Nat) (ad : Nat → Addr) : Prop := (∀ k, k0 ≤ k → ad k = n0 + (k - k0)) ∧ ∀ i j, ad i = ad j → i = j
def QRep (Z : State) (n0 : Nat) (ad : Nat → Addr) (h : Heap) (σ : QHeap) : Prop := k0 ≤ σ.length ∧ h.size = n0 + (σ.length - k0) ∧ ∀ k c, hget σ k = some c → QCellOk Z ad h (ad k) c
def QLocOk (ad : Nat → Addr) (L : QLoc) (C : Array Slot) : Prop :=
  L.length = C.size ∧ (∀ k v, lget L k = some v → C[k]? = some (.val (qv ad v))) ∧ (∀ k w, C[k]? = some (.val w) → w.category = 2 → C[k + 1]? = some .second) ∧ ∀ k, C[k]? = some .second → ∃ j w, k = j + 1 ∧ C[j]? = some (.val w) ∧ w.category = 2
/-- the words of the sheet, as the engine uses them -/
def QW (Z : State) (a0 : Array Value) : Prop :=
  (∀ t ∈ lkF, (Cond.fieldLink (kName t.1) t.2.1 cName (fNm t.2.2) (fDs t.2.2)).before a0 Z = true) ∧
  (∀ t ∈ lkN, (Cond.classLink (kName t.1) t.2 cName).before a0 Z = true) ∧
  (∀ t ∈ lkC, ∃ v, vget cK t.2.2 = some (.int v) ∧ (Cond.constant (kName t.1) t.2.1 v).before a0 Z = true) ∧
  (∀ t ∈ lkD, ∃ v, vget cK t.2.2 = some (.long v) ∧ (Cond.constantLong (kName t.1) t.2.1 v).before a0 Z = true) ∧
  (∀ t ∈ lkV, (Cond.methodLink (kName t.1) t.2.1 (pName t.2.2)).before a0 Z = true) ∧
  (∀ t ∈ lkO, (Cond.methodLink (kName t.1) t.2 Lib.objectInit).before a0 Z = true) ∧
  (∀ m ∈ mV, (Cond.declares (pName m)).before a0 Z = true ∧ (Cond.selects cName (pName m) (pName m)).before a0 Z = true ∧ (Cond.instanceMethod (pName m)).before a0 Z = true) ∧
  (∀ m ∈ mP, (Cond.instanceMethod (pName m)).before a0 Z = true ∧ (Cond.privateMethod (pName m)).before a0 Z = true) ∧
  (∀ m ∈ mS, (Cond.static (pName m)).before a0 Z = true) ∧
  (∀ m ∈ mI, (Cond.instanceMethod (pName m)).before a0 Z = true) ∧
  (∀ m ∈ mA, (Cond.code (pName m) (pBytes m) (pMaxL m) (pRet m)).before a0 Z = true ∧ (Cond.initialized (kName (pK m))).before a0 Z = true) ∧
  (Cond.instanceMethod Lib.objectInit).before a0 Z = true ∧ (Cond.code Lib.objectInit ⟨#[0xb1]⟩ 1 none).before a0 Z = true ∧
  (∀ k, k < nF → bif fFin k then (Cond.laysFinal cName cName (fNm k) (fDs k)).before a0 Z = true else (Cond.lays cName cName (fNm k) (fDs k)).before a0 Z = true) ∧
  (Cond.instantiable cName cN).before a0 Z = true ∧ (Cond.initialized cName).before a0 Z = true ∧
  ∀ ty ∈ aTys, (Cond.arrayClass ty).before a0 Z = true
section Words
variable {Z : State} {a0 : Array Value}
theorem qw_fl (W : QW Z a0) : ∀ t ∈ lkF, (Cond.fieldLink (kName t.1) t.2.1 cName (fNm t.2.2) (fDs t.2.2)).before a0 Z = true := W.1
theorem qw_nw (W : QW Z a0) : ∀ t ∈ lkN, (Cond.classLink (kName t.1) t.2 cName).before a0 Z = true := W.2.1
theorem qw_cI (W : QW Z a0) : ∀ t ∈ lkC, ∃ v, vget cK t.2.2 = some (.int v) ∧ (Cond.constant (kName t.1) t.2.1 v).before a0 Z = true := W.2.2.1
theorem qw_cJ (W : QW Z a0) : ∀ t ∈ lkD, ∃ v, vget cK t.2.2 = some (.long v) ∧ (Cond.constantLong (kName t.1) t.2.1 v).before a0 Z = true := W.2.2.2.1
theorem qw_ml (W : QW Z a0) : ∀ t ∈ lkV, (Cond.methodLink (kName t.1) t.2.1 (pName t.2.2)).before a0 Z = true := W.2.2.2.2.1
theorem qw_mo (W : QW Z a0) : ∀ t ∈ lkO, (Cond.methodLink (kName t.1) t.2 Lib.objectInit).before a0 Z = true := W.2.2.2.2.2.1
theorem qw_vi (W : QW Z a0) : ∀ m ∈ mV, (Cond.declares (pName m)).before a0 Z = true ∧ (Cond.selects cName (pName m) (pName m)).before a0 Z = true ∧ (Cond.instanceMethod (pName m)).before a0 Z = true := W.2.2.2.2.2.2.1
theorem qw_pr (W : QW Z a0) : ∀ m ∈ mP, (Cond.instanceMethod (pName m)).before a0 Z = true ∧ (Cond.privateMethod (pName m)).before a0 Z = true := W.2.2.2.2.2.2.2.1
theorem qw_st (W : QW Z a0) : ∀ m ∈ mS, (Cond.static (pName m)).before a0 Z = true := W.2.2.2.2.2.2.2.2.1
theorem qw_ini (W : QW Z a0) : ∀ m ∈ mI, (Cond.instanceMethod (pName m)).before a0 Z = true := W.2.2.2.2.2.2.2.2.2.1
theorem qw_cod (W : QW Z a0) : ∀ m ∈ mA, (Cond.code (pName m) (pBytes m) (pMaxL m) (pRet m)).before a0 Z = true ∧ (Cond.initialized (kName (pK m))).before a0 Z = true := W.2.2.2.2.2.2.2.2.2.2.1
theorem qw_oi (W : QW Z a0) : (Cond.instanceMethod Lib.objectInit).before a0 Z = true := W.2.2.2.2.2.2.2.2.2.2.2.1
theorem qw_oc (W : QW Z a0) : (Cond.code Lib.objectInit ⟨#[0xb1]⟩ 1 none).before a0 Z = true := W.2.2.2.2.2.2.2.2.2.2.2.2.1
theorem qw_lay (W : QW Z a0) : ∀ k, k < nF → bif fFin k then (Cond.laysFinal cName cName (fNm k) (fDs k)).before a0 Z = true else (Cond.lays cName cName (fNm k) (fDs k)).before a0 Z = true := W.2.2.2.2.2.2.2.2.2.2.2.2.2.1
theorem qw_inst (W : QW Z a0) : (Cond.instantiable cName cN).before a0 Z = true := W.2.2.2.2.2.2.2.2.2.2.2.2.2.2.1
theorem qw_init (W : QW Z a0) : (Cond.initialized cName).before a0 Z = true := W.2.2.2.2.2.2.2.2.2.2.2.2.2.2.2.1
theorem qw_arr (W : QW Z a0) : ∀ ty ∈ aTys, (Cond.arrayClass ty).before a0 Z = true := W.2.2.2.2.2.2.2.2.2.2.2.2.2.2.2.2
end Words
/-! ## small laws of lists -/
theorem hget_eq : ∀ (σ : QHeap) k, hget σ k = σ[k]?
  | [], _ => by simp [hget]
  | _ :: _, 0 => by simp [hget]
  | _ :: t, k + 1 => by simp [hget, hget_eq t k]
theorem vget_eq : ∀ (σ : List Value) k, vget σ k = σ[k]?
  | [], _ => by simp [vget]
  | _ :: _, 0 => by simp [vget]
  | _ :: t, k + 1 => by simp [vget, vget_eq t k]
theorem lget_eq : ∀ (L : QLoc) k, lget L k = (L[k]?).getD none
  | [], _ => by simp [lget]
  | _ :: _, 0 => by simp [lget]
  | _ :: t, k + 1 => by simp [lget, lget_eq t k]
theorem lget_lt {L : QLoc} {k : Nat} {v : Value} (h : lget L k = some v) : k < L.length := by
  rw [lget_eq] at h
  rcases Nat.lt_or_ge k L.length with q | q
  · exact q
  · simp [List.getElem?_eq_none q] at h
theorem lget_set {L : QLoc} {k j : Nat} {o : Option Value} (hk : k < L.length) : lget (L.set k o) j = if j = k then o else lget L j := by
  simp only [lget_eq, List.getElem?_set]
  by_cases e : k = j
  · subst e; simp [hk]
  · simp [e, Ne.symm e]
theorem qhs_app (σ τ : QHeap) : qhs (σ ++ τ) = qhs σ + qhs τ := by
  induction σ with
  | nil => simp [qhs]
  | cons c t ih => simp [qhs, ih, Nat.add_assoc]
theorem qhs_set {σ : QHeap} {k : Nat} {c d : QCell} (h : hget σ k = some c) (hs : qsz d = qsz c) : qhs (σ.set k d) = qhs σ := by
  induction σ generalizing k with
  | nil => simp [hget] at h
  | cons x t ih =>
    cases k with
    | zero => simp only [hget, Option.some.injEq] at h; subst h; simp [qhs, hs]
    | succ k => simp only [hget] at h; simp [qhs, ih h]
theorem hget_set {σ : QHeap} {k j : Nat} {c d : QCell} (h : hget σ k = some c) : hget (σ.set k d) j = if j = k then some d else hget σ j := by
  rw [hget_eq] at h
  have hk := (List.getElem?_eq_some_iff.mp h).1
  simp only [hget_eq, List.getElem?_set]
  by_cases e : k = j
  · subst e; simp [hk]
  · simp [e, Ne.symm e]
theorem lkill_len (L : QLoc) (k : Nat) : (lkill L k).length = L.length := by
  cases k with
  | zero => rfl
  | succ k => simp only [lkill]; split <;> simp
theorem lget_kill {L : QLoc} {k j : Nat} {v : Value} (h : lget (lkill L k) j = some v) : lget L j = some v ∧ (k = j + 1 → v.category ≠ 2) := by
  cases k with
  | zero => exact ⟨h, fun e => by omega⟩
  | succ k =>
    simp only [lkill] at h
    split at h
    · rename_i x q
      rw [lget_set (lget_lt q)] at h
      split at h
      · cases h
      · rename_i ne; exact ⟨h, fun e => absurd (by omega) ne⟩
    · rename_i x q
      rw [lget_set (lget_lt q)] at h
      split at h
      · cases h
      · rename_i ne; exact ⟨h, fun e => absurd (by omega) ne⟩
    · rename_i q1 q2
      refine ⟨h, fun e hc => ?_⟩
      obtain rfl : j = k := by omega
      cases v with
      | long x => exact q1 _ h
      | double x => exact q2 _ h
      | _ => simp [Value.category] at hc
theorem qv_cat (ad : Nat → Addr) (v : Value) : (qv ad v).category = v.category := by cases v <;> rfl
/-! ## storing into a local -/
def kA (C : Array Slot) (k j : Nat) : Prop := k = j + 1 ∧ C[k]? = some .second
def kB (C : Array Slot) (k j : Nat) : Prop := j = k + 1 ∧ ∃ u, C[k]? = some (.val u) ∧ u.category = 2
def kD (C : Array Slot) (k j : Nat) : Prop := j = k + 2 ∧ ∃ u, C[k + 1]? = some (.val u) ∧ u.category = 2
theorem set1_at {C D : Array Slot} {k : Nat} {w : Value} (hk : k < C.size) (hw : w.category = 1) (h : storeLocals C k w = some D) :
    D.size = C.size ∧ D[k]? = some (.val w) ∧ ∀ j, j ≠ k → (D[j]? = C[j]? ∧ ¬ kA C k j ∧ ¬ kB C k j) ∨ D[j]? = some .unset ∧ (kA C k j ∨ kB C k j) := by
  have hck : C[k]? = some C[k] := Array.getElem?_eq_getElem hk
  unfold storeLocals at h
  simp only [hck, Option.bind_eq_bind, Option.bind_some] at h
  have self : ∀ {E : Array Slot}, k < E.size → storeSelf E k w = some D → D = E.setIfInBounds k (.val w) := by
    intro E hE q
    simp only [storeSelf, setAt, hE, if_true, Option.bind_eq_bind, Option.bind_some, hw] at q
    simpa using q.symm
  split at h
  · rename_i q
    have hk1 : k - 1 < C.size := by omega
    simp only [setAt, hk1, if_true, Option.bind_some] at h
    have e := self (by simpa using hk) h
    subst e
    refine ⟨by simp, by simp [hk], fun j hj => ?_⟩
    by_cases ej : k = j + 1
    · refine Or.inr ⟨?_, Or.inl ⟨ej, by rw [hck, q]⟩⟩
      rw [Array.getElem?_setIfInBounds_ne (Ne.symm hj), show j = k - 1 by omega]
      simp [hk1]
    · refine Or.inl ⟨?_, fun x => ej x.1, fun x => ?_⟩
      · rw [Array.getElem?_setIfInBounds_ne (Ne.symm hj), Array.getElem?_setIfInBounds_ne (by omega)]
      · obtain ⟨-, u, x1, -⟩ := x
        rw [hck, q] at x1; cases x1
  · rename_i u q
    split at h
    · rename_i hu
      by_cases hk1 : k + 1 < C.size
      · simp only [setAt, hk1, if_true, Option.bind_some] at h
        have e := self (by simpa using hk) h
        subst e
        refine ⟨by simp, by simp [hk], fun j hj => ?_⟩
        by_cases ej : j = k + 1
        · refine Or.inr ⟨?_, Or.inr ⟨ej, u, by rw [hck, q], hu⟩⟩
          rw [Array.getElem?_setIfInBounds_ne (Ne.symm hj), ej]
          simp [hk1]
        · refine Or.inl ⟨?_, fun x => ?_, fun x => ej x.1⟩
          · rw [Array.getElem?_setIfInBounds_ne (Ne.symm hj), Array.getElem?_setIfInBounds_ne (by omega)]
          · obtain ⟨-, x1⟩ := x
            rw [hck, q] at x1; cases x1
      · simp [setAt, hk1] at h
    · rename_i hu
      have e := self hk h
      subst e
      refine ⟨by simp, by simp [hk], fun j hj => Or.inl ⟨Array.getElem?_setIfInBounds_ne (Ne.symm hj), fun x => ?_, fun x => ?_⟩⟩
      · obtain ⟨-, x1⟩ := x
        rw [hck, q] at x1; cases x1
      · obtain ⟨-, u', x1, x2⟩ := x
        rw [hck, q] at x1; cases x1; exact hu x2
  · rename_i q
    have e := self hk h
    subst e
    refine ⟨by simp, by simp [hk], fun j hj => Or.inl ⟨Array.getElem?_setIfInBounds_ne (Ne.symm hj), fun x => ?_, fun x => ?_⟩⟩
    · obtain ⟨-, x1⟩ := x
      rw [hck, q] at x1; cases x1
    · obtain ⟨-, u', x1, x2⟩ := x
      rw [hck, q] at x1; cases x1
theorem set2_at {C D : Array Slot} {k : Nat} {w : Value} (hk : k + 1 < C.size) (hw : w.category = 2) (wf : ∀ k w, C[k]? = some (.val w) → w.category = 2 → C[k + 1]? = some .second) (h : storeLocals C k w = some D) :
    D.size = C.size ∧ D[k]? = some (.val w) ∧ D[k + 1]? = some .second ∧ ∀ j, j ≠ k → j ≠ k + 1 → (D[j]? = C[j]? ∧ ¬ kA C k j ∧ ¬ kD C k j) ∨ D[j]? = some .unset ∧ (kA C k j ∨ kD C k j) := by
  have hk0 : k < C.size := by omega
  have hck : C[k]? = some C[k] := Array.getElem?_eq_getElem hk0
  unfold storeLocals at h
  simp only [hck, Option.bind_eq_bind, Option.bind_some] at h
  have self : ∀ {E : Array Slot}, E.size = C.size → storeSelf E k w = some D → D.size = C.size ∧ D[k]? = some (.val w) ∧ D[k + 1]? = some .second ∧ ∀ j, j ≠ k → j ≠ k + 1 → (D[j]? = E[j]? ∧ ¬ kD E k j) ∨ D[j]? = some .unset ∧ kD E k j := by
    intro E hs q
    have h1 : k < E.size := by omega
    have h2 : k + 1 < E.size := by omega
    have h3 : (E.setIfInBounds k (.val w))[k + 1]? = some E[k + 1] := by rw [Array.getElem?_setIfInBounds_ne (by omega)]; exact Array.getElem?_eq_getElem h2
    simp only [storeSelf, setAt, h1, if_true, Option.bind_eq_bind, Option.bind_some, hw, h3] at q
    have plain : (¬ ∃ u, E[k + 1]? = some (.val u) ∧ u.category = 2) → some ((E.setIfInBounds k (.val w)).setIfInBounds (k + 1) .second) = some D → D.size = C.size ∧ D[k]? = some (.val w) ∧ D[k + 1]? = some .second ∧ ∀ j, j ≠ k → j ≠ k + 1 → (D[j]? = E[j]? ∧ ¬ kD E k j) ∨ D[j]? = some .unset ∧ kD E k j := by
      intro no q
      cases q
      refine ⟨by simp [hs], ?_, ?_, fun j hj hj1 => Or.inl ⟨?_, fun x => no x.2⟩⟩
      · rw [Array.getElem?_setIfInBounds_ne (by omega)]; simp [h1]
      · simp [h2]
      · rw [Array.getElem?_setIfInBounds_ne (by omega), Array.getElem?_setIfInBounds_ne (by omega)]
    split at q
    · rename_i u hu
      split at q
      · rename_i hu2
        by_cases h5 : k + 2 < E.size
        · simp [h5, h2] at q
          cases q
          refine ⟨by simp [hs], ?_, ?_, fun j hj hj1 => ?_⟩
          · rw [Array.getElem?_setIfInBounds_ne (by omega), Array.getElem?_setIfInBounds_ne (by omega)]; simp [h1]
          · simp [h2]
          · by_cases e : j = k + 2
            · refine Or.inr ⟨?_, e, u, by rw [Array.getElem?_eq_getElem h2, hu], hu2⟩
              rw [Array.getElem?_setIfInBounds_ne (by omega), e]
              simp [h5]
            · refine Or.inl ⟨?_, fun x => e x.1⟩
              rw [Array.getElem?_setIfInBounds_ne (by omega), Array.getElem?_setIfInBounds_ne (by omega), Array.getElem?_setIfInBounds_ne (by omega)]
        · simp [h5] at q
      · rename_i hu2
        refine plain ?_ (by simpa [h2] using q)
        rintro ⟨u', x1, x2⟩
        rw [Array.getElem?_eq_getElem h2, hu] at x1; cases x1; exact hu2 x2
    · rename_i hu
      refine plain ?_ (by simpa [h2] using q)
      rintro ⟨u', x1, x2⟩
      rw [Array.getElem?_eq_getElem h2] at x1; exact hu _ (Option.some.inj x1)
  split at h
  · rename_i q
    have hk1 : k - 1 < C.size := by omega
    simp only [setAt, hk1, if_true, Option.bind_some] at h
    obtain ⟨e1, e2, e3, e4⟩ := self (by simp) h
    refine ⟨e1, e2, e3, fun j hj hj1 => ?_⟩
    have h6 : ∀ i, i + 1 ≠ k ∨ k = 0 → i ≠ k ∨ k ≠ 0 → (C.setIfInBounds (k - 1) Slot.unset)[i]? = C[i]? := fun i hi hi2 => Array.getElem?_setIfInBounds_ne (by omega)
    have h7 : (C.setIfInBounds (k - 1) Slot.unset)[k + 1]? = C[k + 1]? := Array.getElem?_setIfInBounds_ne (by omega)
    rcases e4 j hj hj1 with ⟨r, r'⟩ | ⟨r, r1, u, r2, r3⟩
    · by_cases ej : k = j + 1
      · refine Or.inr ⟨?_, Or.inl ⟨ej, by rw [hck, q]⟩⟩
        rw [r, show j = k - 1 by omega]; simp [hk1]
      · refine Or.inl ⟨by rw [r]; exact h6 _ (by omega) (by omega), fun x => ej x.1, fun x => r' ⟨x.1, ?_⟩⟩
        rw [h7]; exact x.2
    · exact Or.inr ⟨r, Or.inr ⟨r1, u, by rw [← h7]; exact r2, r3⟩⟩
  · rename_i u q
    split at h
    · rename_i hu
      simp only [setAt, hk, if_true, Option.bind_some] at h
      obtain ⟨e1, e2, e3, e4⟩ := self (by simp) h
      have hsec := wf k u (by rw [hck, q]) hu
      refine ⟨e1, e2, e3, fun j hj hj1 => ?_⟩
      rcases e4 j hj hj1 with ⟨r, r'⟩ | ⟨r, r1, u', r2, r3⟩
      · refine Or.inl ⟨by rw [r]; exact Array.getElem?_setIfInBounds_ne (by omega), fun x => ?_, fun x => ?_⟩
        · obtain ⟨-, x1⟩ := x
          rw [hck, q] at x1; cases x1
        · obtain ⟨-, u', x1, x2⟩ := x
          rw [hsec] at x1; cases x1
      · simp [hk] at r2
    · rename_i hu
      obtain ⟨e1, e2, e3, e4⟩ := self rfl h
      refine ⟨e1, e2, e3, fun j hj hj1 => ?_⟩
      rcases e4 j hj hj1 with ⟨r, r'⟩ | ⟨r, r'⟩
      · refine Or.inl ⟨r, fun x => ?_, r'⟩
        obtain ⟨-, x1⟩ := x
        rw [hck, q] at x1; cases x1
      · exact Or.inr ⟨r, Or.inr r'⟩
  · rename_i q
    obtain ⟨e1, e2, e3, e4⟩ := self rfl h
    refine ⟨e1, e2, e3, fun j hj hj1 => ?_⟩
    rcases e4 j hj hj1 with ⟨r, r'⟩ | ⟨r, r'⟩
    · refine Or.inl ⟨r, fun x => ?_, r'⟩
      obtain ⟨-, x1⟩ := x
      rw [hck, q] at x1; cases x1
    · exact Or.inr ⟨r, Or.inr r'⟩
/-- a store succeeds: in a well kept array of locals -/
theorem store_some {C : Array Slot} {k : Nat} {w : Value} (hk : k + (w.category - 1) < C.size) (hc : w.category = 1 ∨ w.category = 2) (wf : ∀ k w, C[k]? = some (.val w) → w.category = 2 → C[k + 1]? = some .second) :
    ∃ D, storeLocals C k w = some D := by
  have hk0 : k < C.size := by omega
  have hck : C[k]? = some C[k] := Array.getElem?_eq_getElem hk0
  have self : ∀ {E : Array Slot}, E.size = C.size → (∀ u, E[k + 1]? = some (.val u) → u.category = 2 → k + 2 < E.size) → ∃ D, storeSelf E k w = some D := by
    intro E hs hn
    have h1 : k < E.size := by omega
    simp only [storeSelf, setAt, h1, if_true, Option.bind_eq_bind, Option.bind_some]
    rcases hc with hc | hc
    · exact ⟨E.setIfInBounds k (.val w), by simp [hc]⟩
    · have h2 : k + 1 < E.size := by omega
      have h3 : (E.setIfInBounds k (.val w))[k + 1]? = some E[k + 1] := by rw [Array.getElem?_setIfInBounds_ne (by omega)]; exact Array.getElem?_eq_getElem h2
      simp only [hc, if_true, h3, Option.bind_some]
      split
      · rename_i u hu
        split
        · rename_i hu2
          have h5 := hn u (by rw [Array.getElem?_eq_getElem h2, hu]) hu2
          exact ⟨_, by simp [h5, h2]; rfl⟩
        · exact ⟨_, by simp [h2]; rfl⟩
      · exact ⟨_, by simp [h2]; rfl⟩
  have next : ∀ u, C[k + 1]? = some (.val u) → u.category = 2 → k + 2 < C.size := fun u h1 h2 => (Array.getElem?_eq_some_iff.mp (wf _ _ h1 h2)).1
  unfold storeLocals
  simp only [hck, Option.bind_eq_bind, Option.bind_some]
  split
  · have hk1 : k - 1 < C.size := by omega
    simp only [setAt, hk1, if_true, Option.bind_some]
    refine self (by simp) fun u h1 h2 => ?_
    rw [Array.getElem?_setIfInBounds_ne (by omega)] at h1
    simpa using next u h1 h2
  · rename_i u q
    split
    · rename_i hu
      have h5 := (Array.getElem?_eq_some_iff.mp (wf k u (by rw [hck, q]) hu)).1
      simp only [setAt, h5, if_true, Option.bind_some]
      refine self (by simp) fun u h1 h2 => ?_
      simp [h5] at h1
    · exact self rfl next
  · exact self rfl next
theorem store_ok1 {ad : Nat → Addr} {L : QLoc} {C : Array Slot} {k : Nat} {v : Value} (H : QLocOk ad L C) (hv : v.category = 1) (hk : k < L.length) :
    ∃ D, storeLocals C k (qv ad v) = some D ∧ QLocOk ad ((lkill L k).set k (some v)) D ∧ D.size = C.size := by
  obtain ⟨H1, H2, H3, H4⟩ := H
  have hc : (qv ad v).category = 1 := by rw [qv_cat, hv]
  obtain ⟨D, hD⟩ := store_some (C := C) (k := k) (w := qv ad v) (by rw [hc]; omega) (Or.inl hc) H3
  obtain ⟨d1, d2, d3⟩ := set1_at (by omega) hc hD
  refine ⟨D, hD, ⟨by simp [lkill_len, H1, d1], fun j u hj => ?_, fun j w hj hw => ?_, fun j hj => ?_⟩, d1⟩
  · rw [lget_set (by rw [lkill_len]; exact hk)] at hj
    split at hj
    · rename_i e; cases hj; rw [e]; exact d2
    · rename_i ne
      obtain ⟨g1, g2⟩ := lget_kill hj
      have g3 := H2 j u g1
      rcases d3 j ne with ⟨r, -, -⟩ | ⟨-, ⟨r1, r2⟩ | ⟨r1, w, r2, r3⟩⟩
      · rw [r]; exact g3
      · obtain ⟨i, w, z1, z2, z3⟩ := H4 k r2
        obtain rfl : i = j := by omega
        rw [g3] at z2
        cases z2
        rw [qv_cat] at z3
        exact absurd z3 (g2 r1)
      · have := H3 k w r2 r3
        rw [← r1, g3] at this
        cases this
  · by_cases e : j = k
    · subst e; rw [d2] at hj; cases hj; rw [hc] at hw; cases hw
    · rcases d3 j e with ⟨r, nA, nB⟩ | ⟨r, -⟩
      · rw [r] at hj
        have g := H3 j w hj hw
        have e2 : j + 1 ≠ k := fun q => nA ⟨q.symm, by rw [← q]; exact g⟩
        rcases d3 (j + 1) e2 with ⟨z, -, -⟩ | ⟨-, ⟨z1, z2⟩ | ⟨z1, -⟩⟩
        · rw [z]; exact g
        · obtain ⟨i, u, y1, y2, y3⟩ := H4 k z2
          obtain rfl : i = j + 1 := by omega
          rw [g] at y2; cases y2
        · omega
      · rw [r] at hj; cases hj
  · by_cases e : j = k
    · subst e; rw [d2] at hj; cases hj
    · rcases d3 j e with ⟨r, nA, nB⟩ | ⟨r, -⟩
      · rw [r] at hj
        obtain ⟨i, w, y1, y2, y3⟩ := H4 j hj
        refine ⟨i, w, y1, ?_, y3⟩
        have ei : i ≠ k := fun q => nB ⟨by omega, w, by rw [← q]; exact y2, y3⟩
        rcases d3 i ei with ⟨z, -, -⟩ | ⟨-, ⟨z1, z2⟩ | ⟨z1, u, z2, z3⟩⟩
        · rw [z]; exact y2
        · omega
        · have := H3 k u z2 z3
          rw [← z1, y2] at this; cases this
      · rw [r] at hj; cases hj
theorem store_ok2 {ad : Nat → Addr} {L : QLoc} {C : Array Slot} {k : Nat} {x : Int64} (H : QLocOk ad L C) (hk : k + 1 < L.length) :
    ∃ D, storeLocals C k (.long x) = some D ∧ QLocOk ad (((lkill L k).set k (some (.long x))).set (k + 1) none) D ∧ D.size = C.size := by
  obtain ⟨H1, H2, H3, H4⟩ := H
  have hc : (Value.long x).category = 2 := rfl
  obtain ⟨D, hD⟩ := store_some (C := C) (k := k) (w := .long x) (by rw [hc]; omega) (Or.inr hc) H3
  obtain ⟨d1, d2, d2', d3⟩ := set2_at (by omega) hc H3 hD
  refine ⟨D, hD, ⟨by simp [lkill_len, H1, d1], fun j u hj => ?_, fun j w hj hw => ?_, fun j hj => ?_⟩, d1⟩
  · rw [lget_set (by simp [lkill_len]; exact hk)] at hj
    split at hj
    · cases hj
    · rename_i ne1
      rw [lget_set (by rw [lkill_len]; omega)] at hj
      split at hj
      · rename_i e; cases hj; rw [e]; exact d2
      · rename_i ne
        obtain ⟨g1, g2⟩ := lget_kill hj
        have g3 := H2 j u g1
        rcases d3 j ne ne1 with ⟨r, -, -⟩ | ⟨-, ⟨r1, r2⟩ | ⟨r1, w, r2, r3⟩⟩
        · rw [r]; exact g3
        · obtain ⟨i, w, z1, z2, z3⟩ := H4 k r2
          obtain rfl : i = j := by omega
          rw [g3] at z2
          cases z2
          rw [qv_cat] at z3
          exact absurd z3 (g2 r1)
        · have := H3 (k + 1) w r2 r3
          rw [show k + 1 + 1 = j by omega, g3] at this
          cases this
  · by_cases e : j = k
    · rw [e]; exact d2'
    · by_cases e1 : j = k + 1
      · rw [e1, d2'] at hj; cases hj
      · rcases d3 j e e1 with ⟨r, nA, nB⟩ | ⟨r, -⟩
        · rw [r] at hj
          have g := H3 j w hj hw
          have e2 : j + 1 ≠ k := fun q => nA ⟨q.symm, by rw [← q]; exact g⟩
          rcases d3 (j + 1) e2 (by omega) with ⟨z, -, -⟩ | ⟨-, ⟨z1, z2⟩ | ⟨z1, -⟩⟩
          · rw [z]; exact g
          · obtain ⟨i, u, y1, y2, y3⟩ := H4 k z2
            obtain rfl : i = j + 1 := by omega
            rw [g] at y2; cases y2
          · omega
        · rw [r] at hj; cases hj
  · by_cases e : j = k
    · rw [e, d2] at hj; cases hj
    · by_cases e1 : j = k + 1
      · exact ⟨k, _, e1, d2, hc⟩
      · rcases d3 j e e1 with ⟨r, nA, nB⟩ | ⟨r, -⟩
        · rw [r] at hj
          obtain ⟨i, w, y1, y2, y3⟩ := H4 j hj
          refine ⟨i, w, y1, ?_, y3⟩
          have ei : i ≠ k := fun q => e1 (by omega)
          have ei1 : i ≠ k + 1 := fun q => nB ⟨by omega, w, by rw [← q]; exact y2, y3⟩
          rcases d3 i ei ei1 with ⟨z, -, -⟩ | ⟨-, ⟨z1, z2⟩ | ⟨z1, u, z2, z3⟩⟩
          · rw [z]; exact y2
          · omega
          · have := H3 (k + 1) u z2 z3
            rw [show k + 1 + 1 = i by omega, y2] at this; cases this
        · rw [r] at hj; cases hj
theorem store_ok {ad : Nat → Addr} {L L' : QLoc} {C : Array Slot} {k : Nat} {v : Value} (H : QLocOk ad L C) (h : lput L k v = some L') :
    ∃ D, storeLocals C k (qv ad v) = some D ∧ QLocOk ad L' D ∧ D.size = C.size := by
  have one : v.category = 1 → (bif Nat.ble (k + 1) L.length then some ((lkill L k).set k (some v)) else none) = some L' → ∃ D, storeLocals C k (qv ad v) = some D ∧ QLocOk ad L' D ∧ D.size = C.size := by
    intro hv h
    cases hb : Nat.ble (k + 1) L.length with
    | false => rw [hb] at h; cases h
    | true => rw [hb] at h; cases h; exact store_ok1 H hv (Nat.le_of_ble_eq_true hb)
  cases v with
  | long x =>
    simp only [lput] at h
    cases hb : Nat.ble (k + 2) L.length with
    | false => rw [hb] at h; cases h
    | true => rw [hb] at h; cases h; exact store_ok2 H (Nat.le_of_ble_eq_true hb)
  | double x => simp [lput] at h
  | int x => exact one rfl h
  | float x => exact one rfl h
  | null => exact one rfl h
  | ref x => exact one rfl h
  | retAddr x => exact one rfl h
/-! ## facts of the tables, by evaluation -/
theorem fInj : ∀ i, i < nF → ∀ j, j < nF → fNm i = fNm j → i = j := by decide +kernel
theorem fPrs : ∀ i, i < nF → parseFieldDescriptor (fDs i) = some (fTy i) := by decide +kernel
theorem cDefs : ∀ i, i < nF → vget cDef i = some (defaultValue (fTy i)) := by decide +kernel
theorem cDefL : cDef.length = nF := by decide +kernel
theorem fDef : ∀ i, i < nF → ∀ a, defaultValue (fTy i) ≠ .ref a := by
  intro i _ a
  cases fTy i <;> simp [defaultValue]
theorem kPlain : ∀ k, k < 2 → plainName (kName k) = true := by
  intro k hk
  rcases k with _ | _ | k
  · first | decide +kernel | (simp [kName, plainName, overriddenIn]; done)
  · first | decide +kernel | (simp [kName, plainName, overriddenIn]; done)
  · omega
theorem pKlt : ∀ m, m < pN → pK m < 2 := by decide +kernel
theorem pSig : ∀ m, m < pN → (parseMethodDescriptor (pDs m)).map (fun sg => sg.parameters.length) = some (pNA m) := by decide +kernel
theorem pOwn : ∀ k, k < 2 → kName k ≠ "java/lang/invoke/MethodHandle" ∧ kName k ≠ "java/lang/invoke/VarHandle" := by decide +kernel
theorem mAlt : ∀ m ∈ mA, m < pN := by decide +kernel
theorem mVlt : ∀ m ∈ mV, m ∈ mA ∧ pK m = 1 := by decide +kernel
theorem mPlt : ∀ m ∈ mP, m ∈ mA ∧ pK m = 1 := by decide +kernel
theorem mSlt : ∀ m ∈ mS, m ∈ mA := by decide +kernel
theorem mIlt : ∀ m ∈ mI, m ∈ mA ∧ pK m = 1 ∧ pNm m = "<init>" ∧ pRet m = none := by decide +kernel
theorem kOne : kName 1 = cName := rfl
set_option maxRecDepth 100000 in
theorem pChk0 : ∀ m, m < pN → ∀ pc, pc < pTop → (match pCode m pc with | some t => qchk m pc t.1 t.2 | none => true) = true := by decide +kernel
theorem pIn {m pc : Nat} {t : Instr × Nat} (h : pCode m pc = some t) : m < pN ∧ pc < pTop := by
  unfold pCode at h
  cases h1 : Nat.ble pN m with
  | true => rw [h1] at h; cases h
  | false =>
    cases h2 : Nat.ble pTop pc with
    | true => rw [h1, h2] at h; cases h
    | false => exact ⟨Nat.lt_of_not_le (fun q => by rw [Nat.ble_eq_true_of_le q] at h1; cases h1), Nat.lt_of_not_le (fun q => by rw [Nat.ble_eq_true_of_le q] at h2; cases h2)⟩
theorem pChk {m pc : Nat} {i : Instr} {aux : Nat} (h : pCode m pc = some (i, aux)) : qchk m pc i aux = true := by
  have q := pChk0 m (pIn h).1 pc (pIn h).2
  rw [h] at q
  exact q
theorem pDec {m pc : Nat} {i : Instr} {aux : Nat} (h : pCode m pc = some (i, aux)) : decode (pBytes m) pc = .ok (i, ilen i) := by
  have q := pChk h
  unfold qchk at q
  exact of_decide_eq_true (Bool.and_eq_true_iff.mp q).1
theorem pDecN {m pc n : Nat} {i : Instr} {aux : Nat} (h : pCode m pc = some (i, aux)) (hn : ilen i = n) : decode (pBytes m) pc = .ok (i, n) := by
  rw [← hn]; exact pDec h
theorem pRest {m pc : Nat} {i : Instr} {aux : Nat} (h : pCode m pc = some (i, aux)) : qlk m pc i aux = true := by
  have q := pChk h
  unfold qchk at q
  exact (Bool.and_eq_true_iff.mp q).2
theorem qtgt_spec {pc : Nat} {o : Int} {aux : Nat} (h : qtgt pc o aux = true) : 0 ≤ (pc : Int) + o ∧ ((pc : Int) + o).toNat = aux := by
  unfold qtgt at h
  have h2 := Bool.and_eq_true_iff.mp h
  exact ⟨of_decide_eq_true h2.1, of_decide_eq_true h2.2⟩
/-! ## triples -/
def QCx (Z : State) (p : Program) (R : Room) (s : State) (mid : MethodId) (meth : Method) (c : Code) (m : Nat) : Prop :=
  p.tables.exec = Jvm.exec ∧ Z.Warmed39 s.vm ∧ c.code = pBytes m ∧ c.maxLocals = pMaxL m ∧ meth.sig.returnType = pRet m ∧ s.vm.findClass (kName (pK m)) = some mid.cls ∧ meth.name = pNm m ∧ pFr m ≤ R.frames ∧ pLo m ≤ R.locals
def QTri (l : Launch) (Z : State) (n0 : Nat) (ad : Nat → Addr) (m : Nat) (st : QSt) (v : Option Value) (σ' : QHeap) : Prop :=
  st.2.2.2.length ≤ σ'.length ∧ qhs st.2.2.2 ≤ qhs σ' ∧
  ∀ (p : Program) (e : Env) (R : Room) (s : State) (mid : MethodId) (args : Array Value) (below : List Frame) (meth : Method) (c : Code) (T : State) (locs : List Loc) (cells slots : Nat) (C : Array Slot),
    QCx Z p R s mid meth c m → Stand p l e R s mid args below meth c T locs cells slots → QRep Z n0 ad T.heap st.2.2.2 → Fr n0 locs → QLocOk ad st.2.1 C → C.size = c.maxLocals →
    n0 + (st.2.2.2.length - k0) = s.heap.size + cells → cells + (σ'.length - st.2.2.2.length) ≤ R.cells → slots + (qhs σ' - qhs st.2.2.2) ≤ R.slots →
    ∃ T' locs', Stand p l e R s mid args below meth c T' locs' (cells + (σ'.length - st.2.2.2.length)) (slots + (qhs σ' - qhs st.2.2.2)) ∧ QRep Z n0 ad T'.heap σ' ∧ Fr n0 locs' ∧
      ∀ fs, (∀ (f : JFrame) (acts : List Action), f.method = mid → f.locked = none → f.entered = [] → (doReturn e (T'.setTop f) acts (v.map (qv ad))).1 = T'.setFrames fs) →
        Steps p.tables e below (T.setTop (mkF mid st.1 C (st.2.2.1.map (qv ad)))) (T'.setFrames fs)
section Triples
variable {l : Launch} {Z : State} {n0 : Nat} {ad : Nat → Addr} {a0 : Array Value} {m : Nat} {v : Option Value} {σ' : QHeap}
theorem QTri.gen {st st' : QSt} (h : QTri l Z n0 ad m st' v σ') (g1 : st.2.2.2.length ≤ st'.2.2.2.length) (g2 : qhs st.2.2.2 ≤ qhs st'.2.2.2)
    (hs : ∀ (p : Program) (e : Env) (R : Room) (s : State) (mid : MethodId) (args : Array Value) (below : List Frame) (meth : Method) (c : Code) (T : State) (locs : List Loc) (cells slots : Nat) (C : Array Slot),
      QCx Z p R s mid meth c m → Stand p l e R s mid args below meth c T locs cells slots → QRep Z n0 ad T.heap st.2.2.2 → Fr n0 locs → QLocOk ad st.2.1 C → C.size = c.maxLocals →
      n0 + (st.2.2.2.length - k0) = s.heap.size + cells → cells + (st'.2.2.2.length - st.2.2.2.length) ≤ R.cells → slots + (qhs st'.2.2.2 - qhs st.2.2.2) ≤ R.slots →
      ∃ T₁ locs₁ C₁, Stand p l e R s mid args below meth c T₁ locs₁ (cells + (st'.2.2.2.length - st.2.2.2.length)) (slots + (qhs st'.2.2.2 - qhs st.2.2.2)) ∧ QRep Z n0 ad T₁.heap st'.2.2.2 ∧ Fr n0 locs₁ ∧ QLocOk ad st'.2.1 C₁ ∧ C₁.size = c.maxLocals ∧
        ∀ target, Steps p.tables e below (T₁.setTop (mkF mid st'.1 C₁ (st'.2.2.1.map (qv ad)))) target → Steps p.tables e below (T.setTop (mkF mid st.1 C (st.2.2.1.map (qv ad)))) target) :
    QTri l Z n0 ad m st v σ' := by
  obtain ⟨h1, h2, h3⟩ := h
  refine ⟨Nat.le_trans g1 h1, Nat.le_trans g2 h2, fun p e R s mid args below meth c T locs cells slots C hcx X hR hF hL hC hn hc hsl => ?_⟩
  obtain ⟨T₁, locs₁, C₁, X₁, R₁, F₁, L₁, C1, S₁⟩ := hs p e R s mid args below meth c T locs cells slots C hcx X hR hF hL hC hn (by omega) (by omega)
  have hk := hR.1
  obtain ⟨T', locs', X', R', F', S'⟩ := h3 p e R s mid args below meth c T₁ locs₁ _ _ C₁ hcx X₁ R₁ F₁ L₁ C1 (by omega) (by omega) (by omega)
  have e1 : cells + (st'.2.2.2.length - st.2.2.2.length) + (σ'.length - st'.2.2.2.length) = cells + (σ'.length - st.2.2.2.length) := by omega
  have e2 : slots + (qhs st'.2.2.2 - qhs st.2.2.2) + (qhs σ' - qhs st'.2.2.2) = slots + (qhs σ' - qhs st.2.2.2) := by omega
  rw [e1, e2] at X'
  exact ⟨T', locs', X', R', F', fun fs hf => S₁ _ (S' fs hf)⟩
theorem QTri.pure {st st' : QSt} (h : QTri l Z n0 ad m st' v σ') (hσ : st'.2.2.2 = st.2.2.2)
    (hs : ∀ (p : Program) (e : Env) (R : Room) (s : State) (mid : MethodId) (args : Array Value) (below : List Frame) (meth : Method) (c : Code) (T : State) (locs : List Loc) (cells slots : Nat) (C : Array Slot),
      QCx Z p R s mid meth c m → Stand p l e R s mid args below meth c T locs cells slots → QRep Z n0 ad T.heap st.2.2.2 → QLocOk ad st.2.1 C → C.size = c.maxLocals →
      ∃ T₁ C₁, Stand p l e R s mid args below meth c T₁ locs cells slots ∧ T₁.heap = T.heap ∧ QLocOk ad st'.2.1 C₁ ∧ C₁.size = c.maxLocals ∧
        ∀ target, Steps p.tables e below (T₁.setTop (mkF mid st'.1 C₁ (st'.2.2.1.map (qv ad)))) target → Steps p.tables e below (T.setTop (mkF mid st.1 C (st.2.2.1.map (qv ad)))) target) :
    QTri l Z n0 ad m st v σ' := by
  refine QTri.gen h (by rw [hσ]; exact Nat.le_refl _) (by rw [hσ]; exact Nat.le_refl _) fun p e R s mid args below meth c T locs cells slots C hcx X hR hF hL hC hn hc hsl => ?_
  obtain ⟨T₁, C₁, X₁, hh, L₁, C1, S₁⟩ := hs p e R s mid args below meth c T locs cells slots C hcx X hR hL hC
  refine ⟨T₁, locs, C₁, ?_, by rw [hσ, hh]; exact hR, hF, L₁, C1, S₁⟩
  rw [hσ, Nat.sub_self, Nat.sub_self]
  exact X₁
/-- a step of the frame alone -/
theorem QTri.frame {pc pc' : Nat} {L L' : QLoc} {S S' : List Value} {σ : QHeap} (h : QTri l Z n0 ad m (pc', L', S', σ) v σ')
    (hs : ∀ (p : Program) (e : Env) (R : Room) (s : State) (mid : MethodId) (args : Array Value) (below : List Frame) (meth : Method) (c : Code) (T : State) (locs : List Loc) (cells slots : Nat) (C : Array Slot),
      QCx Z p R s mid meth c m → Stand p l e R s mid args below meth c T locs cells slots → QRep Z n0 ad T.heap σ → QLocOk ad L C → C.size = c.maxLocals →
      ∃ C₁, QLocOk ad L' C₁ ∧ C₁.size = c.maxLocals ∧ ∀ target, Steps p.tables e below (T.setTop (mkF mid pc' C₁ (S'.map (qv ad)))) target → Steps p.tables e below (T.setTop (mkF mid pc C (S.map (qv ad)))) target) :
    QTri l Z n0 ad m (pc, L, S, σ) v σ' :=
  QTri.pure h rfl fun p e R s mid args below meth c T locs cells slots C hcx X hR hL hC => by
    obtain ⟨C₁, h1, h2, h3⟩ := hs p e R s mid args below meth c T locs cells slots C hcx X hR hL hC
    exact ⟨T, C₁, X, rfl, h1, h2, h3⟩
/-- a step of pc and stack alone -/
theorem QTri.stack {pc pc' : Nat} {L : QLoc} {S S' : List Value} {σ : QHeap} (h : QTri l Z n0 ad m (pc', L, S', σ) v σ')
    (hs : ∀ (p : Program) (e : Env) (R : Room) (s : State) (mid : MethodId) (args : Array Value) (below : List Frame) (meth : Method) (c : Code) (T : State) (locs : List Loc) (cells slots : Nat) (C : Array Slot) (target : State),
      p.tables.exec = Jvm.exec → Z.Warmed39 s.vm → c.code = pBytes m → s.vm.findClass (kName (pK m)) = some mid.cls → Stand p l e R s mid args below meth c T locs cells slots → QRep Z n0 ad T.heap σ → QLocOk ad L C →
      Steps p.tables e below (T.setTop (mkF mid pc' C (S'.map (qv ad)))) target → Steps p.tables e below (T.setTop (mkF mid pc C (S.map (qv ad)))) target) :
    QTri l Z n0 ad m (pc, L, S, σ) v σ' :=
  QTri.frame h fun p e R s mid args below meth c T locs cells slots C hcx X hR hL hC => ⟨C, hL, hC, fun target k => hs p e R s mid args below meth c T locs cells slots C target hcx.1 hcx.2.1 hcx.2.2.1 hcx.2.2.2.2.2.1 X hR hL k⟩
/-! ### what each helper says -/
theorem qload_inv {pc : Nat} {L : QLoc} {S : List Value} {σ : QHeap} {k : Nat} {ok : Value → Bool} {st' : QSt} (h : qload pc L S σ k ok = some st') : ∃ v, lget L k = some v ∧ ok v = true ∧ st' = (pc, L, v :: S, σ) := by
  unfold qload at h
  split at h
  · rename_i v hv
    cases ho : ok v with
    | true => rw [ho] at h; cases h; exact ⟨v, hv, ho, rfl⟩
    | false => rw [ho] at h; cases h
  · cases h
theorem qstore_inv {pc : Nat} {L : QLoc} {S : List Value} {σ : QHeap} {k : Nat} {ok : Value → Bool} {st' : QSt} (h : qstore pc L S σ k ok = some st') : ∃ v S' L', S = v :: S' ∧ ok v = true ∧ lput L k v = some L' ∧ st' = (pc, L', S', σ) := by
  unfold qstore at h
  split at h
  · rename_i v S'
    cases ho : ok v with
    | true =>
      rw [ho] at h
      simp only [cond_true] at h
      split at h
      · rename_i L' hL'
        cases h; exact ⟨v, S', L', rfl, ho, hL', rfl⟩
      · cases h
    | false => rw [ho] at h; cases h
  · cases h
theorem qbin_inv {pc : Nat} {L : QLoc} {S : List Value} {σ : QHeap} {f : Int32 → Int32 → Int32} {st' : QSt} (h : qbin pc L S σ f = some st') : ∃ x y S', S = .int y :: .int x :: S' ∧ st' = (pc, L, .int (f x y) :: S', σ) := by
  unfold qbin at h
  split at h
  · cases h; exact ⟨_, _, _, rfl, rfl⟩
  · cases h
theorem qbino_inv {pc : Nat} {L : QLoc} {S : List Value} {σ : QHeap} {f : Int32 → Int32 → Option Int32} {st' : QSt} (h : qbino pc L S σ f = some st') : ∃ x y z S', S = .int y :: .int x :: S' ∧ f x y = some z ∧ st' = (pc, L, .int z :: S', σ) := by
  unfold qbino at h
  split at h
  · obtain ⟨z, hz, h⟩ := Option.bind_eq_some_iff.mp h
    cases h; exact ⟨_, _, _, _, rfl, hz, rfl⟩
  · cases h
theorem qbinJ_inv {pc : Nat} {L : QLoc} {S : List Value} {σ : QHeap} {f : Int64 → Int64 → Int64} {st' : QSt} (h : qbinJ pc L S σ f = some st') : ∃ x y S', S = .long y :: .long x :: S' ∧ st' = (pc, L, .long (f x y) :: S', σ) := by
  unfold qbinJ at h
  split at h
  · cases h; exact ⟨_, _, _, rfl, rfl⟩
  · cases h
theorem qshJ_inv {pc : Nat} {L : QLoc} {S : List Value} {σ : QHeap} {f : Int64 → Int32 → Int64} {st' : QSt} (h : qshJ pc L S σ f = some st') : ∃ x y S', S = .int y :: .long x :: S' ∧ st' = (pc, L, .long (f x y) :: S', σ) := by
  unfold qshJ at h
  split at h
  · cases h; exact ⟨_, _, _, rfl, rfl⟩
  · cases h
theorem quni_inv {pc : Nat} {L : QLoc} {S : List Value} {σ : QHeap} {f : Int32 → Value} {st' : QSt} (h : quni pc L S σ f = some st') : ∃ x S', S = .int x :: S' ∧ st' = (pc, L, f x :: S', σ) := by
  unfold quni at h
  split at h
  · cases h; exact ⟨_, _, rfl, rfl⟩
  · cases h
theorem quniJ_inv {pc : Nat} {L : QLoc} {S : List Value} {σ : QHeap} {f : Int64 → Value} {st' : QSt} (h : quniJ pc L S σ f = some st') : ∃ x S', S = .long x :: S' ∧ st' = (pc, L, f x :: S', σ) := by
  unfold quniJ at h
  split at h
  · cases h; exact ⟨_, _, rfl, rfl⟩
  · cases h
theorem qif_inv {pc : Nat} {L : QLoc} {S : List Value} {σ : QHeap} {cd : ClassFile.Cond} {t : Nat} {st' : QSt} (h : qif pc L S σ cd t = some st') : ∃ x S', S = .int x :: S' ∧ st' = (bif ifCond.holds cd x then t else pc, L, S', σ) := by
  unfold qif at h
  split at h
  · cases h; exact ⟨_, _, rfl, rfl⟩
  · cases h
theorem qicmp_inv {pc : Nat} {L : QLoc} {S : List Value} {σ : QHeap} {cd : ClassFile.Cond} {t : Nat} {st' : QSt} (h : qicmp pc L S σ cd t = some st') : ∃ x y S', S = .int y :: .int x :: S' ∧ st' = (bif if_icmp.holds cd x y then t else pc, L, S', σ) := by
  unfold qicmp at h
  split at h
  · cases h; exact ⟨_, _, _, rfl, rfl⟩
  · cases h
theorem qget_inv {pc : Nat} {L : QLoc} {S : List Value} {σ : QHeap} {k : Nat} {st' : QSt} (h : qget pc L S σ k = some st') : ∃ a S' vs v, S = .ref a :: S' ∧ hget σ a = some (.inl vs) ∧ vget vs k = some v ∧ st' = (pc, L, v :: S', σ) := by
  unfold qget at h
  split at h
  · split at h
    · split at h
      · cases h; exact ⟨_, _, _, _, rfl, by assumption, by assumption, rfl⟩
      · cases h
    · cases h
  · cases h
theorem qput_inv {pc : Nat} {L : QLoc} {S : List Value} {σ : QHeap} {k : Nat} {st' : QSt} (h : qput pc L S σ k = some st') : ∃ v a S' vs w, S = v :: .ref a :: S' ∧ hget σ a = some (.inl vs) ∧ k0 ≤ a ∧ k < vs.length ∧ qfit (fTy k) v = some w ∧ st' = (pc, L, S', σ.set a (.inl (vs.set k w))) := by
  unfold qput at h
  split at h
  · rename_i v a S'
    split at h
    · rename_i vs hvs
      cases hbb : (Nat.ble k0 a && Nat.ble (k + 1) vs.length) with
      | false => rw [hbb] at h; cases h
      | true =>
        rw [hbb] at h
        simp only [cond_true] at h
        obtain ⟨u, hu, h⟩ := Option.bind_eq_some_iff.mp h
        cases h
        obtain ⟨b1, b2⟩ := Bool.and_eq_true_iff.mp hbb
        exact ⟨v, a, S', vs, u, rfl, hvs, Nat.le_of_ble_eq_true b1, Nat.le_of_ble_eq_true b2, hu, rfl⟩
    · cases h
  · cases h
theorem qald_inv {pc : Nat} {L : QLoc} {S : List Value} {σ : QHeap} {ok : FieldType → Bool} {st' : QSt} (h : qald pc L S σ ok = some st') : ∃ j a S' ty xs v, S = .int j :: .ref a :: S' ∧ hget σ a = some (.inr (.inl (ty, xs))) ∧ ok ty = true ∧ aget xs j = some v ∧ st' = (pc, L, .int v :: S', σ) := by
  unfold qald at h
  split at h
  · rename_i j a S'
    split at h
    · rename_i x hx
      cases ht : ok x.1 with
      | false => rw [ht] at h; cases h
      | true =>
        rw [ht] at h
        simp only [cond_true] at h
        obtain ⟨u, hu, h⟩ := Option.bind_eq_some_iff.mp h
        cases h
        exact ⟨j, a, S', x.1, x.2, u, rfl, hx, ht, hu, rfl⟩
    · cases h
  · cases h
theorem qaldJ_inv {pc : Nat} {L : QLoc} {S : List Value} {σ : QHeap} {st' : QSt} (h : qaldJ pc L S σ = some st') : ∃ j a S' xs v, S = .int j :: .ref a :: S' ∧ hget σ a = some (.inr (.inr xs)) ∧ aget xs j = some v ∧ st' = (pc, L, .long v :: S', σ) := by
  unfold qaldJ at h
  split at h
  · rename_i j a S'
    split at h
    · rename_i x hx
      obtain ⟨u, hu, h⟩ := Option.bind_eq_some_iff.mp h
      cases h
      exact ⟨j, a, S', x, u, rfl, hx, hu, rfl⟩
    · cases h
  · cases h
theorem qast_inv {pc : Nat} {L : QLoc} {S : List Value} {σ : QHeap} {ok : FieldType → Bool} {st' : QSt} (h : qast pc L S σ ok = some st') : ∃ v j a S' ty xs ys, S = .int v :: .int j :: .ref a :: S' ∧ hget σ a = some (.inr (.inl (ty, xs))) ∧ ok ty = true ∧ k0 ≤ a ∧ aset xs j (qnar ty v) = some ys ∧ st' = (pc, L, S', σ.set a (.inr (.inl (ty, ys)))) := by
  unfold qast at h
  split at h
  · rename_i v j a S'
    split at h
    · rename_i x hx
      cases ht : (ok x.1 && Nat.ble k0 a) with
      | false => rw [ht] at h; cases h
      | true =>
        rw [ht] at h
        simp only [cond_true] at h
        obtain ⟨u, hu, h⟩ := Option.bind_eq_some_iff.mp h
        cases h
        obtain ⟨b1, b2⟩ := Bool.and_eq_true_iff.mp ht
        exact ⟨v, j, a, S', x.1, x.2, u, rfl, hx, b1, Nat.le_of_ble_eq_true b2, hu, rfl⟩
    · cases h
  · cases h
theorem qastJ_inv {pc : Nat} {L : QLoc} {S : List Value} {σ : QHeap} {st' : QSt} (h : qastJ pc L S σ = some st') : ∃ v j a S' xs ys, S = .long v :: .int j :: .ref a :: S' ∧ hget σ a = some (.inr (.inr xs)) ∧ k0 ≤ a ∧ aset xs j v = some ys ∧ st' = (pc, L, S', σ.set a (.inr (.inr ys))) := by
  unfold qastJ at h
  split at h
  · rename_i v j a S'
    split at h
    · rename_i x hx
      cases ht : (Nat.ble k0 a) with
      | false => rw [ht] at h; cases h
      | true =>
        rw [ht] at h
        simp only [cond_true] at h
        obtain ⟨u, hu, h⟩ := Option.bind_eq_some_iff.mp h
        cases h
        exact ⟨v, j, a, S', x, u, rfl, hx, Nat.le_of_ble_eq_true ht, hu, rfl⟩
    · cases h
  · cases h
theorem qlen_inv {pc : Nat} {L : QLoc} {S : List Value} {σ : QHeap} {st' : QSt} (h : qlen pc L S σ = some st') : ∃ a S' n, S = .ref a :: S' ∧ ((∃ ty xs, hget σ a = some (.inr (.inl (ty, xs))) ∧ n = xs.length) ∨ ∃ xs, hget σ a = some (.inr (.inr xs)) ∧ n = xs.length) ∧ st' = (pc, L, .int n.toInt32 :: S', σ) := by
  unfold qlen at h
  split at h
  · rename_i a S'
    split at h
    · rename_i x hx
      cases h; exact ⟨a, S', _, rfl, Or.inl ⟨x.1, x.2, hx, rfl⟩, rfl⟩
    · rename_i x hx
      cases h; exact ⟨a, S', _, rfl, Or.inr ⟨x, hx, rfl⟩, rfl⟩
    · cases h
  · cases h
theorem isI_inv {v : Value} (h : isI v = true) : ∃ x, v = .int x := by cases v <;> simp [isI] at h; exact ⟨_, rfl⟩
theorem isJ_inv {v : Value} (h : isJ v = true) : ∃ x, v = .long x := by cases v <;> simp [isJ] at h; exact ⟨_, rfl⟩
theorem isR_inv {v : Value} (h : isR v = true) : ∃ x, v = .ref x := by cases v <;> simp [isR] at h; exact ⟨_, rfl⟩
theorem aget_inv {α : Type} {xs : List α} {j : Int32} {x : α} (h : aget xs j = some x) : ¬ j < 0 ∧ xs[j.toNatClampNeg]? = some x := by
  unfold aget at h
  split at h
  · cases h
  · rename_i q; exact ⟨q, h⟩
theorem aset_inv {α : Type} {xs ys : List α} {j : Int32} {x : α} (h : aset xs j x = some ys) : ¬ j < 0 ∧ j.toNatClampNeg < xs.length ∧ ys = xs.set j.toNatClampNeg x := by
  unfold aset at h
  split at h
  · cases h
  · rename_i q
    split at h
    · rename_i q2; cases h; exact ⟨q, q2, rfl⟩
    · cases h
theorem qnew_inv {n : Int32} {k : Nat} (h : qnew n = some k) : ¬ n < 0 ∧ n.toNatClampNeg = k ∧ k ≤ 67108864 := by
  unfold qnew at h
  split at h
  · cases h
  · rename_i q
    split at h
    · rename_i q2; cases h; exact ⟨q, rfl, q2⟩
    · cases h
/-! ### the heap's facts over a step -/
theorem QCellOk.other {h h' : Heap} {a b : Addr} {sl : Nat} {w : Value} {c : QCell} (H : QCellOk Z ad h b c) (W : Wr h h' a sl w) (ne : b ≠ a) : QCellOk Z ad h' b c := by
  rcases c with vs | ⟨ty, xs⟩ | xs
  · obtain ⟨h1, h2, h3⟩ := H
    exact ⟨h1.wr W, h2, fun k u hk hu => (h3 k u hk hu).other W (Or.inl ne)⟩
  · obtain ⟨c, h1, h2⟩ := H
    exact ⟨c, h1.other W ne, h2⟩
  · obtain ⟨c, h1, h2⟩ := H
    exact ⟨c, h1.other W ne, h2⟩
theorem QCellOk.ext {h h' : Heap} {b : Addr} {c : QCell} (H : QCellOk Z ad h b c) (E : Ext h h') : QCellOk Z ad h' b c := by
  rcases c with vs | ⟨ty, xs⟩ | xs
  · obtain ⟨h1, h2, h3⟩ := H
    exact ⟨h1.ext E, h2, fun k u hk hu => (h3 k u hk hu).ext E⟩
  · obtain ⟨c, h1, h2⟩ := H
    exact ⟨c, h1.ext E, h2⟩
  · obtain ⟨c, h1, h2⟩ := H
    exact ⟨c, h1.ext E, h2⟩
theorem QRep.set {h h' : Heap} {σ : QHeap} {a : Nat} {sl : Nat} {w : Value} {c d : QCell} (H : QRep Z n0 ad h σ) (Ad : QAd n0 ad) (W : Wr h h' (ad a) sl w) (hc : hget σ a = some c) (hd : QCellOk Z ad h' (ad a) d) : QRep Z n0 ad h' (σ.set a d) := by
  obtain ⟨h1, h2, h3⟩ := H
  refine ⟨by simpa using h1, by rw [W.size, h2]; simp, fun k e he => ?_⟩
  rw [hget_set hc] at he
  split at he
  · rename_i q; cases he; rw [q]; exact hd
  · rename_i q; exact (h3 k e he).other W fun z => q (Ad.2 _ _ z)
theorem QRep.push {h h' : Heap} {σ : QHeap} {c : QCell} (H : QRep Z n0 ad h σ) (Ad : QAd n0 ad) (E : Ext h h') (hs : h'.size = h.size + 1) (hc : QCellOk Z ad h' h.size c) : QRep Z n0 ad h' (σ ++ [c]) := by
  obtain ⟨h1, h2, h3⟩ := H
  refine ⟨by simp; omega, by rw [hs, h2]; simp; omega, fun k e he => ?_⟩
  rw [hget_eq] at he
  rcases Nat.lt_or_ge k σ.length with q | q
  · rw [List.getElem?_append_left q, ← hget_eq] at he
    exact (h3 k e he).ext E
  · rw [List.getElem?_append_right q] at he
    obtain rfl : k = σ.length := by
      rcases Nat.lt_or_ge (k - σ.length) 1 with z | z
      · omega
      · rw [List.getElem?_eq_none (by simpa using z)] at he; cases he
    simp at he
    rw [← he, Ad.1 _ h1, ← h2]
    exact hc
theorem mem_of_contains {α : Type} [BEq α] [LawfulBEq α] {L : List α} {a : α} (h : L.contains a = true) : a ∈ L := by simpa using h
theorem lkF_lt : ∀ t ∈ lkF, t.2.2 < nF := by decide +kernel
theorem laid_of (W : QW Z a0) {k : Nat} (hk : k < nF) : Laid Z a0 cName cName (fNm k) (fDs k) := by
  have q := (qw_lay W) k hk
  cases hf : fFin k with
  | true => rw [hf] at q; exact Or.inr q
  | false => rw [hf] at q; exact Or.inl q
theorem qfit_inv {ty : FieldType} {v w : Value} (h : qfit ty v = some w) : v = w ∧ narrow ty (qv ad w) = qv ad w ∧ fits ty (qv ad w) = true := by
  unfold qfit at h
  split at h
  · cases h; exact ⟨rfl, rfl, rfl⟩
  · rename_i x
    obtain ⟨y, hy, h⟩ := Option.bind_eq_some_iff.mp h
    cases h
    unfold qboo at hy
    split at hy
    · rename_i e; cases hy; subst e; exact ⟨rfl, rfl, rfl⟩
    · split at hy
      · rename_i e; cases hy; subst e; exact ⟨rfl, rfl, rfl⟩
      · cases hy
  · cases h; exact ⟨rfl, rfl, rfl⟩
  · cases h; exact ⟨rfl, rfl, rfl⟩
  · cases h
theorem vget_set {vs : List Value} {k j : Nat} {w : Value} (hk : k < vs.length) : vget (vs.set k w) j = if j = k then some w else vget vs j := by
  simp only [vget_eq, List.getElem?_set]
  by_cases e : k = j
  · subst e; simp [hk]
  · simp [e, Ne.symm e]
theorem ald_in {α : Type} {f : α → Value} {xs : List α} {c : Cell} {j : Int32} {x : α} (hc : c.slots = (xs.map f).toArray) (h : aget xs j = some x) : ¬ (j < 0 ∨ c.slots.size ≤ j.toNatClampNeg) ∧ c.slots[j.toNatClampNeg]? = some (f x) := by
  obtain ⟨h1, h2⟩ := aget_inv h
  have h3 := (List.getElem?_eq_some_iff.mp h2).1
  refine ⟨fun q => ?_, by rw [hc]; simp [h2]⟩
  rcases q with q | q
  · exact h1 q
  · rw [hc] at q; simp at q; omega
theorem ast_in {α : Type} {f : α → Value} {xs ys : List α} {c : Cell} {j : Int32} {x : α} (hc : c.slots = (xs.map f).toArray) (h : aset xs j x = some ys) : ¬ (j < 0 ∨ c.slots.size ≤ j.toNatClampNeg) ∧ (c.setSlot j.toNatClampNeg (f x)).slots = (ys.map f).toArray := by
  obtain ⟨h1, h2, rfl⟩ := aset_inv h
  refine ⟨fun q => ?_, by simp [Cell.setSlot, hc, List.map_set]⟩
  rcases q with q | q
  · exact h1 q
  · rw [hc] at q; simp at q; omega
theorem qgrow {σ : QHeap} {c : QCell} : qhs (σ ++ [c]) - qhs σ = qsz c := by rw [qhs_app]; simp [qhs]
set_option maxHeartbeats 4000000 in
theorem QTri.newArr (Ad : QAd n0 ad) (W : QW Z a0) {pc aux : Nat} {L : QLoc} {S : List Value} {σ : QHeap} {aty : ArrayType} {n : Int32} {k : Nat} {c : QCell} (hk : qnew n = some k) (hc : pCode m pc = some (.newarray aty, aux)) (hz : qsz c = k)
    (hq : ∀ (h' : Heap) (a : Addr) (cA : ClassId), Arr Z h' a (newA cA (newarray.typeOf aty) n) (newarray.typeOf aty) → QCellOk Z ad h' a c)
    (h : QTri l Z n0 ad m (pc + 2, L, .ref σ.length :: S, σ ++ [c]) v σ') : QTri l Z n0 ad m (pc, L, .int n :: S, σ) v σ' := by
  have hd : decode (pBytes m) pc = .ok (.newarray aty, 2) := pDecN hc rfl
  obtain ⟨n1, n2, n3⟩ := qnew_inv hk
  refine QTri.gen h (by simp) (by simp [qhs_app]) fun p e R s mid args below meth c' T locs cells slots C hcx X hR hF hL hC hn hc1 hsl => ?_
  obtain ⟨hx, hZ, hby, hml, hret, hown, hnm, hfr, hlo⟩ := hcx
  have hd2 : decode c'.code pc = .ok (.newarray aty, 2) := by rw [hby]; exact hd
  simp only [List.length_append, List.length_singleton, Nat.add_sub_cancel_left, qgrow, hz] at hc1 hsl ⊢
  obtain ⟨T₁, h₁, cA, X₁, e₁, E₁, A₁, st⟩ := newP X hx hZ (aty := aty) (qw_arr W (newarray.typeOf aty) (mem_of_contains (show aTys.contains (newarray.typeOf aty) = true from pRest hc))) rfl (g := mkF mid pc C (.int n :: S.map (qv ad))) rfl hd2 rfl n1 (cap := k) (by omega) (by omega) hc1 hsl
  have hsz : h₁.size = T.heap.size + 1 := by
    have q1 := X₁.heapSize
    have q2 : T.heap.size < h₁.size := A₁.lt
    have q3 := hR.2.1
    rw [e₁] at q1
    have : n0 + (σ.length - k0) = s.heap.size + cells := hn
    have q3' : T.heap.size = n0 + (σ.length - k0) := q3
    omega
  refine ⟨T₁, locs, C, X₁, ?_, hF, hL, hC, fun target q => ?_⟩
  · rw [e₁]; exact QRep.push hR Ad E₁ hsz (hq _ _ _ A₁)
  · refine st _ ?_
    have e2 : ad σ.length = T.heap.size := by rw [Ad.1 _ hR.1]; exact hR.2.1.symm
    simp only [List.map_cons, qv, e2] at q
    exact q
set_option maxHeartbeats 4000000 in
theorem QTri.getfield (W : QW Z a0) {pc idx aux : Nat} {L : QLoc} {S : List Value} {σ : QHeap} {st' : QSt} (h : QTri l Z n0 ad m st' v σ') (hc : pCode m pc = some (.getfield idx, aux)) (hs : qget (pc + 3) L S σ aux = some st') : QTri l Z n0 ad m (pc, L, S, σ) v σ' := by
  have hd : decode (pBytes m) pc = .ok (.getfield idx, 3) := pDecN hc rfl
  obtain ⟨a, S', vs, w, rfl, hvs, hw, rfl⟩ := qget_inv hs
  have hm := mem_of_contains (show lkF.contains (pK m, idx, aux) = true from pRest hc)
  have hlt := lkF_lt _ hm
  refine QTri.pure h rfl fun p e R s mid args below meth c T locs cells slots C hcx X hR hL hC => ?_
  obtain ⟨hx, hZ, hby, hml, hret, hown, hnm, hfr, hlo⟩ := hcx
  have hd2 : decode c.code pc = .ok (.getfield idx, 3) := by rw [hby]; exact hd
  have F := (hR.2.2 _ _ hvs).2.2 aux w hlt hw
  obtain ⟨T₁, X₁, e₁, st⟩ := getF X hx hZ hown (host := "") (index := idx) (Or.inl (qw_fl W (pK m, idx, aux) hm)) Via.refl rfl F (g := mkF mid pc C (List.map (qv ad) (.ref a :: S'))) rfl rfl hd2
  exact ⟨T₁, C, X₁, e₁, hL, hC, st⟩
set_option maxHeartbeats 4000000 in
theorem QTri.putfield (Ad : QAd n0 ad) (W : QW Z a0) {pc idx aux : Nat} {L : QLoc} {S : List Value} {σ : QHeap} {st' : QSt} (h : QTri l Z n0 ad m st' v σ') (hc : pCode m pc = some (.putfield idx, aux)) (hs : qput (pc + 3) L S σ aux = some st') : QTri l Z n0 ad m (pc, L, S, σ) v σ' := by
  have hd : decode (pBytes m) pc = .ok (.putfield idx, 3) := pDecN hc rfl
  obtain ⟨w, a, S', vs, u, rfl, hvs, b1, b2, hu, rfl⟩ := qput_inv hs
  obtain ⟨r1, r2⟩ := Bool.and_eq_true_iff.mp (show (lkF.contains (pK m, idx, aux) && (!fFin aux || (pK m == 1 && pNm m == "<init>"))) = true from pRest hc)
  have hm := mem_of_contains r1
  have hlt := lkF_lt _ hm
  obtain ⟨rfl, q2, q3⟩ := qfit_inv (ad := ad) hu
  have hsz : qhs (σ.set a (Sum.inl (vs.set aux w))) = qhs σ := qhs_set hvs rfl
  refine QTri.gen h (by simp) (by show qhs σ ≤ qhs (σ.set a (Sum.inl (vs.set aux w))); rw [hsz]; exact Nat.le_refl _) fun p e R s mid args below meth c T locs cells slots C hcx X hR hF hL hC hn hc1 hsl => ?_
  obtain ⟨hx, hZ, hby, hml, hret, hown, hnm, hfr, hlo⟩ := hcx
  have hd2 : decode c.code pc = .ok (.putfield idx, 3) := by rw [hby]; exact hd
  obtain ⟨E, l1, Fs⟩ := hR.2.2 _ _ hvs
  obtain ⟨old, hold⟩ : ∃ old, vget vs aux = some old := by rw [vget_eq]; exact ⟨_, List.getElem?_eq_getElem b2⟩
  have lay : (Cond.lays cName cName (fNm aux) (fDs aux)).before a0 Z = true ∨ ((Cond.laysFinal cName cName (fNm aux) (fDs aux)).before a0 Z = true ∧ kName (pK m) = cName ∧ meth.name = "<init>") := by
    have q := (qw_lay W) aux hlt
    cases hf : fFin aux with
    | false => rw [hf] at q; exact Or.inl q
    | true =>
      rw [hf] at q r2
      simp at r2
      exact Or.inr ⟨q, by rw [r2.1]; exact kOne, by rw [hnm]; exact r2.2⟩
  obtain ⟨T₁, h₁, X₁, e₁, W₁, st⟩ := putF X hx hZ hown (host := "") (index := idx) (Or.inl (qw_fl W (pK m, idx, aux) hm)) Via.refl rfl (Fs aux old hlt hold) E lay ((qw_inst W)) (fPrs aux hlt) q2 q3 (g := mkF mid pc C (List.map (qv ad) (w :: .ref a :: S'))) rfl rfl hd2
  refine ⟨T₁, _, C, ?_, ?_, Fr.snoc X₁ hF (by rw [Ad.1 a b1]; exact Nat.le_add_right _ _), hL, hC, st⟩
  · show Stand _ _ _ _ _ _ _ _ _ _ _ _ (cells + ((σ.set a (Sum.inl (vs.set aux w))).length - σ.length)) (slots + (qhs (σ.set a (Sum.inl (vs.set aux w))) - qhs σ))
    rw [hsz, Nat.sub_self, List.length_set, Nat.sub_self]
    exact X₁
  · rw [e₁]
    refine QRep.set hR Ad W₁ hvs ⟨E.wr W₁, by simpa using l1, fun k u hk hu => ?_⟩
    rw [vget_set b2] at hu
    split at hu
    · rename_i e; cases hu; rw [e]; exact (Fs aux old hlt hold).same W₁
    · rename_i ne
      exact (Fs k u hk hu).other W₁ (Or.inr (slot_ne (laid_of W hk) (laid_of W hlt) (fun z => ne (fInj _ hk _ hlt z)) (fPrs _ hk) (fPrs _ hlt)))
theorem tyI_inv {ty : FieldType} (h : tyI ty = true) : ty = .int := by cases ty <;> simp [tyI] at h; rfl
theorem tyB_inv {ty : FieldType} (h : tyB ty = true) : ty = .boolean ∨ ty = .byte := by cases ty <;> simp [tyB] at h <;> simp
set_option maxHeartbeats 4000000 in
theorem QTri.iaload {pc aux : Nat} {L : QLoc} {S : List Value} {σ : QHeap} {st' : QSt} (h : QTri l Z n0 ad m st' v σ') (hc : pCode m pc = some (.iaload, aux)) (hs : qald (pc + 1) L S σ tyI = some st') : QTri l Z n0 ad m (pc, L, S, σ) v σ' := by
  have hd : decode (pBytes m) pc = .ok (.iaload, 1) := pDecN hc rfl
  obtain ⟨j, a, S', ty, xs, w, rfl, hx1, ht, hw, rfl⟩ := qald_inv hs
  obtain rfl := tyI_inv ht
  refine QTri.stack h fun p e R s mid args below meth c T locs cells slots C target hx hZ hby hown X hR hL k => ?_
  have hd2 : decode c.code pc = .ok (.iaload, 1) := by rw [hby]; exact hd
  obtain ⟨cl, A, hsl⟩ := hR.2.2 _ _ hx1
  obtain ⟨i1, i2⟩ := ald_in hsl hw
  exact X.iaload hx A.1 (State.isArrayOf_alike hZ.alike A.2.1) A.2.2 i1 i2 (g := mkF mid pc C (List.map (qv ad) (.int j :: .ref a :: S'))) rfl rfl hd2 _ k
set_option maxHeartbeats 4000000 in
theorem QTri.baload {pc aux : Nat} {L : QLoc} {S : List Value} {σ : QHeap} {st' : QSt} (h : QTri l Z n0 ad m st' v σ') (hc : pCode m pc = some (.baload, aux)) (hs : qald (pc + 1) L S σ tyB = some st') : QTri l Z n0 ad m (pc, L, S, σ) v σ' := by
  have hd : decode (pBytes m) pc = .ok (.baload, 1) := pDecN hc rfl
  obtain ⟨j, a, S', ty, xs, w, rfl, hx1, ht, hw, rfl⟩ := qald_inv hs
  refine QTri.stack h fun p e R s mid args below meth c T locs cells slots C target hx hZ hby hown X hR hL k => ?_
  have hd2 : decode c.code pc = .ok (.baload, 1) := by rw [hby]; exact hd
  obtain ⟨cl, A, hsl⟩ := hR.2.2 _ _ hx1
  obtain ⟨i1, i2⟩ := ald_in hsl hw
  rcases tyB_inv ht with rfl | rfl
  · exact X.baloadBooleans hx A.1 (State.isArrayOf_alike hZ.alike A.2.1) A.2.2 i1 i2 (g := mkF mid pc C (List.map (qv ad) (.int j :: .ref a :: S'))) rfl rfl hd2 _ k
  · exact X.baloadBytes hx A.1 (State.isArrayOf_alike hZ.alike A.2.1) A.2.2 i1 i2 (g := mkF mid pc C (List.map (qv ad) (.int j :: .ref a :: S'))) rfl rfl hd2 _ k
set_option maxHeartbeats 4000000 in
theorem QTri.laload {pc aux : Nat} {L : QLoc} {S : List Value} {σ : QHeap} {st' : QSt} (h : QTri l Z n0 ad m st' v σ') (hc : pCode m pc = some (.laload, aux)) (hs : qaldJ (pc + 1) L S σ = some st') : QTri l Z n0 ad m (pc, L, S, σ) v σ' := by
  have hd : decode (pBytes m) pc = .ok (.laload, 1) := pDecN hc rfl
  obtain ⟨j, a, S', xs, w, rfl, hx1, hw, rfl⟩ := qaldJ_inv hs
  refine QTri.stack h fun p e R s mid args below meth c T locs cells slots C target hx hZ hby hown X hR hL k => ?_
  have hd2 : decode c.code pc = .ok (.laload, 1) := by rw [hby]; exact hd
  obtain ⟨cl, A, hsl⟩ := hR.2.2 _ _ hx1
  obtain ⟨i1, i2⟩ := ald_in hsl hw
  exact X.laload hx A.1 (State.isArrayOf_alike hZ.alike A.2.1) A.2.2 i1 i2 (g := mkF mid pc C (List.map (qv ad) (.int j :: .ref a :: S'))) rfl rfl hd2 _ k
/-- behind a store into an array -/
theorem QTri.stored (Ad : QAd n0 ad) {pc : Nat} {L : QLoc} {S S' : List Value} {σ : QHeap} {a j : Nat} {w : Value} {c d : QCell} (hx1 : hget σ a = some c) (b1 : k0 ≤ a) (hz : qsz d = qsz c) (h : QTri l Z n0 ad m (pc + 1, L, S', σ.set a d) v σ')
    (hs : ∀ (p : Program) (e : Env) (R : Room) (s : State) (mid : MethodId) (args : Array Value) (below : List Frame) (meth : Method) (c : Code) (T : State) (locs : List Loc) (cells slots : Nat) (C : Array Slot),
      QCx Z p R s mid meth c m → Stand p l e R s mid args below meth c T locs cells slots → QRep Z n0 ad T.heap σ →
      ∃ T' h', Stand p l e R s mid args below meth c T' (locs ++ [⟨ad a, j⟩]) cells slots ∧ T'.heap = h' ∧ Wr T.heap h' (ad a) j w ∧ QCellOk Z ad h' (ad a) d ∧ ∀ target, Steps p.tables e below (T'.setTop (mkF mid (pc + 1) C (S'.map (qv ad)))) target → Steps p.tables e below (T.setTop (mkF mid pc C (S.map (qv ad)))) target) :
    QTri l Z n0 ad m (pc, L, S, σ) v σ' := by
  have hsz : qhs (σ.set a d) = qhs σ := qhs_set hx1 hz
  refine QTri.gen h (by simp) (by show qhs σ ≤ qhs (σ.set a d); rw [hsz]; exact Nat.le_refl _) fun p e R s mid args below meth c T locs cells slots C hcx X hR hF hL hC hn hc1 hsl => ?_
  obtain ⟨T₁, h₁, X₁, e₁, W₁, Q₁, st⟩ := hs p e R s mid args below meth c T locs cells slots C hcx X hR
  refine ⟨T₁, _, C, ?_, ?_, Fr.snoc X₁ hF (by rw [Ad.1 a b1]; exact Nat.le_add_right _ _), hL, hC, st⟩
  · show Stand _ _ _ _ _ _ _ _ _ _ _ _ (cells + ((σ.set a d).length - σ.length)) (slots + (qhs (σ.set a d) - qhs σ))
    rw [hsz, Nat.sub_self, List.length_set, Nat.sub_self]
    exact X₁
  · rw [e₁]
    exact QRep.set hR Ad W₁ hx1 Q₁
set_option maxHeartbeats 4000000 in
theorem QTri.iastore (Ad : QAd n0 ad) {pc aux : Nat} {L : QLoc} {S : List Value} {σ : QHeap} {st' : QSt} (h : QTri l Z n0 ad m st' v σ') (hc : pCode m pc = some (.iastore, aux)) (hs : qast (pc + 1) L S σ tyI = some st') : QTri l Z n0 ad m (pc, L, S, σ) v σ' := by
  have hd : decode (pBytes m) pc = .ok (.iastore, 1) := pDecN hc rfl
  obtain ⟨w, j, a, S', ty, xs, ys, rfl, hx1, ht, b1, hw, rfl⟩ := qast_inv hs
  obtain rfl := tyI_inv ht
  refine QTri.stored Ad (j := j.toNatClampNeg) (w := .int w) hx1 b1 (by rw [(aset_inv hw).2.2]; simp [qsz]) h fun p e R s mid args below meth c T locs cells slots C hcx X hR => ?_
  have hd2 : decode c.code pc = .ok (.iastore, 1) := by rw [hcx.2.2.1]; exact hd
  obtain ⟨cl, A, hsl⟩ := hR.2.2 _ _ hx1
  obtain ⟨i1, i2⟩ := ast_in hsl hw
  obtain ⟨T₁, h₁, X₁, e₁, W₁, st⟩ := stI X hcx.1 hcx.2.1 rfl A i1 (g := mkF mid pc C (List.map (qv ad) (.int w :: .int j :: .ref a :: S'))) rfl rfl hd2
  exact ⟨T₁, h₁, X₁, e₁, W₁, ⟨_, A.same W₁, i2⟩, st⟩
set_option maxHeartbeats 4000000 in
theorem QTri.bastore (Ad : QAd n0 ad) {pc aux : Nat} {L : QLoc} {S : List Value} {σ : QHeap} {st' : QSt} (h : QTri l Z n0 ad m st' v σ') (hc : pCode m pc = some (.bastore, aux)) (hs : qast (pc + 1) L S σ tyB = some st') : QTri l Z n0 ad m (pc, L, S, σ) v σ' := by
  have hd : decode (pBytes m) pc = .ok (.bastore, 1) := pDecN hc rfl
  obtain ⟨w, j, a, S', ty, xs, ys, rfl, hx1, ht, b1, hw, rfl⟩ := qast_inv hs
  refine QTri.stored Ad (j := j.toNatClampNeg) (w := .int (qnar ty w)) hx1 b1 (by rw [(aset_inv hw).2.2]; simp [qsz]) h fun p e R s mid args below meth c T locs cells slots C hcx X hR => ?_
  have hd2 : decode c.code pc = .ok (.bastore, 1) := by rw [hcx.2.2.1]; exact hd
  obtain ⟨cl, A, hsl⟩ := hR.2.2 _ _ hx1
  obtain ⟨i1, i2⟩ := ast_in hsl hw
  rcases tyB_inv ht with rfl | rfl
  · obtain ⟨T₁, h₁, X₁, e₁, W₁, st⟩ := stZ X hcx.1 hcx.2.1 rfl A i1 (g := mkF mid pc C (List.map (qv ad) (.int w :: .int j :: .ref a :: S'))) rfl rfl hd2
    exact ⟨T₁, h₁, X₁, e₁, W₁, ⟨_, A.same W₁, i2⟩, st⟩
  · obtain ⟨T₁, h₁, X₁, e₁, W₁, st⟩ := stB X hcx.1 hcx.2.1 rfl A i1 (g := mkF mid pc C (List.map (qv ad) (.int w :: .int j :: .ref a :: S'))) rfl rfl hd2
    exact ⟨T₁, h₁, X₁, e₁, W₁, ⟨_, A.same W₁, i2⟩, st⟩
set_option maxHeartbeats 4000000 in
theorem QTri.lastore (Ad : QAd n0 ad) {pc aux : Nat} {L : QLoc} {S : List Value} {σ : QHeap} {st' : QSt} (h : QTri l Z n0 ad m st' v σ') (hc : pCode m pc = some (.lastore, aux)) (hs : qastJ (pc + 1) L S σ = some st') : QTri l Z n0 ad m (pc, L, S, σ) v σ' := by
  have hd : decode (pBytes m) pc = .ok (.lastore, 1) := pDecN hc rfl
  obtain ⟨w, j, a, S', xs, ys, rfl, hx1, b1, hw, rfl⟩ := qastJ_inv hs
  refine QTri.stored Ad (j := j.toNatClampNeg) (w := .long w) hx1 b1 (by rw [(aset_inv hw).2.2]; simp [qsz]) h fun p e R s mid args below meth c T locs cells slots C hcx X hR => ?_
  have hd2 : decode c.code pc = .ok (.lastore, 1) := by rw [hcx.2.2.1]; exact hd
  obtain ⟨cl, A, hsl⟩ := hR.2.2 _ _ hx1
  obtain ⟨i1, i2⟩ := ast_in hsl hw
  obtain ⟨T₁, h₁, X₁, e₁, W₁, st⟩ := stJ X hcx.1 hcx.2.1 rfl A i1 (g := mkF mid pc C (List.map (qv ad) (.long w :: .int j :: .ref a :: S'))) rfl rfl hd2
  exact ⟨T₁, h₁, X₁, e₁, W₁, ⟨_, A.same W₁, i2⟩, st⟩
set_option maxHeartbeats 4000000 in
theorem QTri.alen {pc aux : Nat} {L : QLoc} {S : List Value} {σ : QHeap} {st' : QSt} (h : QTri l Z n0 ad m st' v σ') (hc : pCode m pc = some (.arraylength, aux)) (hs : qlen (pc + 1) L S σ = some st') : QTri l Z n0 ad m (pc, L, S, σ) v σ' := by
  have hd : decode (pBytes m) pc = .ok (.arraylength, 1) := pDecN hc rfl
  obtain ⟨a, S', n, rfl, hx1, rfl⟩ := qlen_inv hs
  refine QTri.stack h fun p e R s mid args below meth c T locs cells slots C target hx hZ hby hown X hR hL k => ?_
  have hd2 : decode c.code pc = .ok (.arraylength, 1) := by rw [hby]; exact hd
  rcases hx1 with ⟨ty, xs, hx1, rfl⟩ | ⟨xs, hx1, rfl⟩
  · obtain ⟨cl, A, hsl⟩ := hR.2.2 _ _ hx1
    have e1 : cl.slots.size = xs.length := by rw [hsl]; simp
    rw [← e1] at k
    exact X.arraylength hx A.1 (State.isArrayOf_alike hZ.alike A.2.1) (g := mkF mid pc C (List.map (qv ad) (.ref a :: S'))) rfl rfl hd2 _ k
  · obtain ⟨cl, A, hsl⟩ := hR.2.2 _ _ hx1
    have e1 : cl.slots.size = xs.length := by rw [hsl]; simp
    rw [← e1] at k
    exact X.arraylength hx A.1 (State.isArrayOf_alike hZ.alike A.2.1) (g := mkF mid pc C (List.map (qv ad) (.ref a :: S'))) rfl rfl hd2 _ k
set_option maxHeartbeats 4000000 in
theorem QTri.newObj (Ad : QAd n0 ad) (W : QW Z a0) {pc idx aux : Nat} {L : QLoc} {S : List Value} {σ : QHeap} (h : QTri l Z n0 ad m (pc + 3, L, .ref σ.length :: S, σ ++ [.inl cDef]) v σ') (hc : pCode m pc = some (.new idx, aux)) : QTri l Z n0 ad m (pc, L, S, σ) v σ' := by
  have hd : decode (pBytes m) pc = .ok (.new idx, 3) := pDecN hc rfl
  have hm := mem_of_contains (show lkN.contains (pK m, idx) = true from pRest hc)
  refine QTri.gen h (by simp) (by simp [qhs_app]) fun p e R s mid args below meth c T locs cells slots C hcx X hR hF hL hC hn hc1 hsl => ?_
  obtain ⟨hx, hZ, hby, hml, hret, hown, hnm, hfr, hlo⟩ := hcx
  have hd2 : decode c.code pc = .ok (.new idx, 3) := by rw [hby]; exact hd
  simp only [List.length_append, List.length_singleton, Nat.add_sub_cancel_left, qgrow, qsz] at hc1 hsl ⊢
  obtain ⟨T₁, h₁, X₁, e₁, E₁, A₁, D₁, -, st⟩ := newO X hx hZ hown (index := idx) (qw_nw W (pK m, idx) hm) ((qw_inst W)) ((qw_init W)) rfl (g := mkF mid pc C (S.map (qv ad))) rfl hd2 hc1 hsl
  have hsz : h₁.size = T.heap.size + 1 := by
    have q1 := X₁.heapSize
    have q2 : T.heap.size < h₁.size := A₁.lt
    have q3 : T.heap.size = n0 + (σ.length - k0) := hR.2.1
    rw [e₁] at q1
    have : n0 + (σ.length - k0) = s.heap.size + cells := hn
    omega
  refine ⟨T₁, locs, C, X₁, ?_, hF, hL, hC, fun target q => ?_⟩
  · rw [e₁]
    refine QRep.push hR Ad E₁ hsz ⟨A₁, cDefL, fun k u hk hu => ?_⟩
    rw [cDefs k hk] at hu
    cases hu
    have e3 : qv ad (defaultValue (fTy k)) = defaultValue (fTy k) := by
      cases hq : defaultValue (fTy k) with
      | ref a => exact absurd hq (fDef k hk a)
      | _ => rfl
    rw [e3]
    exact D₁ (laid_of W hk) (fPrs k hk)
  · refine st _ ?_
    have e2 : ad σ.length = T.heap.size := by rw [Ad.1 _ hR.1]; exact hR.2.1.symm
    simp only [List.map_cons, qv, e2] at q
    exact q
set_option maxHeartbeats 8000000 in
theorem QTri.step (Ad : QAd n0 ad) (W : QW Z a0) {st st' : QSt} (h : QTri l Z n0 ad m st' v σ') (hs : qstep m st = some st') : QTri l Z n0 ad m st v σ' := by
  obtain ⟨pc, L, S, σ⟩ := st
  unfold qstep at hs
  dsimp only at hs
  split at hs
  rotate_left
  · cases hs
  rename_i i aux hc
  have hd := pDecN hc rfl
  have hr := pRest hc
  unfold qexec at hs
  split at hs
  · -- aload_n
    obtain ⟨w, h1, h2, rfl⟩ := qload_inv hs
    obtain ⟨a, rfl⟩ := isR_inv h2
    exact QTri.stack h fun p e R s mid args below meth c T locs cells slots C target hx hZ hby hown X hR hL k => XS.aloadN X.here hx rfl (hb hby hd) (hL.2.1 _ _ h1) rfl k
  · obtain ⟨w, h1, h2, rfl⟩ := qload_inv hs
    obtain ⟨a, rfl⟩ := isR_inv h2
    exact QTri.stack h fun p e R s mid args below meth c T locs cells slots C target hx hZ hby hown X hR hL k => XS.aload X.here hx rfl (hb hby hd) (hL.2.1 _ _ h1) rfl k
  · obtain ⟨w, h1, h2, rfl⟩ := qload_inv hs
    obtain ⟨a, rfl⟩ := isI_inv h2
    exact QTri.stack h fun p e R s mid args below meth c T locs cells slots C target hx hZ hby hown X hR hL k => XS.iloadN X.here hx rfl (hb hby hd) (hL.2.1 _ _ h1) k
  · obtain ⟨w, h1, h2, rfl⟩ := qload_inv hs
    obtain ⟨a, rfl⟩ := isI_inv h2
    exact QTri.stack h fun p e R s mid args below meth c T locs cells slots C target hx hZ hby hown X hR hL k => XS.iload X.here hx rfl (hb hby hd) (hL.2.1 _ _ h1) k
  · obtain ⟨w, h1, h2, rfl⟩ := qload_inv hs
    obtain ⟨a, rfl⟩ := isJ_inv h2
    exact QTri.stack h fun p e R s mid args below meth c T locs cells slots C target hx hZ hby hown X hR hL k => XT.lloadN X.here hx rfl (hb hby hd) (hL.2.1 _ _ h1) k
  · obtain ⟨w, h1, h2, rfl⟩ := qload_inv hs
    obtain ⟨a, rfl⟩ := isJ_inv h2
    exact QTri.stack h fun p e R s mid args below meth c T locs cells slots C target hx hZ hby hown X hR hL k => XT.lload X.here hx rfl (hb hby hd) (hL.2.1 _ _ h1) k
  · cases hs -- iconst
    exact QTri.stack h fun p e R s mid args below meth c T locs cells slots C target hx hZ hby hown X hR hL k => XS.iconst X.here hx rfl (hb hby hd) k
  · cases hs
    exact QTri.stack h fun p e R s mid args below meth c T locs cells slots C target hx hZ hby hown X hR hL k => XS.bipush X.here hx rfl (hb hby hd) k
  · cases hs
    exact QTri.stack h fun p e R s mid args below meth c T locs cells slots C target hx hZ hby hown X hR hL k => XS.sipush X.here hx rfl (hb hby hd) k
  · cases hs
    exact QTri.stack h fun p e R s mid args below meth c T locs cells slots C target hx hZ hby hown X hR hL k => XT.lconst X.here hx rfl (hb hby hd) k
  · -- ldc
    unfold qldc at hs
    split at hs
    · rename_i w hw
      cases hs
      obtain ⟨x, hx1, hx2⟩ := qw_cI W (pK m, _, aux) (mem_of_contains (show lkC.contains (pK m, _, aux) = true from hr))
      rw [show vget cK aux = some w from hw] at hx1
      cases hx1
      exact QTri.stack h fun p e R s mid args below meth c T locs cells slots C target hx hZ hby hown X hR hL k => X.ldcI hx hown (mv hZ hx2) rfl (hb hby hd) k
    · cases hs
  · unfold qldc at hs
    split at hs
    · rename_i w hw
      cases hs
      obtain ⟨x, hx1, hx2⟩ := qw_cJ W (pK m, _, aux) (mem_of_contains (show lkD.contains (pK m, _, aux) = true from hr))
      rw [show vget cK aux = some w from hw] at hx1
      cases hx1
      exact QTri.stack h fun p e R s mid args below meth c T locs cells slots C target hx hZ hby hown X hR hL k => X.ldc2J hx hown (mv hZ hx2) rfl (hb hby hd) k
    · cases hs
  · -- istore_n
    obtain ⟨w, S', L', rfl, h2, h3, rfl⟩ := qstore_inv hs
    obtain ⟨a, rfl⟩ := isI_inv h2
    exact QTri.frame h fun p e R s mid args below meth c T locs cells slots C hcx X hR hL hC => by
      obtain ⟨D, d1, d2, d3⟩ := store_ok hL h3
      exact ⟨D, d2, d3.trans hC, fun target k => XS.istoreN X.here hcx.1 rfl (hb hcx.2.2.1 hd) rfl d1 k⟩
  · obtain ⟨w, S', L', rfl, h2, h3, rfl⟩ := qstore_inv hs
    obtain ⟨a, rfl⟩ := isI_inv h2
    exact QTri.frame h fun p e R s mid args below meth c T locs cells slots C hcx X hR hL hC => by
      obtain ⟨D, d1, d2, d3⟩ := store_ok hL h3
      exact ⟨D, d2, d3.trans hC, fun target k => XS.istore X.here hcx.1 rfl (hb hcx.2.2.1 hd) rfl d1 k⟩
  · obtain ⟨w, S', L', rfl, h2, h3, rfl⟩ := qstore_inv hs
    obtain ⟨a, rfl⟩ := isJ_inv h2
    exact QTri.frame h fun p e R s mid args below meth c T locs cells slots C hcx X hR hL hC => by
      obtain ⟨D, d1, d2, d3⟩ := store_ok hL h3
      exact ⟨D, d2, d3.trans hC, fun target k => XT.lstoreN X.here hcx.1 rfl (hb hcx.2.2.1 hd) rfl d1 k⟩
  · obtain ⟨w, S', L', rfl, h2, h3, rfl⟩ := qstore_inv hs
    obtain ⟨a, rfl⟩ := isJ_inv h2
    exact QTri.frame h fun p e R s mid args below meth c T locs cells slots C hcx X hR hL hC => by
      obtain ⟨D, d1, d2, d3⟩ := store_ok hL h3
      exact ⟨D, d2, d3.trans hC, fun target k => XT.lstore X.here hcx.1 rfl (hb hcx.2.2.1 hd) rfl d1 k⟩
  · obtain ⟨w, S', L', rfl, h2, h3, rfl⟩ := qstore_inv hs
    obtain ⟨a, rfl⟩ := isR_inv h2
    exact QTri.frame h fun p e R s mid args below meth c T locs cells slots C hcx X hR hL hC => by
      obtain ⟨D, d1, d2, d3⟩ := store_ok hL h3
      exact ⟨D, d2, d3.trans hC, fun target k => XS.astoreN X.here hcx.1 rfl (hb hcx.2.2.1 hd) rfl rfl d1 k⟩
  · obtain ⟨w, S', L', rfl, h2, h3, rfl⟩ := qstore_inv hs
    obtain ⟨a, rfl⟩ := isR_inv h2
    exact QTri.frame h fun p e R s mid args below meth c T locs cells slots C hcx X hR hL hC => by
      obtain ⟨D, d1, d2, d3⟩ := store_ok hL h3
      exact ⟨D, d2, d3.trans hC, fun target k => XS.astore X.here hcx.1 rfl (hb hcx.2.2.1 hd) rfl rfl d1 k⟩
  · -- iinc
    unfold qinc at hs
    split at hs
    · rename_i x hx1
      split at hs
      · rename_i L' hL'
        cases hs
        exact QTri.frame h fun p e R s mid args below meth c T locs cells slots C hcx X hR hL hC => by
          obtain ⟨D, d1, d2, d3⟩ := store_ok hL hL'
          exact ⟨D, d2, d3.trans hC, fun target k => XS.iinc X.here hcx.1 rfl (hb hcx.2.2.1 hd) (hL.2.1 _ _ hx1) d1 k⟩
      · cases hs
    · cases hs
  · obtain ⟨x, y, S', rfl, rfl⟩ := qbin_inv hs -- iadd
    exact QTri.stack h fun p e R s mid args below meth c T locs cells slots C target hx hZ hby hown X hR hL k => XS.iadd X.here hx rfl (hb hby hd) rfl k
  · obtain ⟨x, y, S', rfl, rfl⟩ := qbin_inv hs
    exact QTri.stack h fun p e R s mid args below meth c T locs cells slots C target hx hZ hby hown X hR hL k => XS.isub X.here hx rfl (hb hby hd) rfl k
  · obtain ⟨x, y, S', rfl, rfl⟩ := qbin_inv hs
    exact QTri.stack h fun p e R s mid args below meth c T locs cells slots C target hx hZ hby hown X hR hL k => XS.imul X.here hx rfl (hb hby hd) rfl k
  · obtain ⟨x, y, S', rfl, rfl⟩ := qbin_inv hs
    exact QTri.stack h fun p e R s mid args below meth c T locs cells slots C target hx hZ hby hown X hR hL k => XS.iand X.here hx rfl (hb hby hd) rfl k
  · obtain ⟨x, y, S', rfl, rfl⟩ := qbin_inv hs
    exact QTri.stack h fun p e R s mid args below meth c T locs cells slots C target hx hZ hby hown X hR hL k => XT.ior X.here hx rfl (hb hby hd) rfl k
  · obtain ⟨x, y, S', rfl, rfl⟩ := qbin_inv hs
    exact QTri.stack h fun p e R s mid args below meth c T locs cells slots C target hx hZ hby hown X hR hL k => XT.ixor X.here hx rfl (hb hby hd) rfl k
  · obtain ⟨x, y, S', rfl, rfl⟩ := qbin_inv hs
    exact QTri.stack h fun p e R s mid args below meth c T locs cells slots C target hx hZ hby hown X hR hL k => XT.ishl X.here hx rfl (hb hby hd) rfl k
  · obtain ⟨x, y, S', rfl, rfl⟩ := qbin_inv hs
    exact QTri.stack h fun p e R s mid args below meth c T locs cells slots C target hx hZ hby hown X hR hL k => XT.ishr X.here hx rfl (hb hby hd) rfl k
  · obtain ⟨x, y, S', rfl, rfl⟩ := qbin_inv hs
    exact QTri.stack h fun p e R s mid args below meth c T locs cells slots C target hx hZ hby hown X hR hL k => XT.iushr X.here hx rfl (hb hby hd) rfl k
  · obtain ⟨x, y, z, S', rfl, hz, rfl⟩ := qbino_inv hs -- idiv
    unfold qdiv at hz
    split at hz
    · cases hz
    · rename_i hy
      cases hz
      exact QTri.stack h fun p e R s mid args below meth c T locs cells slots C target hx hZ hby hown X hR hL k => XS.idiv X.here hx rfl (hb hby hd) rfl hy k
  · obtain ⟨x, y, z, S', rfl, hz, rfl⟩ := qbino_inv hs
    unfold qrem at hz
    split at hz
    · cases hz
    · rename_i hy
      cases hz
      exact QTri.stack h fun p e R s mid args below meth c T locs cells slots C target hx hZ hby hown X hR hL k => iremM X hx rfl (hb hby hd) rfl hy k
  · obtain ⟨x, S', rfl, rfl⟩ := quni_inv hs -- ineg
    exact QTri.stack h fun p e R s mid args below meth c T locs cells slots C target hx hZ hby hown X hR hL k => XS.ineg X.here hx rfl (hb hby hd) rfl k
  · obtain ⟨x, S', rfl, rfl⟩ := quni_inv hs
    exact QTri.stack h fun p e R s mid args below meth c T locs cells slots C target hx hZ hby hown X hR hL k => XT.i2l X.here hx rfl (hb hby hd) rfl k
  · obtain ⟨x, S', rfl, rfl⟩ := quni_inv hs
    exact QTri.stack h fun p e R s mid args below meth c T locs cells slots C target hx hZ hby hown X hR hL k => XT.i2b X.here hx rfl (hb hby hd) rfl k
  · obtain ⟨x, S', rfl, rfl⟩ := quniJ_inv hs
    exact QTri.stack h fun p e R s mid args below meth c T locs cells slots C target hx hZ hby hown X hR hL k => XT.l2i X.here hx rfl (hb hby hd) rfl k
  · obtain ⟨x, S', rfl, rfl⟩ := quniJ_inv hs
    exact QTri.stack h fun p e R s mid args below meth c T locs cells slots C target hx hZ hby hown X hR hL k => XT.lneg X.here hx rfl (hb hby hd) rfl k
  · obtain ⟨x, y, S', rfl, rfl⟩ := qbinJ_inv hs
    exact QTri.stack h fun p e R s mid args below meth c T locs cells slots C target hx hZ hby hown X hR hL k => XT.ladd X.here hx rfl (hb hby hd) rfl k
  · obtain ⟨x, y, S', rfl, rfl⟩ := qbinJ_inv hs
    exact QTri.stack h fun p e R s mid args below meth c T locs cells slots C target hx hZ hby hown X hR hL k => XT.lsub X.here hx rfl (hb hby hd) rfl k
  · obtain ⟨x, y, S', rfl, rfl⟩ := qbinJ_inv hs
    exact QTri.stack h fun p e R s mid args below meth c T locs cells slots C target hx hZ hby hown X hR hL k => XT.lmul X.here hx rfl (hb hby hd) rfl k
  · obtain ⟨x, y, S', rfl, rfl⟩ := qbinJ_inv hs
    exact QTri.stack h fun p e R s mid args below meth c T locs cells slots C target hx hZ hby hown X hR hL k => XT.land X.here hx rfl (hb hby hd) rfl k
  · obtain ⟨x, y, S', rfl, rfl⟩ := qbinJ_inv hs
    exact QTri.stack h fun p e R s mid args below meth c T locs cells slots C target hx hZ hby hown X hR hL k => XT.lor X.here hx rfl (hb hby hd) rfl k
  · obtain ⟨x, y, S', rfl, rfl⟩ := qbinJ_inv hs
    exact QTri.stack h fun p e R s mid args below meth c T locs cells slots C target hx hZ hby hown X hR hL k => XT.lxor X.here hx rfl (hb hby hd) rfl k
  · obtain ⟨x, y, S', rfl, rfl⟩ := qshJ_inv hs
    exact QTri.stack h fun p e R s mid args below meth c T locs cells slots C target hx hZ hby hown X hR hL k => XT.lshl X.here hx rfl (hb hby hd) rfl k
  · obtain ⟨x, y, S', rfl, rfl⟩ := qshJ_inv hs
    exact QTri.stack h fun p e R s mid args below meth c T locs cells slots C target hx hZ hby hown X hR hL k => XT.lshr X.here hx rfl (hb hby hd) rfl k
  · obtain ⟨x, y, S', rfl, rfl⟩ := qshJ_inv hs
    exact QTri.stack h fun p e R s mid args below meth c T locs cells slots C target hx hZ hby hown X hR hL k => XT.lushr X.here hx rfl (hb hby hd) rfl k
  · split at hs -- lcmp
    · cases hs
      exact QTri.stack h fun p e R s mid args below meth c T locs cells slots C target hx hZ hby hown X hR hL k => XT.lcmp X.here hx rfl (hb hby hd) rfl k
    · cases hs
  · cases hs -- goto
    obtain ⟨t1, t2⟩ := qtgt_spec hr
    exact QTri.stack h fun p e R s mid args below meth c T locs cells slots C target hx hZ hby hown X hR hL k => XS.goto X.here hx rfl rfl (hb hby hd) t1 t2 k
  · obtain ⟨x, S', rfl, rfl⟩ := qif_inv hs
    obtain ⟨t1, t2⟩ := qtgt_spec hr
    cases hh : ifCond.holds _ x with
    | true => rw [hh] at h; exact QTri.stack h fun p e R s mid args below meth c T locs cells slots C target hx hZ hby hown X hR hL k => XS.ifYes X.here hx rfl rfl (hb hby hd) rfl hh t1 t2 k
    | false => rw [hh] at h; exact QTri.stack h fun p e R s mid args below meth c T locs cells slots C target hx hZ hby hown X hR hL k => XS.ifNo X.here hx rfl (hb hby hd) rfl hh k
  · obtain ⟨x, y, S', rfl, rfl⟩ := qicmp_inv hs
    obtain ⟨t1, t2⟩ := qtgt_spec hr
    cases hh : if_icmp.holds _ x y with
    | true => rw [hh] at h; exact QTri.stack h fun p e R s mid args below meth c T locs cells slots C target hx hZ hby hown X hR hL k => XS.icmpYes X.here hx rfl rfl (hb hby hd) rfl hh t1 t2 k
    | false => rw [hh] at h; exact QTri.stack h fun p e R s mid args below meth c T locs cells slots C target hx hZ hby hown X hR hL k => XS.icmpNo X.here hx rfl (hb hby hd) rfl hh k
  · unfold qdup at hs
    split at hs
    · cases hs
      exact QTri.stack h fun p e R s mid args below meth c T locs cells slots C target hx hZ hby hown X hR hL k => XS.dup X.here hx rfl (hb hby hd) rfl rfl k
    · cases hs
      exact QTri.stack h fun p e R s mid args below meth c T locs cells slots C target hx hZ hby hown X hR hL k => XS.dup X.here hx rfl (hb hby hd) rfl rfl k
    · cases hs
  · unfold qdup2 at hs
    split at hs
    · cases hs
      exact QTri.stack h fun p e R s mid args below meth c T locs cells slots C target hx hZ hby hown X hR hL k => XT.dup2 X.here hx rfl (hb hby hd) rfl rfl rfl k
    · cases hs
      exact QTri.stack h fun p e R s mid args below meth c T locs cells slots C target hx hZ hby hown X hR hL k => XT.dup2 X.here hx rfl (hb hby hd) rfl rfl rfl k
    · cases hs
      exact QTri.stack h fun p e R s mid args below meth c T locs cells slots C target hx hZ hby hown X hR hL k => XT.dup2L X.here hx rfl (hb hby hd) rfl k
    · cases hs
  · unfold qpop at hs
    split at hs
    · cases hs
      exact QTri.stack h fun p e R s mid args below meth c T locs cells slots C target hx hZ hby hown X hR hL k => XT.pop X.here hx rfl (hb hby hd) rfl rfl k
    · cases hs
      exact QTri.stack h fun p e R s mid args below meth c T locs cells slots C target hx hZ hby hown X hR hL k => XT.pop X.here hx rfl (hb hby hd) rfl rfl k
    · cases hs
  · exact QTri.getfield W h hc hs
  · exact QTri.putfield Ad W h hc hs
  · exact QTri.iaload h hc hs
  · exact QTri.baload h hc hs
  · exact QTri.laload h hc hs
  · exact QTri.iastore Ad h hc hs
  · exact QTri.bastore Ad h hc hs
  · exact QTri.lastore Ad h hc hs
  · exact QTri.alen h hc hs
  · -- newarray
    unfold qnewA at hs
    split at hs
    · split at hs
      · obtain ⟨k, hk, hs⟩ := Option.bind_eq_some_iff.mp hs
        cases hs
        exact QTri.newArr (c := .inr (.inl (.int, List.replicate k 0))) Ad W hk hc (by simp [qsz]) (fun h' a cA A => ⟨_, A, by simp [newA, (qnew_inv hk).2.1]; exact Or.inr rfl⟩) h
      · obtain ⟨k, hk, hs⟩ := Option.bind_eq_some_iff.mp hs
        cases hs
        exact QTri.newArr (c := .inr (.inl (.boolean, List.replicate k 0))) Ad W hk hc (by simp [qsz]) (fun h' a cA A => ⟨_, A, by simp [newA, (qnew_inv hk).2.1]; exact Or.inr rfl⟩) h
      · obtain ⟨k, hk, hs⟩ := Option.bind_eq_some_iff.mp hs
        cases hs
        exact QTri.newArr (c := .inr (.inl (.byte, List.replicate k 0))) Ad W hk hc (by simp [qsz]) (fun h' a cA A => ⟨_, A, by simp [newA, (qnew_inv hk).2.1]; exact Or.inr rfl⟩) h
      · obtain ⟨k, hk, hs⟩ := Option.bind_eq_some_iff.mp hs
        cases hs
        exact QTri.newArr (c := .inr (.inr (List.replicate k 0))) Ad W hk hc (by simp [qsz]) (fun h' a cA A => ⟨_, A, by simp [newA, (qnew_inv hk).2.1]; exact Or.inr rfl⟩) h
      · cases hs
    · cases hs
  · cases hs; exact QTri.newObj Ad W h hc
  · cases hs
theorem QTri.steps (Ad : QAd n0 ad) (W : QW Z a0) : ∀ (n : Nat) {st st' : QSt}, qsteps m n st = some st' → QTri l Z n0 ad m st' v σ' → QTri l Z n0 ad m st v σ'
  | 0, st, st', h, k => by cases h; exact k
  | n + 1, st, st', h, k => by
    simp only [qsteps] at h
    split at h
    · rename_i st₁ h1
      exact QTri.step Ad W (QTri.steps Ad W n h k) h1
    · cases h
/-! ## returns, masks, calls -/
def lmask : List Bool → QLoc → QLoc
  | b :: t, x :: u => (bif b then x else none) :: lmask t u
  | _, L => L.map fun _ => none
theorem lmask_len : ∀ (b : List Bool) (L : QLoc), (lmask b L).length = L.length
  | [], L => by simp [lmask]
  | _ :: _, [] => by simp [lmask]
  | _ :: t, _ :: u => by simp [lmask, lmask_len t u]
theorem lmask_get : ∀ (b : List Bool) (L : QLoc) (k : Nat) (v : Value), lget (lmask b L) k = some v → lget L k = some v
  | [], L, k, v, h => by
    simp only [lmask, lget_eq, List.getElem?_map] at h
    cases hq : L[k]? <;> simp [hq] at h
  | _ :: _, [], k, v, h => by simp [lmask, lget] at h
  | b :: t, x :: u, 0, v, h => by
    simp only [lmask, lget] at h ⊢
    cases b
    · cases h
    · exact h
  | b :: t, x :: u, k + 1, v, h => by
    simp only [lmask, lget] at h ⊢
    exact lmask_get t u k v h
theorem QTri.mask {pc : Nat} {L : QLoc} {S : List Value} {σ : QHeap} (b : List Bool) (h : QTri l Z n0 ad m (pc, lmask b L, S, σ) v σ') : QTri l Z n0 ad m (pc, L, S, σ) v σ' :=
  QTri.frame h fun p e R s mid args below meth c T locs cells slots C hcx X hR hL hC => ⟨C, ⟨by rw [lmask_len]; exact hL.1, fun k u hk => hL.2.1 k u (lmask_get b L k u hk), hL.2.2⟩, hC, fun target k => k⟩
theorem QTri.ret0 {pc aux : Nat} {L : QLoc} {σ : QHeap} (hc : pCode m pc = some (.return_, aux)) (hr : pRet m = none) : QTri l Z n0 ad m (pc, L, [], σ) none σ :=
  have hd : decode (pBytes m) pc = .ok (.return_, 1) := pDecN hc rfl
  ⟨Nat.le_refl _, Nat.le_refl _, fun p e R s mid args below meth c T locs cells slots C hcx X hR hF hL hC hn hc1 hsl => ⟨T, locs, by simpa using X, hR, hF, fun fs hf => X.returnOut hcx.1 (hcx.2.2.2.2.1.trans hr) (hb hcx.2.2.1 hd) hf⟩⟩
theorem QTri.retI {pc aux : Nat} {L : QLoc} {S : List Value} {σ : QHeap} {x : Int32} (hc : pCode m pc = some (.ireturn, aux)) (hr : pRet m = some .int) : QTri l Z n0 ad m (pc, L, .int x :: S, σ) (some (.int x)) σ :=
  have hd : decode (pBytes m) pc = .ok (.ireturn, 1) := pDecN hc rfl
  ⟨Nat.le_refl _, Nat.le_refl _, fun p e R s mid args below meth c T locs cells slots C hcx X hR hF hL hC hn hc1 hsl => ⟨T, locs, by simpa using X, hR, hF, fun fs hf => Jvm.RoadKit.retI X hcx.1 (hcx.2.2.2.2.1.trans hr) (hb hcx.2.2.1 hd) hf⟩⟩
theorem QTri.retZ {pc aux : Nat} {L : QLoc} {S : List Value} {σ : QHeap} {x : Int32} (hc : pCode m pc = some (.ireturn, aux)) (hr : pRet m = some .boolean) : QTri l Z n0 ad m (pc, L, .int x :: S, σ) (some (.int (x &&& 1))) σ :=
  have hd : decode (pBytes m) pc = .ok (.ireturn, 1) := pDecN hc rfl
  ⟨Nat.le_refl _, Nat.le_refl _, fun p e R s mid args below meth c T locs cells slots C hcx X hR hF hL hC hn hc1 hsl => ⟨T, locs, by simpa using X, hR, hF, fun fs hf => retN X hcx.1 (t := .boolean) (hcx.2.2.2.2.1.trans hr) (by simp) (hb hcx.2.2.1 hd) hf⟩⟩
theorem QTri.retJ {pc aux : Nat} {L : QLoc} {S : List Value} {σ : QHeap} {x : Int64} (hc : pCode m pc = some (.lreturn, aux)) (hr : pRet m = some .long) : QTri l Z n0 ad m (pc, L, .long x :: S, σ) (some (.long x)) σ :=
  have hd : decode (pBytes m) pc = .ok (.lreturn, 1) := pDecN hc rfl
  ⟨Nat.le_refl _, Nat.le_refl _, fun p e R s mid args below meth c T locs cells slots C hcx X hR hF hL hC hn hc1 hsl => ⟨T, locs, by simpa using X, hR, hF, fun fs hf => retOut X hcx.1 (t := .long) (hcx.2.2.2.2.1.trans hr) rfl (Or.inr (Or.inl ⟨rfl, rfl, _, rfl⟩)) (hb hcx.2.2.1 hd) hf⟩⟩
def LOk (ad : Nat → Addr) (L : QLoc) (C : List Slot) : Prop :=
  L.length = C.length ∧ (∀ k v, lget L k = some v → C[k]? = some (.val (qv ad v))) ∧ (∀ k w, C[k]? = some (.val w) → w.category = 2 → C[k + 1]? = some .second) ∧ ∀ k, C[k]? = some .second → ∃ j w, k = j + 1 ∧ C[j]? = some (.val w) ∧ w.category = 2
theorem LOk.base (ad : Nat → Addr) (n : Nat) : LOk ad (List.replicate n none) (List.replicate n .unset) := by
  refine ⟨by simp, fun k u h => ?_, fun k w h => ?_, fun k h => ?_⟩
  · rw [lget_eq] at h
    rcases Nat.lt_or_ge k n with q | q
    · simp [List.getElem?_replicate, q] at h
    · simp [List.getElem?_eq_none, q] at h
  · rcases Nat.lt_or_ge k n with q | q
    · simp [List.getElem?_replicate, q] at h
    · simp [List.getElem?_eq_none, q] at h
  · rcases Nat.lt_or_ge k n with q | q
    · simp [List.getElem?_replicate, q] at h
    · simp [List.getElem?_eq_none, q] at h
theorem LOk.one {L : QLoc} {C : List Slot} (H : LOk ad L C) {u : Value} (hu : u.category = 1) : LOk ad (some u :: L) (.val (qv ad u) :: C) := by
  obtain ⟨h1, h2, h3, h4⟩ := H
  refine ⟨by simp [h1], fun k w h => ?_, fun k w h hw => ?_, fun k h => ?_⟩
  · cases k with
    | zero => simp only [lget] at h; cases h; simp
    | succ k => simp only [lget] at h; simpa using h2 k w h
  · cases k with
    | zero => simp at h; rw [← h, qv_cat, hu] at hw; cases hw
    | succ k => simpa using h3 k w (by simpa using h) hw
  · cases k with
    | zero => simp at h
    | succ k =>
      obtain ⟨j, w, z1, z2, z3⟩ := h4 k (by simpa using h)
      exact ⟨j + 1, w, by omega, by simpa using z2, z3⟩
theorem LOk.two {L : QLoc} {C : List Slot} (H : LOk ad L C) {u : Value} (hu : u.category = 2) : LOk ad (some u :: none :: L) (.val (qv ad u) :: .second :: C) := by
  obtain ⟨h1, h2, h3, h4⟩ := H
  refine ⟨by simp [h1], fun k w h => ?_, fun k w h hw => ?_, fun k h => ?_⟩
  · rcases k with _ | _ | k
    · simp only [lget] at h; cases h; simp
    · simp [lget] at h
    · simp only [lget] at h; simpa using h2 k w h
  · rcases k with _ | _ | k
    · simp
    · simp at h
    · simpa using h3 k w (by simpa using h) hw
  · rcases k with _ | _ | k
    · simp at h
    · exact ⟨0, qv ad u, rfl, by simp, by rw [qv_cat]; exact hu⟩
    · obtain ⟨j, w, z1, z2, z3⟩ := h4 k (by simpa using h)
      exact ⟨j + 2, w, by omega, by simpa using z2, z3⟩
def slotsOf (u : Value) : List Slot := if u.category = 2 then [.val u, .second] else [.val u]
theorem fold_slots : ∀ (as : List Value) (acc : Array Slot), (as.foldl (fun acc v => if v.category = 2 then (acc.push (.val v)).push .second else acc.push (.val v)) acc).toList = acc.toList ++ as.flatMap slotsOf
  | [], acc => by simp
  | u :: t, acc => by
    rw [List.foldl_cons, fold_slots t]
    by_cases hc : u.category = 2 <;> simp [slotsOf, hc]
theorem slots_len : ∀ (as : List Value), (as.flatMap slotsOf).length = (as.map fun v => v.category).sum
  | [] => rfl
  | u :: t => by
    rw [List.flatMap_cons, List.length_append, slots_len t, List.map_cons, List.sum_cons]
    cases u <;> simp [slotsOf, Value.category]
theorem cats_qv (as : List Value) : ((as.map (qv ad)).map fun v => v.category).sum = (as.map fun v => v.category).sum := by
  rw [List.map_map]
  congr 1
  exact List.map_congr_left fun x _ => qv_cat ad x
theorem entry_list : ∀ (as : List Value) (n : Nat), LOk ad ((as.flatMap fun v => match v with | .long x => [some (.long x), none] | .double x => [some (.double x), none] | v => [some v]) ++ List.replicate n none) ((as.map (qv ad)).flatMap slotsOf ++ List.replicate n .unset)
  | [], n => by simpa using LOk.base ad n
  | u :: t, n => by
    have ih := entry_list t n
    cases u with
    | long x => exact LOk.two ih rfl
    | double x => exact LOk.two ih rfl
    | int x => exact LOk.one ih rfl
    | float x => exact LOk.one ih rfl
    | null => exact LOk.one ih rfl
    | ref x => exact LOk.one ih rfl
    | retAddr x => exact LOk.one ih rfl
theorem qentry_ok (as : List Value) (mx : Nat) (h : (as.map fun v => v.category).sum ≤ mx) : QLocOk ad (qentry as mx) (argsToLocals (as.map (qv ad)).toArray mx) ∧ (argsToLocals (as.map (qv ad)).toArray mx).size = mx := by
  have e : (argsToLocals (as.map (qv ad)).toArray mx).toList = (as.map (qv ad)).flatMap slotsOf ++ List.replicate (mx - (as.map fun v => v.category).sum) .unset := by
    unfold argsToLocals
    have q := fold_slots (as.map (qv ad)) #[]
    simp only [List.foldl_toArray', Array.toList_append, Array.toList_replicate]
    have q2 : ((as.map (qv ad)).foldl (fun (acc : Array Slot) (v : Value) => if v.category = 2 then (acc.push (.val v)).push .second else acc.push (.val v)) #[]).size = (as.map fun v => v.category).sum := by
      rw [← Array.length_toList, q]
      simp only [List.nil_append]
      rw [slots_len, cats_qv]
    rw [q, q2]
    simp
  have H := entry_list (ad := ad) as (mx - (as.map fun v => v.category).sum)
  rw [← e] at H
  obtain ⟨h1, h2, h3, h4⟩ := H
  have hs : (argsToLocals (as.map (qv ad)).toArray mx).size = mx := by
    rw [← Array.length_toList, e, List.length_append, slots_len, cats_qv, List.length_replicate]
    omega
  refine ⟨⟨h1.trans Array.length_toList, fun k u hk => ?_, fun k w hk hw => ?_, fun k hk => ?_⟩, hs⟩
  · have := h2 k u hk; rwa [Array.getElem?_toList] at this
  · have := h3 k w (by rw [Array.getElem?_toList]; exact hk) hw; rwa [Array.getElem?_toList] at this
  · obtain ⟨j, w, z1, z2, z3⟩ := h4 k (by rw [Array.getElem?_toList]; exact hk)
    exact ⟨j, w, z1, by rwa [Array.getElem?_toList] at z2, z3⟩
set_option maxHeartbeats 4000000 in
theorem QTri.met {k : Nat} {as : List Value} {σ σ₁ : QHeap} {w : Option Value} {h0 : Heap} (hk : k < pN) (h : QTri l Z n0 ad k (0, qentry as (pMaxL k), [], σ) w σ₁) (hR : QRep Z n0 ad h0 σ) (hlen : (as.map fun v => v.category).sum ≤ pMaxL k) (hret : pRet k = none → w = none) (ws : List Jvm.Cond) {rm : Room}
    (r1 : pFr k ≤ rm.frames) (r2 : pLo k ≤ rm.locals) (r3 : σ₁.length - σ.length ≤ rm.cells) (r4 : qhs σ₁ - qhs σ ≤ rm.slots) :
    MetFree l (pName k) (head1 (Jvm.Cond.code (pName k) (pBytes k) (pMaxL k) (pRet k) :: ws) rm) (fun a U => a = (as.map (qv ad)).toArray ∧ Z.Warmed39 U.vm ∧ U.heap = h0) (fun _ _ _ _ _ => True)
      (fun _ U o U' => ∃ v L, o = .returned v ∧ (v = w.map (qv ad) ∧ QRep Z n0 ad U'.heap σ₁ ∧ Fr n0 L) ∧ FrameEnd U o U' L (σ₁.length - σ.length) (qhs σ₁ - qhs σ)) := by
  refine MetFree.of_bodySF (plainFor_of_name (kPlain _ (pKlt k hk))) hisR ?_
  intro p e s mid args below meth c s₁ Bd hml0 hP hK
  obtain ⟨rfl, hZ, hh⟩ := hP
  have e0 : s₁.heap = h0 := by rw [← hh, Bd.state]; rfl
  obtain ⟨hl1, hl2⟩ := qentry_ok (ad := ad) as (pMaxL k) hlen
  have hX : Stand p l e rm s mid (as.map (qv ad)).toArray below meth c s₁ [] 0 0 := Stand.of_body Bd
  obtain ⟨T', locs', X', R', F', S'⟩ := h.2.2 p e rm s mid _ below meth c s₁ [] 0 0 _ ⟨Bd.exec, hZ, Bd.bytes, hml0, Bd.returns, findClass_of_methodNamed Bd.named, (name_of_methodNamed Bd.named Bd.method).1, r1, r2⟩ hX (by rw [e0]; exact hR) (Fr.nil _) hl1 (hl2.trans hml0.symm) (by rw [hh, Nat.add_zero]; exact hR.2.1.symm) (by rw [Nat.zero_add]; exact r3) (by rw [Nat.zero_add]; exact r4)
  obtain ⟨fs, hr, hrun, hended, hW, hsame⟩ := X'.leave (v := w.map (qv ad)) (fun q => by rw [hret (Bd.returns.symm.trans q)]; rfl)
  refine ⟨_, _, S' fs hr, hrun, hended, _, _, rfl, ⟨rfl, R', F'⟩, ⟨_, rfl⟩, hW, ?_⟩
  simp only [Nat.zero_add] at hsame
  exact hsame
theorem QTri.room {k : Nat} {σ σ₁ : QHeap} {rest : List Value} {R : Room} (hroom : (Nat.ble (pFr k + 1) (pFr m) && Nat.ble ((rest.map fun v => v.category).sum + (pMaxL k + 11) + pLo k) (pLo m)) = true) (hfr : pFr m ≤ R.frames) (hlo : pLo m ≤ R.locals) :
    pFr k + 1 ≤ R.frames ∧ (rest.map fun v => v.category).sum + (pMaxL k + 11) + pLo k ≤ R.locals := by
  obtain ⟨q1, q2⟩ := Bool.and_eq_true_iff.mp hroom
  exact ⟨Nat.le_trans (Nat.le_of_ble_eq_true q1) hfr, Nat.le_trans (Nat.le_of_ble_eq_true q2) hlo⟩
theorem sig_len {k : Nat} (hk : k < pN) {as : List Value} (hna : as.length = pNA k) : ∀ sig, parseMethodDescriptor (pName k).desc = some sig → (as.map (qv ad)).length = sig.parameters.length := fun sig hs => by
  have q := pSig k hk
  rw [show parseMethodDescriptor (pDs k) = some sig from hs] at q
  simp at q
  simp [hna, q]
theorem ret_map (w : Option Value) (rest : List Value) : (w.toList ++ rest).map (qv ad) = (w.map (qv ad)).toList ++ rest.map (qv ad) := by cases w <;> simp
theorem QTri.after {as0 : List Value} {pc : Nat} {L : QLoc} {S rest : List Value} {σ σ₁ : QHeap} {w : Option Value} {k : Nat} (hcal : QTri l Z n0 ad k (0, qentry as0 (pMaxL k), [], σ) w σ₁) (h : QTri l Z n0 ad m (pc + 3, L, w.toList ++ rest, σ₁) v σ')
    (hs : ∀ (p : Program) (e : Env) (R : Room) (s : State) (mid : MethodId) (args : Array Value) (below : List Frame) (meth : Method) (c : Code) (T : State) (locs : List Loc) (cells slots : Nat) (C : Array Slot),
      QCx Z p R s mid meth c m → Stand p l e R s mid args below meth c T locs cells slots → QRep Z n0 ad T.heap σ → C.size = c.maxLocals → cells + (σ₁.length - σ.length) ≤ R.cells → slots + (qhs σ₁ - qhs σ) ≤ R.slots →
      ∃ T₁ Lc, Stand p l e R s mid args below meth c T₁ (locs ++ Lc) (cells + (σ₁.length - σ.length)) (slots + (qhs σ₁ - qhs σ)) ∧ QRep Z n0 ad T₁.heap σ₁ ∧ Fr n0 Lc ∧
        ∀ target, Steps p.tables e below (T₁.setTop (mkF mid (pc + 3) C ((w.map (qv ad)).toList ++ rest.map (qv ad)))) target → Steps p.tables e below (T.setTop (mkF mid pc C (S.map (qv ad)))) target) :
    QTri l Z n0 ad m (pc, L, S, σ) v σ' := by
  refine QTri.gen h hcal.1 hcal.2.1 fun p e R s mid args below meth c T locs cells slots C hcx X hR hF hL hC hn hc1 hsl => ?_
  obtain ⟨T₁, Lc, X₁, R₁, F₁, st⟩ := hs p e R s mid args below meth c T locs cells slots C hcx X hR hC hc1 hsl
  refine ⟨T₁, locs ++ Lc, C, X₁, R₁, hF.app F₁, hL, hC, fun target q => st target ?_⟩
  rw [← ret_map]
  exact q
set_option maxHeartbeats 4000000 in
theorem QTri.callV (W : QW Z a0) {pc idx k a : Nat} {L : QLoc} {S as rest vs : List Value} {σ σ₁ : QHeap} {w : Option Value} (hc : pCode m pc = some (.invokevirtual idx, k)) (hm : (lkV.contains (pK m, idx, k) && mV.contains k) = true) (hcell : hget σ a = some (.inl vs)) (hS : S = as.reverse ++ .ref a :: rest)
    (hna : as.length = pNA k) (hlen : Nat.ble (((Value.ref a :: as).map fun v => v.category).sum) (pMaxL k) = true) (hroom : (Nat.ble (pFr k + 1) (pFr m) && Nat.ble ((rest.map fun v => v.category).sum + (pMaxL k + 11) + pLo k) (pLo m)) = true) (hrb : (w.isNone || (pRet k).isSome) = true)
    (hcal : QTri l Z n0 ad k (0, qentry (.ref a :: as) (pMaxL k), [], σ) w σ₁) (h : QTri l Z n0 ad m (pc + 3, L, w.toList ++ rest, σ₁) v σ') : QTri l Z n0 ad m (pc, L, S, σ) v σ' := by
  have hd : decode (pBytes m) pc = .ok (.invokevirtual idx, 3) := pDecN hc rfl
  subst hS
  obtain ⟨m1, m2⟩ := Bool.and_eq_true_iff.mp hm
  have m1 := mem_of_contains m1
  have m2 := mem_of_contains m2
  have hkA := (mVlt k m2).1
  have hkN := mAlt k hkA
  have hret : pRet k = none → w = none := fun q => by
    rw [q] at hrb
    cases w with
    | none => rfl
    | some w => simp at hrb
  refine QTri.after hcal h fun p e R s mid args below meth c T locs cells slots C hcx X hR hC hc1 hsl => ?_
  obtain ⟨hx, hZ, hby, hml, hret', hown, hnm, hfr, hlo⟩ := hcx
  have hd2 : decode c.code pc = .ok (.invokevirtual idx, 3) := by rw [hby]; exact hd
  obtain ⟨f1, f2⟩ := QTri.room (σ := σ) (σ₁ := σ₁) hroom hfr hlo
  obtain ⟨cq, kq, q1, q2, q3⟩ := isOf hZ rfl (hR.2.2 _ _ hcell).1
  obtain ⟨w1, w2, w3⟩ := (qw_vi W) k m2
  obtain ⟨c1, c2⟩ := (qw_cod W) k hkA
  obtain ⟨_, _, ⟨T₁, L₁, k₁, n₁⟩, -, X₁, ⟨Lc, ⟨rfl, hR1, hF1⟩, l₁, y₁, z₁⟩, st⟩ := X.virtualBack hx (own := kName (pK m)) (index := idx) (y := pName k) (z := pName k) hown (mvT hZ (qw_ml W (pK m, idx, k) m1)) (mvT hZ w1) (notFace_of_selects (args := #[]) (mvT hZ w2)) (mvT hZ w2) (mvT hZ w3) (pOwn _ (pKlt k hkN))
    (backOf (W := (rest.map fun v => v.category).sum) (rm := ⟨pFr k, σ₁.length - σ.length, qhs σ₁ - qhs σ, pLo k⟩) (Q := fun v h L => v = Option.map (qv ad) w ∧ QRep Z n0 ad h σ₁ ∧ Fr n0 L) (QTri.met hkN hcal hR (Nat.le_of_ble_eq_true hlen) hret [] (Nat.le_refl _) (Nat.le_refl _) (Nat.le_refl _) (Nat.le_refl _)) hZ c1 c2 f1 f2) q1 q3 (g := mkF mid pc C (List.map (qv ad) (as.reverse ++ .ref a :: rest))) rfl hC (Steps.refl _) (argsL := as.map (qv ad)) (rest := rest.map (qv ad)) (sig_len hkN hna) (by simp [qv]) (by show 2 * 0 + _ ≤ _; rw [cats_qv]; omega) hd2 (fun _ _ => ⟨rfl, rfl, hc1, hsl⟩)
  dsimp only [Pt.U, Pt.locs, Pt.cells, Pt.slots] at X₁ l₁ y₁ z₁ st hR1
  subst l₁ y₁ z₁
  exact ⟨T₁, Lc, X₁, hR1, hF1, fun target q => st.trans q⟩
set_option maxHeartbeats 4000000 in
theorem QTri.callI (W : QW Z a0) {pc idx k a : Nat} {L : QLoc} {S as rest : List Value} {σ σ₁ : QHeap} (hc : pCode m pc = some (.invokespecial idx, k)) (hm : (lkV.contains (pK m, idx, k) && mI.contains k) = true) (hS : S = as.reverse ++ .ref a :: rest)
    (hna : as.length = pNA k) (hlen : Nat.ble (((Value.ref a :: as).map fun v => v.category).sum) (pMaxL k) = true) (hroom : (Nat.ble (pFr k + 1) (pFr m) && Nat.ble ((rest.map fun v => v.category).sum + (pMaxL k + 11) + pLo k) (pLo m)) = true)
    (hcal : QTri l Z n0 ad k (0, qentry (.ref a :: as) (pMaxL k), [], σ) none σ₁) (h : QTri l Z n0 ad m (pc + 3, L, rest, σ₁) v σ') : QTri l Z n0 ad m (pc, L, S, σ) v σ' := by
  have hd : decode (pBytes m) pc = .ok (.invokespecial idx, 3) := pDecN hc rfl
  subst hS
  obtain ⟨m1, m2⟩ := Bool.and_eq_true_iff.mp hm
  have m1 := mem_of_contains m1
  have m2 := mem_of_contains m2
  obtain ⟨hkA, -, hin, hrt⟩ := mIlt k m2
  have hkN := mAlt k hkA
  refine QTri.after (w := none) hcal h fun p e R s mid args below meth c T locs cells slots C hcx X hR hC hc1 hsl => ?_
  obtain ⟨hx, hZ, hby, hml, hret', hown, hnm, hfr, hlo⟩ := hcx
  have hd2 : decode c.code pc = .ok (.invokespecial idx, 3) := by rw [hby]; exact hd
  obtain ⟨f1, f2⟩ := QTri.room (σ := σ) (σ₁ := σ₁) hroom hfr hlo
  obtain ⟨c1, c2⟩ := (qw_cod W) k hkA
  have c1' := c1
  rw [hrt] at c1'
  obtain ⟨_, _, ⟨T₁, L₁, k₁, n₁⟩, -, X₁, ⟨Lc, ⟨rfl, hR1, hF1⟩, l₁, y₁, z₁⟩, st⟩ := X.specialBack hx (own := kName (pK m)) (index := idx) (y := pName k) hin hown (mvT hZ (qw_ml W (pK m, idx, k) m1)) (mvT hZ ((qw_ini W) k m2)) (mvT hZ c1') (pOwn _ (pKlt k hkN))
    (backOf (W := (rest.map fun v => v.category).sum) (rm := ⟨pFr k, σ₁.length - σ.length, qhs σ₁ - qhs σ, pLo k⟩) (Q := fun v h L => v = Option.map (qv ad) none ∧ QRep Z n0 ad h σ₁ ∧ Fr n0 L) (QTri.met hkN hcal hR (Nat.le_of_ble_eq_true hlen) (fun _ => rfl) [] (Nat.le_refl _) (Nat.le_refl _) (Nat.le_refl _) (Nat.le_refl _)) hZ c1 c2 f1 f2) (g := mkF mid pc C (List.map (qv ad) (as.reverse ++ .ref a :: rest))) rfl hC (Steps.refl _) (a := ad a) (argsL := as.map (qv ad)) (rest := rest.map (qv ad)) (sig_len hkN hna) (by simp [qv]) (by show 2 * 0 + _ ≤ _; rw [cats_qv]; omega) hd2 (fun _ _ => ⟨rfl, rfl, hc1, hsl⟩)
  dsimp only [Pt.U, Pt.locs, Pt.cells, Pt.slots] at X₁ l₁ y₁ z₁ st hR1
  subst l₁ y₁ z₁
  exact ⟨T₁, Lc, X₁, hR1, hF1, fun target q => st.trans q⟩
set_option maxHeartbeats 4000000 in
theorem QTri.callP (W : QW Z a0) {pc idx k a : Nat} {L : QLoc} {S as rest vs : List Value} {σ σ₁ : QHeap} {w : Option Value} (hc : pCode m pc = some (.invokevirtual idx, k)) (hm : (lkV.contains (pK m, idx, k) && mP.contains k) = true) (hcell : hget σ a = some (.inl vs)) (hS : S = as.reverse ++ .ref a :: rest)
    (hna : as.length = pNA k) (hlen : Nat.ble (((Value.ref a :: as).map fun v => v.category).sum) (pMaxL k) = true) (hroom : (Nat.ble (pFr k + 1) (pFr m) && Nat.ble ((rest.map fun v => v.category).sum + (pMaxL k + 11) + pLo k) (pLo m)) = true) (hrb : (w.isNone || (pRet k).isSome) = true)
    (hcal : QTri l Z n0 ad k (0, qentry (.ref a :: as) (pMaxL k), [], σ) w σ₁) (h : QTri l Z n0 ad m (pc + 3, L, w.toList ++ rest, σ₁) v σ') : QTri l Z n0 ad m (pc, L, S, σ) v σ' := by
  have hd : decode (pBytes m) pc = .ok (.invokevirtual idx, 3) := pDecN hc rfl
  subst hS
  obtain ⟨m1, m2⟩ := Bool.and_eq_true_iff.mp hm
  have m1 := mem_of_contains m1
  have m2 := mem_of_contains m2
  obtain ⟨hkA, hk1⟩ := mPlt k m2
  have hkN := mAlt k hkA
  have hret : pRet k = none → w = none := fun q => by
    rw [q] at hrb
    cases w with
    | none => rfl
    | some w => simp at hrb
  refine QTri.after hcal h fun p e R s mid args below meth c T locs cells slots C hcx X hR hC hc1 hsl => ?_
  obtain ⟨hx, hZ, hby, hml, hret', hown, hnm, hfr, hlo⟩ := hcx
  have hd2 : decode c.code pc = .ok (.invokevirtual idx, 3) := by rw [hby]; exact hd
  obtain ⟨f1, f2⟩ := QTri.room (σ := σ) (σ₁ := σ₁) hroom hfr hlo
  obtain ⟨cell, h1, h2⟩ := (hR.2.2 _ _ hcell).1.cell
  obtain ⟨w1, w2⟩ := (qw_pr W) k m2
  obtain ⟨c1, c2⟩ := (qw_cod W) k hkA
  have hpr : s.PrivateAt (pName k) := Cond.privateMethod_at (mvP hZ w2 (args := #[]))
  obtain ⟨cC, kC, i1, i2, i3, i4⟩ := Cond.instantiable_spec (args := #[]) (mvT hZ (qw_inst W))
  have hsel : (Cond.selects (pName k).cls (pName k) (pName k)).before args s = true := selects_self_of_private (c := cC) (k := kC) (by show s.vm.findClass (kName (pK k)) = _; rw [hk1]; exact i1) i2 (by have q := i4.1; cases hq : kC.isInterface with | false => rfl | true => rw [hq] at q; simp at q) hpr (mvT hZ w1) (pOwn _ (pKlt k hkN))
  obtain ⟨_, _, ⟨T₁, L₁, k₁, n₁⟩, -, X₁, ⟨Lc, ⟨rfl, hR1, hF1⟩, l₁, y₁, z₁⟩, st⟩ := X.privateBack hx (own := kName (pK m)) (index := idx) (y := pName k) hown (mvT hZ (qw_ml W (pK m, idx, k) m1)) (mvT hZ w1) hsel hpr (mvT hZ c1) (pOwn _ (pKlt k hkN))
    (backOf (W := (rest.map fun v => v.category).sum) (rm := ⟨pFr k, σ₁.length - σ.length, qhs σ₁ - qhs σ, pLo k⟩) (Q := fun v h L => v = Option.map (qv ad) w ∧ QRep Z n0 ad h σ₁ ∧ Fr n0 L) (QTri.met hkN hcal hR (Nat.le_of_ble_eq_true hlen) hret [] (Nat.le_refl _) (Nat.le_refl _) (Nat.le_refl _) (Nat.le_refl _)) hZ c1 c2 f1 f2) (g := mkF mid pc C (List.map (qv ad) (as.reverse ++ .ref a :: rest))) rfl hC (Steps.refl _) (a := ad a) h1 h2 (argsL := as.map (qv ad)) (rest := rest.map (qv ad)) (sig_len hkN hna) (by simp [qv]) (by show 2 * 0 + _ ≤ _; rw [cats_qv]; omega) hd2 (fun _ _ => ⟨rfl, rfl, hc1, hsl⟩)
  dsimp only [Pt.U, Pt.locs, Pt.cells, Pt.slots] at X₁ l₁ y₁ z₁ st hR1
  subst l₁ y₁ z₁
  exact ⟨T₁, Lc, X₁, hR1, hF1, fun target q => st.trans q⟩
set_option maxHeartbeats 4000000 in
theorem QTri.callS (W : QW Z a0) {pc idx k : Nat} {L : QLoc} {S as rest : List Value} {σ σ₁ : QHeap} {w : Option Value} (hc : pCode m pc = some (.invokestatic idx, k)) (hm : (lkV.contains (pK m, idx, k) && mS.contains k) = true) (hS : S = as.reverse ++ rest)
    (hna : as.length = pNA k) (hlen : Nat.ble ((as.map fun v => v.category).sum) (pMaxL k) = true) (hroom : (Nat.ble (pFr k + 1) (pFr m) && Nat.ble ((rest.map fun v => v.category).sum + (pMaxL k + 11) + pLo k) (pLo m)) = true) (hrb : (w.isNone || (pRet k).isSome) = true)
    (hcal : QTri l Z n0 ad k (0, qentry as (pMaxL k), [], σ) w σ₁) (h : QTri l Z n0 ad m (pc + 3, L, w.toList ++ rest, σ₁) v σ') : QTri l Z n0 ad m (pc, L, S, σ) v σ' := by
  have hd : decode (pBytes m) pc = .ok (.invokestatic idx, 3) := pDecN hc rfl
  subst hS
  obtain ⟨m1, m2⟩ := Bool.and_eq_true_iff.mp hm
  have m1 := mem_of_contains m1
  have m2 := mem_of_contains m2
  have hkA := mSlt k m2
  have hkN := mAlt k hkA
  have hret : pRet k = none → w = none := fun q => by
    rw [q] at hrb
    cases w with
    | none => rfl
    | some w => simp at hrb
  refine QTri.after hcal h fun p e R s mid args below meth c T locs cells slots C hcx X hR hC hc1 hsl => ?_
  obtain ⟨hx, hZ, hby, hml, hret', hown, hnm, hfr, hlo⟩ := hcx
  have hd2 : decode c.code pc = .ok (.invokestatic idx, 3) := by rw [hby]; exact hd
  obtain ⟨f1, f2⟩ := QTri.room (σ := σ) (σ₁ := σ₁) hroom hfr hlo
  obtain ⟨c1, c2⟩ := (qw_cod W) k hkA
  obtain ⟨_, _, ⟨T₁, L₁, k₁, n₁⟩, -, X₁, ⟨Lc, ⟨rfl, hR1, hF1⟩, l₁, y₁, z₁⟩, st⟩ := Jvm.LawKit.callS X hx (own := kName (pK m)) (index := idx) (y := pName k) hown (mvT hZ (qw_ml W (pK m, idx, k) m1)) (mvT hZ ((qw_st W) k m2)) (mvT hZ c2) (mvT hZ c1) (pOwn _ (pKlt k hkN))
    (backOf (W := (rest.map fun v => v.category).sum) (rm := ⟨pFr k, σ₁.length - σ.length, qhs σ₁ - qhs σ, pLo k⟩) (Q := fun v h L => v = Option.map (qv ad) w ∧ QRep Z n0 ad h σ₁ ∧ Fr n0 L) (QTri.met hkN hcal hR (Nat.le_of_ble_eq_true hlen) hret [] (Nat.le_refl _) (Nat.le_refl _) (Nat.le_refl _) (Nat.le_refl _)) hZ c1 c2 f1 f2) (g := mkF mid pc C (List.map (qv ad) (as.reverse ++ rest))) rfl hC (argsL := as.map (qv ad)) (rest := rest.map (qv ad)) (sig_len hkN hna) (by simp) (by show 2 * 0 + _ ≤ _; rw [cats_qv]; omega) hd2 (fun _ _ => ⟨rfl, rfl, hc1, hsl⟩)
  dsimp only [Pt.U, Pt.locs, Pt.cells, Pt.slots] at X₁ l₁ y₁ z₁ st hR1
  subst l₁ y₁ z₁
  exact ⟨T₁, Lc, X₁, hR1, hF1, fun target q => st target q⟩
set_option maxHeartbeats 4000000 in
theorem QTri.callO (W : QW Z a0) {pc idx k a : Nat} {L : QLoc} {rest : List Value} {σ : QHeap} (hc : pCode m pc = some (.invokespecial idx, k)) (hm : lkO.contains (pK m, idx) = true) (hroom : (Nat.ble 1 (pFr m) && Nat.ble ((rest.map fun v => v.category).sum + 12) (pLo m)) = true)
    (h : QTri l Z n0 ad m (pc + 3, L, rest, σ) v σ') : QTri l Z n0 ad m (pc, L, .ref a :: rest, σ) v σ' :=
  have hd : decode (pBytes m) pc = .ok (.invokespecial idx, 3) := pDecN hc rfl
  QTri.pure h rfl fun p e R s mid args below meth c T locs cells slots C hcx X hR hL hC => by
    obtain ⟨hx, hZ, hby, hml, hret', hown, hnm, hfr, hlo⟩ := hcx
    have hd2 : decode c.code pc = .ok (.invokespecial idx, 3) := by rw [hby]; exact hd
    obtain ⟨q1, q2⟩ := Bool.and_eq_true_iff.mp hroom
    obtain ⟨T₁, X₁, e₁, st⟩ := initO X hx hZ hown (idx := idx) (qw_mo W (pK m, idx) (mem_of_contains hm)) ((qw_oi W)) ((qw_oc W)) rfl (g := mkF mid pc C (List.map (qv ad) (.ref a :: rest))) rfl hC rfl hd2 (Nat.le_trans (Nat.le_of_ble_eq_true q1) hfr) (W := (rest.map fun v => v.category).sum) (by show 2 * 0 + _ ≤ _; rw [cats_qv]; omega) (Nat.le_trans (Nat.le_of_ble_eq_true q2) hlo)
    exact ⟨T₁, C, X₁, e₁, hL, hC, st⟩
theorem QTri.brT (Ad : QAd n0 ad) (W : QW Z a0) {st : QSt} {t f : Nat} {L : QLoc} {S : List Value} {σ : QHeap} {b : Bool} (hs : qstep m st = some (bif b then t else f, L, S, σ)) (hb : b = true) (h : QTri l Z n0 ad m (t, L, S, σ) v σ') : QTri l Z n0 ad m st v σ' := by
  subst hb; exact QTri.step Ad W h hs
theorem QTri.brF (Ad : QAd n0 ad) (W : QW Z a0) {st : QSt} {t f : Nat} {L : QLoc} {S : List Value} {σ : QHeap} {b : Bool} (hs : qstep m st = some (bif b then t else f, L, S, σ)) (hb : b = false) (h : QTri l Z n0 ad m (f, L, S, σ) v σ') : QTri l Z n0 ad m st v σ' := by
  subst hb; exact QTri.step Ad W h hs
theorem QTri.bnd {α : Type} (Ad : QAd n0 ad) (W : QW Z a0) {st : QSt} {x : Option α} {f : α → QSt} {a : α} (hs : qstep m st = x.bind fun v => some (f v)) (hx : x = some a) (h : QTri l Z n0 ad m (f a) v σ') : QTri l Z n0 ad m st v σ' :=
  QTri.step Ad W h (by rw [hs, hx]; rfl)
theorem QTri.bndB (Ad : QAd n0 ad) (W : QW Z a0) {st : QSt} {x y : Int32} {g : Value → QSt} (hs : qstep m st = ((qboo x).bind fun y => some (Value.int y)).bind fun w => some (g w)) (hx : qboo x = some y) (h : QTri l Z n0 ad m (g (.int y)) v σ') : QTri l Z n0 ad m st v σ' :=
  QTri.step Ad W h (by rw [hs, hx]; rfl)
end Triples
/-! ## plain: branches and loops -/
theorem qite {α : Type} {c : Prop} [Decidable c] {a b : Option α} {r : α} (h : (if c then a else b) = some r) : (c ∧ a = some r) ∨ (¬ c ∧ b = some r) := by
  by_cases hc : c
  · exact Or.inl ⟨hc, by rwa [if_pos hc] at h⟩
  · exact Or.inr ⟨hc, by rwa [if_neg hc] at h⟩
def qN : Nat := 4000
def loopN {V E : Type} (B : V → Option (E ⊕ V)) : Nat → V → Option E
  | 0, _ => none
  | n + 1, v => match B v with
    | none => none
    | some (.inl e) => some e
    | some (.inr v') => loopN B n v'
theorem loopN_tri {V E : Type} {B : V → Option (E ⊕ V)} {T : V → Prop} {KE : E → Prop} (hB : ∀ v r, B v = some r → (∀ e, r = .inl e → KE e) → (∀ v', r = .inr v' → T v') → T v) : ∀ (n : Nat) (v : V) (e : E), loopN B n v = some e → KE e → T v
  | 0, _, _, h, _ => by cases h
  | n + 1, v, e, h, k => by
    simp only [loopN] at h
    split at h
    · cases h
    · rename_i e' he
      cases h
      exact hB v _ he (fun e q => by cases q; exact k) (fun v' q => by cases q)
    · rename_i v' he
      exact hB v _ he (fun e q => by cases q) (fun v'' q => by cases q; exact loopN_tri hB n v' e h k)
/-- a loop: an invariant, a measure -/
theorem loopN_inv {V E : Type} {B : V → Option (E ⊕ V)} (I : V → Prop) (P : E → Prop) (μ : V → Nat) (hB : ∀ v, I v → (∃ e, B v = some (.inl e) ∧ P e) ∨ ∃ v', B v = some (.inr v') ∧ I v' ∧ μ v' < μ v) : ∀ (n : Nat) (v : V), I v → μ v < n → ∃ e, loopN B n v = some e ∧ P e
  | 0, _, _, h => absurd h (Nat.not_lt_zero _)
  | n + 1, v, hv, hm => by
    rcases hB v hv with ⟨e, h1, h2⟩ | ⟨v', h1, h2, h3⟩
    · exact ⟨e, by simp only [loopN, h1], h2⟩
    · obtain ⟨e, g1, g2⟩ := loopN_inv I P μ hB n v' h2 (by omega)
      exact ⟨e, by simp only [loopN, h1]; exact g1, g2⟩
theorem qfn {α : Type} {P : α → Prop} : ∀ t ∈ ([] : List α), P t := fun _ h => nomatch h
theorem qfc {α : Type} {P : α → Prop} {a : α} {t : List α} (h : P a) (ht : ∀ x ∈ t, P x) : ∀ x ∈ a :: t, P x := fun x hx => by rcases List.mem_cons.mp hx with rfl | q; exact h; exact ht x q
theorem QW_ok {Z : State} {a0 : Array Value} (hw : ∀ d ∈ tables_1, d.before a0 Z = true) : QW Z a0 := by
  have w0 : ∀ k ∈ List.range nF, bif fFin k then (Jvm.Cond.laysFinal cName cName (fNm k) (fDs k)).before a0 Z = true else (Jvm.Cond.lays cName cName (fNm k) (fDs k)).before a0 Z = true :=
    show ∀ k ∈ [0, 1, 2, 3, 4, 5, 6, 7, 8, 9, 10, 11, 12, 13, 14, 15, 16, 17, 18, 19, 20, 21, 22, 23, 24], bif fFin k then (Jvm.Cond.laysFinal cName cName (fNm k) (fDs k)).before a0 Z = true else (Jvm.Cond.lays cName cName (fNm k) (fDs k)).before a0 Z = true from
    (qfc (hw _ (List.mem_of_getElem? (i := 11) rfl)) (qfc (hw _ (List.mem_of_getElem? (i := 14) rfl)) (qfc (hw _ (List.mem_of_getElem? (i := 16) rfl)) (qfc (hw _ (List.mem_of_getElem? (i := 18) rfl)) (qfc (hw _ (List.mem_of_getElem? (i := 20) rfl)) (qfc (hw _ (List.mem_of_getElem? (i := 22) rfl)) (qfc (hw _ (List.mem_of_getElem? (i := 24) rfl)) (qfc (hw _ (List.mem_of_getElem? (i := 26) rfl)) (qfc (hw _ (List.mem_of_getElem? (i := 28) rfl)) (qfc (hw _ (List.mem_of_getElem? (i := 30) rfl)) (qfc (hw _ (List.mem_of_getElem? (i := 32) rfl)) (qfc (hw _ (List.mem_of_getElem? (i := 34) rfl)) (qfc (hw _ (List.mem_of_getElem? (i := 36) rfl)) (qfc (hw _ (List.mem_of_getElem? (i := 38) rfl)) (qfc (hw _ (List.mem_of_getElem? (i := 40) rfl)) (qfc (hw _ (List.mem_of_getElem? (i := 42) rfl)) (qfc (hw _ (List.mem_of_getElem? (i := 44) rfl)) (qfc (hw _ (List.mem_of_getElem? (i := 46) rfl)) (qfc (hw _ (List.mem_of_getElem? (i := 48) rfl)) (qfc (hw _ (List.mem_of_getElem? (i := 54) rfl)) (qfc (hw _ (List.mem_of_getElem? (i := 56) rfl)) (qfc (hw _ (List.mem_of_getElem? (i := 58) rfl)) (qfc (hw _ (List.mem_of_getElem? (i := 60) rfl)) (qfc (hw _ (List.mem_of_getElem? (i := 76) rfl)) (qfc (hw _ (List.mem_of_getElem? (i := 132) rfl)) qfn)))))))))))))))))))))))))
  refine ⟨?_, ?_, ?_, ?_, ?_, ?_, ?_, ?_, ?_, ?_, ?_, ?_, ?_, (fun k hk => w0 k (List.mem_range.mpr hk)), ?_, ?_, ?_⟩
  · exact (qfc (hw _ (List.mem_of_getElem? (i := 10) rfl)) (qfc (hw _ (List.mem_of_getElem? (i := 13) rfl)) (qfc (hw _ (List.mem_of_getElem? (i := 15) rfl)) (qfc (hw _ (List.mem_of_getElem? (i := 17) rfl)) (qfc (hw _ (List.mem_of_getElem? (i := 19) rfl)) (qfc (hw _ (List.mem_of_getElem? (i := 21) rfl)) (qfc (hw _ (List.mem_of_getElem? (i := 23) rfl)) (qfc (hw _ (List.mem_of_getElem? (i := 25) rfl)) (qfc (hw _ (List.mem_of_getElem? (i := 27) rfl)) (qfc (hw _ (List.mem_of_getElem? (i := 29) rfl)) (qfc (hw _ (List.mem_of_getElem? (i := 31) rfl)) (qfc (hw _ (List.mem_of_getElem? (i := 33) rfl)) (qfc (hw _ (List.mem_of_getElem? (i := 35) rfl)) (qfc (hw _ (List.mem_of_getElem? (i := 37) rfl)) (qfc (hw _ (List.mem_of_getElem? (i := 39) rfl)) (qfc (hw _ (List.mem_of_getElem? (i := 41) rfl)) (qfc (hw _ (List.mem_of_getElem? (i := 43) rfl)) (qfc (hw _ (List.mem_of_getElem? (i := 45) rfl)) (qfc (hw _ (List.mem_of_getElem? (i := 47) rfl)) (qfc (hw _ (List.mem_of_getElem? (i := 53) rfl)) (qfc (hw _ (List.mem_of_getElem? (i := 55) rfl)) (qfc (hw _ (List.mem_of_getElem? (i := 57) rfl)) (qfc (hw _ (List.mem_of_getElem? (i := 59) rfl)) (qfc (hw _ (List.mem_of_getElem? (i := 75) rfl)) (qfc (hw _ (List.mem_of_getElem? (i := 131) rfl)) qfn)))))))))))))))))))))))))
  · exact (qfc (hw _ (List.mem_of_getElem? (i := 0) rfl)) qfn)
  · exact qfn
  · exact qfn
  · exact (qfc (hw _ (List.mem_of_getElem? (i := 3) rfl)) (qfc (hw _ (List.mem_of_getElem? (i := 49) rfl)) (qfc (hw _ (List.mem_of_getElem? (i := 61) rfl)) (qfc (hw _ (List.mem_of_getElem? (i := 66) rfl)) (qfc (hw _ (List.mem_of_getElem? (i := 70) rfl)) (qfc (hw _ (List.mem_of_getElem? (i := 77) rfl)) (qfc (hw _ (List.mem_of_getElem? (i := 81) rfl)) (qfc (hw _ (List.mem_of_getElem? (i := 85) rfl)) (qfc (hw _ (List.mem_of_getElem? (i := 89) rfl)) (qfc (hw _ (List.mem_of_getElem? (i := 93) rfl)) (qfc (hw _ (List.mem_of_getElem? (i := 97) rfl)) (qfc (hw _ (List.mem_of_getElem? (i := 101) rfl)) (qfc (hw _ (List.mem_of_getElem? (i := 105) rfl)) (qfc (hw _ (List.mem_of_getElem? (i := 109) rfl)) (qfc (hw _ (List.mem_of_getElem? (i := 113) rfl)) (qfc (hw _ (List.mem_of_getElem? (i := 117) rfl)) (qfc (hw _ (List.mem_of_getElem? (i := 121) rfl)) (qfc (hw _ (List.mem_of_getElem? (i := 126) rfl)) qfn))))))))))))))))))
  · exact (qfc (hw _ (List.mem_of_getElem? (i := 6) rfl)) qfn)
  · exact (qfc ⟨(hw _ (List.mem_of_getElem? (i := 62) rfl)), (hw _ (List.mem_of_getElem? (i := 64) rfl)), (hw _ (List.mem_of_getElem? (i := 63) rfl))⟩ (qfc ⟨(hw _ (List.mem_of_getElem? (i := 71) rfl)), (hw _ (List.mem_of_getElem? (i := 73) rfl)), (hw _ (List.mem_of_getElem? (i := 72) rfl))⟩ (qfc ⟨(hw _ (List.mem_of_getElem? (i := 122) rfl)), (hw _ (List.mem_of_getElem? (i := 124) rfl)), (hw _ (List.mem_of_getElem? (i := 123) rfl))⟩ (qfc ⟨(hw _ (List.mem_of_getElem? (i := 127) rfl)), (hw _ (List.mem_of_getElem? (i := 129) rfl)), (hw _ (List.mem_of_getElem? (i := 128) rfl))⟩ qfn))))
  · exact (qfc ⟨(hw _ (List.mem_of_getElem? (i := 50) rfl)), (hw _ (List.mem_of_getElem? (i := 51) rfl))⟩ (qfc ⟨(hw _ (List.mem_of_getElem? (i := 67) rfl)), (hw _ (List.mem_of_getElem? (i := 68) rfl))⟩ (qfc ⟨(hw _ (List.mem_of_getElem? (i := 78) rfl)), (hw _ (List.mem_of_getElem? (i := 79) rfl))⟩ (qfc ⟨(hw _ (List.mem_of_getElem? (i := 82) rfl)), (hw _ (List.mem_of_getElem? (i := 83) rfl))⟩ (qfc ⟨(hw _ (List.mem_of_getElem? (i := 86) rfl)), (hw _ (List.mem_of_getElem? (i := 87) rfl))⟩ (qfc ⟨(hw _ (List.mem_of_getElem? (i := 90) rfl)), (hw _ (List.mem_of_getElem? (i := 91) rfl))⟩ (qfc ⟨(hw _ (List.mem_of_getElem? (i := 94) rfl)), (hw _ (List.mem_of_getElem? (i := 95) rfl))⟩ (qfc ⟨(hw _ (List.mem_of_getElem? (i := 98) rfl)), (hw _ (List.mem_of_getElem? (i := 99) rfl))⟩ (qfc ⟨(hw _ (List.mem_of_getElem? (i := 102) rfl)), (hw _ (List.mem_of_getElem? (i := 103) rfl))⟩ (qfc ⟨(hw _ (List.mem_of_getElem? (i := 106) rfl)), (hw _ (List.mem_of_getElem? (i := 107) rfl))⟩ (qfc ⟨(hw _ (List.mem_of_getElem? (i := 110) rfl)), (hw _ (List.mem_of_getElem? (i := 111) rfl))⟩ (qfc ⟨(hw _ (List.mem_of_getElem? (i := 114) rfl)), (hw _ (List.mem_of_getElem? (i := 115) rfl))⟩ (qfc ⟨(hw _ (List.mem_of_getElem? (i := 118) rfl)), (hw _ (List.mem_of_getElem? (i := 119) rfl))⟩ qfn)))))))))))))
  · exact qfn
  · exact (qfc (hw _ (List.mem_of_getElem? (i := 4) rfl)) qfn)
  · exact (qfc ⟨(hw _ (List.mem_of_getElem? (i := 5) rfl)), (hw _ (List.mem_of_getElem? (i := 2) rfl))⟩ (qfc ⟨(hw _ (List.mem_of_getElem? (i := 52) rfl)), (hw _ (List.mem_of_getElem? (i := 2) rfl))⟩ (qfc ⟨(hw _ (List.mem_of_getElem? (i := 65) rfl)), (hw _ (List.mem_of_getElem? (i := 2) rfl))⟩ (qfc ⟨(hw _ (List.mem_of_getElem? (i := 69) rfl)), (hw _ (List.mem_of_getElem? (i := 2) rfl))⟩ (qfc ⟨(hw _ (List.mem_of_getElem? (i := 74) rfl)), (hw _ (List.mem_of_getElem? (i := 2) rfl))⟩ (qfc ⟨(hw _ (List.mem_of_getElem? (i := 80) rfl)), (hw _ (List.mem_of_getElem? (i := 2) rfl))⟩ (qfc ⟨(hw _ (List.mem_of_getElem? (i := 84) rfl)), (hw _ (List.mem_of_getElem? (i := 2) rfl))⟩ (qfc ⟨(hw _ (List.mem_of_getElem? (i := 88) rfl)), (hw _ (List.mem_of_getElem? (i := 2) rfl))⟩ (qfc ⟨(hw _ (List.mem_of_getElem? (i := 92) rfl)), (hw _ (List.mem_of_getElem? (i := 2) rfl))⟩ (qfc ⟨(hw _ (List.mem_of_getElem? (i := 96) rfl)), (hw _ (List.mem_of_getElem? (i := 2) rfl))⟩ (qfc ⟨(hw _ (List.mem_of_getElem? (i := 100) rfl)), (hw _ (List.mem_of_getElem? (i := 2) rfl))⟩ (qfc ⟨(hw _ (List.mem_of_getElem? (i := 104) rfl)), (hw _ (List.mem_of_getElem? (i := 2) rfl))⟩ (qfc ⟨(hw _ (List.mem_of_getElem? (i := 108) rfl)), (hw _ (List.mem_of_getElem? (i := 2) rfl))⟩ (qfc ⟨(hw _ (List.mem_of_getElem? (i := 112) rfl)), (hw _ (List.mem_of_getElem? (i := 2) rfl))⟩ (qfc ⟨(hw _ (List.mem_of_getElem? (i := 116) rfl)), (hw _ (List.mem_of_getElem? (i := 2) rfl))⟩ (qfc ⟨(hw _ (List.mem_of_getElem? (i := 120) rfl)), (hw _ (List.mem_of_getElem? (i := 2) rfl))⟩ (qfc ⟨(hw _ (List.mem_of_getElem? (i := 125) rfl)), (hw _ (List.mem_of_getElem? (i := 2) rfl))⟩ (qfc ⟨(hw _ (List.mem_of_getElem? (i := 130) rfl)), (hw _ (List.mem_of_getElem? (i := 2) rfl))⟩ qfn))))))))))))))))))
  · exact (hw _ (List.mem_of_getElem? (i := 7) rfl))
  · exact (hw _ (List.mem_of_getElem? (i := 8) rfl))
  · exact (hw _ (List.mem_of_getElem? (i := 1) rfl))
  · exact (hw _ (List.mem_of_getElem? (i := 2) rfl))
  · exact (qfc (hw _ (List.mem_of_getElem? (i := 9) rfl)) (qfc (hw _ (List.mem_of_getElem? (i := 12) rfl)) qfn))
abbrev Ob := List Int32 × List Int32 × List Int32 × List Int32 × List Int32 × List Int32 × List Int32 × List Int32 × List Int32 × List Int32 × List Int32 × List Int32 × List Int32 × List Int32 × List Int32 × List Int32 × List Int32 × List Int32 × List Int32 × Int32 × Int32 × Int32 × Int32 × Int32 × Int32
def f_srcPayload (o : Ob) : List Int32 := o.1
def f_pend (o : Ob) : List Int32 := o.2.1
def f_queue (o : Ob) : List Int32 := o.2.2.1
def f_stats (o : Ob) : List Int32 := o.2.2.2.1
def f_state (o : Ob) : List Int32 := o.2.2.2.2.1
def f_timer (o : Ob) : List Int32 := o.2.2.2.2.2.1
def f_rxVal (o : Ob) : List Int32 := o.2.2.2.2.2.2.1
def f_rxNext (o : Ob) : List Int32 := o.2.2.2.2.2.2.2.1
def f_rxLead (o : Ob) : List Int32 := o.2.2.2.2.2.2.2.2.1
def f_rxTrail (o : Ob) : List Int32 := o.2.2.2.2.2.2.2.2.2.1
def f_lossLeft (o : Ob) : List Int32 := o.2.2.2.2.2.2.2.2.2.2.1
def f_dups (o : Ob) : List Int32 := o.2.2.2.2.2.2.2.2.2.2.2.1
def f_drops (o : Ob) : List Int32 := o.2.2.2.2.2.2.2.2.2.2.2.2.1
def f_delSeq (o : Ob) : List Int32 := o.2.2.2.2.2.2.2.2.2.2.2.2.2.1
def f_delVal (o : Ob) : List Int32 := o.2.2.2.2.2.2.2.2.2.2.2.2.2.2.1
def f_delLen (o : Ob) : List Int32 := o.2.2.2.2.2.2.2.2.2.2.2.2.2.2.2.1
def f_lostLog (o : Ob) : List Int32 := o.2.2.2.2.2.2.2.2.2.2.2.2.2.2.2.2.1
def f_lostLen (o : Ob) : List Int32 := o.2.2.2.2.2.2.2.2.2.2.2.2.2.2.2.2.2.1
def f_nakBuf (o : Ob) : List Int32 := o.2.2.2.2.2.2.2.2.2.2.2.2.2.2.2.2.2.2.1
def f_win (o : Ob) : Int32 := o.2.2.2.2.2.2.2.2.2.2.2.2.2.2.2.2.2.2.2.1
def f_back (o : Ob) : Int32 := o.2.2.2.2.2.2.2.2.2.2.2.2.2.2.2.2.2.2.2.2.1
def f_repair (o : Ob) : Int32 := o.2.2.2.2.2.2.2.2.2.2.2.2.2.2.2.2.2.2.2.2.2.1
def f_period (o : Ob) : Int32 := o.2.2.2.2.2.2.2.2.2.2.2.2.2.2.2.2.2.2.2.2.2.2.1
def f_nextSeq (o : Ob) : Int32 := o.2.2.2.2.2.2.2.2.2.2.2.2.2.2.2.2.2.2.2.2.2.2.2.1
def f_qLen (o : Ob) : Int32 := o.2.2.2.2.2.2.2.2.2.2.2.2.2.2.2.2.2.2.2.2.2.2.2.2
def s_srcPayload (o : Ob) (v : List Int32) : Ob := (v, o.2.1, o.2.2.1, o.2.2.2.1, o.2.2.2.2.1, o.2.2.2.2.2.1, o.2.2.2.2.2.2.1, o.2.2.2.2.2.2.2.1, o.2.2.2.2.2.2.2.2.1, o.2.2.2.2.2.2.2.2.2.1, o.2.2.2.2.2.2.2.2.2.2.1, o.2.2.2.2.2.2.2.2.2.2.2.1, o.2.2.2.2.2.2.2.2.2.2.2.2.1, o.2.2.2.2.2.2.2.2.2.2.2.2.2.1, o.2.2.2.2.2.2.2.2.2.2.2.2.2.2.1, o.2.2.2.2.2.2.2.2.2.2.2.2.2.2.2.1, o.2.2.2.2.2.2.2.2.2.2.2.2.2.2.2.2.1, o.2.2.2.2.2.2.2.2.2.2.2.2.2.2.2.2.2.1, o.2.2.2.2.2.2.2.2.2.2.2.2.2.2.2.2.2.2.1, o.2.2.2.2.2.2.2.2.2.2.2.2.2.2.2.2.2.2.2.1, o.2.2.2.2.2.2.2.2.2.2.2.2.2.2.2.2.2.2.2.2.1, o.2.2.2.2.2.2.2.2.2.2.2.2.2.2.2.2.2.2.2.2.2.1, o.2.2.2.2.2.2.2.2.2.2.2.2.2.2.2.2.2.2.2.2.2.2.1, o.2.2.2.2.2.2.2.2.2.2.2.2.2.2.2.2.2.2.2.2.2.2.2.1, o.2.2.2.2.2.2.2.2.2.2.2.2.2.2.2.2.2.2.2.2.2.2.2.2)
def s_pend (o : Ob) (v : List Int32) : Ob := (o.1, v, o.2.2.1, o.2.2.2.1, o.2.2.2.2.1, o.2.2.2.2.2.1, o.2.2.2.2.2.2.1, o.2.2.2.2.2.2.2.1, o.2.2.2.2.2.2.2.2.1, o.2.2.2.2.2.2.2.2.2.1, o.2.2.2.2.2.2.2.2.2.2.1, o.2.2.2.2.2.2.2.2.2.2.2.1, o.2.2.2.2.2.2.2.2.2.2.2.2.1, o.2.2.2.2.2.2.2.2.2.2.2.2.2.1, o.2.2.2.2.2.2.2.2.2.2.2.2.2.2.1, o.2.2.2.2.2.2.2.2.2.2.2.2.2.2.2.1, o.2.2.2.2.2.2.2.2.2.2.2.2.2.2.2.2.1, o.2.2.2.2.2.2.2.2.2.2.2.2.2.2.2.2.2.1, o.2.2.2.2.2.2.2.2.2.2.2.2.2.2.2.2.2.2.1, o.2.2.2.2.2.2.2.2.2.2.2.2.2.2.2.2.2.2.2.1, o.2.2.2.2.2.2.2.2.2.2.2.2.2.2.2.2.2.2.2.2.1, o.2.2.2.2.2.2.2.2.2.2.2.2.2.2.2.2.2.2.2.2.2.1, o.2.2.2.2.2.2.2.2.2.2.2.2.2.2.2.2.2.2.2.2.2.2.1, o.2.2.2.2.2.2.2.2.2.2.2.2.2.2.2.2.2.2.2.2.2.2.2.1, o.2.2.2.2.2.2.2.2.2.2.2.2.2.2.2.2.2.2.2.2.2.2.2.2)
def s_queue (o : Ob) (v : List Int32) : Ob := (o.1, o.2.1, v, o.2.2.2.1, o.2.2.2.2.1, o.2.2.2.2.2.1, o.2.2.2.2.2.2.1, o.2.2.2.2.2.2.2.1, o.2.2.2.2.2.2.2.2.1, o.2.2.2.2.2.2.2.2.2.1, o.2.2.2.2.2.2.2.2.2.2.1, o.2.2.2.2.2.2.2.2.2.2.2.1, o.2.2.2.2.2.2.2.2.2.2.2.2.1, o.2.2.2.2.2.2.2.2.2.2.2.2.2.1, o.2.2.2.2.2.2.2.2.2.2.2.2.2.2.1, o.2.2.2.2.2.2.2.2.2.2.2.2.2.2.2.1, o.2.2.2.2.2.2.2.2.2.2.2.2.2.2.2.2.1, o.2.2.2.2.2.2.2.2.2.2.2.2.2.2.2.2.2.1, o.2.2.2.2.2.2.2.2.2.2.2.2.2.2.2.2.2.2.1, o.2.2.2.2.2.2.2.2.2.2.2.2.2.2.2.2.2.2.2.1, o.2.2.2.2.2.2.2.2.2.2.2.2.2.2.2.2.2.2.2.2.1, o.2.2.2.2.2.2.2.2.2.2.2.2.2.2.2.2.2.2.2.2.2.1, o.2.2.2.2.2.2.2.2.2.2.2.2.2.2.2.2.2.2.2.2.2.2.1, o.2.2.2.2.2.2.2.2.2.2.2.2.2.2.2.2.2.2.2.2.2.2.2.1, o.2.2.2.2.2.2.2.2.2.2.2.2.2.2.2.2.2.2.2.2.2.2.2.2)
def s_stats (o : Ob) (v : List Int32) : Ob := (o.1, o.2.1, o.2.2.1, v, o.2.2.2.2.1, o.2.2.2.2.2.1, o.2.2.2.2.2.2.1, o.2.2.2.2.2.2.2.1, o.2.2.2.2.2.2.2.2.1, o.2.2.2.2.2.2.2.2.2.1, o.2.2.2.2.2.2.2.2.2.2.1, o.2.2.2.2.2.2.2.2.2.2.2.1, o.2.2.2.2.2.2.2.2.2.2.2.2.1, o.2.2.2.2.2.2.2.2.2.2.2.2.2.1, o.2.2.2.2.2.2.2.2.2.2.2.2.2.2.1, o.2.2.2.2.2.2.2.2.2.2.2.2.2.2.2.1, o.2.2.2.2.2.2.2.2.2.2.2.2.2.2.2.2.1, o.2.2.2.2.2.2.2.2.2.2.2.2.2.2.2.2.2.1, o.2.2.2.2.2.2.2.2.2.2.2.2.2.2.2.2.2.2.1, o.2.2.2.2.2.2.2.2.2.2.2.2.2.2.2.2.2.2.2.1, o.2.2.2.2.2.2.2.2.2.2.2.2.2.2.2.2.2.2.2.2.1, o.2.2.2.2.2.2.2.2.2.2.2.2.2.2.2.2.2.2.2.2.2.1, o.2.2.2.2.2.2.2.2.2.2.2.2.2.2.2.2.2.2.2.2.2.2.1, o.2.2.2.2.2.2.2.2.2.2.2.2.2.2.2.2.2.2.2.2.2.2.2.1, o.2.2.2.2.2.2.2.2.2.2.2.2.2.2.2.2.2.2.2.2.2.2.2.2)
def s_state (o : Ob) (v : List Int32) : Ob := (o.1, o.2.1, o.2.2.1, o.2.2.2.1, v, o.2.2.2.2.2.1, o.2.2.2.2.2.2.1, o.2.2.2.2.2.2.2.1, o.2.2.2.2.2.2.2.2.1, o.2.2.2.2.2.2.2.2.2.1, o.2.2.2.2.2.2.2.2.2.2.1, o.2.2.2.2.2.2.2.2.2.2.2.1, o.2.2.2.2.2.2.2.2.2.2.2.2.1, o.2.2.2.2.2.2.2.2.2.2.2.2.2.1, o.2.2.2.2.2.2.2.2.2.2.2.2.2.2.1, o.2.2.2.2.2.2.2.2.2.2.2.2.2.2.2.1, o.2.2.2.2.2.2.2.2.2.2.2.2.2.2.2.2.1, o.2.2.2.2.2.2.2.2.2.2.2.2.2.2.2.2.2.1, o.2.2.2.2.2.2.2.2.2.2.2.2.2.2.2.2.2.2.1, o.2.2.2.2.2.2.2.2.2.2.2.2.2.2.2.2.2.2.2.1, o.2.2.2.2.2.2.2.2.2.2.2.2.2.2.2.2.2.2.2.2.1, o.2.2.2.2.2.2.2.2.2.2.2.2.2.2.2.2.2.2.2.2.2.1, o.2.2.2.2.2.2.2.2.2.2.2.2.2.2.2.2.2.2.2.2.2.2.1, o.2.2.2.2.2.2.2.2.2.2.2.2.2.2.2.2.2.2.2.2.2.2.2.1, o.2.2.2.2.2.2.2.2.2.2.2.2.2.2.2.2.2.2.2.2.2.2.2.2)
def s_timer (o : Ob) (v : List Int32) : Ob := (o.1, o.2.1, o.2.2.1, o.2.2.2.1, o.2.2.2.2.1, v, o.2.2.2.2.2.2.1, o.2.2.2.2.2.2.2.1, o.2.2.2.2.2.2.2.2.1, o.2.2.2.2.2.2.2.2.2.1, o.2.2.2.2.2.2.2.2.2.2.1, o.2.2.2.2.2.2.2.2.2.2.2.1, o.2.2.2.2.2.2.2.2.2.2.2.2.1, o.2.2.2.2.2.2.2.2.2.2.2.2.2.1, o.2.2.2.2.2.2.2.2.2.2.2.2.2.2.1, o.2.2.2.2.2.2.2.2.2.2.2.2.2.2.2.1, o.2.2.2.2.2.2.2.2.2.2.2.2.2.2.2.2.1, o.2.2.2.2.2.2.2.2.2.2.2.2.2.2.2.2.2.1, o.2.2.2.2.2.2.2.2.2.2.2.2.2.2.2.2.2.2.1, o.2.2.2.2.2.2.2.2.2.2.2.2.2.2.2.2.2.2.2.1, o.2.2.2.2.2.2.2.2.2.2.2.2.2.2.2.2.2.2.2.2.1, o.2.2.2.2.2.2.2.2.2.2.2.2.2.2.2.2.2.2.2.2.2.1, o.2.2.2.2.2.2.2.2.2.2.2.2.2.2.2.2.2.2.2.2.2.2.1, o.2.2.2.2.2.2.2.2.2.2.2.2.2.2.2.2.2.2.2.2.2.2.2.1, o.2.2.2.2.2.2.2.2.2.2.2.2.2.2.2.2.2.2.2.2.2.2.2.2)
def s_rxVal (o : Ob) (v : List Int32) : Ob := (o.1, o.2.1, o.2.2.1, o.2.2.2.1, o.2.2.2.2.1, o.2.2.2.2.2.1, v, o.2.2.2.2.2.2.2.1, o.2.2.2.2.2.2.2.2.1, o.2.2.2.2.2.2.2.2.2.1, o.2.2.2.2.2.2.2.2.2.2.1, o.2.2.2.2.2.2.2.2.2.2.2.1, o.2.2.2.2.2.2.2.2.2.2.2.2.1, o.2.2.2.2.2.2.2.2.2.2.2.2.2.1, o.2.2.2.2.2.2.2.2.2.2.2.2.2.2.1, o.2.2.2.2.2.2.2.2.2.2.2.2.2.2.2.1, o.2.2.2.2.2.2.2.2.2.2.2.2.2.2.2.2.1, o.2.2.2.2.2.2.2.2.2.2.2.2.2.2.2.2.2.1, o.2.2.2.2.2.2.2.2.2.2.2.2.2.2.2.2.2.2.1, o.2.2.2.2.2.2.2.2.2.2.2.2.2.2.2.2.2.2.2.1, o.2.2.2.2.2.2.2.2.2.2.2.2.2.2.2.2.2.2.2.2.1, o.2.2.2.2.2.2.2.2.2.2.2.2.2.2.2.2.2.2.2.2.2.1, o.2.2.2.2.2.2.2.2.2.2.2.2.2.2.2.2.2.2.2.2.2.2.1, o.2.2.2.2.2.2.2.2.2.2.2.2.2.2.2.2.2.2.2.2.2.2.2.1, o.2.2.2.2.2.2.2.2.2.2.2.2.2.2.2.2.2.2.2.2.2.2.2.2)
def s_rxNext (o : Ob) (v : List Int32) : Ob := (o.1, o.2.1, o.2.2.1, o.2.2.2.1, o.2.2.2.2.1, o.2.2.2.2.2.1, o.2.2.2.2.2.2.1, v, o.2.2.2.2.2.2.2.2.1, o.2.2.2.2.2.2.2.2.2.1, o.2.2.2.2.2.2.2.2.2.2.1, o.2.2.2.2.2.2.2.2.2.2.2.1, o.2.2.2.2.2.2.2.2.2.2.2.2.1, o.2.2.2.2.2.2.2.2.2.2.2.2.2.1, o.2.2.2.2.2.2.2.2.2.2.2.2.2.2.1, o.2.2.2.2.2.2.2.2.2.2.2.2.2.2.2.1, o.2.2.2.2.2.2.2.2.2.2.2.2.2.2.2.2.1, o.2.2.2.2.2.2.2.2.2.2.2.2.2.2.2.2.2.1, o.2.2.2.2.2.2.2.2.2.2.2.2.2.2.2.2.2.2.1, o.2.2.2.2.2.2.2.2.2.2.2.2.2.2.2.2.2.2.2.1, o.2.2.2.2.2.2.2.2.2.2.2.2.2.2.2.2.2.2.2.2.1, o.2.2.2.2.2.2.2.2.2.2.2.2.2.2.2.2.2.2.2.2.2.1, o.2.2.2.2.2.2.2.2.2.2.2.2.2.2.2.2.2.2.2.2.2.2.1, o.2.2.2.2.2.2.2.2.2.2.2.2.2.2.2.2.2.2.2.2.2.2.2.1, o.2.2.2.2.2.2.2.2.2.2.2.2.2.2.2.2.2.2.2.2.2.2.2.2)
def s_rxLead (o : Ob) (v : List Int32) : Ob := (o.1, o.2.1, o.2.2.1, o.2.2.2.1, o.2.2.2.2.1, o.2.2.2.2.2.1, o.2.2.2.2.2.2.1, o.2.2.2.2.2.2.2.1, v, o.2.2.2.2.2.2.2.2.2.1, o.2.2.2.2.2.2.2.2.2.2.1, o.2.2.2.2.2.2.2.2.2.2.2.1, o.2.2.2.2.2.2.2.2.2.2.2.2.1, o.2.2.2.2.2.2.2.2.2.2.2.2.2.1, o.2.2.2.2.2.2.2.2.2.2.2.2.2.2.1, o.2.2.2.2.2.2.2.2.2.2.2.2.2.2.2.1, o.2.2.2.2.2.2.2.2.2.2.2.2.2.2.2.2.1, o.2.2.2.2.2.2.2.2.2.2.2.2.2.2.2.2.2.1, o.2.2.2.2.2.2.2.2.2.2.2.2.2.2.2.2.2.2.1, o.2.2.2.2.2.2.2.2.2.2.2.2.2.2.2.2.2.2.2.1, o.2.2.2.2.2.2.2.2.2.2.2.2.2.2.2.2.2.2.2.2.1, o.2.2.2.2.2.2.2.2.2.2.2.2.2.2.2.2.2.2.2.2.2.1, o.2.2.2.2.2.2.2.2.2.2.2.2.2.2.2.2.2.2.2.2.2.2.1, o.2.2.2.2.2.2.2.2.2.2.2.2.2.2.2.2.2.2.2.2.2.2.2.1, o.2.2.2.2.2.2.2.2.2.2.2.2.2.2.2.2.2.2.2.2.2.2.2.2)
def s_rxTrail (o : Ob) (v : List Int32) : Ob := (o.1, o.2.1, o.2.2.1, o.2.2.2.1, o.2.2.2.2.1, o.2.2.2.2.2.1, o.2.2.2.2.2.2.1, o.2.2.2.2.2.2.2.1, o.2.2.2.2.2.2.2.2.1, v, o.2.2.2.2.2.2.2.2.2.2.1, o.2.2.2.2.2.2.2.2.2.2.2.1, o.2.2.2.2.2.2.2.2.2.2.2.2.1, o.2.2.2.2.2.2.2.2.2.2.2.2.2.1, o.2.2.2.2.2.2.2.2.2.2.2.2.2.2.1, o.2.2.2.2.2.2.2.2.2.2.2.2.2.2.2.1, o.2.2.2.2.2.2.2.2.2.2.2.2.2.2.2.2.1, o.2.2.2.2.2.2.2.2.2.2.2.2.2.2.2.2.2.1, o.2.2.2.2.2.2.2.2.2.2.2.2.2.2.2.2.2.2.1, o.2.2.2.2.2.2.2.2.2.2.2.2.2.2.2.2.2.2.2.1, o.2.2.2.2.2.2.2.2.2.2.2.2.2.2.2.2.2.2.2.2.1, o.2.2.2.2.2.2.2.2.2.2.2.2.2.2.2.2.2.2.2.2.2.1, o.2.2.2.2.2.2.2.2.2.2.2.2.2.2.2.2.2.2.2.2.2.2.1, o.2.2.2.2.2.2.2.2.2.2.2.2.2.2.2.2.2.2.2.2.2.2.2.1, o.2.2.2.2.2.2.2.2.2.2.2.2.2.2.2.2.2.2.2.2.2.2.2.2)
def s_lossLeft (o : Ob) (v : List Int32) : Ob := (o.1, o.2.1, o.2.2.1, o.2.2.2.1, o.2.2.2.2.1, o.2.2.2.2.2.1, o.2.2.2.2.2.2.1, o.2.2.2.2.2.2.2.1, o.2.2.2.2.2.2.2.2.1, o.2.2.2.2.2.2.2.2.2.1, v, o.2.2.2.2.2.2.2.2.2.2.2.1, o.2.2.2.2.2.2.2.2.2.2.2.2.1, o.2.2.2.2.2.2.2.2.2.2.2.2.2.1, o.2.2.2.2.2.2.2.2.2.2.2.2.2.2.1, o.2.2.2.2.2.2.2.2.2.2.2.2.2.2.2.1, o.2.2.2.2.2.2.2.2.2.2.2.2.2.2.2.2.1, o.2.2.2.2.2.2.2.2.2.2.2.2.2.2.2.2.2.1, o.2.2.2.2.2.2.2.2.2.2.2.2.2.2.2.2.2.2.1, o.2.2.2.2.2.2.2.2.2.2.2.2.2.2.2.2.2.2.2.1, o.2.2.2.2.2.2.2.2.2.2.2.2.2.2.2.2.2.2.2.2.1, o.2.2.2.2.2.2.2.2.2.2.2.2.2.2.2.2.2.2.2.2.2.1, o.2.2.2.2.2.2.2.2.2.2.2.2.2.2.2.2.2.2.2.2.2.2.1, o.2.2.2.2.2.2.2.2.2.2.2.2.2.2.2.2.2.2.2.2.2.2.2.1, o.2.2.2.2.2.2.2.2.2.2.2.2.2.2.2.2.2.2.2.2.2.2.2.2)
def s_dups (o : Ob) (v : List Int32) : Ob := (o.1, o.2.1, o.2.2.1, o.2.2.2.1, o.2.2.2.2.1, o.2.2.2.2.2.1, o.2.2.2.2.2.2.1, o.2.2.2.2.2.2.2.1, o.2.2.2.2.2.2.2.2.1, o.2.2.2.2.2.2.2.2.2.1, o.2.2.2.2.2.2.2.2.2.2.1, v, o.2.2.2.2.2.2.2.2.2.2.2.2.1, o.2.2.2.2.2.2.2.2.2.2.2.2.2.1, o.2.2.2.2.2.2.2.2.2.2.2.2.2.2.1, o.2.2.2.2.2.2.2.2.2.2.2.2.2.2.2.1, o.2.2.2.2.2.2.2.2.2.2.2.2.2.2.2.2.1, o.2.2.2.2.2.2.2.2.2.2.2.2.2.2.2.2.2.1, o.2.2.2.2.2.2.2.2.2.2.2.2.2.2.2.2.2.2.1, o.2.2.2.2.2.2.2.2.2.2.2.2.2.2.2.2.2.2.2.1, o.2.2.2.2.2.2.2.2.2.2.2.2.2.2.2.2.2.2.2.2.1, o.2.2.2.2.2.2.2.2.2.2.2.2.2.2.2.2.2.2.2.2.2.1, o.2.2.2.2.2.2.2.2.2.2.2.2.2.2.2.2.2.2.2.2.2.2.1, o.2.2.2.2.2.2.2.2.2.2.2.2.2.2.2.2.2.2.2.2.2.2.2.1, o.2.2.2.2.2.2.2.2.2.2.2.2.2.2.2.2.2.2.2.2.2.2.2.2)
def s_drops (o : Ob) (v : List Int32) : Ob := (o.1, o.2.1, o.2.2.1, o.2.2.2.1, o.2.2.2.2.1, o.2.2.2.2.2.1, o.2.2.2.2.2.2.1, o.2.2.2.2.2.2.2.1, o.2.2.2.2.2.2.2.2.1, o.2.2.2.2.2.2.2.2.2.1, o.2.2.2.2.2.2.2.2.2.2.1, o.2.2.2.2.2.2.2.2.2.2.2.1, v, o.2.2.2.2.2.2.2.2.2.2.2.2.2.1, o.2.2.2.2.2.2.2.2.2.2.2.2.2.2.1, o.2.2.2.2.2.2.2.2.2.2.2.2.2.2.2.1, o.2.2.2.2.2.2.2.2.2.2.2.2.2.2.2.2.1, o.2.2.2.2.2.2.2.2.2.2.2.2.2.2.2.2.2.1, o.2.2.2.2.2.2.2.2.2.2.2.2.2.2.2.2.2.2.1, o.2.2.2.2.2.2.2.2.2.2.2.2.2.2.2.2.2.2.2.1, o.2.2.2.2.2.2.2.2.2.2.2.2.2.2.2.2.2.2.2.2.1, o.2.2.2.2.2.2.2.2.2.2.2.2.2.2.2.2.2.2.2.2.2.1, o.2.2.2.2.2.2.2.2.2.2.2.2.2.2.2.2.2.2.2.2.2.2.1, o.2.2.2.2.2.2.2.2.2.2.2.2.2.2.2.2.2.2.2.2.2.2.2.1, o.2.2.2.2.2.2.2.2.2.2.2.2.2.2.2.2.2.2.2.2.2.2.2.2)
def s_delSeq (o : Ob) (v : List Int32) : Ob := (o.1, o.2.1, o.2.2.1, o.2.2.2.1, o.2.2.2.2.1, o.2.2.2.2.2.1, o.2.2.2.2.2.2.1, o.2.2.2.2.2.2.2.1, o.2.2.2.2.2.2.2.2.1, o.2.2.2.2.2.2.2.2.2.1, o.2.2.2.2.2.2.2.2.2.2.1, o.2.2.2.2.2.2.2.2.2.2.2.1, o.2.2.2.2.2.2.2.2.2.2.2.2.1, v, o.2.2.2.2.2.2.2.2.2.2.2.2.2.2.1, o.2.2.2.2.2.2.2.2.2.2.2.2.2.2.2.1, o.2.2.2.2.2.2.2.2.2.2.2.2.2.2.2.2.1, o.2.2.2.2.2.2.2.2.2.2.2.2.2.2.2.2.2.1, o.2.2.2.2.2.2.2.2.2.2.2.2.2.2.2.2.2.2.1, o.2.2.2.2.2.2.2.2.2.2.2.2.2.2.2.2.2.2.2.1, o.2.2.2.2.2.2.2.2.2.2.2.2.2.2.2.2.2.2.2.2.1, o.2.2.2.2.2.2.2.2.2.2.2.2.2.2.2.2.2.2.2.2.2.1, o.2.2.2.2.2.2.2.2.2.2.2.2.2.2.2.2.2.2.2.2.2.2.1, o.2.2.2.2.2.2.2.2.2.2.2.2.2.2.2.2.2.2.2.2.2.2.2.1, o.2.2.2.2.2.2.2.2.2.2.2.2.2.2.2.2.2.2.2.2.2.2.2.2)
def s_delVal (o : Ob) (v : List Int32) : Ob := (o.1, o.2.1, o.2.2.1, o.2.2.2.1, o.2.2.2.2.1, o.2.2.2.2.2.1, o.2.2.2.2.2.2.1, o.2.2.2.2.2.2.2.1, o.2.2.2.2.2.2.2.2.1, o.2.2.2.2.2.2.2.2.2.1, o.2.2.2.2.2.2.2.2.2.2.1, o.2.2.2.2.2.2.2.2.2.2.2.1, o.2.2.2.2.2.2.2.2.2.2.2.2.1, o.2.2.2.2.2.2.2.2.2.2.2.2.2.1, v, o.2.2.2.2.2.2.2.2.2.2.2.2.2.2.2.1, o.2.2.2.2.2.2.2.2.2.2.2.2.2.2.2.2.1, o.2.2.2.2.2.2.2.2.2.2.2.2.2.2.2.2.2.1, o.2.2.2.2.2.2.2.2.2.2.2.2.2.2.2.2.2.2.1, o.2.2.2.2.2.2.2.2.2.2.2.2.2.2.2.2.2.2.2.1, o.2.2.2.2.2.2.2.2.2.2.2.2.2.2.2.2.2.2.2.2.1, o.2.2.2.2.2.2.2.2.2.2.2.2.2.2.2.2.2.2.2.2.2.1, o.2.2.2.2.2.2.2.2.2.2.2.2.2.2.2.2.2.2.2.2.2.2.1, o.2.2.2.2.2.2.2.2.2.2.2.2.2.2.2.2.2.2.2.2.2.2.2.1, o.2.2.2.2.2.2.2.2.2.2.2.2.2.2.2.2.2.2.2.2.2.2.2.2)
def s_delLen (o : Ob) (v : List Int32) : Ob := (o.1, o.2.1, o.2.2.1, o.2.2.2.1, o.2.2.2.2.1, o.2.2.2.2.2.1, o.2.2.2.2.2.2.1, o.2.2.2.2.2.2.2.1, o.2.2.2.2.2.2.2.2.1, o.2.2.2.2.2.2.2.2.2.1, o.2.2.2.2.2.2.2.2.2.2.1, o.2.2.2.2.2.2.2.2.2.2.2.1, o.2.2.2.2.2.2.2.2.2.2.2.2.1, o.2.2.2.2.2.2.2.2.2.2.2.2.2.1, o.2.2.2.2.2.2.2.2.2.2.2.2.2.2.1, v, o.2.2.2.2.2.2.2.2.2.2.2.2.2.2.2.2.1, o.2.2.2.2.2.2.2.2.2.2.2.2.2.2.2.2.2.1, o.2.2.2.2.2.2.2.2.2.2.2.2.2.2.2.2.2.2.1, o.2.2.2.2.2.2.2.2.2.2.2.2.2.2.2.2.2.2.2.1, o.2.2.2.2.2.2.2.2.2.2.2.2.2.2.2.2.2.2.2.2.1, o.2.2.2.2.2.2.2.2.2.2.2.2.2.2.2.2.2.2.2.2.2.1, o.2.2.2.2.2.2.2.2.2.2.2.2.2.2.2.2.2.2.2.2.2.2.1, o.2.2.2.2.2.2.2.2.2.2.2.2.2.2.2.2.2.2.2.2.2.2.2.1, o.2.2.2.2.2.2.2.2.2.2.2.2.2.2.2.2.2.2.2.2.2.2.2.2)
def s_lostLog (o : Ob) (v : List Int32) : Ob := (o.1, o.2.1, o.2.2.1, o.2.2.2.1, o.2.2.2.2.1, o.2.2.2.2.2.1, o.2.2.2.2.2.2.1, o.2.2.2.2.2.2.2.1, o.2.2.2.2.2.2.2.2.1, o.2.2.2.2.2.2.2.2.2.1, o.2.2.2.2.2.2.2.2.2.2.1, o.2.2.2.2.2.2.2.2.2.2.2.1, o.2.2.2.2.2.2.2.2.2.2.2.2.1, o.2.2.2.2.2.2.2.2.2.2.2.2.2.1, o.2.2.2.2.2.2.2.2.2.2.2.2.2.2.1, o.2.2.2.2.2.2.2.2.2.2.2.2.2.2.2.1, v, o.2.2.2.2.2.2.2.2.2.2.2.2.2.2.2.2.2.1, o.2.2.2.2.2.2.2.2.2.2.2.2.2.2.2.2.2.2.1, o.2.2.2.2.2.2.2.2.2.2.2.2.2.2.2.2.2.2.2.1, o.2.2.2.2.2.2.2.2.2.2.2.2.2.2.2.2.2.2.2.2.1, o.2.2.2.2.2.2.2.2.2.2.2.2.2.2.2.2.2.2.2.2.2.1, o.2.2.2.2.2.2.2.2.2.2.2.2.2.2.2.2.2.2.2.2.2.2.1, o.2.2.2.2.2.2.2.2.2.2.2.2.2.2.2.2.2.2.2.2.2.2.2.1, o.2.2.2.2.2.2.2.2.2.2.2.2.2.2.2.2.2.2.2.2.2.2.2.2)
def s_lostLen (o : Ob) (v : List Int32) : Ob := (o.1, o.2.1, o.2.2.1, o.2.2.2.1, o.2.2.2.2.1, o.2.2.2.2.2.1, o.2.2.2.2.2.2.1, o.2.2.2.2.2.2.2.1, o.2.2.2.2.2.2.2.2.1, o.2.2.2.2.2.2.2.2.2.1, o.2.2.2.2.2.2.2.2.2.2.1, o.2.2.2.2.2.2.2.2.2.2.2.1, o.2.2.2.2.2.2.2.2.2.2.2.2.1, o.2.2.2.2.2.2.2.2.2.2.2.2.2.1, o.2.2.2.2.2.2.2.2.2.2.2.2.2.2.1, o.2.2.2.2.2.2.2.2.2.2.2.2.2.2.2.1, o.2.2.2.2.2.2.2.2.2.2.2.2.2.2.2.2.1, v, o.2.2.2.2.2.2.2.2.2.2.2.2.2.2.2.2.2.2.1, o.2.2.2.2.2.2.2.2.2.2.2.2.2.2.2.2.2.2.2.1, o.2.2.2.2.2.2.2.2.2.2.2.2.2.2.2.2.2.2.2.2.1, o.2.2.2.2.2.2.2.2.2.2.2.2.2.2.2.2.2.2.2.2.2.1, o.2.2.2.2.2.2.2.2.2.2.2.2.2.2.2.2.2.2.2.2.2.2.1, o.2.2.2.2.2.2.2.2.2.2.2.2.2.2.2.2.2.2.2.2.2.2.2.1, o.2.2.2.2.2.2.2.2.2.2.2.2.2.2.2.2.2.2.2.2.2.2.2.2)
def s_nakBuf (o : Ob) (v : List Int32) : Ob := (o.1, o.2.1, o.2.2.1, o.2.2.2.1, o.2.2.2.2.1, o.2.2.2.2.2.1, o.2.2.2.2.2.2.1, o.2.2.2.2.2.2.2.1, o.2.2.2.2.2.2.2.2.1, o.2.2.2.2.2.2.2.2.2.1, o.2.2.2.2.2.2.2.2.2.2.1, o.2.2.2.2.2.2.2.2.2.2.2.1, o.2.2.2.2.2.2.2.2.2.2.2.2.1, o.2.2.2.2.2.2.2.2.2.2.2.2.2.1, o.2.2.2.2.2.2.2.2.2.2.2.2.2.2.1, o.2.2.2.2.2.2.2.2.2.2.2.2.2.2.2.1, o.2.2.2.2.2.2.2.2.2.2.2.2.2.2.2.2.1, o.2.2.2.2.2.2.2.2.2.2.2.2.2.2.2.2.2.1, v, o.2.2.2.2.2.2.2.2.2.2.2.2.2.2.2.2.2.2.2.1, o.2.2.2.2.2.2.2.2.2.2.2.2.2.2.2.2.2.2.2.2.1, o.2.2.2.2.2.2.2.2.2.2.2.2.2.2.2.2.2.2.2.2.2.1, o.2.2.2.2.2.2.2.2.2.2.2.2.2.2.2.2.2.2.2.2.2.2.1, o.2.2.2.2.2.2.2.2.2.2.2.2.2.2.2.2.2.2.2.2.2.2.2.1, o.2.2.2.2.2.2.2.2.2.2.2.2.2.2.2.2.2.2.2.2.2.2.2.2)
def s_win (o : Ob) (v : Int32) : Ob := (o.1, o.2.1, o.2.2.1, o.2.2.2.1, o.2.2.2.2.1, o.2.2.2.2.2.1, o.2.2.2.2.2.2.1, o.2.2.2.2.2.2.2.1, o.2.2.2.2.2.2.2.2.1, o.2.2.2.2.2.2.2.2.2.1, o.2.2.2.2.2.2.2.2.2.2.1, o.2.2.2.2.2.2.2.2.2.2.2.1, o.2.2.2.2.2.2.2.2.2.2.2.2.1, o.2.2.2.2.2.2.2.2.2.2.2.2.2.1, o.2.2.2.2.2.2.2.2.2.2.2.2.2.2.1, o.2.2.2.2.2.2.2.2.2.2.2.2.2.2.2.1, o.2.2.2.2.2.2.2.2.2.2.2.2.2.2.2.2.1, o.2.2.2.2.2.2.2.2.2.2.2.2.2.2.2.2.2.1, o.2.2.2.2.2.2.2.2.2.2.2.2.2.2.2.2.2.2.1, v, o.2.2.2.2.2.2.2.2.2.2.2.2.2.2.2.2.2.2.2.2.1, o.2.2.2.2.2.2.2.2.2.2.2.2.2.2.2.2.2.2.2.2.2.1, o.2.2.2.2.2.2.2.2.2.2.2.2.2.2.2.2.2.2.2.2.2.2.1, o.2.2.2.2.2.2.2.2.2.2.2.2.2.2.2.2.2.2.2.2.2.2.2.1, o.2.2.2.2.2.2.2.2.2.2.2.2.2.2.2.2.2.2.2.2.2.2.2.2)
def s_back (o : Ob) (v : Int32) : Ob := (o.1, o.2.1, o.2.2.1, o.2.2.2.1, o.2.2.2.2.1, o.2.2.2.2.2.1, o.2.2.2.2.2.2.1, o.2.2.2.2.2.2.2.1, o.2.2.2.2.2.2.2.2.1, o.2.2.2.2.2.2.2.2.2.1, o.2.2.2.2.2.2.2.2.2.2.1, o.2.2.2.2.2.2.2.2.2.2.2.1, o.2.2.2.2.2.2.2.2.2.2.2.2.1, o.2.2.2.2.2.2.2.2.2.2.2.2.2.1, o.2.2.2.2.2.2.2.2.2.2.2.2.2.2.1, o.2.2.2.2.2.2.2.2.2.2.2.2.2.2.2.1, o.2.2.2.2.2.2.2.2.2.2.2.2.2.2.2.2.1, o.2.2.2.2.2.2.2.2.2.2.2.2.2.2.2.2.2.1, o.2.2.2.2.2.2.2.2.2.2.2.2.2.2.2.2.2.2.1, o.2.2.2.2.2.2.2.2.2.2.2.2.2.2.2.2.2.2.2.1, v, o.2.2.2.2.2.2.2.2.2.2.2.2.2.2.2.2.2.2.2.2.2.1, o.2.2.2.2.2.2.2.2.2.2.2.2.2.2.2.2.2.2.2.2.2.2.1, o.2.2.2.2.2.2.2.2.2.2.2.2.2.2.2.2.2.2.2.2.2.2.2.1, o.2.2.2.2.2.2.2.2.2.2.2.2.2.2.2.2.2.2.2.2.2.2.2.2)
def s_repair (o : Ob) (v : Int32) : Ob := (o.1, o.2.1, o.2.2.1, o.2.2.2.1, o.2.2.2.2.1, o.2.2.2.2.2.1, o.2.2.2.2.2.2.1, o.2.2.2.2.2.2.2.1, o.2.2.2.2.2.2.2.2.1, o.2.2.2.2.2.2.2.2.2.1, o.2.2.2.2.2.2.2.2.2.2.1, o.2.2.2.2.2.2.2.2.2.2.2.1, o.2.2.2.2.2.2.2.2.2.2.2.2.1, o.2.2.2.2.2.2.2.2.2.2.2.2.2.1, o.2.2.2.2.2.2.2.2.2.2.2.2.2.2.1, o.2.2.2.2.2.2.2.2.2.2.2.2.2.2.2.1, o.2.2.2.2.2.2.2.2.2.2.2.2.2.2.2.2.1, o.2.2.2.2.2.2.2.2.2.2.2.2.2.2.2.2.2.1, o.2.2.2.2.2.2.2.2.2.2.2.2.2.2.2.2.2.2.1, o.2.2.2.2.2.2.2.2.2.2.2.2.2.2.2.2.2.2.2.1, o.2.2.2.2.2.2.2.2.2.2.2.2.2.2.2.2.2.2.2.2.1, v, o.2.2.2.2.2.2.2.2.2.2.2.2.2.2.2.2.2.2.2.2.2.2.1, o.2.2.2.2.2.2.2.2.2.2.2.2.2.2.2.2.2.2.2.2.2.2.2.1, o.2.2.2.2.2.2.2.2.2.2.2.2.2.2.2.2.2.2.2.2.2.2.2.2)
def s_period (o : Ob) (v : Int32) : Ob := (o.1, o.2.1, o.2.2.1, o.2.2.2.1, o.2.2.2.2.1, o.2.2.2.2.2.1, o.2.2.2.2.2.2.1, o.2.2.2.2.2.2.2.1, o.2.2.2.2.2.2.2.2.1, o.2.2.2.2.2.2.2.2.2.1, o.2.2.2.2.2.2.2.2.2.2.1, o.2.2.2.2.2.2.2.2.2.2.2.1, o.2.2.2.2.2.2.2.2.2.2.2.2.1, o.2.2.2.2.2.2.2.2.2.2.2.2.2.1, o.2.2.2.2.2.2.2.2.2.2.2.2.2.2.1, o.2.2.2.2.2.2.2.2.2.2.2.2.2.2.2.1, o.2.2.2.2.2.2.2.2.2.2.2.2.2.2.2.2.1, o.2.2.2.2.2.2.2.2.2.2.2.2.2.2.2.2.2.1, o.2.2.2.2.2.2.2.2.2.2.2.2.2.2.2.2.2.2.1, o.2.2.2.2.2.2.2.2.2.2.2.2.2.2.2.2.2.2.2.1, o.2.2.2.2.2.2.2.2.2.2.2.2.2.2.2.2.2.2.2.2.1, o.2.2.2.2.2.2.2.2.2.2.2.2.2.2.2.2.2.2.2.2.2.1, v, o.2.2.2.2.2.2.2.2.2.2.2.2.2.2.2.2.2.2.2.2.2.2.2.1, o.2.2.2.2.2.2.2.2.2.2.2.2.2.2.2.2.2.2.2.2.2.2.2.2)
def s_nextSeq (o : Ob) (v : Int32) : Ob := (o.1, o.2.1, o.2.2.1, o.2.2.2.1, o.2.2.2.2.1, o.2.2.2.2.2.1, o.2.2.2.2.2.2.1, o.2.2.2.2.2.2.2.1, o.2.2.2.2.2.2.2.2.1, o.2.2.2.2.2.2.2.2.2.1, o.2.2.2.2.2.2.2.2.2.2.1, o.2.2.2.2.2.2.2.2.2.2.2.1, o.2.2.2.2.2.2.2.2.2.2.2.2.1, o.2.2.2.2.2.2.2.2.2.2.2.2.2.1, o.2.2.2.2.2.2.2.2.2.2.2.2.2.2.1, o.2.2.2.2.2.2.2.2.2.2.2.2.2.2.2.1, o.2.2.2.2.2.2.2.2.2.2.2.2.2.2.2.2.1, o.2.2.2.2.2.2.2.2.2.2.2.2.2.2.2.2.2.1, o.2.2.2.2.2.2.2.2.2.2.2.2.2.2.2.2.2.2.1, o.2.2.2.2.2.2.2.2.2.2.2.2.2.2.2.2.2.2.2.1, o.2.2.2.2.2.2.2.2.2.2.2.2.2.2.2.2.2.2.2.2.1, o.2.2.2.2.2.2.2.2.2.2.2.2.2.2.2.2.2.2.2.2.2.1, o.2.2.2.2.2.2.2.2.2.2.2.2.2.2.2.2.2.2.2.2.2.2.1, v, o.2.2.2.2.2.2.2.2.2.2.2.2.2.2.2.2.2.2.2.2.2.2.2.2)
def s_qLen (o : Ob) (v : Int32) : Ob := (o.1, o.2.1, o.2.2.1, o.2.2.2.1, o.2.2.2.2.1, o.2.2.2.2.2.1, o.2.2.2.2.2.2.1, o.2.2.2.2.2.2.2.1, o.2.2.2.2.2.2.2.2.1, o.2.2.2.2.2.2.2.2.2.1, o.2.2.2.2.2.2.2.2.2.2.1, o.2.2.2.2.2.2.2.2.2.2.2.1, o.2.2.2.2.2.2.2.2.2.2.2.2.1, o.2.2.2.2.2.2.2.2.2.2.2.2.2.1, o.2.2.2.2.2.2.2.2.2.2.2.2.2.2.1, o.2.2.2.2.2.2.2.2.2.2.2.2.2.2.2.1, o.2.2.2.2.2.2.2.2.2.2.2.2.2.2.2.2.1, o.2.2.2.2.2.2.2.2.2.2.2.2.2.2.2.2.2.1, o.2.2.2.2.2.2.2.2.2.2.2.2.2.2.2.2.2.2.1, o.2.2.2.2.2.2.2.2.2.2.2.2.2.2.2.2.2.2.2.1, o.2.2.2.2.2.2.2.2.2.2.2.2.2.2.2.2.2.2.2.2.1, o.2.2.2.2.2.2.2.2.2.2.2.2.2.2.2.2.2.2.2.2.2.1, o.2.2.2.2.2.2.2.2.2.2.2.2.2.2.2.2.2.2.2.2.2.2.1, o.2.2.2.2.2.2.2.2.2.2.2.2.2.2.2.2.2.2.2.2.2.2.2.1, v)
def ob0 : Ob := ([], [], [], [], [], [], [], [], [], [], [], [], [], [], [], [], [], [], [], 0, 0, 0, 0, 0, 0)
section Walks
variable {l : Launch} {Z : State} {n0 : Nat} {ad : Nat → Addr} {a0 : Array Value}
set_option maxRecDepth 20000
def H0 (o0 : Ob) : QHeap := [.inl [.ref 1, .ref 2, .ref 3, .ref 4, .ref 5, .ref 6, .ref 7, .ref 8, .ref 9, .ref 10, .ref 11, .ref 12, .ref 13, .ref 14, .ref 15, .ref 16, .ref 17, .ref 18, .ref 19, .int (f_win o0), .int (f_back o0), .int (f_repair o0), .int (f_period o0), .int (f_nextSeq o0), .int (f_qLen o0)], .inr (.inl (.int, (f_srcPayload o0))), .inr (.inl (.boolean, (f_pend o0))), .inr (.inl (.int, (f_queue o0))), .inr (.inl (.int, (f_stats o0))), .inr (.inl (.int, (f_state o0))), .inr (.inl (.int, (f_timer o0))), .inr (.inl (.int, (f_rxVal o0))), .inr (.inl (.int, (f_rxNext o0))), .inr (.inl (.int, (f_rxLead o0))), .inr (.inl (.int, (f_rxTrail o0))), .inr (.inl (.int, (f_lossLeft o0))), .inr (.inl (.int, (f_dups o0))), .inr (.inl (.int, (f_drops o0))), .inr (.inl (.int, (f_delSeq o0))), .inr (.inl (.int, (f_delVal o0))), .inr (.inl (.int, (f_delLen o0))), .inr (.inl (.int, (f_lostLog o0))), .inr (.inl (.int, (f_lostLen o0))), .inr (.inl (.int, (f_nakBuf o0)))]
def H0v (a0_0 : List Int32) (a0_1 : List Int32) (a0_2 : List Int32) (a0_3 : List Int32) (a0_4 : List Int32) (a0_5 : List Int32) (a0_6 : List Int32) (a0_7 : List Int32) (a0_8 : List Int32) (a0_9 : List Int32) (a0_10 : List Int32) (a0_11 : List Int32) (a0_12 : List Int32) (a0_13 : List Int32) (a0_14 : List Int32) (a0_15 : List Int32) (a0_16 : List Int32) (a0_17 : List Int32) (a0_18 : List Int32) (a0_19 : Int32) (a0_20 : Int32) (a0_21 : Int32) (a0_22 : Int32) (a0_23 : Int32) (a0_24 : Int32) : QHeap := [.inl [.ref 1, .ref 2, .ref 3, .ref 4, .ref 5, .ref 6, .ref 7, .ref 8, .ref 9, .ref 10, .ref 11, .ref 12, .ref 13, .ref 14, .ref 15, .ref 16, .ref 17, .ref 18, .ref 19, .int a0_19, .int a0_20, .int a0_21, .int a0_22, .int a0_23, .int a0_24], .inr (.inl (.int, a0_0)), .inr (.inl (.boolean, a0_1)), .inr (.inl (.int, a0_2)), .inr (.inl (.int, a0_3)), .inr (.inl (.int, a0_4)), .inr (.inl (.int, a0_5)), .inr (.inl (.int, a0_6)), .inr (.inl (.int, a0_7)), .inr (.inl (.int, a0_8)), .inr (.inl (.int, a0_9)), .inr (.inl (.int, a0_10)), .inr (.inl (.int, a0_11)), .inr (.inl (.int, a0_12)), .inr (.inl (.int, a0_13)), .inr (.inl (.int, a0_14)), .inr (.inl (.int, a0_15)), .inr (.inl (.int, a0_16)), .inr (.inl (.int, a0_17)), .inr (.inl (.int, a0_18))]
/-- clamp(III)I -/
def F2 (x1 : Int32) (x2 : Int32) (x3 : Int32) : Option (Int32) :=
  (if x1 < x2 then some x2 else (if x3 < x1 then some x3 else some x1))
theorem tF2 (Ad : QAd n0 ad) (W : QW Z a0) {a : Nat} {σ : QHeap} (x1 : Int32) (x2 : Int32) (x3 : Int32) {r : Int32} (h : F2 x1 x2 x3 = some r) : QTri l Z n0 ad 2 (0, qentry [.ref a, .int x1, .int x2, .int x3] (pMaxL 2), [], σ) (some (Value.int r)) σ := by
  unfold F2 at h
  refine QTri.steps Ad W 2 (st' := (2, [some (.ref a), vI x1, vI x2, vI x3], [.int x2, .int x1], σ)) rfl ?_
  rcases qite h with ⟨hc1, h⟩ | ⟨hc1, h⟩
  · refine QTri.brF Ad W (t := 7) (f := 5) (L := [some (.ref a), vI x1, vI x2, vI x3]) (S := []) (σ := σ) rfl (XT.ii_ge_f hc1) ?_
    refine QTri.steps Ad W 1 (st' := (6, [some (.ref a), vI x1, vI x2, vI x3], [.int x2], σ)) rfl ?_
    obtain rfl := Option.some.inj h
    exact QTri.retI rfl rfl
  · refine QTri.brT Ad W (t := 7) (f := 5) (L := [some (.ref a), vI x1, vI x2, vI x3]) (S := []) (σ := σ) rfl (XT.ii_ge_t hc1) ?_
    refine QTri.steps Ad W 2 (st' := (9, [some (.ref a), vI x1, vI x2, vI x3], [.int x3, .int x1], σ)) rfl ?_
    rcases qite h with ⟨hc2, h⟩ | ⟨hc2, h⟩
    · refine QTri.brF Ad W (t := 14) (f := 12) (L := [some (.ref a), vI x1, vI x2, vI x3]) (S := []) (σ := σ) rfl (XT.ii_le_f hc2) ?_
      refine QTri.steps Ad W 1 (st' := (13, [some (.ref a), vI x1, vI x2, vI x3], [.int x3], σ)) rfl ?_
      obtain rfl := Option.some.inj h
      exact QTri.retI rfl rfl
    · refine QTri.brT Ad W (t := 14) (f := 12) (L := [some (.ref a), vI x1, vI x2, vI x3]) (S := []) (σ := σ) rfl (XT.ii_le_t hc2) ?_
      refine QTri.steps Ad W 1 (st' := (15, [some (.ref a), vI x1, vI x2, vI x3], [.int x1], σ)) rfl ?_
      obtain rfl := Option.some.inj h
      exact QTri.retI rfl rfl
def B1_207 (v : Int32 × Ob) : Option (((Ob)) ⊕ (Int32 × Ob)) :=
  (if v.1 < (4 : Int32) then (aset (f_rxLead v.2) v.1 (-1 : Int32)).bind fun y9 => some (.inr ((v.1 + (1 : Int32)), (s_rxLead v.2 y9))) else some (.inl v.2))
theorem tB1_207 (Ad : QAd n0 ad) (W : QW Z a0) (v : Int32 × Ob) {r : ((Ob)) ⊕ (Int32 × Ob)} {u : Option Value} {τ : QHeap} (h : B1_207 v = some r) (hx0 : ∀ x : Ob, r = .inl x → u = (none : Option Value) ∧ τ = (H0 x)) (hc : ∀ x : Int32 × Ob, r = .inr x → QTri l Z n0 ad 1 (207, [some (.ref 0), none, none, none, none, vI x.1], [], (H0 x.2)) u τ) : QTri l Z n0 ad 1 (207, [some (.ref 0), none, none, none, none, vI v.1], [], (H0 v.2)) u τ := by
  unfold B1_207 at h
  refine QTri.steps Ad W 2 (st' := (210, [some (.ref 0), none, none, none, none, vI v.1], [.int (4 : Int32), .int v.1], (H0 v.2))) rfl ?_
  rcases qite h with ⟨hc8, h⟩ | ⟨hc8, h⟩
  · refine QTri.brF Ad W (t := 227) (f := 213) (L := [some (.ref 0), none, none, none, none, vI v.1]) (S := []) (σ := (H0 v.2)) rfl (XT.ii_ge_f hc8) ?_
    refine QTri.steps Ad W 4 (st' := (220, [some (.ref 0), none, none, none, none, vI v.1], [.int (-1 : Int32), .int v.1, .ref 9], (H0 v.2))) rfl ?_
    obtain ⟨y9, hy9, h⟩ := Option.bind_eq_some_iff.mp h
    refine QTri.bnd Ad W (f := fun y9 => (221, [some (.ref 0), none, none, none, none, vI v.1], [], (H0v (f_srcPayload v.2) (f_pend v.2) (f_queue v.2) (f_stats v.2) (f_state v.2) (f_timer v.2) (f_rxVal v.2) (f_rxNext v.2) y9 (f_rxTrail v.2) (f_lossLeft v.2) (f_dups v.2) (f_drops v.2) (f_delSeq v.2) (f_delVal v.2) (f_delLen v.2) (f_lostLog v.2) (f_lostLen v.2) (f_nakBuf v.2) (f_win v.2) (f_back v.2) (f_repair v.2) (f_period v.2) (f_nextSeq v.2) (f_qLen v.2)))) rfl hy9 ?_
    refine QTri.steps Ad W 2 (st' := (207, [some (.ref 0), none, none, none, none, vI (v.1 + (1 : Int32))], [], (H0v (f_srcPayload v.2) (f_pend v.2) (f_queue v.2) (f_stats v.2) (f_state v.2) (f_timer v.2) (f_rxVal v.2) (f_rxNext v.2) y9 (f_rxTrail v.2) (f_lossLeft v.2) (f_dups v.2) (f_drops v.2) (f_delSeq v.2) (f_delVal v.2) (f_delLen v.2) (f_lostLog v.2) (f_lostLen v.2) (f_nakBuf v.2) (f_win v.2) (f_back v.2) (f_repair v.2) (f_period v.2) (f_nextSeq v.2) (f_qLen v.2)))) rfl ?_
    have E10 : ((H0v (f_srcPayload v.2) (f_pend v.2) (f_queue v.2) (f_stats v.2) (f_state v.2) (f_timer v.2) (f_rxVal v.2) (f_rxNext v.2) y9 (f_rxTrail v.2) (f_lossLeft v.2) (f_dups v.2) (f_drops v.2) (f_delSeq v.2) (f_delVal v.2) (f_delLen v.2) (f_lostLog v.2) (f_lostLen v.2) (f_nakBuf v.2) (f_win v.2) (f_back v.2) (f_repair v.2) (f_period v.2) (f_nextSeq v.2) (f_qLen v.2)) : QHeap) = (H0 (s_rxLead v.2 y9)) := by dsimp only [H0, H0v, f_srcPayload, f_pend, f_queue, f_stats, f_state, f_timer, f_rxVal, f_rxNext, f_rxLead, f_rxTrail, f_lossLeft, f_dups, f_drops, f_delSeq, f_delVal, f_delLen, f_lostLog, f_lostLen, f_nakBuf, f_win, f_back, f_repair, f_period, f_nextSeq, f_qLen, s_rxLead]
    rw [E10]
    obtain rfl := Option.some.inj h
    exact QTri.mask [true, false, false, false, false, true] (hc ((v.1 + (1 : Int32)), (s_rxLead v.2 y9)) rfl)
  · refine QTri.brT Ad W (t := 227) (f := 213) (L := [some (.ref 0), none, none, none, none, vI v.1]) (S := []) (σ := (H0 v.2)) rfl (XT.ii_ge_t hc8) ?_
    obtain rfl := Option.some.inj h
    obtain ⟨rfl, rfl⟩ := hx0 v.2 rfl
    exact QTri.ret0 rfl rfl
/-- init(IIII)V -/
def F1 (x1 : Int32) (x2 : Int32) (x3 : Int32) (x4 : Int32) : Option (Ob) :=
  (F2 x1 (2 : Int32) (16 : Int32)).bind fun r3 => (F2 x2 (1 : Int32) (8 : Int32)).bind fun r4 => (F2 x3 (1 : Int32) (8 : Int32)).bind fun r5 => (F2 x4 (0 : Int32) (16 : Int32)).bind fun r6 => (loopN (B1_207) qN ((0 : Int32), (s_period (s_repair (s_back (s_win (s_nakBuf (s_lostLen (s_lostLog (s_delLen (s_delVal (s_delSeq (s_drops (s_dups (s_lossLeft (s_rxTrail (s_rxLead (s_rxNext (s_rxVal (s_timer (s_state (s_stats (s_queue (s_pend (s_srcPayload ob0 (List.replicate 32 0)) (List.replicate 32 0)) (List.replicate 64 0)) (List.replicate 10 0)) (List.replicate 128 0)) (List.replicate 128 0)) (List.replicate 128 0)) (List.replicate 4 0)) (List.replicate 4 0)) (List.replicate 4 0)) (List.replicate 4 0)) (List.replicate 4 0)) (List.replicate 4 0)) (List.replicate 128 0)) (List.replicate 128 0)) (List.replicate 4 0)) (List.replicate 128 0)) (List.replicate 4 0)) (List.replicate 128 0)) r3) r4) r5) r6))).bind fun e11 => some e11
theorem tF1 (Ad : QAd n0 ad) (W : QW Z a0) (x1 : Int32) (x2 : Int32) (x3 : Int32) (x4 : Int32) {r : Ob} (h : F1 x1 x2 x3 x4 = some r) : QTri l Z n0 ad 1 (0, qentry [.ref 0, .int x1, .int x2, .int x3, .int x4] (pMaxL 1), [], [.inl [.null, .null, .null, .null, .null, .null, .null, .null, .null, .null, .null, .null, .null, .null, .null, .null, .null, .null, .null, .int (f_win ob0), .int (f_back ob0), .int (f_repair ob0), .int (f_period ob0), .int (f_nextSeq ob0), .int (f_qLen ob0)]]) (none : Option Value) (H0 r) := by
  unfold F1 at h
  refine QTri.steps Ad W 1 (st' := (1, [some (.ref 0), vI x1, vI x2, vI x3, vI x4, none], [.ref 0], [.inl [.null, .null, .null, .null, .null, .null, .null, .null, .null, .null, .null, .null, .null, .null, .null, .null, .null, .null, .null, .int (f_win ob0), .int (f_back ob0), .int (f_repair ob0), .int (f_period ob0), .int (f_nextSeq ob0), .int (f_qLen ob0)]])) rfl ?_
  refine QTri.callO W rfl rfl rfl ?_
  refine QTri.steps Ad W 3 (st' := (9, [some (.ref 0), vI x1, vI x2, vI x3, vI x4, none], [.ref 1, .ref 0], [.inl [.null, .null, .null, .null, .null, .null, .null, .null, .null, .null, .null, .null, .null, .null, .null, .null, .null, .null, .null, .int (f_win ob0), .int (f_back ob0), .int (f_repair ob0), .int (f_period ob0), .int (f_nextSeq ob0), .int (f_qLen ob0)], .inr (.inl (.int, (List.replicate 32 0)))])) rfl ?_
  refine QTri.steps Ad W 1 (st' := (12, [some (.ref 0), vI x1, vI x2, vI x3, vI x4, none], [], [.inl [.ref 1, .null, .null, .null, .null, .null, .null, .null, .null, .null, .null, .null, .null, .null, .null, .null, .null, .null, .null, .int (f_win ob0), .int (f_back ob0), .int (f_repair ob0), .int (f_period ob0), .int (f_nextSeq ob0), .int (f_qLen ob0)], .inr (.inl (.int, (List.replicate 32 0)))])) rfl ?_
  refine QTri.steps Ad W 3 (st' := (17, [some (.ref 0), vI x1, vI x2, vI x3, vI x4, none], [.ref 2, .ref 0], [.inl [.ref 1, .null, .null, .null, .null, .null, .null, .null, .null, .null, .null, .null, .null, .null, .null, .null, .null, .null, .null, .int (f_win ob0), .int (f_back ob0), .int (f_repair ob0), .int (f_period ob0), .int (f_nextSeq ob0), .int (f_qLen ob0)], .inr (.inl (.int, (List.replicate 32 0))), .inr (.inl (.boolean, (List.replicate 32 0)))])) rfl ?_
  refine QTri.steps Ad W 1 (st' := (20, [some (.ref 0), vI x1, vI x2, vI x3, vI x4, none], [], [.inl [.ref 1, .ref 2, .null, .null, .null, .null, .null, .null, .null, .null, .null, .null, .null, .null, .null, .null, .null, .null, .null, .int (f_win ob0), .int (f_back ob0), .int (f_repair ob0), .int (f_period ob0), .int (f_nextSeq ob0), .int (f_qLen ob0)], .inr (.inl (.int, (List.replicate 32 0))), .inr (.inl (.boolean, (List.replicate 32 0)))])) rfl ?_
  refine QTri.steps Ad W 3 (st' := (25, [some (.ref 0), vI x1, vI x2, vI x3, vI x4, none], [.ref 3, .ref 0], [.inl [.ref 1, .ref 2, .null, .null, .null, .null, .null, .null, .null, .null, .null, .null, .null, .null, .null, .null, .null, .null, .null, .int (f_win ob0), .int (f_back ob0), .int (f_repair ob0), .int (f_period ob0), .int (f_nextSeq ob0), .int (f_qLen ob0)], .inr (.inl (.int, (List.replicate 32 0))), .inr (.inl (.boolean, (List.replicate 32 0))), .inr (.inl (.int, (List.replicate 64 0)))])) rfl ?_
  refine QTri.steps Ad W 1 (st' := (28, [some (.ref 0), vI x1, vI x2, vI x3, vI x4, none], [], [.inl [.ref 1, .ref 2, .ref 3, .null, .null, .null, .null, .null, .null, .null, .null, .null, .null, .null, .null, .null, .null, .null, .null, .int (f_win ob0), .int (f_back ob0), .int (f_repair ob0), .int (f_period ob0), .int (f_nextSeq ob0), .int (f_qLen ob0)], .inr (.inl (.int, (List.replicate 32 0))), .inr (.inl (.boolean, (List.replicate 32 0))), .inr (.inl (.int, (List.replicate 64 0)))])) rfl ?_
  refine QTri.steps Ad W 3 (st' := (33, [some (.ref 0), vI x1, vI x2, vI x3, vI x4, none], [.ref 4, .ref 0], [.inl [.ref 1, .ref 2, .ref 3, .null, .null, .null, .null, .null, .null, .null, .null, .null, .null, .null, .null, .null, .null, .null, .null, .int (f_win ob0), .int (f_back ob0), .int (f_repair ob0), .int (f_period ob0), .int (f_nextSeq ob0), .int (f_qLen ob0)], .inr (.inl (.int, (List.replicate 32 0))), .inr (.inl (.boolean, (List.replicate 32 0))), .inr (.inl (.int, (List.replicate 64 0))), .inr (.inl (.int, (List.replicate 10 0)))])) rfl ?_
  refine QTri.steps Ad W 1 (st' := (36, [some (.ref 0), vI x1, vI x2, vI x3, vI x4, none], [], [.inl [.ref 1, .ref 2, .ref 3, .ref 4, .null, .null, .null, .null, .null, .null, .null, .null, .null, .null, .null, .null, .null, .null, .null, .int (f_win ob0), .int (f_back ob0), .int (f_repair ob0), .int (f_period ob0), .int (f_nextSeq ob0), .int (f_qLen ob0)], .inr (.inl (.int, (List.replicate 32 0))), .inr (.inl (.boolean, (List.replicate 32 0))), .inr (.inl (.int, (List.replicate 64 0))), .inr (.inl (.int, (List.replicate 10 0)))])) rfl ?_
  refine QTri.steps Ad W 3 (st' := (42, [some (.ref 0), vI x1, vI x2, vI x3, vI x4, none], [.ref 5, .ref 0], [.inl [.ref 1, .ref 2, .ref 3, .ref 4, .null, .null, .null, .null, .null, .null, .null, .null, .null, .null, .null, .null, .null, .null, .null, .int (f_win ob0), .int (f_back ob0), .int (f_repair ob0), .int (f_period ob0), .int (f_nextSeq ob0), .int (f_qLen ob0)], .inr (.inl (.int, (List.replicate 32 0))), .inr (.inl (.boolean, (List.replicate 32 0))), .inr (.inl (.int, (List.replicate 64 0))), .inr (.inl (.int, (List.replicate 10 0))), .inr (.inl (.int, (List.replicate 128 0)))])) rfl ?_
  refine QTri.steps Ad W 1 (st' := (45, [some (.ref 0), vI x1, vI x2, vI x3, vI x4, none], [], [.inl [.ref 1, .ref 2, .ref 3, .ref 4, .ref 5, .null, .null, .null, .null, .null, .null, .null, .null, .null, .null, .null, .null, .null, .null, .int (f_win ob0), .int (f_back ob0), .int (f_repair ob0), .int (f_period ob0), .int (f_nextSeq ob0), .int (f_qLen ob0)], .inr (.inl (.int, (List.replicate 32 0))), .inr (.inl (.boolean, (List.replicate 32 0))), .inr (.inl (.int, (List.replicate 64 0))), .inr (.inl (.int, (List.replicate 10 0))), .inr (.inl (.int, (List.replicate 128 0)))])) rfl ?_
  refine QTri.steps Ad W 3 (st' := (51, [some (.ref 0), vI x1, vI x2, vI x3, vI x4, none], [.ref 6, .ref 0], [.inl [.ref 1, .ref 2, .ref 3, .ref 4, .ref 5, .null, .null, .null, .null, .null, .null, .null, .null, .null, .null, .null, .null, .null, .null, .int (f_win ob0), .int (f_back ob0), .int (f_repair ob0), .int (f_period ob0), .int (f_nextSeq ob0), .int (f_qLen ob0)], .inr (.inl (.int, (List.replicate 32 0))), .inr (.inl (.boolean, (List.replicate 32 0))), .inr (.inl (.int, (List.replicate 64 0))), .inr (.inl (.int, (List.replicate 10 0))), .inr (.inl (.int, (List.replicate 128 0))), .inr (.inl (.int, (List.replicate 128 0)))])) rfl ?_
  refine QTri.steps Ad W 1 (st' := (54, [some (.ref 0), vI x1, vI x2, vI x3, vI x4, none], [], [.inl [.ref 1, .ref 2, .ref 3, .ref 4, .ref 5, .ref 6, .null, .null, .null, .null, .null, .null, .null, .null, .null, .null, .null, .null, .null, .int (f_win ob0), .int (f_back ob0), .int (f_repair ob0), .int (f_period ob0), .int (f_nextSeq ob0), .int (f_qLen ob0)], .inr (.inl (.int, (List.replicate 32 0))), .inr (.inl (.boolean, (List.replicate 32 0))), .inr (.inl (.int, (List.replicate 64 0))), .inr (.inl (.int, (List.replicate 10 0))), .inr (.inl (.int, (List.replicate 128 0))), .inr (.inl (.int, (List.replicate 128 0)))])) rfl ?_
  refine QTri.steps Ad W 3 (st' := (60, [some (.ref 0), vI x1, vI x2, vI x3, vI x4, none], [.ref 7, .ref 0], [.inl [.ref 1, .ref 2, .ref 3, .ref 4, .ref 5, .ref 6, .null, .null, .null, .null, .null, .null, .null, .null, .null, .null, .null, .null, .null, .int (f_win ob0), .int (f_back ob0), .int (f_repair ob0), .int (f_period ob0), .int (f_nextSeq ob0), .int (f_qLen ob0)], .inr (.inl (.int, (List.replicate 32 0))), .inr (.inl (.boolean, (List.replicate 32 0))), .inr (.inl (.int, (List.replicate 64 0))), .inr (.inl (.int, (List.replicate 10 0))), .inr (.inl (.int, (List.replicate 128 0))), .inr (.inl (.int, (List.replicate 128 0))), .inr (.inl (.int, (List.replicate 128 0)))])) rfl ?_
  refine QTri.steps Ad W 1 (st' := (63, [some (.ref 0), vI x1, vI x2, vI x3, vI x4, none], [], [.inl [.ref 1, .ref 2, .ref 3, .ref 4, .ref 5, .ref 6, .ref 7, .null, .null, .null, .null, .null, .null, .null, .null, .null, .null, .null, .null, .int (f_win ob0), .int (f_back ob0), .int (f_repair ob0), .int (f_period ob0), .int (f_nextSeq ob0), .int (f_qLen ob0)], .inr (.inl (.int, (List.replicate 32 0))), .inr (.inl (.boolean, (List.replicate 32 0))), .inr (.inl (.int, (List.replicate 64 0))), .inr (.inl (.int, (List.replicate 10 0))), .inr (.inl (.int, (List.replicate 128 0))), .inr (.inl (.int, (List.replicate 128 0))), .inr (.inl (.int, (List.replicate 128 0)))])) rfl ?_
  refine QTri.steps Ad W 3 (st' := (67, [some (.ref 0), vI x1, vI x2, vI x3, vI x4, none], [.ref 8, .ref 0], [.inl [.ref 1, .ref 2, .ref 3, .ref 4, .ref 5, .ref 6, .ref 7, .null, .null, .null, .null, .null, .null, .null, .null, .null, .null, .null, .null, .int (f_win ob0), .int (f_back ob0), .int (f_repair ob0), .int (f_period ob0), .int (f_nextSeq ob0), .int (f_qLen ob0)], .inr (.inl (.int, (List.replicate 32 0))), .inr (.inl (.boolean, (List.replicate 32 0))), .inr (.inl (.int, (List.replicate 64 0))), .inr (.inl (.int, (List.replicate 10 0))), .inr (.inl (.int, (List.replicate 128 0))), .inr (.inl (.int, (List.replicate 128 0))), .inr (.inl (.int, (List.replicate 128 0))), .inr (.inl (.int, (List.replicate 4 0)))])) rfl ?_
  refine QTri.steps Ad W 1 (st' := (70, [some (.ref 0), vI x1, vI x2, vI x3, vI x4, none], [], [.inl [.ref 1, .ref 2, .ref 3, .ref 4, .ref 5, .ref 6, .ref 7, .ref 8, .null, .null, .null, .null, .null, .null, .null, .null, .null, .null, .null, .int (f_win ob0), .int (f_back ob0), .int (f_repair ob0), .int (f_period ob0), .int (f_nextSeq ob0), .int (f_qLen ob0)], .inr (.inl (.int, (List.replicate 32 0))), .inr (.inl (.boolean, (List.replicate 32 0))), .inr (.inl (.int, (List.replicate 64 0))), .inr (.inl (.int, (List.replicate 10 0))), .inr (.inl (.int, (List.replicate 128 0))), .inr (.inl (.int, (List.replicate 128 0))), .inr (.inl (.int, (List.replicate 128 0))), .inr (.inl (.int, (List.replicate 4 0)))])) rfl ?_
  refine QTri.steps Ad W 3 (st' := (74, [some (.ref 0), vI x1, vI x2, vI x3, vI x4, none], [.ref 9, .ref 0], [.inl [.ref 1, .ref 2, .ref 3, .ref 4, .ref 5, .ref 6, .ref 7, .ref 8, .null, .null, .null, .null, .null, .null, .null, .null, .null, .null, .null, .int (f_win ob0), .int (f_back ob0), .int (f_repair ob0), .int (f_period ob0), .int (f_nextSeq ob0), .int (f_qLen ob0)], .inr (.inl (.int, (List.replicate 32 0))), .inr (.inl (.boolean, (List.replicate 32 0))), .inr (.inl (.int, (List.replicate 64 0))), .inr (.inl (.int, (List.replicate 10 0))), .inr (.inl (.int, (List.replicate 128 0))), .inr (.inl (.int, (List.replicate 128 0))), .inr (.inl (.int, (List.replicate 128 0))), .inr (.inl (.int, (List.replicate 4 0))), .inr (.inl (.int, (List.replicate 4 0)))])) rfl ?_
  refine QTri.steps Ad W 1 (st' := (77, [some (.ref 0), vI x1, vI x2, vI x3, vI x4, none], [], [.inl [.ref 1, .ref 2, .ref 3, .ref 4, .ref 5, .ref 6, .ref 7, .ref 8, .ref 9, .null, .null, .null, .null, .null, .null, .null, .null, .null, .null, .int (f_win ob0), .int (f_back ob0), .int (f_repair ob0), .int (f_period ob0), .int (f_nextSeq ob0), .int (f_qLen ob0)], .inr (.inl (.int, (List.replicate 32 0))), .inr (.inl (.boolean, (List.replicate 32 0))), .inr (.inl (.int, (List.replicate 64 0))), .inr (.inl (.int, (List.replicate 10 0))), .inr (.inl (.int, (List.replicate 128 0))), .inr (.inl (.int, (List.replicate 128 0))), .inr (.inl (.int, (List.replicate 128 0))), .inr (.inl (.int, (List.replicate 4 0))), .inr (.inl (.int, (List.replicate 4 0)))])) rfl ?_
  refine QTri.steps Ad W 3 (st' := (81, [some (.ref 0), vI x1, vI x2, vI x3, vI x4, none], [.ref 10, .ref 0], [.inl [.ref 1, .ref 2, .ref 3, .ref 4, .ref 5, .ref 6, .ref 7, .ref 8, .ref 9, .null, .null, .null, .null, .null, .null, .null, .null, .null, .null, .int (f_win ob0), .int (f_back ob0), .int (f_repair ob0), .int (f_period ob0), .int (f_nextSeq ob0), .int (f_qLen ob0)], .inr (.inl (.int, (List.replicate 32 0))), .inr (.inl (.boolean, (List.replicate 32 0))), .inr (.inl (.int, (List.replicate 64 0))), .inr (.inl (.int, (List.replicate 10 0))), .inr (.inl (.int, (List.replicate 128 0))), .inr (.inl (.int, (List.replicate 128 0))), .inr (.inl (.int, (List.replicate 128 0))), .inr (.inl (.int, (List.replicate 4 0))), .inr (.inl (.int, (List.replicate 4 0))), .inr (.inl (.int, (List.replicate 4 0)))])) rfl ?_
  refine QTri.steps Ad W 1 (st' := (84, [some (.ref 0), vI x1, vI x2, vI x3, vI x4, none], [], [.inl [.ref 1, .ref 2, .ref 3, .ref 4, .ref 5, .ref 6, .ref 7, .ref 8, .ref 9, .ref 10, .null, .null, .null, .null, .null, .null, .null, .null, .null, .int (f_win ob0), .int (f_back ob0), .int (f_repair ob0), .int (f_period ob0), .int (f_nextSeq ob0), .int (f_qLen ob0)], .inr (.inl (.int, (List.replicate 32 0))), .inr (.inl (.boolean, (List.replicate 32 0))), .inr (.inl (.int, (List.replicate 64 0))), .inr (.inl (.int, (List.replicate 10 0))), .inr (.inl (.int, (List.replicate 128 0))), .inr (.inl (.int, (List.replicate 128 0))), .inr (.inl (.int, (List.replicate 128 0))), .inr (.inl (.int, (List.replicate 4 0))), .inr (.inl (.int, (List.replicate 4 0))), .inr (.inl (.int, (List.replicate 4 0)))])) rfl ?_
  refine QTri.steps Ad W 3 (st' := (88, [some (.ref 0), vI x1, vI x2, vI x3, vI x4, none], [.ref 11, .ref 0], [.inl [.ref 1, .ref 2, .ref 3, .ref 4, .ref 5, .ref 6, .ref 7, .ref 8, .ref 9, .ref 10, .null, .null, .null, .null, .null, .null, .null, .null, .null, .int (f_win ob0), .int (f_back ob0), .int (f_repair ob0), .int (f_period ob0), .int (f_nextSeq ob0), .int (f_qLen ob0)], .inr (.inl (.int, (List.replicate 32 0))), .inr (.inl (.boolean, (List.replicate 32 0))), .inr (.inl (.int, (List.replicate 64 0))), .inr (.inl (.int, (List.replicate 10 0))), .inr (.inl (.int, (List.replicate 128 0))), .inr (.inl (.int, (List.replicate 128 0))), .inr (.inl (.int, (List.replicate 128 0))), .inr (.inl (.int, (List.replicate 4 0))), .inr (.inl (.int, (List.replicate 4 0))), .inr (.inl (.int, (List.replicate 4 0))), .inr (.inl (.int, (List.replicate 4 0)))])) rfl ?_
  refine QTri.steps Ad W 1 (st' := (91, [some (.ref 0), vI x1, vI x2, vI x3, vI x4, none], [], [.inl [.ref 1, .ref 2, .ref 3, .ref 4, .ref 5, .ref 6, .ref 7, .ref 8, .ref 9, .ref 10, .ref 11, .null, .null, .null, .null, .null, .null, .null, .null, .int (f_win ob0), .int (f_back ob0), .int (f_repair ob0), .int (f_period ob0), .int (f_nextSeq ob0), .int (f_qLen ob0)], .inr (.inl (.int, (List.replicate 32 0))), .inr (.inl (.boolean, (List.replicate 32 0))), .inr (.inl (.int, (List.replicate 64 0))), .inr (.inl (.int, (List.replicate 10 0))), .inr (.inl (.int, (List.replicate 128 0))), .inr (.inl (.int, (List.replicate 128 0))), .inr (.inl (.int, (List.replicate 128 0))), .inr (.inl (.int, (List.replicate 4 0))), .inr (.inl (.int, (List.replicate 4 0))), .inr (.inl (.int, (List.replicate 4 0))), .inr (.inl (.int, (List.replicate 4 0)))])) rfl ?_
  refine QTri.steps Ad W 3 (st' := (95, [some (.ref 0), vI x1, vI x2, vI x3, vI x4, none], [.ref 12, .ref 0], [.inl [.ref 1, .ref 2, .ref 3, .ref 4, .ref 5, .ref 6, .ref 7, .ref 8, .ref 9, .ref 10, .ref 11, .null, .null, .null, .null, .null, .null, .null, .null, .int (f_win ob0), .int (f_back ob0), .int (f_repair ob0), .int (f_period ob0), .int (f_nextSeq ob0), .int (f_qLen ob0)], .inr (.inl (.int, (List.replicate 32 0))), .inr (.inl (.boolean, (List.replicate 32 0))), .inr (.inl (.int, (List.replicate 64 0))), .inr (.inl (.int, (List.replicate 10 0))), .inr (.inl (.int, (List.replicate 128 0))), .inr (.inl (.int, (List.replicate 128 0))), .inr (.inl (.int, (List.replicate 128 0))), .inr (.inl (.int, (List.replicate 4 0))), .inr (.inl (.int, (List.replicate 4 0))), .inr (.inl (.int, (List.replicate 4 0))), .inr (.inl (.int, (List.replicate 4 0))), .inr (.inl (.int, (List.replicate 4 0)))])) rfl ?_
  refine QTri.steps Ad W 1 (st' := (98, [some (.ref 0), vI x1, vI x2, vI x3, vI x4, none], [], [.inl [.ref 1, .ref 2, .ref 3, .ref 4, .ref 5, .ref 6, .ref 7, .ref 8, .ref 9, .ref 10, .ref 11, .ref 12, .null, .null, .null, .null, .null, .null, .null, .int (f_win ob0), .int (f_back ob0), .int (f_repair ob0), .int (f_period ob0), .int (f_nextSeq ob0), .int (f_qLen ob0)], .inr (.inl (.int, (List.replicate 32 0))), .inr (.inl (.boolean, (List.replicate 32 0))), .inr (.inl (.int, (List.replicate 64 0))), .inr (.inl (.int, (List.replicate 10 0))), .inr (.inl (.int, (List.replicate 128 0))), .inr (.inl (.int, (List.replicate 128 0))), .inr (.inl (.int, (List.replicate 128 0))), .inr (.inl (.int, (List.replicate 4 0))), .inr (.inl (.int, (List.replicate 4 0))), .inr (.inl (.int, (List.replicate 4 0))), .inr (.inl (.int, (List.replicate 4 0))), .inr (.inl (.int, (List.replicate 4 0)))])) rfl ?_
  refine QTri.steps Ad W 3 (st' := (102, [some (.ref 0), vI x1, vI x2, vI x3, vI x4, none], [.ref 13, .ref 0], [.inl [.ref 1, .ref 2, .ref 3, .ref 4, .ref 5, .ref 6, .ref 7, .ref 8, .ref 9, .ref 10, .ref 11, .ref 12, .null, .null, .null, .null, .null, .null, .null, .int (f_win ob0), .int (f_back ob0), .int (f_repair ob0), .int (f_period ob0), .int (f_nextSeq ob0), .int (f_qLen ob0)], .inr (.inl (.int, (List.replicate 32 0))), .inr (.inl (.boolean, (List.replicate 32 0))), .inr (.inl (.int, (List.replicate 64 0))), .inr (.inl (.int, (List.replicate 10 0))), .inr (.inl (.int, (List.replicate 128 0))), .inr (.inl (.int, (List.replicate 128 0))), .inr (.inl (.int, (List.replicate 128 0))), .inr (.inl (.int, (List.replicate 4 0))), .inr (.inl (.int, (List.replicate 4 0))), .inr (.inl (.int, (List.replicate 4 0))), .inr (.inl (.int, (List.replicate 4 0))), .inr (.inl (.int, (List.replicate 4 0))), .inr (.inl (.int, (List.replicate 4 0)))])) rfl ?_
  refine QTri.steps Ad W 1 (st' := (105, [some (.ref 0), vI x1, vI x2, vI x3, vI x4, none], [], [.inl [.ref 1, .ref 2, .ref 3, .ref 4, .ref 5, .ref 6, .ref 7, .ref 8, .ref 9, .ref 10, .ref 11, .ref 12, .ref 13, .null, .null, .null, .null, .null, .null, .int (f_win ob0), .int (f_back ob0), .int (f_repair ob0), .int (f_period ob0), .int (f_nextSeq ob0), .int (f_qLen ob0)], .inr (.inl (.int, (List.replicate 32 0))), .inr (.inl (.boolean, (List.replicate 32 0))), .inr (.inl (.int, (List.replicate 64 0))), .inr (.inl (.int, (List.replicate 10 0))), .inr (.inl (.int, (List.replicate 128 0))), .inr (.inl (.int, (List.replicate 128 0))), .inr (.inl (.int, (List.replicate 128 0))), .inr (.inl (.int, (List.replicate 4 0))), .inr (.inl (.int, (List.replicate 4 0))), .inr (.inl (.int, (List.replicate 4 0))), .inr (.inl (.int, (List.replicate 4 0))), .inr (.inl (.int, (List.replicate 4 0))), .inr (.inl (.int, (List.replicate 4 0)))])) rfl ?_
  refine QTri.steps Ad W 3 (st' := (111, [some (.ref 0), vI x1, vI x2, vI x3, vI x4, none], [.ref 14, .ref 0], [.inl [.ref 1, .ref 2, .ref 3, .ref 4, .ref 5, .ref 6, .ref 7, .ref 8, .ref 9, .ref 10, .ref 11, .ref 12, .ref 13, .null, .null, .null, .null, .null, .null, .int (f_win ob0), .int (f_back ob0), .int (f_repair ob0), .int (f_period ob0), .int (f_nextSeq ob0), .int (f_qLen ob0)], .inr (.inl (.int, (List.replicate 32 0))), .inr (.inl (.boolean, (List.replicate 32 0))), .inr (.inl (.int, (List.replicate 64 0))), .inr (.inl (.int, (List.replicate 10 0))), .inr (.inl (.int, (List.replicate 128 0))), .inr (.inl (.int, (List.replicate 128 0))), .inr (.inl (.int, (List.replicate 128 0))), .inr (.inl (.int, (List.replicate 4 0))), .inr (.inl (.int, (List.replicate 4 0))), .inr (.inl (.int, (List.replicate 4 0))), .inr (.inl (.int, (List.replicate 4 0))), .inr (.inl (.int, (List.replicate 4 0))), .inr (.inl (.int, (List.replicate 4 0))), .inr (.inl (.int, (List.replicate 128 0)))])) rfl ?_
  refine QTri.steps Ad W 1 (st' := (114, [some (.ref 0), vI x1, vI x2, vI x3, vI x4, none], [], [.inl [.ref 1, .ref 2, .ref 3, .ref 4, .ref 5, .ref 6, .ref 7, .ref 8, .ref 9, .ref 10, .ref 11, .ref 12, .ref 13, .ref 14, .null, .null, .null, .null, .null, .int (f_win ob0), .int (f_back ob0), .int (f_repair ob0), .int (f_period ob0), .int (f_nextSeq ob0), .int (f_qLen ob0)], .inr (.inl (.int, (List.replicate 32 0))), .inr (.inl (.boolean, (List.replicate 32 0))), .inr (.inl (.int, (List.replicate 64 0))), .inr (.inl (.int, (List.replicate 10 0))), .inr (.inl (.int, (List.replicate 128 0))), .inr (.inl (.int, (List.replicate 128 0))), .inr (.inl (.int, (List.replicate 128 0))), .inr (.inl (.int, (List.replicate 4 0))), .inr (.inl (.int, (List.replicate 4 0))), .inr (.inl (.int, (List.replicate 4 0))), .inr (.inl (.int, (List.replicate 4 0))), .inr (.inl (.int, (List.replicate 4 0))), .inr (.inl (.int, (List.replicate 4 0))), .inr (.inl (.int, (List.replicate 128 0)))])) rfl ?_
  refine QTri.steps Ad W 3 (st' := (120, [some (.ref 0), vI x1, vI x2, vI x3, vI x4, none], [.ref 15, .ref 0], [.inl [.ref 1, .ref 2, .ref 3, .ref 4, .ref 5, .ref 6, .ref 7, .ref 8, .ref 9, .ref 10, .ref 11, .ref 12, .ref 13, .ref 14, .null, .null, .null, .null, .null, .int (f_win ob0), .int (f_back ob0), .int (f_repair ob0), .int (f_period ob0), .int (f_nextSeq ob0), .int (f_qLen ob0)], .inr (.inl (.int, (List.replicate 32 0))), .inr (.inl (.boolean, (List.replicate 32 0))), .inr (.inl (.int, (List.replicate 64 0))), .inr (.inl (.int, (List.replicate 10 0))), .inr (.inl (.int, (List.replicate 128 0))), .inr (.inl (.int, (List.replicate 128 0))), .inr (.inl (.int, (List.replicate 128 0))), .inr (.inl (.int, (List.replicate 4 0))), .inr (.inl (.int, (List.replicate 4 0))), .inr (.inl (.int, (List.replicate 4 0))), .inr (.inl (.int, (List.replicate 4 0))), .inr (.inl (.int, (List.replicate 4 0))), .inr (.inl (.int, (List.replicate 4 0))), .inr (.inl (.int, (List.replicate 128 0))), .inr (.inl (.int, (List.replicate 128 0)))])) rfl ?_
  refine QTri.steps Ad W 1 (st' := (123, [some (.ref 0), vI x1, vI x2, vI x3, vI x4, none], [], [.inl [.ref 1, .ref 2, .ref 3, .ref 4, .ref 5, .ref 6, .ref 7, .ref 8, .ref 9, .ref 10, .ref 11, .ref 12, .ref 13, .ref 14, .ref 15, .null, .null, .null, .null, .int (f_win ob0), .int (f_back ob0), .int (f_repair ob0), .int (f_period ob0), .int (f_nextSeq ob0), .int (f_qLen ob0)], .inr (.inl (.int, (List.replicate 32 0))), .inr (.inl (.boolean, (List.replicate 32 0))), .inr (.inl (.int, (List.replicate 64 0))), .inr (.inl (.int, (List.replicate 10 0))), .inr (.inl (.int, (List.replicate 128 0))), .inr (.inl (.int, (List.replicate 128 0))), .inr (.inl (.int, (List.replicate 128 0))), .inr (.inl (.int, (List.replicate 4 0))), .inr (.inl (.int, (List.replicate 4 0))), .inr (.inl (.int, (List.replicate 4 0))), .inr (.inl (.int, (List.replicate 4 0))), .inr (.inl (.int, (List.replicate 4 0))), .inr (.inl (.int, (List.replicate 4 0))), .inr (.inl (.int, (List.replicate 128 0))), .inr (.inl (.int, (List.replicate 128 0)))])) rfl ?_
  refine QTri.steps Ad W 3 (st' := (127, [some (.ref 0), vI x1, vI x2, vI x3, vI x4, none], [.ref 16, .ref 0], [.inl [.ref 1, .ref 2, .ref 3, .ref 4, .ref 5, .ref 6, .ref 7, .ref 8, .ref 9, .ref 10, .ref 11, .ref 12, .ref 13, .ref 14, .ref 15, .null, .null, .null, .null, .int (f_win ob0), .int (f_back ob0), .int (f_repair ob0), .int (f_period ob0), .int (f_nextSeq ob0), .int (f_qLen ob0)], .inr (.inl (.int, (List.replicate 32 0))), .inr (.inl (.boolean, (List.replicate 32 0))), .inr (.inl (.int, (List.replicate 64 0))), .inr (.inl (.int, (List.replicate 10 0))), .inr (.inl (.int, (List.replicate 128 0))), .inr (.inl (.int, (List.replicate 128 0))), .inr (.inl (.int, (List.replicate 128 0))), .inr (.inl (.int, (List.replicate 4 0))), .inr (.inl (.int, (List.replicate 4 0))), .inr (.inl (.int, (List.replicate 4 0))), .inr (.inl (.int, (List.replicate 4 0))), .inr (.inl (.int, (List.replicate 4 0))), .inr (.inl (.int, (List.replicate 4 0))), .inr (.inl (.int, (List.replicate 128 0))), .inr (.inl (.int, (List.replicate 128 0))), .inr (.inl (.int, (List.replicate 4 0)))])) rfl ?_
  refine QTri.steps Ad W 1 (st' := (130, [some (.ref 0), vI x1, vI x2, vI x3, vI x4, none], [], [.inl [.ref 1, .ref 2, .ref 3, .ref 4, .ref 5, .ref 6, .ref 7, .ref 8, .ref 9, .ref 10, .ref 11, .ref 12, .ref 13, .ref 14, .ref 15, .ref 16, .null, .null, .null, .int (f_win ob0), .int (f_back ob0), .int (f_repair ob0), .int (f_period ob0), .int (f_nextSeq ob0), .int (f_qLen ob0)], .inr (.inl (.int, (List.replicate 32 0))), .inr (.inl (.boolean, (List.replicate 32 0))), .inr (.inl (.int, (List.replicate 64 0))), .inr (.inl (.int, (List.replicate 10 0))), .inr (.inl (.int, (List.replicate 128 0))), .inr (.inl (.int, (List.replicate 128 0))), .inr (.inl (.int, (List.replicate 128 0))), .inr (.inl (.int, (List.replicate 4 0))), .inr (.inl (.int, (List.replicate 4 0))), .inr (.inl (.int, (List.replicate 4 0))), .inr (.inl (.int, (List.replicate 4 0))), .inr (.inl (.int, (List.replicate 4 0))), .inr (.inl (.int, (List.replicate 4 0))), .inr (.inl (.int, (List.replicate 128 0))), .inr (.inl (.int, (List.replicate 128 0))), .inr (.inl (.int, (List.replicate 4 0)))])) rfl ?_
  refine QTri.steps Ad W 3 (st' := (136, [some (.ref 0), vI x1, vI x2, vI x3, vI x4, none], [.ref 17, .ref 0], [.inl [.ref 1, .ref 2, .ref 3, .ref 4, .ref 5, .ref 6, .ref 7, .ref 8, .ref 9, .ref 10, .ref 11, .ref 12, .ref 13, .ref 14, .ref 15, .ref 16, .null, .null, .null, .int (f_win ob0), .int (f_back ob0), .int (f_repair ob0), .int (f_period ob0), .int (f_nextSeq ob0), .int (f_qLen ob0)], .inr (.inl (.int, (List.replicate 32 0))), .inr (.inl (.boolean, (List.replicate 32 0))), .inr (.inl (.int, (List.replicate 64 0))), .inr (.inl (.int, (List.replicate 10 0))), .inr (.inl (.int, (List.replicate 128 0))), .inr (.inl (.int, (List.replicate 128 0))), .inr (.inl (.int, (List.replicate 128 0))), .inr (.inl (.int, (List.replicate 4 0))), .inr (.inl (.int, (List.replicate 4 0))), .inr (.inl (.int, (List.replicate 4 0))), .inr (.inl (.int, (List.replicate 4 0))), .inr (.inl (.int, (List.replicate 4 0))), .inr (.inl (.int, (List.replicate 4 0))), .inr (.inl (.int, (List.replicate 128 0))), .inr (.inl (.int, (List.replicate 128 0))), .inr (.inl (.int, (List.replicate 4 0))), .inr (.inl (.int, (List.replicate 128 0)))])) rfl ?_
  refine QTri.steps Ad W 1 (st' := (139, [some (.ref 0), vI x1, vI x2, vI x3, vI x4, none], [], [.inl [.ref 1, .ref 2, .ref 3, .ref 4, .ref 5, .ref 6, .ref 7, .ref 8, .ref 9, .ref 10, .ref 11, .ref 12, .ref 13, .ref 14, .ref 15, .ref 16, .ref 17, .null, .null, .int (f_win ob0), .int (f_back ob0), .int (f_repair ob0), .int (f_period ob0), .int (f_nextSeq ob0), .int (f_qLen ob0)], .inr (.inl (.int, (List.replicate 32 0))), .inr (.inl (.boolean, (List.replicate 32 0))), .inr (.inl (.int, (List.replicate 64 0))), .inr (.inl (.int, (List.replicate 10 0))), .inr (.inl (.int, (List.replicate 128 0))), .inr (.inl (.int, (List.replicate 128 0))), .inr (.inl (.int, (List.replicate 128 0))), .inr (.inl (.int, (List.replicate 4 0))), .inr (.inl (.int, (List.replicate 4 0))), .inr (.inl (.int, (List.replicate 4 0))), .inr (.inl (.int, (List.replicate 4 0))), .inr (.inl (.int, (List.replicate 4 0))), .inr (.inl (.int, (List.replicate 4 0))), .inr (.inl (.int, (List.replicate 128 0))), .inr (.inl (.int, (List.replicate 128 0))), .inr (.inl (.int, (List.replicate 4 0))), .inr (.inl (.int, (List.replicate 128 0)))])) rfl ?_
  refine QTri.steps Ad W 3 (st' := (143, [some (.ref 0), vI x1, vI x2, vI x3, vI x4, none], [.ref 18, .ref 0], [.inl [.ref 1, .ref 2, .ref 3, .ref 4, .ref 5, .ref 6, .ref 7, .ref 8, .ref 9, .ref 10, .ref 11, .ref 12, .ref 13, .ref 14, .ref 15, .ref 16, .ref 17, .null, .null, .int (f_win ob0), .int (f_back ob0), .int (f_repair ob0), .int (f_period ob0), .int (f_nextSeq ob0), .int (f_qLen ob0)], .inr (.inl (.int, (List.replicate 32 0))), .inr (.inl (.boolean, (List.replicate 32 0))), .inr (.inl (.int, (List.replicate 64 0))), .inr (.inl (.int, (List.replicate 10 0))), .inr (.inl (.int, (List.replicate 128 0))), .inr (.inl (.int, (List.replicate 128 0))), .inr (.inl (.int, (List.replicate 128 0))), .inr (.inl (.int, (List.replicate 4 0))), .inr (.inl (.int, (List.replicate 4 0))), .inr (.inl (.int, (List.replicate 4 0))), .inr (.inl (.int, (List.replicate 4 0))), .inr (.inl (.int, (List.replicate 4 0))), .inr (.inl (.int, (List.replicate 4 0))), .inr (.inl (.int, (List.replicate 128 0))), .inr (.inl (.int, (List.replicate 128 0))), .inr (.inl (.int, (List.replicate 4 0))), .inr (.inl (.int, (List.replicate 128 0))), .inr (.inl (.int, (List.replicate 4 0)))])) rfl ?_
  refine QTri.steps Ad W 1 (st' := (146, [some (.ref 0), vI x1, vI x2, vI x3, vI x4, none], [], [.inl [.ref 1, .ref 2, .ref 3, .ref 4, .ref 5, .ref 6, .ref 7, .ref 8, .ref 9, .ref 10, .ref 11, .ref 12, .ref 13, .ref 14, .ref 15, .ref 16, .ref 17, .ref 18, .null, .int (f_win ob0), .int (f_back ob0), .int (f_repair ob0), .int (f_period ob0), .int (f_nextSeq ob0), .int (f_qLen ob0)], .inr (.inl (.int, (List.replicate 32 0))), .inr (.inl (.boolean, (List.replicate 32 0))), .inr (.inl (.int, (List.replicate 64 0))), .inr (.inl (.int, (List.replicate 10 0))), .inr (.inl (.int, (List.replicate 128 0))), .inr (.inl (.int, (List.replicate 128 0))), .inr (.inl (.int, (List.replicate 128 0))), .inr (.inl (.int, (List.replicate 4 0))), .inr (.inl (.int, (List.replicate 4 0))), .inr (.inl (.int, (List.replicate 4 0))), .inr (.inl (.int, (List.replicate 4 0))), .inr (.inl (.int, (List.replicate 4 0))), .inr (.inl (.int, (List.replicate 4 0))), .inr (.inl (.int, (List.replicate 128 0))), .inr (.inl (.int, (List.replicate 128 0))), .inr (.inl (.int, (List.replicate 4 0))), .inr (.inl (.int, (List.replicate 128 0))), .inr (.inl (.int, (List.replicate 4 0)))])) rfl ?_
  refine QTri.steps Ad W 3 (st' := (152, [some (.ref 0), vI x1, vI x2, vI x3, vI x4, none], [.ref 19, .ref 0], [.inl [.ref 1, .ref 2, .ref 3, .ref 4, .ref 5, .ref 6, .ref 7, .ref 8, .ref 9, .ref 10, .ref 11, .ref 12, .ref 13, .ref 14, .ref 15, .ref 16, .ref 17, .ref 18, .null, .int (f_win ob0), .int (f_back ob0), .int (f_repair ob0), .int (f_period ob0), .int (f_nextSeq ob0), .int (f_qLen ob0)], .inr (.inl (.int, (List.replicate 32 0))), .inr (.inl (.boolean, (List.replicate 32 0))), .inr (.inl (.int, (List.replicate 64 0))), .inr (.inl (.int, (List.replicate 10 0))), .inr (.inl (.int, (List.replicate 128 0))), .inr (.inl (.int, (List.replicate 128 0))), .inr (.inl (.int, (List.replicate 128 0))), .inr (.inl (.int, (List.replicate 4 0))), .inr (.inl (.int, (List.replicate 4 0))), .inr (.inl (.int, (List.replicate 4 0))), .inr (.inl (.int, (List.replicate 4 0))), .inr (.inl (.int, (List.replicate 4 0))), .inr (.inl (.int, (List.replicate 4 0))), .inr (.inl (.int, (List.replicate 128 0))), .inr (.inl (.int, (List.replicate 128 0))), .inr (.inl (.int, (List.replicate 4 0))), .inr (.inl (.int, (List.replicate 128 0))), .inr (.inl (.int, (List.replicate 4 0))), .inr (.inl (.int, (List.replicate 128 0)))])) rfl ?_
  refine QTri.steps Ad W 1 (st' := (155, [some (.ref 0), vI x1, vI x2, vI x3, vI x4, none], [], (H0v (List.replicate 32 0) (List.replicate 32 0) (List.replicate 64 0) (List.replicate 10 0) (List.replicate 128 0) (List.replicate 128 0) (List.replicate 128 0) (List.replicate 4 0) (List.replicate 4 0) (List.replicate 4 0) (List.replicate 4 0) (List.replicate 4 0) (List.replicate 4 0) (List.replicate 128 0) (List.replicate 128 0) (List.replicate 4 0) (List.replicate 128 0) (List.replicate 4 0) (List.replicate 128 0) (f_win ob0) (f_back ob0) (f_repair ob0) (f_period ob0) (f_nextSeq ob0) (f_qLen ob0)))) rfl ?_
  refine QTri.steps Ad W 5 (st' := (161, [some (.ref 0), vI x1, vI x2, vI x3, vI x4, none], [.int (16 : Int32), .int (2 : Int32), .int x1, .ref 0, .ref 0], (H0v (List.replicate 32 0) (List.replicate 32 0) (List.replicate 64 0) (List.replicate 10 0) (List.replicate 128 0) (List.replicate 128 0) (List.replicate 128 0) (List.replicate 4 0) (List.replicate 4 0) (List.replicate 4 0) (List.replicate 4 0) (List.replicate 4 0) (List.replicate 4 0) (List.replicate 128 0) (List.replicate 128 0) (List.replicate 4 0) (List.replicate 128 0) (List.replicate 4 0) (List.replicate 128 0) (f_win ob0) (f_back ob0) (f_repair ob0) (f_period ob0) (f_nextSeq ob0) (f_qLen ob0)))) rfl ?_
  obtain ⟨r3, hr3, h⟩ := Option.bind_eq_some_iff.mp h
  refine QTri.callP W (a := 0) (as := [.int x1, .int (2 : Int32), .int (16 : Int32)]) (rest := [.ref 0]) (w := (some (.int r3))) (σ₁ := (H0v (List.replicate 32 0) (List.replicate 32 0) (List.replicate 64 0) (List.replicate 10 0) (List.replicate 128 0) (List.replicate 128 0) (List.replicate 128 0) (List.replicate 4 0) (List.replicate 4 0) (List.replicate 4 0) (List.replicate 4 0) (List.replicate 4 0) (List.replicate 4 0) (List.replicate 128 0) (List.replicate 128 0) (List.replicate 4 0) (List.replicate 128 0) (List.replicate 4 0) (List.replicate 128 0) (f_win ob0) (f_back ob0) (f_repair ob0) (f_period ob0) (f_nextSeq ob0) (f_qLen ob0))) rfl rfl rfl rfl rfl rfl rfl rfl (tF2 Ad W x1 (2 : Int32) (16 : Int32) hr3) ?_
  refine QTri.steps Ad W 1 (st' := (167, [some (.ref 0), vI x1, vI x2, vI x3, vI x4, none], [], (H0v (List.replicate 32 0) (List.replicate 32 0) (List.replicate 64 0) (List.replicate 10 0) (List.replicate 128 0) (List.replicate 128 0) (List.replicate 128 0) (List.replicate 4 0) (List.replicate 4 0) (List.replicate 4 0) (List.replicate 4 0) (List.replicate 4 0) (List.replicate 4 0) (List.replicate 128 0) (List.replicate 128 0) (List.replicate 4 0) (List.replicate 128 0) (List.replicate 4 0) (List.replicate 128 0) r3 (f_back ob0) (f_repair ob0) (f_period ob0) (f_nextSeq ob0) (f_qLen ob0)))) rfl ?_
  refine QTri.steps Ad W 5 (st' := (173, [some (.ref 0), vI x1, vI x2, vI x3, vI x4, none], [.int (8 : Int32), .int (1 : Int32), .int x2, .ref 0, .ref 0], (H0v (List.replicate 32 0) (List.replicate 32 0) (List.replicate 64 0) (List.replicate 10 0) (List.replicate 128 0) (List.replicate 128 0) (List.replicate 128 0) (List.replicate 4 0) (List.replicate 4 0) (List.replicate 4 0) (List.replicate 4 0) (List.replicate 4 0) (List.replicate 4 0) (List.replicate 128 0) (List.replicate 128 0) (List.replicate 4 0) (List.replicate 128 0) (List.replicate 4 0) (List.replicate 128 0) r3 (f_back ob0) (f_repair ob0) (f_period ob0) (f_nextSeq ob0) (f_qLen ob0)))) rfl ?_
  obtain ⟨r4, hr4, h⟩ := Option.bind_eq_some_iff.mp h
  refine QTri.callP W (a := 0) (as := [.int x2, .int (1 : Int32), .int (8 : Int32)]) (rest := [.ref 0]) (w := (some (.int r4))) (σ₁ := (H0v (List.replicate 32 0) (List.replicate 32 0) (List.replicate 64 0) (List.replicate 10 0) (List.replicate 128 0) (List.replicate 128 0) (List.replicate 128 0) (List.replicate 4 0) (List.replicate 4 0) (List.replicate 4 0) (List.replicate 4 0) (List.replicate 4 0) (List.replicate 4 0) (List.replicate 128 0) (List.replicate 128 0) (List.replicate 4 0) (List.replicate 128 0) (List.replicate 4 0) (List.replicate 128 0) r3 (f_back ob0) (f_repair ob0) (f_period ob0) (f_nextSeq ob0) (f_qLen ob0))) rfl rfl rfl rfl rfl rfl rfl rfl (tF2 Ad W x2 (1 : Int32) (8 : Int32) hr4) ?_
  refine QTri.steps Ad W 1 (st' := (179, [some (.ref 0), vI x1, vI x2, vI x3, vI x4, none], [], (H0v (List.replicate 32 0) (List.replicate 32 0) (List.replicate 64 0) (List.replicate 10 0) (List.replicate 128 0) (List.replicate 128 0) (List.replicate 128 0) (List.replicate 4 0) (List.replicate 4 0) (List.replicate 4 0) (List.replicate 4 0) (List.replicate 4 0) (List.replicate 4 0) (List.replicate 128 0) (List.replicate 128 0) (List.replicate 4 0) (List.replicate 128 0) (List.replicate 4 0) (List.replicate 128 0) r3 r4 (f_repair ob0) (f_period ob0) (f_nextSeq ob0) (f_qLen ob0)))) rfl ?_
  refine QTri.steps Ad W 5 (st' := (185, [some (.ref 0), vI x1, vI x2, vI x3, vI x4, none], [.int (8 : Int32), .int (1 : Int32), .int x3, .ref 0, .ref 0], (H0v (List.replicate 32 0) (List.replicate 32 0) (List.replicate 64 0) (List.replicate 10 0) (List.replicate 128 0) (List.replicate 128 0) (List.replicate 128 0) (List.replicate 4 0) (List.replicate 4 0) (List.replicate 4 0) (List.replicate 4 0) (List.replicate 4 0) (List.replicate 4 0) (List.replicate 128 0) (List.replicate 128 0) (List.replicate 4 0) (List.replicate 128 0) (List.replicate 4 0) (List.replicate 128 0) r3 r4 (f_repair ob0) (f_period ob0) (f_nextSeq ob0) (f_qLen ob0)))) rfl ?_
  obtain ⟨r5, hr5, h⟩ := Option.bind_eq_some_iff.mp h
  refine QTri.callP W (a := 0) (as := [.int x3, .int (1 : Int32), .int (8 : Int32)]) (rest := [.ref 0]) (w := (some (.int r5))) (σ₁ := (H0v (List.replicate 32 0) (List.replicate 32 0) (List.replicate 64 0) (List.replicate 10 0) (List.replicate 128 0) (List.replicate 128 0) (List.replicate 128 0) (List.replicate 4 0) (List.replicate 4 0) (List.replicate 4 0) (List.replicate 4 0) (List.replicate 4 0) (List.replicate 4 0) (List.replicate 128 0) (List.replicate 128 0) (List.replicate 4 0) (List.replicate 128 0) (List.replicate 4 0) (List.replicate 128 0) r3 r4 (f_repair ob0) (f_period ob0) (f_nextSeq ob0) (f_qLen ob0))) rfl rfl rfl rfl rfl rfl rfl rfl (tF2 Ad W x3 (1 : Int32) (8 : Int32) hr5) ?_
  refine QTri.steps Ad W 1 (st' := (191, [some (.ref 0), vI x1, vI x2, vI x3, vI x4, none], [], (H0v (List.replicate 32 0) (List.replicate 32 0) (List.replicate 64 0) (List.replicate 10 0) (List.replicate 128 0) (List.replicate 128 0) (List.replicate 128 0) (List.replicate 4 0) (List.replicate 4 0) (List.replicate 4 0) (List.replicate 4 0) (List.replicate 4 0) (List.replicate 4 0) (List.replicate 128 0) (List.replicate 128 0) (List.replicate 4 0) (List.replicate 128 0) (List.replicate 4 0) (List.replicate 128 0) r3 r4 r5 (f_period ob0) (f_nextSeq ob0) (f_qLen ob0)))) rfl ?_
  refine QTri.steps Ad W 5 (st' := (198, [some (.ref 0), vI x1, vI x2, vI x3, vI x4, none], [.int (16 : Int32), .int (0 : Int32), .int x4, .ref 0, .ref 0], (H0v (List.replicate 32 0) (List.replicate 32 0) (List.replicate 64 0) (List.replicate 10 0) (List.replicate 128 0) (List.replicate 128 0) (List.replicate 128 0) (List.replicate 4 0) (List.replicate 4 0) (List.replicate 4 0) (List.replicate 4 0) (List.replicate 4 0) (List.replicate 4 0) (List.replicate 128 0) (List.replicate 128 0) (List.replicate 4 0) (List.replicate 128 0) (List.replicate 4 0) (List.replicate 128 0) r3 r4 r5 (f_period ob0) (f_nextSeq ob0) (f_qLen ob0)))) rfl ?_
  obtain ⟨r6, hr6, h⟩ := Option.bind_eq_some_iff.mp h
  refine QTri.callP W (a := 0) (as := [.int x4, .int (0 : Int32), .int (16 : Int32)]) (rest := [.ref 0]) (w := (some (.int r6))) (σ₁ := (H0v (List.replicate 32 0) (List.replicate 32 0) (List.replicate 64 0) (List.replicate 10 0) (List.replicate 128 0) (List.replicate 128 0) (List.replicate 128 0) (List.replicate 4 0) (List.replicate 4 0) (List.replicate 4 0) (List.replicate 4 0) (List.replicate 4 0) (List.replicate 4 0) (List.replicate 128 0) (List.replicate 128 0) (List.replicate 4 0) (List.replicate 128 0) (List.replicate 4 0) (List.replicate 128 0) r3 r4 r5 (f_period ob0) (f_nextSeq ob0) (f_qLen ob0))) rfl rfl rfl rfl rfl rfl rfl rfl (tF2 Ad W x4 (0 : Int32) (16 : Int32) hr6) ?_
  refine QTri.steps Ad W 1 (st' := (204, [some (.ref 0), vI x1, vI x2, vI x3, vI x4, none], [], (H0v (List.replicate 32 0) (List.replicate 32 0) (List.replicate 64 0) (List.replicate 10 0) (List.replicate 128 0) (List.replicate 128 0) (List.replicate 128 0) (List.replicate 4 0) (List.replicate 4 0) (List.replicate 4 0) (List.replicate 4 0) (List.replicate 4 0) (List.replicate 4 0) (List.replicate 128 0) (List.replicate 128 0) (List.replicate 4 0) (List.replicate 128 0) (List.replicate 4 0) (List.replicate 128 0) r3 r4 r5 r6 (f_nextSeq ob0) (f_qLen ob0)))) rfl ?_
  refine QTri.steps Ad W 2 (st' := (207, [some (.ref 0), vI x1, vI x2, vI x3, vI x4, vI (0 : Int32)], [], (H0v (List.replicate 32 0) (List.replicate 32 0) (List.replicate 64 0) (List.replicate 10 0) (List.replicate 128 0) (List.replicate 128 0) (List.replicate 128 0) (List.replicate 4 0) (List.replicate 4 0) (List.replicate 4 0) (List.replicate 4 0) (List.replicate 4 0) (List.replicate 4 0) (List.replicate 128 0) (List.replicate 128 0) (List.replicate 4 0) (List.replicate 128 0) (List.replicate 4 0) (List.replicate 128 0) r3 r4 r5 r6 (f_nextSeq ob0) (f_qLen ob0)))) rfl ?_
  have E7 : ((H0v (List.replicate 32 0) (List.replicate 32 0) (List.replicate 64 0) (List.replicate 10 0) (List.replicate 128 0) (List.replicate 128 0) (List.replicate 128 0) (List.replicate 4 0) (List.replicate 4 0) (List.replicate 4 0) (List.replicate 4 0) (List.replicate 4 0) (List.replicate 4 0) (List.replicate 128 0) (List.replicate 128 0) (List.replicate 4 0) (List.replicate 128 0) (List.replicate 4 0) (List.replicate 128 0) r3 r4 r5 r6 (f_nextSeq ob0) (f_qLen ob0)) : QHeap) = (H0 (s_period (s_repair (s_back (s_win (s_nakBuf (s_lostLen (s_lostLog (s_delLen (s_delVal (s_delSeq (s_drops (s_dups (s_lossLeft (s_rxTrail (s_rxLead (s_rxNext (s_rxVal (s_timer (s_state (s_stats (s_queue (s_pend (s_srcPayload ob0 (List.replicate 32 0)) (List.replicate 32 0)) (List.replicate 64 0)) (List.replicate 10 0)) (List.replicate 128 0)) (List.replicate 128 0)) (List.replicate 128 0)) (List.replicate 4 0)) (List.replicate 4 0)) (List.replicate 4 0)) (List.replicate 4 0)) (List.replicate 4 0)) (List.replicate 4 0)) (List.replicate 128 0)) (List.replicate 128 0)) (List.replicate 4 0)) (List.replicate 128 0)) (List.replicate 4 0)) (List.replicate 128 0)) r3) r4) r5) r6)) := by dsimp only [H0, H0v, f_srcPayload, f_pend, f_queue, f_stats, f_state, f_timer, f_rxVal, f_rxNext, f_rxLead, f_rxTrail, f_lossLeft, f_dups, f_drops, f_delSeq, f_delVal, f_delLen, f_lostLog, f_lostLen, f_nakBuf, f_win, f_back, f_repair, f_period, f_nextSeq, f_qLen, s_srcPayload, s_pend, s_queue, s_stats, s_state, s_timer, s_rxVal, s_rxNext, s_rxLead, s_rxTrail, s_lossLeft, s_dups, s_drops, s_delSeq, s_delVal, s_delLen, s_lostLog, s_lostLen, s_nakBuf, s_win, s_back, s_repair, s_period, ob0]
  rw [E7]
  obtain ⟨e11, he11, h⟩ := Option.bind_eq_some_iff.mp h
  refine QTri.mask [true, false, false, false, false, true] (loopN_tri (B := B1_207) (T := fun lv12 => QTri l Z n0 ad 1 (207, [some (.ref 0), none, none, none, none, vI lv12.1], [], (H0 lv12.2)) (none : Option Value) (H0 r)) (KE := fun e11a => (none : Option Value) = (none : Option Value) ∧ (H0 r) = (H0 e11a)) (fun lv12 r hB hE hC => tB1_207 Ad W  lv12 hB (fun x q => hE _ q) (fun x q => hC x q)) qN ((0 : Int32), (s_period (s_repair (s_back (s_win (s_nakBuf (s_lostLen (s_lostLog (s_delLen (s_delVal (s_delSeq (s_drops (s_dups (s_lossLeft (s_rxTrail (s_rxLead (s_rxNext (s_rxVal (s_timer (s_state (s_stats (s_queue (s_pend (s_srcPayload ob0 (List.replicate 32 0)) (List.replicate 32 0)) (List.replicate 64 0)) (List.replicate 10 0)) (List.replicate 128 0)) (List.replicate 128 0)) (List.replicate 128 0)) (List.replicate 4 0)) (List.replicate 4 0)) (List.replicate 4 0)) (List.replicate 4 0)) (List.replicate 4 0)) (List.replicate 4 0)) (List.replicate 128 0)) (List.replicate 128 0)) (List.replicate 4 0)) (List.replicate 128 0)) (List.replicate 4 0)) (List.replicate 128 0)) r3) r4) r5) r6)) e11 he11 ?_)
  obtain rfl := Option.some.inj h
  exact ⟨rfl, rfl⟩
/-- validRx(I)Z -/
def F4 (x1 : Int32) : Option (Int32) :=
  (if x1 < (0 : Int32) then some (0 : Int32) else (if x1 < (4 : Int32) then some (1 : Int32) else some (0 : Int32)))
theorem tF4 (Ad : QAd n0 ad) (W : QW Z a0) {a : Nat} {σ : QHeap} (x1 : Int32) {r : Int32} (h : F4 x1 = some r) : QTri l Z n0 ad 4 (0, qentry [.ref a, .int x1] (pMaxL 4), [], σ) (some (Value.int r)) σ := by
  unfold F4 at h
  refine QTri.steps Ad W 1 (st' := (1, [some (.ref a), vI x1], [.int x1], σ)) rfl ?_
  rcases qite h with ⟨hc26, h⟩ | ⟨hc26, h⟩
  · refine QTri.brT Ad W (t := 13) (f := 4) (L := [some (.ref a), vI x1]) (S := []) (σ := σ) rfl (XT.i0_lt_t hc26) ?_
    refine QTri.steps Ad W 1 (st' := (14, [some (.ref a), vI x1], [.int (0 : Int32)], σ)) rfl ?_
    obtain rfl := Option.some.inj h
    exact QTri.retZ rfl rfl
  · refine QTri.brF Ad W (t := 13) (f := 4) (L := [some (.ref a), vI x1]) (S := []) (σ := σ) rfl (XT.i0_lt_f hc26) ?_
    refine QTri.steps Ad W 2 (st' := (6, [some (.ref a), vI x1], [.int (4 : Int32), .int x1], σ)) rfl ?_
    rcases qite h with ⟨hc27, h⟩ | ⟨hc27, h⟩
    · refine QTri.brF Ad W (t := 13) (f := 9) (L := [some (.ref a), vI x1]) (S := []) (σ := σ) rfl (XT.ii_ge_f hc27) ?_
      refine QTri.steps Ad W 2 (st' := (14, [some (.ref a), vI x1], [.int (1 : Int32)], σ)) rfl ?_
      obtain rfl := Option.some.inj h
      exact QTri.retZ rfl rfl
    · refine QTri.brT Ad W (t := 13) (f := 9) (L := [some (.ref a), vI x1]) (S := []) (σ := σ) rfl (XT.ii_ge_t hc27) ?_
      refine QTri.steps Ad W 1 (st' := (14, [some (.ref a), vI x1], [.int (0 : Int32)], σ)) rfl ?_
      obtain rfl := Option.some.inj h
      exact QTri.retZ rfl rfl
/-- setLoss(II)Z -/
def F3 (o : Ob) (x1 : Int32) (x2 : Int32) : Option (Int32 × Ob) :=
  (F4 x1).bind fun r28 => (if r28 = (0 : Int32) then some ((0 : Int32), o) else (F2 x2 (0 : Int32) (255 : Int32)).bind fun r30 => (aset (f_lossLeft o) x1 r30).bind fun y31 => some ((1 : Int32), (s_lossLeft o y31)))
theorem tF3 (Ad : QAd n0 ad) (W : QW Z a0) (o : Ob) (x1 : Int32) (x2 : Int32) {r : Int32 × Ob} (h : F3 o x1 x2 = some r) : QTri l Z n0 ad 3 (0, qentry [.ref 0, .int x1, .int x2] (pMaxL 3), [], (H0 o)) (some (Value.int r.1)) (H0 r.2) := by
  unfold F3 at h
  refine QTri.steps Ad W 2 (st' := (2, [some (.ref 0), vI x1, vI x2], [.int x1, .ref 0], (H0 o))) rfl ?_
  obtain ⟨r28, hr28, h⟩ := Option.bind_eq_some_iff.mp h
  refine QTri.callP W (a := 0) (as := [.int x1]) (rest := []) (w := (some (.int r28))) (σ₁ := (H0 o)) rfl rfl rfl rfl rfl rfl rfl rfl (tF4 Ad W x1 hr28) ?_
  rcases qite h with ⟨hc29, h⟩ | ⟨hc29, h⟩
  · refine QTri.brF Ad W (t := 10) (f := 8) (L := [some (.ref 0), vI x1, vI x2]) (S := []) (σ := (H0 o)) rfl (XT.i0_ne_f hc29) ?_
    refine QTri.steps Ad W 1 (st' := (9, [some (.ref 0), vI x1, vI x2], [.int (0 : Int32)], (H0 o))) rfl ?_
    obtain rfl := Option.some.inj h
    exact QTri.retZ rfl rfl
  · refine QTri.brT Ad W (t := 10) (f := 8) (L := [some (.ref 0), vI x1, vI x2]) (S := []) (σ := (H0 o)) rfl (XT.i0_ne_t hc29) ?_
    refine QTri.steps Ad W 7 (st' := (21, [some (.ref 0), vI x1, vI x2], [.int (255 : Int32), .int (0 : Int32), .int x2, .ref 0, .int x1, .ref 11], (H0 o))) rfl ?_
    obtain ⟨r30, hr30, h⟩ := Option.bind_eq_some_iff.mp h
    refine QTri.callP W (a := 0) (as := [.int x2, .int (0 : Int32), .int (255 : Int32)]) (rest := [.int x1, .ref 11]) (w := (some (.int r30))) (σ₁ := (H0 o)) rfl rfl rfl rfl rfl rfl rfl rfl (tF2 Ad W x2 (0 : Int32) (255 : Int32) hr30) ?_
    obtain ⟨y31, hy31, h⟩ := Option.bind_eq_some_iff.mp h
    refine QTri.bnd Ad W (f := fun y31 => (25, [some (.ref 0), vI x1, vI x2], [], (H0v (f_srcPayload o) (f_pend o) (f_queue o) (f_stats o) (f_state o) (f_timer o) (f_rxVal o) (f_rxNext o) (f_rxLead o) (f_rxTrail o) y31 (f_dups o) (f_drops o) (f_delSeq o) (f_delVal o) (f_delLen o) (f_lostLog o) (f_lostLen o) (f_nakBuf o) (f_win o) (f_back o) (f_repair o) (f_period o) (f_nextSeq o) (f_qLen o)))) rfl hy31 ?_
    refine QTri.steps Ad W 1 (st' := (26, [some (.ref 0), vI x1, vI x2], [.int (1 : Int32)], (H0v (f_srcPayload o) (f_pend o) (f_queue o) (f_stats o) (f_state o) (f_timer o) (f_rxVal o) (f_rxNext o) (f_rxLead o) (f_rxTrail o) y31 (f_dups o) (f_drops o) (f_delSeq o) (f_delVal o) (f_delLen o) (f_lostLog o) (f_lostLen o) (f_nakBuf o) (f_win o) (f_back o) (f_repair o) (f_period o) (f_nextSeq o) (f_qLen o)))) rfl ?_
    have E32 : ((H0v (f_srcPayload o) (f_pend o) (f_queue o) (f_stats o) (f_state o) (f_timer o) (f_rxVal o) (f_rxNext o) (f_rxLead o) (f_rxTrail o) y31 (f_dups o) (f_drops o) (f_delSeq o) (f_delVal o) (f_delLen o) (f_lostLog o) (f_lostLen o) (f_nakBuf o) (f_win o) (f_back o) (f_repair o) (f_period o) (f_nextSeq o) (f_qLen o)) : QHeap) = (H0 (s_lossLeft o y31)) := by dsimp only [H0, H0v, f_srcPayload, f_pend, f_queue, f_stats, f_state, f_timer, f_rxVal, f_rxNext, f_rxLead, f_rxTrail, f_lossLeft, f_dups, f_drops, f_delSeq, f_delVal, f_delLen, f_lostLog, f_lostLen, f_nakBuf, f_win, f_back, f_repair, f_period, f_nextSeq, f_qLen, s_lossLeft]
    rw [E32]
    obtain rfl := Option.some.inj h
    exact QTri.retZ rfl rfl
/-- lead()I -/
def F7 (o : Ob) : Option (Int32) :=
  some ((f_nextSeq o) - (1 : Int32))
theorem tF7 (Ad : QAd n0 ad) (W : QW Z a0) (o : Ob) {r : Int32} (h : F7 o = some r) : QTri l Z n0 ad 7 (0, qentry [.ref 0] (pMaxL 7), [], (H0 o)) (some (Value.int r)) (H0 o) := by
  unfold F7 at h
  refine QTri.steps Ad W 4 (st' := (6, [some (.ref 0)], [.int ((f_nextSeq o) - (1 : Int32))], (H0 o))) rfl ?_
  obtain rfl := Option.some.inj h
  exact QTri.retI rfl rfl
/-- trail()I -/
def F8 (o : Ob) : Option (Int32) :=
  (if ((f_nextSeq o) - (f_win o)) < (0 : Int32) then some (0 : Int32) else some ((f_nextSeq o) - (f_win o)))
theorem tF8 (Ad : QAd n0 ad) (W : QW Z a0) (o : Ob) {r : Int32} (h : F8 o = some r) : QTri l Z n0 ad 8 (0, qentry [.ref 0] (pMaxL 8), [], (H0 o)) (some (Value.int r)) (H0 o) := by
  unfold F8 at h
  refine QTri.steps Ad W 7 (st' := (11, [some (.ref 0), vI ((f_nextSeq o) - (f_win o))], [.int ((f_nextSeq o) - (f_win o))], (H0 o))) rfl ?_
  rcases qite h with ⟨hc43, h⟩ | ⟨hc43, h⟩
  · refine QTri.brF Ad W (t := 16) (f := 14) (L := [some (.ref 0), vI ((f_nextSeq o) - (f_win o))]) (S := []) (σ := (H0 o)) rfl (XT.i0_ge_f hc43) ?_
    refine QTri.steps Ad W 1 (st' := (15, [some (.ref 0), vI ((f_nextSeq o) - (f_win o))], [.int (0 : Int32)], (H0 o))) rfl ?_
    obtain rfl := Option.some.inj h
    exact QTri.retI rfl rfl
  · refine QTri.brT Ad W (t := 16) (f := 14) (L := [some (.ref 0), vI ((f_nextSeq o) - (f_win o))]) (S := []) (σ := (H0 o)) rfl (XT.i0_ge_t hc43) ?_
    refine QTri.steps Ad W 1 (st' := (17, [some (.ref 0), vI ((f_nextSeq o) - (f_win o))], [.int ((f_nextSeq o) - (f_win o))], (H0 o))) rfl ?_
    obtain rfl := Option.some.inj h
    exact QTri.retI rfl rfl
/-- validSeq(I)Z -/
def F12 (x1 : Int32) : Option (Int32) :=
  (if x1 < (0 : Int32) then some (0 : Int32) else (if x1 < (32 : Int32) then some (1 : Int32) else some (0 : Int32)))
theorem tF12 (Ad : QAd n0 ad) (W : QW Z a0) {a : Nat} {σ : QHeap} (x1 : Int32) {r : Int32} (h : F12 x1 = some r) : QTri l Z n0 ad 12 (0, qentry [.ref a, .int x1] (pMaxL 12), [], σ) (some (Value.int r)) σ := by
  unfold F12 at h
  refine QTri.steps Ad W 1 (st' := (1, [some (.ref a), vI x1], [.int x1], σ)) rfl ?_
  rcases qite h with ⟨hc46, h⟩ | ⟨hc46, h⟩
  · refine QTri.brT Ad W (t := 14) (f := 4) (L := [some (.ref a), vI x1]) (S := []) (σ := σ) rfl (XT.i0_lt_t hc46) ?_
    refine QTri.steps Ad W 1 (st' := (15, [some (.ref a), vI x1], [.int (0 : Int32)], σ)) rfl ?_
    obtain rfl := Option.some.inj h
    exact QTri.retZ rfl rfl
  · refine QTri.brF Ad W (t := 14) (f := 4) (L := [some (.ref a), vI x1]) (S := []) (σ := σ) rfl (XT.i0_lt_f hc46) ?_
    refine QTri.steps Ad W 2 (st' := (7, [some (.ref a), vI x1], [.int (32 : Int32), .int x1], σ)) rfl ?_
    rcases qite h with ⟨hc47, h⟩ | ⟨hc47, h⟩
    · refine QTri.brF Ad W (t := 14) (f := 10) (L := [some (.ref a), vI x1]) (S := []) (σ := σ) rfl (XT.ii_ge_f hc47) ?_
      refine QTri.steps Ad W 2 (st' := (15, [some (.ref a), vI x1], [.int (1 : Int32)], σ)) rfl ?_
      obtain rfl := Option.some.inj h
      exact QTri.retZ rfl rfl
    · refine QTri.brT Ad W (t := 14) (f := 10) (L := [some (.ref a), vI x1]) (S := []) (σ := σ) rfl (XT.ii_ge_t hc47) ?_
      refine QTri.steps Ad W 1 (st' := (15, [some (.ref a), vI x1], [.int (0 : Int32)], σ)) rfl ?_
      obtain rfl := Option.some.inj h
      exact QTri.retZ rfl rfl
def B9_23 (x3 : Int32) (v : Int32 × Ob) : Option (((Ob)) ⊕ (Int32 × Ob)) :=
  (if v.1 < x3 then (if v.1 < (32 : Int32) then (aset (f_pend v.2) v.1 (0 : Int32)).bind fun y52 => some (.inr ((v.1 + (1 : Int32)), (s_pend v.2 y52))) else some (.inl v.2)) else some (.inl v.2))
theorem tB9_23 (Ad : QAd n0 ad) (W : QW Z a0) (x3 : Int32) (v : Int32 × Ob) {r : ((Ob)) ⊕ (Int32 × Ob)} {u : Option Value} {τ : QHeap} (h : B9_23 x3 v = some r) (hx0 : ∀ x : Ob, r = .inl x → u = (none : Option Value) ∧ τ = (H0 x)) (hc : ∀ x : Int32 × Ob, r = .inr x → QTri l Z n0 ad 9 (23, [some (.ref 0), none, none, vI x3, vI x.1], [], (H0 x.2)) u τ) : QTri l Z n0 ad 9 (23, [some (.ref 0), none, none, vI x3, vI v.1], [], (H0 v.2)) u τ := by
  unfold B9_23 at h
  refine QTri.steps Ad W 2 (st' := (26, [some (.ref 0), none, none, vI x3, vI v.1], [.int x3, .int v.1], (H0 v.2))) rfl ?_
  rcases qite h with ⟨hc50, h⟩ | ⟨hc50, h⟩
  · refine QTri.brF Ad W (t := 50) (f := 29) (L := [some (.ref 0), none, none, vI x3, vI v.1]) (S := []) (σ := (H0 v.2)) rfl (XT.ii_ge_f hc50) ?_
    refine QTri.steps Ad W 2 (st' := (33, [some (.ref 0), none, none, vI x3, vI v.1], [.int (32 : Int32), .int v.1], (H0 v.2))) rfl ?_
    rcases qite h with ⟨hc51, h⟩ | ⟨hc51, h⟩
    · refine QTri.brF Ad W (t := 50) (f := 36) (L := [some (.ref 0), none, none, vI x3, vI v.1]) (S := []) (σ := (H0 v.2)) rfl (XT.ii_ge_f hc51) ?_
      refine QTri.steps Ad W 4 (st' := (43, [some (.ref 0), none, none, vI x3, vI v.1], [.int (0 : Int32), .int v.1, .ref 2], (H0 v.2))) rfl ?_
      obtain ⟨y52, hy52, h⟩ := Option.bind_eq_some_iff.mp h
      refine QTri.bnd Ad W (f := fun y52 => (44, [some (.ref 0), none, none, vI x3, vI v.1], [], (H0v (f_srcPayload v.2) y52 (f_queue v.2) (f_stats v.2) (f_state v.2) (f_timer v.2) (f_rxVal v.2) (f_rxNext v.2) (f_rxLead v.2) (f_rxTrail v.2) (f_lossLeft v.2) (f_dups v.2) (f_drops v.2) (f_delSeq v.2) (f_delVal v.2) (f_delLen v.2) (f_lostLog v.2) (f_lostLen v.2) (f_nakBuf v.2) (f_win v.2) (f_back v.2) (f_repair v.2) (f_period v.2) (f_nextSeq v.2) (f_qLen v.2)))) rfl hy52 ?_
      refine QTri.steps Ad W 2 (st' := (23, [some (.ref 0), none, none, vI x3, vI (v.1 + (1 : Int32))], [], (H0v (f_srcPayload v.2) y52 (f_queue v.2) (f_stats v.2) (f_state v.2) (f_timer v.2) (f_rxVal v.2) (f_rxNext v.2) (f_rxLead v.2) (f_rxTrail v.2) (f_lossLeft v.2) (f_dups v.2) (f_drops v.2) (f_delSeq v.2) (f_delVal v.2) (f_delLen v.2) (f_lostLog v.2) (f_lostLen v.2) (f_nakBuf v.2) (f_win v.2) (f_back v.2) (f_repair v.2) (f_period v.2) (f_nextSeq v.2) (f_qLen v.2)))) rfl ?_
      have E53 : ((H0v (f_srcPayload v.2) y52 (f_queue v.2) (f_stats v.2) (f_state v.2) (f_timer v.2) (f_rxVal v.2) (f_rxNext v.2) (f_rxLead v.2) (f_rxTrail v.2) (f_lossLeft v.2) (f_dups v.2) (f_drops v.2) (f_delSeq v.2) (f_delVal v.2) (f_delLen v.2) (f_lostLog v.2) (f_lostLen v.2) (f_nakBuf v.2) (f_win v.2) (f_back v.2) (f_repair v.2) (f_period v.2) (f_nextSeq v.2) (f_qLen v.2)) : QHeap) = (H0 (s_pend v.2 y52)) := by dsimp only [H0, H0v, f_srcPayload, f_pend, f_queue, f_stats, f_state, f_timer, f_rxVal, f_rxNext, f_rxLead, f_rxTrail, f_lossLeft, f_dups, f_drops, f_delSeq, f_delVal, f_delLen, f_lostLog, f_lostLen, f_nakBuf, f_win, f_back, f_repair, f_period, f_nextSeq, f_qLen, s_pend]
      rw [E53]
      obtain rfl := Option.some.inj h
      exact QTri.mask [true, false, false, true, true] (hc ((v.1 + (1 : Int32)), (s_pend v.2 y52)) rfl)
    · refine QTri.brT Ad W (t := 50) (f := 36) (L := [some (.ref 0), none, none, vI x3, vI v.1]) (S := []) (σ := (H0 v.2)) rfl (XT.ii_ge_t hc51) ?_
      obtain rfl := Option.some.inj h
      obtain ⟨rfl, rfl⟩ := hx0 v.2 rfl
      exact QTri.ret0 rfl rfl
  · refine QTri.brT Ad W (t := 50) (f := 29) (L := [some (.ref 0), none, none, vI x3, vI v.1]) (S := []) (σ := (H0 v.2)) rfl (XT.ii_ge_t hc50) ?_
    obtain rfl := Option.some.inj h
    obtain ⟨rfl, rfl⟩ := hx0 v.2 rfl
    exact QTri.ret0 rfl rfl
def J9_20 (o : Ob) (x3 : Int32) : Option (Ob) :=
  (loopN (B9_23 x3) qN ((0 : Int32), o)).bind fun e54 => some e54
theorem tJ9_20 (Ad : QAd n0 ad) (W : QW Z a0) (o : Ob) (x3 : Int32) {r : Ob} (h : J9_20 o x3 = some r) : QTri l Z n0 ad 9 (20, [some (.ref 0), none, none, vI x3, none], [], (H0 o)) (none : Option Value) (H0 r) := by
  unfold J9_20 at h
  refine QTri.steps Ad W 2 (st' := (23, [some (.ref 0), none, none, vI x3, vI (0 : Int32)], [], (H0 o))) rfl ?_
  obtain ⟨e54, he54, h⟩ := Option.bind_eq_some_iff.mp h
  refine QTri.mask [true, false, false, true, true] (loopN_tri (B := B9_23 x3) (T := fun lv55 => QTri l Z n0 ad 9 (23, [some (.ref 0), none, none, vI x3, vI lv55.1], [], (H0 lv55.2)) (none : Option Value) (H0 r)) (KE := fun e54a => (none : Option Value) = (none : Option Value) ∧ (H0 r) = (H0 e54a)) (fun lv55 r hB hE hC => tB9_23 Ad W x3 lv55 hB (fun x q => hE _ q) (fun x q => hC x q)) qN ((0 : Int32), o) e54 he54 ?_)
  obtain rfl := Option.some.inj h
  exact ⟨rfl, rfl⟩
/-- aggregatorApply(III)V -/
def F9 (o : Ob) (x1 : Int32) (x2 : Int32) (x3 : Int32) : Option (Ob) :=
  (if x1 = (1 : Int32) then (F12 x2).bind fun r48 => (if r48 = (0 : Int32) then (J9_20 o x3) else (aset (f_pend o) x2 (0 : Int32)).bind fun y56 => (J9_20 (s_pend o y56) x3)) else (J9_20 o x3))
theorem tF9 (Ad : QAd n0 ad) (W : QW Z a0) (o : Ob) (x1 : Int32) (x2 : Int32) (x3 : Int32) {r : Ob} (h : F9 o x1 x2 x3 = some r) : QTri l Z n0 ad 9 (0, qentry [.ref 0, .int x1, .int x2, .int x3] (pMaxL 9), [], (H0 o)) (none : Option Value) (H0 r) := by
  unfold F9 at h
  refine QTri.steps Ad W 2 (st' := (2, [some (.ref 0), vI x1, vI x2, vI x3, none], [.int (1 : Int32), .int x1], (H0 o))) rfl ?_
  rcases qite h with ⟨hc45, h⟩ | ⟨hc45, h⟩
  · refine QTri.brF Ad W (t := 20) (f := 5) (L := [some (.ref 0), vI x1, vI x2, vI x3, none]) (S := []) (σ := (H0 o)) rfl (XT.ii_ne_f hc45) ?_
    refine QTri.steps Ad W 2 (st' := (7, [some (.ref 0), vI x1, vI x2, vI x3, none], [.int x2, .ref 0], (H0 o))) rfl ?_
    obtain ⟨r48, hr48, h⟩ := Option.bind_eq_some_iff.mp h
    refine QTri.callP W (a := 0) (as := [.int x2]) (rest := []) (w := (some (.int r48))) (σ₁ := (H0 o)) rfl rfl rfl rfl rfl rfl rfl rfl (tF12 Ad W x2 hr48) ?_
    rcases qite h with ⟨hc49, h⟩ | ⟨hc49, h⟩
    · refine QTri.brT Ad W (t := 20) (f := 13) (L := [some (.ref 0), vI x1, vI x2, vI x3, none]) (S := []) (σ := (H0 o)) rfl (XT.i0_eq_t hc49) ?_
      exact QTri.mask [true, false, false, true, false] (tJ9_20 Ad W o x3 h)
    · refine QTri.brF Ad W (t := 20) (f := 13) (L := [some (.ref 0), vI x1, vI x2, vI x3, none]) (S := []) (σ := (H0 o)) rfl (XT.i0_eq_f hc49) ?_
      refine QTri.steps Ad W 4 (st' := (19, [some (.ref 0), vI x1, vI x2, vI x3, none], [.int (0 : Int32), .int x2, .ref 2], (H0 o))) rfl ?_
      obtain ⟨y56, hy56, h⟩ := Option.bind_eq_some_iff.mp h
      refine QTri.bnd Ad W (f := fun y56 => (20, [some (.ref 0), vI x1, vI x2, vI x3, none], [], (H0v (f_srcPayload o) y56 (f_queue o) (f_stats o) (f_state o) (f_timer o) (f_rxVal o) (f_rxNext o) (f_rxLead o) (f_rxTrail o) (f_lossLeft o) (f_dups o) (f_drops o) (f_delSeq o) (f_delVal o) (f_delLen o) (f_lostLog o) (f_lostLen o) (f_nakBuf o) (f_win o) (f_back o) (f_repair o) (f_period o) (f_nextSeq o) (f_qLen o)))) rfl hy56 ?_
      have E57 : ((H0v (f_srcPayload o) y56 (f_queue o) (f_stats o) (f_state o) (f_timer o) (f_rxVal o) (f_rxNext o) (f_rxLead o) (f_rxTrail o) (f_lossLeft o) (f_dups o) (f_drops o) (f_delSeq o) (f_delVal o) (f_delLen o) (f_lostLog o) (f_lostLen o) (f_nakBuf o) (f_win o) (f_back o) (f_repair o) (f_period o) (f_nextSeq o) (f_qLen o)) : QHeap) = (H0 (s_pend o y56)) := by dsimp only [H0, H0v, f_srcPayload, f_pend, f_queue, f_stats, f_state, f_timer, f_rxVal, f_rxNext, f_rxLead, f_rxTrail, f_lossLeft, f_dups, f_drops, f_delSeq, f_delVal, f_delLen, f_lostLog, f_lostLen, f_nakBuf, f_win, f_back, f_repair, f_period, f_nextSeq, f_qLen, s_pend]
      rw [E57]
      exact QTri.mask [true, false, false, true, false] (tJ9_20 Ad W (s_pend o y56) x3 h)
  · refine QTri.brT Ad W (t := 20) (f := 5) (L := [some (.ref 0), vI x1, vI x2, vI x3, none]) (S := []) (σ := (H0 o)) rfl (XT.ii_ne_t hc45) ?_
    exact QTri.mask [true, false, false, true, false] (tJ9_20 Ad W o x3 h)
def B13_18 (o : Ob) (x1 : Int32) (x2 : Int32) (v : Int32) : Option (((Int32) ⊕ (Unit)) ⊕ (Int32)) :=
  (if x2 < v then some (.inl (Sum.inr ())) else (if v < (32 : Int32) then (aget (f_state o) ((x1 * (32 : Int32)) + v)).bind fun y78 => (if y78 = (0 : Int32) then some (.inl (Sum.inl ((x1 * (32 : Int32)) + v))) else some (.inr (v + (1 : Int32)))) else some (.inl (Sum.inr ()))))
theorem tB13_18 (Ad : QAd n0 ad) (W : QW Z a0) (o : Ob) (x1 : Int32) (x2 : Int32) (v : Int32) {r : ((Int32) ⊕ (Unit)) ⊕ (Int32)} {u : Option Value} {τ : QHeap} (h : B13_18 o x1 x2 v = some r) (hx0 : ∀ x : Int32, r = .inl (Sum.inl x) → QTri l Z n0 ad 13 (50, [some (.ref 0), vI x1, none, none, none, vI x], [], (H0 o)) u τ) (hx1 : ∀ x : Unit, r = .inl (Sum.inr x) → QTri l Z n0 ad 13 (76, [some (.ref 0), vI x1, vI x2, none, none, none], [], (H0 o)) u τ) (hc : ∀ x : Int32, r = .inr x → QTri l Z n0 ad 13 (18, [some (.ref 0), vI x1, vI x2, none, vI x, none], [], (H0 o)) u τ) : QTri l Z n0 ad 13 (18, [some (.ref 0), vI x1, vI x2, none, vI v, none], [], (H0 o)) u τ := by
  unfold B13_18 at h
  refine QTri.steps Ad W 2 (st' := (21, [some (.ref 0), vI x1, vI x2, none, vI v, none], [.int x2, .int v], (H0 o))) rfl ?_
  rcases qite h with ⟨hc76, h⟩ | ⟨hc76, h⟩
  · refine QTri.brT Ad W (t := 76) (f := 24) (L := [some (.ref 0), vI x1, vI x2, none, vI v, none]) (S := []) (σ := (H0 o)) rfl (XT.ii_gt_t hc76) ?_
    obtain rfl := Option.some.inj h
    exact QTri.mask [true, true, true, false, false, false] (hx1 () rfl)
  · refine QTri.brF Ad W (t := 76) (f := 24) (L := [some (.ref 0), vI x1, vI x2, none, vI v, none]) (S := []) (σ := (H0 o)) rfl (XT.ii_gt_f hc76) ?_
    refine QTri.steps Ad W 2 (st' := (28, [some (.ref 0), vI x1, vI x2, none, vI v, none], [.int (32 : Int32), .int v], (H0 o))) rfl ?_
    rcases qite h with ⟨hc77, h⟩ | ⟨hc77, h⟩
    · refine QTri.brF Ad W (t := 76) (f := 31) (L := [some (.ref 0), vI x1, vI x2, none, vI v, none]) (S := []) (σ := (H0 o)) rfl (XT.ii_ge_f hc77) ?_
      refine QTri.steps Ad W 9 (st' := (46, [some (.ref 0), vI x1, vI x2, none, vI v, vI ((x1 * (32 : Int32)) + v)], [.int ((x1 * (32 : Int32)) + v), .ref 5], (H0 o))) rfl ?_
      obtain ⟨y78, hy78, h⟩ := Option.bind_eq_some_iff.mp h
      refine QTri.bnd Ad W (f := fun y78 => (47, [some (.ref 0), vI x1, vI x2, none, vI v, vI ((x1 * (32 : Int32)) + v)], [.int y78], (H0 o))) rfl hy78 ?_
      rcases qite h with ⟨hc79, h⟩ | ⟨hc79, h⟩
      · refine QTri.brF Ad W (t := 70) (f := 50) (L := [some (.ref 0), vI x1, vI x2, none, vI v, vI ((x1 * (32 : Int32)) + v)]) (S := []) (σ := (H0 o)) rfl (XT.i0_ne_f hc79) ?_
        obtain rfl := Option.some.inj h
        exact QTri.mask [true, true, false, false, false, true] (hx0 ((x1 * (32 : Int32)) + v) rfl)
      · refine QTri.brT Ad W (t := 70) (f := 50) (L := [some (.ref 0), vI x1, vI x2, none, vI v, vI ((x1 * (32 : Int32)) + v)]) (S := []) (σ := (H0 o)) rfl (XT.i0_ne_t hc79) ?_
        refine QTri.steps Ad W 2 (st' := (18, [some (.ref 0), vI x1, vI x2, none, vI (v + (1 : Int32)), vI ((x1 * (32 : Int32)) + v)], [], (H0 o))) rfl ?_
        obtain rfl := Option.some.inj h
        exact QTri.mask [true, true, true, false, true, false] (hc (v + (1 : Int32)) rfl)
    · refine QTri.brT Ad W (t := 76) (f := 31) (L := [some (.ref 0), vI x1, vI x2, none, vI v, none]) (S := []) (σ := (H0 o)) rfl (XT.ii_ge_t hc77) ?_
      obtain rfl := Option.some.inj h
      exact QTri.mask [true, true, true, false, false, false] (hx1 () rfl)
def J13_76 (o : Ob) (x1 : Int32) (x2 : Int32) : Option (Ob) :=
  (aget (f_rxLead o) x1).bind fun y83 => (if y83 < x2 then (aset (f_rxLead o) x1 x2).bind fun y85 => some (s_rxLead o y85) else some o)
theorem tJ13_76 (Ad : QAd n0 ad) (W : QW Z a0) (o : Ob) (x1 : Int32) (x2 : Int32) {r : Ob} (h : J13_76 o x1 x2 = some r) : QTri l Z n0 ad 13 (76, [some (.ref 0), vI x1, vI x2, none, none, none], [], (H0 o)) (none : Option Value) (H0 r) := by
  unfold J13_76 at h
  refine QTri.steps Ad W 4 (st' := (82, [some (.ref 0), vI x1, vI x2, none, none, none], [.int x1, .ref 9, .int x2], (H0 o))) rfl ?_
  obtain ⟨y83, hy83, h⟩ := Option.bind_eq_some_iff.mp h
  refine QTri.bnd Ad W (f := fun y83 => (83, [some (.ref 0), vI x1, vI x2, none, none, none], [.int y83, .int x2], (H0 o))) rfl hy83 ?_
  rcases qite h with ⟨hc84, h⟩ | ⟨hc84, h⟩
  · refine QTri.brF Ad W (t := 93) (f := 86) (L := [some (.ref 0), vI x1, vI x2, none, none, none]) (S := []) (σ := (H0 o)) rfl (XT.ii_le_f hc84) ?_
    refine QTri.steps Ad W 4 (st' := (92, [some (.ref 0), vI x1, vI x2, none, none, none], [.int x2, .int x1, .ref 9], (H0 o))) rfl ?_
    obtain ⟨y85, hy85, h⟩ := Option.bind_eq_some_iff.mp h
    refine QTri.bnd Ad W (f := fun y85 => (93, [some (.ref 0), vI x1, vI x2, none, none, none], [], (H0v (f_srcPayload o) (f_pend o) (f_queue o) (f_stats o) (f_state o) (f_timer o) (f_rxVal o) (f_rxNext o) y85 (f_rxTrail o) (f_lossLeft o) (f_dups o) (f_drops o) (f_delSeq o) (f_delVal o) (f_delLen o) (f_lostLog o) (f_lostLen o) (f_nakBuf o) (f_win o) (f_back o) (f_repair o) (f_period o) (f_nextSeq o) (f_qLen o)))) rfl hy85 ?_
    have E86 : ((H0v (f_srcPayload o) (f_pend o) (f_queue o) (f_stats o) (f_state o) (f_timer o) (f_rxVal o) (f_rxNext o) y85 (f_rxTrail o) (f_lossLeft o) (f_dups o) (f_drops o) (f_delSeq o) (f_delVal o) (f_delLen o) (f_lostLog o) (f_lostLen o) (f_nakBuf o) (f_win o) (f_back o) (f_repair o) (f_period o) (f_nextSeq o) (f_qLen o)) : QHeap) = (H0 (s_rxLead o y85)) := by dsimp only [H0, H0v, f_srcPayload, f_pend, f_queue, f_stats, f_state, f_timer, f_rxVal, f_rxNext, f_rxLead, f_rxTrail, f_lossLeft, f_dups, f_drops, f_delSeq, f_delVal, f_delLen, f_lostLog, f_lostLen, f_nakBuf, f_win, f_back, f_repair, f_period, f_nextSeq, f_qLen, s_rxLead]
    rw [E86]
    obtain rfl := Option.some.inj h
    exact QTri.ret0 rfl rfl
  · refine QTri.brT Ad W (t := 93) (f := 86) (L := [some (.ref 0), vI x1, vI x2, none, none, none]) (S := []) (σ := (H0 o)) rfl (XT.ii_le_t hc84) ?_
    obtain rfl := Option.some.inj h
    exact QTri.ret0 rfl rfl
/-- applyLead(II)V -/
def F13 (o : Ob) (x1 : Int32) (x2 : Int32) : Option (Ob) :=
  (aget (f_rxLead o) x1).bind fun y72 => ((loopN (B13_18 o x1 x2) qN (if (y72 + (1 : Int32)) < (0 : Int32) then (0 : Int32) else (y72 + (1 : Int32)))).bind fun e80 => match e80 with | .inl e80a => (aset (f_state o) e80a (1 : Int32)).bind fun y82 => none | .inr e80a => (J13_76 o x1 x2))
theorem tF13 (Ad : QAd n0 ad) (W : QW Z a0) (o : Ob) (x1 : Int32) (x2 : Int32) {r : Ob} (h : F13 o x1 x2 = some r) : QTri l Z n0 ad 13 (0, qentry [.ref 0, .int x1, .int x2] (pMaxL 13), [], (H0 o)) (none : Option Value) (H0 r) := by
  unfold F13 at h
  refine QTri.steps Ad W 3 (st' := (5, [some (.ref 0), vI x1, vI x2, none, none, none], [.int x1, .ref 9], (H0 o))) rfl ?_
  obtain ⟨y72, hy72, h⟩ := Option.bind_eq_some_iff.mp h
  refine QTri.bnd Ad W (f := fun y72 => (6, [some (.ref 0), vI x1, vI x2, none, none, none], [.int y72], (H0 o))) rfl hy72 ?_
  refine QTri.steps Ad W 4 (st' := (10, [some (.ref 0), vI x1, vI x2, vI (y72 + (1 : Int32)), none, none], [.int (y72 + (1 : Int32))], (H0 o))) rfl ?_
  have K74 : ∀ z73 : Int32, z73 = (if (y72 + (1 : Int32)) < (0 : Int32) then (0 : Int32) else (y72 + (1 : Int32))) → QTri l Z n0 ad 13 (15, [some (.ref 0), vI x1, vI x2, vI z73, none, none], [], (H0 o)) (none : Option Value) (H0 r) := by
    intro z73 ez73
    subst ez73
    refine QTri.steps Ad W 2 (st' := (18, [some (.ref 0), vI x1, vI x2, vI (if (y72 + (1 : Int32)) < (0 : Int32) then (0 : Int32) else (y72 + (1 : Int32))), vI (if (y72 + (1 : Int32)) < (0 : Int32) then (0 : Int32) else (y72 + (1 : Int32))), none], [], (H0 o))) rfl ?_
    obtain ⟨e80, he80, h⟩ := Option.bind_eq_some_iff.mp h
    refine QTri.mask [true, true, true, false, true, false] (loopN_tri (B := B13_18 o x1 x2) (T := fun lv81 => QTri l Z n0 ad 13 (18, [some (.ref 0), vI x1, vI x2, none, vI lv81, none], [], (H0 o)) (none : Option Value) (H0 r)) (KE := fun e => match e with | .inl e80a => QTri l Z n0 ad 13 (50, [some (.ref 0), vI x1, none, none, none, vI e80a], [], (H0 o)) (none : Option Value) (H0 r) | .inr e80a => QTri l Z n0 ad 13 (76, [some (.ref 0), vI x1, vI x2, none, none, none], [], (H0 o)) (none : Option Value) (H0 r)) (fun lv81 r hB hE hC => tB13_18 Ad W o x1 x2 lv81 hB (fun x q => hE _ q) (fun x q => hE _ q) (fun x q => hC x q)) qN (if (y72 + (1 : Int32)) < (0 : Int32) then (0 : Int32) else (y72 + (1 : Int32))) e80 he80 ?_)
    rcases e80 with e80a | e80a
    · refine QTri.steps Ad W 4 (st' := (57, [some (.ref 0), vI x1, none, none, none, vI e80a], [.int (1 : Int32), .int e80a, .ref 5], (H0 o))) rfl ?_
      obtain ⟨y82, hy82, h⟩ := Option.bind_eq_some_iff.mp h
      refine QTri.bnd Ad W (f := fun y82 => (58, [some (.ref 0), vI x1, none, none, none, vI e80a], [], (H0v (f_srcPayload o) (f_pend o) (f_queue o) (f_stats o) y82 (f_timer o) (f_rxVal o) (f_rxNext o) (f_rxLead o) (f_rxTrail o) (f_lossLeft o) (f_dups o) (f_drops o) (f_delSeq o) (f_delVal o) (f_delLen o) (f_lostLog o) (f_lostLen o) (f_nakBuf o) (f_win o) (f_back o) (f_repair o) (f_period o) (f_nextSeq o) (f_qLen o)))) rfl hy82 ?_
      cases h
    · exact QTri.mask [true, true, true, false, false, false] (tJ13_76 Ad W o x1 x2 h)
  rcases Classical.em ((y72 + (1 : Int32)) < (0 : Int32)) with hc75 | hc75
  · refine QTri.brF Ad W (t := 15) (f := 13) (L := [some (.ref 0), vI x1, vI x2, vI (y72 + (1 : Int32)), none, none]) (S := []) (σ := (H0 o)) rfl (XT.i0_ge_f hc75) ?_
    refine QTri.steps Ad W 2 (st' := (15, [some (.ref 0), vI x1, vI x2, vI (0 : Int32), none, none], [], (H0 o))) rfl ?_
    exact QTri.mask [true, true, true, true, false, false] (K74 _ (if_pos hc75).symm)
  · refine QTri.brT Ad W (t := 15) (f := 13) (L := [some (.ref 0), vI x1, vI x2, vI (y72 + (1 : Int32)), none, none]) (S := []) (σ := (H0 o)) rfl (XT.i0_ge_t hc75) ?_
    exact QTri.mask [true, true, true, true, false, false] (K74 _ (if_neg hc75).symm)
def J14_108 (o : Ob) (x1 : Int32) (x2 : Int32) (x4 : Int32) : Option (((Int32 × Int32) ⊕ (Ob)) ⊕ (Int32)) :=
  some (.inr (x4 + (1 : Int32)))
theorem tJ14_108 (Ad : QAd n0 ad) (W : QW Z a0) (o : Ob) (x1 : Int32) (x2 : Int32) (x4 : Int32) {r : ((Int32 × Int32) ⊕ (Ob)) ⊕ (Int32)} {u : Option Value} {τ : QHeap} (h : J14_108 o x1 x2 x4 = some r) (hx0 : ∀ x : Int32 × Int32, r = .inl (Sum.inl x) → QTri l Z n0 ad 14 (84, [some (.ref 0), vI x1, none, none, vI x.1, vI x.2, none], [], (H0 o)) u τ) (hx1 : ∀ x : Ob, r = .inl (Sum.inr x) → u = (none : Option Value) ∧ τ = (H0 x)) (hc : ∀ x : Int32, r = .inr x → QTri l Z n0 ad 14 (34, [some (.ref 0), vI x1, vI x2, none, vI x, none, none], [], (H0 o)) u τ) : QTri l Z n0 ad 14 (108, [some (.ref 0), vI x1, vI x2, none, vI x4, none, none], [], (H0 o)) u τ := by
  unfold J14_108 at h
  refine QTri.steps Ad W 2 (st' := (34, [some (.ref 0), vI x1, vI x2, none, vI (x4 + (1 : Int32)), none, none], [], (H0 o))) rfl ?_
  obtain rfl := Option.some.inj h
  exact QTri.mask [true, true, true, false, true, false, false] (hc (x4 + (1 : Int32)) rfl)
def B14_34 (o : Ob) (x1 : Int32) (x2 : Int32) (v : Int32) : Option (((Int32 × Int32) ⊕ (Ob)) ⊕ (Int32)) :=
  (if v < x2 then (if v < (32 : Int32) then (aget (f_state o) ((x1 * (32 : Int32)) + v)).bind fun y98 => (if y98 = (4 : Int32) then (J14_108 o x1 x2 v) else (if y98 = (5 : Int32) then (J14_108 o x1 x2 v) else (if y98 = (6 : Int32) then (J14_108 o x1 x2 v) else some (.inl (Sum.inl (v, ((x1 * (32 : Int32)) + v))))))) else some (.inl (Sum.inr o))) else some (.inl (Sum.inr o)))
theorem tB14_34 (Ad : QAd n0 ad) (W : QW Z a0) (o : Ob) (x1 : Int32) (x2 : Int32) (v : Int32) {r : ((Int32 × Int32) ⊕ (Ob)) ⊕ (Int32)} {u : Option Value} {τ : QHeap} (h : B14_34 o x1 x2 v = some r) (hx0 : ∀ x : Int32 × Int32, r = .inl (Sum.inl x) → QTri l Z n0 ad 14 (84, [some (.ref 0), vI x1, none, none, vI x.1, vI x.2, none], [], (H0 o)) u τ) (hx1 : ∀ x : Ob, r = .inl (Sum.inr x) → u = (none : Option Value) ∧ τ = (H0 x)) (hc : ∀ x : Int32, r = .inr x → QTri l Z n0 ad 14 (34, [some (.ref 0), vI x1, vI x2, none, vI x, none, none], [], (H0 o)) u τ) : QTri l Z n0 ad 14 (34, [some (.ref 0), vI x1, vI x2, none, vI v, none, none], [], (H0 o)) u τ := by
  unfold B14_34 at h
  refine QTri.steps Ad W 2 (st' := (37, [some (.ref 0), vI x1, vI x2, none, vI v, none, none], [.int x2, .int v], (H0 o))) rfl ?_
  rcases qite h with ⟨hc96, h⟩ | ⟨hc96, h⟩
  · refine QTri.brF Ad W (t := 114) (f := 40) (L := [some (.ref 0), vI x1, vI x2, none, vI v, none, none]) (S := []) (σ := (H0 o)) rfl (XT.ii_ge_f hc96) ?_
    refine QTri.steps Ad W 2 (st' := (44, [some (.ref 0), vI x1, vI x2, none, vI v, none, none], [.int (32 : Int32), .int v], (H0 o))) rfl ?_
    rcases qite h with ⟨hc97, h⟩ | ⟨hc97, h⟩
    · refine QTri.brF Ad W (t := 114) (f := 47) (L := [some (.ref 0), vI x1, vI x2, none, vI v, none, none]) (S := []) (σ := (H0 o)) rfl (XT.ii_ge_f hc97) ?_
      refine QTri.steps Ad W 9 (st' := (62, [some (.ref 0), vI x1, vI x2, none, vI v, vI ((x1 * (32 : Int32)) + v), none], [.int ((x1 * (32 : Int32)) + v), .ref 5], (H0 o))) rfl ?_
      obtain ⟨y98, hy98, h⟩ := Option.bind_eq_some_iff.mp h
      refine QTri.bnd Ad W (f := fun y98 => (63, [some (.ref 0), vI x1, vI x2, none, vI v, vI ((x1 * (32 : Int32)) + v), none], [.int y98], (H0 o))) rfl hy98 ?_
      refine QTri.steps Ad W 3 (st' := (68, [some (.ref 0), vI x1, vI x2, none, vI v, vI ((x1 * (32 : Int32)) + v), vI y98], [.int (4 : Int32), .int y98], (H0 o))) rfl ?_
      rcases qite h with ⟨hc99, h⟩ | ⟨hc99, h⟩
      · refine QTri.brT Ad W (t := 108) (f := 71) (L := [some (.ref 0), vI x1, vI x2, none, vI v, vI ((x1 * (32 : Int32)) + v), vI y98]) (S := []) (σ := (H0 o)) rfl (XT.ii_eq_t hc99) ?_
        exact QTri.mask [true, true, true, false, true, false, false] (tJ14_108 Ad W o x1 x2 v h hx0 hx1 hc)
      · refine QTri.brF Ad W (t := 108) (f := 71) (L := [some (.ref 0), vI x1, vI x2, none, vI v, vI ((x1 * (32 : Int32)) + v), vI y98]) (S := []) (σ := (H0 o)) rfl (XT.ii_eq_f hc99) ?_
        refine QTri.steps Ad W 2 (st' := (74, [some (.ref 0), vI x1, vI x2, none, vI v, vI ((x1 * (32 : Int32)) + v), vI y98], [.int (5 : Int32), .int y98], (H0 o))) rfl ?_
        rcases qite h with ⟨hc100, h⟩ | ⟨hc100, h⟩
        · refine QTri.brT Ad W (t := 108) (f := 77) (L := [some (.ref 0), vI x1, vI x2, none, vI v, vI ((x1 * (32 : Int32)) + v), vI y98]) (S := []) (σ := (H0 o)) rfl (XT.ii_eq_t hc100) ?_
          exact QTri.mask [true, true, true, false, true, false, false] (tJ14_108 Ad W o x1 x2 v h hx0 hx1 hc)
        · refine QTri.brF Ad W (t := 108) (f := 77) (L := [some (.ref 0), vI x1, vI x2, none, vI v, vI ((x1 * (32 : Int32)) + v), vI y98]) (S := []) (σ := (H0 o)) rfl (XT.ii_eq_f hc100) ?_
          refine QTri.steps Ad W 2 (st' := (81, [some (.ref 0), vI x1, vI x2, none, vI v, vI ((x1 * (32 : Int32)) + v), vI y98], [.int (6 : Int32), .int y98], (H0 o))) rfl ?_
          rcases qite h with ⟨hc101, h⟩ | ⟨hc101, h⟩
          · refine QTri.brT Ad W (t := 108) (f := 84) (L := [some (.ref 0), vI x1, vI x2, none, vI v, vI ((x1 * (32 : Int32)) + v), vI y98]) (S := []) (σ := (H0 o)) rfl (XT.ii_eq_t hc101) ?_
            exact QTri.mask [true, true, true, false, true, false, false] (tJ14_108 Ad W o x1 x2 v h hx0 hx1 hc)
          · refine QTri.brF Ad W (t := 108) (f := 84) (L := [some (.ref 0), vI x1, vI x2, none, vI v, vI ((x1 * (32 : Int32)) + v), vI y98]) (S := []) (σ := (H0 o)) rfl (XT.ii_eq_f hc101) ?_
            obtain rfl := Option.some.inj h
            exact QTri.mask [true, true, false, false, true, true, false] (hx0 (v, ((x1 * (32 : Int32)) + v)) rfl)
    · refine QTri.brT Ad W (t := 114) (f := 47) (L := [some (.ref 0), vI x1, vI x2, none, vI v, none, none]) (S := []) (σ := (H0 o)) rfl (XT.ii_ge_t hc97) ?_
      obtain rfl := Option.some.inj h
      obtain ⟨rfl, rfl⟩ := hx1 o rfl
      exact QTri.ret0 rfl rfl
  · refine QTri.brT Ad W (t := 114) (f := 40) (L := [some (.ref 0), vI x1, vI x2, none, vI v, none, none]) (S := []) (σ := (H0 o)) rfl (XT.ii_ge_t hc96) ?_
    obtain rfl := Option.some.inj h
    obtain ⟨rfl, rfl⟩ := hx1 o rfl
    exact QTri.ret0 rfl rfl
/-- applyTrail(II)V -/
def F14 (o : Ob) (x1 : Int32) (x2 : Int32) : Option (Ob) :=
  (aget (f_rxTrail o) x1).bind fun y88 => (if y88 < x2 then (aset (f_rxTrail o) x1 x2).bind fun y90 => (aget (f_rxNext o) x1).bind fun y91 => ((loopN (B14_34 (s_rxTrail o y90) x1 x2) qN (if y91 < (0 : Int32) then (0 : Int32) else y91)).bind fun e102 => match e102 with | .inl e102a => (aset (f_state (s_rxTrail o y90)) e102a.2 (6 : Int32)).bind fun y104 => (aset (f_timer (s_rxTrail o y90)) e102a.2 (0 : Int32)).bind fun y105 => none | .inr e102a => some e102a) else some o)
theorem tF14 (Ad : QAd n0 ad) (W : QW Z a0) (o : Ob) (x1 : Int32) (x2 : Int32) {r : Ob} (h : F14 o x1 x2 = some r) : QTri l Z n0 ad 14 (0, qentry [.ref 0, .int x1, .int x2] (pMaxL 14), [], (H0 o)) (none : Option Value) (H0 r) := by
  unfold F14 at h
  refine QTri.steps Ad W 4 (st' := (6, [some (.ref 0), vI x1, vI x2, none, none, none, none], [.int x1, .ref 10, .int x2], (H0 o))) rfl ?_
  obtain ⟨y88, hy88, h⟩ := Option.bind_eq_some_iff.mp h
  refine QTri.bnd Ad W (f := fun y88 => (7, [some (.ref 0), vI x1, vI x2, none, none, none, none], [.int y88, .int x2], (H0 o))) rfl hy88 ?_
  rcases qite h with ⟨hc89, h⟩ | ⟨hc89, h⟩
  · refine QTri.brT Ad W (t := 11) (f := 10) (L := [some (.ref 0), vI x1, vI x2, none, none, none, none]) (S := []) (σ := (H0 o)) rfl (XT.ii_gt_t hc89) ?_
    refine QTri.steps Ad W 4 (st' := (17, [some (.ref 0), vI x1, vI x2, none, none, none, none], [.int x2, .int x1, .ref 10], (H0 o))) rfl ?_
    obtain ⟨y90, hy90, h⟩ := Option.bind_eq_some_iff.mp h
    refine QTri.bnd Ad W (f := fun y90 => (18, [some (.ref 0), vI x1, vI x2, none, none, none, none], [], (H0v (f_srcPayload o) (f_pend o) (f_queue o) (f_stats o) (f_state o) (f_timer o) (f_rxVal o) (f_rxNext o) (f_rxLead o) y90 (f_lossLeft o) (f_dups o) (f_drops o) (f_delSeq o) (f_delVal o) (f_delLen o) (f_lostLog o) (f_lostLen o) (f_nakBuf o) (f_win o) (f_back o) (f_repair o) (f_period o) (f_nextSeq o) (f_qLen o)))) rfl hy90 ?_
    refine QTri.steps Ad W 3 (st' := (23, [some (.ref 0), vI x1, vI x2, none, none, none, none], [.int x1, .ref 8], (H0v (f_srcPayload o) (f_pend o) (f_queue o) (f_stats o) (f_state o) (f_timer o) (f_rxVal o) (f_rxNext o) (f_rxLead o) y90 (f_lossLeft o) (f_dups o) (f_drops o) (f_delSeq o) (f_delVal o) (f_delLen o) (f_lostLog o) (f_lostLen o) (f_nakBuf o) (f_win o) (f_back o) (f_repair o) (f_period o) (f_nextSeq o) (f_qLen o)))) rfl ?_
    obtain ⟨y91, hy91, h⟩ := Option.bind_eq_some_iff.mp h
    refine QTri.bnd Ad W (f := fun y91 => (24, [some (.ref 0), vI x1, vI x2, none, none, none, none], [.int y91], (H0v (f_srcPayload o) (f_pend o) (f_queue o) (f_stats o) (f_state o) (f_timer o) (f_rxVal o) (f_rxNext o) (f_rxLead o) y90 (f_lossLeft o) (f_dups o) (f_drops o) (f_delSeq o) (f_delVal o) (f_delLen o) (f_lostLog o) (f_lostLen o) (f_nakBuf o) (f_win o) (f_back o) (f_repair o) (f_period o) (f_nextSeq o) (f_qLen o)))) rfl hy91 ?_
    refine QTri.steps Ad W 2 (st' := (26, [some (.ref 0), vI x1, vI x2, vI y91, none, none, none], [.int y91], (H0v (f_srcPayload o) (f_pend o) (f_queue o) (f_stats o) (f_state o) (f_timer o) (f_rxVal o) (f_rxNext o) (f_rxLead o) y90 (f_lossLeft o) (f_dups o) (f_drops o) (f_delSeq o) (f_delVal o) (f_delLen o) (f_lostLog o) (f_lostLen o) (f_nakBuf o) (f_win o) (f_back o) (f_repair o) (f_period o) (f_nextSeq o) (f_qLen o)))) rfl ?_
    have K93 : ∀ z92 : Int32, z92 = (if y91 < (0 : Int32) then (0 : Int32) else y91) → QTri l Z n0 ad 14 (31, [some (.ref 0), vI x1, vI x2, vI z92, none, none, none], [], (H0v (f_srcPayload o) (f_pend o) (f_queue o) (f_stats o) (f_state o) (f_timer o) (f_rxVal o) (f_rxNext o) (f_rxLead o) y90 (f_lossLeft o) (f_dups o) (f_drops o) (f_delSeq o) (f_delVal o) (f_delLen o) (f_lostLog o) (f_lostLen o) (f_nakBuf o) (f_win o) (f_back o) (f_repair o) (f_period o) (f_nextSeq o) (f_qLen o))) (none : Option Value) (H0 r) := by
      intro z92 ez92
      subst ez92
      refine QTri.steps Ad W 2 (st' := (34, [some (.ref 0), vI x1, vI x2, vI (if y91 < (0 : Int32) then (0 : Int32) else y91), vI (if y91 < (0 : Int32) then (0 : Int32) else y91), none, none], [], (H0v (f_srcPayload o) (f_pend o) (f_queue o) (f_stats o) (f_state o) (f_timer o) (f_rxVal o) (f_rxNext o) (f_rxLead o) y90 (f_lossLeft o) (f_dups o) (f_drops o) (f_delSeq o) (f_delVal o) (f_delLen o) (f_lostLog o) (f_lostLen o) (f_nakBuf o) (f_win o) (f_back o) (f_repair o) (f_period o) (f_nextSeq o) (f_qLen o)))) rfl ?_
      have E95 : ((H0v (f_srcPayload o) (f_pend o) (f_queue o) (f_stats o) (f_state o) (f_timer o) (f_rxVal o) (f_rxNext o) (f_rxLead o) y90 (f_lossLeft o) (f_dups o) (f_drops o) (f_delSeq o) (f_delVal o) (f_delLen o) (f_lostLog o) (f_lostLen o) (f_nakBuf o) (f_win o) (f_back o) (f_repair o) (f_period o) (f_nextSeq o) (f_qLen o)) : QHeap) = (H0 (s_rxTrail o y90)) := by dsimp only [H0, H0v, f_srcPayload, f_pend, f_queue, f_stats, f_state, f_timer, f_rxVal, f_rxNext, f_rxLead, f_rxTrail, f_lossLeft, f_dups, f_drops, f_delSeq, f_delVal, f_delLen, f_lostLog, f_lostLen, f_nakBuf, f_win, f_back, f_repair, f_period, f_nextSeq, f_qLen, s_rxTrail]
      rw [E95]
      obtain ⟨e102, he102, h⟩ := Option.bind_eq_some_iff.mp h
      refine QTri.mask [true, true, true, false, true, false, false] (loopN_tri (B := B14_34 (s_rxTrail o y90) x1 x2) (T := fun lv103 => QTri l Z n0 ad 14 (34, [some (.ref 0), vI x1, vI x2, none, vI lv103, none, none], [], (H0 (s_rxTrail o y90))) (none : Option Value) (H0 r)) (KE := fun e => match e with | .inl e102a => QTri l Z n0 ad 14 (84, [some (.ref 0), vI x1, none, none, vI e102a.1, vI e102a.2, none], [], (H0 (s_rxTrail o y90))) (none : Option Value) (H0 r) | .inr e102a => (none : Option Value) = (none : Option Value) ∧ (H0 r) = (H0 e102a)) (fun lv103 r hB hE hC => tB14_34 Ad W (s_rxTrail o y90) x1 x2 lv103 hB (fun x q => hE _ q) (fun x q => hE _ q) (fun x q => hC x q)) qN (if y91 < (0 : Int32) then (0 : Int32) else y91) e102 he102 ?_)
      rcases e102 with e102a | e102a
      · refine QTri.steps Ad W 4 (st' := (92, [some (.ref 0), vI x1, none, none, vI e102a.1, vI e102a.2, none], [.int (6 : Int32), .int e102a.2, .ref 5], (H0 (s_rxTrail o y90)))) rfl ?_
        obtain ⟨y104, hy104, h⟩ := Option.bind_eq_some_iff.mp h
        refine QTri.bnd Ad W (f := fun y104 => (93, [some (.ref 0), vI x1, none, none, vI e102a.1, vI e102a.2, none], [], (H0v (f_srcPayload (s_rxTrail o y90)) (f_pend (s_rxTrail o y90)) (f_queue (s_rxTrail o y90)) (f_stats (s_rxTrail o y90)) y104 (f_timer (s_rxTrail o y90)) (f_rxVal (s_rxTrail o y90)) (f_rxNext (s_rxTrail o y90)) (f_rxLead (s_rxTrail o y90)) (f_rxTrail (s_rxTrail o y90)) (f_lossLeft (s_rxTrail o y90)) (f_dups (s_rxTrail o y90)) (f_drops (s_rxTrail o y90)) (f_delSeq (s_rxTrail o y90)) (f_delVal (s_rxTrail o y90)) (f_delLen (s_rxTrail o y90)) (f_lostLog (s_rxTrail o y90)) (f_lostLen (s_rxTrail o y90)) (f_nakBuf (s_rxTrail o y90)) (f_win (s_rxTrail o y90)) (f_back (s_rxTrail o y90)) (f_repair (s_rxTrail o y90)) (f_period (s_rxTrail o y90)) (f_nextSeq (s_rxTrail o y90)) (f_qLen (s_rxTrail o y90))))) rfl hy104 ?_
        refine QTri.steps Ad W 4 (st' := (100, [some (.ref 0), vI x1, none, none, vI e102a.1, vI e102a.2, none], [.int (0 : Int32), .int e102a.2, .ref 6], (H0v (f_srcPayload (s_rxTrail o y90)) (f_pend (s_rxTrail o y90)) (f_queue (s_rxTrail o y90)) (f_stats (s_rxTrail o y90)) y104 (f_timer (s_rxTrail o y90)) (f_rxVal (s_rxTrail o y90)) (f_rxNext (s_rxTrail o y90)) (f_rxLead (s_rxTrail o y90)) (f_rxTrail (s_rxTrail o y90)) (f_lossLeft (s_rxTrail o y90)) (f_dups (s_rxTrail o y90)) (f_drops (s_rxTrail o y90)) (f_delSeq (s_rxTrail o y90)) (f_delVal (s_rxTrail o y90)) (f_delLen (s_rxTrail o y90)) (f_lostLog (s_rxTrail o y90)) (f_lostLen (s_rxTrail o y90)) (f_nakBuf (s_rxTrail o y90)) (f_win (s_rxTrail o y90)) (f_back (s_rxTrail o y90)) (f_repair (s_rxTrail o y90)) (f_period (s_rxTrail o y90)) (f_nextSeq (s_rxTrail o y90)) (f_qLen (s_rxTrail o y90))))) rfl ?_
        obtain ⟨y105, hy105, h⟩ := Option.bind_eq_some_iff.mp h
        refine QTri.bnd Ad W (f := fun y105 => (101, [some (.ref 0), vI x1, none, none, vI e102a.1, vI e102a.2, none], [], (H0v (f_srcPayload (s_rxTrail o y90)) (f_pend (s_rxTrail o y90)) (f_queue (s_rxTrail o y90)) (f_stats (s_rxTrail o y90)) y104 y105 (f_rxVal (s_rxTrail o y90)) (f_rxNext (s_rxTrail o y90)) (f_rxLead (s_rxTrail o y90)) (f_rxTrail (s_rxTrail o y90)) (f_lossLeft (s_rxTrail o y90)) (f_dups (s_rxTrail o y90)) (f_drops (s_rxTrail o y90)) (f_delSeq (s_rxTrail o y90)) (f_delVal (s_rxTrail o y90)) (f_delLen (s_rxTrail o y90)) (f_lostLog (s_rxTrail o y90)) (f_lostLen (s_rxTrail o y90)) (f_nakBuf (s_rxTrail o y90)) (f_win (s_rxTrail o y90)) (f_back (s_rxTrail o y90)) (f_repair (s_rxTrail o y90)) (f_period (s_rxTrail o y90)) (f_nextSeq (s_rxTrail o y90)) (f_qLen (s_rxTrail o y90))))) rfl hy105 ?_
        cases h
      · obtain rfl := Option.some.inj h
        exact ⟨rfl, rfl⟩
    rcases Classical.em (y91 < (0 : Int32)) with hc94 | hc94
    · refine QTri.brF Ad W (t := 31) (f := 29) (L := [some (.ref 0), vI x1, vI x2, vI y91, none, none, none]) (S := []) (σ := (H0v (f_srcPayload o) (f_pend o) (f_queue o) (f_stats o) (f_state o) (f_timer o) (f_rxVal o) (f_rxNext o) (f_rxLead o) y90 (f_lossLeft o) (f_dups o) (f_drops o) (f_delSeq o) (f_delVal o) (f_delLen o) (f_lostLog o) (f_lostLen o) (f_nakBuf o) (f_win o) (f_back o) (f_repair o) (f_period o) (f_nextSeq o) (f_qLen o))) rfl (XT.i0_ge_f hc94) ?_
      refine QTri.steps Ad W 2 (st' := (31, [some (.ref 0), vI x1, vI x2, vI (0 : Int32), none, none, none], [], (H0v (f_srcPayload o) (f_pend o) (f_queue o) (f_stats o) (f_state o) (f_timer o) (f_rxVal o) (f_rxNext o) (f_rxLead o) y90 (f_lossLeft o) (f_dups o) (f_drops o) (f_delSeq o) (f_delVal o) (f_delLen o) (f_lostLog o) (f_lostLen o) (f_nakBuf o) (f_win o) (f_back o) (f_repair o) (f_period o) (f_nextSeq o) (f_qLen o)))) rfl ?_
      exact QTri.mask [true, true, true, true, false, false, false] (K93 _ (if_pos hc94).symm)
    · refine QTri.brT Ad W (t := 31) (f := 29) (L := [some (.ref 0), vI x1, vI x2, vI y91, none, none, none]) (S := []) (σ := (H0v (f_srcPayload o) (f_pend o) (f_queue o) (f_stats o) (f_state o) (f_timer o) (f_rxVal o) (f_rxNext o) (f_rxLead o) y90 (f_lossLeft o) (f_dups o) (f_drops o) (f_delSeq o) (f_delVal o) (f_delLen o) (f_lostLog o) (f_lostLen o) (f_nakBuf o) (f_win o) (f_back o) (f_repair o) (f_period o) (f_nextSeq o) (f_qLen o))) rfl (XT.i0_ge_t hc94) ?_
      exact QTri.mask [true, true, true, true, false, false, false] (K93 _ (if_neg hc94).symm)
  · refine QTri.brF Ad W (t := 11) (f := 10) (L := [some (.ref 0), vI x1, vI x2, none, none, none, none]) (S := []) (σ := (H0 o)) rfl (XT.ii_gt_f hc89) ?_
    obtain rfl := Option.some.inj h
    exact QTri.ret0 rfl rfl
/-- appendDelivered(III)V -/
def F16 (o : Ob) (x1 : Int32) (x2 : Int32) (x3 : Int32) : Option (Ob) :=
  (aget (f_delLen o) x1).bind fun y114 => (if y114 < (32 : Int32) then (aget (f_delLen o) x1).bind fun y116 => (aset (f_delSeq o) ((x1 * (32 : Int32)) + y116) x2).bind fun y117 => (aset (f_delVal o) ((x1 * (32 : Int32)) + y116) x3).bind fun y118 => (aget (f_delLen o) x1).bind fun y119 => (aset (f_delLen o) x1 (y119 + (1 : Int32))).bind fun y120 => some (s_delLen (s_delVal (s_delSeq o y117) y118) y120) else some o)
theorem tF16 (Ad : QAd n0 ad) (W : QW Z a0) (o : Ob) (x1 : Int32) (x2 : Int32) (x3 : Int32) {r : Ob} (h : F16 o x1 x2 x3 = some r) : QTri l Z n0 ad 16 (0, qentry [.ref 0, .int x1, .int x2, .int x3] (pMaxL 16), [], (H0 o)) (none : Option Value) (H0 r) := by
  unfold F16 at h
  refine QTri.steps Ad W 3 (st' := (5, [some (.ref 0), vI x1, vI x2, vI x3, none], [.int x1, .ref 16], (H0 o))) rfl ?_
  obtain ⟨y114, hy114, h⟩ := Option.bind_eq_some_iff.mp h
  refine QTri.bnd Ad W (f := fun y114 => (6, [some (.ref 0), vI x1, vI x2, vI x3, none], [.int y114], (H0 o))) rfl hy114 ?_
  refine QTri.steps Ad W 1 (st' := (8, [some (.ref 0), vI x1, vI x2, vI x3, none], [.int (32 : Int32), .int y114], (H0 o))) rfl ?_
  rcases qite h with ⟨hc115, h⟩ | ⟨hc115, h⟩
  · refine QTri.brF Ad W (t := 50) (f := 11) (L := [some (.ref 0), vI x1, vI x2, vI x3, none]) (S := []) (σ := (H0 o)) rfl (XT.ii_ge_f hc115) ?_
    refine QTri.steps Ad W 6 (st' := (20, [some (.ref 0), vI x1, vI x2, vI x3, none], [.int x1, .ref 16, .int (x1 * (32 : Int32))], (H0 o))) rfl ?_
    obtain ⟨y116, hy116, h⟩ := Option.bind_eq_some_iff.mp h
    refine QTri.bnd Ad W (f := fun y116 => (21, [some (.ref 0), vI x1, vI x2, vI x3, none], [.int y116, .int (x1 * (32 : Int32))], (H0 o))) rfl hy116 ?_
    refine QTri.steps Ad W 6 (st' := (31, [some (.ref 0), vI x1, vI x2, vI x3, vI ((x1 * (32 : Int32)) + y116)], [.int x2, .int ((x1 * (32 : Int32)) + y116), .ref 14], (H0 o))) rfl ?_
    obtain ⟨y117, hy117, h⟩ := Option.bind_eq_some_iff.mp h
    refine QTri.bnd Ad W (f := fun y117 => (32, [some (.ref 0), vI x1, vI x2, vI x3, vI ((x1 * (32 : Int32)) + y116)], [], (H0v (f_srcPayload o) (f_pend o) (f_queue o) (f_stats o) (f_state o) (f_timer o) (f_rxVal o) (f_rxNext o) (f_rxLead o) (f_rxTrail o) (f_lossLeft o) (f_dups o) (f_drops o) y117 (f_delVal o) (f_delLen o) (f_lostLog o) (f_lostLen o) (f_nakBuf o) (f_win o) (f_back o) (f_repair o) (f_period o) (f_nextSeq o) (f_qLen o)))) rfl hy117 ?_
    refine QTri.steps Ad W 4 (st' := (39, [some (.ref 0), vI x1, vI x2, vI x3, vI ((x1 * (32 : Int32)) + y116)], [.int x3, .int ((x1 * (32 : Int32)) + y116), .ref 15], (H0v (f_srcPayload o) (f_pend o) (f_queue o) (f_stats o) (f_state o) (f_timer o) (f_rxVal o) (f_rxNext o) (f_rxLead o) (f_rxTrail o) (f_lossLeft o) (f_dups o) (f_drops o) y117 (f_delVal o) (f_delLen o) (f_lostLog o) (f_lostLen o) (f_nakBuf o) (f_win o) (f_back o) (f_repair o) (f_period o) (f_nextSeq o) (f_qLen o)))) rfl ?_
    obtain ⟨y118, hy118, h⟩ := Option.bind_eq_some_iff.mp h
    refine QTri.bnd Ad W (f := fun y118 => (40, [some (.ref 0), vI x1, vI x2, vI x3, vI ((x1 * (32 : Int32)) + y116)], [], (H0v (f_srcPayload o) (f_pend o) (f_queue o) (f_stats o) (f_state o) (f_timer o) (f_rxVal o) (f_rxNext o) (f_rxLead o) (f_rxTrail o) (f_lossLeft o) (f_dups o) (f_drops o) y117 y118 (f_delLen o) (f_lostLog o) (f_lostLen o) (f_nakBuf o) (f_win o) (f_back o) (f_repair o) (f_period o) (f_nextSeq o) (f_qLen o)))) rfl hy118 ?_
    refine QTri.steps Ad W 4 (st' := (46, [some (.ref 0), vI x1, vI x2, vI x3, vI ((x1 * (32 : Int32)) + y116)], [.int x1, .ref 16, .int x1, .ref 16], (H0v (f_srcPayload o) (f_pend o) (f_queue o) (f_stats o) (f_state o) (f_timer o) (f_rxVal o) (f_rxNext o) (f_rxLead o) (f_rxTrail o) (f_lossLeft o) (f_dups o) (f_drops o) y117 y118 (f_delLen o) (f_lostLog o) (f_lostLen o) (f_nakBuf o) (f_win o) (f_back o) (f_repair o) (f_period o) (f_nextSeq o) (f_qLen o)))) rfl ?_
    obtain ⟨y119, hy119, h⟩ := Option.bind_eq_some_iff.mp h
    refine QTri.bnd Ad W (f := fun y119 => (47, [some (.ref 0), vI x1, vI x2, vI x3, vI ((x1 * (32 : Int32)) + y116)], [.int y119, .int x1, .ref 16], (H0v (f_srcPayload o) (f_pend o) (f_queue o) (f_stats o) (f_state o) (f_timer o) (f_rxVal o) (f_rxNext o) (f_rxLead o) (f_rxTrail o) (f_lossLeft o) (f_dups o) (f_drops o) y117 y118 (f_delLen o) (f_lostLog o) (f_lostLen o) (f_nakBuf o) (f_win o) (f_back o) (f_repair o) (f_period o) (f_nextSeq o) (f_qLen o)))) rfl hy119 ?_
    refine QTri.steps Ad W 2 (st' := (49, [some (.ref 0), vI x1, vI x2, vI x3, vI ((x1 * (32 : Int32)) + y116)], [.int (y119 + (1 : Int32)), .int x1, .ref 16], (H0v (f_srcPayload o) (f_pend o) (f_queue o) (f_stats o) (f_state o) (f_timer o) (f_rxVal o) (f_rxNext o) (f_rxLead o) (f_rxTrail o) (f_lossLeft o) (f_dups o) (f_drops o) y117 y118 (f_delLen o) (f_lostLog o) (f_lostLen o) (f_nakBuf o) (f_win o) (f_back o) (f_repair o) (f_period o) (f_nextSeq o) (f_qLen o)))) rfl ?_
    obtain ⟨y120, hy120, h⟩ := Option.bind_eq_some_iff.mp h
    refine QTri.bnd Ad W (f := fun y120 => (50, [some (.ref 0), vI x1, vI x2, vI x3, vI ((x1 * (32 : Int32)) + y116)], [], (H0v (f_srcPayload o) (f_pend o) (f_queue o) (f_stats o) (f_state o) (f_timer o) (f_rxVal o) (f_rxNext o) (f_rxLead o) (f_rxTrail o) (f_lossLeft o) (f_dups o) (f_drops o) y117 y118 y120 (f_lostLog o) (f_lostLen o) (f_nakBuf o) (f_win o) (f_back o) (f_repair o) (f_period o) (f_nextSeq o) (f_qLen o)))) rfl hy120 ?_
    have E121 : ((H0v (f_srcPayload o) (f_pend o) (f_queue o) (f_stats o) (f_state o) (f_timer o) (f_rxVal o) (f_rxNext o) (f_rxLead o) (f_rxTrail o) (f_lossLeft o) (f_dups o) (f_drops o) y117 y118 y120 (f_lostLog o) (f_lostLen o) (f_nakBuf o) (f_win o) (f_back o) (f_repair o) (f_period o) (f_nextSeq o) (f_qLen o)) : QHeap) = (H0 (s_delLen (s_delVal (s_delSeq o y117) y118) y120)) := by dsimp only [H0, H0v, f_srcPayload, f_pend, f_queue, f_stats, f_state, f_timer, f_rxVal, f_rxNext, f_rxLead, f_rxTrail, f_lossLeft, f_dups, f_drops, f_delSeq, f_delVal, f_delLen, f_lostLog, f_lostLen, f_nakBuf, f_win, f_back, f_repair, f_period, f_nextSeq, f_qLen, s_delSeq, s_delVal, s_delLen]
    rw [E121]
    obtain rfl := Option.some.inj h
    exact QTri.ret0 rfl rfl
  · refine QTri.brT Ad W (t := 50) (f := 11) (L := [some (.ref 0), vI x1, vI x2, vI x3, none]) (S := []) (σ := (H0 o)) rfl (XT.ii_ge_t hc115) ?_
    obtain rfl := Option.some.inj h
    exact QTri.ret0 rfl rfl
def J15_73 (o : Ob) (x1 : Int32) (x2 : Int32) : Option (((Ob)) ⊕ (Int32 × Ob)) :=
  (aset (f_rxNext o) x1 (x2 + (1 : Int32))).bind fun y125 => some (.inr ((x2 + (1 : Int32)), (s_rxNext o y125)))
theorem tJ15_73 (Ad : QAd n0 ad) (W : QW Z a0) (o : Ob) (x1 : Int32) (x2 : Int32) {r : ((Ob)) ⊕ (Int32 × Ob)} {u : Option Value} {τ : QHeap} (h : J15_73 o x1 x2 = some r) (hx0 : ∀ x : Ob, r = .inl x → u = (none : Option Value) ∧ τ = (H0 x)) (hc : ∀ x : Int32 × Ob, r = .inr x → QTri l Z n0 ad 15 (7, [some (.ref 0), vI x1, vI x.1, none, none], [], (H0 x.2)) u τ) : QTri l Z n0 ad 15 (73, [some (.ref 0), vI x1, vI x2, none, none], [], (H0 o)) u τ := by
  unfold J15_73 at h
  refine QTri.steps Ad W 6 (st' := (81, [some (.ref 0), vI x1, vI x2, none, none], [.int (x2 + (1 : Int32)), .int x1, .ref 8], (H0 o))) rfl ?_
  obtain ⟨y125, hy125, h⟩ := Option.bind_eq_some_iff.mp h
  refine QTri.bnd Ad W (f := fun y125 => (82, [some (.ref 0), vI x1, vI x2, none, none], [], (H0v (f_srcPayload o) (f_pend o) (f_queue o) (f_stats o) (f_state o) (f_timer o) (f_rxVal o) y125 (f_rxLead o) (f_rxTrail o) (f_lossLeft o) (f_dups o) (f_drops o) (f_delSeq o) (f_delVal o) (f_delLen o) (f_lostLog o) (f_lostLen o) (f_nakBuf o) (f_win o) (f_back o) (f_repair o) (f_period o) (f_nextSeq o) (f_qLen o)))) rfl hy125 ?_
  refine QTri.steps Ad W 2 (st' := (7, [some (.ref 0), vI x1, vI (x2 + (1 : Int32)), none, none], [], (H0v (f_srcPayload o) (f_pend o) (f_queue o) (f_stats o) (f_state o) (f_timer o) (f_rxVal o) y125 (f_rxLead o) (f_rxTrail o) (f_lossLeft o) (f_dups o) (f_drops o) (f_delSeq o) (f_delVal o) (f_delLen o) (f_lostLog o) (f_lostLen o) (f_nakBuf o) (f_win o) (f_back o) (f_repair o) (f_period o) (f_nextSeq o) (f_qLen o)))) rfl ?_
  have E126 : ((H0v (f_srcPayload o) (f_pend o) (f_queue o) (f_stats o) (f_state o) (f_timer o) (f_rxVal o) y125 (f_rxLead o) (f_rxTrail o) (f_lossLeft o) (f_dups o) (f_drops o) (f_delSeq o) (f_delVal o) (f_delLen o) (f_lostLog o) (f_lostLen o) (f_nakBuf o) (f_win o) (f_back o) (f_repair o) (f_period o) (f_nextSeq o) (f_qLen o)) : QHeap) = (H0 (s_rxNext o y125)) := by dsimp only [H0, H0v, f_srcPayload, f_pend, f_queue, f_stats, f_state, f_timer, f_rxVal, f_rxNext, f_rxLead, f_rxTrail, f_lossLeft, f_dups, f_drops, f_delSeq, f_delVal, f_delLen, f_lostLog, f_lostLen, f_nakBuf, f_win, f_back, f_repair, f_period, f_nextSeq, f_qLen, s_rxNext]
  rw [E126]
  obtain rfl := Option.some.inj h
  exact QTri.mask [true, true, true, false, false] (hc ((x2 + (1 : Int32)), (s_rxNext o y125)) rfl)
def J15_48 (o : Ob) (x1 : Int32) (x2 : Int32) (x3 : Int32) (x4 : Int32) : Option (((Ob)) ⊕ (Int32 × Ob)) :=
  (if x4 = (4 : Int32) then (aget (f_rxVal o) x3).bind fun y113 => (F16 o x1 x2 y113).bind fun r122 => (aset (f_state r122) x3 (5 : Int32)).bind fun y123 => (J15_73 (s_state r122 y123) x1 x2) else (J15_73 o x1 x2))
theorem tJ15_48 (Ad : QAd n0 ad) (W : QW Z a0) (o : Ob) (x1 : Int32) (x2 : Int32) (x3 : Int32) (x4 : Int32) {r : ((Ob)) ⊕ (Int32 × Ob)} {u : Option Value} {τ : QHeap} (h : J15_48 o x1 x2 x3 x4 = some r) (hx0 : ∀ x : Ob, r = .inl x → u = (none : Option Value) ∧ τ = (H0 x)) (hc : ∀ x : Int32 × Ob, r = .inr x → QTri l Z n0 ad 15 (7, [some (.ref 0), vI x1, vI x.1, none, none], [], (H0 x.2)) u τ) : QTri l Z n0 ad 15 (48, [some (.ref 0), vI x1, vI x2, vI x3, vI x4], [], (H0 o)) u τ := by
  unfold J15_48 at h
  refine QTri.steps Ad W 2 (st' := (51, [some (.ref 0), vI x1, vI x2, vI x3, vI x4], [.int (4 : Int32), .int x4], (H0 o))) rfl ?_
  rcases qite h with ⟨hc112, h⟩ | ⟨hc112, h⟩
  · refine QTri.brF Ad W (t := 73) (f := 54) (L := [some (.ref 0), vI x1, vI x2, vI x3, vI x4]) (S := []) (σ := (H0 o)) rfl (XT.ii_ne_f hc112) ?_
    refine QTri.steps Ad W 6 (st' := (62, [some (.ref 0), vI x1, vI x2, vI x3, vI x4], [.int x3, .ref 7, .int x2, .int x1, .ref 0], (H0 o))) rfl ?_
    obtain ⟨y113, hy113, h⟩ := Option.bind_eq_some_iff.mp h
    refine QTri.bnd Ad W (f := fun y113 => (63, [some (.ref 0), vI x1, vI x2, vI x3, vI x4], [.int y113, .int x2, .int x1, .ref 0], (H0 o))) rfl hy113 ?_
    obtain ⟨r122, hr122, h⟩ := Option.bind_eq_some_iff.mp h
    refine QTri.callP W (a := 0) (as := [.int x1, .int x2, .int y113]) (rest := []) (w := none) (σ₁ := (H0 r122)) rfl rfl rfl rfl rfl rfl rfl rfl (tF16 Ad W o x1 x2 y113 hr122) ?_
    refine QTri.steps Ad W 4 (st' := (72, [some (.ref 0), vI x1, vI x2, vI x3, vI x4], [.int (5 : Int32), .int x3, .ref 5], (H0 r122))) rfl ?_
    obtain ⟨y123, hy123, h⟩ := Option.bind_eq_some_iff.mp h
    refine QTri.bnd Ad W (f := fun y123 => (73, [some (.ref 0), vI x1, vI x2, vI x3, vI x4], [], (H0v (f_srcPayload r122) (f_pend r122) (f_queue r122) (f_stats r122) y123 (f_timer r122) (f_rxVal r122) (f_rxNext r122) (f_rxLead r122) (f_rxTrail r122) (f_lossLeft r122) (f_dups r122) (f_drops r122) (f_delSeq r122) (f_delVal r122) (f_delLen r122) (f_lostLog r122) (f_lostLen r122) (f_nakBuf r122) (f_win r122) (f_back r122) (f_repair r122) (f_period r122) (f_nextSeq r122) (f_qLen r122)))) rfl hy123 ?_
    have E124 : ((H0v (f_srcPayload r122) (f_pend r122) (f_queue r122) (f_stats r122) y123 (f_timer r122) (f_rxVal r122) (f_rxNext r122) (f_rxLead r122) (f_rxTrail r122) (f_lossLeft r122) (f_dups r122) (f_drops r122) (f_delSeq r122) (f_delVal r122) (f_delLen r122) (f_lostLog r122) (f_lostLen r122) (f_nakBuf r122) (f_win r122) (f_back r122) (f_repair r122) (f_period r122) (f_nextSeq r122) (f_qLen r122)) : QHeap) = (H0 (s_state r122 y123)) := by dsimp only [H0, H0v, f_srcPayload, f_pend, f_queue, f_stats, f_state, f_timer, f_rxVal, f_rxNext, f_rxLead, f_rxTrail, f_lossLeft, f_dups, f_drops, f_delSeq, f_delVal, f_delLen, f_lostLog, f_lostLen, f_nakBuf, f_win, f_back, f_repair, f_period, f_nextSeq, f_qLen, s_state]
    rw [E124]
    exact QTri.mask [true, true, true, false, false] (tJ15_73 Ad W (s_state r122 y123) x1 x2 h hx0 hc)
  · refine QTri.brT Ad W (t := 73) (f := 54) (L := [some (.ref 0), vI x1, vI x2, vI x3, vI x4]) (S := []) (σ := (H0 o)) rfl (XT.ii_ne_t hc112) ?_
    exact QTri.mask [true, true, true, false, false] (tJ15_73 Ad W o x1 x2 h hx0 hc)
def B15_7 (x1 : Int32) (v : Int32 × Ob) : Option (((Ob)) ⊕ (Int32 × Ob)) :=
  (if v.1 < (0 : Int32) then some (.inl v.2) else (if v.1 < (32 : Int32) then (aget (f_state v.2) ((x1 * (32 : Int32)) + v.1)).bind fun y110 => (if y110 = (4 : Int32) then (J15_48 v.2 x1 v.1 ((x1 * (32 : Int32)) + v.1) y110) else (if y110 = (6 : Int32) then (J15_48 v.2 x1 v.1 ((x1 * (32 : Int32)) + v.1) y110) else some (.inl v.2))) else some (.inl v.2)))
theorem tB15_7 (Ad : QAd n0 ad) (W : QW Z a0) (x1 : Int32) (v : Int32 × Ob) {r : ((Ob)) ⊕ (Int32 × Ob)} {u : Option Value} {τ : QHeap} (h : B15_7 x1 v = some r) (hx0 : ∀ x : Ob, r = .inl x → u = (none : Option Value) ∧ τ = (H0 x)) (hc : ∀ x : Int32 × Ob, r = .inr x → QTri l Z n0 ad 15 (7, [some (.ref 0), vI x1, vI x.1, none, none], [], (H0 x.2)) u τ) : QTri l Z n0 ad 15 (7, [some (.ref 0), vI x1, vI v.1, none, none], [], (H0 v.2)) u τ := by
  unfold B15_7 at h
  refine QTri.steps Ad W 1 (st' := (8, [some (.ref 0), vI x1, vI v.1, none, none], [.int v.1], (H0 v.2))) rfl ?_
  rcases qite h with ⟨hc108, h⟩ | ⟨hc108, h⟩
  · refine QTri.brT Ad W (t := 88) (f := 11) (L := [some (.ref 0), vI x1, vI v.1, none, none]) (S := []) (σ := (H0 v.2)) rfl (XT.i0_lt_t hc108) ?_
    obtain rfl := Option.some.inj h
    obtain ⟨rfl, rfl⟩ := hx0 v.2 rfl
    exact QTri.ret0 rfl rfl
  · refine QTri.brF Ad W (t := 88) (f := 11) (L := [some (.ref 0), vI x1, vI v.1, none, none]) (S := []) (σ := (H0 v.2)) rfl (XT.i0_lt_f hc108) ?_
    refine QTri.steps Ad W 2 (st' := (14, [some (.ref 0), vI x1, vI v.1, none, none], [.int (32 : Int32), .int v.1], (H0 v.2))) rfl ?_
    rcases qite h with ⟨hc109, h⟩ | ⟨hc109, h⟩
    · refine QTri.brF Ad W (t := 88) (f := 17) (L := [some (.ref 0), vI x1, vI v.1, none, none]) (S := []) (σ := (H0 v.2)) rfl (XT.ii_ge_f hc109) ?_
      refine QTri.steps Ad W 9 (st' := (29, [some (.ref 0), vI x1, vI v.1, vI ((x1 * (32 : Int32)) + v.1), none], [.int ((x1 * (32 : Int32)) + v.1), .ref 5], (H0 v.2))) rfl ?_
      obtain ⟨y110, hy110, h⟩ := Option.bind_eq_some_iff.mp h
      refine QTri.bnd Ad W (f := fun y110 => (30, [some (.ref 0), vI x1, vI v.1, vI ((x1 * (32 : Int32)) + v.1), none], [.int y110], (H0 v.2))) rfl hy110 ?_
      refine QTri.steps Ad W 3 (st' := (35, [some (.ref 0), vI x1, vI v.1, vI ((x1 * (32 : Int32)) + v.1), vI y110], [.int (4 : Int32), .int y110], (H0 v.2))) rfl ?_
      rcases qite h with ⟨hc111, h⟩ | ⟨hc111, h⟩
      · refine QTri.brT Ad W (t := 48) (f := 38) (L := [some (.ref 0), vI x1, vI v.1, vI ((x1 * (32 : Int32)) + v.1), vI y110]) (S := []) (σ := (H0 v.2)) rfl (XT.ii_eq_t hc111) ?_
        exact QTri.mask [true, true, true, true, true] (tJ15_48 Ad W v.2 x1 v.1 ((x1 * (32 : Int32)) + v.1) y110 h hx0 hc)
      · refine QTri.brF Ad W (t := 48) (f := 38) (L := [some (.ref 0), vI x1, vI v.1, vI ((x1 * (32 : Int32)) + v.1), vI y110]) (S := []) (σ := (H0 v.2)) rfl (XT.ii_eq_f hc111) ?_
        refine QTri.steps Ad W 2 (st' := (42, [some (.ref 0), vI x1, vI v.1, vI ((x1 * (32 : Int32)) + v.1), vI y110], [.int (6 : Int32), .int y110], (H0 v.2))) rfl ?_
        rcases qite h with ⟨hc127, h⟩ | ⟨hc127, h⟩
        · refine QTri.brT Ad W (t := 48) (f := 45) (L := [some (.ref 0), vI x1, vI v.1, vI ((x1 * (32 : Int32)) + v.1), vI y110]) (S := []) (σ := (H0 v.2)) rfl (XT.ii_eq_t hc127) ?_
          exact QTri.mask [true, true, true, true, true] (tJ15_48 Ad W v.2 x1 v.1 ((x1 * (32 : Int32)) + v.1) y110 h hx0 hc)
        · refine QTri.brF Ad W (t := 48) (f := 45) (L := [some (.ref 0), vI x1, vI v.1, vI ((x1 * (32 : Int32)) + v.1), vI y110]) (S := []) (σ := (H0 v.2)) rfl (XT.ii_eq_f hc127) ?_
          refine QTri.steps Ad W 1 (st' := (88, [some (.ref 0), vI x1, vI v.1, vI ((x1 * (32 : Int32)) + v.1), vI y110], [], (H0 v.2))) rfl ?_
          obtain rfl := Option.some.inj h
          obtain ⟨rfl, rfl⟩ := hx0 v.2 rfl
          exact QTri.ret0 rfl rfl
    · refine QTri.brT Ad W (t := 88) (f := 17) (L := [some (.ref 0), vI x1, vI v.1, none, none]) (S := []) (σ := (H0 v.2)) rfl (XT.ii_ge_t hc109) ?_
      obtain rfl := Option.some.inj h
      obtain ⟨rfl, rfl⟩ := hx0 v.2 rfl
      exact QTri.ret0 rfl rfl
/-- deliver(I)V -/
def F15 (o : Ob) (x1 : Int32) : Option (Ob) :=
  (aget (f_rxNext o) x1).bind fun y107 => (loopN (B15_7 x1) qN (y107, o)).bind fun e128 => some e128
theorem tF15 (Ad : QAd n0 ad) (W : QW Z a0) (o : Ob) (x1 : Int32) {r : Ob} (h : F15 o x1 = some r) : QTri l Z n0 ad 15 (0, qentry [.ref 0, .int x1] (pMaxL 15), [], (H0 o)) (none : Option Value) (H0 r) := by
  unfold F15 at h
  refine QTri.steps Ad W 3 (st' := (5, [some (.ref 0), vI x1, none, none, none], [.int x1, .ref 8], (H0 o))) rfl ?_
  obtain ⟨y107, hy107, h⟩ := Option.bind_eq_some_iff.mp h
  refine QTri.bnd Ad W (f := fun y107 => (6, [some (.ref 0), vI x1, none, none, none], [.int y107], (H0 o))) rfl hy107 ?_
  refine QTri.steps Ad W 1 (st' := (7, [some (.ref 0), vI x1, vI y107, none, none], [], (H0 o))) rfl ?_
  obtain ⟨e128, he128, h⟩ := Option.bind_eq_some_iff.mp h
  refine QTri.mask [true, true, true, false, false] (loopN_tri (B := B15_7 x1) (T := fun lv129 => QTri l Z n0 ad 15 (7, [some (.ref 0), vI x1, vI lv129.1, none, none], [], (H0 lv129.2)) (none : Option Value) (H0 r)) (KE := fun e128a => (none : Option Value) = (none : Option Value) ∧ (H0 r) = (H0 e128a)) (fun lv129 r hB hE hC => tB15_7 Ad W x1 lv129 hB (fun x q => hE _ q) (fun x q => hC x q)) qN (y107, o) e128 he128 ?_)
  obtain rfl := Option.some.inj h
  exact ⟨rfl, rfl⟩
def J11_76 (o : Ob) (x1 : Int32) (x4 : Int32) (x5 : Int32) : Option (Ob) :=
  (F13 o x1 x4).bind fun r87 => (F14 r87 x1 x5).bind fun r106 => (F15 r106 x1).bind fun r130 => some r130
theorem tJ11_76 (Ad : QAd n0 ad) (W : QW Z a0) (o : Ob) (x1 : Int32) (x4 : Int32) (x5 : Int32) {r : Ob} (h : J11_76 o x1 x4 x5 = some r) : QTri l Z n0 ad 11 (76, [some (.ref 0), vI x1, none, none, vI x4, vI x5, none, none], [], (H0 o)) (none : Option Value) (H0 r) := by
  unfold J11_76 at h
  refine QTri.steps Ad W 3 (st' := (80, [some (.ref 0), vI x1, none, none, vI x4, vI x5, none, none], [.int x4, .int x1, .ref 0], (H0 o))) rfl ?_
  obtain ⟨r87, hr87, h⟩ := Option.bind_eq_some_iff.mp h
  refine QTri.callP W (a := 0) (as := [.int x1, .int x4]) (rest := []) (w := none) (σ₁ := (H0 r87)) rfl rfl rfl rfl rfl rfl rfl rfl (tF13 Ad W o x1 x4 hr87) ?_
  refine QTri.steps Ad W 3 (st' := (87, [some (.ref 0), vI x1, none, none, vI x4, vI x5, none, none], [.int x5, .int x1, .ref 0], (H0 r87))) rfl ?_
  obtain ⟨r106, hr106, h⟩ := Option.bind_eq_some_iff.mp h
  refine QTri.callP W (a := 0) (as := [.int x1, .int x5]) (rest := []) (w := none) (σ₁ := (H0 r106)) rfl rfl rfl rfl rfl rfl rfl rfl (tF14 Ad W r87 x1 x5 hr106) ?_
  refine QTri.steps Ad W 2 (st' := (92, [some (.ref 0), vI x1, none, none, vI x4, vI x5, none, none], [.int x1, .ref 0], (H0 r106))) rfl ?_
  obtain ⟨r130, hr130, h⟩ := Option.bind_eq_some_iff.mp h
  refine QTri.callP W (a := 0) (as := [.int x1]) (rest := []) (w := none) (σ₁ := (H0 r130)) rfl rfl rfl rfl rfl rfl rfl rfl (tF15 Ad W r106 x1 hr130) ?_
  obtain rfl := Option.some.inj h
  exact QTri.ret0 rfl rfl
/-- applyData(IIIII)V -/
def F11 (o : Ob) (x1 : Int32) (x2 : Int32) (x3 : Int32) (x4 : Int32) (x5 : Int32) : Option (Ob) :=
  (F12 x2).bind fun r70 => (if r70 = (0 : Int32) then (J11_76 o x1 x4 x5) else (aget (f_state o) ((x1 * (32 : Int32)) + x2)).bind fun y131 => (if y131 = (0 : Int32) then (aset (f_state o) ((x1 * (32 : Int32)) + x2) (4 : Int32)).bind fun y133 => (aset (f_rxVal o) ((x1 * (32 : Int32)) + x2) x3).bind fun y134 => (aset (f_timer o) ((x1 * (32 : Int32)) + x2) (0 : Int32)).bind fun y135 => (J11_76 (s_timer (s_rxVal (s_state o y133) y134) y135) x1 x4 x5) else none))
theorem tF11 (Ad : QAd n0 ad) (W : QW Z a0) (o : Ob) (x1 : Int32) (x2 : Int32) (x3 : Int32) (x4 : Int32) (x5 : Int32) {r : Ob} (h : F11 o x1 x2 x3 x4 x5 = some r) : QTri l Z n0 ad 11 (0, qentry [.ref 0, .int x1, .int x2, .int x3, .int x4, .int x5] (pMaxL 11), [], (H0 o)) (none : Option Value) (H0 r) := by
  unfold F11 at h
  refine QTri.steps Ad W 2 (st' := (2, [some (.ref 0), vI x1, vI x2, vI x3, vI x4, vI x5, none, none], [.int x2, .ref 0], (H0 o))) rfl ?_
  obtain ⟨r70, hr70, h⟩ := Option.bind_eq_some_iff.mp h
  refine QTri.callP W (a := 0) (as := [.int x2]) (rest := []) (w := (some (.int r70))) (σ₁ := (H0 o)) rfl rfl rfl rfl rfl rfl rfl rfl (tF12 Ad W x2 hr70) ?_
  rcases qite h with ⟨hc71, h⟩ | ⟨hc71, h⟩
  · refine QTri.brT Ad W (t := 76) (f := 8) (L := [some (.ref 0), vI x1, vI x2, vI x3, vI x4, vI x5, none, none]) (S := []) (σ := (H0 o)) rfl (XT.i0_eq_t hc71) ?_
    exact QTri.mask [true, true, false, false, true, true, false, false] (tJ11_76 Ad W o x1 x4 x5 h)
  · refine QTri.brF Ad W (t := 76) (f := 8) (L := [some (.ref 0), vI x1, vI x2, vI x3, vI x4, vI x5, none, none]) (S := []) (σ := (H0 o)) rfl (XT.i0_eq_f hc71) ?_
    refine QTri.steps Ad W 9 (st' := (22, [some (.ref 0), vI x1, vI x2, vI x3, vI x4, vI x5, vI ((x1 * (32 : Int32)) + x2), none], [.int ((x1 * (32 : Int32)) + x2), .ref 5], (H0 o))) rfl ?_
    obtain ⟨y131, hy131, h⟩ := Option.bind_eq_some_iff.mp h
    refine QTri.bnd Ad W (f := fun y131 => (23, [some (.ref 0), vI x1, vI x2, vI x3, vI x4, vI x5, vI ((x1 * (32 : Int32)) + x2), none], [.int y131], (H0 o))) rfl hy131 ?_
    refine QTri.steps Ad W 2 (st' := (27, [some (.ref 0), vI x1, vI x2, vI x3, vI x4, vI x5, vI ((x1 * (32 : Int32)) + x2), vI y131], [.int y131], (H0 o))) rfl ?_
    rcases qite h with ⟨hc132, h⟩ | ⟨hc132, h⟩
    · refine QTri.brT Ad W (t := 39) (f := 30) (L := [some (.ref 0), vI x1, vI x2, vI x3, vI x4, vI x5, vI ((x1 * (32 : Int32)) + x2), vI y131]) (S := []) (σ := (H0 o)) rfl (XT.i0_eq_t hc132) ?_
      refine QTri.steps Ad W 4 (st' := (46, [some (.ref 0), vI x1, vI x2, vI x3, vI x4, vI x5, vI ((x1 * (32 : Int32)) + x2), vI y131], [.int (4 : Int32), .int ((x1 * (32 : Int32)) + x2), .ref 5], (H0 o))) rfl ?_
      obtain ⟨y133, hy133, h⟩ := Option.bind_eq_some_iff.mp h
      refine QTri.bnd Ad W (f := fun y133 => (47, [some (.ref 0), vI x1, vI x2, vI x3, vI x4, vI x5, vI ((x1 * (32 : Int32)) + x2), vI y131], [], (H0v (f_srcPayload o) (f_pend o) (f_queue o) (f_stats o) y133 (f_timer o) (f_rxVal o) (f_rxNext o) (f_rxLead o) (f_rxTrail o) (f_lossLeft o) (f_dups o) (f_drops o) (f_delSeq o) (f_delVal o) (f_delLen o) (f_lostLog o) (f_lostLen o) (f_nakBuf o) (f_win o) (f_back o) (f_repair o) (f_period o) (f_nextSeq o) (f_qLen o)))) rfl hy133 ?_
      refine QTri.steps Ad W 4 (st' := (54, [some (.ref 0), vI x1, vI x2, vI x3, vI x4, vI x5, vI ((x1 * (32 : Int32)) + x2), vI y131], [.int x3, .int ((x1 * (32 : Int32)) + x2), .ref 7], (H0v (f_srcPayload o) (f_pend o) (f_queue o) (f_stats o) y133 (f_timer o) (f_rxVal o) (f_rxNext o) (f_rxLead o) (f_rxTrail o) (f_lossLeft o) (f_dups o) (f_drops o) (f_delSeq o) (f_delVal o) (f_delLen o) (f_lostLog o) (f_lostLen o) (f_nakBuf o) (f_win o) (f_back o) (f_repair o) (f_period o) (f_nextSeq o) (f_qLen o)))) rfl ?_
      obtain ⟨y134, hy134, h⟩ := Option.bind_eq_some_iff.mp h
      refine QTri.bnd Ad W (f := fun y134 => (55, [some (.ref 0), vI x1, vI x2, vI x3, vI x4, vI x5, vI ((x1 * (32 : Int32)) + x2), vI y131], [], (H0v (f_srcPayload o) (f_pend o) (f_queue o) (f_stats o) y133 (f_timer o) y134 (f_rxNext o) (f_rxLead o) (f_rxTrail o) (f_lossLeft o) (f_dups o) (f_drops o) (f_delSeq o) (f_delVal o) (f_delLen o) (f_lostLog o) (f_lostLen o) (f_nakBuf o) (f_win o) (f_back o) (f_repair o) (f_period o) (f_nextSeq o) (f_qLen o)))) rfl hy134 ?_
      refine QTri.steps Ad W 4 (st' := (62, [some (.ref 0), vI x1, vI x2, vI x3, vI x4, vI x5, vI ((x1 * (32 : Int32)) + x2), vI y131], [.int (0 : Int32), .int ((x1 * (32 : Int32)) + x2), .ref 6], (H0v (f_srcPayload o) (f_pend o) (f_queue o) (f_stats o) y133 (f_timer o) y134 (f_rxNext o) (f_rxLead o) (f_rxTrail o) (f_lossLeft o) (f_dups o) (f_drops o) (f_delSeq o) (f_delVal o) (f_delLen o) (f_lostLog o) (f_lostLen o) (f_nakBuf o) (f_win o) (f_back o) (f_repair o) (f_period o) (f_nextSeq o) (f_qLen o)))) rfl ?_
      obtain ⟨y135, hy135, h⟩ := Option.bind_eq_some_iff.mp h
      refine QTri.bnd Ad W (f := fun y135 => (63, [some (.ref 0), vI x1, vI x2, vI x3, vI x4, vI x5, vI ((x1 * (32 : Int32)) + x2), vI y131], [], (H0v (f_srcPayload o) (f_pend o) (f_queue o) (f_stats o) y133 y135 y134 (f_rxNext o) (f_rxLead o) (f_rxTrail o) (f_lossLeft o) (f_dups o) (f_drops o) (f_delSeq o) (f_delVal o) (f_delLen o) (f_lostLog o) (f_lostLen o) (f_nakBuf o) (f_win o) (f_back o) (f_repair o) (f_period o) (f_nextSeq o) (f_qLen o)))) rfl hy135 ?_
      refine QTri.steps Ad W 1 (st' := (76, [some (.ref 0), vI x1, vI x2, vI x3, vI x4, vI x5, vI ((x1 * (32 : Int32)) + x2), vI y131], [], (H0v (f_srcPayload o) (f_pend o) (f_queue o) (f_stats o) y133 y135 y134 (f_rxNext o) (f_rxLead o) (f_rxTrail o) (f_lossLeft o) (f_dups o) (f_drops o) (f_delSeq o) (f_delVal o) (f_delLen o) (f_lostLog o) (f_lostLen o) (f_nakBuf o) (f_win o) (f_back o) (f_repair o) (f_period o) (f_nextSeq o) (f_qLen o)))) rfl ?_
      have E136 : ((H0v (f_srcPayload o) (f_pend o) (f_queue o) (f_stats o) y133 y135 y134 (f_rxNext o) (f_rxLead o) (f_rxTrail o) (f_lossLeft o) (f_dups o) (f_drops o) (f_delSeq o) (f_delVal o) (f_delLen o) (f_lostLog o) (f_lostLen o) (f_nakBuf o) (f_win o) (f_back o) (f_repair o) (f_period o) (f_nextSeq o) (f_qLen o)) : QHeap) = (H0 (s_timer (s_rxVal (s_state o y133) y134) y135)) := by dsimp only [H0, H0v, f_srcPayload, f_pend, f_queue, f_stats, f_state, f_timer, f_rxVal, f_rxNext, f_rxLead, f_rxTrail, f_lossLeft, f_dups, f_drops, f_delSeq, f_delVal, f_delLen, f_lostLog, f_lostLen, f_nakBuf, f_win, f_back, f_repair, f_period, f_nextSeq, f_qLen, s_state, s_timer, s_rxVal]
      rw [E136]
      exact QTri.mask [true, true, false, false, true, true, false, false] (tJ11_76 Ad W (s_timer (s_rxVal (s_state o y133) y134) y135) x1 x4 x5 h)
    · refine QTri.brF Ad W (t := 39) (f := 30) (L := [some (.ref 0), vI x1, vI x2, vI x3, vI x4, vI x5, vI ((x1 * (32 : Int32)) + x2), vI y131]) (S := []) (σ := (H0 o)) rfl (XT.i0_eq_f hc132) ?_
      cases h
def J10_50 (o : Ob) (x1 : Int32) (x3 : Int32) (x4 : Int32) (x5 : Int32) (x6 : Int32) : Option (Ob) :=
  (F11 o x1 x3 x4 x5 x6).bind fun r137 => some r137
theorem tJ10_50 (Ad : QAd n0 ad) (W : QW Z a0) (o : Ob) (x1 : Int32) (x3 : Int32) (x4 : Int32) (x5 : Int32) (x6 : Int32) {r : Ob} (h : J10_50 o x1 x3 x4 x5 x6 = some r) : QTri l Z n0 ad 10 (50, [some (.ref 0), vI x1, none, vI x3, vI x4, vI x5, vI x6], [], (H0 o)) (none : Option Value) (H0 r) := by
  unfold J10_50 at h
  refine QTri.steps Ad W 6 (st' := (59, [some (.ref 0), vI x1, none, vI x3, vI x4, vI x5, vI x6], [.int x6, .int x5, .int x4, .int x3, .int x1, .ref 0], (H0 o))) rfl ?_
  obtain ⟨r137, hr137, h⟩ := Option.bind_eq_some_iff.mp h
  refine QTri.callP W (a := 0) (as := [.int x1, .int x3, .int x4, .int x5, .int x6]) (rest := []) (w := none) (σ₁ := (H0 r137)) rfl rfl rfl rfl rfl rfl rfl rfl (tF11 Ad W o x1 x3 x4 x5 x6 hr137) ?_
  refine QTri.steps Ad W 1 (st' := (98, [some (.ref 0), vI x1, none, vI x3, vI x4, vI x5, vI x6], [], (H0 r137))) rfl ?_
  obtain rfl := Option.some.inj h
  exact QTri.ret0 rfl rfl
/-- copyTo(IIIIII)V -/
def F10 (o : Ob) (x1 : Int32) (x2 : Int32) (x3 : Int32) (x4 : Int32) (x5 : Int32) (x6 : Int32) : Option (Ob) :=
  (aget (f_lossLeft o) x1).bind fun y60 => (if (0 : Int32) < y60 then (aget (f_lossLeft o) x1).bind fun y62 => (aset (f_lossLeft o) x1 (y62 - (1 : Int32))).bind fun y63 => (aget (f_drops o) x1).bind fun y64 => (aset (f_drops o) x1 (y64 + (1 : Int32))).bind fun y65 => (aget (f_stats o) (9 : Int32)).bind fun y66 => (aset (f_stats o) (9 : Int32) (y66 + (1 : Int32))).bind fun y67 => some (s_stats (s_drops (s_lossLeft o y63) y65) y67) else (if x2 = (0 : Int32) then (J10_50 o x1 x3 x4 x5 x6) else (if x2 = (1 : Int32) then (J10_50 o x1 x3 x4 x5 x6) else (if x2 = (2 : Int32) then (F13 o x1 x5).bind fun r140 => (F14 r140 x1 x6).bind fun r141 => (F15 r141 x1).bind fun r142 => some r142 else none))))
theorem tF10 (Ad : QAd n0 ad) (W : QW Z a0) (o : Ob) (x1 : Int32) (x2 : Int32) (x3 : Int32) (x4 : Int32) (x5 : Int32) (x6 : Int32) {r : Ob} (h : F10 o x1 x2 x3 x4 x5 x6 = some r) : QTri l Z n0 ad 10 (0, qentry [.ref 0, .int x1, .int x2, .int x3, .int x4, .int x5, .int x6] (pMaxL 10), [], (H0 o)) (none : Option Value) (H0 r) := by
  unfold F10 at h
  refine QTri.steps Ad W 3 (st' := (5, [some (.ref 0), vI x1, vI x2, vI x3, vI x4, vI x5, vI x6], [.int x1, .ref 11], (H0 o))) rfl ?_
  obtain ⟨y60, hy60, h⟩ := Option.bind_eq_some_iff.mp h
  refine QTri.bnd Ad W (f := fun y60 => (6, [some (.ref 0), vI x1, vI x2, vI x3, vI x4, vI x5, vI x6], [.int y60], (H0 o))) rfl hy60 ?_
  rcases qite h with ⟨hc61, h⟩ | ⟨hc61, h⟩
  · refine QTri.brF Ad W (t := 41) (f := 9) (L := [some (.ref 0), vI x1, vI x2, vI x3, vI x4, vI x5, vI x6]) (S := []) (σ := (H0 o)) rfl (XT.i0_le_f hc61) ?_
    refine QTri.steps Ad W 4 (st' := (15, [some (.ref 0), vI x1, vI x2, vI x3, vI x4, vI x5, vI x6], [.int x1, .ref 11, .int x1, .ref 11], (H0 o))) rfl ?_
    obtain ⟨y62, hy62, h⟩ := Option.bind_eq_some_iff.mp h
    refine QTri.bnd Ad W (f := fun y62 => (16, [some (.ref 0), vI x1, vI x2, vI x3, vI x4, vI x5, vI x6], [.int y62, .int x1, .ref 11], (H0 o))) rfl hy62 ?_
    refine QTri.steps Ad W 2 (st' := (18, [some (.ref 0), vI x1, vI x2, vI x3, vI x4, vI x5, vI x6], [.int (y62 - (1 : Int32)), .int x1, .ref 11], (H0 o))) rfl ?_
    obtain ⟨y63, hy63, h⟩ := Option.bind_eq_some_iff.mp h
    refine QTri.bnd Ad W (f := fun y63 => (19, [some (.ref 0), vI x1, vI x2, vI x3, vI x4, vI x5, vI x6], [], (H0v (f_srcPayload o) (f_pend o) (f_queue o) (f_stats o) (f_state o) (f_timer o) (f_rxVal o) (f_rxNext o) (f_rxLead o) (f_rxTrail o) y63 (f_dups o) (f_drops o) (f_delSeq o) (f_delVal o) (f_delLen o) (f_lostLog o) (f_lostLen o) (f_nakBuf o) (f_win o) (f_back o) (f_repair o) (f_period o) (f_nextSeq o) (f_qLen o)))) rfl hy63 ?_
    refine QTri.steps Ad W 4 (st' := (25, [some (.ref 0), vI x1, vI x2, vI x3, vI x4, vI x5, vI x6], [.int x1, .ref 13, .int x1, .ref 13], (H0v (f_srcPayload o) (f_pend o) (f_queue o) (f_stats o) (f_state o) (f_timer o) (f_rxVal o) (f_rxNext o) (f_rxLead o) (f_rxTrail o) y63 (f_dups o) (f_drops o) (f_delSeq o) (f_delVal o) (f_delLen o) (f_lostLog o) (f_lostLen o) (f_nakBuf o) (f_win o) (f_back o) (f_repair o) (f_period o) (f_nextSeq o) (f_qLen o)))) rfl ?_
    obtain ⟨y64, hy64, h⟩ := Option.bind_eq_some_iff.mp h
    refine QTri.bnd Ad W (f := fun y64 => (26, [some (.ref 0), vI x1, vI x2, vI x3, vI x4, vI x5, vI x6], [.int y64, .int x1, .ref 13], (H0v (f_srcPayload o) (f_pend o) (f_queue o) (f_stats o) (f_state o) (f_timer o) (f_rxVal o) (f_rxNext o) (f_rxLead o) (f_rxTrail o) y63 (f_dups o) (f_drops o) (f_delSeq o) (f_delVal o) (f_delLen o) (f_lostLog o) (f_lostLen o) (f_nakBuf o) (f_win o) (f_back o) (f_repair o) (f_period o) (f_nextSeq o) (f_qLen o)))) rfl hy64 ?_
    refine QTri.steps Ad W 2 (st' := (28, [some (.ref 0), vI x1, vI x2, vI x3, vI x4, vI x5, vI x6], [.int (y64 + (1 : Int32)), .int x1, .ref 13], (H0v (f_srcPayload o) (f_pend o) (f_queue o) (f_stats o) (f_state o) (f_timer o) (f_rxVal o) (f_rxNext o) (f_rxLead o) (f_rxTrail o) y63 (f_dups o) (f_drops o) (f_delSeq o) (f_delVal o) (f_delLen o) (f_lostLog o) (f_lostLen o) (f_nakBuf o) (f_win o) (f_back o) (f_repair o) (f_period o) (f_nextSeq o) (f_qLen o)))) rfl ?_
    obtain ⟨y65, hy65, h⟩ := Option.bind_eq_some_iff.mp h
    refine QTri.bnd Ad W (f := fun y65 => (29, [some (.ref 0), vI x1, vI x2, vI x3, vI x4, vI x5, vI x6], [], (H0v (f_srcPayload o) (f_pend o) (f_queue o) (f_stats o) (f_state o) (f_timer o) (f_rxVal o) (f_rxNext o) (f_rxLead o) (f_rxTrail o) y63 (f_dups o) y65 (f_delSeq o) (f_delVal o) (f_delLen o) (f_lostLog o) (f_lostLen o) (f_nakBuf o) (f_win o) (f_back o) (f_repair o) (f_period o) (f_nextSeq o) (f_qLen o)))) rfl hy65 ?_
    refine QTri.steps Ad W 4 (st' := (36, [some (.ref 0), vI x1, vI x2, vI x3, vI x4, vI x5, vI x6], [.int (9 : Int32), .ref 4, .int (9 : Int32), .ref 4], (H0v (f_srcPayload o) (f_pend o) (f_queue o) (f_stats o) (f_state o) (f_timer o) (f_rxVal o) (f_rxNext o) (f_rxLead o) (f_rxTrail o) y63 (f_dups o) y65 (f_delSeq o) (f_delVal o) (f_delLen o) (f_lostLog o) (f_lostLen o) (f_nakBuf o) (f_win o) (f_back o) (f_repair o) (f_period o) (f_nextSeq o) (f_qLen o)))) rfl ?_
    obtain ⟨y66, hy66, h⟩ := Option.bind_eq_some_iff.mp h
    refine QTri.bnd Ad W (f := fun y66 => (37, [some (.ref 0), vI x1, vI x2, vI x3, vI x4, vI x5, vI x6], [.int y66, .int (9 : Int32), .ref 4], (H0v (f_srcPayload o) (f_pend o) (f_queue o) (f_stats o) (f_state o) (f_timer o) (f_rxVal o) (f_rxNext o) (f_rxLead o) (f_rxTrail o) y63 (f_dups o) y65 (f_delSeq o) (f_delVal o) (f_delLen o) (f_lostLog o) (f_lostLen o) (f_nakBuf o) (f_win o) (f_back o) (f_repair o) (f_period o) (f_nextSeq o) (f_qLen o)))) rfl hy66 ?_
    refine QTri.steps Ad W 2 (st' := (39, [some (.ref 0), vI x1, vI x2, vI x3, vI x4, vI x5, vI x6], [.int (y66 + (1 : Int32)), .int (9 : Int32), .ref 4], (H0v (f_srcPayload o) (f_pend o) (f_queue o) (f_stats o) (f_state o) (f_timer o) (f_rxVal o) (f_rxNext o) (f_rxLead o) (f_rxTrail o) y63 (f_dups o) y65 (f_delSeq o) (f_delVal o) (f_delLen o) (f_lostLog o) (f_lostLen o) (f_nakBuf o) (f_win o) (f_back o) (f_repair o) (f_period o) (f_nextSeq o) (f_qLen o)))) rfl ?_
    obtain ⟨y67, hy67, h⟩ := Option.bind_eq_some_iff.mp h
    refine QTri.bnd Ad W (f := fun y67 => (40, [some (.ref 0), vI x1, vI x2, vI x3, vI x4, vI x5, vI x6], [], (H0v (f_srcPayload o) (f_pend o) (f_queue o) y67 (f_state o) (f_timer o) (f_rxVal o) (f_rxNext o) (f_rxLead o) (f_rxTrail o) y63 (f_dups o) y65 (f_delSeq o) (f_delVal o) (f_delLen o) (f_lostLog o) (f_lostLen o) (f_nakBuf o) (f_win o) (f_back o) (f_repair o) (f_period o) (f_nextSeq o) (f_qLen o)))) rfl hy67 ?_
    have E68 : ((H0v (f_srcPayload o) (f_pend o) (f_queue o) y67 (f_state o) (f_timer o) (f_rxVal o) (f_rxNext o) (f_rxLead o) (f_rxTrail o) y63 (f_dups o) y65 (f_delSeq o) (f_delVal o) (f_delLen o) (f_lostLog o) (f_lostLen o) (f_nakBuf o) (f_win o) (f_back o) (f_repair o) (f_period o) (f_nextSeq o) (f_qLen o)) : QHeap) = (H0 (s_stats (s_drops (s_lossLeft o y63) y65) y67)) := by dsimp only [H0, H0v, f_srcPayload, f_pend, f_queue, f_stats, f_state, f_timer, f_rxVal, f_rxNext, f_rxLead, f_rxTrail, f_lossLeft, f_dups, f_drops, f_delSeq, f_delVal, f_delLen, f_lostLog, f_lostLen, f_nakBuf, f_win, f_back, f_repair, f_period, f_nextSeq, f_qLen, s_stats, s_lossLeft, s_drops]
    rw [E68]
    obtain rfl := Option.some.inj h
    exact QTri.ret0 rfl rfl
  · refine QTri.brT Ad W (t := 41) (f := 9) (L := [some (.ref 0), vI x1, vI x2, vI x3, vI x4, vI x5, vI x6]) (S := []) (σ := (H0 o)) rfl (XT.i0_le_t hc61) ?_
    refine QTri.steps Ad W 1 (st' := (42, [some (.ref 0), vI x1, vI x2, vI x3, vI x4, vI x5, vI x6], [.int x2], (H0 o))) rfl ?_
    rcases qite h with ⟨hc69, h⟩ | ⟨hc69, h⟩
    · refine QTri.brT Ad W (t := 50) (f := 45) (L := [some (.ref 0), vI x1, vI x2, vI x3, vI x4, vI x5, vI x6]) (S := []) (σ := (H0 o)) rfl (XT.i0_eq_t hc69) ?_
      exact QTri.mask [true, true, false, true, true, true, true] (tJ10_50 Ad W o x1 x3 x4 x5 x6 h)
    · refine QTri.brF Ad W (t := 50) (f := 45) (L := [some (.ref 0), vI x1, vI x2, vI x3, vI x4, vI x5, vI x6]) (S := []) (σ := (H0 o)) rfl (XT.i0_eq_f hc69) ?_
      refine QTri.steps Ad W 2 (st' := (47, [some (.ref 0), vI x1, vI x2, vI x3, vI x4, vI x5, vI x6], [.int (1 : Int32), .int x2], (H0 o))) rfl ?_
      rcases qite h with ⟨hc138, h⟩ | ⟨hc138, h⟩
      · refine QTri.brF Ad W (t := 65) (f := 50) (L := [some (.ref 0), vI x1, vI x2, vI x3, vI x4, vI x5, vI x6]) (S := []) (σ := (H0 o)) rfl (XT.ii_ne_f hc138) ?_
        exact QTri.mask [true, true, false, true, true, true, true] (tJ10_50 Ad W o x1 x3 x4 x5 x6 h)
      · refine QTri.brT Ad W (t := 65) (f := 50) (L := [some (.ref 0), vI x1, vI x2, vI x3, vI x4, vI x5, vI x6]) (S := []) (σ := (H0 o)) rfl (XT.ii_ne_t hc138) ?_
        refine QTri.steps Ad W 2 (st' := (67, [some (.ref 0), vI x1, vI x2, vI x3, vI x4, vI x5, vI x6], [.int (2 : Int32), .int x2], (H0 o))) rfl ?_
        rcases qite h with ⟨hc139, h⟩ | ⟨hc139, h⟩
        · refine QTri.brF Ad W (t := 92) (f := 70) (L := [some (.ref 0), vI x1, vI x2, vI x3, vI x4, vI x5, vI x6]) (S := []) (σ := (H0 o)) rfl (XT.ii_ne_f hc139) ?_
          refine QTri.steps Ad W 3 (st' := (74, [some (.ref 0), vI x1, vI x2, vI x3, vI x4, vI x5, vI x6], [.int x5, .int x1, .ref 0], (H0 o))) rfl ?_
          obtain ⟨r140, hr140, h⟩ := Option.bind_eq_some_iff.mp h
          refine QTri.callP W (a := 0) (as := [.int x1, .int x5]) (rest := []) (w := none) (σ₁ := (H0 r140)) rfl rfl rfl rfl rfl rfl rfl rfl (tF13 Ad W o x1 x5 hr140) ?_
          refine QTri.steps Ad W 3 (st' := (81, [some (.ref 0), vI x1, vI x2, vI x3, vI x4, vI x5, vI x6], [.int x6, .int x1, .ref 0], (H0 r140))) rfl ?_
          obtain ⟨r141, hr141, h⟩ := Option.bind_eq_some_iff.mp h
          refine QTri.callP W (a := 0) (as := [.int x1, .int x6]) (rest := []) (w := none) (σ₁ := (H0 r141)) rfl rfl rfl rfl rfl rfl rfl rfl (tF14 Ad W r140 x1 x6 hr141) ?_
          refine QTri.steps Ad W 2 (st' := (86, [some (.ref 0), vI x1, vI x2, vI x3, vI x4, vI x5, vI x6], [.int x1, .ref 0], (H0 r141))) rfl ?_
          obtain ⟨r142, hr142, h⟩ := Option.bind_eq_some_iff.mp h
          refine QTri.callP W (a := 0) (as := [.int x1]) (rest := []) (w := none) (σ₁ := (H0 r142)) rfl rfl rfl rfl rfl rfl rfl rfl (tF15 Ad W r141 x1 hr142) ?_
          refine QTri.steps Ad W 1 (st' := (98, [some (.ref 0), vI x1, vI x2, vI x3, vI x4, vI x5, vI x6], [], (H0 r142))) rfl ?_
          obtain rfl := Option.some.inj h
          exact QTri.ret0 rfl rfl
        · refine QTri.brT Ad W (t := 92) (f := 70) (L := [some (.ref 0), vI x1, vI x2, vI x3, vI x4, vI x5, vI x6]) (S := []) (σ := (H0 o)) rfl (XT.ii_ne_t hc139) ?_
          cases h
def B6_23 (x1 : Int32) (x2 : Int32) (x3 : Int32) (x4 : Int32) (x5 : Int32) (v : Int32 × Ob) : Option (((Ob)) ⊕ (Int32 × Ob)) :=
  (if v.1 < (4 : Int32) then (F10 v.2 v.1 x1 x2 x3 x4 x5).bind fun r143 => some (.inr ((v.1 + (1 : Int32)), r143)) else some (.inl v.2))
theorem tB6_23 (Ad : QAd n0 ad) (W : QW Z a0) (x1 : Int32) (x2 : Int32) (x3 : Int32) (x4 : Int32) (x5 : Int32) (v : Int32 × Ob) {r : ((Ob)) ⊕ (Int32 × Ob)} {u : Option Value} {τ : QHeap} (h : B6_23 x1 x2 x3 x4 x5 v = some r) (hx0 : ∀ x : Ob, r = .inl x → u = (none : Option Value) ∧ τ = (H0 x)) (hc : ∀ x : Int32 × Ob, r = .inr x → QTri l Z n0 ad 6 (23, [some (.ref 0), vI x1, vI x2, vI x3, vI x4, vI x5, vI x.1], [], (H0 x.2)) u τ) : QTri l Z n0 ad 6 (23, [some (.ref 0), vI x1, vI x2, vI x3, vI x4, vI x5, vI v.1], [], (H0 v.2)) u τ := by
  unfold B6_23 at h
  refine QTri.steps Ad W 2 (st' := (26, [some (.ref 0), vI x1, vI x2, vI x3, vI x4, vI x5, vI v.1], [.int (4 : Int32), .int v.1], (H0 v.2))) rfl ?_
  rcases qite h with ⟨hc59, h⟩ | ⟨hc59, h⟩
  · refine QTri.brF Ad W (t := 48) (f := 29) (L := [some (.ref 0), vI x1, vI x2, vI x3, vI x4, vI x5, vI v.1]) (S := []) (σ := (H0 v.2)) rfl (XT.ii_ge_f hc59) ?_
    refine QTri.steps Ad W 7 (st' := (39, [some (.ref 0), vI x1, vI x2, vI x3, vI x4, vI x5, vI v.1], [.int x5, .int x4, .int x3, .int x2, .int x1, .int v.1, .ref 0], (H0 v.2))) rfl ?_
    obtain ⟨r143, hr143, h⟩ := Option.bind_eq_some_iff.mp h
    refine QTri.callP W (a := 0) (as := [.int v.1, .int x1, .int x2, .int x3, .int x4, .int x5]) (rest := []) (w := none) (σ₁ := (H0 r143)) rfl rfl rfl rfl rfl rfl rfl rfl (tF10 Ad W v.2 v.1 x1 x2 x3 x4 x5 hr143) ?_
    refine QTri.steps Ad W 2 (st' := (23, [some (.ref 0), vI x1, vI x2, vI x3, vI x4, vI x5, vI (v.1 + (1 : Int32))], [], (H0 r143))) rfl ?_
    obtain rfl := Option.some.inj h
    exact QTri.mask [true, true, true, true, true, true, true] (hc ((v.1 + (1 : Int32)), r143) rfl)
  · refine QTri.brT Ad W (t := 48) (f := 29) (L := [some (.ref 0), vI x1, vI x2, vI x3, vI x4, vI x5, vI v.1]) (S := []) (σ := (H0 v.2)) rfl (XT.ii_ge_t hc59) ?_
    obtain rfl := Option.some.inj h
    obtain ⟨rfl, rfl⟩ := hx0 v.2 rfl
    exact QTri.ret0 rfl rfl
/-- multicastSource(III)V -/
def F6 (o : Ob) (x1 : Int32) (x2 : Int32) (x3 : Int32) : Option (Ob) :=
  (F7 o).bind fun r42 => (F8 o).bind fun r44 => (F9 o x1 x2 r44).bind fun r58 => (loopN (B6_23 x1 x2 x3 r42 r44) qN ((0 : Int32), r58)).bind fun e144 => some e144
theorem tF6 (Ad : QAd n0 ad) (W : QW Z a0) (o : Ob) (x1 : Int32) (x2 : Int32) (x3 : Int32) {r : Ob} (h : F6 o x1 x2 x3 = some r) : QTri l Z n0 ad 6 (0, qentry [.ref 0, .int x1, .int x2, .int x3] (pMaxL 6), [], (H0 o)) (none : Option Value) (H0 r) := by
  unfold F6 at h
  refine QTri.steps Ad W 1 (st' := (1, [some (.ref 0), vI x1, vI x2, vI x3, none, none, none], [.ref 0], (H0 o))) rfl ?_
  obtain ⟨r42, hr42, h⟩ := Option.bind_eq_some_iff.mp h
  refine QTri.callP W (a := 0) (as := []) (rest := []) (w := (some (.int r42))) (σ₁ := (H0 o)) rfl rfl rfl rfl rfl rfl rfl rfl (tF7 Ad W o hr42) ?_
  refine QTri.steps Ad W 2 (st' := (7, [some (.ref 0), vI x1, vI x2, vI x3, vI r42, none, none], [.ref 0], (H0 o))) rfl ?_
  obtain ⟨r44, hr44, h⟩ := Option.bind_eq_some_iff.mp h
  refine QTri.callP W (a := 0) (as := []) (rest := []) (w := (some (.int r44))) (σ₁ := (H0 o)) rfl rfl rfl rfl rfl rfl rfl rfl (tF8 Ad W o hr44) ?_
  refine QTri.steps Ad W 5 (st' := (17, [some (.ref 0), vI x1, vI x2, vI x3, vI r42, vI r44, none], [.int r44, .int x2, .int x1, .ref 0], (H0 o))) rfl ?_
  obtain ⟨r58, hr58, h⟩ := Option.bind_eq_some_iff.mp h
  refine QTri.callP W (a := 0) (as := [.int x1, .int x2, .int r44]) (rest := []) (w := none) (σ₁ := (H0 r58)) rfl rfl rfl rfl rfl rfl rfl rfl (tF9 Ad W o x1 x2 r44 hr58) ?_
  refine QTri.steps Ad W 2 (st' := (23, [some (.ref 0), vI x1, vI x2, vI x3, vI r42, vI r44, vI (0 : Int32)], [], (H0 r58))) rfl ?_
  obtain ⟨e144, he144, h⟩ := Option.bind_eq_some_iff.mp h
  refine QTri.mask [true, true, true, true, true, true, true] (loopN_tri (B := B6_23 x1 x2 x3 r42 r44) (T := fun lv145 => QTri l Z n0 ad 6 (23, [some (.ref 0), vI x1, vI x2, vI x3, vI r42, vI r44, vI lv145.1], [], (H0 lv145.2)) (none : Option Value) (H0 r)) (KE := fun e144a => (none : Option Value) = (none : Option Value) ∧ (H0 r) = (H0 e144a)) (fun lv145 r hB hE hC => tB6_23 Ad W x1 x2 x3 r42 r44 lv145 hB (fun x q => hE _ q) (fun x q => hC x q)) qN ((0 : Int32), r58) e144 he144 ?_)
  obtain rfl := Option.some.inj h
  exact ⟨rfl, rfl⟩
/-- send(I)I -/
def F5 (o : Ob) (x1 : Int32) : Option (Int32 × Ob) :=
  (if x1 < (0 : Int32) then some ((-1 : Int32), o) else (if (255 : Int32) < x1 then some ((-1 : Int32), o) else (if (f_nextSeq o) < (32 : Int32) then (aset (f_srcPayload o) (f_nextSeq o) x1).bind fun y38 => (aget (f_stats o) (1 : Int32)).bind fun y39 => (aset (f_stats o) (1 : Int32) (y39 + (1 : Int32))).bind fun y40 => (F6 (s_stats (s_nextSeq (s_srcPayload o y38) ((f_nextSeq o) + (1 : Int32))) y40) (0 : Int32) (f_nextSeq o) x1).bind fun r146 => some ((f_nextSeq o), r146) else some ((-1 : Int32), o))))
theorem tF5 (Ad : QAd n0 ad) (W : QW Z a0) (o : Ob) (x1 : Int32) {r : Int32 × Ob} (h : F5 o x1 = some r) : QTri l Z n0 ad 5 (0, qentry [.ref 0, .int x1] (pMaxL 5), [], (H0 o)) (some (Value.int r.1)) (H0 r.2) := by
  unfold F5 at h
  refine QTri.steps Ad W 1 (st' := (1, [some (.ref 0), vI x1, none], [.int x1], (H0 o))) rfl ?_
  rcases qite h with ⟨hc35, h⟩ | ⟨hc35, h⟩
  · refine QTri.brT Ad W (t := 11) (f := 4) (L := [some (.ref 0), vI x1, none]) (S := []) (σ := (H0 o)) rfl (XT.i0_lt_t hc35) ?_
    refine QTri.steps Ad W 1 (st' := (12, [some (.ref 0), vI x1, none], [.int (-1 : Int32)], (H0 o))) rfl ?_
    obtain rfl := Option.some.inj h
    exact QTri.retI rfl rfl
  · refine QTri.brF Ad W (t := 11) (f := 4) (L := [some (.ref 0), vI x1, none]) (S := []) (σ := (H0 o)) rfl (XT.i0_lt_f hc35) ?_
    refine QTri.steps Ad W 2 (st' := (8, [some (.ref 0), vI x1, none], [.int (255 : Int32), .int x1], (H0 o))) rfl ?_
    rcases qite h with ⟨hc36, h⟩ | ⟨hc36, h⟩
    · refine QTri.brF Ad W (t := 13) (f := 11) (L := [some (.ref 0), vI x1, none]) (S := []) (σ := (H0 o)) rfl (XT.ii_le_f hc36) ?_
      refine QTri.steps Ad W 1 (st' := (12, [some (.ref 0), vI x1, none], [.int (-1 : Int32)], (H0 o))) rfl ?_
      obtain rfl := Option.some.inj h
      exact QTri.retI rfl rfl
    · refine QTri.brT Ad W (t := 13) (f := 11) (L := [some (.ref 0), vI x1, none]) (S := []) (σ := (H0 o)) rfl (XT.ii_le_t hc36) ?_
      refine QTri.steps Ad W 3 (st' := (19, [some (.ref 0), vI x1, none], [.int (32 : Int32), .int (f_nextSeq o)], (H0 o))) rfl ?_
      rcases qite h with ⟨hc37, h⟩ | ⟨hc37, h⟩
      · refine QTri.brT Ad W (t := 24) (f := 22) (L := [some (.ref 0), vI x1, none]) (S := []) (σ := (H0 o)) rfl (XT.ii_lt_t hc37) ?_
        refine QTri.steps Ad W 7 (st' := (35, [some (.ref 0), vI x1, vI (f_nextSeq o)], [.int x1, .int (f_nextSeq o), .ref 1], (H0 o))) rfl ?_
        obtain ⟨y38, hy38, h⟩ := Option.bind_eq_some_iff.mp h
        refine QTri.bnd Ad W (f := fun y38 => (36, [some (.ref 0), vI x1, vI (f_nextSeq o)], [], (H0v y38 (f_pend o) (f_queue o) (f_stats o) (f_state o) (f_timer o) (f_rxVal o) (f_rxNext o) (f_rxLead o) (f_rxTrail o) (f_lossLeft o) (f_dups o) (f_drops o) (f_delSeq o) (f_delVal o) (f_delLen o) (f_lostLog o) (f_lostLen o) (f_nakBuf o) (f_win o) (f_back o) (f_repair o) (f_period o) (f_nextSeq o) (f_qLen o)))) rfl hy38 ?_
        refine QTri.steps Ad W 6 (st' := (46, [some (.ref 0), vI x1, vI (f_nextSeq o)], [], (H0v y38 (f_pend o) (f_queue o) (f_stats o) (f_state o) (f_timer o) (f_rxVal o) (f_rxNext o) (f_rxLead o) (f_rxTrail o) (f_lossLeft o) (f_dups o) (f_drops o) (f_delSeq o) (f_delVal o) (f_delLen o) (f_lostLog o) (f_lostLen o) (f_nakBuf o) (f_win o) (f_back o) (f_repair o) (f_period o) ((f_nextSeq o) + (1 : Int32)) (f_qLen o)))) rfl ?_
        refine QTri.steps Ad W 4 (st' := (52, [some (.ref 0), vI x1, vI (f_nextSeq o)], [.int (1 : Int32), .ref 4, .int (1 : Int32), .ref 4], (H0v y38 (f_pend o) (f_queue o) (f_stats o) (f_state o) (f_timer o) (f_rxVal o) (f_rxNext o) (f_rxLead o) (f_rxTrail o) (f_lossLeft o) (f_dups o) (f_drops o) (f_delSeq o) (f_delVal o) (f_delLen o) (f_lostLog o) (f_lostLen o) (f_nakBuf o) (f_win o) (f_back o) (f_repair o) (f_period o) ((f_nextSeq o) + (1 : Int32)) (f_qLen o)))) rfl ?_
        obtain ⟨y39, hy39, h⟩ := Option.bind_eq_some_iff.mp h
        refine QTri.bnd Ad W (f := fun y39 => (53, [some (.ref 0), vI x1, vI (f_nextSeq o)], [.int y39, .int (1 : Int32), .ref 4], (H0v y38 (f_pend o) (f_queue o) (f_stats o) (f_state o) (f_timer o) (f_rxVal o) (f_rxNext o) (f_rxLead o) (f_rxTrail o) (f_lossLeft o) (f_dups o) (f_drops o) (f_delSeq o) (f_delVal o) (f_delLen o) (f_lostLog o) (f_lostLen o) (f_nakBuf o) (f_win o) (f_back o) (f_repair o) (f_period o) ((f_nextSeq o) + (1 : Int32)) (f_qLen o)))) rfl hy39 ?_
        refine QTri.steps Ad W 2 (st' := (55, [some (.ref 0), vI x1, vI (f_nextSeq o)], [.int (y39 + (1 : Int32)), .int (1 : Int32), .ref 4], (H0v y38 (f_pend o) (f_queue o) (f_stats o) (f_state o) (f_timer o) (f_rxVal o) (f_rxNext o) (f_rxLead o) (f_rxTrail o) (f_lossLeft o) (f_dups o) (f_drops o) (f_delSeq o) (f_delVal o) (f_delLen o) (f_lostLog o) (f_lostLen o) (f_nakBuf o) (f_win o) (f_back o) (f_repair o) (f_period o) ((f_nextSeq o) + (1 : Int32)) (f_qLen o)))) rfl ?_
        obtain ⟨y40, hy40, h⟩ := Option.bind_eq_some_iff.mp h
        refine QTri.bnd Ad W (f := fun y40 => (56, [some (.ref 0), vI x1, vI (f_nextSeq o)], [], (H0v y38 (f_pend o) (f_queue o) y40 (f_state o) (f_timer o) (f_rxVal o) (f_rxNext o) (f_rxLead o) (f_rxTrail o) (f_lossLeft o) (f_dups o) (f_drops o) (f_delSeq o) (f_delVal o) (f_delLen o) (f_lostLog o) (f_lostLen o) (f_nakBuf o) (f_win o) (f_back o) (f_repair o) (f_period o) ((f_nextSeq o) + (1 : Int32)) (f_qLen o)))) rfl hy40 ?_
        refine QTri.steps Ad W 4 (st' := (60, [some (.ref 0), vI x1, vI (f_nextSeq o)], [.int x1, .int (f_nextSeq o), .int (0 : Int32), .ref 0], (H0v y38 (f_pend o) (f_queue o) y40 (f_state o) (f_timer o) (f_rxVal o) (f_rxNext o) (f_rxLead o) (f_rxTrail o) (f_lossLeft o) (f_dups o) (f_drops o) (f_delSeq o) (f_delVal o) (f_delLen o) (f_lostLog o) (f_lostLen o) (f_nakBuf o) (f_win o) (f_back o) (f_repair o) (f_period o) ((f_nextSeq o) + (1 : Int32)) (f_qLen o)))) rfl ?_
        have E41 : ((H0v y38 (f_pend o) (f_queue o) y40 (f_state o) (f_timer o) (f_rxVal o) (f_rxNext o) (f_rxLead o) (f_rxTrail o) (f_lossLeft o) (f_dups o) (f_drops o) (f_delSeq o) (f_delVal o) (f_delLen o) (f_lostLog o) (f_lostLen o) (f_nakBuf o) (f_win o) (f_back o) (f_repair o) (f_period o) ((f_nextSeq o) + (1 : Int32)) (f_qLen o)) : QHeap) = (H0 (s_stats (s_nextSeq (s_srcPayload o y38) ((f_nextSeq o) + (1 : Int32))) y40)) := by dsimp only [H0, H0v, f_srcPayload, f_pend, f_queue, f_stats, f_state, f_timer, f_rxVal, f_rxNext, f_rxLead, f_rxTrail, f_lossLeft, f_dups, f_drops, f_delSeq, f_delVal, f_delLen, f_lostLog, f_lostLen, f_nakBuf, f_win, f_back, f_repair, f_period, f_nextSeq, f_qLen, s_srcPayload, s_stats, s_nextSeq]
        rw [E41]
        obtain ⟨r146, hr146, h⟩ := Option.bind_eq_some_iff.mp h
        refine QTri.callP W (a := 0) (as := [.int (0 : Int32), .int (f_nextSeq o), .int x1]) (rest := []) (w := none) (σ₁ := (H0 r146)) rfl rfl rfl rfl rfl rfl rfl rfl (tF6 Ad W (s_stats (s_nextSeq (s_srcPayload o y38) ((f_nextSeq o) + (1 : Int32))) y40) (0 : Int32) (f_nextSeq o) x1 hr146) ?_
        refine QTri.steps Ad W 1 (st' := (64, [some (.ref 0), vI x1, vI (f_nextSeq o)], [.int (f_nextSeq o)], (H0 r146))) rfl ?_
        obtain rfl := Option.some.inj h
        exact QTri.retI rfl rfl
      · refine QTri.brF Ad W (t := 24) (f := 22) (L := [some (.ref 0), vI x1, none]) (S := []) (σ := (H0 o)) rfl (XT.ii_lt_f hc37) ?_
        refine QTri.steps Ad W 1 (st' := (23, [some (.ref 0), vI x1, none], [.int (-1 : Int32)], (H0 o))) rfl ?_
        obtain rfl := Option.some.inj h
        exact QTri.retI rfl rfl
/-- rxInfo(II)I -/
def F17 (o : Ob) (x1 : Int32) (x2 : Int32) : Option (Int32) :=
  (F4 x1).bind fun r157 => (if r157 = (0 : Int32) then some (-2 : Int32) else (if x2 = (0 : Int32) then (aget (f_rxNext o) x1).bind fun y160 => some y160 else (if x2 = (1 : Int32) then (aget (f_rxLead o) x1).bind fun y162 => some y162 else (if x2 = (2 : Int32) then (aget (f_rxTrail o) x1).bind fun y164 => some y164 else (if x2 = (3 : Int32) then (aget (f_delLen o) x1).bind fun y166 => some y166 else (if x2 = (4 : Int32) then (aget (f_lostLen o) x1).bind fun y168 => some y168 else (if x2 = (5 : Int32) then (aget (f_lossLeft o) x1).bind fun y170 => some y170 else (if x2 = (6 : Int32) then (aget (f_dups o) x1).bind fun y172 => some y172 else (if x2 = (7 : Int32) then (aget (f_drops o) x1).bind fun y174 => some y174 else some (-2 : Int32))))))))))
theorem tF17 (Ad : QAd n0 ad) (W : QW Z a0) (o : Ob) (x1 : Int32) (x2 : Int32) {r : Int32} (h : F17 o x1 x2 = some r) : QTri l Z n0 ad 17 (0, qentry [.ref 0, .int x1, .int x2] (pMaxL 17), [], (H0 o)) (some (Value.int r)) (H0 o) := by
  unfold F17 at h
  refine QTri.steps Ad W 2 (st' := (2, [some (.ref 0), vI x1, vI x2], [.int x1, .ref 0], (H0 o))) rfl ?_
  obtain ⟨r157, hr157, h⟩ := Option.bind_eq_some_iff.mp h
  refine QTri.callP W (a := 0) (as := [.int x1]) (rest := []) (w := (some (.int r157))) (σ₁ := (H0 o)) rfl rfl rfl rfl rfl rfl rfl rfl (tF4 Ad W x1 hr157) ?_
  rcases qite h with ⟨hc158, h⟩ | ⟨hc158, h⟩
  · refine QTri.brF Ad W (t := 11) (f := 8) (L := [some (.ref 0), vI x1, vI x2]) (S := []) (σ := (H0 o)) rfl (XT.i0_ne_f hc158) ?_
    refine QTri.steps Ad W 1 (st' := (10, [some (.ref 0), vI x1, vI x2], [.int (-2 : Int32)], (H0 o))) rfl ?_
    obtain rfl := Option.some.inj h
    exact QTri.retI rfl rfl
  · refine QTri.brT Ad W (t := 11) (f := 8) (L := [some (.ref 0), vI x1, vI x2]) (S := []) (σ := (H0 o)) rfl (XT.i0_ne_t hc158) ?_
    refine QTri.steps Ad W 1 (st' := (12, [some (.ref 0), vI x1, vI x2], [.int x2], (H0 o))) rfl ?_
    rcases qite h with ⟨hc159, h⟩ | ⟨hc159, h⟩
    · refine QTri.brF Ad W (t := 22) (f := 15) (L := [some (.ref 0), vI x1, vI x2]) (S := []) (σ := (H0 o)) rfl (XT.i0_ne_f hc159) ?_
      refine QTri.steps Ad W 3 (st' := (20, [some (.ref 0), vI x1, vI x2], [.int x1, .ref 8], (H0 o))) rfl ?_
      obtain ⟨y160, hy160, h⟩ := Option.bind_eq_some_iff.mp h
      refine QTri.bnd Ad W (f := fun y160 => (21, [some (.ref 0), vI x1, vI x2], [.int y160], (H0 o))) rfl hy160 ?_
      obtain rfl := Option.some.inj h
      exact QTri.retI rfl rfl
    · refine QTri.brT Ad W (t := 22) (f := 15) (L := [some (.ref 0), vI x1, vI x2]) (S := []) (σ := (H0 o)) rfl (XT.i0_ne_t hc159) ?_
      refine QTri.steps Ad W 2 (st' := (24, [some (.ref 0), vI x1, vI x2], [.int (1 : Int32), .int x2], (H0 o))) rfl ?_
      rcases qite h with ⟨hc161, h⟩ | ⟨hc161, h⟩
      · refine QTri.brF Ad W (t := 34) (f := 27) (L := [some (.ref 0), vI x1, vI x2]) (S := []) (σ := (H0 o)) rfl (XT.ii_ne_f hc161) ?_
        refine QTri.steps Ad W 3 (st' := (32, [some (.ref 0), vI x1, vI x2], [.int x1, .ref 9], (H0 o))) rfl ?_
        obtain ⟨y162, hy162, h⟩ := Option.bind_eq_some_iff.mp h
        refine QTri.bnd Ad W (f := fun y162 => (33, [some (.ref 0), vI x1, vI x2], [.int y162], (H0 o))) rfl hy162 ?_
        obtain rfl := Option.some.inj h
        exact QTri.retI rfl rfl
      · refine QTri.brT Ad W (t := 34) (f := 27) (L := [some (.ref 0), vI x1, vI x2]) (S := []) (σ := (H0 o)) rfl (XT.ii_ne_t hc161) ?_
        refine QTri.steps Ad W 2 (st' := (36, [some (.ref 0), vI x1, vI x2], [.int (2 : Int32), .int x2], (H0 o))) rfl ?_
        rcases qite h with ⟨hc163, h⟩ | ⟨hc163, h⟩
        · refine QTri.brF Ad W (t := 46) (f := 39) (L := [some (.ref 0), vI x1, vI x2]) (S := []) (σ := (H0 o)) rfl (XT.ii_ne_f hc163) ?_
          refine QTri.steps Ad W 3 (st' := (44, [some (.ref 0), vI x1, vI x2], [.int x1, .ref 10], (H0 o))) rfl ?_
          obtain ⟨y164, hy164, h⟩ := Option.bind_eq_some_iff.mp h
          refine QTri.bnd Ad W (f := fun y164 => (45, [some (.ref 0), vI x1, vI x2], [.int y164], (H0 o))) rfl hy164 ?_
          obtain rfl := Option.some.inj h
          exact QTri.retI rfl rfl
        · refine QTri.brT Ad W (t := 46) (f := 39) (L := [some (.ref 0), vI x1, vI x2]) (S := []) (σ := (H0 o)) rfl (XT.ii_ne_t hc163) ?_
          refine QTri.steps Ad W 2 (st' := (48, [some (.ref 0), vI x1, vI x2], [.int (3 : Int32), .int x2], (H0 o))) rfl ?_
          rcases qite h with ⟨hc165, h⟩ | ⟨hc165, h⟩
          · refine QTri.brF Ad W (t := 58) (f := 51) (L := [some (.ref 0), vI x1, vI x2]) (S := []) (σ := (H0 o)) rfl (XT.ii_ne_f hc165) ?_
            refine QTri.steps Ad W 3 (st' := (56, [some (.ref 0), vI x1, vI x2], [.int x1, .ref 16], (H0 o))) rfl ?_
            obtain ⟨y166, hy166, h⟩ := Option.bind_eq_some_iff.mp h
            refine QTri.bnd Ad W (f := fun y166 => (57, [some (.ref 0), vI x1, vI x2], [.int y166], (H0 o))) rfl hy166 ?_
            obtain rfl := Option.some.inj h
            exact QTri.retI rfl rfl
          · refine QTri.brT Ad W (t := 58) (f := 51) (L := [some (.ref 0), vI x1, vI x2]) (S := []) (σ := (H0 o)) rfl (XT.ii_ne_t hc165) ?_
            refine QTri.steps Ad W 2 (st' := (60, [some (.ref 0), vI x1, vI x2], [.int (4 : Int32), .int x2], (H0 o))) rfl ?_
            rcases qite h with ⟨hc167, h⟩ | ⟨hc167, h⟩
            · refine QTri.brF Ad W (t := 70) (f := 63) (L := [some (.ref 0), vI x1, vI x2]) (S := []) (σ := (H0 o)) rfl (XT.ii_ne_f hc167) ?_
              refine QTri.steps Ad W 3 (st' := (68, [some (.ref 0), vI x1, vI x2], [.int x1, .ref 18], (H0 o))) rfl ?_
              obtain ⟨y168, hy168, h⟩ := Option.bind_eq_some_iff.mp h
              refine QTri.bnd Ad W (f := fun y168 => (69, [some (.ref 0), vI x1, vI x2], [.int y168], (H0 o))) rfl hy168 ?_
              obtain rfl := Option.some.inj h
              exact QTri.retI rfl rfl
            · refine QTri.brT Ad W (t := 70) (f := 63) (L := [some (.ref 0), vI x1, vI x2]) (S := []) (σ := (H0 o)) rfl (XT.ii_ne_t hc167) ?_
              refine QTri.steps Ad W 2 (st' := (72, [some (.ref 0), vI x1, vI x2], [.int (5 : Int32), .int x2], (H0 o))) rfl ?_
              rcases qite h with ⟨hc169, h⟩ | ⟨hc169, h⟩
              · refine QTri.brF Ad W (t := 82) (f := 75) (L := [some (.ref 0), vI x1, vI x2]) (S := []) (σ := (H0 o)) rfl (XT.ii_ne_f hc169) ?_
                refine QTri.steps Ad W 3 (st' := (80, [some (.ref 0), vI x1, vI x2], [.int x1, .ref 11], (H0 o))) rfl ?_
                obtain ⟨y170, hy170, h⟩ := Option.bind_eq_some_iff.mp h
                refine QTri.bnd Ad W (f := fun y170 => (81, [some (.ref 0), vI x1, vI x2], [.int y170], (H0 o))) rfl hy170 ?_
                obtain rfl := Option.some.inj h
                exact QTri.retI rfl rfl
              · refine QTri.brT Ad W (t := 82) (f := 75) (L := [some (.ref 0), vI x1, vI x2]) (S := []) (σ := (H0 o)) rfl (XT.ii_ne_t hc169) ?_
                refine QTri.steps Ad W 2 (st' := (85, [some (.ref 0), vI x1, vI x2], [.int (6 : Int32), .int x2], (H0 o))) rfl ?_
                rcases qite h with ⟨hc171, h⟩ | ⟨hc171, h⟩
                · refine QTri.brF Ad W (t := 95) (f := 88) (L := [some (.ref 0), vI x1, vI x2]) (S := []) (σ := (H0 o)) rfl (XT.ii_ne_f hc171) ?_
                  refine QTri.steps Ad W 3 (st' := (93, [some (.ref 0), vI x1, vI x2], [.int x1, .ref 12], (H0 o))) rfl ?_
                  obtain ⟨y172, hy172, h⟩ := Option.bind_eq_some_iff.mp h
                  refine QTri.bnd Ad W (f := fun y172 => (94, [some (.ref 0), vI x1, vI x2], [.int y172], (H0 o))) rfl hy172 ?_
                  obtain rfl := Option.some.inj h
                  exact QTri.retI rfl rfl
                · refine QTri.brT Ad W (t := 95) (f := 88) (L := [some (.ref 0), vI x1, vI x2]) (S := []) (σ := (H0 o)) rfl (XT.ii_ne_t hc171) ?_
                  refine QTri.steps Ad W 2 (st' := (98, [some (.ref 0), vI x1, vI x2], [.int (7 : Int32), .int x2], (H0 o))) rfl ?_
                  rcases qite h with ⟨hc173, h⟩ | ⟨hc173, h⟩
                  · refine QTri.brF Ad W (t := 108) (f := 101) (L := [some (.ref 0), vI x1, vI x2]) (S := []) (σ := (H0 o)) rfl (XT.ii_ne_f hc173) ?_
                    refine QTri.steps Ad W 3 (st' := (106, [some (.ref 0), vI x1, vI x2], [.int x1, .ref 13], (H0 o))) rfl ?_
                    obtain ⟨y174, hy174, h⟩ := Option.bind_eq_some_iff.mp h
                    refine QTri.bnd Ad W (f := fun y174 => (107, [some (.ref 0), vI x1, vI x2], [.int y174], (H0 o))) rfl hy174 ?_
                    obtain rfl := Option.some.inj h
                    exact QTri.retI rfl rfl
                  · refine QTri.brT Ad W (t := 108) (f := 101) (L := [some (.ref 0), vI x1, vI x2]) (S := []) (σ := (H0 o)) rfl (XT.ii_ne_t hc173) ?_
                    refine QTri.steps Ad W 1 (st' := (110, [some (.ref 0), vI x1, vI x2], [.int (-2 : Int32)], (H0 o))) rfl ?_
                    obtain rfl := Option.some.inj h
                    exact QTri.retI rfl rfl
/-- stat(I)I -/
def F18 (o : Ob) (x1 : Int32) : Option (Int32) :=
  (if x1 = (8 : Int32) then some (f_qLen o) else (if x1 < (0 : Int32) then some (-1 : Int32) else (if (9 : Int32) < x1 then some (-1 : Int32) else (aget (f_stats o) x1).bind fun y197 => some y197)))
theorem tF18 (Ad : QAd n0 ad) (W : QW Z a0) (o : Ob) (x1 : Int32) {r : Int32} (h : F18 o x1 = some r) : QTri l Z n0 ad 18 (0, qentry [.ref 0, .int x1] (pMaxL 18), [], (H0 o)) (some (Value.int r)) (H0 o) := by
  unfold F18 at h
  refine QTri.steps Ad W 2 (st' := (3, [some (.ref 0), vI x1], [.int (8 : Int32), .int x1], (H0 o))) rfl ?_
  rcases qite h with ⟨hc194, h⟩ | ⟨hc194, h⟩
  · refine QTri.brF Ad W (t := 11) (f := 6) (L := [some (.ref 0), vI x1]) (S := []) (σ := (H0 o)) rfl (XT.ii_ne_f hc194) ?_
    refine QTri.steps Ad W 2 (st' := (10, [some (.ref 0), vI x1], [.int (f_qLen o)], (H0 o))) rfl ?_
    obtain rfl := Option.some.inj h
    exact QTri.retI rfl rfl
  · refine QTri.brT Ad W (t := 11) (f := 6) (L := [some (.ref 0), vI x1]) (S := []) (σ := (H0 o)) rfl (XT.ii_ne_t hc194) ?_
    refine QTri.steps Ad W 1 (st' := (12, [some (.ref 0), vI x1], [.int x1], (H0 o))) rfl ?_
    rcases qite h with ⟨hc195, h⟩ | ⟨hc195, h⟩
    · refine QTri.brT Ad W (t := 21) (f := 15) (L := [some (.ref 0), vI x1]) (S := []) (σ := (H0 o)) rfl (XT.i0_lt_t hc195) ?_
      refine QTri.steps Ad W 1 (st' := (22, [some (.ref 0), vI x1], [.int (-1 : Int32)], (H0 o))) rfl ?_
      obtain rfl := Option.some.inj h
      exact QTri.retI rfl rfl
    · refine QTri.brF Ad W (t := 21) (f := 15) (L := [some (.ref 0), vI x1]) (S := []) (σ := (H0 o)) rfl (XT.i0_lt_f hc195) ?_
      refine QTri.steps Ad W 2 (st' := (18, [some (.ref 0), vI x1], [.int (9 : Int32), .int x1], (H0 o))) rfl ?_
      rcases qite h with ⟨hc196, h⟩ | ⟨hc196, h⟩
      · refine QTri.brF Ad W (t := 23) (f := 21) (L := [some (.ref 0), vI x1]) (S := []) (σ := (H0 o)) rfl (XT.ii_le_f hc196) ?_
        refine QTri.steps Ad W 1 (st' := (22, [some (.ref 0), vI x1], [.int (-1 : Int32)], (H0 o))) rfl ?_
        obtain rfl := Option.some.inj h
        exact QTri.retI rfl rfl
      · refine QTri.brT Ad W (t := 23) (f := 21) (L := [some (.ref 0), vI x1]) (S := []) (σ := (H0 o)) rfl (XT.ii_le_t hc196) ?_
        refine QTri.steps Ad W 3 (st' := (28, [some (.ref 0), vI x1], [.int x1, .ref 4], (H0 o))) rfl ?_
        obtain ⟨y197, hy197, h⟩ := Option.bind_eq_some_iff.mp h
        refine QTri.bnd Ad W (f := fun y197 => (29, [some (.ref 0), vI x1], [.int y197], (H0 o))) rfl hy197 ?_
        obtain rfl := Option.some.inj h
        exact QTri.retI rfl rfl
/-- the law -/
def F0 (x0 : Int32) (x1 : Int32) (x2 : Int32) (x3 : Int32) (x4 : Int32) (x5 : Int32) : Option (Int32 × QHeap) :=
  (F1 x0 x1 x1 x2).bind fun r13 => (F3 r13 x3 x4).bind fun r33 => (if r33.1 = (if x3 < (0 : Int32) then (0 : Int32) else (if (3 : Int32) < x3 then (0 : Int32) else (1 : Int32))) then (F5 r33.2 x5).bind fun r147 => (if r147.1 = (if (if x5 < (0 : Int32) then (0 : Int32) else (if (255 : Int32) < x5 then (0 : Int32) else (1 : Int32))) = (0 : Int32) then (-1 : Int32) else (0 : Int32)) then (F17 r147.2 x3 (5 : Int32)).bind fun r175 => (if r175 = (if (if x3 < (0 : Int32) then (0 : Int32) else (if (3 : Int32) < x3 then (0 : Int32) else (1 : Int32))) = (0 : Int32) then (-2 : Int32) else (if (if (if x3 < (0 : Int32) then (0 : Int32) else (if (3 : Int32) < x3 then (0 : Int32) else (1 : Int32))) = (0 : Int32) then (0 : Int32) else (if (if x5 < (0 : Int32) then (0 : Int32) else (if (255 : Int32) < x5 then (0 : Int32) else (1 : Int32))) = (0 : Int32) then (0 : Int32) else (if (0 : Int32) < (if x4 < (0 : Int32) then (0 : Int32) else (if (255 : Int32) < x4 then (255 : Int32) else x4)) then (1 : Int32) else (0 : Int32)))) = (0 : Int32) then ((if x4 < (0 : Int32) then (0 : Int32) else (if (255 : Int32) < x4 then (255 : Int32) else x4)) - (0 : Int32)) else ((if x4 < (0 : Int32) then (0 : Int32) else (if (255 : Int32) < x4 then (255 : Int32) else x4)) - (1 : Int32)))) then (F17 r147.2 x3 (7 : Int32)).bind fun r181 => (if r181 = (if (if x3 < (0 : Int32) then (0 : Int32) else (if (3 : Int32) < x3 then (0 : Int32) else (1 : Int32))) = (0 : Int32) then (-2 : Int32) else (if (if (if x3 < (0 : Int32) then (0 : Int32) else (if (3 : Int32) < x3 then (0 : Int32) else (1 : Int32))) = (0 : Int32) then (0 : Int32) else (if (if x5 < (0 : Int32) then (0 : Int32) else (if (255 : Int32) < x5 then (0 : Int32) else (1 : Int32))) = (0 : Int32) then (0 : Int32) else (if (0 : Int32) < (if x4 < (0 : Int32) then (0 : Int32) else (if (255 : Int32) < x4 then (255 : Int32) else x4)) then (1 : Int32) else (0 : Int32)))) = (0 : Int32) then (0 : Int32) else (1 : Int32))) then (F17 r147.2 x3 (0 : Int32)).bind fun r187 => (if r187 = (if (if x3 < (0 : Int32) then (0 : Int32) else (if (3 : Int32) < x3 then (0 : Int32) else (1 : Int32))) = (0 : Int32) then (-2 : Int32) else (if (if x5 < (0 : Int32) then (0 : Int32) else (if (255 : Int32) < x5 then (0 : Int32) else (1 : Int32))) = (0 : Int32) then (0 : Int32) else (if (if (if x3 < (0 : Int32) then (0 : Int32) else (if (3 : Int32) < x3 then (0 : Int32) else (1 : Int32))) = (0 : Int32) then (0 : Int32) else (if (if x5 < (0 : Int32) then (0 : Int32) else (if (255 : Int32) < x5 then (0 : Int32) else (1 : Int32))) = (0 : Int32) then (0 : Int32) else (if (0 : Int32) < (if x4 < (0 : Int32) then (0 : Int32) else (if (255 : Int32) < x4 then (255 : Int32) else x4)) then (1 : Int32) else (0 : Int32)))) = (0 : Int32) then (1 : Int32) else (0 : Int32)))) then (F18 r147.2 (9 : Int32)).bind fun r198 => (if r198 = (if (if (if x3 < (0 : Int32) then (0 : Int32) else (if (3 : Int32) < x3 then (0 : Int32) else (1 : Int32))) = (0 : Int32) then (0 : Int32) else (if (if x5 < (0 : Int32) then (0 : Int32) else (if (255 : Int32) < x5 then (0 : Int32) else (1 : Int32))) = (0 : Int32) then (0 : Int32) else (if (0 : Int32) < (if x4 < (0 : Int32) then (0 : Int32) else (if (255 : Int32) < x4 then (255 : Int32) else x4)) then (1 : Int32) else (0 : Int32)))) = (0 : Int32) then (0 : Int32) else (1 : Int32)) then (F17 r147.2 ((x3 + (1 : Int32)) &&& (3 : Int32)) (0 : Int32)).bind fun r203 => (if r203 = (if (if x5 < (0 : Int32) then (0 : Int32) else (if (255 : Int32) < x5 then (0 : Int32) else (1 : Int32))) = (0 : Int32) then (0 : Int32) else (1 : Int32)) then (F17 r147.2 ((x3 + (1 : Int32)) &&& (3 : Int32)) (5 : Int32)).bind fun r208 => (if r208 = (0 : Int32) then some ((1 : Int32), (H0 r147.2)) else some ((0 : Int32), (H0 r147.2))) else some ((0 : Int32), (H0 r147.2))) else some ((0 : Int32), (H0 r147.2))) else some ((0 : Int32), (H0 r147.2))) else some ((0 : Int32), (H0 r147.2))) else some ((0 : Int32), (H0 r147.2))) else some ((0 : Int32), (H0 r147.2))) else some ((0 : Int32), (H0 r33.2)))
theorem tF0 (Ad : QAd n0 ad) (W : QW Z a0) (x0 : Int32) (x1 : Int32) (x2 : Int32) (x3 : Int32) (x4 : Int32) (x5 : Int32) {r : Int32 × QHeap} (h : F0 x0 x1 x2 x3 x4 x5 = some r) : QTri l Z n0 ad 0 (0, qentry [.int x0, .int x1, .int x2, .int x3, .int x4, .int x5] (pMaxL 0), [], []) (some (Value.int r.1)) r.2 := by
  unfold F0 at h
  refine QTri.steps Ad W 1 (st' := (3, [vI x0, vI x1, vI x2, vI x3, vI x4, vI x5, none, none, none, none, none, none, none, none, none, none, none, none, none, none, none], [.ref 0], [.inl [.null, .null, .null, .null, .null, .null, .null, .null, .null, .null, .null, .null, .null, .null, .null, .null, .null, .null, .null, .int (f_win ob0), .int (f_back ob0), .int (f_repair ob0), .int (f_period ob0), .int (f_nextSeq ob0), .int (f_qLen ob0)]])) rfl ?_
  refine QTri.steps Ad W 5 (st' := (8, [vI x0, vI x1, vI x2, vI x3, vI x4, vI x5, none, none, none, none, none, none, none, none, none, none, none, none, none, none, none], [.int x2, .int x1, .int x1, .int x0, .ref 0, .ref 0], [.inl [.null, .null, .null, .null, .null, .null, .null, .null, .null, .null, .null, .null, .null, .null, .null, .null, .null, .null, .null, .int (f_win ob0), .int (f_back ob0), .int (f_repair ob0), .int (f_period ob0), .int (f_nextSeq ob0), .int (f_qLen ob0)]])) rfl ?_
  obtain ⟨r13, hr13, h⟩ := Option.bind_eq_some_iff.mp h
  refine QTri.callI W (a := 0) (as := [.int x0, .int x1, .int x1, .int x2]) (rest := [.ref 0]) (σ₁ := (H0 r13)) rfl rfl rfl rfl rfl rfl (tF1 Ad W x0 x1 x1 x2 hr13) ?_
  refine QTri.steps Ad W 2 (st' := (14, [vI x0, vI x1, vI x2, vI x3, vI x4, vI x5, some (.ref 0), none, none, none, none, none, none, none, none, none, none, none, none, none, none], [.int x3], (H0 r13))) rfl ?_
  have K15 : ∀ z14 : Int32, z14 = (if x3 < (0 : Int32) then (0 : Int32) else (if (3 : Int32) < x3 then (0 : Int32) else (1 : Int32))) → QTri l Z n0 ad 0 (27, [none, none, none, vI x3, vI x4, vI x5, some (.ref 0), none, none, none, none, none, none, none, none, none, none, none, none, none, none], [.int z14], (H0 r13)) (some (Value.int r.1)) r.2 := by
    intro z14 ez14
    subst ez14
    refine QTri.steps Ad W 2 (st' := (31, [none, none, none, vI x3, vI x4, vI x5, some (.ref 0), vI (if x3 < (0 : Int32) then (0 : Int32) else (if (3 : Int32) < x3 then (0 : Int32) else (1 : Int32))), none, none, none, none, none, none, none, none, none, none, none, none, none], [.int x5], (H0 r13))) rfl ?_
    have K19 : ∀ z18 : Int32, z18 = (if x5 < (0 : Int32) then (0 : Int32) else (if (255 : Int32) < x5 then (0 : Int32) else (1 : Int32))) → QTri l Z n0 ad 0 (47, [none, none, none, vI x3, vI x4, vI x5, some (.ref 0), vI (if x3 < (0 : Int32) then (0 : Int32) else (if (3 : Int32) < x3 then (0 : Int32) else (1 : Int32))), none, none, none, none, none, none, none, none, none, none, none, none, none], [.int z18], (H0 r13)) (some (Value.int r.1)) r.2 := by
      intro z18 ez18
      subst ez18
      refine QTri.steps Ad W 2 (st' := (51, [none, none, none, vI x3, vI x4, vI x5, some (.ref 0), vI (if x3 < (0 : Int32) then (0 : Int32) else (if (3 : Int32) < x3 then (0 : Int32) else (1 : Int32))), vI (if x5 < (0 : Int32) then (0 : Int32) else (if (255 : Int32) < x5 then (0 : Int32) else (1 : Int32))), none, none, none, none, none, none, none, none, none, none, none, none], [.int x4], (H0 r13))) rfl ?_
      have K23 : ∀ z22 : Int32, z22 = (if x4 < (0 : Int32) then (0 : Int32) else (if (255 : Int32) < x4 then (255 : Int32) else x4)) → QTri l Z n0 ad 0 (74, [none, none, none, vI x3, vI x4, vI x5, some (.ref 0), vI (if x3 < (0 : Int32) then (0 : Int32) else (if (3 : Int32) < x3 then (0 : Int32) else (1 : Int32))), vI (if x5 < (0 : Int32) then (0 : Int32) else (if (255 : Int32) < x5 then (0 : Int32) else (1 : Int32))), none, none, none, none, none, none, none, none, none, none, none, none], [.int z22], (H0 r13)) (some (Value.int r.1)) r.2 := by
        intro z22 ez22
        subst ez22
        refine QTri.steps Ad W 4 (st' := (81, [none, none, none, vI x3, vI x4, vI x5, some (.ref 0), vI (if x3 < (0 : Int32) then (0 : Int32) else (if (3 : Int32) < x3 then (0 : Int32) else (1 : Int32))), vI (if x5 < (0 : Int32) then (0 : Int32) else (if (255 : Int32) < x5 then (0 : Int32) else (1 : Int32))), vI (if x4 < (0 : Int32) then (0 : Int32) else (if (255 : Int32) < x4 then (255 : Int32) else x4)), none, none, none, none, none, none, none, none, none, none, none], [.int x4, .int x3, .ref 0], (H0 r13))) rfl ?_
        obtain ⟨r33, hr33, h⟩ := Option.bind_eq_some_iff.mp h
        refine QTri.callV W (a := 0) (as := [.int x3, .int x4]) (rest := []) (w := (some (.int r33.1))) (σ₁ := (H0 r33.2)) rfl rfl rfl rfl rfl rfl rfl rfl (tF3 Ad W r13 x3 x4 hr33) ?_
        refine QTri.steps Ad W 3 (st' := (90, [none, none, none, vI x3, vI x4, vI x5, some (.ref 0), vI (if x3 < (0 : Int32) then (0 : Int32) else (if (3 : Int32) < x3 then (0 : Int32) else (1 : Int32))), vI (if x5 < (0 : Int32) then (0 : Int32) else (if (255 : Int32) < x5 then (0 : Int32) else (1 : Int32))), vI (if x4 < (0 : Int32) then (0 : Int32) else (if (255 : Int32) < x4 then (255 : Int32) else x4)), vI r33.1, none, none, none, none, none, none, none, none, none, none], [.int (if x3 < (0 : Int32) then (0 : Int32) else (if (3 : Int32) < x3 then (0 : Int32) else (1 : Int32))), .int r33.1], (H0 r33.2))) rfl ?_
        rcases qite h with ⟨hc34, h⟩ | ⟨hc34, h⟩
        · refine QTri.brT Ad W (t := 95) (f := 93) (L := [none, none, none, vI x3, vI x4, vI x5, some (.ref 0), vI (if x3 < (0 : Int32) then (0 : Int32) else (if (3 : Int32) < x3 then (0 : Int32) else (1 : Int32))), vI (if x5 < (0 : Int32) then (0 : Int32) else (if (255 : Int32) < x5 then (0 : Int32) else (1 : Int32))), vI (if x4 < (0 : Int32) then (0 : Int32) else (if (255 : Int32) < x4 then (255 : Int32) else x4)), vI r33.1, none, none, none, none, none, none, none, none, none, none]) (S := []) (σ := (H0 r33.2)) rfl (XT.ii_eq_t hc34) ?_
          refine QTri.steps Ad W 2 (st' := (99, [none, none, none, vI x3, vI x4, vI x5, some (.ref 0), vI (if x3 < (0 : Int32) then (0 : Int32) else (if (3 : Int32) < x3 then (0 : Int32) else (1 : Int32))), vI (if x5 < (0 : Int32) then (0 : Int32) else (if (255 : Int32) < x5 then (0 : Int32) else (1 : Int32))), vI (if x4 < (0 : Int32) then (0 : Int32) else (if (255 : Int32) < x4 then (255 : Int32) else x4)), vI r33.1, none, none, none, none, none, none, none, none, none, none], [.int x5, .ref 0], (H0 r33.2))) rfl ?_
          obtain ⟨r147, hr147, h⟩ := Option.bind_eq_some_iff.mp h
          refine QTri.callV W (a := 0) (as := [.int x5]) (rest := []) (w := (some (.int r147.1))) (σ₁ := (H0 r147.2)) rfl rfl rfl rfl rfl rfl rfl rfl (tF5 Ad W r33.2 x5 hr147) ?_
          refine QTri.steps Ad W 3 (st' := (108, [none, none, none, vI x3, vI x4, vI x5, some (.ref 0), vI (if x3 < (0 : Int32) then (0 : Int32) else (if (3 : Int32) < x3 then (0 : Int32) else (1 : Int32))), vI (if x5 < (0 : Int32) then (0 : Int32) else (if (255 : Int32) < x5 then (0 : Int32) else (1 : Int32))), vI (if x4 < (0 : Int32) then (0 : Int32) else (if (255 : Int32) < x4 then (255 : Int32) else x4)), vI r33.1, vI r147.1, none, none, none, none, none, none, none, none, none], [.int (if x5 < (0 : Int32) then (0 : Int32) else (if (255 : Int32) < x5 then (0 : Int32) else (1 : Int32))), .int r147.1], (H0 r147.2))) rfl ?_
          have K149 : ∀ z148 : Int32, z148 = (if (if x5 < (0 : Int32) then (0 : Int32) else (if (255 : Int32) < x5 then (0 : Int32) else (1 : Int32))) = (0 : Int32) then (-1 : Int32) else (0 : Int32)) → QTri l Z n0 ad 0 (116, [none, none, none, vI x3, none, none, some (.ref 0), vI (if x3 < (0 : Int32) then (0 : Int32) else (if (3 : Int32) < x3 then (0 : Int32) else (1 : Int32))), vI (if x5 < (0 : Int32) then (0 : Int32) else (if (255 : Int32) < x5 then (0 : Int32) else (1 : Int32))), vI (if x4 < (0 : Int32) then (0 : Int32) else (if (255 : Int32) < x4 then (255 : Int32) else x4)), none, none, none, none, none, none, none, none, none, none, none], [.int z148, .int r147.1], (H0 r147.2)) (some (Value.int r.1)) r.2 := by
            intro z148 ez148
            subst ez148
            rcases qite h with ⟨hc151, h⟩ | ⟨hc151, h⟩
            · refine QTri.brT Ad W (t := 121) (f := 119) (L := [none, none, none, vI x3, none, none, some (.ref 0), vI (if x3 < (0 : Int32) then (0 : Int32) else (if (3 : Int32) < x3 then (0 : Int32) else (1 : Int32))), vI (if x5 < (0 : Int32) then (0 : Int32) else (if (255 : Int32) < x5 then (0 : Int32) else (1 : Int32))), vI (if x4 < (0 : Int32) then (0 : Int32) else (if (255 : Int32) < x4 then (255 : Int32) else x4)), none, none, none, none, none, none, none, none, none, none, none]) (S := []) (σ := (H0 r147.2)) rfl (XT.ii_eq_t hc151) ?_
              refine QTri.steps Ad W 1 (st' := (123, [none, none, none, vI x3, none, none, some (.ref 0), vI (if x3 < (0 : Int32) then (0 : Int32) else (if (3 : Int32) < x3 then (0 : Int32) else (1 : Int32))), vI (if x5 < (0 : Int32) then (0 : Int32) else (if (255 : Int32) < x5 then (0 : Int32) else (1 : Int32))), vI (if x4 < (0 : Int32) then (0 : Int32) else (if (255 : Int32) < x4 then (255 : Int32) else x4)), none, none, none, none, none, none, none, none, none, none, none], [.int (if x3 < (0 : Int32) then (0 : Int32) else (if (3 : Int32) < x3 then (0 : Int32) else (1 : Int32)))], (H0 r147.2))) rfl ?_
              have K153 : ∀ z152 : Int32, z152 = (if (if x3 < (0 : Int32) then (0 : Int32) else (if (3 : Int32) < x3 then (0 : Int32) else (1 : Int32))) = (0 : Int32) then (0 : Int32) else (if (if x5 < (0 : Int32) then (0 : Int32) else (if (255 : Int32) < x5 then (0 : Int32) else (1 : Int32))) = (0 : Int32) then (0 : Int32) else (if (0 : Int32) < (if x4 < (0 : Int32) then (0 : Int32) else (if (255 : Int32) < x4 then (255 : Int32) else x4)) then (1 : Int32) else (0 : Int32)))) → QTri l Z n0 ad 0 (141, [none, none, none, vI x3, none, none, some (.ref 0), vI (if x3 < (0 : Int32) then (0 : Int32) else (if (3 : Int32) < x3 then (0 : Int32) else (1 : Int32))), vI (if x5 < (0 : Int32) then (0 : Int32) else (if (255 : Int32) < x5 then (0 : Int32) else (1 : Int32))), vI (if x4 < (0 : Int32) then (0 : Int32) else (if (255 : Int32) < x4 then (255 : Int32) else x4)), none, none, none, none, none, none, none, none, none, none, none], [.int z152], (H0 r147.2)) (some (Value.int r.1)) r.2 := by
                intro z152 ez152
                subst ez152
                refine QTri.steps Ad W 3 (st' := (147, [none, none, none, vI x3, none, none, some (.ref 0), vI (if x3 < (0 : Int32) then (0 : Int32) else (if (3 : Int32) < x3 then (0 : Int32) else (1 : Int32))), vI (if x5 < (0 : Int32) then (0 : Int32) else (if (255 : Int32) < x5 then (0 : Int32) else (1 : Int32))), vI (if x4 < (0 : Int32) then (0 : Int32) else (if (255 : Int32) < x4 then (255 : Int32) else x4)), none, none, vI (if (if x3 < (0 : Int32) then (0 : Int32) else (if (3 : Int32) < x3 then (0 : Int32) else (1 : Int32))) = (0 : Int32) then (0 : Int32) else (if (if x5 < (0 : Int32) then (0 : Int32) else (if (255 : Int32) < x5 then (0 : Int32) else (1 : Int32))) = (0 : Int32) then (0 : Int32) else (if (0 : Int32) < (if x4 < (0 : Int32) then (0 : Int32) else (if (255 : Int32) < x4 then (255 : Int32) else x4)) then (1 : Int32) else (0 : Int32)))), vI (-2 : Int32), none, none, none, none, none, none, none], [], (H0 r147.2))) rfl ?_
                refine QTri.steps Ad W 3 (st' := (151, [none, none, none, vI x3, none, none, some (.ref 0), vI (if x3 < (0 : Int32) then (0 : Int32) else (if (3 : Int32) < x3 then (0 : Int32) else (1 : Int32))), vI (if x5 < (0 : Int32) then (0 : Int32) else (if (255 : Int32) < x5 then (0 : Int32) else (1 : Int32))), vI (if x4 < (0 : Int32) then (0 : Int32) else (if (255 : Int32) < x4 then (255 : Int32) else x4)), none, none, vI (if (if x3 < (0 : Int32) then (0 : Int32) else (if (3 : Int32) < x3 then (0 : Int32) else (1 : Int32))) = (0 : Int32) then (0 : Int32) else (if (if x5 < (0 : Int32) then (0 : Int32) else (if (255 : Int32) < x5 then (0 : Int32) else (1 : Int32))) = (0 : Int32) then (0 : Int32) else (if (0 : Int32) < (if x4 < (0 : Int32) then (0 : Int32) else (if (255 : Int32) < x4 then (255 : Int32) else x4)) then (1 : Int32) else (0 : Int32)))), vI (-2 : Int32), none, none, none, none, none, none, none], [.int (5 : Int32), .int x3, .ref 0], (H0 r147.2))) rfl ?_
                obtain ⟨r175, hr175, h⟩ := Option.bind_eq_some_iff.mp h
                refine QTri.callV W (a := 0) (as := [.int x3, .int (5 : Int32)]) (rest := []) (w := (some (.int r175))) (σ₁ := (H0 r147.2)) rfl rfl rfl rfl rfl rfl rfl rfl (tF17 Ad W r147.2 x3 (5 : Int32) hr175) ?_
                refine QTri.steps Ad W 3 (st' := (160, [none, none, none, vI x3, none, none, some (.ref 0), vI (if x3 < (0 : Int32) then (0 : Int32) else (if (3 : Int32) < x3 then (0 : Int32) else (1 : Int32))), vI (if x5 < (0 : Int32) then (0 : Int32) else (if (255 : Int32) < x5 then (0 : Int32) else (1 : Int32))), vI (if x4 < (0 : Int32) then (0 : Int32) else (if (255 : Int32) < x4 then (255 : Int32) else x4)), none, none, vI (if (if x3 < (0 : Int32) then (0 : Int32) else (if (3 : Int32) < x3 then (0 : Int32) else (1 : Int32))) = (0 : Int32) then (0 : Int32) else (if (if x5 < (0 : Int32) then (0 : Int32) else (if (255 : Int32) < x5 then (0 : Int32) else (1 : Int32))) = (0 : Int32) then (0 : Int32) else (if (0 : Int32) < (if x4 < (0 : Int32) then (0 : Int32) else (if (255 : Int32) < x4 then (255 : Int32) else x4)) then (1 : Int32) else (0 : Int32)))), vI (-2 : Int32), vI r175, none, none, none, none, none, none], [.int (if x3 < (0 : Int32) then (0 : Int32) else (if (3 : Int32) < x3 then (0 : Int32) else (1 : Int32))), .int r175], (H0 r147.2))) rfl ?_
                have K177 : ∀ z176 : Int32, z176 = (if (if x3 < (0 : Int32) then (0 : Int32) else (if (3 : Int32) < x3 then (0 : Int32) else (1 : Int32))) = (0 : Int32) then (-2 : Int32) else (if (if (if x3 < (0 : Int32) then (0 : Int32) else (if (3 : Int32) < x3 then (0 : Int32) else (1 : Int32))) = (0 : Int32) then (0 : Int32) else (if (if x5 < (0 : Int32) then (0 : Int32) else (if (255 : Int32) < x5 then (0 : Int32) else (1 : Int32))) = (0 : Int32) then (0 : Int32) else (if (0 : Int32) < (if x4 < (0 : Int32) then (0 : Int32) else (if (255 : Int32) < x4 then (255 : Int32) else x4)) then (1 : Int32) else (0 : Int32)))) = (0 : Int32) then ((if x4 < (0 : Int32) then (0 : Int32) else (if (255 : Int32) < x4 then (255 : Int32) else x4)) - (0 : Int32)) else ((if x4 < (0 : Int32) then (0 : Int32) else (if (255 : Int32) < x4 then (255 : Int32) else x4)) - (1 : Int32)))) → QTri l Z n0 ad 0 (181, [none, none, none, vI x3, none, none, some (.ref 0), vI (if x3 < (0 : Int32) then (0 : Int32) else (if (3 : Int32) < x3 then (0 : Int32) else (1 : Int32))), vI (if x5 < (0 : Int32) then (0 : Int32) else (if (255 : Int32) < x5 then (0 : Int32) else (1 : Int32))), none, none, none, vI (if (if x3 < (0 : Int32) then (0 : Int32) else (if (3 : Int32) < x3 then (0 : Int32) else (1 : Int32))) = (0 : Int32) then (0 : Int32) else (if (if x5 < (0 : Int32) then (0 : Int32) else (if (255 : Int32) < x5 then (0 : Int32) else (1 : Int32))) = (0 : Int32) then (0 : Int32) else (if (0 : Int32) < (if x4 < (0 : Int32) then (0 : Int32) else (if (255 : Int32) < x4 then (255 : Int32) else x4)) then (1 : Int32) else (0 : Int32)))), vI (-2 : Int32), none, none, none, none, none, none, none], [.int z176, .int r175], (H0 r147.2)) (some (Value.int r.1)) r.2 := by
                  intro z176 ez176
                  subst ez176
                  rcases qite h with ⟨hc180, h⟩ | ⟨hc180, h⟩
                  · refine QTri.brT Ad W (t := 186) (f := 184) (L := [none, none, none, vI x3, none, none, some (.ref 0), vI (if x3 < (0 : Int32) then (0 : Int32) else (if (3 : Int32) < x3 then (0 : Int32) else (1 : Int32))), vI (if x5 < (0 : Int32) then (0 : Int32) else (if (255 : Int32) < x5 then (0 : Int32) else (1 : Int32))), none, none, none, vI (if (if x3 < (0 : Int32) then (0 : Int32) else (if (3 : Int32) < x3 then (0 : Int32) else (1 : Int32))) = (0 : Int32) then (0 : Int32) else (if (if x5 < (0 : Int32) then (0 : Int32) else (if (255 : Int32) < x5 then (0 : Int32) else (1 : Int32))) = (0 : Int32) then (0 : Int32) else (if (0 : Int32) < (if x4 < (0 : Int32) then (0 : Int32) else (if (255 : Int32) < x4 then (255 : Int32) else x4)) then (1 : Int32) else (0 : Int32)))), vI (-2 : Int32), none, none, none, none, none, none, none]) (S := []) (σ := (H0 r147.2)) rfl (XT.ii_eq_t hc180) ?_
                    refine QTri.steps Ad W 3 (st' := (191, [none, none, none, vI x3, none, none, some (.ref 0), vI (if x3 < (0 : Int32) then (0 : Int32) else (if (3 : Int32) < x3 then (0 : Int32) else (1 : Int32))), vI (if x5 < (0 : Int32) then (0 : Int32) else (if (255 : Int32) < x5 then (0 : Int32) else (1 : Int32))), none, none, none, vI (if (if x3 < (0 : Int32) then (0 : Int32) else (if (3 : Int32) < x3 then (0 : Int32) else (1 : Int32))) = (0 : Int32) then (0 : Int32) else (if (if x5 < (0 : Int32) then (0 : Int32) else (if (255 : Int32) < x5 then (0 : Int32) else (1 : Int32))) = (0 : Int32) then (0 : Int32) else (if (0 : Int32) < (if x4 < (0 : Int32) then (0 : Int32) else (if (255 : Int32) < x4 then (255 : Int32) else x4)) then (1 : Int32) else (0 : Int32)))), vI (-2 : Int32), none, none, none, none, none, none, none], [.int (7 : Int32), .int x3, .ref 0], (H0 r147.2))) rfl ?_
                    obtain ⟨r181, hr181, h⟩ := Option.bind_eq_some_iff.mp h
                    refine QTri.callV W (a := 0) (as := [.int x3, .int (7 : Int32)]) (rest := []) (w := (some (.int r181))) (σ₁ := (H0 r147.2)) rfl rfl rfl rfl rfl rfl rfl rfl (tF17 Ad W r147.2 x3 (7 : Int32) hr181) ?_
                    refine QTri.steps Ad W 3 (st' := (200, [none, none, none, vI x3, none, none, some (.ref 0), vI (if x3 < (0 : Int32) then (0 : Int32) else (if (3 : Int32) < x3 then (0 : Int32) else (1 : Int32))), vI (if x5 < (0 : Int32) then (0 : Int32) else (if (255 : Int32) < x5 then (0 : Int32) else (1 : Int32))), none, none, none, vI (if (if x3 < (0 : Int32) then (0 : Int32) else (if (3 : Int32) < x3 then (0 : Int32) else (1 : Int32))) = (0 : Int32) then (0 : Int32) else (if (if x5 < (0 : Int32) then (0 : Int32) else (if (255 : Int32) < x5 then (0 : Int32) else (1 : Int32))) = (0 : Int32) then (0 : Int32) else (if (0 : Int32) < (if x4 < (0 : Int32) then (0 : Int32) else (if (255 : Int32) < x4 then (255 : Int32) else x4)) then (1 : Int32) else (0 : Int32)))), vI (-2 : Int32), none, vI r181, none, none, none, none, none], [.int (if x3 < (0 : Int32) then (0 : Int32) else (if (3 : Int32) < x3 then (0 : Int32) else (1 : Int32))), .int r181], (H0 r147.2))) rfl ?_
                    have K183 : ∀ z182 : Int32, z182 = (if (if x3 < (0 : Int32) then (0 : Int32) else (if (3 : Int32) < x3 then (0 : Int32) else (1 : Int32))) = (0 : Int32) then (-2 : Int32) else (if (if (if x3 < (0 : Int32) then (0 : Int32) else (if (3 : Int32) < x3 then (0 : Int32) else (1 : Int32))) = (0 : Int32) then (0 : Int32) else (if (if x5 < (0 : Int32) then (0 : Int32) else (if (255 : Int32) < x5 then (0 : Int32) else (1 : Int32))) = (0 : Int32) then (0 : Int32) else (if (0 : Int32) < (if x4 < (0 : Int32) then (0 : Int32) else (if (255 : Int32) < x4 then (255 : Int32) else x4)) then (1 : Int32) else (0 : Int32)))) = (0 : Int32) then (0 : Int32) else (1 : Int32))) → QTri l Z n0 ad 0 (218, [none, none, none, vI x3, none, none, some (.ref 0), vI (if x3 < (0 : Int32) then (0 : Int32) else (if (3 : Int32) < x3 then (0 : Int32) else (1 : Int32))), vI (if x5 < (0 : Int32) then (0 : Int32) else (if (255 : Int32) < x5 then (0 : Int32) else (1 : Int32))), none, none, none, vI (if (if x3 < (0 : Int32) then (0 : Int32) else (if (3 : Int32) < x3 then (0 : Int32) else (1 : Int32))) = (0 : Int32) then (0 : Int32) else (if (if x5 < (0 : Int32) then (0 : Int32) else (if (255 : Int32) < x5 then (0 : Int32) else (1 : Int32))) = (0 : Int32) then (0 : Int32) else (if (0 : Int32) < (if x4 < (0 : Int32) then (0 : Int32) else (if (255 : Int32) < x4 then (255 : Int32) else x4)) then (1 : Int32) else (0 : Int32)))), vI (-2 : Int32), none, none, none, none, none, none, none], [.int z182, .int r181], (H0 r147.2)) (some (Value.int r.1)) r.2 := by
                      intro z182 ez182
                      subst ez182
                      rcases qite h with ⟨hc186, h⟩ | ⟨hc186, h⟩
                      · refine QTri.brT Ad W (t := 223) (f := 221) (L := [none, none, none, vI x3, none, none, some (.ref 0), vI (if x3 < (0 : Int32) then (0 : Int32) else (if (3 : Int32) < x3 then (0 : Int32) else (1 : Int32))), vI (if x5 < (0 : Int32) then (0 : Int32) else (if (255 : Int32) < x5 then (0 : Int32) else (1 : Int32))), none, none, none, vI (if (if x3 < (0 : Int32) then (0 : Int32) else (if (3 : Int32) < x3 then (0 : Int32) else (1 : Int32))) = (0 : Int32) then (0 : Int32) else (if (if x5 < (0 : Int32) then (0 : Int32) else (if (255 : Int32) < x5 then (0 : Int32) else (1 : Int32))) = (0 : Int32) then (0 : Int32) else (if (0 : Int32) < (if x4 < (0 : Int32) then (0 : Int32) else (if (255 : Int32) < x4 then (255 : Int32) else x4)) then (1 : Int32) else (0 : Int32)))), vI (-2 : Int32), none, none, none, none, none, none, none]) (S := []) (σ := (H0 r147.2)) rfl (XT.ii_eq_t hc186) ?_
                        refine QTri.steps Ad W 3 (st' := (227, [none, none, none, vI x3, none, none, some (.ref 0), vI (if x3 < (0 : Int32) then (0 : Int32) else (if (3 : Int32) < x3 then (0 : Int32) else (1 : Int32))), vI (if x5 < (0 : Int32) then (0 : Int32) else (if (255 : Int32) < x5 then (0 : Int32) else (1 : Int32))), none, none, none, vI (if (if x3 < (0 : Int32) then (0 : Int32) else (if (3 : Int32) < x3 then (0 : Int32) else (1 : Int32))) = (0 : Int32) then (0 : Int32) else (if (if x5 < (0 : Int32) then (0 : Int32) else (if (255 : Int32) < x5 then (0 : Int32) else (1 : Int32))) = (0 : Int32) then (0 : Int32) else (if (0 : Int32) < (if x4 < (0 : Int32) then (0 : Int32) else (if (255 : Int32) < x4 then (255 : Int32) else x4)) then (1 : Int32) else (0 : Int32)))), vI (-2 : Int32), none, none, none, none, none, none, none], [.int (0 : Int32), .int x3, .ref 0], (H0 r147.2))) rfl ?_
                        obtain ⟨r187, hr187, h⟩ := Option.bind_eq_some_iff.mp h
                        refine QTri.callV W (a := 0) (as := [.int x3, .int (0 : Int32)]) (rest := []) (w := (some (.int r187))) (σ₁ := (H0 r147.2)) rfl rfl rfl rfl rfl rfl rfl rfl (tF17 Ad W r147.2 x3 (0 : Int32) hr187) ?_
                        refine QTri.steps Ad W 3 (st' := (236, [none, none, none, vI x3, none, none, some (.ref 0), vI (if x3 < (0 : Int32) then (0 : Int32) else (if (3 : Int32) < x3 then (0 : Int32) else (1 : Int32))), vI (if x5 < (0 : Int32) then (0 : Int32) else (if (255 : Int32) < x5 then (0 : Int32) else (1 : Int32))), none, none, none, vI (if (if x3 < (0 : Int32) then (0 : Int32) else (if (3 : Int32) < x3 then (0 : Int32) else (1 : Int32))) = (0 : Int32) then (0 : Int32) else (if (if x5 < (0 : Int32) then (0 : Int32) else (if (255 : Int32) < x5 then (0 : Int32) else (1 : Int32))) = (0 : Int32) then (0 : Int32) else (if (0 : Int32) < (if x4 < (0 : Int32) then (0 : Int32) else (if (255 : Int32) < x4 then (255 : Int32) else x4)) then (1 : Int32) else (0 : Int32)))), vI (-2 : Int32), none, none, vI r187, none, none, none, none], [.int (if x3 < (0 : Int32) then (0 : Int32) else (if (3 : Int32) < x3 then (0 : Int32) else (1 : Int32))), .int r187], (H0 r147.2))) rfl ?_
                        have K189 : ∀ z188 : Int32, z188 = (if (if x3 < (0 : Int32) then (0 : Int32) else (if (3 : Int32) < x3 then (0 : Int32) else (1 : Int32))) = (0 : Int32) then (-2 : Int32) else (if (if x5 < (0 : Int32) then (0 : Int32) else (if (255 : Int32) < x5 then (0 : Int32) else (1 : Int32))) = (0 : Int32) then (0 : Int32) else (if (if (if x3 < (0 : Int32) then (0 : Int32) else (if (3 : Int32) < x3 then (0 : Int32) else (1 : Int32))) = (0 : Int32) then (0 : Int32) else (if (if x5 < (0 : Int32) then (0 : Int32) else (if (255 : Int32) < x5 then (0 : Int32) else (1 : Int32))) = (0 : Int32) then (0 : Int32) else (if (0 : Int32) < (if x4 < (0 : Int32) then (0 : Int32) else (if (255 : Int32) < x4 then (255 : Int32) else x4)) then (1 : Int32) else (0 : Int32)))) = (0 : Int32) then (1 : Int32) else (0 : Int32)))) → QTri l Z n0 ad 0 (259, [none, none, none, vI x3, none, none, some (.ref 0), none, vI (if x5 < (0 : Int32) then (0 : Int32) else (if (255 : Int32) < x5 then (0 : Int32) else (1 : Int32))), none, none, none, vI (if (if x3 < (0 : Int32) then (0 : Int32) else (if (3 : Int32) < x3 then (0 : Int32) else (1 : Int32))) = (0 : Int32) then (0 : Int32) else (if (if x5 < (0 : Int32) then (0 : Int32) else (if (255 : Int32) < x5 then (0 : Int32) else (1 : Int32))) = (0 : Int32) then (0 : Int32) else (if (0 : Int32) < (if x4 < (0 : Int32) then (0 : Int32) else (if (255 : Int32) < x4 then (255 : Int32) else x4)) then (1 : Int32) else (0 : Int32)))), none, none, none, none, none, none, none, none], [.int z188, .int r187], (H0 r147.2)) (some (Value.int r.1)) r.2 := by
                          intro z188 ez188
                          subst ez188
                          rcases qite h with ⟨hc193, h⟩ | ⟨hc193, h⟩
                          · refine QTri.brT Ad W (t := 264) (f := 262) (L := [none, none, none, vI x3, none, none, some (.ref 0), none, vI (if x5 < (0 : Int32) then (0 : Int32) else (if (255 : Int32) < x5 then (0 : Int32) else (1 : Int32))), none, none, none, vI (if (if x3 < (0 : Int32) then (0 : Int32) else (if (3 : Int32) < x3 then (0 : Int32) else (1 : Int32))) = (0 : Int32) then (0 : Int32) else (if (if x5 < (0 : Int32) then (0 : Int32) else (if (255 : Int32) < x5 then (0 : Int32) else (1 : Int32))) = (0 : Int32) then (0 : Int32) else (if (0 : Int32) < (if x4 < (0 : Int32) then (0 : Int32) else (if (255 : Int32) < x4 then (255 : Int32) else x4)) then (1 : Int32) else (0 : Int32)))), none, none, none, none, none, none, none, none]) (S := []) (σ := (H0 r147.2)) rfl (XT.ii_eq_t hc193) ?_
                            refine QTri.steps Ad W 2 (st' := (268, [none, none, none, vI x3, none, none, some (.ref 0), none, vI (if x5 < (0 : Int32) then (0 : Int32) else (if (255 : Int32) < x5 then (0 : Int32) else (1 : Int32))), none, none, none, vI (if (if x3 < (0 : Int32) then (0 : Int32) else (if (3 : Int32) < x3 then (0 : Int32) else (1 : Int32))) = (0 : Int32) then (0 : Int32) else (if (if x5 < (0 : Int32) then (0 : Int32) else (if (255 : Int32) < x5 then (0 : Int32) else (1 : Int32))) = (0 : Int32) then (0 : Int32) else (if (0 : Int32) < (if x4 < (0 : Int32) then (0 : Int32) else (if (255 : Int32) < x4 then (255 : Int32) else x4)) then (1 : Int32) else (0 : Int32)))), none, none, none, none, none, none, none, none], [.int (9 : Int32), .ref 0], (H0 r147.2))) rfl ?_
                            obtain ⟨r198, hr198, h⟩ := Option.bind_eq_some_iff.mp h
                            refine QTri.callV W (a := 0) (as := [.int (9 : Int32)]) (rest := []) (w := (some (.int r198))) (σ₁ := (H0 r147.2)) rfl rfl rfl rfl rfl rfl rfl rfl (tF18 Ad W r147.2 (9 : Int32) hr198) ?_
                            refine QTri.steps Ad W 3 (st' := (277, [none, none, none, vI x3, none, none, some (.ref 0), none, vI (if x5 < (0 : Int32) then (0 : Int32) else (if (255 : Int32) < x5 then (0 : Int32) else (1 : Int32))), none, none, none, vI (if (if x3 < (0 : Int32) then (0 : Int32) else (if (3 : Int32) < x3 then (0 : Int32) else (1 : Int32))) = (0 : Int32) then (0 : Int32) else (if (if x5 < (0 : Int32) then (0 : Int32) else (if (255 : Int32) < x5 then (0 : Int32) else (1 : Int32))) = (0 : Int32) then (0 : Int32) else (if (0 : Int32) < (if x4 < (0 : Int32) then (0 : Int32) else (if (255 : Int32) < x4 then (255 : Int32) else x4)) then (1 : Int32) else (0 : Int32)))), none, none, none, none, vI r198, none, none, none], [.int (if (if x3 < (0 : Int32) then (0 : Int32) else (if (3 : Int32) < x3 then (0 : Int32) else (1 : Int32))) = (0 : Int32) then (0 : Int32) else (if (if x5 < (0 : Int32) then (0 : Int32) else (if (255 : Int32) < x5 then (0 : Int32) else (1 : Int32))) = (0 : Int32) then (0 : Int32) else (if (0 : Int32) < (if x4 < (0 : Int32) then (0 : Int32) else (if (255 : Int32) < x4 then (255 : Int32) else x4)) then (1 : Int32) else (0 : Int32)))), .int r198], (H0 r147.2))) rfl ?_
                            have K200 : ∀ z199 : Int32, z199 = (if (if (if x3 < (0 : Int32) then (0 : Int32) else (if (3 : Int32) < x3 then (0 : Int32) else (1 : Int32))) = (0 : Int32) then (0 : Int32) else (if (if x5 < (0 : Int32) then (0 : Int32) else (if (255 : Int32) < x5 then (0 : Int32) else (1 : Int32))) = (0 : Int32) then (0 : Int32) else (if (0 : Int32) < (if x4 < (0 : Int32) then (0 : Int32) else (if (255 : Int32) < x4 then (255 : Int32) else x4)) then (1 : Int32) else (0 : Int32)))) = (0 : Int32) then (0 : Int32) else (1 : Int32)) → QTri l Z n0 ad 0 (285, [none, none, none, vI x3, none, none, some (.ref 0), none, vI (if x5 < (0 : Int32) then (0 : Int32) else (if (255 : Int32) < x5 then (0 : Int32) else (1 : Int32))), none, none, none, none, none, none, none, none, none, none, none, none], [.int z199, .int r198], (H0 r147.2)) (some (Value.int r.1)) r.2 := by
                              intro z199 ez199
                              subst ez199
                              rcases qite h with ⟨hc202, h⟩ | ⟨hc202, h⟩
                              · refine QTri.brT Ad W (t := 290) (f := 288) (L := [none, none, none, vI x3, none, none, some (.ref 0), none, vI (if x5 < (0 : Int32) then (0 : Int32) else (if (255 : Int32) < x5 then (0 : Int32) else (1 : Int32))), none, none, none, none, none, none, none, none, none, none, none, none]) (S := []) (σ := (H0 r147.2)) rfl (XT.ii_eq_t hc202) ?_
                                refine QTri.steps Ad W 9 (st' := (302, [none, none, none, vI x3, none, none, some (.ref 0), none, vI (if x5 < (0 : Int32) then (0 : Int32) else (if (255 : Int32) < x5 then (0 : Int32) else (1 : Int32))), none, none, none, none, none, none, none, none, none, vI ((x3 + (1 : Int32)) &&& (3 : Int32)), none, none], [.int (0 : Int32), .int ((x3 + (1 : Int32)) &&& (3 : Int32)), .ref 0], (H0 r147.2))) rfl ?_
                                obtain ⟨r203, hr203, h⟩ := Option.bind_eq_some_iff.mp h
                                refine QTri.callV W (a := 0) (as := [.int ((x3 + (1 : Int32)) &&& (3 : Int32)), .int (0 : Int32)]) (rest := []) (w := (some (.int r203))) (σ₁ := (H0 r147.2)) rfl rfl rfl rfl rfl rfl rfl rfl (tF17 Ad W r147.2 ((x3 + (1 : Int32)) &&& (3 : Int32)) (0 : Int32) hr203) ?_
                                refine QTri.steps Ad W 3 (st' := (311, [none, none, none, vI x3, none, none, some (.ref 0), none, vI (if x5 < (0 : Int32) then (0 : Int32) else (if (255 : Int32) < x5 then (0 : Int32) else (1 : Int32))), none, none, none, none, none, none, none, none, none, vI ((x3 + (1 : Int32)) &&& (3 : Int32)), vI r203, none], [.int (if x5 < (0 : Int32) then (0 : Int32) else (if (255 : Int32) < x5 then (0 : Int32) else (1 : Int32))), .int r203], (H0 r147.2))) rfl ?_
                                have K205 : ∀ z204 : Int32, z204 = (if (if x5 < (0 : Int32) then (0 : Int32) else (if (255 : Int32) < x5 then (0 : Int32) else (1 : Int32))) = (0 : Int32) then (0 : Int32) else (1 : Int32)) → QTri l Z n0 ad 0 (319, [none, none, none, none, none, none, some (.ref 0), none, none, none, none, none, none, none, none, none, none, none, vI ((x3 + (1 : Int32)) &&& (3 : Int32)), none, none], [.int z204, .int r203], (H0 r147.2)) (some (Value.int r.1)) r.2 := by
                                  intro z204 ez204
                                  subst ez204
                                  rcases qite h with ⟨hc207, h⟩ | ⟨hc207, h⟩
                                  · refine QTri.brT Ad W (t := 324) (f := 322) (L := [none, none, none, none, none, none, some (.ref 0), none, none, none, none, none, none, none, none, none, none, none, vI ((x3 + (1 : Int32)) &&& (3 : Int32)), none, none]) (S := []) (σ := (H0 r147.2)) rfl (XT.ii_eq_t hc207) ?_
                                    refine QTri.steps Ad W 3 (st' := (329, [none, none, none, none, none, none, some (.ref 0), none, none, none, none, none, none, none, none, none, none, none, vI ((x3 + (1 : Int32)) &&& (3 : Int32)), none, none], [.int (5 : Int32), .int ((x3 + (1 : Int32)) &&& (3 : Int32)), .ref 0], (H0 r147.2))) rfl ?_
                                    obtain ⟨r208, hr208, h⟩ := Option.bind_eq_some_iff.mp h
                                    refine QTri.callV W (a := 0) (as := [.int ((x3 + (1 : Int32)) &&& (3 : Int32)), .int (5 : Int32)]) (rest := []) (w := (some (.int r208))) (σ₁ := (H0 r147.2)) rfl rfl rfl rfl rfl rfl rfl rfl (tF17 Ad W r147.2 ((x3 + (1 : Int32)) &&& (3 : Int32)) (5 : Int32) hr208) ?_
                                    refine QTri.steps Ad W 2 (st' := (336, [none, none, none, none, none, none, some (.ref 0), none, none, none, none, none, none, none, none, none, none, none, vI ((x3 + (1 : Int32)) &&& (3 : Int32)), none, vI r208], [.int r208], (H0 r147.2))) rfl ?_
                                    rcases qite h with ⟨hc209, h⟩ | ⟨hc209, h⟩
                                    · refine QTri.brF Ad W (t := 343) (f := 339) (L := [none, none, none, none, none, none, some (.ref 0), none, none, none, none, none, none, none, none, none, none, none, vI ((x3 + (1 : Int32)) &&& (3 : Int32)), none, vI r208]) (S := []) (σ := (H0 r147.2)) rfl (XT.i0_ne_f hc209) ?_
                                      refine QTri.steps Ad W 2 (st' := (344, [none, none, none, none, none, none, some (.ref 0), none, none, none, none, none, none, none, none, none, none, none, vI ((x3 + (1 : Int32)) &&& (3 : Int32)), none, vI r208], [.int (1 : Int32)], (H0 r147.2))) rfl ?_
                                      obtain rfl := Option.some.inj h
                                      exact QTri.retZ rfl rfl
                                    · refine QTri.brT Ad W (t := 343) (f := 339) (L := [none, none, none, none, none, none, some (.ref 0), none, none, none, none, none, none, none, none, none, none, none, vI ((x3 + (1 : Int32)) &&& (3 : Int32)), none, vI r208]) (S := []) (σ := (H0 r147.2)) rfl (XT.i0_ne_t hc209) ?_
                                      refine QTri.steps Ad W 1 (st' := (344, [none, none, none, none, none, none, some (.ref 0), none, none, none, none, none, none, none, none, none, none, none, vI ((x3 + (1 : Int32)) &&& (3 : Int32)), none, vI r208], [.int (0 : Int32)], (H0 r147.2))) rfl ?_
                                      obtain rfl := Option.some.inj h
                                      exact QTri.retZ rfl rfl
                                  · refine QTri.brF Ad W (t := 324) (f := 322) (L := [none, none, none, none, none, none, some (.ref 0), none, none, none, none, none, none, none, none, none, none, none, vI ((x3 + (1 : Int32)) &&& (3 : Int32)), none, none]) (S := []) (σ := (H0 r147.2)) rfl (XT.ii_eq_f hc207) ?_
                                    refine QTri.steps Ad W 1 (st' := (323, [none, none, none, none, none, none, some (.ref 0), none, none, none, none, none, none, none, none, none, none, none, vI ((x3 + (1 : Int32)) &&& (3 : Int32)), none, none], [.int (0 : Int32)], (H0 r147.2))) rfl ?_
                                    obtain rfl := Option.some.inj h
                                    exact QTri.retZ rfl rfl
                                rcases Classical.em ((if x5 < (0 : Int32) then (0 : Int32) else (if (255 : Int32) < x5 then (0 : Int32) else (1 : Int32))) = (0 : Int32)) with hc206 | hc206
                                · refine QTri.brT Ad W (t := 318) (f := 314) (L := [none, none, none, vI x3, none, none, some (.ref 0), none, vI (if x5 < (0 : Int32) then (0 : Int32) else (if (255 : Int32) < x5 then (0 : Int32) else (1 : Int32))), none, none, none, none, none, none, none, none, none, vI ((x3 + (1 : Int32)) &&& (3 : Int32)), vI r203, none]) (S := [.int r203]) (σ := (H0 r147.2)) rfl (XT.i0_eq_t hc206) ?_
                                  refine QTri.steps Ad W 1 (st' := (319, [none, none, none, vI x3, none, none, some (.ref 0), none, vI (if x5 < (0 : Int32) then (0 : Int32) else (if (255 : Int32) < x5 then (0 : Int32) else (1 : Int32))), none, none, none, none, none, none, none, none, none, vI ((x3 + (1 : Int32)) &&& (3 : Int32)), vI r203, none], [.int (0 : Int32), .int r203], (H0 r147.2))) rfl ?_
                                  exact QTri.mask [false, false, false, false, false, false, true, false, false, false, false, false, false, false, false, false, false, false, true, false, false] (K205 _ (if_pos hc206).symm)
                                · refine QTri.brF Ad W (t := 318) (f := 314) (L := [none, none, none, vI x3, none, none, some (.ref 0), none, vI (if x5 < (0 : Int32) then (0 : Int32) else (if (255 : Int32) < x5 then (0 : Int32) else (1 : Int32))), none, none, none, none, none, none, none, none, none, vI ((x3 + (1 : Int32)) &&& (3 : Int32)), vI r203, none]) (S := [.int r203]) (σ := (H0 r147.2)) rfl (XT.i0_eq_f hc206) ?_
                                  refine QTri.steps Ad W 2 (st' := (319, [none, none, none, vI x3, none, none, some (.ref 0), none, vI (if x5 < (0 : Int32) then (0 : Int32) else (if (255 : Int32) < x5 then (0 : Int32) else (1 : Int32))), none, none, none, none, none, none, none, none, none, vI ((x3 + (1 : Int32)) &&& (3 : Int32)), vI r203, none], [.int (1 : Int32), .int r203], (H0 r147.2))) rfl ?_
                                  exact QTri.mask [false, false, false, false, false, false, true, false, false, false, false, false, false, false, false, false, false, false, true, false, false] (K205 _ (if_neg hc206).symm)
                              · refine QTri.brF Ad W (t := 290) (f := 288) (L := [none, none, none, vI x3, none, none, some (.ref 0), none, vI (if x5 < (0 : Int32) then (0 : Int32) else (if (255 : Int32) < x5 then (0 : Int32) else (1 : Int32))), none, none, none, none, none, none, none, none, none, none, none, none]) (S := []) (σ := (H0 r147.2)) rfl (XT.ii_eq_f hc202) ?_
                                refine QTri.steps Ad W 1 (st' := (289, [none, none, none, vI x3, none, none, some (.ref 0), none, vI (if x5 < (0 : Int32) then (0 : Int32) else (if (255 : Int32) < x5 then (0 : Int32) else (1 : Int32))), none, none, none, none, none, none, none, none, none, none, none, none], [.int (0 : Int32)], (H0 r147.2))) rfl ?_
                                obtain rfl := Option.some.inj h
                                exact QTri.retZ rfl rfl
                            rcases Classical.em ((if (if x3 < (0 : Int32) then (0 : Int32) else (if (3 : Int32) < x3 then (0 : Int32) else (1 : Int32))) = (0 : Int32) then (0 : Int32) else (if (if x5 < (0 : Int32) then (0 : Int32) else (if (255 : Int32) < x5 then (0 : Int32) else (1 : Int32))) = (0 : Int32) then (0 : Int32) else (if (0 : Int32) < (if x4 < (0 : Int32) then (0 : Int32) else (if (255 : Int32) < x4 then (255 : Int32) else x4)) then (1 : Int32) else (0 : Int32)))) = (0 : Int32)) with hc201 | hc201
                            · refine QTri.brT Ad W (t := 284) (f := 280) (L := [none, none, none, vI x3, none, none, some (.ref 0), none, vI (if x5 < (0 : Int32) then (0 : Int32) else (if (255 : Int32) < x5 then (0 : Int32) else (1 : Int32))), none, none, none, vI (if (if x3 < (0 : Int32) then (0 : Int32) else (if (3 : Int32) < x3 then (0 : Int32) else (1 : Int32))) = (0 : Int32) then (0 : Int32) else (if (if x5 < (0 : Int32) then (0 : Int32) else (if (255 : Int32) < x5 then (0 : Int32) else (1 : Int32))) = (0 : Int32) then (0 : Int32) else (if (0 : Int32) < (if x4 < (0 : Int32) then (0 : Int32) else (if (255 : Int32) < x4 then (255 : Int32) else x4)) then (1 : Int32) else (0 : Int32)))), none, none, none, none, vI r198, none, none, none]) (S := [.int r198]) (σ := (H0 r147.2)) rfl (XT.i0_eq_t hc201) ?_
                              refine QTri.steps Ad W 1 (st' := (285, [none, none, none, vI x3, none, none, some (.ref 0), none, vI (if x5 < (0 : Int32) then (0 : Int32) else (if (255 : Int32) < x5 then (0 : Int32) else (1 : Int32))), none, none, none, vI (if (if x3 < (0 : Int32) then (0 : Int32) else (if (3 : Int32) < x3 then (0 : Int32) else (1 : Int32))) = (0 : Int32) then (0 : Int32) else (if (if x5 < (0 : Int32) then (0 : Int32) else (if (255 : Int32) < x5 then (0 : Int32) else (1 : Int32))) = (0 : Int32) then (0 : Int32) else (if (0 : Int32) < (if x4 < (0 : Int32) then (0 : Int32) else (if (255 : Int32) < x4 then (255 : Int32) else x4)) then (1 : Int32) else (0 : Int32)))), none, none, none, none, vI r198, none, none, none], [.int (0 : Int32), .int r198], (H0 r147.2))) rfl ?_
                              exact QTri.mask [false, false, false, true, false, false, true, false, true, false, false, false, false, false, false, false, false, false, false, false, false] (K200 _ (if_pos hc201).symm)
                            · refine QTri.brF Ad W (t := 284) (f := 280) (L := [none, none, none, vI x3, none, none, some (.ref 0), none, vI (if x5 < (0 : Int32) then (0 : Int32) else (if (255 : Int32) < x5 then (0 : Int32) else (1 : Int32))), none, none, none, vI (if (if x3 < (0 : Int32) then (0 : Int32) else (if (3 : Int32) < x3 then (0 : Int32) else (1 : Int32))) = (0 : Int32) then (0 : Int32) else (if (if x5 < (0 : Int32) then (0 : Int32) else (if (255 : Int32) < x5 then (0 : Int32) else (1 : Int32))) = (0 : Int32) then (0 : Int32) else (if (0 : Int32) < (if x4 < (0 : Int32) then (0 : Int32) else (if (255 : Int32) < x4 then (255 : Int32) else x4)) then (1 : Int32) else (0 : Int32)))), none, none, none, none, vI r198, none, none, none]) (S := [.int r198]) (σ := (H0 r147.2)) rfl (XT.i0_eq_f hc201) ?_
                              refine QTri.steps Ad W 2 (st' := (285, [none, none, none, vI x3, none, none, some (.ref 0), none, vI (if x5 < (0 : Int32) then (0 : Int32) else (if (255 : Int32) < x5 then (0 : Int32) else (1 : Int32))), none, none, none, vI (if (if x3 < (0 : Int32) then (0 : Int32) else (if (3 : Int32) < x3 then (0 : Int32) else (1 : Int32))) = (0 : Int32) then (0 : Int32) else (if (if x5 < (0 : Int32) then (0 : Int32) else (if (255 : Int32) < x5 then (0 : Int32) else (1 : Int32))) = (0 : Int32) then (0 : Int32) else (if (0 : Int32) < (if x4 < (0 : Int32) then (0 : Int32) else (if (255 : Int32) < x4 then (255 : Int32) else x4)) then (1 : Int32) else (0 : Int32)))), none, none, none, none, vI r198, none, none, none], [.int (1 : Int32), .int r198], (H0 r147.2))) rfl ?_
                              exact QTri.mask [false, false, false, true, false, false, true, false, true, false, false, false, false, false, false, false, false, false, false, false, false] (K200 _ (if_neg hc201).symm)
                          · refine QTri.brF Ad W (t := 264) (f := 262) (L := [none, none, none, vI x3, none, none, some (.ref 0), none, vI (if x5 < (0 : Int32) then (0 : Int32) else (if (255 : Int32) < x5 then (0 : Int32) else (1 : Int32))), none, none, none, vI (if (if x3 < (0 : Int32) then (0 : Int32) else (if (3 : Int32) < x3 then (0 : Int32) else (1 : Int32))) = (0 : Int32) then (0 : Int32) else (if (if x5 < (0 : Int32) then (0 : Int32) else (if (255 : Int32) < x5 then (0 : Int32) else (1 : Int32))) = (0 : Int32) then (0 : Int32) else (if (0 : Int32) < (if x4 < (0 : Int32) then (0 : Int32) else (if (255 : Int32) < x4 then (255 : Int32) else x4)) then (1 : Int32) else (0 : Int32)))), none, none, none, none, none, none, none, none]) (S := []) (σ := (H0 r147.2)) rfl (XT.ii_eq_f hc193) ?_
                            refine QTri.steps Ad W 1 (st' := (263, [none, none, none, vI x3, none, none, some (.ref 0), none, vI (if x5 < (0 : Int32) then (0 : Int32) else (if (255 : Int32) < x5 then (0 : Int32) else (1 : Int32))), none, none, none, vI (if (if x3 < (0 : Int32) then (0 : Int32) else (if (3 : Int32) < x3 then (0 : Int32) else (1 : Int32))) = (0 : Int32) then (0 : Int32) else (if (if x5 < (0 : Int32) then (0 : Int32) else (if (255 : Int32) < x5 then (0 : Int32) else (1 : Int32))) = (0 : Int32) then (0 : Int32) else (if (0 : Int32) < (if x4 < (0 : Int32) then (0 : Int32) else (if (255 : Int32) < x4 then (255 : Int32) else x4)) then (1 : Int32) else (0 : Int32)))), none, none, none, none, none, none, none, none], [.int (0 : Int32)], (H0 r147.2))) rfl ?_
                            obtain rfl := Option.some.inj h
                            exact QTri.retZ rfl rfl
                        rcases Classical.em ((if x3 < (0 : Int32) then (0 : Int32) else (if (3 : Int32) < x3 then (0 : Int32) else (1 : Int32))) = (0 : Int32)) with hc190 | hc190
                        · refine QTri.brT Ad W (t := 257) (f := 239) (L := [none, none, none, vI x3, none, none, some (.ref 0), vI (if x3 < (0 : Int32) then (0 : Int32) else (if (3 : Int32) < x3 then (0 : Int32) else (1 : Int32))), vI (if x5 < (0 : Int32) then (0 : Int32) else (if (255 : Int32) < x5 then (0 : Int32) else (1 : Int32))), none, none, none, vI (if (if x3 < (0 : Int32) then (0 : Int32) else (if (3 : Int32) < x3 then (0 : Int32) else (1 : Int32))) = (0 : Int32) then (0 : Int32) else (if (if x5 < (0 : Int32) then (0 : Int32) else (if (255 : Int32) < x5 then (0 : Int32) else (1 : Int32))) = (0 : Int32) then (0 : Int32) else (if (0 : Int32) < (if x4 < (0 : Int32) then (0 : Int32) else (if (255 : Int32) < x4 then (255 : Int32) else x4)) then (1 : Int32) else (0 : Int32)))), vI (-2 : Int32), none, none, vI r187, none, none, none, none]) (S := [.int r187]) (σ := (H0 r147.2)) rfl (XT.i0_eq_t hc190) ?_
                          refine QTri.steps Ad W 1 (st' := (259, [none, none, none, vI x3, none, none, some (.ref 0), vI (if x3 < (0 : Int32) then (0 : Int32) else (if (3 : Int32) < x3 then (0 : Int32) else (1 : Int32))), vI (if x5 < (0 : Int32) then (0 : Int32) else (if (255 : Int32) < x5 then (0 : Int32) else (1 : Int32))), none, none, none, vI (if (if x3 < (0 : Int32) then (0 : Int32) else (if (3 : Int32) < x3 then (0 : Int32) else (1 : Int32))) = (0 : Int32) then (0 : Int32) else (if (if x5 < (0 : Int32) then (0 : Int32) else (if (255 : Int32) < x5 then (0 : Int32) else (1 : Int32))) = (0 : Int32) then (0 : Int32) else (if (0 : Int32) < (if x4 < (0 : Int32) then (0 : Int32) else (if (255 : Int32) < x4 then (255 : Int32) else x4)) then (1 : Int32) else (0 : Int32)))), vI (-2 : Int32), none, none, vI r187, none, none, none, none], [.int (-2 : Int32), .int r187], (H0 r147.2))) rfl ?_
                          exact QTri.mask [false, false, false, true, false, false, true, false, true, false, false, false, true, false, false, false, false, false, false, false, false] (K189 _ (if_pos hc190).symm)
                        · refine QTri.brF Ad W (t := 257) (f := 239) (L := [none, none, none, vI x3, none, none, some (.ref 0), vI (if x3 < (0 : Int32) then (0 : Int32) else (if (3 : Int32) < x3 then (0 : Int32) else (1 : Int32))), vI (if x5 < (0 : Int32) then (0 : Int32) else (if (255 : Int32) < x5 then (0 : Int32) else (1 : Int32))), none, none, none, vI (if (if x3 < (0 : Int32) then (0 : Int32) else (if (3 : Int32) < x3 then (0 : Int32) else (1 : Int32))) = (0 : Int32) then (0 : Int32) else (if (if x5 < (0 : Int32) then (0 : Int32) else (if (255 : Int32) < x5 then (0 : Int32) else (1 : Int32))) = (0 : Int32) then (0 : Int32) else (if (0 : Int32) < (if x4 < (0 : Int32) then (0 : Int32) else (if (255 : Int32) < x4 then (255 : Int32) else x4)) then (1 : Int32) else (0 : Int32)))), vI (-2 : Int32), none, none, vI r187, none, none, none, none]) (S := [.int r187]) (σ := (H0 r147.2)) rfl (XT.i0_eq_f hc190) ?_
                          refine QTri.steps Ad W 1 (st' := (241, [none, none, none, vI x3, none, none, some (.ref 0), vI (if x3 < (0 : Int32) then (0 : Int32) else (if (3 : Int32) < x3 then (0 : Int32) else (1 : Int32))), vI (if x5 < (0 : Int32) then (0 : Int32) else (if (255 : Int32) < x5 then (0 : Int32) else (1 : Int32))), none, none, none, vI (if (if x3 < (0 : Int32) then (0 : Int32) else (if (3 : Int32) < x3 then (0 : Int32) else (1 : Int32))) = (0 : Int32) then (0 : Int32) else (if (if x5 < (0 : Int32) then (0 : Int32) else (if (255 : Int32) < x5 then (0 : Int32) else (1 : Int32))) = (0 : Int32) then (0 : Int32) else (if (0 : Int32) < (if x4 < (0 : Int32) then (0 : Int32) else (if (255 : Int32) < x4 then (255 : Int32) else x4)) then (1 : Int32) else (0 : Int32)))), vI (-2 : Int32), none, none, vI r187, none, none, none, none], [.int (if x5 < (0 : Int32) then (0 : Int32) else (if (255 : Int32) < x5 then (0 : Int32) else (1 : Int32))), .int r187], (H0 r147.2))) rfl ?_
                          rcases Classical.em ((if x5 < (0 : Int32) then (0 : Int32) else (if (255 : Int32) < x5 then (0 : Int32) else (1 : Int32))) = (0 : Int32)) with hc191 | hc191
                          · refine QTri.brT Ad W (t := 253) (f := 244) (L := [none, none, none, vI x3, none, none, some (.ref 0), vI (if x3 < (0 : Int32) then (0 : Int32) else (if (3 : Int32) < x3 then (0 : Int32) else (1 : Int32))), vI (if x5 < (0 : Int32) then (0 : Int32) else (if (255 : Int32) < x5 then (0 : Int32) else (1 : Int32))), none, none, none, vI (if (if x3 < (0 : Int32) then (0 : Int32) else (if (3 : Int32) < x3 then (0 : Int32) else (1 : Int32))) = (0 : Int32) then (0 : Int32) else (if (if x5 < (0 : Int32) then (0 : Int32) else (if (255 : Int32) < x5 then (0 : Int32) else (1 : Int32))) = (0 : Int32) then (0 : Int32) else (if (0 : Int32) < (if x4 < (0 : Int32) then (0 : Int32) else (if (255 : Int32) < x4 then (255 : Int32) else x4)) then (1 : Int32) else (0 : Int32)))), vI (-2 : Int32), none, none, vI r187, none, none, none, none]) (S := [.int r187]) (σ := (H0 r147.2)) rfl (XT.i0_eq_t hc191) ?_
                            refine QTri.steps Ad W 2 (st' := (259, [none, none, none, vI x3, none, none, some (.ref 0), vI (if x3 < (0 : Int32) then (0 : Int32) else (if (3 : Int32) < x3 then (0 : Int32) else (1 : Int32))), vI (if x5 < (0 : Int32) then (0 : Int32) else (if (255 : Int32) < x5 then (0 : Int32) else (1 : Int32))), none, none, none, vI (if (if x3 < (0 : Int32) then (0 : Int32) else (if (3 : Int32) < x3 then (0 : Int32) else (1 : Int32))) = (0 : Int32) then (0 : Int32) else (if (if x5 < (0 : Int32) then (0 : Int32) else (if (255 : Int32) < x5 then (0 : Int32) else (1 : Int32))) = (0 : Int32) then (0 : Int32) else (if (0 : Int32) < (if x4 < (0 : Int32) then (0 : Int32) else (if (255 : Int32) < x4 then (255 : Int32) else x4)) then (1 : Int32) else (0 : Int32)))), vI (-2 : Int32), none, none, vI r187, none, none, none, none], [.int (0 : Int32), .int r187], (H0 r147.2))) rfl ?_
                            exact QTri.mask [false, false, false, true, false, false, true, false, true, false, false, false, true, false, false, false, false, false, false, false, false] (K189 _ ((if_neg hc190).trans (if_pos hc191)).symm)
                          · refine QTri.brF Ad W (t := 253) (f := 244) (L := [none, none, none, vI x3, none, none, some (.ref 0), vI (if x3 < (0 : Int32) then (0 : Int32) else (if (3 : Int32) < x3 then (0 : Int32) else (1 : Int32))), vI (if x5 < (0 : Int32) then (0 : Int32) else (if (255 : Int32) < x5 then (0 : Int32) else (1 : Int32))), none, none, none, vI (if (if x3 < (0 : Int32) then (0 : Int32) else (if (3 : Int32) < x3 then (0 : Int32) else (1 : Int32))) = (0 : Int32) then (0 : Int32) else (if (if x5 < (0 : Int32) then (0 : Int32) else (if (255 : Int32) < x5 then (0 : Int32) else (1 : Int32))) = (0 : Int32) then (0 : Int32) else (if (0 : Int32) < (if x4 < (0 : Int32) then (0 : Int32) else (if (255 : Int32) < x4 then (255 : Int32) else x4)) then (1 : Int32) else (0 : Int32)))), vI (-2 : Int32), none, none, vI r187, none, none, none, none]) (S := [.int r187]) (σ := (H0 r147.2)) rfl (XT.i0_eq_f hc191) ?_
                            refine QTri.steps Ad W 1 (st' := (246, [none, none, none, vI x3, none, none, some (.ref 0), vI (if x3 < (0 : Int32) then (0 : Int32) else (if (3 : Int32) < x3 then (0 : Int32) else (1 : Int32))), vI (if x5 < (0 : Int32) then (0 : Int32) else (if (255 : Int32) < x5 then (0 : Int32) else (1 : Int32))), none, none, none, vI (if (if x3 < (0 : Int32) then (0 : Int32) else (if (3 : Int32) < x3 then (0 : Int32) else (1 : Int32))) = (0 : Int32) then (0 : Int32) else (if (if x5 < (0 : Int32) then (0 : Int32) else (if (255 : Int32) < x5 then (0 : Int32) else (1 : Int32))) = (0 : Int32) then (0 : Int32) else (if (0 : Int32) < (if x4 < (0 : Int32) then (0 : Int32) else (if (255 : Int32) < x4 then (255 : Int32) else x4)) then (1 : Int32) else (0 : Int32)))), vI (-2 : Int32), none, none, vI r187, none, none, none, none], [.int (if (if x3 < (0 : Int32) then (0 : Int32) else (if (3 : Int32) < x3 then (0 : Int32) else (1 : Int32))) = (0 : Int32) then (0 : Int32) else (if (if x5 < (0 : Int32) then (0 : Int32) else (if (255 : Int32) < x5 then (0 : Int32) else (1 : Int32))) = (0 : Int32) then (0 : Int32) else (if (0 : Int32) < (if x4 < (0 : Int32) then (0 : Int32) else (if (255 : Int32) < x4 then (255 : Int32) else x4)) then (1 : Int32) else (0 : Int32)))), .int r187], (H0 r147.2))) rfl ?_
                            rcases Classical.em ((if (if x3 < (0 : Int32) then (0 : Int32) else (if (3 : Int32) < x3 then (0 : Int32) else (1 : Int32))) = (0 : Int32) then (0 : Int32) else (if (if x5 < (0 : Int32) then (0 : Int32) else (if (255 : Int32) < x5 then (0 : Int32) else (1 : Int32))) = (0 : Int32) then (0 : Int32) else (if (0 : Int32) < (if x4 < (0 : Int32) then (0 : Int32) else (if (255 : Int32) < x4 then (255 : Int32) else x4)) then (1 : Int32) else (0 : Int32)))) = (0 : Int32)) with hc192 | hc192
                            · refine QTri.brF Ad W (t := 253) (f := 249) (L := [none, none, none, vI x3, none, none, some (.ref 0), vI (if x3 < (0 : Int32) then (0 : Int32) else (if (3 : Int32) < x3 then (0 : Int32) else (1 : Int32))), vI (if x5 < (0 : Int32) then (0 : Int32) else (if (255 : Int32) < x5 then (0 : Int32) else (1 : Int32))), none, none, none, vI (if (if x3 < (0 : Int32) then (0 : Int32) else (if (3 : Int32) < x3 then (0 : Int32) else (1 : Int32))) = (0 : Int32) then (0 : Int32) else (if (if x5 < (0 : Int32) then (0 : Int32) else (if (255 : Int32) < x5 then (0 : Int32) else (1 : Int32))) = (0 : Int32) then (0 : Int32) else (if (0 : Int32) < (if x4 < (0 : Int32) then (0 : Int32) else (if (255 : Int32) < x4 then (255 : Int32) else x4)) then (1 : Int32) else (0 : Int32)))), vI (-2 : Int32), none, none, vI r187, none, none, none, none]) (S := [.int r187]) (σ := (H0 r147.2)) rfl (XT.i0_ne_f hc192) ?_
                              refine QTri.steps Ad W 2 (st' := (259, [none, none, none, vI x3, none, none, some (.ref 0), vI (if x3 < (0 : Int32) then (0 : Int32) else (if (3 : Int32) < x3 then (0 : Int32) else (1 : Int32))), vI (if x5 < (0 : Int32) then (0 : Int32) else (if (255 : Int32) < x5 then (0 : Int32) else (1 : Int32))), none, none, none, vI (if (if x3 < (0 : Int32) then (0 : Int32) else (if (3 : Int32) < x3 then (0 : Int32) else (1 : Int32))) = (0 : Int32) then (0 : Int32) else (if (if x5 < (0 : Int32) then (0 : Int32) else (if (255 : Int32) < x5 then (0 : Int32) else (1 : Int32))) = (0 : Int32) then (0 : Int32) else (if (0 : Int32) < (if x4 < (0 : Int32) then (0 : Int32) else (if (255 : Int32) < x4 then (255 : Int32) else x4)) then (1 : Int32) else (0 : Int32)))), vI (-2 : Int32), none, none, vI r187, none, none, none, none], [.int (1 : Int32), .int r187], (H0 r147.2))) rfl ?_
                              exact QTri.mask [false, false, false, true, false, false, true, false, true, false, false, false, true, false, false, false, false, false, false, false, false] (K189 _ ((if_neg hc190).trans ((if_neg hc191).trans (if_pos hc192))).symm)
                            · refine QTri.brT Ad W (t := 253) (f := 249) (L := [none, none, none, vI x3, none, none, some (.ref 0), vI (if x3 < (0 : Int32) then (0 : Int32) else (if (3 : Int32) < x3 then (0 : Int32) else (1 : Int32))), vI (if x5 < (0 : Int32) then (0 : Int32) else (if (255 : Int32) < x5 then (0 : Int32) else (1 : Int32))), none, none, none, vI (if (if x3 < (0 : Int32) then (0 : Int32) else (if (3 : Int32) < x3 then (0 : Int32) else (1 : Int32))) = (0 : Int32) then (0 : Int32) else (if (if x5 < (0 : Int32) then (0 : Int32) else (if (255 : Int32) < x5 then (0 : Int32) else (1 : Int32))) = (0 : Int32) then (0 : Int32) else (if (0 : Int32) < (if x4 < (0 : Int32) then (0 : Int32) else (if (255 : Int32) < x4 then (255 : Int32) else x4)) then (1 : Int32) else (0 : Int32)))), vI (-2 : Int32), none, none, vI r187, none, none, none, none]) (S := [.int r187]) (σ := (H0 r147.2)) rfl (XT.i0_ne_t hc192) ?_
                              refine QTri.steps Ad W 2 (st' := (259, [none, none, none, vI x3, none, none, some (.ref 0), vI (if x3 < (0 : Int32) then (0 : Int32) else (if (3 : Int32) < x3 then (0 : Int32) else (1 : Int32))), vI (if x5 < (0 : Int32) then (0 : Int32) else (if (255 : Int32) < x5 then (0 : Int32) else (1 : Int32))), none, none, none, vI (if (if x3 < (0 : Int32) then (0 : Int32) else (if (3 : Int32) < x3 then (0 : Int32) else (1 : Int32))) = (0 : Int32) then (0 : Int32) else (if (if x5 < (0 : Int32) then (0 : Int32) else (if (255 : Int32) < x5 then (0 : Int32) else (1 : Int32))) = (0 : Int32) then (0 : Int32) else (if (0 : Int32) < (if x4 < (0 : Int32) then (0 : Int32) else (if (255 : Int32) < x4 then (255 : Int32) else x4)) then (1 : Int32) else (0 : Int32)))), vI (-2 : Int32), none, none, vI r187, none, none, none, none], [.int (0 : Int32), .int r187], (H0 r147.2))) rfl ?_
                              exact QTri.mask [false, false, false, true, false, false, true, false, true, false, false, false, true, false, false, false, false, false, false, false, false] (K189 _ ((if_neg hc190).trans ((if_neg hc191).trans (if_neg hc192))).symm)
                      · refine QTri.brF Ad W (t := 223) (f := 221) (L := [none, none, none, vI x3, none, none, some (.ref 0), vI (if x3 < (0 : Int32) then (0 : Int32) else (if (3 : Int32) < x3 then (0 : Int32) else (1 : Int32))), vI (if x5 < (0 : Int32) then (0 : Int32) else (if (255 : Int32) < x5 then (0 : Int32) else (1 : Int32))), none, none, none, vI (if (if x3 < (0 : Int32) then (0 : Int32) else (if (3 : Int32) < x3 then (0 : Int32) else (1 : Int32))) = (0 : Int32) then (0 : Int32) else (if (if x5 < (0 : Int32) then (0 : Int32) else (if (255 : Int32) < x5 then (0 : Int32) else (1 : Int32))) = (0 : Int32) then (0 : Int32) else (if (0 : Int32) < (if x4 < (0 : Int32) then (0 : Int32) else (if (255 : Int32) < x4 then (255 : Int32) else x4)) then (1 : Int32) else (0 : Int32)))), vI (-2 : Int32), none, none, none, none, none, none, none]) (S := []) (σ := (H0 r147.2)) rfl (XT.ii_eq_f hc186) ?_
                        refine QTri.steps Ad W 1 (st' := (222, [none, none, none, vI x3, none, none, some (.ref 0), vI (if x3 < (0 : Int32) then (0 : Int32) else (if (3 : Int32) < x3 then (0 : Int32) else (1 : Int32))), vI (if x5 < (0 : Int32) then (0 : Int32) else (if (255 : Int32) < x5 then (0 : Int32) else (1 : Int32))), none, none, none, vI (if (if x3 < (0 : Int32) then (0 : Int32) else (if (3 : Int32) < x3 then (0 : Int32) else (1 : Int32))) = (0 : Int32) then (0 : Int32) else (if (if x5 < (0 : Int32) then (0 : Int32) else (if (255 : Int32) < x5 then (0 : Int32) else (1 : Int32))) = (0 : Int32) then (0 : Int32) else (if (0 : Int32) < (if x4 < (0 : Int32) then (0 : Int32) else (if (255 : Int32) < x4 then (255 : Int32) else x4)) then (1 : Int32) else (0 : Int32)))), vI (-2 : Int32), none, none, none, none, none, none, none], [.int (0 : Int32)], (H0 r147.2))) rfl ?_
                        obtain rfl := Option.some.inj h
                        exact QTri.retZ rfl rfl
                    rcases Classical.em ((if x3 < (0 : Int32) then (0 : Int32) else (if (3 : Int32) < x3 then (0 : Int32) else (1 : Int32))) = (0 : Int32)) with hc184 | hc184
                    · refine QTri.brT Ad W (t := 216) (f := 203) (L := [none, none, none, vI x3, none, none, some (.ref 0), vI (if x3 < (0 : Int32) then (0 : Int32) else (if (3 : Int32) < x3 then (0 : Int32) else (1 : Int32))), vI (if x5 < (0 : Int32) then (0 : Int32) else (if (255 : Int32) < x5 then (0 : Int32) else (1 : Int32))), none, none, none, vI (if (if x3 < (0 : Int32) then (0 : Int32) else (if (3 : Int32) < x3 then (0 : Int32) else (1 : Int32))) = (0 : Int32) then (0 : Int32) else (if (if x5 < (0 : Int32) then (0 : Int32) else (if (255 : Int32) < x5 then (0 : Int32) else (1 : Int32))) = (0 : Int32) then (0 : Int32) else (if (0 : Int32) < (if x4 < (0 : Int32) then (0 : Int32) else (if (255 : Int32) < x4 then (255 : Int32) else x4)) then (1 : Int32) else (0 : Int32)))), vI (-2 : Int32), none, vI r181, none, none, none, none, none]) (S := [.int r181]) (σ := (H0 r147.2)) rfl (XT.i0_eq_t hc184) ?_
                      refine QTri.steps Ad W 1 (st' := (218, [none, none, none, vI x3, none, none, some (.ref 0), vI (if x3 < (0 : Int32) then (0 : Int32) else (if (3 : Int32) < x3 then (0 : Int32) else (1 : Int32))), vI (if x5 < (0 : Int32) then (0 : Int32) else (if (255 : Int32) < x5 then (0 : Int32) else (1 : Int32))), none, none, none, vI (if (if x3 < (0 : Int32) then (0 : Int32) else (if (3 : Int32) < x3 then (0 : Int32) else (1 : Int32))) = (0 : Int32) then (0 : Int32) else (if (if x5 < (0 : Int32) then (0 : Int32) else (if (255 : Int32) < x5 then (0 : Int32) else (1 : Int32))) = (0 : Int32) then (0 : Int32) else (if (0 : Int32) < (if x4 < (0 : Int32) then (0 : Int32) else (if (255 : Int32) < x4 then (255 : Int32) else x4)) then (1 : Int32) else (0 : Int32)))), vI (-2 : Int32), none, vI r181, none, none, none, none, none], [.int (-2 : Int32), .int r181], (H0 r147.2))) rfl ?_
                      exact QTri.mask [false, false, false, true, false, false, true, true, true, false, false, false, true, true, false, false, false, false, false, false, false] (K183 _ (if_pos hc184).symm)
                    · refine QTri.brF Ad W (t := 216) (f := 203) (L := [none, none, none, vI x3, none, none, some (.ref 0), vI (if x3 < (0 : Int32) then (0 : Int32) else (if (3 : Int32) < x3 then (0 : Int32) else (1 : Int32))), vI (if x5 < (0 : Int32) then (0 : Int32) else (if (255 : Int32) < x5 then (0 : Int32) else (1 : Int32))), none, none, none, vI (if (if x3 < (0 : Int32) then (0 : Int32) else (if (3 : Int32) < x3 then (0 : Int32) else (1 : Int32))) = (0 : Int32) then (0 : Int32) else (if (if x5 < (0 : Int32) then (0 : Int32) else (if (255 : Int32) < x5 then (0 : Int32) else (1 : Int32))) = (0 : Int32) then (0 : Int32) else (if (0 : Int32) < (if x4 < (0 : Int32) then (0 : Int32) else (if (255 : Int32) < x4 then (255 : Int32) else x4)) then (1 : Int32) else (0 : Int32)))), vI (-2 : Int32), none, vI r181, none, none, none, none, none]) (S := [.int r181]) (σ := (H0 r147.2)) rfl (XT.i0_eq_f hc184) ?_
                      refine QTri.steps Ad W 1 (st' := (205, [none, none, none, vI x3, none, none, some (.ref 0), vI (if x3 < (0 : Int32) then (0 : Int32) else (if (3 : Int32) < x3 then (0 : Int32) else (1 : Int32))), vI (if x5 < (0 : Int32) then (0 : Int32) else (if (255 : Int32) < x5 then (0 : Int32) else (1 : Int32))), none, none, none, vI (if (if x3 < (0 : Int32) then (0 : Int32) else (if (3 : Int32) < x3 then (0 : Int32) else (1 : Int32))) = (0 : Int32) then (0 : Int32) else (if (if x5 < (0 : Int32) then (0 : Int32) else (if (255 : Int32) < x5 then (0 : Int32) else (1 : Int32))) = (0 : Int32) then (0 : Int32) else (if (0 : Int32) < (if x4 < (0 : Int32) then (0 : Int32) else (if (255 : Int32) < x4 then (255 : Int32) else x4)) then (1 : Int32) else (0 : Int32)))), vI (-2 : Int32), none, vI r181, none, none, none, none, none], [.int (if (if x3 < (0 : Int32) then (0 : Int32) else (if (3 : Int32) < x3 then (0 : Int32) else (1 : Int32))) = (0 : Int32) then (0 : Int32) else (if (if x5 < (0 : Int32) then (0 : Int32) else (if (255 : Int32) < x5 then (0 : Int32) else (1 : Int32))) = (0 : Int32) then (0 : Int32) else (if (0 : Int32) < (if x4 < (0 : Int32) then (0 : Int32) else (if (255 : Int32) < x4 then (255 : Int32) else x4)) then (1 : Int32) else (0 : Int32)))), .int r181], (H0 r147.2))) rfl ?_
                      rcases Classical.em ((if (if x3 < (0 : Int32) then (0 : Int32) else (if (3 : Int32) < x3 then (0 : Int32) else (1 : Int32))) = (0 : Int32) then (0 : Int32) else (if (if x5 < (0 : Int32) then (0 : Int32) else (if (255 : Int32) < x5 then (0 : Int32) else (1 : Int32))) = (0 : Int32) then (0 : Int32) else (if (0 : Int32) < (if x4 < (0 : Int32) then (0 : Int32) else (if (255 : Int32) < x4 then (255 : Int32) else x4)) then (1 : Int32) else (0 : Int32)))) = (0 : Int32)) with hc185 | hc185
                      · refine QTri.brT Ad W (t := 212) (f := 208) (L := [none, none, none, vI x3, none, none, some (.ref 0), vI (if x3 < (0 : Int32) then (0 : Int32) else (if (3 : Int32) < x3 then (0 : Int32) else (1 : Int32))), vI (if x5 < (0 : Int32) then (0 : Int32) else (if (255 : Int32) < x5 then (0 : Int32) else (1 : Int32))), none, none, none, vI (if (if x3 < (0 : Int32) then (0 : Int32) else (if (3 : Int32) < x3 then (0 : Int32) else (1 : Int32))) = (0 : Int32) then (0 : Int32) else (if (if x5 < (0 : Int32) then (0 : Int32) else (if (255 : Int32) < x5 then (0 : Int32) else (1 : Int32))) = (0 : Int32) then (0 : Int32) else (if (0 : Int32) < (if x4 < (0 : Int32) then (0 : Int32) else (if (255 : Int32) < x4 then (255 : Int32) else x4)) then (1 : Int32) else (0 : Int32)))), vI (-2 : Int32), none, vI r181, none, none, none, none, none]) (S := [.int r181]) (σ := (H0 r147.2)) rfl (XT.i0_eq_t hc185) ?_
                        refine QTri.steps Ad W 2 (st' := (218, [none, none, none, vI x3, none, none, some (.ref 0), vI (if x3 < (0 : Int32) then (0 : Int32) else (if (3 : Int32) < x3 then (0 : Int32) else (1 : Int32))), vI (if x5 < (0 : Int32) then (0 : Int32) else (if (255 : Int32) < x5 then (0 : Int32) else (1 : Int32))), none, none, none, vI (if (if x3 < (0 : Int32) then (0 : Int32) else (if (3 : Int32) < x3 then (0 : Int32) else (1 : Int32))) = (0 : Int32) then (0 : Int32) else (if (if x5 < (0 : Int32) then (0 : Int32) else (if (255 : Int32) < x5 then (0 : Int32) else (1 : Int32))) = (0 : Int32) then (0 : Int32) else (if (0 : Int32) < (if x4 < (0 : Int32) then (0 : Int32) else (if (255 : Int32) < x4 then (255 : Int32) else x4)) then (1 : Int32) else (0 : Int32)))), vI (-2 : Int32), none, vI r181, none, none, none, none, none], [.int (0 : Int32), .int r181], (H0 r147.2))) rfl ?_
                        exact QTri.mask [false, false, false, true, false, false, true, true, true, false, false, false, true, true, false, false, false, false, false, false, false] (K183 _ ((if_neg hc184).trans (if_pos hc185)).symm)
                      · refine QTri.brF Ad W (t := 212) (f := 208) (L := [none, none, none, vI x3, none, none, some (.ref 0), vI (if x3 < (0 : Int32) then (0 : Int32) else (if (3 : Int32) < x3 then (0 : Int32) else (1 : Int32))), vI (if x5 < (0 : Int32) then (0 : Int32) else (if (255 : Int32) < x5 then (0 : Int32) else (1 : Int32))), none, none, none, vI (if (if x3 < (0 : Int32) then (0 : Int32) else (if (3 : Int32) < x3 then (0 : Int32) else (1 : Int32))) = (0 : Int32) then (0 : Int32) else (if (if x5 < (0 : Int32) then (0 : Int32) else (if (255 : Int32) < x5 then (0 : Int32) else (1 : Int32))) = (0 : Int32) then (0 : Int32) else (if (0 : Int32) < (if x4 < (0 : Int32) then (0 : Int32) else (if (255 : Int32) < x4 then (255 : Int32) else x4)) then (1 : Int32) else (0 : Int32)))), vI (-2 : Int32), none, vI r181, none, none, none, none, none]) (S := [.int r181]) (σ := (H0 r147.2)) rfl (XT.i0_eq_f hc185) ?_
                        refine QTri.steps Ad W 2 (st' := (218, [none, none, none, vI x3, none, none, some (.ref 0), vI (if x3 < (0 : Int32) then (0 : Int32) else (if (3 : Int32) < x3 then (0 : Int32) else (1 : Int32))), vI (if x5 < (0 : Int32) then (0 : Int32) else (if (255 : Int32) < x5 then (0 : Int32) else (1 : Int32))), none, none, none, vI (if (if x3 < (0 : Int32) then (0 : Int32) else (if (3 : Int32) < x3 then (0 : Int32) else (1 : Int32))) = (0 : Int32) then (0 : Int32) else (if (if x5 < (0 : Int32) then (0 : Int32) else (if (255 : Int32) < x5 then (0 : Int32) else (1 : Int32))) = (0 : Int32) then (0 : Int32) else (if (0 : Int32) < (if x4 < (0 : Int32) then (0 : Int32) else (if (255 : Int32) < x4 then (255 : Int32) else x4)) then (1 : Int32) else (0 : Int32)))), vI (-2 : Int32), none, vI r181, none, none, none, none, none], [.int (1 : Int32), .int r181], (H0 r147.2))) rfl ?_
                        exact QTri.mask [false, false, false, true, false, false, true, true, true, false, false, false, true, true, false, false, false, false, false, false, false] (K183 _ ((if_neg hc184).trans (if_neg hc185)).symm)
                  · refine QTri.brF Ad W (t := 186) (f := 184) (L := [none, none, none, vI x3, none, none, some (.ref 0), vI (if x3 < (0 : Int32) then (0 : Int32) else (if (3 : Int32) < x3 then (0 : Int32) else (1 : Int32))), vI (if x5 < (0 : Int32) then (0 : Int32) else (if (255 : Int32) < x5 then (0 : Int32) else (1 : Int32))), none, none, none, vI (if (if x3 < (0 : Int32) then (0 : Int32) else (if (3 : Int32) < x3 then (0 : Int32) else (1 : Int32))) = (0 : Int32) then (0 : Int32) else (if (if x5 < (0 : Int32) then (0 : Int32) else (if (255 : Int32) < x5 then (0 : Int32) else (1 : Int32))) = (0 : Int32) then (0 : Int32) else (if (0 : Int32) < (if x4 < (0 : Int32) then (0 : Int32) else (if (255 : Int32) < x4 then (255 : Int32) else x4)) then (1 : Int32) else (0 : Int32)))), vI (-2 : Int32), none, none, none, none, none, none, none]) (S := []) (σ := (H0 r147.2)) rfl (XT.ii_eq_f hc180) ?_
                    refine QTri.steps Ad W 1 (st' := (185, [none, none, none, vI x3, none, none, some (.ref 0), vI (if x3 < (0 : Int32) then (0 : Int32) else (if (3 : Int32) < x3 then (0 : Int32) else (1 : Int32))), vI (if x5 < (0 : Int32) then (0 : Int32) else (if (255 : Int32) < x5 then (0 : Int32) else (1 : Int32))), none, none, none, vI (if (if x3 < (0 : Int32) then (0 : Int32) else (if (3 : Int32) < x3 then (0 : Int32) else (1 : Int32))) = (0 : Int32) then (0 : Int32) else (if (if x5 < (0 : Int32) then (0 : Int32) else (if (255 : Int32) < x5 then (0 : Int32) else (1 : Int32))) = (0 : Int32) then (0 : Int32) else (if (0 : Int32) < (if x4 < (0 : Int32) then (0 : Int32) else (if (255 : Int32) < x4 then (255 : Int32) else x4)) then (1 : Int32) else (0 : Int32)))), vI (-2 : Int32), none, none, none, none, none, none, none], [.int (0 : Int32)], (H0 r147.2))) rfl ?_
                    obtain rfl := Option.some.inj h
                    exact QTri.retZ rfl rfl
                rcases Classical.em ((if x3 < (0 : Int32) then (0 : Int32) else (if (3 : Int32) < x3 then (0 : Int32) else (1 : Int32))) = (0 : Int32)) with hc178 | hc178
                · refine QTri.brT Ad W (t := 179) (f := 163) (L := [none, none, none, vI x3, none, none, some (.ref 0), vI (if x3 < (0 : Int32) then (0 : Int32) else (if (3 : Int32) < x3 then (0 : Int32) else (1 : Int32))), vI (if x5 < (0 : Int32) then (0 : Int32) else (if (255 : Int32) < x5 then (0 : Int32) else (1 : Int32))), vI (if x4 < (0 : Int32) then (0 : Int32) else (if (255 : Int32) < x4 then (255 : Int32) else x4)), none, none, vI (if (if x3 < (0 : Int32) then (0 : Int32) else (if (3 : Int32) < x3 then (0 : Int32) else (1 : Int32))) = (0 : Int32) then (0 : Int32) else (if (if x5 < (0 : Int32) then (0 : Int32) else (if (255 : Int32) < x5 then (0 : Int32) else (1 : Int32))) = (0 : Int32) then (0 : Int32) else (if (0 : Int32) < (if x4 < (0 : Int32) then (0 : Int32) else (if (255 : Int32) < x4 then (255 : Int32) else x4)) then (1 : Int32) else (0 : Int32)))), vI (-2 : Int32), vI r175, none, none, none, none, none, none]) (S := [.int r175]) (σ := (H0 r147.2)) rfl (XT.i0_eq_t hc178) ?_
                  refine QTri.steps Ad W 1 (st' := (181, [none, none, none, vI x3, none, none, some (.ref 0), vI (if x3 < (0 : Int32) then (0 : Int32) else (if (3 : Int32) < x3 then (0 : Int32) else (1 : Int32))), vI (if x5 < (0 : Int32) then (0 : Int32) else (if (255 : Int32) < x5 then (0 : Int32) else (1 : Int32))), vI (if x4 < (0 : Int32) then (0 : Int32) else (if (255 : Int32) < x4 then (255 : Int32) else x4)), none, none, vI (if (if x3 < (0 : Int32) then (0 : Int32) else (if (3 : Int32) < x3 then (0 : Int32) else (1 : Int32))) = (0 : Int32) then (0 : Int32) else (if (if x5 < (0 : Int32) then (0 : Int32) else (if (255 : Int32) < x5 then (0 : Int32) else (1 : Int32))) = (0 : Int32) then (0 : Int32) else (if (0 : Int32) < (if x4 < (0 : Int32) then (0 : Int32) else (if (255 : Int32) < x4 then (255 : Int32) else x4)) then (1 : Int32) else (0 : Int32)))), vI (-2 : Int32), vI r175, none, none, none, none, none, none], [.int (-2 : Int32), .int r175], (H0 r147.2))) rfl ?_
                  exact QTri.mask [false, false, false, true, false, false, true, true, true, false, false, false, true, true, false, false, false, false, false, false, false] (K177 _ (if_pos hc178).symm)
                · refine QTri.brF Ad W (t := 179) (f := 163) (L := [none, none, none, vI x3, none, none, some (.ref 0), vI (if x3 < (0 : Int32) then (0 : Int32) else (if (3 : Int32) < x3 then (0 : Int32) else (1 : Int32))), vI (if x5 < (0 : Int32) then (0 : Int32) else (if (255 : Int32) < x5 then (0 : Int32) else (1 : Int32))), vI (if x4 < (0 : Int32) then (0 : Int32) else (if (255 : Int32) < x4 then (255 : Int32) else x4)), none, none, vI (if (if x3 < (0 : Int32) then (0 : Int32) else (if (3 : Int32) < x3 then (0 : Int32) else (1 : Int32))) = (0 : Int32) then (0 : Int32) else (if (if x5 < (0 : Int32) then (0 : Int32) else (if (255 : Int32) < x5 then (0 : Int32) else (1 : Int32))) = (0 : Int32) then (0 : Int32) else (if (0 : Int32) < (if x4 < (0 : Int32) then (0 : Int32) else (if (255 : Int32) < x4 then (255 : Int32) else x4)) then (1 : Int32) else (0 : Int32)))), vI (-2 : Int32), vI r175, none, none, none, none, none, none]) (S := [.int r175]) (σ := (H0 r147.2)) rfl (XT.i0_eq_f hc178) ?_
                  refine QTri.steps Ad W 2 (st' := (167, [none, none, none, vI x3, none, none, some (.ref 0), vI (if x3 < (0 : Int32) then (0 : Int32) else (if (3 : Int32) < x3 then (0 : Int32) else (1 : Int32))), vI (if x5 < (0 : Int32) then (0 : Int32) else (if (255 : Int32) < x5 then (0 : Int32) else (1 : Int32))), vI (if x4 < (0 : Int32) then (0 : Int32) else (if (255 : Int32) < x4 then (255 : Int32) else x4)), none, none, vI (if (if x3 < (0 : Int32) then (0 : Int32) else (if (3 : Int32) < x3 then (0 : Int32) else (1 : Int32))) = (0 : Int32) then (0 : Int32) else (if (if x5 < (0 : Int32) then (0 : Int32) else (if (255 : Int32) < x5 then (0 : Int32) else (1 : Int32))) = (0 : Int32) then (0 : Int32) else (if (0 : Int32) < (if x4 < (0 : Int32) then (0 : Int32) else (if (255 : Int32) < x4 then (255 : Int32) else x4)) then (1 : Int32) else (0 : Int32)))), vI (-2 : Int32), vI r175, none, none, none, none, none, none], [.int (if (if x3 < (0 : Int32) then (0 : Int32) else (if (3 : Int32) < x3 then (0 : Int32) else (1 : Int32))) = (0 : Int32) then (0 : Int32) else (if (if x5 < (0 : Int32) then (0 : Int32) else (if (255 : Int32) < x5 then (0 : Int32) else (1 : Int32))) = (0 : Int32) then (0 : Int32) else (if (0 : Int32) < (if x4 < (0 : Int32) then (0 : Int32) else (if (255 : Int32) < x4 then (255 : Int32) else x4)) then (1 : Int32) else (0 : Int32)))), .int (if x4 < (0 : Int32) then (0 : Int32) else (if (255 : Int32) < x4 then (255 : Int32) else x4)), .int r175], (H0 r147.2))) rfl ?_
                  rcases Classical.em ((if (if x3 < (0 : Int32) then (0 : Int32) else (if (3 : Int32) < x3 then (0 : Int32) else (1 : Int32))) = (0 : Int32) then (0 : Int32) else (if (if x5 < (0 : Int32) then (0 : Int32) else (if (255 : Int32) < x5 then (0 : Int32) else (1 : Int32))) = (0 : Int32) then (0 : Int32) else (if (0 : Int32) < (if x4 < (0 : Int32) then (0 : Int32) else (if (255 : Int32) < x4 then (255 : Int32) else x4)) then (1 : Int32) else (0 : Int32)))) = (0 : Int32)) with hc179 | hc179
                  · refine QTri.brT Ad W (t := 174) (f := 170) (L := [none, none, none, vI x3, none, none, some (.ref 0), vI (if x3 < (0 : Int32) then (0 : Int32) else (if (3 : Int32) < x3 then (0 : Int32) else (1 : Int32))), vI (if x5 < (0 : Int32) then (0 : Int32) else (if (255 : Int32) < x5 then (0 : Int32) else (1 : Int32))), vI (if x4 < (0 : Int32) then (0 : Int32) else (if (255 : Int32) < x4 then (255 : Int32) else x4)), none, none, vI (if (if x3 < (0 : Int32) then (0 : Int32) else (if (3 : Int32) < x3 then (0 : Int32) else (1 : Int32))) = (0 : Int32) then (0 : Int32) else (if (if x5 < (0 : Int32) then (0 : Int32) else (if (255 : Int32) < x5 then (0 : Int32) else (1 : Int32))) = (0 : Int32) then (0 : Int32) else (if (0 : Int32) < (if x4 < (0 : Int32) then (0 : Int32) else (if (255 : Int32) < x4 then (255 : Int32) else x4)) then (1 : Int32) else (0 : Int32)))), vI (-2 : Int32), vI r175, none, none, none, none, none, none]) (S := [.int (if x4 < (0 : Int32) then (0 : Int32) else (if (255 : Int32) < x4 then (255 : Int32) else x4)), .int r175]) (σ := (H0 r147.2)) rfl (XT.i0_eq_t hc179) ?_
                    refine QTri.steps Ad W 3 (st' := (181, [none, none, none, vI x3, none, none, some (.ref 0), vI (if x3 < (0 : Int32) then (0 : Int32) else (if (3 : Int32) < x3 then (0 : Int32) else (1 : Int32))), vI (if x5 < (0 : Int32) then (0 : Int32) else (if (255 : Int32) < x5 then (0 : Int32) else (1 : Int32))), vI (if x4 < (0 : Int32) then (0 : Int32) else (if (255 : Int32) < x4 then (255 : Int32) else x4)), none, none, vI (if (if x3 < (0 : Int32) then (0 : Int32) else (if (3 : Int32) < x3 then (0 : Int32) else (1 : Int32))) = (0 : Int32) then (0 : Int32) else (if (if x5 < (0 : Int32) then (0 : Int32) else (if (255 : Int32) < x5 then (0 : Int32) else (1 : Int32))) = (0 : Int32) then (0 : Int32) else (if (0 : Int32) < (if x4 < (0 : Int32) then (0 : Int32) else (if (255 : Int32) < x4 then (255 : Int32) else x4)) then (1 : Int32) else (0 : Int32)))), vI (-2 : Int32), vI r175, none, none, none, none, none, none], [.int ((if x4 < (0 : Int32) then (0 : Int32) else (if (255 : Int32) < x4 then (255 : Int32) else x4)) - (0 : Int32)), .int r175], (H0 r147.2))) rfl ?_
                    exact QTri.mask [false, false, false, true, false, false, true, true, true, false, false, false, true, true, false, false, false, false, false, false, false] (K177 _ ((if_neg hc178).trans (if_pos hc179)).symm)
                  · refine QTri.brF Ad W (t := 174) (f := 170) (L := [none, none, none, vI x3, none, none, some (.ref 0), vI (if x3 < (0 : Int32) then (0 : Int32) else (if (3 : Int32) < x3 then (0 : Int32) else (1 : Int32))), vI (if x5 < (0 : Int32) then (0 : Int32) else (if (255 : Int32) < x5 then (0 : Int32) else (1 : Int32))), vI (if x4 < (0 : Int32) then (0 : Int32) else (if (255 : Int32) < x4 then (255 : Int32) else x4)), none, none, vI (if (if x3 < (0 : Int32) then (0 : Int32) else (if (3 : Int32) < x3 then (0 : Int32) else (1 : Int32))) = (0 : Int32) then (0 : Int32) else (if (if x5 < (0 : Int32) then (0 : Int32) else (if (255 : Int32) < x5 then (0 : Int32) else (1 : Int32))) = (0 : Int32) then (0 : Int32) else (if (0 : Int32) < (if x4 < (0 : Int32) then (0 : Int32) else (if (255 : Int32) < x4 then (255 : Int32) else x4)) then (1 : Int32) else (0 : Int32)))), vI (-2 : Int32), vI r175, none, none, none, none, none, none]) (S := [.int (if x4 < (0 : Int32) then (0 : Int32) else (if (255 : Int32) < x4 then (255 : Int32) else x4)), .int r175]) (σ := (H0 r147.2)) rfl (XT.i0_eq_f hc179) ?_
                    refine QTri.steps Ad W 4 (st' := (181, [none, none, none, vI x3, none, none, some (.ref 0), vI (if x3 < (0 : Int32) then (0 : Int32) else (if (3 : Int32) < x3 then (0 : Int32) else (1 : Int32))), vI (if x5 < (0 : Int32) then (0 : Int32) else (if (255 : Int32) < x5 then (0 : Int32) else (1 : Int32))), vI (if x4 < (0 : Int32) then (0 : Int32) else (if (255 : Int32) < x4 then (255 : Int32) else x4)), none, none, vI (if (if x3 < (0 : Int32) then (0 : Int32) else (if (3 : Int32) < x3 then (0 : Int32) else (1 : Int32))) = (0 : Int32) then (0 : Int32) else (if (if x5 < (0 : Int32) then (0 : Int32) else (if (255 : Int32) < x5 then (0 : Int32) else (1 : Int32))) = (0 : Int32) then (0 : Int32) else (if (0 : Int32) < (if x4 < (0 : Int32) then (0 : Int32) else (if (255 : Int32) < x4 then (255 : Int32) else x4)) then (1 : Int32) else (0 : Int32)))), vI (-2 : Int32), vI r175, none, none, none, none, none, none], [.int ((if x4 < (0 : Int32) then (0 : Int32) else (if (255 : Int32) < x4 then (255 : Int32) else x4)) - (1 : Int32)), .int r175], (H0 r147.2))) rfl ?_
                    exact QTri.mask [false, false, false, true, false, false, true, true, true, false, false, false, true, true, false, false, false, false, false, false, false] (K177 _ ((if_neg hc178).trans (if_neg hc179)).symm)
              rcases Classical.em ((if x3 < (0 : Int32) then (0 : Int32) else (if (3 : Int32) < x3 then (0 : Int32) else (1 : Int32))) = (0 : Int32)) with hc154 | hc154
              · refine QTri.brT Ad W (t := 140) (f := 126) (L := [none, none, none, vI x3, none, none, some (.ref 0), vI (if x3 < (0 : Int32) then (0 : Int32) else (if (3 : Int32) < x3 then (0 : Int32) else (1 : Int32))), vI (if x5 < (0 : Int32) then (0 : Int32) else (if (255 : Int32) < x5 then (0 : Int32) else (1 : Int32))), vI (if x4 < (0 : Int32) then (0 : Int32) else (if (255 : Int32) < x4 then (255 : Int32) else x4)), none, none, none, none, none, none, none, none, none, none, none]) (S := []) (σ := (H0 r147.2)) rfl (XT.i0_eq_t hc154) ?_
                refine QTri.steps Ad W 1 (st' := (141, [none, none, none, vI x3, none, none, some (.ref 0), vI (if x3 < (0 : Int32) then (0 : Int32) else (if (3 : Int32) < x3 then (0 : Int32) else (1 : Int32))), vI (if x5 < (0 : Int32) then (0 : Int32) else (if (255 : Int32) < x5 then (0 : Int32) else (1 : Int32))), vI (if x4 < (0 : Int32) then (0 : Int32) else (if (255 : Int32) < x4 then (255 : Int32) else x4)), none, none, none, none, none, none, none, none, none, none, none], [.int (0 : Int32)], (H0 r147.2))) rfl ?_
                exact QTri.mask [false, false, false, true, false, false, true, true, true, true, false, false, false, false, false, false, false, false, false, false, false] (K153 _ (if_pos hc154).symm)
              · refine QTri.brF Ad W (t := 140) (f := 126) (L := [none, none, none, vI x3, none, none, some (.ref 0), vI (if x3 < (0 : Int32) then (0 : Int32) else (if (3 : Int32) < x3 then (0 : Int32) else (1 : Int32))), vI (if x5 < (0 : Int32) then (0 : Int32) else (if (255 : Int32) < x5 then (0 : Int32) else (1 : Int32))), vI (if x4 < (0 : Int32) then (0 : Int32) else (if (255 : Int32) < x4 then (255 : Int32) else x4)), none, none, none, none, none, none, none, none, none, none, none]) (S := []) (σ := (H0 r147.2)) rfl (XT.i0_eq_f hc154) ?_
                refine QTri.steps Ad W 1 (st' := (128, [none, none, none, vI x3, none, none, some (.ref 0), vI (if x3 < (0 : Int32) then (0 : Int32) else (if (3 : Int32) < x3 then (0 : Int32) else (1 : Int32))), vI (if x5 < (0 : Int32) then (0 : Int32) else (if (255 : Int32) < x5 then (0 : Int32) else (1 : Int32))), vI (if x4 < (0 : Int32) then (0 : Int32) else (if (255 : Int32) < x4 then (255 : Int32) else x4)), none, none, none, none, none, none, none, none, none, none, none], [.int (if x5 < (0 : Int32) then (0 : Int32) else (if (255 : Int32) < x5 then (0 : Int32) else (1 : Int32)))], (H0 r147.2))) rfl ?_
                rcases Classical.em ((if x5 < (0 : Int32) then (0 : Int32) else (if (255 : Int32) < x5 then (0 : Int32) else (1 : Int32))) = (0 : Int32)) with hc155 | hc155
                · refine QTri.brT Ad W (t := 140) (f := 131) (L := [none, none, none, vI x3, none, none, some (.ref 0), vI (if x3 < (0 : Int32) then (0 : Int32) else (if (3 : Int32) < x3 then (0 : Int32) else (1 : Int32))), vI (if x5 < (0 : Int32) then (0 : Int32) else (if (255 : Int32) < x5 then (0 : Int32) else (1 : Int32))), vI (if x4 < (0 : Int32) then (0 : Int32) else (if (255 : Int32) < x4 then (255 : Int32) else x4)), none, none, none, none, none, none, none, none, none, none, none]) (S := []) (σ := (H0 r147.2)) rfl (XT.i0_eq_t hc155) ?_
                  refine QTri.steps Ad W 1 (st' := (141, [none, none, none, vI x3, none, none, some (.ref 0), vI (if x3 < (0 : Int32) then (0 : Int32) else (if (3 : Int32) < x3 then (0 : Int32) else (1 : Int32))), vI (if x5 < (0 : Int32) then (0 : Int32) else (if (255 : Int32) < x5 then (0 : Int32) else (1 : Int32))), vI (if x4 < (0 : Int32) then (0 : Int32) else (if (255 : Int32) < x4 then (255 : Int32) else x4)), none, none, none, none, none, none, none, none, none, none, none], [.int (0 : Int32)], (H0 r147.2))) rfl ?_
                  exact QTri.mask [false, false, false, true, false, false, true, true, true, true, false, false, false, false, false, false, false, false, false, false, false] (K153 _ ((if_neg hc154).trans (if_pos hc155)).symm)
                · refine QTri.brF Ad W (t := 140) (f := 131) (L := [none, none, none, vI x3, none, none, some (.ref 0), vI (if x3 < (0 : Int32) then (0 : Int32) else (if (3 : Int32) < x3 then (0 : Int32) else (1 : Int32))), vI (if x5 < (0 : Int32) then (0 : Int32) else (if (255 : Int32) < x5 then (0 : Int32) else (1 : Int32))), vI (if x4 < (0 : Int32) then (0 : Int32) else (if (255 : Int32) < x4 then (255 : Int32) else x4)), none, none, none, none, none, none, none, none, none, none, none]) (S := []) (σ := (H0 r147.2)) rfl (XT.i0_eq_f hc155) ?_
                  refine QTri.steps Ad W 1 (st' := (133, [none, none, none, vI x3, none, none, some (.ref 0), vI (if x3 < (0 : Int32) then (0 : Int32) else (if (3 : Int32) < x3 then (0 : Int32) else (1 : Int32))), vI (if x5 < (0 : Int32) then (0 : Int32) else (if (255 : Int32) < x5 then (0 : Int32) else (1 : Int32))), vI (if x4 < (0 : Int32) then (0 : Int32) else (if (255 : Int32) < x4 then (255 : Int32) else x4)), none, none, none, none, none, none, none, none, none, none, none], [.int (if x4 < (0 : Int32) then (0 : Int32) else (if (255 : Int32) < x4 then (255 : Int32) else x4))], (H0 r147.2))) rfl ?_
                  rcases Classical.em ((0 : Int32) < (if x4 < (0 : Int32) then (0 : Int32) else (if (255 : Int32) < x4 then (255 : Int32) else x4))) with hc156 | hc156
                  · refine QTri.brF Ad W (t := 140) (f := 136) (L := [none, none, none, vI x3, none, none, some (.ref 0), vI (if x3 < (0 : Int32) then (0 : Int32) else (if (3 : Int32) < x3 then (0 : Int32) else (1 : Int32))), vI (if x5 < (0 : Int32) then (0 : Int32) else (if (255 : Int32) < x5 then (0 : Int32) else (1 : Int32))), vI (if x4 < (0 : Int32) then (0 : Int32) else (if (255 : Int32) < x4 then (255 : Int32) else x4)), none, none, none, none, none, none, none, none, none, none, none]) (S := []) (σ := (H0 r147.2)) rfl (XT.i0_le_f hc156) ?_
                    refine QTri.steps Ad W 2 (st' := (141, [none, none, none, vI x3, none, none, some (.ref 0), vI (if x3 < (0 : Int32) then (0 : Int32) else (if (3 : Int32) < x3 then (0 : Int32) else (1 : Int32))), vI (if x5 < (0 : Int32) then (0 : Int32) else (if (255 : Int32) < x5 then (0 : Int32) else (1 : Int32))), vI (if x4 < (0 : Int32) then (0 : Int32) else (if (255 : Int32) < x4 then (255 : Int32) else x4)), none, none, none, none, none, none, none, none, none, none, none], [.int (1 : Int32)], (H0 r147.2))) rfl ?_
                    exact QTri.mask [false, false, false, true, false, false, true, true, true, true, false, false, false, false, false, false, false, false, false, false, false] (K153 _ ((if_neg hc154).trans ((if_neg hc155).trans (if_pos hc156))).symm)
                  · refine QTri.brT Ad W (t := 140) (f := 136) (L := [none, none, none, vI x3, none, none, some (.ref 0), vI (if x3 < (0 : Int32) then (0 : Int32) else (if (3 : Int32) < x3 then (0 : Int32) else (1 : Int32))), vI (if x5 < (0 : Int32) then (0 : Int32) else (if (255 : Int32) < x5 then (0 : Int32) else (1 : Int32))), vI (if x4 < (0 : Int32) then (0 : Int32) else (if (255 : Int32) < x4 then (255 : Int32) else x4)), none, none, none, none, none, none, none, none, none, none, none]) (S := []) (σ := (H0 r147.2)) rfl (XT.i0_le_t hc156) ?_
                    refine QTri.steps Ad W 1 (st' := (141, [none, none, none, vI x3, none, none, some (.ref 0), vI (if x3 < (0 : Int32) then (0 : Int32) else (if (3 : Int32) < x3 then (0 : Int32) else (1 : Int32))), vI (if x5 < (0 : Int32) then (0 : Int32) else (if (255 : Int32) < x5 then (0 : Int32) else (1 : Int32))), vI (if x4 < (0 : Int32) then (0 : Int32) else (if (255 : Int32) < x4 then (255 : Int32) else x4)), none, none, none, none, none, none, none, none, none, none, none], [.int (0 : Int32)], (H0 r147.2))) rfl ?_
                    exact QTri.mask [false, false, false, true, false, false, true, true, true, true, false, false, false, false, false, false, false, false, false, false, false] (K153 _ ((if_neg hc154).trans ((if_neg hc155).trans (if_neg hc156))).symm)
            · refine QTri.brF Ad W (t := 121) (f := 119) (L := [none, none, none, vI x3, none, none, some (.ref 0), vI (if x3 < (0 : Int32) then (0 : Int32) else (if (3 : Int32) < x3 then (0 : Int32) else (1 : Int32))), vI (if x5 < (0 : Int32) then (0 : Int32) else (if (255 : Int32) < x5 then (0 : Int32) else (1 : Int32))), vI (if x4 < (0 : Int32) then (0 : Int32) else (if (255 : Int32) < x4 then (255 : Int32) else x4)), none, none, none, none, none, none, none, none, none, none, none]) (S := []) (σ := (H0 r147.2)) rfl (XT.ii_eq_f hc151) ?_
              refine QTri.steps Ad W 1 (st' := (120, [none, none, none, vI x3, none, none, some (.ref 0), vI (if x3 < (0 : Int32) then (0 : Int32) else (if (3 : Int32) < x3 then (0 : Int32) else (1 : Int32))), vI (if x5 < (0 : Int32) then (0 : Int32) else (if (255 : Int32) < x5 then (0 : Int32) else (1 : Int32))), vI (if x4 < (0 : Int32) then (0 : Int32) else (if (255 : Int32) < x4 then (255 : Int32) else x4)), none, none, none, none, none, none, none, none, none, none, none], [.int (0 : Int32)], (H0 r147.2))) rfl ?_
              obtain rfl := Option.some.inj h
              exact QTri.retZ rfl rfl
          rcases Classical.em ((if x5 < (0 : Int32) then (0 : Int32) else (if (255 : Int32) < x5 then (0 : Int32) else (1 : Int32))) = (0 : Int32)) with hc150 | hc150
          · refine QTri.brT Ad W (t := 115) (f := 111) (L := [none, none, none, vI x3, vI x4, vI x5, some (.ref 0), vI (if x3 < (0 : Int32) then (0 : Int32) else (if (3 : Int32) < x3 then (0 : Int32) else (1 : Int32))), vI (if x5 < (0 : Int32) then (0 : Int32) else (if (255 : Int32) < x5 then (0 : Int32) else (1 : Int32))), vI (if x4 < (0 : Int32) then (0 : Int32) else (if (255 : Int32) < x4 then (255 : Int32) else x4)), vI r33.1, vI r147.1, none, none, none, none, none, none, none, none, none]) (S := [.int r147.1]) (σ := (H0 r147.2)) rfl (XT.i0_eq_t hc150) ?_
            refine QTri.steps Ad W 1 (st' := (116, [none, none, none, vI x3, vI x4, vI x5, some (.ref 0), vI (if x3 < (0 : Int32) then (0 : Int32) else (if (3 : Int32) < x3 then (0 : Int32) else (1 : Int32))), vI (if x5 < (0 : Int32) then (0 : Int32) else (if (255 : Int32) < x5 then (0 : Int32) else (1 : Int32))), vI (if x4 < (0 : Int32) then (0 : Int32) else (if (255 : Int32) < x4 then (255 : Int32) else x4)), vI r33.1, vI r147.1, none, none, none, none, none, none, none, none, none], [.int (-1 : Int32), .int r147.1], (H0 r147.2))) rfl ?_
            exact QTri.mask [false, false, false, true, false, false, true, true, true, true, false, false, false, false, false, false, false, false, false, false, false] (K149 _ (if_pos hc150).symm)
          · refine QTri.brF Ad W (t := 115) (f := 111) (L := [none, none, none, vI x3, vI x4, vI x5, some (.ref 0), vI (if x3 < (0 : Int32) then (0 : Int32) else (if (3 : Int32) < x3 then (0 : Int32) else (1 : Int32))), vI (if x5 < (0 : Int32) then (0 : Int32) else (if (255 : Int32) < x5 then (0 : Int32) else (1 : Int32))), vI (if x4 < (0 : Int32) then (0 : Int32) else (if (255 : Int32) < x4 then (255 : Int32) else x4)), vI r33.1, vI r147.1, none, none, none, none, none, none, none, none, none]) (S := [.int r147.1]) (σ := (H0 r147.2)) rfl (XT.i0_eq_f hc150) ?_
            refine QTri.steps Ad W 2 (st' := (116, [none, none, none, vI x3, vI x4, vI x5, some (.ref 0), vI (if x3 < (0 : Int32) then (0 : Int32) else (if (3 : Int32) < x3 then (0 : Int32) else (1 : Int32))), vI (if x5 < (0 : Int32) then (0 : Int32) else (if (255 : Int32) < x5 then (0 : Int32) else (1 : Int32))), vI (if x4 < (0 : Int32) then (0 : Int32) else (if (255 : Int32) < x4 then (255 : Int32) else x4)), vI r33.1, vI r147.1, none, none, none, none, none, none, none, none, none], [.int (0 : Int32), .int r147.1], (H0 r147.2))) rfl ?_
            exact QTri.mask [false, false, false, true, false, false, true, true, true, true, false, false, false, false, false, false, false, false, false, false, false] (K149 _ (if_neg hc150).symm)
        · refine QTri.brF Ad W (t := 95) (f := 93) (L := [none, none, none, vI x3, vI x4, vI x5, some (.ref 0), vI (if x3 < (0 : Int32) then (0 : Int32) else (if (3 : Int32) < x3 then (0 : Int32) else (1 : Int32))), vI (if x5 < (0 : Int32) then (0 : Int32) else (if (255 : Int32) < x5 then (0 : Int32) else (1 : Int32))), vI (if x4 < (0 : Int32) then (0 : Int32) else (if (255 : Int32) < x4 then (255 : Int32) else x4)), vI r33.1, none, none, none, none, none, none, none, none, none, none]) (S := []) (σ := (H0 r33.2)) rfl (XT.ii_eq_f hc34) ?_
          refine QTri.steps Ad W 1 (st' := (94, [none, none, none, vI x3, vI x4, vI x5, some (.ref 0), vI (if x3 < (0 : Int32) then (0 : Int32) else (if (3 : Int32) < x3 then (0 : Int32) else (1 : Int32))), vI (if x5 < (0 : Int32) then (0 : Int32) else (if (255 : Int32) < x5 then (0 : Int32) else (1 : Int32))), vI (if x4 < (0 : Int32) then (0 : Int32) else (if (255 : Int32) < x4 then (255 : Int32) else x4)), vI r33.1, none, none, none, none, none, none, none, none, none, none], [.int (0 : Int32)], (H0 r33.2))) rfl ?_
          obtain rfl := Option.some.inj h
          exact QTri.retZ rfl rfl
      rcases Classical.em (x4 < (0 : Int32)) with hc24 | hc24
      · refine QTri.brF Ad W (t := 58) (f := 54) (L := [none, none, none, vI x3, vI x4, vI x5, some (.ref 0), vI (if x3 < (0 : Int32) then (0 : Int32) else (if (3 : Int32) < x3 then (0 : Int32) else (1 : Int32))), vI (if x5 < (0 : Int32) then (0 : Int32) else (if (255 : Int32) < x5 then (0 : Int32) else (1 : Int32))), none, none, none, none, none, none, none, none, none, none, none, none]) (S := []) (σ := (H0 r13)) rfl (XT.i0_ge_f hc24) ?_
        refine QTri.steps Ad W 2 (st' := (74, [none, none, none, vI x3, vI x4, vI x5, some (.ref 0), vI (if x3 < (0 : Int32) then (0 : Int32) else (if (3 : Int32) < x3 then (0 : Int32) else (1 : Int32))), vI (if x5 < (0 : Int32) then (0 : Int32) else (if (255 : Int32) < x5 then (0 : Int32) else (1 : Int32))), none, none, none, none, none, none, none, none, none, none, none, none], [.int (0 : Int32)], (H0 r13))) rfl ?_
        exact QTri.mask [false, false, false, true, true, true, true, true, true, false, false, false, false, false, false, false, false, false, false, false, false] (K23 _ (if_pos hc24).symm)
      · refine QTri.brT Ad W (t := 58) (f := 54) (L := [none, none, none, vI x3, vI x4, vI x5, some (.ref 0), vI (if x3 < (0 : Int32) then (0 : Int32) else (if (3 : Int32) < x3 then (0 : Int32) else (1 : Int32))), vI (if x5 < (0 : Int32) then (0 : Int32) else (if (255 : Int32) < x5 then (0 : Int32) else (1 : Int32))), none, none, none, none, none, none, none, none, none, none, none, none]) (S := []) (σ := (H0 r13)) rfl (XT.i0_ge_t hc24) ?_
        refine QTri.steps Ad W 2 (st' := (63, [none, none, none, vI x3, vI x4, vI x5, some (.ref 0), vI (if x3 < (0 : Int32) then (0 : Int32) else (if (3 : Int32) < x3 then (0 : Int32) else (1 : Int32))), vI (if x5 < (0 : Int32) then (0 : Int32) else (if (255 : Int32) < x5 then (0 : Int32) else (1 : Int32))), none, none, none, none, none, none, none, none, none, none, none, none], [.int (255 : Int32), .int x4], (H0 r13))) rfl ?_
        rcases Classical.em ((255 : Int32) < x4) with hc25 | hc25
        · refine QTri.brF Ad W (t := 72) (f := 66) (L := [none, none, none, vI x3, vI x4, vI x5, some (.ref 0), vI (if x3 < (0 : Int32) then (0 : Int32) else (if (3 : Int32) < x3 then (0 : Int32) else (1 : Int32))), vI (if x5 < (0 : Int32) then (0 : Int32) else (if (255 : Int32) < x5 then (0 : Int32) else (1 : Int32))), none, none, none, none, none, none, none, none, none, none, none, none]) (S := []) (σ := (H0 r13)) rfl (XT.ii_le_f hc25) ?_
          refine QTri.steps Ad W 2 (st' := (74, [none, none, none, vI x3, vI x4, vI x5, some (.ref 0), vI (if x3 < (0 : Int32) then (0 : Int32) else (if (3 : Int32) < x3 then (0 : Int32) else (1 : Int32))), vI (if x5 < (0 : Int32) then (0 : Int32) else (if (255 : Int32) < x5 then (0 : Int32) else (1 : Int32))), none, none, none, none, none, none, none, none, none, none, none, none], [.int (255 : Int32)], (H0 r13))) rfl ?_
          exact QTri.mask [false, false, false, true, true, true, true, true, true, false, false, false, false, false, false, false, false, false, false, false, false] (K23 _ ((if_neg hc24).trans (if_pos hc25)).symm)
        · refine QTri.brT Ad W (t := 72) (f := 66) (L := [none, none, none, vI x3, vI x4, vI x5, some (.ref 0), vI (if x3 < (0 : Int32) then (0 : Int32) else (if (3 : Int32) < x3 then (0 : Int32) else (1 : Int32))), vI (if x5 < (0 : Int32) then (0 : Int32) else (if (255 : Int32) < x5 then (0 : Int32) else (1 : Int32))), none, none, none, none, none, none, none, none, none, none, none, none]) (S := []) (σ := (H0 r13)) rfl (XT.ii_le_t hc25) ?_
          refine QTri.steps Ad W 1 (st' := (74, [none, none, none, vI x3, vI x4, vI x5, some (.ref 0), vI (if x3 < (0 : Int32) then (0 : Int32) else (if (3 : Int32) < x3 then (0 : Int32) else (1 : Int32))), vI (if x5 < (0 : Int32) then (0 : Int32) else (if (255 : Int32) < x5 then (0 : Int32) else (1 : Int32))), none, none, none, none, none, none, none, none, none, none, none, none], [.int x4], (H0 r13))) rfl ?_
          exact QTri.mask [false, false, false, true, true, true, true, true, true, false, false, false, false, false, false, false, false, false, false, false, false] (K23 _ ((if_neg hc24).trans (if_neg hc25)).symm)
    rcases Classical.em (x5 < (0 : Int32)) with hc20 | hc20
    · refine QTri.brT Ad W (t := 46) (f := 34) (L := [none, none, none, vI x3, vI x4, vI x5, some (.ref 0), vI (if x3 < (0 : Int32) then (0 : Int32) else (if (3 : Int32) < x3 then (0 : Int32) else (1 : Int32))), none, none, none, none, none, none, none, none, none, none, none, none, none]) (S := []) (σ := (H0 r13)) rfl (XT.i0_lt_t hc20) ?_
      refine QTri.steps Ad W 1 (st' := (47, [none, none, none, vI x3, vI x4, vI x5, some (.ref 0), vI (if x3 < (0 : Int32) then (0 : Int32) else (if (3 : Int32) < x3 then (0 : Int32) else (1 : Int32))), none, none, none, none, none, none, none, none, none, none, none, none, none], [.int (0 : Int32)], (H0 r13))) rfl ?_
      exact QTri.mask [false, false, false, true, true, true, true, true, false, false, false, false, false, false, false, false, false, false, false, false, false] (K19 _ (if_pos hc20).symm)
    · refine QTri.brF Ad W (t := 46) (f := 34) (L := [none, none, none, vI x3, vI x4, vI x5, some (.ref 0), vI (if x3 < (0 : Int32) then (0 : Int32) else (if (3 : Int32) < x3 then (0 : Int32) else (1 : Int32))), none, none, none, none, none, none, none, none, none, none, none, none, none]) (S := []) (σ := (H0 r13)) rfl (XT.i0_lt_f hc20) ?_
      refine QTri.steps Ad W 2 (st' := (39, [none, none, none, vI x3, vI x4, vI x5, some (.ref 0), vI (if x3 < (0 : Int32) then (0 : Int32) else (if (3 : Int32) < x3 then (0 : Int32) else (1 : Int32))), none, none, none, none, none, none, none, none, none, none, none, none, none], [.int (255 : Int32), .int x5], (H0 r13))) rfl ?_
      rcases Classical.em ((255 : Int32) < x5) with hc21 | hc21
      · refine QTri.brT Ad W (t := 46) (f := 42) (L := [none, none, none, vI x3, vI x4, vI x5, some (.ref 0), vI (if x3 < (0 : Int32) then (0 : Int32) else (if (3 : Int32) < x3 then (0 : Int32) else (1 : Int32))), none, none, none, none, none, none, none, none, none, none, none, none, none]) (S := []) (σ := (H0 r13)) rfl (XT.ii_gt_t hc21) ?_
        refine QTri.steps Ad W 1 (st' := (47, [none, none, none, vI x3, vI x4, vI x5, some (.ref 0), vI (if x3 < (0 : Int32) then (0 : Int32) else (if (3 : Int32) < x3 then (0 : Int32) else (1 : Int32))), none, none, none, none, none, none, none, none, none, none, none, none, none], [.int (0 : Int32)], (H0 r13))) rfl ?_
        exact QTri.mask [false, false, false, true, true, true, true, true, false, false, false, false, false, false, false, false, false, false, false, false, false] (K19 _ ((if_neg hc20).trans (if_pos hc21)).symm)
      · refine QTri.brF Ad W (t := 46) (f := 42) (L := [none, none, none, vI x3, vI x4, vI x5, some (.ref 0), vI (if x3 < (0 : Int32) then (0 : Int32) else (if (3 : Int32) < x3 then (0 : Int32) else (1 : Int32))), none, none, none, none, none, none, none, none, none, none, none, none, none]) (S := []) (σ := (H0 r13)) rfl (XT.ii_gt_f hc21) ?_
        refine QTri.steps Ad W 2 (st' := (47, [none, none, none, vI x3, vI x4, vI x5, some (.ref 0), vI (if x3 < (0 : Int32) then (0 : Int32) else (if (3 : Int32) < x3 then (0 : Int32) else (1 : Int32))), none, none, none, none, none, none, none, none, none, none, none, none, none], [.int (1 : Int32)], (H0 r13))) rfl ?_
        exact QTri.mask [false, false, false, true, true, true, true, true, false, false, false, false, false, false, false, false, false, false, false, false, false] (K19 _ ((if_neg hc20).trans (if_neg hc21)).symm)
  rcases Classical.em (x3 < (0 : Int32)) with hc16 | hc16
  · refine QTri.brT Ad W (t := 26) (f := 17) (L := [vI x0, vI x1, vI x2, vI x3, vI x4, vI x5, some (.ref 0), none, none, none, none, none, none, none, none, none, none, none, none, none, none]) (S := []) (σ := (H0 r13)) rfl (XT.i0_lt_t hc16) ?_
    refine QTri.steps Ad W 1 (st' := (27, [vI x0, vI x1, vI x2, vI x3, vI x4, vI x5, some (.ref 0), none, none, none, none, none, none, none, none, none, none, none, none, none, none], [.int (0 : Int32)], (H0 r13))) rfl ?_
    exact QTri.mask [false, false, false, true, true, true, true, false, false, false, false, false, false, false, false, false, false, false, false, false, false] (K15 _ (if_pos hc16).symm)
  · refine QTri.brF Ad W (t := 26) (f := 17) (L := [vI x0, vI x1, vI x2, vI x3, vI x4, vI x5, some (.ref 0), none, none, none, none, none, none, none, none, none, none, none, none, none, none]) (S := []) (σ := (H0 r13)) rfl (XT.i0_lt_f hc16) ?_
    refine QTri.steps Ad W 2 (st' := (19, [vI x0, vI x1, vI x2, vI x3, vI x4, vI x5, some (.ref 0), none, none, none, none, none, none, none, none, none, none, none, none, none, none], [.int (3 : Int32), .int x3], (H0 r13))) rfl ?_
    rcases Classical.em ((3 : Int32) < x3) with hc17 | hc17
    · refine QTri.brT Ad W (t := 26) (f := 22) (L := [vI x0, vI x1, vI x2, vI x3, vI x4, vI x5, some (.ref 0), none, none, none, none, none, none, none, none, none, none, none, none, none, none]) (S := []) (σ := (H0 r13)) rfl (XT.ii_gt_t hc17) ?_
      refine QTri.steps Ad W 1 (st' := (27, [vI x0, vI x1, vI x2, vI x3, vI x4, vI x5, some (.ref 0), none, none, none, none, none, none, none, none, none, none, none, none, none, none], [.int (0 : Int32)], (H0 r13))) rfl ?_
      exact QTri.mask [false, false, false, true, true, true, true, false, false, false, false, false, false, false, false, false, false, false, false, false, false] (K15 _ ((if_neg hc16).trans (if_pos hc17)).symm)
    · refine QTri.brF Ad W (t := 26) (f := 22) (L := [vI x0, vI x1, vI x2, vI x3, vI x4, vI x5, some (.ref 0), none, none, none, none, none, none, none, none, none, none, none, none, none, none]) (S := []) (σ := (H0 r13)) rfl (XT.ii_gt_f hc17) ?_
      refine QTri.steps Ad W 2 (st' := (27, [vI x0, vI x1, vI x2, vI x3, vI x4, vI x5, some (.ref 0), none, none, none, none, none, none, none, none, none, none, none, none, none, none], [.int (1 : Int32)], (H0 r13))) rfl ?_
      exact QTri.mask [false, false, false, true, true, true, true, false, false, false, false, false, false, false, false, false, false, false, false, false, false] (K15 _ ((if_neg hc16).trans (if_neg hc17)).symm)
end Walks
/-! ## ints, plainly -/
theorem i_lt {x y : Int32} : x < y ↔ x.toInt < y.toInt := Int32.lt_iff_toInt_lt
theorem i_eq {x y : Int32} : x = y ↔ x.toInt = y.toInt := Int32.toInt_inj.symm
theorem i_lo (x : Int32) : -2147483648 ≤ x.toInt := Int32.le_toInt x
theorem i_hi (x : Int32) : x.toInt < 2147483648 := Int32.toInt_lt x
theorem i_add {x y : Int32} (h1 : -2147483648 ≤ x.toInt + y.toInt) (h2 : x.toInt + y.toInt < 2147483648) : (x + y).toInt = x.toInt + y.toInt := XT.add32 ⟨h1, by omega⟩
theorem i_sub {x y : Int32} (h1 : -2147483648 ≤ x.toInt - y.toInt) (h2 : x.toInt - y.toInt < 2147483648) : (x - y).toInt = x.toInt - y.toInt := XT.sub32 ⟨h1, by omega⟩
theorem i_mul {x y : Int32} (h1 : -2147483648 ≤ x.toInt * y.toInt) (h2 : x.toInt * y.toInt < 2147483648) : (x * y).toInt = x.toInt * y.toInt := XT.mul32 ⟨h1, by omega⟩
theorem i_nat (x : Int32) : x.toNatClampNeg = x.toInt.toNat := rfl
theorem aget_at {α : Type} {xs : List α} {j : Int32} {n : Nat} (hj : j.toInt = n) (hn : n < xs.length) : aget xs j = some xs[n] := by
  have h0 : ¬ j < 0 := by rw [i_lt]; show ¬ j.toInt < 0; omega
  unfold aget
  rw [if_neg h0, i_nat, hj]
  simp [hn]
theorem aget_rep {α : Type} {m : Nat} {a : α} {j : Int32} (h0 : 0 ≤ j.toInt) (h1 : j.toInt < m) : aget (List.replicate m a) j = some a := by
  rw [aget_at (n := j.toInt.toNat) (by omega) (by rw [List.length_replicate]; omega)]
  simp
theorem aset_at {α : Type} {xs : List α} {j : Int32} {n : Nat} {v : α} (hj : j.toInt = n) (hn : n < xs.length) : aset xs j v = some (xs.set n v) := by
  have h0 : ¬ j < 0 := by rw [i_lt]; show ¬ j.toInt < 0; omega
  unfold aset
  have e : j.toNatClampNeg = n := by rw [i_nat, hj]; simp
  rw [if_neg h0, e, if_pos hn]
theorem rep_set {α : Type} (m k : Nat) (a : α) : (List.replicate m a).set k a = List.replicate m a := by
  apply List.ext_getElem (by simp)
  intro i h1 h2
  rw [List.getElem_set]
  split <;> simp
theorem small_cases {x : Int32} (h0 : 0 ≤ x.toInt) {n : Nat} (h1 : x.toInt < n) {P : Int32 → Prop} (h : ∀ m : Nat, m < n → P (Int32.ofInt m)) : P x := by
  have e : Int32.ofInt (x.toInt.toNat : Nat) = x := by
    rw [Int.toNat_of_nonneg h0, Int32.ofInt_toInt]
  rw [← e]
  exact h _ (by omega)
theorem bit_ne {x : Int32} (h0 : 0 ≤ x.toInt) (h1 : x.toInt < 32) : ¬ (((1 : Int32) <<< (x &&& 31)) &&& ((1 : Int32) <<< (x &&& 31))) = 0 :=
  small_cases (P := fun x => ¬ (((1 : Int32) <<< (x &&& 31)) &&& ((1 : Int32) <<< (x &&& 31))) = 0) h0 (n := 32) h1 (by decide)
/-! ## a plain run that succeeds, and what it gives -/
def okP {α : Type} (m : Option α) (P : α → Prop) : Prop := ∃ a, m = some a ∧ P a
theorem okP.some {α : Type} {a : α} {P : α → Prop} (h : P a) : okP (some a) P := ⟨a, rfl, h⟩
theorem okP.bind {α β : Type} {m : Option α} {f : α → Option β} {P : β → Prop} (h : okP m fun a => okP (f a) P) : okP (m.bind f) P := by
  obtain ⟨a, e, b, e2, h2⟩ := h
  exact ⟨b, by rw [e]; exact e2, h2⟩
theorem okP.ite {α : Type} {c : Prop} [Decidable c] {a b : Option α} {P : α → Prop} (h1 : c → okP a P) (h2 : ¬ c → okP b P) : okP (if c then a else b) P := by
  by_cases h : c
  · rw [if_pos h]; exact h1 h
  · rw [if_neg h]; exact h2 h
theorem okP.mono {α : Type} {m : Option α} {P Q : α → Prop} (h : okP m P) (k : ∀ a, P a → Q a) : okP m Q := by
  obtain ⟨a, e, h⟩ := h
  exact ⟨a, e, k a h⟩
theorem okP.of {α : Type} {m : Option α} {a : α} {P : α → Prop} (e : m = Option.some a) (h : P a) : okP m P := ⟨a, e, h⟩
theorem okP.aget {α : Type} {xs : List α} {j : Int32} {P : α → Prop} (h0 : 0 ≤ j.toInt) (h1 : j.toInt < xs.length) (k : ∀ v, xs[j.toInt.toNat]? = Option.some v → P v) : okP (aget xs j) P :=
  ⟨_, aget_at (n := j.toInt.toNat) (by omega) (by omega), k _ (List.getElem?_eq_getElem _)⟩
theorem okP.aset {α : Type} {xs : List α} {j : Int32} {v : α} {P : List α → Prop} (h0 : 0 ≤ j.toInt) (h1 : j.toInt < xs.length) (k : P (xs.set j.toInt.toNat v)) : okP (aset xs j v) P :=
  ⟨_, aset_at (n := j.toInt.toNat) (by omega) (by omega), k⟩
theorem okP.loop {V E : Type} {B : V → Option (E ⊕ V)} {P : E → Prop} {n : Nat} {v : V} (I : V → Prop) (μ : V → Nat) (hv : I v) (hm : μ v < n) (hB : ∀ v, I v → okP (B v) (fun r => Sum.elim P (fun v' => I v' ∧ μ v' < μ v) r)) : okP (loopN B n v) P := by
  refine loopN_inv I P μ ?_ n v hv hm
  intro v hv
  obtain ⟨r, e, h⟩ := hB v hv
  cases r with
  | inl x => exact Or.inl ⟨x, e, h⟩
  | inr x => exact Or.inr ⟨x, e, h⟩
theorem len_i {n : Nat} (h : n ≤ 1000) : (n.toInt32).toInt = n := by
  have e : n.toInt32 = Int32.ofInt n := rfl
  rw [e, Int32.toInt_ofInt_of_le (by show _ ≤ (n : Int); omega) (by show (n : Int) < _; omega)]
theorem and1 (x : Int32) : x &&& 1 = 0 ∨ x &&& 1 = 1 := by
  have e : (x &&& 1).toBitVec = x.toBitVec &&& 1#32 := rfl
  have h := BitVec.and_one_eq_setWidth_ofBool_getLsbD (x := x.toBitVec)
  cases g : x.toBitVec.getLsbD 0
  · left; apply Int32.toBitVec_inj.1; rw [e, h, g]; rfl
  · right; apply Int32.toBitVec_inj.1; rw [e, h, g]; rfl
theorem okP.not {α : Type} {m : Option α} {a : α} {P : α → Prop} (h : okP m P) (e : m = Option.some a) : P a := by
  obtain ⟨b, e2, h⟩ := h
  rw [e] at e2
  exact (Option.some.inj e2) ▸ h
theorem and_rng {x m : Int32} (hm : 0 ≤ m.toInt) : 0 ≤ (x &&& m).toInt ∧ (x &&& m).toInt ≤ m.toInt := by
  have e : (x &&& m).toBitVec.toNat = x.toBitVec.toNat &&& m.toBitVec.toNat := BitVec.toNat_and ..
  have l : (x &&& m).toBitVec.toNat ≤ m.toBitVec.toNat := by rw [e]; exact Nat.and_le_right
  have c1 : m.toInt = if 2 * m.toBitVec.toNat < 2 ^ 32 then (m.toBitVec.toNat : Int) else m.toBitVec.toNat - (2 ^ 32 : Nat) := BitVec.toInt_eq_toNat_cond m.toBitVec
  have c2 : (x &&& m).toInt = if 2 * (x &&& m).toBitVec.toNat < 2 ^ 32 then ((x &&& m).toBitVec.toNat : Int) else (x &&& m).toBitVec.toNat - (2 ^ 32 : Nat) := BitVec.toInt_eq_toNat_cond (x &&& m).toBitVec
  have b : m.toBitVec.toNat < 2 ^ 32 := m.toBitVec.isLt
  by_cases h : 2 * m.toBitVec.toNat < 2 ^ 32
  · rw [if_pos h] at c1
    rw [if_pos (by omega)] at c2
    omega
  · rw [if_neg h] at c1
    omega
theorem mod_rng {x m : Int32} (hx : 0 ≤ x.toInt) (hm : 0 < m.toInt) : 0 ≤ (x % m).toInt ∧ (x % m).toInt < m.toInt := by
  rw [Int32.toInt_mod, Int.tmod_eq_emod_of_nonneg hx]
  exact ⟨Int.emod_nonneg _ (by omega), Int.emod_lt_of_pos _ hm⟩
/-- the law's own room, over the script's array -/
def sFit (s : List Int32) (τ : QHeap) : Prop := τ.length - List.length ([Sum.inr (Sum.inl (FieldType.int, s))] : QHeap) ≤ room_1.cells ∧ qhs τ - qhs [Sum.inr (Sum.inl (FieldType.int, s))] ≤ room_1.slots
def Sh (W : Int32) (o : Ob) : Prop := (f_srcPayload o).length = 32 ∧ (f_pend o).length = 32 ∧ (f_queue o).length = 64 ∧ (f_stats o).length = 10 ∧ (f_state o).length = 128 ∧ (f_timer o).length = 128 ∧ (f_rxVal o).length = 128 ∧ (f_rxNext o).length = 4 ∧ (f_rxLead o).length = 4 ∧ (f_rxTrail o).length = 4 ∧ (f_lossLeft o).length = 4 ∧ (f_dups o).length = 4 ∧ (f_drops o).length = 4 ∧ (f_delSeq o).length = 128 ∧ (f_delVal o).length = 128 ∧ (f_delLen o).length = 4 ∧ (f_lostLog o).length = 128 ∧ (f_lostLen o).length = 4 ∧ (f_nakBuf o).length = 128 ∧ f_win o = W
theorem Sh_srcPayload {W : Int32} {o : Ob} {x : List Int32} (h : Sh W o) (hx : x.length = 32) : Sh W (s_srcPayload o x) := by
  dsimp only [Sh, f_srcPayload, f_pend, f_queue, f_stats, f_state, f_timer, f_rxVal, f_rxNext, f_rxLead, f_rxTrail, f_lossLeft, f_dups, f_drops, f_delSeq, f_delVal, f_delLen, f_lostLog, f_lostLen, f_nakBuf, f_win, s_srcPayload] at h ⊢
  exact ⟨hx, h.2.1, h.2.2.1, h.2.2.2.1, h.2.2.2.2.1, h.2.2.2.2.2.1, h.2.2.2.2.2.2.1, h.2.2.2.2.2.2.2.1, h.2.2.2.2.2.2.2.2.1, h.2.2.2.2.2.2.2.2.2.1, h.2.2.2.2.2.2.2.2.2.2.1, h.2.2.2.2.2.2.2.2.2.2.2.1, h.2.2.2.2.2.2.2.2.2.2.2.2.1, h.2.2.2.2.2.2.2.2.2.2.2.2.2.1, h.2.2.2.2.2.2.2.2.2.2.2.2.2.2.1, h.2.2.2.2.2.2.2.2.2.2.2.2.2.2.2.1, h.2.2.2.2.2.2.2.2.2.2.2.2.2.2.2.2.1, h.2.2.2.2.2.2.2.2.2.2.2.2.2.2.2.2.2.1, h.2.2.2.2.2.2.2.2.2.2.2.2.2.2.2.2.2.2.1, h.2.2.2.2.2.2.2.2.2.2.2.2.2.2.2.2.2.2.2⟩
theorem Sh_l_srcPayload {W : Int32} {o : Ob} (h : Sh W o) : (f_srcPayload o).length = 32 := h.1
theorem Sh_pend {W : Int32} {o : Ob} {x : List Int32} (h : Sh W o) (hx : x.length = 32) : Sh W (s_pend o x) := by
  dsimp only [Sh, f_srcPayload, f_pend, f_queue, f_stats, f_state, f_timer, f_rxVal, f_rxNext, f_rxLead, f_rxTrail, f_lossLeft, f_dups, f_drops, f_delSeq, f_delVal, f_delLen, f_lostLog, f_lostLen, f_nakBuf, f_win, s_pend] at h ⊢
  exact ⟨h.1, hx, h.2.2.1, h.2.2.2.1, h.2.2.2.2.1, h.2.2.2.2.2.1, h.2.2.2.2.2.2.1, h.2.2.2.2.2.2.2.1, h.2.2.2.2.2.2.2.2.1, h.2.2.2.2.2.2.2.2.2.1, h.2.2.2.2.2.2.2.2.2.2.1, h.2.2.2.2.2.2.2.2.2.2.2.1, h.2.2.2.2.2.2.2.2.2.2.2.2.1, h.2.2.2.2.2.2.2.2.2.2.2.2.2.1, h.2.2.2.2.2.2.2.2.2.2.2.2.2.2.1, h.2.2.2.2.2.2.2.2.2.2.2.2.2.2.2.1, h.2.2.2.2.2.2.2.2.2.2.2.2.2.2.2.2.1, h.2.2.2.2.2.2.2.2.2.2.2.2.2.2.2.2.2.1, h.2.2.2.2.2.2.2.2.2.2.2.2.2.2.2.2.2.2.1, h.2.2.2.2.2.2.2.2.2.2.2.2.2.2.2.2.2.2.2⟩
theorem Sh_l_pend {W : Int32} {o : Ob} (h : Sh W o) : (f_pend o).length = 32 := h.2.1
theorem Sh_queue {W : Int32} {o : Ob} {x : List Int32} (h : Sh W o) (hx : x.length = 64) : Sh W (s_queue o x) := by
  dsimp only [Sh, f_srcPayload, f_pend, f_queue, f_stats, f_state, f_timer, f_rxVal, f_rxNext, f_rxLead, f_rxTrail, f_lossLeft, f_dups, f_drops, f_delSeq, f_delVal, f_delLen, f_lostLog, f_lostLen, f_nakBuf, f_win, s_queue] at h ⊢
  exact ⟨h.1, h.2.1, hx, h.2.2.2.1, h.2.2.2.2.1, h.2.2.2.2.2.1, h.2.2.2.2.2.2.1, h.2.2.2.2.2.2.2.1, h.2.2.2.2.2.2.2.2.1, h.2.2.2.2.2.2.2.2.2.1, h.2.2.2.2.2.2.2.2.2.2.1, h.2.2.2.2.2.2.2.2.2.2.2.1, h.2.2.2.2.2.2.2.2.2.2.2.2.1, h.2.2.2.2.2.2.2.2.2.2.2.2.2.1, h.2.2.2.2.2.2.2.2.2.2.2.2.2.2.1, h.2.2.2.2.2.2.2.2.2.2.2.2.2.2.2.1, h.2.2.2.2.2.2.2.2.2.2.2.2.2.2.2.2.1, h.2.2.2.2.2.2.2.2.2.2.2.2.2.2.2.2.2.1, h.2.2.2.2.2.2.2.2.2.2.2.2.2.2.2.2.2.2.1, h.2.2.2.2.2.2.2.2.2.2.2.2.2.2.2.2.2.2.2⟩
theorem Sh_l_queue {W : Int32} {o : Ob} (h : Sh W o) : (f_queue o).length = 64 := h.2.2.1
theorem Sh_stats {W : Int32} {o : Ob} {x : List Int32} (h : Sh W o) (hx : x.length = 10) : Sh W (s_stats o x) := by
  dsimp only [Sh, f_srcPayload, f_pend, f_queue, f_stats, f_state, f_timer, f_rxVal, f_rxNext, f_rxLead, f_rxTrail, f_lossLeft, f_dups, f_drops, f_delSeq, f_delVal, f_delLen, f_lostLog, f_lostLen, f_nakBuf, f_win, s_stats] at h ⊢
  exact ⟨h.1, h.2.1, h.2.2.1, hx, h.2.2.2.2.1, h.2.2.2.2.2.1, h.2.2.2.2.2.2.1, h.2.2.2.2.2.2.2.1, h.2.2.2.2.2.2.2.2.1, h.2.2.2.2.2.2.2.2.2.1, h.2.2.2.2.2.2.2.2.2.2.1, h.2.2.2.2.2.2.2.2.2.2.2.1, h.2.2.2.2.2.2.2.2.2.2.2.2.1, h.2.2.2.2.2.2.2.2.2.2.2.2.2.1, h.2.2.2.2.2.2.2.2.2.2.2.2.2.2.1, h.2.2.2.2.2.2.2.2.2.2.2.2.2.2.2.1, h.2.2.2.2.2.2.2.2.2.2.2.2.2.2.2.2.1, h.2.2.2.2.2.2.2.2.2.2.2.2.2.2.2.2.2.1, h.2.2.2.2.2.2.2.2.2.2.2.2.2.2.2.2.2.2.1, h.2.2.2.2.2.2.2.2.2.2.2.2.2.2.2.2.2.2.2⟩
theorem Sh_l_stats {W : Int32} {o : Ob} (h : Sh W o) : (f_stats o).length = 10 := h.2.2.2.1
theorem Sh_state {W : Int32} {o : Ob} {x : List Int32} (h : Sh W o) (hx : x.length = 128) : Sh W (s_state o x) := by
  dsimp only [Sh, f_srcPayload, f_pend, f_queue, f_stats, f_state, f_timer, f_rxVal, f_rxNext, f_rxLead, f_rxTrail, f_lossLeft, f_dups, f_drops, f_delSeq, f_delVal, f_delLen, f_lostLog, f_lostLen, f_nakBuf, f_win, s_state] at h ⊢
  exact ⟨h.1, h.2.1, h.2.2.1, h.2.2.2.1, hx, h.2.2.2.2.2.1, h.2.2.2.2.2.2.1, h.2.2.2.2.2.2.2.1, h.2.2.2.2.2.2.2.2.1, h.2.2.2.2.2.2.2.2.2.1, h.2.2.2.2.2.2.2.2.2.2.1, h.2.2.2.2.2.2.2.2.2.2.2.1, h.2.2.2.2.2.2.2.2.2.2.2.2.1, h.2.2.2.2.2.2.2.2.2.2.2.2.2.1, h.2.2.2.2.2.2.2.2.2.2.2.2.2.2.1, h.2.2.2.2.2.2.2.2.2.2.2.2.2.2.2.1, h.2.2.2.2.2.2.2.2.2.2.2.2.2.2.2.2.1, h.2.2.2.2.2.2.2.2.2.2.2.2.2.2.2.2.2.1, h.2.2.2.2.2.2.2.2.2.2.2.2.2.2.2.2.2.2.1, h.2.2.2.2.2.2.2.2.2.2.2.2.2.2.2.2.2.2.2⟩
theorem Sh_l_state {W : Int32} {o : Ob} (h : Sh W o) : (f_state o).length = 128 := h.2.2.2.2.1
theorem Sh_timer {W : Int32} {o : Ob} {x : List Int32} (h : Sh W o) (hx : x.length = 128) : Sh W (s_timer o x) := by
  dsimp only [Sh, f_srcPayload, f_pend, f_queue, f_stats, f_state, f_timer, f_rxVal, f_rxNext, f_rxLead, f_rxTrail, f_lossLeft, f_dups, f_drops, f_delSeq, f_delVal, f_delLen, f_lostLog, f_lostLen, f_nakBuf, f_win, s_timer] at h ⊢
  exact ⟨h.1, h.2.1, h.2.2.1, h.2.2.2.1, h.2.2.2.2.1, hx, h.2.2.2.2.2.2.1, h.2.2.2.2.2.2.2.1, h.2.2.2.2.2.2.2.2.1, h.2.2.2.2.2.2.2.2.2.1, h.2.2.2.2.2.2.2.2.2.2.1, h.2.2.2.2.2.2.2.2.2.2.2.1, h.2.2.2.2.2.2.2.2.2.2.2.2.1, h.2.2.2.2.2.2.2.2.2.2.2.2.2.1, h.2.2.2.2.2.2.2.2.2.2.2.2.2.2.1, h.2.2.2.2.2.2.2.2.2.2.2.2.2.2.2.1, h.2.2.2.2.2.2.2.2.2.2.2.2.2.2.2.2.1, h.2.2.2.2.2.2.2.2.2.2.2.2.2.2.2.2.2.1, h.2.2.2.2.2.2.2.2.2.2.2.2.2.2.2.2.2.2.1, h.2.2.2.2.2.2.2.2.2.2.2.2.2.2.2.2.2.2.2⟩
theorem Sh_l_timer {W : Int32} {o : Ob} (h : Sh W o) : (f_timer o).length = 128 := h.2.2.2.2.2.1
theorem Sh_rxVal {W : Int32} {o : Ob} {x : List Int32} (h : Sh W o) (hx : x.length = 128) : Sh W (s_rxVal o x) := by
  dsimp only [Sh, f_srcPayload, f_pend, f_queue, f_stats, f_state, f_timer, f_rxVal, f_rxNext, f_rxLead, f_rxTrail, f_lossLeft, f_dups, f_drops, f_delSeq, f_delVal, f_delLen, f_lostLog, f_lostLen, f_nakBuf, f_win, s_rxVal] at h ⊢
  exact ⟨h.1, h.2.1, h.2.2.1, h.2.2.2.1, h.2.2.2.2.1, h.2.2.2.2.2.1, hx, h.2.2.2.2.2.2.2.1, h.2.2.2.2.2.2.2.2.1, h.2.2.2.2.2.2.2.2.2.1, h.2.2.2.2.2.2.2.2.2.2.1, h.2.2.2.2.2.2.2.2.2.2.2.1, h.2.2.2.2.2.2.2.2.2.2.2.2.1, h.2.2.2.2.2.2.2.2.2.2.2.2.2.1, h.2.2.2.2.2.2.2.2.2.2.2.2.2.2.1, h.2.2.2.2.2.2.2.2.2.2.2.2.2.2.2.1, h.2.2.2.2.2.2.2.2.2.2.2.2.2.2.2.2.1, h.2.2.2.2.2.2.2.2.2.2.2.2.2.2.2.2.2.1, h.2.2.2.2.2.2.2.2.2.2.2.2.2.2.2.2.2.2.1, h.2.2.2.2.2.2.2.2.2.2.2.2.2.2.2.2.2.2.2⟩
theorem Sh_l_rxVal {W : Int32} {o : Ob} (h : Sh W o) : (f_rxVal o).length = 128 := h.2.2.2.2.2.2.1
theorem Sh_rxNext {W : Int32} {o : Ob} {x : List Int32} (h : Sh W o) (hx : x.length = 4) : Sh W (s_rxNext o x) := by
  dsimp only [Sh, f_srcPayload, f_pend, f_queue, f_stats, f_state, f_timer, f_rxVal, f_rxNext, f_rxLead, f_rxTrail, f_lossLeft, f_dups, f_drops, f_delSeq, f_delVal, f_delLen, f_lostLog, f_lostLen, f_nakBuf, f_win, s_rxNext] at h ⊢
  exact ⟨h.1, h.2.1, h.2.2.1, h.2.2.2.1, h.2.2.2.2.1, h.2.2.2.2.2.1, h.2.2.2.2.2.2.1, hx, h.2.2.2.2.2.2.2.2.1, h.2.2.2.2.2.2.2.2.2.1, h.2.2.2.2.2.2.2.2.2.2.1, h.2.2.2.2.2.2.2.2.2.2.2.1, h.2.2.2.2.2.2.2.2.2.2.2.2.1, h.2.2.2.2.2.2.2.2.2.2.2.2.2.1, h.2.2.2.2.2.2.2.2.2.2.2.2.2.2.1, h.2.2.2.2.2.2.2.2.2.2.2.2.2.2.2.1, h.2.2.2.2.2.2.2.2.2.2.2.2.2.2.2.2.1, h.2.2.2.2.2.2.2.2.2.2.2.2.2.2.2.2.2.1, h.2.2.2.2.2.2.2.2.2.2.2.2.2.2.2.2.2.2.1, h.2.2.2.2.2.2.2.2.2.2.2.2.2.2.2.2.2.2.2⟩
theorem Sh_l_rxNext {W : Int32} {o : Ob} (h : Sh W o) : (f_rxNext o).length = 4 := h.2.2.2.2.2.2.2.1
theorem Sh_rxLead {W : Int32} {o : Ob} {x : List Int32} (h : Sh W o) (hx : x.length = 4) : Sh W (s_rxLead o x) := by
  dsimp only [Sh, f_srcPayload, f_pend, f_queue, f_stats, f_state, f_timer, f_rxVal, f_rxNext, f_rxLead, f_rxTrail, f_lossLeft, f_dups, f_drops, f_delSeq, f_delVal, f_delLen, f_lostLog, f_lostLen, f_nakBuf, f_win, s_rxLead] at h ⊢
  exact ⟨h.1, h.2.1, h.2.2.1, h.2.2.2.1, h.2.2.2.2.1, h.2.2.2.2.2.1, h.2.2.2.2.2.2.1, h.2.2.2.2.2.2.2.1, hx, h.2.2.2.2.2.2.2.2.2.1, h.2.2.2.2.2.2.2.2.2.2.1, h.2.2.2.2.2.2.2.2.2.2.2.1, h.2.2.2.2.2.2.2.2.2.2.2.2.1, h.2.2.2.2.2.2.2.2.2.2.2.2.2.1, h.2.2.2.2.2.2.2.2.2.2.2.2.2.2.1, h.2.2.2.2.2.2.2.2.2.2.2.2.2.2.2.1, h.2.2.2.2.2.2.2.2.2.2.2.2.2.2.2.2.1, h.2.2.2.2.2.2.2.2.2.2.2.2.2.2.2.2.2.1, h.2.2.2.2.2.2.2.2.2.2.2.2.2.2.2.2.2.2.1, h.2.2.2.2.2.2.2.2.2.2.2.2.2.2.2.2.2.2.2⟩
theorem Sh_l_rxLead {W : Int32} {o : Ob} (h : Sh W o) : (f_rxLead o).length = 4 := h.2.2.2.2.2.2.2.2.1
theorem Sh_rxTrail {W : Int32} {o : Ob} {x : List Int32} (h : Sh W o) (hx : x.length = 4) : Sh W (s_rxTrail o x) := by
  dsimp only [Sh, f_srcPayload, f_pend, f_queue, f_stats, f_state, f_timer, f_rxVal, f_rxNext, f_rxLead, f_rxTrail, f_lossLeft, f_dups, f_drops, f_delSeq, f_delVal, f_delLen, f_lostLog, f_lostLen, f_nakBuf, f_win, s_rxTrail] at h ⊢
  exact ⟨h.1, h.2.1, h.2.2.1, h.2.2.2.1, h.2.2.2.2.1, h.2.2.2.2.2.1, h.2.2.2.2.2.2.1, h.2.2.2.2.2.2.2.1, h.2.2.2.2.2.2.2.2.1, hx, h.2.2.2.2.2.2.2.2.2.2.1, h.2.2.2.2.2.2.2.2.2.2.2.1, h.2.2.2.2.2.2.2.2.2.2.2.2.1, h.2.2.2.2.2.2.2.2.2.2.2.2.2.1, h.2.2.2.2.2.2.2.2.2.2.2.2.2.2.1, h.2.2.2.2.2.2.2.2.2.2.2.2.2.2.2.1, h.2.2.2.2.2.2.2.2.2.2.2.2.2.2.2.2.1, h.2.2.2.2.2.2.2.2.2.2.2.2.2.2.2.2.2.1, h.2.2.2.2.2.2.2.2.2.2.2.2.2.2.2.2.2.2.1, h.2.2.2.2.2.2.2.2.2.2.2.2.2.2.2.2.2.2.2⟩
theorem Sh_l_rxTrail {W : Int32} {o : Ob} (h : Sh W o) : (f_rxTrail o).length = 4 := h.2.2.2.2.2.2.2.2.2.1
theorem Sh_lossLeft {W : Int32} {o : Ob} {x : List Int32} (h : Sh W o) (hx : x.length = 4) : Sh W (s_lossLeft o x) := by
  dsimp only [Sh, f_srcPayload, f_pend, f_queue, f_stats, f_state, f_timer, f_rxVal, f_rxNext, f_rxLead, f_rxTrail, f_lossLeft, f_dups, f_drops, f_delSeq, f_delVal, f_delLen, f_lostLog, f_lostLen, f_nakBuf, f_win, s_lossLeft] at h ⊢
  exact ⟨h.1, h.2.1, h.2.2.1, h.2.2.2.1, h.2.2.2.2.1, h.2.2.2.2.2.1, h.2.2.2.2.2.2.1, h.2.2.2.2.2.2.2.1, h.2.2.2.2.2.2.2.2.1, h.2.2.2.2.2.2.2.2.2.1, hx, h.2.2.2.2.2.2.2.2.2.2.2.1, h.2.2.2.2.2.2.2.2.2.2.2.2.1, h.2.2.2.2.2.2.2.2.2.2.2.2.2.1, h.2.2.2.2.2.2.2.2.2.2.2.2.2.2.1, h.2.2.2.2.2.2.2.2.2.2.2.2.2.2.2.1, h.2.2.2.2.2.2.2.2.2.2.2.2.2.2.2.2.1, h.2.2.2.2.2.2.2.2.2.2.2.2.2.2.2.2.2.1, h.2.2.2.2.2.2.2.2.2.2.2.2.2.2.2.2.2.2.1, h.2.2.2.2.2.2.2.2.2.2.2.2.2.2.2.2.2.2.2⟩
theorem Sh_l_lossLeft {W : Int32} {o : Ob} (h : Sh W o) : (f_lossLeft o).length = 4 := h.2.2.2.2.2.2.2.2.2.2.1
theorem Sh_dups {W : Int32} {o : Ob} {x : List Int32} (h : Sh W o) (hx : x.length = 4) : Sh W (s_dups o x) := by
  dsimp only [Sh, f_srcPayload, f_pend, f_queue, f_stats, f_state, f_timer, f_rxVal, f_rxNext, f_rxLead, f_rxTrail, f_lossLeft, f_dups, f_drops, f_delSeq, f_delVal, f_delLen, f_lostLog, f_lostLen, f_nakBuf, f_win, s_dups] at h ⊢
  exact ⟨h.1, h.2.1, h.2.2.1, h.2.2.2.1, h.2.2.2.2.1, h.2.2.2.2.2.1, h.2.2.2.2.2.2.1, h.2.2.2.2.2.2.2.1, h.2.2.2.2.2.2.2.2.1, h.2.2.2.2.2.2.2.2.2.1, h.2.2.2.2.2.2.2.2.2.2.1, hx, h.2.2.2.2.2.2.2.2.2.2.2.2.1, h.2.2.2.2.2.2.2.2.2.2.2.2.2.1, h.2.2.2.2.2.2.2.2.2.2.2.2.2.2.1, h.2.2.2.2.2.2.2.2.2.2.2.2.2.2.2.1, h.2.2.2.2.2.2.2.2.2.2.2.2.2.2.2.2.1, h.2.2.2.2.2.2.2.2.2.2.2.2.2.2.2.2.2.1, h.2.2.2.2.2.2.2.2.2.2.2.2.2.2.2.2.2.2.1, h.2.2.2.2.2.2.2.2.2.2.2.2.2.2.2.2.2.2.2⟩
theorem Sh_l_dups {W : Int32} {o : Ob} (h : Sh W o) : (f_dups o).length = 4 := h.2.2.2.2.2.2.2.2.2.2.2.1
theorem Sh_drops {W : Int32} {o : Ob} {x : List Int32} (h : Sh W o) (hx : x.length = 4) : Sh W (s_drops o x) := by
  dsimp only [Sh, f_srcPayload, f_pend, f_queue, f_stats, f_state, f_timer, f_rxVal, f_rxNext, f_rxLead, f_rxTrail, f_lossLeft, f_dups, f_drops, f_delSeq, f_delVal, f_delLen, f_lostLog, f_lostLen, f_nakBuf, f_win, s_drops] at h ⊢
  exact ⟨h.1, h.2.1, h.2.2.1, h.2.2.2.1, h.2.2.2.2.1, h.2.2.2.2.2.1, h.2.2.2.2.2.2.1, h.2.2.2.2.2.2.2.1, h.2.2.2.2.2.2.2.2.1, h.2.2.2.2.2.2.2.2.2.1, h.2.2.2.2.2.2.2.2.2.2.1, h.2.2.2.2.2.2.2.2.2.2.2.1, hx, h.2.2.2.2.2.2.2.2.2.2.2.2.2.1, h.2.2.2.2.2.2.2.2.2.2.2.2.2.2.1, h.2.2.2.2.2.2.2.2.2.2.2.2.2.2.2.1, h.2.2.2.2.2.2.2.2.2.2.2.2.2.2.2.2.1, h.2.2.2.2.2.2.2.2.2.2.2.2.2.2.2.2.2.1, h.2.2.2.2.2.2.2.2.2.2.2.2.2.2.2.2.2.2.1, h.2.2.2.2.2.2.2.2.2.2.2.2.2.2.2.2.2.2.2⟩
theorem Sh_l_drops {W : Int32} {o : Ob} (h : Sh W o) : (f_drops o).length = 4 := h.2.2.2.2.2.2.2.2.2.2.2.2.1
theorem Sh_delSeq {W : Int32} {o : Ob} {x : List Int32} (h : Sh W o) (hx : x.length = 128) : Sh W (s_delSeq o x) := by
  dsimp only [Sh, f_srcPayload, f_pend, f_queue, f_stats, f_state, f_timer, f_rxVal, f_rxNext, f_rxLead, f_rxTrail, f_lossLeft, f_dups, f_drops, f_delSeq, f_delVal, f_delLen, f_lostLog, f_lostLen, f_nakBuf, f_win, s_delSeq] at h ⊢
  exact ⟨h.1, h.2.1, h.2.2.1, h.2.2.2.1, h.2.2.2.2.1, h.2.2.2.2.2.1, h.2.2.2.2.2.2.1, h.2.2.2.2.2.2.2.1, h.2.2.2.2.2.2.2.2.1, h.2.2.2.2.2.2.2.2.2.1, h.2.2.2.2.2.2.2.2.2.2.1, h.2.2.2.2.2.2.2.2.2.2.2.1, h.2.2.2.2.2.2.2.2.2.2.2.2.1, hx, h.2.2.2.2.2.2.2.2.2.2.2.2.2.2.1, h.2.2.2.2.2.2.2.2.2.2.2.2.2.2.2.1, h.2.2.2.2.2.2.2.2.2.2.2.2.2.2.2.2.1, h.2.2.2.2.2.2.2.2.2.2.2.2.2.2.2.2.2.1, h.2.2.2.2.2.2.2.2.2.2.2.2.2.2.2.2.2.2.1, h.2.2.2.2.2.2.2.2.2.2.2.2.2.2.2.2.2.2.2⟩
theorem Sh_l_delSeq {W : Int32} {o : Ob} (h : Sh W o) : (f_delSeq o).length = 128 := h.2.2.2.2.2.2.2.2.2.2.2.2.2.1
theorem Sh_delVal {W : Int32} {o : Ob} {x : List Int32} (h : Sh W o) (hx : x.length = 128) : Sh W (s_delVal o x) := by
  dsimp only [Sh, f_srcPayload, f_pend, f_queue, f_stats, f_state, f_timer, f_rxVal, f_rxNext, f_rxLead, f_rxTrail, f_lossLeft, f_dups, f_drops, f_delSeq, f_delVal, f_delLen, f_lostLog, f_lostLen, f_nakBuf, f_win, s_delVal] at h ⊢
  exact ⟨h.1, h.2.1, h.2.2.1, h.2.2.2.1, h.2.2.2.2.1, h.2.2.2.2.2.1, h.2.2.2.2.2.2.1, h.2.2.2.2.2.2.2.1, h.2.2.2.2.2.2.2.2.1, h.2.2.2.2.2.2.2.2.2.1, h.2.2.2.2.2.2.2.2.2.2.1, h.2.2.2.2.2.2.2.2.2.2.2.1, h.2.2.2.2.2.2.2.2.2.2.2.2.1, h.2.2.2.2.2.2.2.2.2.2.2.2.2.1, hx, h.2.2.2.2.2.2.2.2.2.2.2.2.2.2.2.1, h.2.2.2.2.2.2.2.2.2.2.2.2.2.2.2.2.1, h.2.2.2.2.2.2.2.2.2.2.2.2.2.2.2.2.2.1, h.2.2.2.2.2.2.2.2.2.2.2.2.2.2.2.2.2.2.1, h.2.2.2.2.2.2.2.2.2.2.2.2.2.2.2.2.2.2.2⟩
theorem Sh_l_delVal {W : Int32} {o : Ob} (h : Sh W o) : (f_delVal o).length = 128 := h.2.2.2.2.2.2.2.2.2.2.2.2.2.2.1
theorem Sh_delLen {W : Int32} {o : Ob} {x : List Int32} (h : Sh W o) (hx : x.length = 4) : Sh W (s_delLen o x) := by
  dsimp only [Sh, f_srcPayload, f_pend, f_queue, f_stats, f_state, f_timer, f_rxVal, f_rxNext, f_rxLead, f_rxTrail, f_lossLeft, f_dups, f_drops, f_delSeq, f_delVal, f_delLen, f_lostLog, f_lostLen, f_nakBuf, f_win, s_delLen] at h ⊢
  exact ⟨h.1, h.2.1, h.2.2.1, h.2.2.2.1, h.2.2.2.2.1, h.2.2.2.2.2.1, h.2.2.2.2.2.2.1, h.2.2.2.2.2.2.2.1, h.2.2.2.2.2.2.2.2.1, h.2.2.2.2.2.2.2.2.2.1, h.2.2.2.2.2.2.2.2.2.2.1, h.2.2.2.2.2.2.2.2.2.2.2.1, h.2.2.2.2.2.2.2.2.2.2.2.2.1, h.2.2.2.2.2.2.2.2.2.2.2.2.2.1, h.2.2.2.2.2.2.2.2.2.2.2.2.2.2.1, hx, h.2.2.2.2.2.2.2.2.2.2.2.2.2.2.2.2.1, h.2.2.2.2.2.2.2.2.2.2.2.2.2.2.2.2.2.1, h.2.2.2.2.2.2.2.2.2.2.2.2.2.2.2.2.2.2.1, h.2.2.2.2.2.2.2.2.2.2.2.2.2.2.2.2.2.2.2⟩
theorem Sh_l_delLen {W : Int32} {o : Ob} (h : Sh W o) : (f_delLen o).length = 4 := h.2.2.2.2.2.2.2.2.2.2.2.2.2.2.2.1
theorem Sh_lostLog {W : Int32} {o : Ob} {x : List Int32} (h : Sh W o) (hx : x.length = 128) : Sh W (s_lostLog o x) := by
  dsimp only [Sh, f_srcPayload, f_pend, f_queue, f_stats, f_state, f_timer, f_rxVal, f_rxNext, f_rxLead, f_rxTrail, f_lossLeft, f_dups, f_drops, f_delSeq, f_delVal, f_delLen, f_lostLog, f_lostLen, f_nakBuf, f_win, s_lostLog] at h ⊢
  exact ⟨h.1, h.2.1, h.2.2.1, h.2.2.2.1, h.2.2.2.2.1, h.2.2.2.2.2.1, h.2.2.2.2.2.2.1, h.2.2.2.2.2.2.2.1, h.2.2.2.2.2.2.2.2.1, h.2.2.2.2.2.2.2.2.2.1, h.2.2.2.2.2.2.2.2.2.2.1, h.2.2.2.2.2.2.2.2.2.2.2.1, h.2.2.2.2.2.2.2.2.2.2.2.2.1, h.2.2.2.2.2.2.2.2.2.2.2.2.2.1, h.2.2.2.2.2.2.2.2.2.2.2.2.2.2.1, h.2.2.2.2.2.2.2.2.2.2.2.2.2.2.2.1, hx, h.2.2.2.2.2.2.2.2.2.2.2.2.2.2.2.2.2.1, h.2.2.2.2.2.2.2.2.2.2.2.2.2.2.2.2.2.2.1, h.2.2.2.2.2.2.2.2.2.2.2.2.2.2.2.2.2.2.2⟩
theorem Sh_l_lostLog {W : Int32} {o : Ob} (h : Sh W o) : (f_lostLog o).length = 128 := h.2.2.2.2.2.2.2.2.2.2.2.2.2.2.2.2.1
theorem Sh_lostLen {W : Int32} {o : Ob} {x : List Int32} (h : Sh W o) (hx : x.length = 4) : Sh W (s_lostLen o x) := by
  dsimp only [Sh, f_srcPayload, f_pend, f_queue, f_stats, f_state, f_timer, f_rxVal, f_rxNext, f_rxLead, f_rxTrail, f_lossLeft, f_dups, f_drops, f_delSeq, f_delVal, f_delLen, f_lostLog, f_lostLen, f_nakBuf, f_win, s_lostLen] at h ⊢
  exact ⟨h.1, h.2.1, h.2.2.1, h.2.2.2.1, h.2.2.2.2.1, h.2.2.2.2.2.1, h.2.2.2.2.2.2.1, h.2.2.2.2.2.2.2.1, h.2.2.2.2.2.2.2.2.1, h.2.2.2.2.2.2.2.2.2.1, h.2.2.2.2.2.2.2.2.2.2.1, h.2.2.2.2.2.2.2.2.2.2.2.1, h.2.2.2.2.2.2.2.2.2.2.2.2.1, h.2.2.2.2.2.2.2.2.2.2.2.2.2.1, h.2.2.2.2.2.2.2.2.2.2.2.2.2.2.1, h.2.2.2.2.2.2.2.2.2.2.2.2.2.2.2.1, h.2.2.2.2.2.2.2.2.2.2.2.2.2.2.2.2.1, hx, h.2.2.2.2.2.2.2.2.2.2.2.2.2.2.2.2.2.2.1, h.2.2.2.2.2.2.2.2.2.2.2.2.2.2.2.2.2.2.2⟩
theorem Sh_l_lostLen {W : Int32} {o : Ob} (h : Sh W o) : (f_lostLen o).length = 4 := h.2.2.2.2.2.2.2.2.2.2.2.2.2.2.2.2.2.1
theorem Sh_nakBuf {W : Int32} {o : Ob} {x : List Int32} (h : Sh W o) (hx : x.length = 128) : Sh W (s_nakBuf o x) := by
  dsimp only [Sh, f_srcPayload, f_pend, f_queue, f_stats, f_state, f_timer, f_rxVal, f_rxNext, f_rxLead, f_rxTrail, f_lossLeft, f_dups, f_drops, f_delSeq, f_delVal, f_delLen, f_lostLog, f_lostLen, f_nakBuf, f_win, s_nakBuf] at h ⊢
  exact ⟨h.1, h.2.1, h.2.2.1, h.2.2.2.1, h.2.2.2.2.1, h.2.2.2.2.2.1, h.2.2.2.2.2.2.1, h.2.2.2.2.2.2.2.1, h.2.2.2.2.2.2.2.2.1, h.2.2.2.2.2.2.2.2.2.1, h.2.2.2.2.2.2.2.2.2.2.1, h.2.2.2.2.2.2.2.2.2.2.2.1, h.2.2.2.2.2.2.2.2.2.2.2.2.1, h.2.2.2.2.2.2.2.2.2.2.2.2.2.1, h.2.2.2.2.2.2.2.2.2.2.2.2.2.2.1, h.2.2.2.2.2.2.2.2.2.2.2.2.2.2.2.1, h.2.2.2.2.2.2.2.2.2.2.2.2.2.2.2.2.1, h.2.2.2.2.2.2.2.2.2.2.2.2.2.2.2.2.2.1, hx, h.2.2.2.2.2.2.2.2.2.2.2.2.2.2.2.2.2.2.2⟩
theorem Sh_l_nakBuf {W : Int32} {o : Ob} (h : Sh W o) : (f_nakBuf o).length = 128 := h.2.2.2.2.2.2.2.2.2.2.2.2.2.2.2.2.2.2.1
theorem Sh_back {W : Int32} {o : Ob} {x : Int32} (h : Sh W o) : Sh W (s_back o x) := by
  dsimp only [Sh, f_srcPayload, f_pend, f_queue, f_stats, f_state, f_timer, f_rxVal, f_rxNext, f_rxLead, f_rxTrail, f_lossLeft, f_dups, f_drops, f_delSeq, f_delVal, f_delLen, f_lostLog, f_lostLen, f_nakBuf, f_win, s_back] at h ⊢
  exact h
theorem Sh_repair {W : Int32} {o : Ob} {x : Int32} (h : Sh W o) : Sh W (s_repair o x) := by
  dsimp only [Sh, f_srcPayload, f_pend, f_queue, f_stats, f_state, f_timer, f_rxVal, f_rxNext, f_rxLead, f_rxTrail, f_lossLeft, f_dups, f_drops, f_delSeq, f_delVal, f_delLen, f_lostLog, f_lostLen, f_nakBuf, f_win, s_repair] at h ⊢
  exact h
theorem Sh_period {W : Int32} {o : Ob} {x : Int32} (h : Sh W o) : Sh W (s_period o x) := by
  dsimp only [Sh, f_srcPayload, f_pend, f_queue, f_stats, f_state, f_timer, f_rxVal, f_rxNext, f_rxLead, f_rxTrail, f_lossLeft, f_dups, f_drops, f_delSeq, f_delVal, f_delLen, f_lostLog, f_lostLen, f_nakBuf, f_win, s_period] at h ⊢
  exact h
theorem Sh_nextSeq {W : Int32} {o : Ob} {x : Int32} (h : Sh W o) : Sh W (s_nextSeq o x) := by
  dsimp only [Sh, f_srcPayload, f_pend, f_queue, f_stats, f_state, f_timer, f_rxVal, f_rxNext, f_rxLead, f_rxTrail, f_lossLeft, f_dups, f_drops, f_delSeq, f_delVal, f_delLen, f_lostLog, f_lostLen, f_nakBuf, f_win, s_nextSeq] at h ⊢
  exact h
theorem Sh_qLen {W : Int32} {o : Ob} {x : Int32} (h : Sh W o) : Sh W (s_qLen o x) := by
  dsimp only [Sh, f_srcPayload, f_pend, f_queue, f_stats, f_state, f_timer, f_rxVal, f_rxNext, f_rxLead, f_rxTrail, f_lossLeft, f_dups, f_drops, f_delSeq, f_delVal, f_delLen, f_lostLog, f_lostLen, f_nakBuf, f_win, s_qLen] at h ⊢
  exact h
theorem gs_srcPayload (o : Ob) (v : List Int32) : f_srcPayload (s_srcPayload o v) = v ∧ f_pend (s_srcPayload o v) = f_pend o ∧ f_queue (s_srcPayload o v) = f_queue o ∧ f_stats (s_srcPayload o v) = f_stats o ∧ f_state (s_srcPayload o v) = f_state o ∧ f_timer (s_srcPayload o v) = f_timer o ∧ f_rxVal (s_srcPayload o v) = f_rxVal o ∧ f_rxNext (s_srcPayload o v) = f_rxNext o ∧ f_rxLead (s_srcPayload o v) = f_rxLead o ∧ f_rxTrail (s_srcPayload o v) = f_rxTrail o ∧ f_lossLeft (s_srcPayload o v) = f_lossLeft o ∧ f_dups (s_srcPayload o v) = f_dups o ∧ f_drops (s_srcPayload o v) = f_drops o ∧ f_delSeq (s_srcPayload o v) = f_delSeq o ∧ f_delVal (s_srcPayload o v) = f_delVal o ∧ f_delLen (s_srcPayload o v) = f_delLen o ∧ f_lostLog (s_srcPayload o v) = f_lostLog o ∧ f_lostLen (s_srcPayload o v) = f_lostLen o ∧ f_nakBuf (s_srcPayload o v) = f_nakBuf o ∧ f_win (s_srcPayload o v) = f_win o ∧ f_back (s_srcPayload o v) = f_back o ∧ f_repair (s_srcPayload o v) = f_repair o ∧ f_period (s_srcPayload o v) = f_period o ∧ f_nextSeq (s_srcPayload o v) = f_nextSeq o ∧ f_qLen (s_srcPayload o v) = f_qLen o := by
  simp only [f_srcPayload, f_pend, f_queue, f_stats, f_state, f_timer, f_rxVal, f_rxNext, f_rxLead, f_rxTrail, f_lossLeft, f_dups, f_drops, f_delSeq, f_delVal, f_delLen, f_lostLog, f_lostLen, f_nakBuf, f_win, f_back, f_repair, f_period, f_nextSeq, f_qLen, s_srcPayload, and_self]
theorem gs_stats (o : Ob) (v : List Int32) : f_srcPayload (s_stats o v) = f_srcPayload o ∧ f_pend (s_stats o v) = f_pend o ∧ f_queue (s_stats o v) = f_queue o ∧ f_stats (s_stats o v) = v ∧ f_state (s_stats o v) = f_state o ∧ f_timer (s_stats o v) = f_timer o ∧ f_rxVal (s_stats o v) = f_rxVal o ∧ f_rxNext (s_stats o v) = f_rxNext o ∧ f_rxLead (s_stats o v) = f_rxLead o ∧ f_rxTrail (s_stats o v) = f_rxTrail o ∧ f_lossLeft (s_stats o v) = f_lossLeft o ∧ f_dups (s_stats o v) = f_dups o ∧ f_drops (s_stats o v) = f_drops o ∧ f_delSeq (s_stats o v) = f_delSeq o ∧ f_delVal (s_stats o v) = f_delVal o ∧ f_delLen (s_stats o v) = f_delLen o ∧ f_lostLog (s_stats o v) = f_lostLog o ∧ f_lostLen (s_stats o v) = f_lostLen o ∧ f_nakBuf (s_stats o v) = f_nakBuf o ∧ f_win (s_stats o v) = f_win o ∧ f_back (s_stats o v) = f_back o ∧ f_repair (s_stats o v) = f_repair o ∧ f_period (s_stats o v) = f_period o ∧ f_nextSeq (s_stats o v) = f_nextSeq o ∧ f_qLen (s_stats o v) = f_qLen o := by
  simp only [f_srcPayload, f_pend, f_queue, f_stats, f_state, f_timer, f_rxVal, f_rxNext, f_rxLead, f_rxTrail, f_lossLeft, f_dups, f_drops, f_delSeq, f_delVal, f_delLen, f_lostLog, f_lostLen, f_nakBuf, f_win, f_back, f_repair, f_period, f_nextSeq, f_qLen, s_stats, and_self]
theorem gs_state (o : Ob) (v : List Int32) : f_srcPayload (s_state o v) = f_srcPayload o ∧ f_pend (s_state o v) = f_pend o ∧ f_queue (s_state o v) = f_queue o ∧ f_stats (s_state o v) = f_stats o ∧ f_state (s_state o v) = v ∧ f_timer (s_state o v) = f_timer o ∧ f_rxVal (s_state o v) = f_rxVal o ∧ f_rxNext (s_state o v) = f_rxNext o ∧ f_rxLead (s_state o v) = f_rxLead o ∧ f_rxTrail (s_state o v) = f_rxTrail o ∧ f_lossLeft (s_state o v) = f_lossLeft o ∧ f_dups (s_state o v) = f_dups o ∧ f_drops (s_state o v) = f_drops o ∧ f_delSeq (s_state o v) = f_delSeq o ∧ f_delVal (s_state o v) = f_delVal o ∧ f_delLen (s_state o v) = f_delLen o ∧ f_lostLog (s_state o v) = f_lostLog o ∧ f_lostLen (s_state o v) = f_lostLen o ∧ f_nakBuf (s_state o v) = f_nakBuf o ∧ f_win (s_state o v) = f_win o ∧ f_back (s_state o v) = f_back o ∧ f_repair (s_state o v) = f_repair o ∧ f_period (s_state o v) = f_period o ∧ f_nextSeq (s_state o v) = f_nextSeq o ∧ f_qLen (s_state o v) = f_qLen o := by
  simp only [f_srcPayload, f_pend, f_queue, f_stats, f_state, f_timer, f_rxVal, f_rxNext, f_rxLead, f_rxTrail, f_lossLeft, f_dups, f_drops, f_delSeq, f_delVal, f_delLen, f_lostLog, f_lostLen, f_nakBuf, f_win, f_back, f_repair, f_period, f_nextSeq, f_qLen, s_state, and_self]
theorem gs_timer (o : Ob) (v : List Int32) : f_srcPayload (s_timer o v) = f_srcPayload o ∧ f_pend (s_timer o v) = f_pend o ∧ f_queue (s_timer o v) = f_queue o ∧ f_stats (s_timer o v) = f_stats o ∧ f_state (s_timer o v) = f_state o ∧ f_timer (s_timer o v) = v ∧ f_rxVal (s_timer o v) = f_rxVal o ∧ f_rxNext (s_timer o v) = f_rxNext o ∧ f_rxLead (s_timer o v) = f_rxLead o ∧ f_rxTrail (s_timer o v) = f_rxTrail o ∧ f_lossLeft (s_timer o v) = f_lossLeft o ∧ f_dups (s_timer o v) = f_dups o ∧ f_drops (s_timer o v) = f_drops o ∧ f_delSeq (s_timer o v) = f_delSeq o ∧ f_delVal (s_timer o v) = f_delVal o ∧ f_delLen (s_timer o v) = f_delLen o ∧ f_lostLog (s_timer o v) = f_lostLog o ∧ f_lostLen (s_timer o v) = f_lostLen o ∧ f_nakBuf (s_timer o v) = f_nakBuf o ∧ f_win (s_timer o v) = f_win o ∧ f_back (s_timer o v) = f_back o ∧ f_repair (s_timer o v) = f_repair o ∧ f_period (s_timer o v) = f_period o ∧ f_nextSeq (s_timer o v) = f_nextSeq o ∧ f_qLen (s_timer o v) = f_qLen o := by
  simp only [f_srcPayload, f_pend, f_queue, f_stats, f_state, f_timer, f_rxVal, f_rxNext, f_rxLead, f_rxTrail, f_lossLeft, f_dups, f_drops, f_delSeq, f_delVal, f_delLen, f_lostLog, f_lostLen, f_nakBuf, f_win, f_back, f_repair, f_period, f_nextSeq, f_qLen, s_timer, and_self]
theorem gs_rxVal (o : Ob) (v : List Int32) : f_srcPayload (s_rxVal o v) = f_srcPayload o ∧ f_pend (s_rxVal o v) = f_pend o ∧ f_queue (s_rxVal o v) = f_queue o ∧ f_stats (s_rxVal o v) = f_stats o ∧ f_state (s_rxVal o v) = f_state o ∧ f_timer (s_rxVal o v) = f_timer o ∧ f_rxVal (s_rxVal o v) = v ∧ f_rxNext (s_rxVal o v) = f_rxNext o ∧ f_rxLead (s_rxVal o v) = f_rxLead o ∧ f_rxTrail (s_rxVal o v) = f_rxTrail o ∧ f_lossLeft (s_rxVal o v) = f_lossLeft o ∧ f_dups (s_rxVal o v) = f_dups o ∧ f_drops (s_rxVal o v) = f_drops o ∧ f_delSeq (s_rxVal o v) = f_delSeq o ∧ f_delVal (s_rxVal o v) = f_delVal o ∧ f_delLen (s_rxVal o v) = f_delLen o ∧ f_lostLog (s_rxVal o v) = f_lostLog o ∧ f_lostLen (s_rxVal o v) = f_lostLen o ∧ f_nakBuf (s_rxVal o v) = f_nakBuf o ∧ f_win (s_rxVal o v) = f_win o ∧ f_back (s_rxVal o v) = f_back o ∧ f_repair (s_rxVal o v) = f_repair o ∧ f_period (s_rxVal o v) = f_period o ∧ f_nextSeq (s_rxVal o v) = f_nextSeq o ∧ f_qLen (s_rxVal o v) = f_qLen o := by
  simp only [f_srcPayload, f_pend, f_queue, f_stats, f_state, f_timer, f_rxVal, f_rxNext, f_rxLead, f_rxTrail, f_lossLeft, f_dups, f_drops, f_delSeq, f_delVal, f_delLen, f_lostLog, f_lostLen, f_nakBuf, f_win, f_back, f_repair, f_period, f_nextSeq, f_qLen, s_rxVal, and_self]
theorem gs_rxNext (o : Ob) (v : List Int32) : f_srcPayload (s_rxNext o v) = f_srcPayload o ∧ f_pend (s_rxNext o v) = f_pend o ∧ f_queue (s_rxNext o v) = f_queue o ∧ f_stats (s_rxNext o v) = f_stats o ∧ f_state (s_rxNext o v) = f_state o ∧ f_timer (s_rxNext o v) = f_timer o ∧ f_rxVal (s_rxNext o v) = f_rxVal o ∧ f_rxNext (s_rxNext o v) = v ∧ f_rxLead (s_rxNext o v) = f_rxLead o ∧ f_rxTrail (s_rxNext o v) = f_rxTrail o ∧ f_lossLeft (s_rxNext o v) = f_lossLeft o ∧ f_dups (s_rxNext o v) = f_dups o ∧ f_drops (s_rxNext o v) = f_drops o ∧ f_delSeq (s_rxNext o v) = f_delSeq o ∧ f_delVal (s_rxNext o v) = f_delVal o ∧ f_delLen (s_rxNext o v) = f_delLen o ∧ f_lostLog (s_rxNext o v) = f_lostLog o ∧ f_lostLen (s_rxNext o v) = f_lostLen o ∧ f_nakBuf (s_rxNext o v) = f_nakBuf o ∧ f_win (s_rxNext o v) = f_win o ∧ f_back (s_rxNext o v) = f_back o ∧ f_repair (s_rxNext o v) = f_repair o ∧ f_period (s_rxNext o v) = f_period o ∧ f_nextSeq (s_rxNext o v) = f_nextSeq o ∧ f_qLen (s_rxNext o v) = f_qLen o := by
  simp only [f_srcPayload, f_pend, f_queue, f_stats, f_state, f_timer, f_rxVal, f_rxNext, f_rxLead, f_rxTrail, f_lossLeft, f_dups, f_drops, f_delSeq, f_delVal, f_delLen, f_lostLog, f_lostLen, f_nakBuf, f_win, f_back, f_repair, f_period, f_nextSeq, f_qLen, s_rxNext, and_self]
theorem gs_rxLead (o : Ob) (v : List Int32) : f_srcPayload (s_rxLead o v) = f_srcPayload o ∧ f_pend (s_rxLead o v) = f_pend o ∧ f_queue (s_rxLead o v) = f_queue o ∧ f_stats (s_rxLead o v) = f_stats o ∧ f_state (s_rxLead o v) = f_state o ∧ f_timer (s_rxLead o v) = f_timer o ∧ f_rxVal (s_rxLead o v) = f_rxVal o ∧ f_rxNext (s_rxLead o v) = f_rxNext o ∧ f_rxLead (s_rxLead o v) = v ∧ f_rxTrail (s_rxLead o v) = f_rxTrail o ∧ f_lossLeft (s_rxLead o v) = f_lossLeft o ∧ f_dups (s_rxLead o v) = f_dups o ∧ f_drops (s_rxLead o v) = f_drops o ∧ f_delSeq (s_rxLead o v) = f_delSeq o ∧ f_delVal (s_rxLead o v) = f_delVal o ∧ f_delLen (s_rxLead o v) = f_delLen o ∧ f_lostLog (s_rxLead o v) = f_lostLog o ∧ f_lostLen (s_rxLead o v) = f_lostLen o ∧ f_nakBuf (s_rxLead o v) = f_nakBuf o ∧ f_win (s_rxLead o v) = f_win o ∧ f_back (s_rxLead o v) = f_back o ∧ f_repair (s_rxLead o v) = f_repair o ∧ f_period (s_rxLead o v) = f_period o ∧ f_nextSeq (s_rxLead o v) = f_nextSeq o ∧ f_qLen (s_rxLead o v) = f_qLen o := by
  simp only [f_srcPayload, f_pend, f_queue, f_stats, f_state, f_timer, f_rxVal, f_rxNext, f_rxLead, f_rxTrail, f_lossLeft, f_dups, f_drops, f_delSeq, f_delVal, f_delLen, f_lostLog, f_lostLen, f_nakBuf, f_win, f_back, f_repair, f_period, f_nextSeq, f_qLen, s_rxLead, and_self]
theorem gs_lossLeft (o : Ob) (v : List Int32) : f_srcPayload (s_lossLeft o v) = f_srcPayload o ∧ f_pend (s_lossLeft o v) = f_pend o ∧ f_queue (s_lossLeft o v) = f_queue o ∧ f_stats (s_lossLeft o v) = f_stats o ∧ f_state (s_lossLeft o v) = f_state o ∧ f_timer (s_lossLeft o v) = f_timer o ∧ f_rxVal (s_lossLeft o v) = f_rxVal o ∧ f_rxNext (s_lossLeft o v) = f_rxNext o ∧ f_rxLead (s_lossLeft o v) = f_rxLead o ∧ f_rxTrail (s_lossLeft o v) = f_rxTrail o ∧ f_lossLeft (s_lossLeft o v) = v ∧ f_dups (s_lossLeft o v) = f_dups o ∧ f_drops (s_lossLeft o v) = f_drops o ∧ f_delSeq (s_lossLeft o v) = f_delSeq o ∧ f_delVal (s_lossLeft o v) = f_delVal o ∧ f_delLen (s_lossLeft o v) = f_delLen o ∧ f_lostLog (s_lossLeft o v) = f_lostLog o ∧ f_lostLen (s_lossLeft o v) = f_lostLen o ∧ f_nakBuf (s_lossLeft o v) = f_nakBuf o ∧ f_win (s_lossLeft o v) = f_win o ∧ f_back (s_lossLeft o v) = f_back o ∧ f_repair (s_lossLeft o v) = f_repair o ∧ f_period (s_lossLeft o v) = f_period o ∧ f_nextSeq (s_lossLeft o v) = f_nextSeq o ∧ f_qLen (s_lossLeft o v) = f_qLen o := by
  simp only [f_srcPayload, f_pend, f_queue, f_stats, f_state, f_timer, f_rxVal, f_rxNext, f_rxLead, f_rxTrail, f_lossLeft, f_dups, f_drops, f_delSeq, f_delVal, f_delLen, f_lostLog, f_lostLen, f_nakBuf, f_win, f_back, f_repair, f_period, f_nextSeq, f_qLen, s_lossLeft, and_self]
theorem gs_drops (o : Ob) (v : List Int32) : f_srcPayload (s_drops o v) = f_srcPayload o ∧ f_pend (s_drops o v) = f_pend o ∧ f_queue (s_drops o v) = f_queue o ∧ f_stats (s_drops o v) = f_stats o ∧ f_state (s_drops o v) = f_state o ∧ f_timer (s_drops o v) = f_timer o ∧ f_rxVal (s_drops o v) = f_rxVal o ∧ f_rxNext (s_drops o v) = f_rxNext o ∧ f_rxLead (s_drops o v) = f_rxLead o ∧ f_rxTrail (s_drops o v) = f_rxTrail o ∧ f_lossLeft (s_drops o v) = f_lossLeft o ∧ f_dups (s_drops o v) = f_dups o ∧ f_drops (s_drops o v) = v ∧ f_delSeq (s_drops o v) = f_delSeq o ∧ f_delVal (s_drops o v) = f_delVal o ∧ f_delLen (s_drops o v) = f_delLen o ∧ f_lostLog (s_drops o v) = f_lostLog o ∧ f_lostLen (s_drops o v) = f_lostLen o ∧ f_nakBuf (s_drops o v) = f_nakBuf o ∧ f_win (s_drops o v) = f_win o ∧ f_back (s_drops o v) = f_back o ∧ f_repair (s_drops o v) = f_repair o ∧ f_period (s_drops o v) = f_period o ∧ f_nextSeq (s_drops o v) = f_nextSeq o ∧ f_qLen (s_drops o v) = f_qLen o := by
  simp only [f_srcPayload, f_pend, f_queue, f_stats, f_state, f_timer, f_rxVal, f_rxNext, f_rxLead, f_rxTrail, f_lossLeft, f_dups, f_drops, f_delSeq, f_delVal, f_delLen, f_lostLog, f_lostLen, f_nakBuf, f_win, f_back, f_repair, f_period, f_nextSeq, f_qLen, s_drops, and_self]
theorem gs_delSeq (o : Ob) (v : List Int32) : f_srcPayload (s_delSeq o v) = f_srcPayload o ∧ f_pend (s_delSeq o v) = f_pend o ∧ f_queue (s_delSeq o v) = f_queue o ∧ f_stats (s_delSeq o v) = f_stats o ∧ f_state (s_delSeq o v) = f_state o ∧ f_timer (s_delSeq o v) = f_timer o ∧ f_rxVal (s_delSeq o v) = f_rxVal o ∧ f_rxNext (s_delSeq o v) = f_rxNext o ∧ f_rxLead (s_delSeq o v) = f_rxLead o ∧ f_rxTrail (s_delSeq o v) = f_rxTrail o ∧ f_lossLeft (s_delSeq o v) = f_lossLeft o ∧ f_dups (s_delSeq o v) = f_dups o ∧ f_drops (s_delSeq o v) = f_drops o ∧ f_delSeq (s_delSeq o v) = v ∧ f_delVal (s_delSeq o v) = f_delVal o ∧ f_delLen (s_delSeq o v) = f_delLen o ∧ f_lostLog (s_delSeq o v) = f_lostLog o ∧ f_lostLen (s_delSeq o v) = f_lostLen o ∧ f_nakBuf (s_delSeq o v) = f_nakBuf o ∧ f_win (s_delSeq o v) = f_win o ∧ f_back (s_delSeq o v) = f_back o ∧ f_repair (s_delSeq o v) = f_repair o ∧ f_period (s_delSeq o v) = f_period o ∧ f_nextSeq (s_delSeq o v) = f_nextSeq o ∧ f_qLen (s_delSeq o v) = f_qLen o := by
  simp only [f_srcPayload, f_pend, f_queue, f_stats, f_state, f_timer, f_rxVal, f_rxNext, f_rxLead, f_rxTrail, f_lossLeft, f_dups, f_drops, f_delSeq, f_delVal, f_delLen, f_lostLog, f_lostLen, f_nakBuf, f_win, f_back, f_repair, f_period, f_nextSeq, f_qLen, s_delSeq, and_self]
theorem gs_delVal (o : Ob) (v : List Int32) : f_srcPayload (s_delVal o v) = f_srcPayload o ∧ f_pend (s_delVal o v) = f_pend o ∧ f_queue (s_delVal o v) = f_queue o ∧ f_stats (s_delVal o v) = f_stats o ∧ f_state (s_delVal o v) = f_state o ∧ f_timer (s_delVal o v) = f_timer o ∧ f_rxVal (s_delVal o v) = f_rxVal o ∧ f_rxNext (s_delVal o v) = f_rxNext o ∧ f_rxLead (s_delVal o v) = f_rxLead o ∧ f_rxTrail (s_delVal o v) = f_rxTrail o ∧ f_lossLeft (s_delVal o v) = f_lossLeft o ∧ f_dups (s_delVal o v) = f_dups o ∧ f_drops (s_delVal o v) = f_drops o ∧ f_delSeq (s_delVal o v) = f_delSeq o ∧ f_delVal (s_delVal o v) = v ∧ f_delLen (s_delVal o v) = f_delLen o ∧ f_lostLog (s_delVal o v) = f_lostLog o ∧ f_lostLen (s_delVal o v) = f_lostLen o ∧ f_nakBuf (s_delVal o v) = f_nakBuf o ∧ f_win (s_delVal o v) = f_win o ∧ f_back (s_delVal o v) = f_back o ∧ f_repair (s_delVal o v) = f_repair o ∧ f_period (s_delVal o v) = f_period o ∧ f_nextSeq (s_delVal o v) = f_nextSeq o ∧ f_qLen (s_delVal o v) = f_qLen o := by
  simp only [f_srcPayload, f_pend, f_queue, f_stats, f_state, f_timer, f_rxVal, f_rxNext, f_rxLead, f_rxTrail, f_lossLeft, f_dups, f_drops, f_delSeq, f_delVal, f_delLen, f_lostLog, f_lostLen, f_nakBuf, f_win, f_back, f_repair, f_period, f_nextSeq, f_qLen, s_delVal, and_self]
theorem gs_delLen (o : Ob) (v : List Int32) : f_srcPayload (s_delLen o v) = f_srcPayload o ∧ f_pend (s_delLen o v) = f_pend o ∧ f_queue (s_delLen o v) = f_queue o ∧ f_stats (s_delLen o v) = f_stats o ∧ f_state (s_delLen o v) = f_state o ∧ f_timer (s_delLen o v) = f_timer o ∧ f_rxVal (s_delLen o v) = f_rxVal o ∧ f_rxNext (s_delLen o v) = f_rxNext o ∧ f_rxLead (s_delLen o v) = f_rxLead o ∧ f_rxTrail (s_delLen o v) = f_rxTrail o ∧ f_lossLeft (s_delLen o v) = f_lossLeft o ∧ f_dups (s_delLen o v) = f_dups o ∧ f_drops (s_delLen o v) = f_drops o ∧ f_delSeq (s_delLen o v) = f_delSeq o ∧ f_delVal (s_delLen o v) = f_delVal o ∧ f_delLen (s_delLen o v) = v ∧ f_lostLog (s_delLen o v) = f_lostLog o ∧ f_lostLen (s_delLen o v) = f_lostLen o ∧ f_nakBuf (s_delLen o v) = f_nakBuf o ∧ f_win (s_delLen o v) = f_win o ∧ f_back (s_delLen o v) = f_back o ∧ f_repair (s_delLen o v) = f_repair o ∧ f_period (s_delLen o v) = f_period o ∧ f_nextSeq (s_delLen o v) = f_nextSeq o ∧ f_qLen (s_delLen o v) = f_qLen o := by
  simp only [f_srcPayload, f_pend, f_queue, f_stats, f_state, f_timer, f_rxVal, f_rxNext, f_rxLead, f_rxTrail, f_lossLeft, f_dups, f_drops, f_delSeq, f_delVal, f_delLen, f_lostLog, f_lostLen, f_nakBuf, f_win, f_back, f_repair, f_period, f_nextSeq, f_qLen, s_delLen, and_self]
theorem gs_nextSeq (o : Ob) (v : Int32) : f_srcPayload (s_nextSeq o v) = f_srcPayload o ∧ f_pend (s_nextSeq o v) = f_pend o ∧ f_queue (s_nextSeq o v) = f_queue o ∧ f_stats (s_nextSeq o v) = f_stats o ∧ f_state (s_nextSeq o v) = f_state o ∧ f_timer (s_nextSeq o v) = f_timer o ∧ f_rxVal (s_nextSeq o v) = f_rxVal o ∧ f_rxNext (s_nextSeq o v) = f_rxNext o ∧ f_rxLead (s_nextSeq o v) = f_rxLead o ∧ f_rxTrail (s_nextSeq o v) = f_rxTrail o ∧ f_lossLeft (s_nextSeq o v) = f_lossLeft o ∧ f_dups (s_nextSeq o v) = f_dups o ∧ f_drops (s_nextSeq o v) = f_drops o ∧ f_delSeq (s_nextSeq o v) = f_delSeq o ∧ f_delVal (s_nextSeq o v) = f_delVal o ∧ f_delLen (s_nextSeq o v) = f_delLen o ∧ f_lostLog (s_nextSeq o v) = f_lostLog o ∧ f_lostLen (s_nextSeq o v) = f_lostLen o ∧ f_nakBuf (s_nextSeq o v) = f_nakBuf o ∧ f_win (s_nextSeq o v) = f_win o ∧ f_back (s_nextSeq o v) = f_back o ∧ f_repair (s_nextSeq o v) = f_repair o ∧ f_period (s_nextSeq o v) = f_period o ∧ f_nextSeq (s_nextSeq o v) = v ∧ f_qLen (s_nextSeq o v) = f_qLen o := by
  simp only [f_srcPayload, f_pend, f_queue, f_stats, f_state, f_timer, f_rxVal, f_rxNext, f_rxLead, f_rxTrail, f_lossLeft, f_dups, f_drops, f_delSeq, f_delVal, f_delLen, f_lostLog, f_lostLen, f_nakBuf, f_win, f_back, f_repair, f_period, f_nextSeq, f_qLen, s_nextSeq, and_self]
theorem inc1 {x : Int32} (h : x.toInt < 2147483647) : (x + 1).toInt = x.toInt + 1 := by
  have := i_lo x
  have e1 : (1 : Int32).toInt = 1 := rfl
  rw [i_add (by omega) (by omega), e1]
def gd (l : List Int32) (k : Nat) : Int := (l.getD k 0).toInt
theorem gd_set {l : List Int32} {i k : Nat} {v : Int32} (hi : i < l.length) : gd (l.set i v) k = if i = k then v.toInt else gd l k := by
  unfold gd
  rw [List.getD_eq_getElem?_getD, List.getD_eq_getElem?_getD, List.getElem?_set]
  by_cases h : i = k
  · rw [if_pos h, if_pos h, if_pos hi]; rfl
  · rw [if_neg h, if_neg h]
theorem gd_rep (n k : Nat) : gd (List.replicate n 0) k = 0 := by
  unfold gd
  rw [List.getD_eq_getElem?_getD, List.getElem?_replicate]
  split <;> rfl
theorem okP_agd {l : List Int32} {j : Int32} {n : Nat} {P : Int32 → Prop} (hj : j.toInt = n) (hn : n < l.length) (k : ∀ w : Int32, w.toInt = gd l n → P w) : okP (aget l j) P := by
  refine ⟨_, aget_at hj hn, k _ ?_⟩
  unfold gd
  rw [List.getD_eq_getElem?_getD, List.getElem?_eq_getElem hn]; rfl
theorem okP_asn {α : Type} {xs : List α} {j : Int32} {n : Nat} {v : α} {P : List α → Prop} (hj : j.toInt = n) (hn : n < xs.length) (k : P (xs.set n v)) : okP (aset xs j v) P := ⟨_, aset_at hj hn, k⟩
theorem r32 {r : Int32} {n : Nat} (h : r.toInt = n) (h4 : n < 4) {k : Int32} {m : Nat} (hk : k.toInt = m) (hm : m < 32) : (r * 32 + k).toInt = ((n * 32 + m : Nat) : Int) := by
  have e : (r * 32).toInt = r.toInt * 32 := i_mul (x := r) (y := 32) (by show _ ≤ r.toInt * 32; omega) (by show r.toInt * 32 < _; omega)
  rw [i_add (by omega) (by omega), e]
  omega
theorem lead_ok {W : Int32} {p : Ob} (S : Sh W p) {r : Int32} {n : Nat} (hr : r.toInt = n) (h4 : n < 4) (hl : gd (f_rxLead p) n = -1) (hs : gd (f_state p) (n * 32) ≠ 0) : okP (F13 p r 0) (fun q => q = s_rxLead p ((f_rxLead p).set n 0)) := by
  have l1 := Sh_l_rxLead S
  have l2 := Sh_l_state S
  have z0 : (0 : Int32).toInt = 0 := rfl
  unfold F13
  apply okP.bind
  refine okP_agd hr (by omega) (fun w hw => ?_)
  have w1 : w = -1 := by rw [i_eq, hw, hl]; rfl
  subst w1
  have e0 : (if (-1 : Int32) + 1 < 0 then (0 : Int32) else -1 + 1) = 0 := by decide
  rw [e0]
  have lp : loopN (B13_18 p r 0) qN 0 = some (Sum.inr ()) := by
    show loopN (B13_18 p r 0) (3998 + 1 + 1) 0 = _
    have b1 : B13_18 p r 0 0 = some (.inr 1) := by
      unfold B13_18
      obtain ⟨y, hy, q⟩ : okP (aget (f_state p) (r * 32 + 0)) (fun y => y.toInt = gd (f_state p) (n * 32 + 0)) := okP_agd (r32 hr h4 (m := 0) rfl (by decide)) (by omega) (fun _ q => q)
      rw [if_neg (by decide), if_pos (by decide), hy]
      simp only [Option.bind_some]
      rw [if_neg (by intro e; rw [e] at q; exact hs (show gd (f_state p) (n * 32 + 0) = 0 from by rw [← q]; rfl))]
      rfl
    have b2 : B13_18 p r 0 1 = some (.inl (Sum.inr ())) := by
      unfold B13_18
      rw [if_pos (by decide)]
    simp only [loopN, b1, b2]
  rw [lp]
  simp only [Option.bind_some]
  unfold J13_76
  apply okP.bind
  refine okP_agd hr (by omega) (fun w hw => ?_)
  rw [if_pos (by rw [i_lt, hw, hl]; decide)]
  apply okP.bind
  refine okP_asn hr (by omega) ?_
  exact okP.some rfl
theorem trail_ok {W : Int32} {p : Ob} (S : Sh W p) {r : Int32} {n : Nat} (hr : r.toInt = n) (h4 : n < 4) (hl : gd (f_rxTrail p) n = 0) : F14 p r 0 = some p := by
  have l1 := Sh_l_rxTrail S
  have : okP (F14 p r 0) (fun q => q = p) := by
    unfold F14
    apply okP.bind
    refine okP_agd hr (by omega) (fun w hw => ?_)
    rw [if_neg (by rw [i_lt, hw, hl]; decide)]
    exact okP.some rfl
  obtain ⟨_, e, rfl⟩ := this
  exact e
theorem deliver_ok {W : Int32} {p : Ob} (S : Sh W p) {r : Int32} {n : Nat} (hr : r.toInt = n) (h4 : n < 4) (hn : gd (f_rxNext p) n = 0) (hs : gd (f_state p) (n * 32) = 4) (hs1 : gd (f_state p) (n * 32 + 1) = 0) (hd : gd (f_delLen p) n = 0) : okP (F15 p r) (fun q => ∃ w u : Int32, w.toInt = gd (f_rxVal p) (n * 32) ∧ u.toInt = 1 ∧ q = s_rxNext (s_state (s_delLen (s_delVal (s_delSeq p ((f_delSeq p).set (n * 32) 0)) ((f_delVal p).set (n * 32) w)) ((f_delLen p).set n u)) ((f_state p).set (n * 32) 5)) ((f_rxNext p).set n 1)) := by
  have l1 := Sh_l_rxNext S
  have l2 := Sh_l_state S
  have l3 := Sh_l_delLen S
  have l4 := Sh_l_delSeq S
  have l5 := Sh_l_delVal S
  have l6 := Sh_l_rxVal S
  have z0 : (0 : Int32).toInt = 0 := rfl
  have z1 : (1 : Int32).toInt = 1 := rfl
  have z5 : (5 : Int32).toInt = 5 := rfl
  unfold F15
  apply okP.bind
  refine okP_agd hr (by omega) (fun w hw => ?_)
  have w0 : w = 0 := by rw [i_eq, hw, hn]; rfl
  subst w0
  have i0 := r32 hr h4 (k := 0) (m := 0) rfl (by decide)
  have i1 := r32 hr h4 (k := 1) (m := 1) rfl (by decide)
  have first : okP (B15_7 r (0, p)) (fun x => ∃ w u : Int32, w.toInt = gd (f_rxVal p) (n * 32) ∧ u.toInt = 1 ∧ x = Sum.inr (1, s_rxNext (s_state (s_delLen (s_delVal (s_delSeq p ((f_delSeq p).set (n * 32) 0)) ((f_delVal p).set (n * 32) w)) ((f_delLen p).set n u)) ((f_state p).set (n * 32) 5)) ((f_rxNext p).set n 1))) := by
    unfold B15_7
    simp only
    rw [if_neg (by decide), if_pos (by decide)]
    apply okP.bind
    refine okP_agd i0 (by omega) (fun w hw => ?_)
    have w4 : w = 4 := by rw [i_eq, hw]; exact hs
    subst w4
    rw [if_pos rfl]
    unfold J15_48
    rw [if_pos rfl]
    apply okP.bind
    refine okP_agd i0 (by omega) (fun w hw => ?_)
    unfold F16
    apply okP.bind
    apply okP.bind
    refine okP_agd hr (by omega) (fun d hdd => ?_)
    have d0 : d = 0 := by rw [i_eq, hdd, hd]; rfl
    subst d0
    rw [if_pos (by decide)]
    apply okP.bind
    refine okP_agd hr (by omega) (fun d hdd => ?_)
    have d0 : d = 0 := by rw [i_eq, hdd, hd]; rfl
    subst d0
    apply okP.bind
    refine okP_asn i0 (by omega) ?_
    apply okP.bind
    refine okP_asn i0 (by omega) ?_
    apply okP.bind
    refine okP_agd hr (by omega) (fun d hdd => ?_)
    have d0 : d = 0 := by rw [i_eq, hdd, hd]; rfl
    subst d0
    apply okP.bind
    refine okP_asn hr (by omega) ?_
    apply okP.some
    simp only [gs_srcPayload, gs_nextSeq, gs_stats, gs_state, gs_timer, gs_rxVal, gs_rxNext, gs_rxLead, gs_lossLeft, gs_drops, gs_delSeq, gs_delVal, gs_delLen]
    apply okP.bind
    refine okP_asn i0 (by omega) ?_
    unfold J15_73
    simp only [gs_srcPayload, gs_nextSeq, gs_stats, gs_state, gs_timer, gs_rxVal, gs_rxNext, gs_rxLead, gs_lossLeft, gs_drops, gs_delSeq, gs_delVal, gs_delLen]
    apply okP.bind
    refine okP_asn hr (by omega) ?_
    apply okP.some
    exact ⟨w, 0 + 1, hw, rfl, rfl⟩
  obtain ⟨_, b1, w, u, hw, hu, rfl⟩ := first
  obtain ⟨q, hq⟩ : ∃ q, q = s_rxNext (s_state (s_delLen (s_delVal (s_delSeq p ((f_delSeq p).set (n * 32) 0)) ((f_delVal p).set (n * 32) w)) ((f_delLen p).set n u)) ((f_state p).set (n * 32) 5)) ((f_rxNext p).set n 1) := ⟨_, rfl⟩
  rw [← hq] at b1
  have fs : f_state q = (f_state p).set (n * 32) 5 := by rw [hq]; simp only [gs_srcPayload, gs_nextSeq, gs_stats, gs_state, gs_timer, gs_rxVal, gs_rxNext, gs_rxLead, gs_lossLeft, gs_drops, gs_delSeq, gs_delVal, gs_delLen]
  have b2 : B15_7 r (1, q) = some (.inl q) := by
    unfold B15_7
    simp only
    rw [if_neg (by decide), if_pos (by decide), fs]
    obtain ⟨y, hy, g⟩ : okP (aget ((f_state p).set (n * 32) 5) (r * 32 + 1)) (fun y => y.toInt = gd ((f_state p).set (n * 32) 5) (n * 32 + 1)) := okP_agd i1 (by rw [List.length_set]; omega) (fun _ q => q)
    rw [gd_set (by omega), if_neg (by omega), hs1] at g
    rw [hy]
    simp only [Option.bind_some]
    rw [if_neg (by intro e; rw [e] at g; revert g; decide), if_neg (by intro e; rw [e] at g; revert g; decide)]
  have lp : loopN (B15_7 r) qN (0, p) = some q := by
    show loopN (B15_7 r) (3998 + 1 + 1) (0, p) = _
    simp only [loopN, b1, b2]
  rw [lp]
  exact okP.some ⟨w, u, hw, hu, hq⟩
/-- what is known of a receiver before and behind its copy -/
def Fr (p : Ob) (n : Nat) (k : Int) : Prop := gd (f_state p) (n * 32) = 0 ∧ gd (f_state p) (n * 32 + 1) = 0 ∧ gd (f_rxLead p) n = -1 ∧ gd (f_rxTrail p) n = 0 ∧ gd (f_rxNext p) n = 0 ∧ gd (f_delLen p) n = 0 ∧ gd (f_lossLeft p) n = k ∧ gd (f_drops p) n = 0
def Dn (p : Ob) (n : Nat) (k : Int) (v : Int32) : Prop := (0 < k → gd (f_rxNext p) n = 0 ∧ gd (f_lossLeft p) n = k - 1 ∧ gd (f_drops p) n = 1) ∧ (k = 0 → gd (f_rxNext p) n = 1 ∧ gd (f_lossLeft p) n = 0 ∧ gd (f_drops p) n = 0 ∧ gd (f_delLen p) n = 1 ∧ gd (f_delVal p) (n * 32) = v.toInt)
def cnt (L : Nat → Int) : Nat → Int
  | 0 => 0
  | n + 1 => cnt L n + (if 0 < L n then 1 else 0)
theorem copy_ok {W : Int32} {p : Ob} (S : Sh W p) {r v : Int32} {n : Nat} (hr : r.toInt = n) (h4 : n < 4) (L : Nat → Int) (hL : ∀ m, 0 ≤ L m ∧ L m ≤ 255) (hF : ∀ m, n ≤ m → m < 4 → Fr p m (L m)) (hD : ∀ m, m < n → Dn p m (L m) v) (h9 : gd (f_stats p) 9 = cnt L n) (hc : 0 ≤ cnt L n ∧ cnt L n ≤ 4) : okP (F10 p r 0 0 v 0 0) (fun q => Sh W q ∧ f_nextSeq q = f_nextSeq p ∧ gd (f_stats q) 1 = gd (f_stats p) 1 ∧ (∀ m, n + 1 ≤ m → m < 4 → Fr q m (L m)) ∧ (∀ m, m < n + 1 → Dn q m (L m) v) ∧ gd (f_stats q) 9 = cnt L (n + 1)) := by
  have l1 := Sh_l_rxNext S
  have l2 := Sh_l_state S
  have l3 := Sh_l_delLen S
  have l4 := Sh_l_delSeq S
  have l5 := Sh_l_delVal S
  have l6 := Sh_l_rxVal S
  have l7 := Sh_l_lossLeft S
  have l8 := Sh_l_drops S
  have l9 := Sh_l_stats S
  have l10 := Sh_l_timer S
  have l11 := Sh_l_rxLead S
  have z0 : (0 : Int32).toInt = 0 := rfl
  have z1 : (1 : Int32).toInt = 1 := rfl
  obtain ⟨f1, f2, f3, f4, f5, f6, f7, f8⟩ := hF n (Nat.le_refl _) h4
  have Ln := hL n
  unfold F10
  apply okP.bind
  refine okP_agd hr (by omega) (fun w hw => ?_)
  rw [f7] at hw
  apply okP.ite
  · intro c
    rw [i_lt, z0, hw] at c
    apply okP.bind
    refine okP_agd hr (by omega) (fun w hw => ?_)
    rw [f7] at hw
    apply okP.bind
    refine okP_asn hr (by omega) ?_
    apply okP.bind
    refine okP_agd hr (by omega) (fun d hd => ?_)
    rw [f8] at hd
    apply okP.bind
    refine okP_asn hr (by omega) ?_
    apply okP.bind
    refine okP_agd (n := 9) rfl (by omega) (fun t ht => ?_)
    rw [h9] at ht
    apply okP.bind
    refine okP_asn (n := 9) rfl (by omega) ?_
    apply okP.some
    have ew : (w - 1).toInt = w.toInt - 1 := by rw [i_sub (by omega) (by omega), z1]
    have ed : (d + 1).toInt = d.toInt + 1 := inc1 (by omega)
    have et : (t + 1).toInt = t.toInt + 1 := inc1 (by omega)
    refine ⟨?_, ?_, ?_, ?_, ?_, ?_⟩
    · exact Sh_stats (Sh_drops (Sh_lossLeft S (by rw [List.length_set]; exact l7)) (by rw [List.length_set]; exact l8)) (by rw [List.length_set]; exact l9)
    · simp only [gs_srcPayload, gs_nextSeq, gs_stats, gs_state, gs_timer, gs_rxVal, gs_rxNext, gs_rxLead, gs_lossLeft, gs_drops, gs_delSeq, gs_delVal, gs_delLen]
    · simp only [gs_srcPayload, gs_nextSeq, gs_stats, gs_state, gs_timer, gs_rxVal, gs_rxNext, gs_rxLead, gs_lossLeft, gs_drops, gs_delSeq, gs_delVal, gs_delLen]
      rw [gd_set (by omega), if_neg (by decide)]
    · intro m m1 m2
      have t := hF m (by omega) m2
      unfold Fr at t ⊢
      simp only [gs_srcPayload, gs_nextSeq, gs_stats, gs_state, gs_timer, gs_rxVal, gs_rxNext, gs_rxLead, gs_lossLeft, gs_drops, gs_delSeq, gs_delVal, gs_delLen]
      rw [gd_set (by omega), gd_set (by omega), if_neg (by omega), if_neg (by omega)]
      exact t
    · intro m m1
      unfold Dn
      simp only [gs_srcPayload, gs_nextSeq, gs_stats, gs_state, gs_timer, gs_rxVal, gs_rxNext, gs_rxLead, gs_lossLeft, gs_drops, gs_delSeq, gs_delVal, gs_delLen]
      rw [gd_set (by omega), gd_set (by omega)]
      by_cases e : n = m
      · subst e
        rw [if_pos rfl, if_pos rfl]
        exact ⟨fun _ => ⟨f5, by omega, by omega⟩, fun q => by omega⟩
      · rw [if_neg e, if_neg e]
        exact hD m (by omega)
    · simp only [gs_srcPayload, gs_nextSeq, gs_stats, gs_state, gs_timer, gs_rxVal, gs_rxNext, gs_rxLead, gs_lossLeft, gs_drops, gs_delSeq, gs_delVal, gs_delLen]
      rw [gd_set (by omega), if_pos rfl, cnt, if_pos c]
      omega
  · intro c
    rw [i_lt, z0, hw] at c
    have k0 : L n = 0 := by omega
    rw [if_pos rfl]
    unfold J10_50 F11
    have vs : F12 0 = some 1 := rfl
    rw [vs]
    simp only [Option.bind_some]
    rw [if_neg (by decide)]
    have i0 := r32 hr h4 (k := 0) (m := 0) rfl (by decide)
    apply okP.bind
    apply okP.bind
    refine okP_agd i0 (by omega) (fun y hy => ?_)
    have y0 : y = 0 := by rw [i_eq, hy]; exact f1
    rw [if_pos y0]
    apply okP.bind
    refine okP_asn i0 (by omega) ?_
    apply okP.bind
    refine okP_asn i0 (by omega) ?_
    apply okP.bind
    refine okP_asn i0 (by omega) ?_
    unfold J11_76
    have S1 : Sh W (s_timer (s_rxVal (s_state p ((f_state p).set (n * 32 + 0) 4)) ((f_rxVal p).set (n * 32 + 0) v)) ((f_timer p).set (n * 32 + 0) 0)) := Sh_timer (Sh_rxVal (Sh_state S (by rw [List.length_set]; exact l2)) (by rw [List.length_set]; exact l6)) (by rw [List.length_set]; exact l10)
    obtain ⟨p1, hp1⟩ : ∃ q, q = s_timer (s_rxVal (s_state p ((f_state p).set (n * 32 + 0) 4)) ((f_rxVal p).set (n * 32 + 0) v)) ((f_timer p).set (n * 32 + 0) 0) := ⟨_, rfl⟩
    rw [← hp1] at S1 ⊢
    have g1 : f_state p1 = (f_state p).set (n * 32 + 0) 4 := by rw [hp1]; simp only [gs_srcPayload, gs_nextSeq, gs_stats, gs_state, gs_timer, gs_rxVal, gs_rxNext, gs_rxLead, gs_lossLeft, gs_drops, gs_delSeq, gs_delVal, gs_delLen]
    have g2 : f_rxLead p1 = f_rxLead p := by rw [hp1]; simp only [gs_srcPayload, gs_nextSeq, gs_stats, gs_state, gs_timer, gs_rxVal, gs_rxNext, gs_rxLead, gs_lossLeft, gs_drops, gs_delSeq, gs_delVal, gs_delLen]
    have g3 : f_rxTrail p1 = f_rxTrail p := by rw [hp1]; simp only [gs_srcPayload, gs_nextSeq, gs_stats, gs_state, gs_timer, gs_rxVal, gs_rxNext, gs_rxLead, gs_lossLeft, gs_drops, gs_delSeq, gs_delVal, gs_delLen]
    have g4 : f_rxNext p1 = f_rxNext p := by rw [hp1]; simp only [gs_srcPayload, gs_nextSeq, gs_stats, gs_state, gs_timer, gs_rxVal, gs_rxNext, gs_rxLead, gs_lossLeft, gs_drops, gs_delSeq, gs_delVal, gs_delLen]
    have g5 : f_delLen p1 = f_delLen p := by rw [hp1]; simp only [gs_srcPayload, gs_nextSeq, gs_stats, gs_state, gs_timer, gs_rxVal, gs_rxNext, gs_rxLead, gs_lossLeft, gs_drops, gs_delSeq, gs_delVal, gs_delLen]
    have g6 : f_rxVal p1 = (f_rxVal p).set (n * 32 + 0) v := by rw [hp1]; simp only [gs_srcPayload, gs_nextSeq, gs_stats, gs_state, gs_timer, gs_rxVal, gs_rxNext, gs_rxLead, gs_lossLeft, gs_drops, gs_delSeq, gs_delVal, gs_delLen]
    have g7 : f_lossLeft p1 = f_lossLeft p := by rw [hp1]; simp only [gs_srcPayload, gs_nextSeq, gs_stats, gs_state, gs_timer, gs_rxVal, gs_rxNext, gs_rxLead, gs_lossLeft, gs_drops, gs_delSeq, gs_delVal, gs_delLen]
    have g8 : f_drops p1 = f_drops p := by rw [hp1]; simp only [gs_srcPayload, gs_nextSeq, gs_stats, gs_state, gs_timer, gs_rxVal, gs_rxNext, gs_rxLead, gs_lossLeft, gs_drops, gs_delSeq, gs_delVal, gs_delLen]
    have g9 : f_stats p1 = f_stats p := by rw [hp1]; simp only [gs_srcPayload, gs_nextSeq, gs_stats, gs_state, gs_timer, gs_rxVal, gs_rxNext, gs_rxLead, gs_lossLeft, gs_drops, gs_delSeq, gs_delVal, gs_delLen]
    have g10 : f_delVal p1 = f_delVal p := by rw [hp1]; simp only [gs_srcPayload, gs_nextSeq, gs_stats, gs_state, gs_timer, gs_rxVal, gs_rxNext, gs_rxLead, gs_lossLeft, gs_drops, gs_delSeq, gs_delVal, gs_delLen]
    have g11 : f_nextSeq p1 = f_nextSeq p := by rw [hp1]; simp only [gs_srcPayload, gs_nextSeq, gs_stats, gs_state, gs_timer, gs_rxVal, gs_rxNext, gs_rxLead, gs_lossLeft, gs_drops, gs_delSeq, gs_delVal, gs_delLen]
    apply okP.bind
    refine okP.mono (lead_ok S1 hr h4 (by rw [g2]; exact f3) (by rw [g1, gd_set (by omega), if_pos (by omega)]; decide)) ?_
    rintro p2 hp2
    have S2 : Sh W p2 := by rw [hp2]; exact Sh_rxLead S1 (by rw [List.length_set, g2]; exact l11)
    have e1 : f_state p2 = (f_state p).set (n * 32 + 0) 4 := by rw [hp2]; simp only [gs_srcPayload, gs_nextSeq, gs_stats, gs_state, gs_timer, gs_rxVal, gs_rxNext, gs_rxLead, gs_lossLeft, gs_drops, gs_delSeq, gs_delVal, gs_delLen, g1]
    have e2 : f_rxLead p2 = (f_rxLead p).set n 0 := by rw [hp2]; simp only [gs_srcPayload, gs_nextSeq, gs_stats, gs_state, gs_timer, gs_rxVal, gs_rxNext, gs_rxLead, gs_lossLeft, gs_drops, gs_delSeq, gs_delVal, gs_delLen, g2]
    have e3 : f_rxTrail p2 = f_rxTrail p := by rw [hp2]; simp only [gs_srcPayload, gs_nextSeq, gs_stats, gs_state, gs_timer, gs_rxVal, gs_rxNext, gs_rxLead, gs_lossLeft, gs_drops, gs_delSeq, gs_delVal, gs_delLen, g3]
    have e4 : f_rxNext p2 = f_rxNext p := by rw [hp2]; simp only [gs_srcPayload, gs_nextSeq, gs_stats, gs_state, gs_timer, gs_rxVal, gs_rxNext, gs_rxLead, gs_lossLeft, gs_drops, gs_delSeq, gs_delVal, gs_delLen, g4]
    have e5 : f_delLen p2 = f_delLen p := by rw [hp2]; simp only [gs_srcPayload, gs_nextSeq, gs_stats, gs_state, gs_timer, gs_rxVal, gs_rxNext, gs_rxLead, gs_lossLeft, gs_drops, gs_delSeq, gs_delVal, gs_delLen, g5]
    have e6 : f_rxVal p2 = (f_rxVal p).set (n * 32 + 0) v := by rw [hp2]; simp only [gs_srcPayload, gs_nextSeq, gs_stats, gs_state, gs_timer, gs_rxVal, gs_rxNext, gs_rxLead, gs_lossLeft, gs_drops, gs_delSeq, gs_delVal, gs_delLen, g6]
    have e7 : f_lossLeft p2 = f_lossLeft p := by rw [hp2]; simp only [gs_srcPayload, gs_nextSeq, gs_stats, gs_state, gs_timer, gs_rxVal, gs_rxNext, gs_rxLead, gs_lossLeft, gs_drops, gs_delSeq, gs_delVal, gs_delLen, g7]
    have e8 : f_drops p2 = f_drops p := by rw [hp2]; simp only [gs_srcPayload, gs_nextSeq, gs_stats, gs_state, gs_timer, gs_rxVal, gs_rxNext, gs_rxLead, gs_lossLeft, gs_drops, gs_delSeq, gs_delVal, gs_delLen, g8]
    have e9 : f_stats p2 = f_stats p := by rw [hp2]; simp only [gs_srcPayload, gs_nextSeq, gs_stats, gs_state, gs_timer, gs_rxVal, gs_rxNext, gs_rxLead, gs_lossLeft, gs_drops, gs_delSeq, gs_delVal, gs_delLen, g9]
    have e10 : f_delVal p2 = f_delVal p := by rw [hp2]; simp only [gs_srcPayload, gs_nextSeq, gs_stats, gs_state, gs_timer, gs_rxVal, gs_rxNext, gs_rxLead, gs_lossLeft, gs_drops, gs_delSeq, gs_delVal, gs_delLen, g10]
    have e11 : f_nextSeq p2 = f_nextSeq p := by rw [hp2]; simp only [gs_srcPayload, gs_nextSeq, gs_stats, gs_state, gs_timer, gs_rxVal, gs_rxNext, gs_rxLead, gs_lossLeft, gs_drops, gs_delSeq, gs_delVal, gs_delLen, g11]
    rw [trail_ok S2 hr h4 (by rw [e3]; exact f4)]
    simp only [Option.bind_some]
    apply okP.bind
    refine okP.mono (deliver_ok S2 hr h4 (by rw [e4]; exact f5) (by rw [e1, gd_set (by omega), if_pos (by omega)]; decide) (by rw [e1, gd_set (by omega), if_neg (by omega)]; exact f2) (by rw [e5]; exact f6)) ?_
    rintro q ⟨w, u, hw, hu, rfl⟩
    rw [e6, gd_set (by omega), if_pos (by omega)] at hw
    apply okP.some
    apply okP.some
    have m1' := Sh_l_delSeq S2
    refine ⟨?_, ?_, ?_, ?_, ?_, ?_⟩
    · refine Sh_rxNext (Sh_state (Sh_delLen (Sh_delVal (Sh_delSeq S2 ?_) ?_) ?_) ?_) ?_ <;> rw [List.length_set]
      · exact m1'
      · rw [e10]; exact l5
      · rw [e5]; exact l3
      · rw [e1, List.length_set]; exact l2
      · rw [e4]; exact l1
    · simp only [gs_srcPayload, gs_nextSeq, gs_stats, gs_state, gs_timer, gs_rxVal, gs_rxNext, gs_rxLead, gs_lossLeft, gs_drops, gs_delSeq, gs_delVal, gs_delLen, e11]
    · simp only [gs_srcPayload, gs_nextSeq, gs_stats, gs_state, gs_timer, gs_rxVal, gs_rxNext, gs_rxLead, gs_lossLeft, gs_drops, gs_delSeq, gs_delVal, gs_delLen, e9]
    · intro m m1 m2
      have t := hF m (by omega) m2
      unfold Fr at t ⊢
      simp only [gs_srcPayload, gs_nextSeq, gs_stats, gs_state, gs_timer, gs_rxVal, gs_rxNext, gs_rxLead, gs_lossLeft, gs_drops, gs_delSeq, gs_delVal, gs_delLen, e1, e2, e3, e4, e5, e7, e8]
      have dl : n * 32 + 0 < (f_state p).length := by omega
      have dl2 : n * 32 < ((f_state p).set (n * 32 + 0) 4).length := by rw [List.length_set]; omega
      have dl3 : n < (f_rxLead p).length := by omega
      have dl4 : n < (f_rxNext p).length := by omega
      have dl5 : n < (f_delLen p).length := by omega
      rw [gd_set dl2, gd_set dl, gd_set dl2, gd_set dl, gd_set dl3, gd_set dl4, gd_set dl5, if_neg (by omega), if_neg (by omega), if_neg (by omega), if_neg (by omega), if_neg (by omega), if_neg (by omega), if_neg (by omega)]
      exact t
    · intro m m1
      unfold Dn
      simp only [gs_srcPayload, gs_nextSeq, gs_stats, gs_state, gs_timer, gs_rxVal, gs_rxNext, gs_rxLead, gs_lossLeft, gs_drops, gs_delSeq, gs_delVal, gs_delLen, e1, e2, e3, e4, e5, e7, e8, e10]
      have dl4 : n < (f_rxNext p).length := by omega
      have dl5 : n < (f_delLen p).length := by omega
      have dl6 : n * 32 < (f_delVal p).length := by omega
      rw [gd_set dl4, gd_set dl5, gd_set dl6]
      by_cases e : n = m
      · subst e
        rw [if_pos rfl, if_pos rfl, if_pos rfl]
        exact ⟨fun q => by omega, fun _ => ⟨rfl, by omega, f8, hu, hw⟩⟩
      · rw [if_neg e, if_neg e, if_neg (by omega)]
        exact hD m (by omega)
    · simp only [gs_srcPayload, gs_nextSeq, gs_stats, gs_state, gs_timer, gs_rxVal, gs_rxNext, gs_rxLead, gs_lossLeft, gs_drops, gs_delSeq, gs_delVal, gs_delLen, e9]
      rw [cnt, if_neg (by omega)]
      omega
theorem cnt_rng (L : Nat → Int) : ∀ n, 0 ≤ cnt L n ∧ cnt L n ≤ n
  | 0 => by simp [cnt]
  | n + 1 => by
    have := cnt_rng L n
    simp only [cnt]
    split <;> omega
/-- a valid send on a fresh object -/
theorem send_ok {W : Int32} {o : Ob} (S : Sh W o) (hW : 2 ≤ W.toInt ∧ W.toInt ≤ 16) (h0 : f_nextSeq o = 0) {v : Int32} (hv : 0 ≤ v.toInt ∧ v.toInt ≤ 255) (L : Nat → Int) (hL : ∀ m, 0 ≤ L m ∧ L m ≤ 255) (hF : ∀ m, m < 4 → Fr o m (L m)) (h9 : gd (f_stats o) 9 = 0) (h1 : gd (f_stats o) 1 = 0) : okP (F5 o v) (fun r => r.1 = 0 ∧ Sh W r.2 ∧ f_nextSeq r.2 = 1 ∧ gd (f_stats r.2) 1 = 1 ∧ (∀ m, m < 4 → Dn r.2 m (L m) v) ∧ gd (f_stats r.2) 9 = cnt L 4) := by
  have z0 : (0 : Int32).toInt = 0 := rfl
  have z1 : (1 : Int32).toInt = 1 := rfl
  have z4 : (4 : Int32).toInt = 4 := rfl
  have l1 := Sh_l_srcPayload S
  have l2 := Sh_l_stats S
  unfold F5
  rw [if_neg (by rw [i_lt, z0]; omega), if_neg (by rw [i_lt]; show ¬ 255 < v.toInt; omega), h0, if_pos (by decide)]
  apply okP.bind
  refine okP_asn (n := 0) rfl (by omega) ?_
  apply okP.bind
  refine okP_agd (n := 1) rfl (by omega) (fun t ht => ?_)
  apply okP.bind
  refine okP_asn (n := 1) rfl (by omega) ?_
  obtain ⟨p, hp⟩ : ∃ q, q = s_stats (s_nextSeq (s_srcPayload o ((f_srcPayload o).set 0 v)) (0 + 1)) ((f_stats o).set 1 (t + 1)) := ⟨_, rfl⟩
  rw [← hp]
  have S1 : Sh W p := by rw [hp]; exact Sh_stats (Sh_nextSeq (Sh_srcPayload S (by rw [List.length_set]; exact l1))) (by rw [List.length_set]; exact l2)
  have n1 : f_nextSeq p = 1 := by rw [hp]; simp only [gs_srcPayload, gs_nextSeq, gs_stats, gs_state, gs_timer, gs_rxVal, gs_rxNext, gs_rxLead, gs_lossLeft, gs_drops, gs_delSeq, gs_delVal, gs_delLen]; decide
  have t1 : (t + 1).toInt = 1 := by rw [inc1 (by omega), ht, h1]; rfl
  have s1 : gd (f_stats p) 1 = 1 := by rw [hp]; simp only [gs_srcPayload, gs_nextSeq, gs_stats, gs_state, gs_timer, gs_rxVal, gs_rxNext, gs_rxLead, gs_lossLeft, gs_drops, gs_delSeq, gs_delVal, gs_delLen]; rw [gd_set (by omega), if_pos rfl]; exact t1
  have s9 : gd (f_stats p) 9 = 0 := by rw [hp]; simp only [gs_srcPayload, gs_nextSeq, gs_stats, gs_state, gs_timer, gs_rxVal, gs_rxNext, gs_rxLead, gs_lossLeft, gs_drops, gs_delSeq, gs_delVal, gs_delLen]; rw [gd_set (by omega), if_neg (by decide)]; exact h9
  have hF1 : ∀ m, m < 4 → Fr p m (L m) := by
    intro m hm
    have t := hF m hm
    unfold Fr at t ⊢
    rw [hp]
    simp only [gs_srcPayload, gs_nextSeq, gs_stats, gs_state, gs_timer, gs_rxVal, gs_rxNext, gs_rxLead, gs_lossLeft, gs_drops, gs_delSeq, gs_delVal, gs_delLen]
    exact t
  apply okP.bind
  unfold F6
  have ld : F7 p = some 0 := by unfold F7; rw [n1]; rfl
  have tr : F8 p = some 0 := by
    unfold F8
    rw [n1, S1.2.2.2.2.2.2.2.2.2.2.2.2.2.2.2.2.2.2.2]
    rw [if_pos (by rw [i_lt, i_sub (by omega) (by omega)]; omega)]
  rw [ld, tr]
  simp only [Option.bind_some]
  have ag : F9 p 0 0 0 = some p := by
    unfold F9 J9_20
    rw [if_neg (by decide)]
    have : loopN (B9_23 0) qN (0, p) = some p := by
      show loopN (B9_23 0) (3999 + 1) (0, p) = some p
      have b : B9_23 0 (0, p) = some (.inl p) := by unfold B9_23; rfl
      simp only [loopN, b]
    rw [this]; rfl
  rw [ag]
  simp only [Option.bind_some]
  apply okP.bind
  refine okP.loop (fun w => 0 ≤ w.1.toInt ∧ w.1.toInt ≤ 4 ∧ Sh W w.2 ∧ f_nextSeq w.2 = 1 ∧ gd (f_stats w.2) 1 = 1 ∧ (∀ m, w.1.toInt.toNat ≤ m → m < 4 → Fr w.2 m (L m)) ∧ (∀ m, m < w.1.toInt.toNat → Dn w.2 m (L m) v) ∧ gd (f_stats w.2) 9 = cnt L w.1.toInt.toNat) (fun w => (4 - w.1.toInt).toNat) ⟨by show (0 : Int) ≤ 0; decide, by show (0 : Int) ≤ 4; decide, S1, n1, s1, fun m _ hm => hF1 m hm, fun m hm => absurd hm (Nat.not_lt_zero _), s9⟩ (by show (4 - (0 : Int)).toNat < 4000; decide) ?_
  rintro ⟨w, p⟩ ⟨a1, a2, a3, a4, a5, a6, a7, a8⟩
  simp only at a1 a2 a3 a4 a5 a6 a7 a8
  unfold B6_23
  simp only
  apply okP.ite <;> intro c
  · rw [i_lt, z4] at c
    have e2 : (w + 1).toInt = w.toInt + 1 := inc1 (by omega)
    have en : (w + 1).toInt.toNat = w.toInt.toNat + 1 := by omega
    have cr := cnt_rng L w.toInt.toNat
    apply okP.bind
    refine okP.mono (copy_ok a3 (n := w.toInt.toNat) (by omega) (by omega) L hL a6 a7 a8 ⟨cr.1, by omega⟩) ?_
    rintro q ⟨b1, b2, b3, b4, b5, b6⟩
    apply okP.some
    refine ⟨⟨by simp only; omega, by simp only; omega, b1, ?_, ?_, ?_, ?_, ?_⟩, by simp only; omega⟩
    · simp only; rw [b2]; exact a4
    · simp only; rw [b3]; exact a5
    · simp only; rw [en]; exact b4
    · simp only; rw [en]; exact b5
    · simp only; rw [en]; exact b6
  · rw [i_lt, z4] at c
    have en : w.toInt.toNat = 4 := by omega
    rw [en] at a7 a8
    apply okP.some
    apply okP.some
    apply okP.some
    exact ⟨rfl, a3, a4, a5, a7, a8⟩
theorem siz {W : Int32} {o : Ob} (h : Sh W o) : qhs (H0 o) ≤ 1300 := by
  obtain ⟨z1, z2, z3, z4, z5, z6, z7, z8, z9, z10, z11, z12, z13, z14, z15, z16, z17, z18, z19, _⟩ := h
  simp only [H0, qhs, qsz, z1, z2, z3, z4, z5, z6, z7, z8, z9, z10, z11, z12, z13, z14, z15, z16, z17, z18, z19, cN]
  omega
theorem clampE (a lo hi : Int32) : F2 a lo hi = some (if a < lo then lo else if hi < a then hi else a) := by
  unfold F2
  by_cases h1 : a < lo
  · rw [if_pos h1, if_pos h1]
  · rw [if_neg h1, if_neg h1]
    by_cases h2 : hi < a
    · rw [if_pos h2, if_pos h2]
    · rw [if_neg h2, if_neg h2]
theorem clampR {a lo hi : Int32} (h : lo.toInt ≤ hi.toInt) : lo.toInt ≤ (if a < lo then lo else if hi < a then hi else a).toInt ∧ (if a < lo then lo else if hi < a then hi else a).toInt ≤ hi.toInt := by
  by_cases h1 : a < lo
  · rw [if_pos h1]; omega
  · rw [if_neg h1]
    by_cases h2 : hi < a
    · rw [if_pos h2]; omega
    · rw [if_neg h2]
      rw [i_lt] at h1 h2
      omega
theorem init_ok (x0 x1 x2 x3 : Int32) : okP (F1 x0 x1 x2 x3) (fun o => ∃ W : Int32, (2 ≤ W.toInt ∧ W.toInt ≤ 16) ∧ Sh W o ∧ f_nextSeq o = 0 ∧ (∀ m, m < 4 → Fr o m 0) ∧ f_stats o = List.replicate 10 0 ∧ f_drops o = List.replicate 4 0) := by
  unfold F1
  rw [clampE, clampE, clampE, clampE]
  simp only [Option.bind_some]
  have cw := clampR (a := x0) (lo := 2) (hi := 16) (by decide)
  obtain ⟨W, hW⟩ : ∃ W, W = (if x0 < 2 then 2 else if (16 : Int32) < x0 then 16 else x0) := ⟨_, rfl⟩
  rw [← hW] at cw ⊢
  generalize (if x1 < 1 then 1 else if (8 : Int32) < x1 then 8 else x1) = b
  generalize (if x2 < 1 then 1 else if (8 : Int32) < x2 then 8 else x2) = c
  generalize (if x3 < 0 then 0 else if (16 : Int32) < x3 then 16 else x3) = d
  apply okP.bind
  have z4 : (4 : Int32).toInt = 4 := rfl
  refine okP.loop (fun w => 0 ≤ w.1.toInt ∧ w.1.toInt ≤ 4 ∧ Sh W w.2 ∧ f_nextSeq w.2 = 0 ∧ (∀ m, m < w.1.toInt.toNat → gd (f_rxLead w.2) m = -1) ∧ f_stats w.2 = List.replicate 10 0 ∧ f_state w.2 = List.replicate 128 0 ∧ f_rxTrail w.2 = List.replicate 4 0 ∧ f_rxNext w.2 = List.replicate 4 0 ∧ f_delLen w.2 = List.replicate 4 0 ∧ f_lossLeft w.2 = List.replicate 4 0 ∧ f_drops w.2 = List.replicate 4 0) (fun w => (4 - w.1.toInt).toNat) ⟨by show (0 : Int) ≤ 0; decide, by show (0 : Int) ≤ 4; decide, ?_, ?_, fun m hm => absurd hm (Nat.not_lt_zero _), ?_⟩ (by show (4 - (0 : Int)).toNat < 4000; decide) ?_
  · dsimp only [Sh, f_srcPayload, f_pend, f_queue, f_stats, f_state, f_timer, f_rxVal, f_rxNext, f_rxLead, f_rxTrail, f_lossLeft, f_dups, f_drops, f_delSeq, f_delVal, f_delLen, f_lostLog, f_lostLen, f_nakBuf, f_win, f_back, f_repair, f_period, f_nextSeq, f_qLen, s_srcPayload, s_pend, s_queue, s_stats, s_state, s_timer, s_rxVal, s_rxNext, s_rxLead, s_rxTrail, s_lossLeft, s_dups, s_drops, s_delSeq, s_delVal, s_delLen, s_lostLog, s_lostLen, s_nakBuf, s_win, s_back, s_repair, s_period, s_nextSeq, s_qLen]
    refine ⟨?_, ?_, ?_, ?_, ?_, ?_, ?_, ?_, ?_, ?_, ?_, ?_, ?_, ?_, ?_, ?_, ?_, ?_, ?_, rfl⟩ <;> exact List.length_replicate
  · dsimp only [f_srcPayload, f_pend, f_queue, f_stats, f_state, f_timer, f_rxVal, f_rxNext, f_rxLead, f_rxTrail, f_lossLeft, f_dups, f_drops, f_delSeq, f_delVal, f_delLen, f_lostLog, f_lostLen, f_nakBuf, f_win, f_back, f_repair, f_period, f_nextSeq, f_qLen, s_srcPayload, s_pend, s_queue, s_stats, s_state, s_timer, s_rxVal, s_rxNext, s_rxLead, s_rxTrail, s_lossLeft, s_dups, s_drops, s_delSeq, s_delVal, s_delLen, s_lostLog, s_lostLen, s_nakBuf, s_win, s_back, s_repair, s_period, s_nextSeq, s_qLen, ob0]
  · dsimp only [f_srcPayload, f_pend, f_queue, f_stats, f_state, f_timer, f_rxVal, f_rxNext, f_rxLead, f_rxTrail, f_lossLeft, f_dups, f_drops, f_delSeq, f_delVal, f_delLen, f_lostLog, f_lostLen, f_nakBuf, f_win, f_back, f_repair, f_period, f_nextSeq, f_qLen, s_srcPayload, s_pend, s_queue, s_stats, s_state, s_timer, s_rxVal, s_rxNext, s_rxLead, s_rxTrail, s_lossLeft, s_dups, s_drops, s_delSeq, s_delVal, s_delLen, s_lostLog, s_lostLen, s_nakBuf, s_win, s_back, s_repair, s_period, s_nextSeq, s_qLen]
    exact ⟨rfl, rfl, rfl, rfl, rfl, rfl, rfl⟩
  rintro ⟨w, p⟩ ⟨a1, a2, a3, a4, a5, a6, a7, a8, a9, a10, a11, a12⟩
  simp only at a1 a2 a3 a4 a5 a6 a7 a8 a9 a10 a11 a12
  unfold B1_207
  simp only
  apply okP.ite <;> intro c
  · rw [i_lt, z4] at c
    have l1 := Sh_l_rxLead a3
    have e2 : (w + 1).toInt = w.toInt + 1 := inc1 (by omega)
    apply okP.bind
    refine okP_asn (n := w.toInt.toNat) (by omega) (by omega) ?_
    apply okP.some
    refine ⟨⟨by simp only; omega, by simp only; omega, Sh_rxLead a3 (by rw [List.length_set]; exact l1), ?_⟩, by simp only; omega⟩
    simp only [gs_srcPayload, gs_nextSeq, gs_stats, gs_state, gs_timer, gs_rxVal, gs_rxNext, gs_rxLead, gs_lossLeft, gs_drops, gs_delSeq, gs_delVal, gs_delLen, a4, a6, a7, a8, a9, a10, a11, a12, true_and, and_true]
    intro m hm
    rw [gd_set (by omega)]
    split
    · rfl
    · exact a5 m (by omega)
  · rw [i_lt, z4] at c
    apply okP.some
    apply okP.some
    refine ⟨W, cw, a3, a4, ?_, a6, a12⟩
    intro m hm
    unfold Fr
    rw [a7, a8, a9, a10, a11, a12]
    simp only [gd_rep, true_and, and_true]
    exact a5 m (by omega)
theorem bad_send {W : Int32} {o : Ob} (S : Sh W o) {v : Int32} (hv : ¬ (0 ≤ v.toInt ∧ v.toInt ≤ 255)) : F5 o v = some (-1, o) := by
  unfold F5
  by_cases a : v < 0
  · rw [if_pos a]
  · rw [if_neg a, if_pos (by rw [i_lt] at a ⊢; have z0 : (0 : Int32).toInt = 0 := rfl; show 255 < v.toInt; omega)]

theorem g1 {l : List Int32} {k : Int32} {n : Nat} {w : Int32} (hk : k.toInt = n) (hn : n < l.length) (hw : gd l n = w.toInt) : aget l k = some w := by
  obtain ⟨y, hy, q⟩ : okP (aget l k) (fun y => y.toInt = gd l n) := okP_agd hk hn (fun _ q => q)
  rw [hy]
  congr 1
  rw [i_eq, q, hw]
theorem vrx (r : Int32) : F4 r = some (if 0 ≤ r.toInt ∧ r.toInt ≤ 3 then 1 else 0) := by
  have z0 : (0 : Int32).toInt = 0 := rfl
  have z4 : (4 : Int32).toInt = 4 := rfl
  unfold F4
  simp only [i_lt, z0, z4]
  by_cases a : r.toInt < 0
  · rw [if_pos a, if_neg (by omega)]
  · rw [if_neg a]
    by_cases b : r.toInt < 4
    · rw [if_pos b, if_pos (by omega)]
    · rw [if_neg b, if_neg (by omega)]
theorem info {W : Int32} {p : Ob} (S : Sh W p) {r : Int32} {n : Nat} (hr : r.toInt = n) (h4 : n < 4) {a b c : Int32} (ha : gd (f_rxNext p) n = a.toInt) (hb : gd (f_lossLeft p) n = b.toInt) (hc : gd (f_drops p) n = c.toInt) : F17 p r 0 = some a ∧ F17 p r 5 = some b ∧ F17 p r 7 = some c := by
  have l1 := Sh_l_rxNext S
  have l2 := Sh_l_lossLeft S
  have l3 := Sh_l_drops S
  unfold F17
  rw [vrx, if_pos (by omega)]
  simp only [Option.bind_some]
  rw [if_neg (by decide)]
  refine ⟨?_, ?_, ?_⟩
  · rw [if_pos trivial, g1 hr (by omega) ha]; rfl
  · simp only [if_neg (show ¬ (1 : Int32) = 0 by decide)]
    rw [g1 hr (by omega) hb]
    simp +decide
  · simp only [if_neg (show ¬ (1 : Int32) = 0 by decide)]
    rw [g1 (l := f_drops p) hr (by omega) hc]
    simp +decide
theorem info_bad {p : Ob} {r k : Int32} (h : ¬ (0 ≤ r.toInt ∧ r.toInt ≤ 3)) : F17 p r k = some (-2) := by
  unfold F17
  rw [vrx, if_neg h]; rfl
theorem stat9 {W : Int32} {p : Ob} (S : Sh W p) {a : Int32} (ha : gd (f_stats p) 9 = a.toInt) : F18 p 9 = some a := by
  have l1 := Sh_l_stats S
  unfold F18
  rw [if_neg (by decide), if_neg (by decide), if_neg (by decide), g1 (n := 9) rfl (by omega) ha]; rfl
set_option maxHeartbeats 1000000 in
theorem law_ok (x0 x1 x2 x3 x4 x5 : Int32) : ∃ τ, F0 x0 x1 x2 x3 x4 x5 = some (1, τ) ∧ τ.length - List.length ([] : QHeap) ≤ room_1.cells ∧ qhs τ - qhs [] ≤ room_1.slots := by
  obtain ⟨o, ho, W, cw, S, h0, hF, hs, hd⟩ := init_ok x0 x1 x1 x2
  have z0 : (0 : Int32).toInt = 0 := rfl
  have z1 : (1 : Int32).toInt = 1 := rfl
  have z3 : (3 : Int32).toInt = 3 := rfl
  have z255 : (255 : Int32).toInt = 255 := rfl
  have okv : (if x5 < 0 then (0 : Int32) else if (255 : Int32) < x5 then 0 else 1) = (if 0 ≤ x5.toInt ∧ x5.toInt ≤ 255 then 1 else 0) := by
    simp only [i_lt, z0, z255]
    by_cases a : x5.toInt < 0
    · rw [if_pos a, if_neg (by omega)]
    · rw [if_neg a]
      by_cases b : 255 < x5.toInt
      · rw [if_pos b, if_neg (by omega)]
      · rw [if_neg b, if_pos (by omega)]
  have okr : (if x3 < 0 then (0 : Int32) else if (3 : Int32) < x3 then 0 else 1) = (if 0 ≤ x3.toInt ∧ x3.toInt ≤ 3 then 1 else 0) := by
    simp only [i_lt, z0, z3]
    by_cases a : x3.toInt < 0
    · rw [if_pos a, if_neg (by omega)]
    · rw [if_neg a]
      by_cases b : 3 < x3.toInt
      · rw [if_pos b, if_neg (by omega)]
      · rw [if_neg b, if_pos (by omega)]
  have ck := clampR (a := x4) (lo := 0) (hi := 255) (by decide)
  obtain ⟨k, hk⟩ : ∃ k, k = (if x4 < 0 then 0 else if (255 : Int32) < x4 then 255 else x4) := ⟨_, rfl⟩
  rw [← hk, z0, z255] at ck
  have k3 := and_rng (x := x3 + 1) (m := 3) (by decide)
  rw [z3] at k3
  unfold F0
  rw [ho]
  simp only [Option.bind_some, okv, okr, ← hk]
  have km : (k - 1).toInt = k.toInt - 1 := by rw [i_sub (by omega) (by omega), z1]
  have k0 : k - 0 = k := by rw [i_eq, i_sub (by omega) (by omega), z0]; omega
  obtain ⟨u, hu⟩ : ∃ u, u = (x3 + 1) &&& 3 := ⟨_, rfl⟩
  rw [← hu] at k3 ⊢
  by_cases r : 0 ≤ x3.toInt ∧ x3.toInt ≤ 3
  · have une : u.toInt ≠ x3.toInt := by rw [hu]; exact small_cases (P := fun x => ((x + 1) &&& 3).toInt ≠ x.toInt) r.1 (n := 4) (by omega) (by decide)
    -- the loss is set
    obtain ⟨p, hp⟩ : ∃ p, p = s_lossLeft o ((f_lossLeft o).set x3.toInt.toNat k) := ⟨_, rfl⟩
    have l7 := Sh_l_lossLeft S
    have c0 : F3 o x3 x4 = some (1, p) := by
      unfold F3
      rw [vrx, if_pos r, clampE, ← hk]
      simp only [Option.bind_some]
      rw [if_neg (by decide), aset_at (n := x3.toInt.toNat) (by omega) (by omega), hp]; rfl
    have Sp : Sh W p := by rw [hp]; exact Sh_lossLeft S (by rw [List.length_set]; exact l7)
    have L0 : ∀ m, m < 4 → Fr p m (if m = x3.toInt.toNat then k.toInt else 0) := by
      intro m hm
      have t := hF m hm
      unfold Fr at t ⊢
      rw [hp]
      simp only [gs_srcPayload, gs_nextSeq, gs_stats, gs_state, gs_timer, gs_rxVal, gs_rxNext, gs_rxLead, gs_lossLeft, gs_drops, gs_delSeq, gs_delVal, gs_delLen]
      rw [gd_set (by omega)]
      by_cases e : m = x3.toInt.toNat
      · rw [if_pos e.symm, if_pos e]
        exact ⟨t.1, t.2.1, t.2.2.1, t.2.2.2.1, t.2.2.2.2.1, t.2.2.2.2.2.1, rfl, t.2.2.2.2.2.2.2⟩
      · rw [if_neg (fun q => e q.symm), if_neg e]
        exact t
    have p9 : f_stats p = List.replicate 10 0 := by rw [hp]; simp only [gs_srcPayload, gs_nextSeq, gs_stats, gs_state, gs_timer, gs_rxVal, gs_rxNext, gs_rxLead, gs_lossLeft, gs_drops, gs_delSeq, gs_delVal, gs_delLen]; exact hs
    have pn : f_nextSeq p = 0 := by rw [hp]; simp only [gs_srcPayload, gs_nextSeq, gs_stats, gs_state, gs_timer, gs_rxVal, gs_rxNext, gs_rxLead, gs_lossLeft, gs_drops, gs_delSeq, gs_delVal, gs_delLen]; exact h0
    by_cases v : 0 ≤ x5.toInt ∧ x5.toInt ≤ 255
    · obtain ⟨⟨r', q⟩, hq, q1, q2, q3, q4, q5, q6⟩ := send_ok Sp cw pn v (fun m => if m = x3.toInt.toNat then k.toInt else 0) (fun m => by split <;> omega) L0 (by rw [p9]; exact gd_rep _ _) (by rw [p9]; exact gd_rep _ _)
      simp only at q1 q2 q3 q4 q5 q6
      subst q1
      have du := (q5 u.toInt.toNat (by omega)).2 (if_neg (by omega))
      have dr := q5 x3.toInt.toNat (by omega)
      rw [if_pos rfl] at dr
      obtain ⟨i1, i2, _⟩ := info q2 (r := u) (n := u.toInt.toNat) (by omega) (by omega) (a := 1) (b := 0) (c := 0) du.1 du.2.1 du.2.2.1
      have cc : cnt (fun m => if m = x3.toInt.toNat then k.toInt else 0) 4 = if 0 < k.toInt then 1 else 0 := by
        have : x3.toInt.toNat = 0 ∨ x3.toInt.toNat = 1 ∨ x3.toInt.toNat = 2 ∨ x3.toInt.toNat = 3 := by omega
        rcases this with e | e | e | e <;> rw [e] <;> simp [cnt]
      rw [cc] at q6
      by_cases kz : 0 < k.toInt
      · obtain ⟨j1, j2, j3⟩ := info q2 (r := x3) (n := x3.toInt.toNat) (by omega) (by omega) (a := 0) (b := k - 1) (c := 1) (dr.1 kz).1 (by rw [km]; exact (dr.1 kz).2.1) (dr.1 kz).2.2
        rw [if_pos kz] at q6
        have s9 := stat9 q2 (a := 1) q6
        refine ⟨H0 q, ?_, by show 20 - 0 ≤ _; decide, by have := siz q2; have e : room_1.slots = 2304 := rfl; show qhs (H0 q) - 0 ≤ room_1.slots; rw [e]; omega⟩
        have kl : (0 : Int32) < k := by rw [i_lt, z0]; exact kz
        simp only [c0, hq, Option.bind_some, if_pos r, if_pos v, i1, i2, j1, j2, j3, s9, if_pos kl]
        simp +decide
      · have kz' : k.toInt = 0 := by omega
        have kk : k = 0 := by rw [i_eq, kz']; rfl
        obtain ⟨j1, j2, j3⟩ := info q2 (r := x3) (n := x3.toInt.toNat) (by omega) (by omega) (a := 1) (b := 0) (c := 0) (dr.2 kz').1 (dr.2 kz').2.1 (dr.2 kz').2.2.1
        rw [if_neg kz] at q6
        have s9 := stat9 q2 (a := 0) q6
        refine ⟨H0 q, ?_, by show 20 - 0 ≤ _; decide, by have := siz q2; have e : room_1.slots = 2304 := rfl; show qhs (H0 q) - 0 ≤ room_1.slots; rw [e]; omega⟩
        simp only [c0, hq, Option.bind_some, if_pos r, if_pos v, i1, i2, j1, j2, j3, s9, kk]
        simp +decide
    · have hq := bad_send Sp v
      have fu := L0 u.toInt.toNat (by omega)
      rw [if_neg (by omega)] at fu
      have fr := L0 x3.toInt.toNat (by omega)
      rw [if_pos rfl] at fr
      obtain ⟨i1, i2, _⟩ := info Sp (r := u) (n := u.toInt.toNat) (by omega) (by omega) (a := 0) (b := 0) (c := 0) fu.2.2.2.2.1 fu.2.2.2.2.2.2.1 fu.2.2.2.2.2.2.2
      obtain ⟨j1, j2, j3⟩ := info Sp (r := x3) (n := x3.toInt.toNat) (by omega) (by omega) (a := 0) (b := k) (c := 0) fr.2.2.2.2.1 fr.2.2.2.2.2.2.1 fr.2.2.2.2.2.2.2
      have s9 := stat9 Sp (a := 0) (by rw [p9]; exact gd_rep _ _)
      refine ⟨H0 p, ?_, by show 20 - 0 ≤ _; decide, by have := siz Sp; have e : room_1.slots = 2304 := rfl; show qhs (H0 p) - 0 ≤ room_1.slots; rw [e]; omega⟩
      simp only [c0, hq, Option.bind_some, if_pos r, if_neg v, i1, i2, j1, j2, j3, s9, k0]
      simp +decide [k0]
  · have c0 : F3 o x3 x4 = some (0, o) := by
      unfold F3
      rw [vrx, if_neg r]; rfl
    by_cases v : 0 ≤ x5.toInt ∧ x5.toInt ≤ 255
    · obtain ⟨⟨r', q⟩, hq, q1, q2, q3, q4, q5, q6⟩ := send_ok S cw h0 v (fun _ => 0) (fun _ => by omega) hF (by rw [hs]; exact gd_rep _ _) (by rw [hs]; exact gd_rep _ _)
      simp only at q1 q2 q3 q4 q5 q6
      subst q1
      have du := (q5 u.toInt.toNat (by omega)).2 rfl
      obtain ⟨i1, i2, _⟩ := info q2 (r := u) (n := u.toInt.toNat) (by omega) (by omega) (a := 1) (b := 0) (c := 0) du.1 du.2.1 du.2.2.1
      have s9 := stat9 q2 (a := 0) (by rw [q6]; simp [cnt])
      refine ⟨H0 q, ?_, by show 20 - 0 ≤ _; decide, by have := siz q2; have e : room_1.slots = 2304 := rfl; show qhs (H0 q) - 0 ≤ room_1.slots; rw [e]; omega⟩
      simp only [c0, hq, Option.bind_some, if_neg r, if_pos v, i1, i2, info_bad (p := q) (k := 5) r, info_bad (p := q) (k := 7) r, info_bad (p := q) (k := 0) r, s9]
      simp +decide
    · have hq := bad_send S v
      have fu := hF u.toInt.toNat (by omega)
      obtain ⟨i1, i2, _⟩ := info S (r := u) (n := u.toInt.toNat) (by omega) (by omega) (a := 0) (b := 0) (c := 0) fu.2.2.2.2.1 fu.2.2.2.2.2.2.1 fu.2.2.2.2.2.2.2
      have s9 := stat9 S (a := 0) (by rw [hs]; exact gd_rep _ _)
      refine ⟨H0 o, ?_, by show 20 - 0 ≤ _; decide, by have := siz S; have e : room_1.slots = 2304 := rfl; show qhs (H0 o) - 0 ≤ room_1.slots; rw [e]; omega⟩
      simp only [c0, hq, Option.bind_some, if_neg r, if_neg v, i1, i2, info_bad (p := o) (k := 5) r, info_bad (p := o) (k := 7) r, info_bad (p := o) (k := 0) r, s9]
      simp +decide
set_option maxRecDepth 65536 in
theorem comes_1 {Post : Tables → Env → Array Value → State → Outcome → State → Prop} (hpost : ∀ tb e args s v u, (limb_1_1.after args s (.returned v) u = true ∧ limb_1_2.after args s (.returned v) u = true ∧ True) → FrameEnd s (.returned v) u (Jvm.fieldLocs frame_1_writes args s ++ Jvm.arrayLocs frame_1_arrays args s ++ Jvm.staticLocs frame_1_statics s) 48 2304 → Post tb e args s (.returned v) u) :
    ArmFor flags0 classFile x code maxLocals ret World_1 tables_1 room_1 Calls_1 rest_1 Pre_1 Post := by
  intro l hfl _ _ p e ha hc hk s m args below hf hA hF happ hP
  obtain ⟨hcalls, hrest, hpre⟩ := hP
  obtain ⟨-, -, -, hnamed, -, -, -, hat⟩ := (Spec.applies_iff hf).mp happ
  obtain ⟨hg, hn⟩ := and_e (Cond.before_iff.mp (show (Jvm.Cond.and given_1 narrow_1).before args s = true from hpre))
  obtain ⟨g0, g1⟩ := and_e hg
  obtain ⟨w0, w1, w2, w3, w4, w5, rfl⟩ : ∃ w0 w1 w2 w3 w4 w5 : Value, args = #[w0, w1, w2, w3, w4, w5] := by
    have hs : args.size = 6 := by simpa [Cond.value, given_1] using g0
    obtain ⟨L⟩ := args
    match L, hs with
    | [w0, w1, w2, w3, w4, w5], _ => exact ⟨w0, w1, w2, w3, w4, w5, rfl⟩
  have hw := fun d (hd : d ∈ tables_1) => atoms_spec (ws := Jvm.Cond.code x code maxLocals ret :: tables_1) hat d (List.mem_cons_of_mem _ hd)
  obtain ⟨a0, g2⟩ := and_e g1
  obtain ⟨i0, ei0⟩ := is_v a0
  obtain rfl : w0 = (.int i0) := Option.some.inj ei0
  obtain ⟨a1, g3⟩ := and_e g2
  obtain ⟨i1, ei1⟩ := is_v a1
  obtain rfl : w1 = (.int i1) := Option.some.inj ei1
  obtain ⟨a2, g4⟩ := and_e g3
  obtain ⟨i2, ei2⟩ := is_v a2
  obtain rfl : w2 = (.int i2) := Option.some.inj ei2
  obtain ⟨a3, g5⟩ := and_e g4
  obtain ⟨i3, ei3⟩ := is_v a3
  obtain rfl : w3 = (.int i3) := Option.some.inj ei3
  obtain ⟨a4, g6⟩ := and_e g5
  obtain ⟨i4, ei4⟩ := is_v a4
  obtain rfl : w4 = (.int i4) := Option.some.inj ei4
  obtain ⟨i5, ei5⟩ := is_v g6
  obtain rfl : w5 = (.int i5) := Option.some.inj ei5
  obtain ⟨τ, hF0, hc1, hs1⟩ := law_ok i0 i1 i2 i3 i4 i5
  have Ad : QAd s.heap.size (fun k => s.heap.size + k) := ⟨fun k _ => rfl, fun i j h => Nat.add_left_cancel h⟩
  have hR : QRep s s.heap.size (fun k => s.heap.size + k) s.heap [] := ⟨Nat.le_refl _, rfl, fun k c h => by cases h⟩
  have T := tF0 (l := l) (Z := s) Ad (QW_ok hw) i0 i1 i2 i3 i4 i5 hF0
  have M := QTri.met (k := 0) (as := [.int i0, .int i1, .int i2, .int i3, .int i4, .int i5]) (by decide) T hR (Nat.le_of_ble_eq_true rfl) (fun q => by cases q) tables_1 (rm := room_1) (by decide) (by decide) hc1 hs1
  obtain ⟨n, o, h1, h2, h3, _, L, rfl, ⟨rfl, R', N⟩, hq⟩ := M p e ha hc hk s m _ below hf ((Spec.applies_iff_loose hf).mp happ).1 ⟨rfl, State.Warmed39.refl s, rfl⟩ trivial
  refine ⟨n, _, h1, h2, h3, hpost _ _ _ _ _ _ ⟨Cond.after_iff.mpr rfl, Cond.after_iff.mpr (eq_i res_at (Term.int_eval (1)) rfl), trivial⟩ ⟨hq.1, hq.2.1, (hq.2.2.sift fun y hy => Or.inr (N y hy)).mono hc1 hs1⟩⟩
theorem main_1_1 : Claimed_1_1 := comes_1 fun _ _ _ _ _ _ h hF => ⟨h.1, hF⟩
theorem main_1_2 : Claimed_1_2 := comes_1 fun _ _ _ _ _ _ h hF => ⟨h.2.1, hF⟩
end Jvm.Pilot.@@N@@
namespace Jvm.Pilot.@@N@@
open Jvm Jvm.ClassFile Sem Op Lib Jvm.Free Jvm.Stand Jvm.Pilot.@@N@@.Jvm.D
/-! MADE BY PROGRAM (witnessworld.py) out of the Statement's table words and the real class files: 11 classes; the members and pool entries that the words name. The judged class is class 1, her method 1. -/
namespace start1
open Jvm.ClassFile
def u (s : String) : CpInfo := .utf8 (stringToUtf16 s)
/-- a pool by its gaps: so many unusable entries, then the entry; so many at the end -/
def gap : Nat → List CpInfo → List CpInfo
  | 0, r => r
  | n + 1, r => .unusable :: gap n r
def poolList (es : List (Nat × CpInfo)) (last : Nat) : List CpInfo := es.foldr (fun e r => gap e.1 (e.2 :: r)) (gap last [])
def pool (es : List (Nat × CpInfo)) (last : Nat) : Array CpInfo := ⟨poolList es last⟩
def fileOf (pool : Array CpInfo) (this : Nat) (attrs : Array Attribute := #[]) (ms : Array MethodInfo := #[]) (fl : Nat := 33) (sup : Nat := 0) (ifs : Array Nat := #[]) (fds : Array FieldInfo := #[]) : ClassFile where
  minorVersion := 0
  majorVersion := 65
  constantPool := pool
  accessFlags := fl
  thisClass := this
  superClass := sup
  interfaces := ifs
  fields := fds
  methods := ms
  attributes := attrs
def plain (name : String) (sup : Option ClassId) : Class where
  name := name
  kind := .ordinary
  loader := none
  accessFlags := 33
  super := sup
  interfaces := #[]
  cf := none
  fields := #[]
  methods := #[]
  instanceTypes := #[]
  staticTypes := #[]
  resolved := #[]
  callSites := []
  init := .initialized
  statics := none
  mirror := none

def pool0 : Array CpInfo := pool [(5, u "<init>"), (0, u "()V"), (1, .class_ 10), (1, u "java/lang/Object")] 113

def k0c0 : Code := { maxStack := 0, maxLocals := 1, code := object_method_1_code, exceptionTable := #[], attributes := #[] }
def k0m0 : Method := { name := "<init>", desc := "()V", sig := { parameters := [], returnType := none }, accessFlags := 1, code := some k0c0 }
/-- java/lang/Object -/
def k0 : Class := { plain "java/lang/Object" none with
  accessFlags := 33
  interfaces := #[]
  cf := some (fileOf pool0 8 #[] #[{ accessFlags := 1, nameIndex := 5, descriptorIndex := 6, attributes := #[] }] 33 0 #[] #[])
  fields := #[]
  methods := #[k0m0]
  instanceTypes := #[]
  staticTypes := #[]
  resolved := Array.replicate 124 none
  statics := none }

def pool1 : Array CpInfo := pool [(2, .class_ 4), (1, u "java/lang/Object"), (0, u "<init>"), (0, u "()V"), (0, .class_ 8), (0, u "NakMulticast"), (0, .methodref 7 10), (0, .nameAndType 5 11), (0, u "(IIII)V"), (0, .methodref 7 13), (0, .nameAndType 14 15), (0, u "setLoss"), (0, u "(II)Z"), (0, .methodref 7 17), (0, .nameAndType 18 19), (0, u "send"), (0, u "(I)I"), (0, .methodref 7 21), (0, .nameAndType 22 23), (0, u "rxInfo"), (0, u "(II)I"), (0, .methodref 7 25), (0, .nameAndType 26 19), (0, u "stat"), (0, .class_ 28), (0, u "NakMulticastL2"), (2, u "law"), (0, u "(IIIIII)Z")] 3

def k1m0 : Method := { name := "<init>", desc := "()V", sig := { parameters := [], returnType := none }, accessFlags := 1, code := none }
def k1c1 : Code := { maxStack := 6, maxLocals := 21, code := code, exceptionTable := #[], attributes := #[] }
def k1m1 : Method := { name := "law", desc := "(IIIIII)Z", sig := { parameters := [.int, .int, .int, .int, .int, .int], returnType := some .boolean }, accessFlags := 9, code := some k1c1 }
/-- NakMulticastL2 -/
def k1 : Class := { plain "NakMulticastL2" (some 0) with
  accessFlags := 33
  interfaces := #[]
  cf := some (fileOf pool1 27 #[] #[{ accessFlags := 1, nameIndex := 5, descriptorIndex := 6, attributes := #[] }, { accessFlags := 9, nameIndex := 31, descriptorIndex := 32, attributes := #[] }] 33 2 #[] #[])
  fields := #[]
  methods := #[k1m0, k1m1]
  instanceTypes := #[]
  staticTypes := #[]
  resolved := Array.replicate 36 none
  statics := none }

def pool2 : Array CpInfo := pool [(1, .methodref 2 3), (0, .class_ 4), (0, .nameAndType 5 6), (0, u "java/lang/Object"), (0, u "<init>"), (0, u "()V"), (0, .fieldref 8 9), (0, .class_ 10), (0, .nameAndType 11 12), (0, u "NakMulticast"), (0, u "srcPayload"), (0, u "[I"), (0, .fieldref 8 14), (0, .nameAndType 15 16), (0, u "pend"), (0, u "[Z"), (0, .fieldref 8 18), (0, .nameAndType 19 12), (0, u "queue"), (0, .fieldref 8 21), (0, .nameAndType 22 12), (0, u "stats"), (0, .fieldref 8 24), (0, .nameAndType 25 12), (0, u "state"), (0, .fieldref 8 27), (0, .nameAndType 28 12), (0, u "timer"), (0, .fieldref 8 30), (0, .nameAndType 31 12), (0, u "rxVal"), (0, .fieldref 8 33), (0, .nameAndType 34 12), (0, u "rxNext"), (0, .fieldref 8 36), (0, .nameAndType 37 12), (0, u "rxLead"), (0, .fieldref 8 39), (0, .nameAndType 40 12), (0, u "rxTrail"), (0, .fieldref 8 42), (0, .nameAndType 43 12), (0, u "lossLeft"), (0, .fieldref 8 45), (0, .nameAndType 46 12), (0, u "dups"), (0, .fieldref 8 48), (0, .nameAndType 49 12), (0, u "drops"), (0, .fieldref 8 51), (0, .nameAndType 52 12), (0, u "delSeq"), (0, .fieldref 8 54), (0, .nameAndType 55 12), (0, u "delVal"), (0, .fieldref 8 57), (0, .nameAndType 58 12), (0, u "delLen"), (0, .fieldref 8 60), (0, .nameAndType 61 12), (0, u "lostLog"), (0, .fieldref 8 63), (0, .nameAndType 64 12), (0, u "lostLen"), (0, .fieldref 8 66), (0, .nameAndType 67 12), (0, u "nakBuf"), (0, .methodref 8 69), (0, .nameAndType 70 71), (0, u "clamp"), (0, u "(III)I"), (0, .fieldref 8 73), (0, .nameAndType 74 75), (0, u "win"), (0, u "I"), (0, .fieldref 8 77), (0, .nameAndType 78 75), (0, u "back"), (0, .fieldref 8 80), (0, .nameAndType 81 75), (0, u "repair"), (0, .fieldref 8 83), (0, .nameAndType 84 75), (0, u "period"), (0, .fieldref 8 86), (0, .nameAndType 87 75), (0, u "nextSeq"), (0, .methodref 8 89), (0, .nameAndType 90 91), (0, u "multicastSource"), (0, u "(III)V"), (0, .methodref 8 93), (0, .nameAndType 94 95), (0, u "validRx"), (0, u "(I)Z"), (9, .methodref 8 106), (0, .nameAndType 107 108), (0, u "lead"), (0, u "()I"), (0, .methodref 8 110), (0, .nameAndType 111 108), (0, u "trail"), (0, .fieldref 8 113), (0, .nameAndType 114 75), (0, u "qLen"), (0, .methodref 8 116), (0, .nameAndType 117 95), (0, u "validSeq"), (0, .methodref 8 119), (0, .nameAndType 120 91), (0, u "aggregatorApply"), (0, .methodref 8 122), (0, .nameAndType 123 124), (0, u "copyTo"), (0, u "(IIIIII)V"), (0, .methodref 8 126), (0, .nameAndType 127 128), (0, u "applyData"), (0, u "(IIIII)V"), (0, .methodref 8 130), (0, .nameAndType 131 132), (0, u "applyLead"), (0, u "(II)V"), (0, .methodref 8 134), (0, .nameAndType 135 132), (0, u "applyTrail"), (0, .methodref 8 137), (0, .nameAndType 138 139), (0, u "deliver"), (0, u "(I)V"), (9, u "(I)I"), (3, .methodref 8 154), (0, .nameAndType 155 91), (0, u "appendDelivered"), (2, u "nakLen"), (9, u "MAX_SEQ"), (2, u "RECEIVERS"), (1, u "BAD"), (1, u "RX_UNKNOWN"), (1, u "RX_BACKOFF"), (1, u "RX_WAIT_NCF"), (1, u "RX_WAIT_DATA"), (1, u "RX_HAVE"), (0, u "RX_DELIVERED"), (1, u "RX_LOST"), (1, u "INFO_NEXT"), (0, u "INFO_LEAD"), (0, u "INFO_TRAIL"), (0, u "INFO_DELIVERED"), (0, u "INFO_LOST"), (0, u "INFO_LOSS_LEFT"), (0, u "INFO_DUPLICATES"), (0, u "INFO_DROPPED"), (1, u "STAT_TIME"), (0, u "STAT_ODATA"), (0, u "STAT_RDATA"), (0, u "STAT_SPM"), (0, u "STAT_NAK"), (0, u "STAT_FORWARDED"), (0, u "STAT_SUPPRESSED"), (0, u "STAT_NCF"), (0, u "STAT_QUEUE"), (1, u "STAT_DROPPED"), (1, u "(IIII)V"), (3, u "send"), (1, u "setLoss"), (0, u "(II)Z"), (3, u "stat"), (2, u "rxInfo"), (0, u "(II)I")] 7

def k2c0 : Code := { maxStack := 5, maxLocals := 6, code := prog_1_method_1_code, exceptionTable := #[], attributes := #[] }
def k2m0 : Method := { name := "<init>", desc := "(IIII)V", sig := { parameters := [.int, .int, .int, .int], returnType := none }, accessFlags := 1, code := some k2c0 }
def k2c1 : Code := { maxStack := 4, maxLocals := 3, code := prog_1_method_2_code, exceptionTable := #[], attributes := #[] }
def k2m1 : Method := { name := "send", desc := "(I)I", sig := { parameters := [.int], returnType := some .int }, accessFlags := 1, code := some k2c1 }
def k2c2 : Code := { maxStack := 6, maxLocals := 3, code := prog_1_method_4_code, exceptionTable := #[], attributes := #[] }
def k2m2 : Method := { name := "setLoss", desc := "(II)Z", sig := { parameters := [.int, .int], returnType := some .boolean }, accessFlags := 1, code := some k2c2 }
def k2c3 : Code := { maxStack := 2, maxLocals := 2, code := prog_1_method_8_code, exceptionTable := #[], attributes := #[] }
def k2m3 : Method := { name := "stat", desc := "(I)I", sig := { parameters := [.int], returnType := some .int }, accessFlags := 1, code := some k2c3 }
def k2c4 : Code := { maxStack := 2, maxLocals := 3, code := prog_1_method_11_code, exceptionTable := #[], attributes := #[] }
def k2m4 : Method := { name := "rxInfo", desc := "(II)I", sig := { parameters := [.int, .int], returnType := some .int }, accessFlags := 1, code := some k2c4 }
def k2c5 : Code := { maxStack := 2, maxLocals := 4, code := prog_1_method_17_code, exceptionTable := #[], attributes := #[] }
def k2m5 : Method := { name := "clamp", desc := "(III)I", sig := { parameters := [.int, .int, .int], returnType := some .int }, accessFlags := 2, code := some k2c5 }
def k2c6 : Code := { maxStack := 2, maxLocals := 2, code := prog_1_method_18_code, exceptionTable := #[], attributes := #[] }
def k2m6 : Method := { name := "validRx", desc := "(I)Z", sig := { parameters := [.int], returnType := some .boolean }, accessFlags := 2, code := some k2c6 }
def k2c7 : Code := { maxStack := 2, maxLocals := 2, code := prog_1_method_19_code, exceptionTable := #[], attributes := #[] }
def k2m7 : Method := { name := "validSeq", desc := "(I)Z", sig := { parameters := [.int], returnType := some .boolean }, accessFlags := 2, code := some k2c7 }
def k2c8 : Code := { maxStack := 2, maxLocals := 1, code := prog_1_method_20_code, exceptionTable := #[], attributes := #[] }
def k2m8 : Method := { name := "lead", desc := "()I", sig := { parameters := [], returnType := some .int }, accessFlags := 2, code := some k2c8 }
def k2c9 : Code := { maxStack := 2, maxLocals := 2, code := prog_1_method_21_code, exceptionTable := #[], attributes := #[] }
def k2m9 : Method := { name := "trail", desc := "()I", sig := { parameters := [], returnType := some .int }, accessFlags := 2, code := some k2c9 }
def k2c10 : Code := { maxStack := 7, maxLocals := 7, code := prog_1_method_24_code, exceptionTable := #[], attributes := #[] }
def k2m10 : Method := { name := "multicastSource", desc := "(III)V", sig := { parameters := [.int, .int, .int], returnType := none }, accessFlags := 2, code := some k2c10 }
def k2c11 : Code := { maxStack := 3, maxLocals := 5, code := prog_1_method_25_code, exceptionTable := #[], attributes := #[] }
def k2m11 : Method := { name := "aggregatorApply", desc := "(III)V", sig := { parameters := [.int, .int, .int], returnType := none }, accessFlags := 2, code := some k2c11 }
def k2c12 : Code := { maxStack := 6, maxLocals := 7, code := prog_1_method_27_code, exceptionTable := #[], attributes := #[] }
def k2m12 : Method := { name := "copyTo", desc := "(IIIIII)V", sig := { parameters := [.int, .int, .int, .int, .int, .int], returnType := none }, accessFlags := 2, code := some k2c12 }
def k2c13 : Code := { maxStack := 4, maxLocals := 8, code := prog_1_method_28_code, exceptionTable := #[], attributes := #[] }
def k2m13 : Method := { name := "applyData", desc := "(IIIII)V", sig := { parameters := [.int, .int, .int, .int, .int], returnType := none }, accessFlags := 2, code := some k2c13 }
def k2c14 : Code := { maxStack := 4, maxLocals := 6, code := prog_1_method_30_code, exceptionTable := #[], attributes := #[] }
def k2m14 : Method := { name := "applyLead", desc := "(II)V", sig := { parameters := [.int, .int], returnType := none }, accessFlags := 2, code := some k2c14 }
def k2c15 : Code := { maxStack := 3, maxLocals := 7, code := prog_1_method_31_code, exceptionTable := #[], attributes := #[] }
def k2m15 : Method := { name := "applyTrail", desc := "(II)V", sig := { parameters := [.int, .int], returnType := none }, accessFlags := 2, code := some k2c15 }
def k2c16 : Code := { maxStack := 5, maxLocals := 5, code := prog_1_method_33_code, exceptionTable := #[], attributes := #[] }
def k2m16 : Method := { name := "deliver", desc := "(I)V", sig := { parameters := [.int], returnType := none }, accessFlags := 2, code := some k2c16 }
def k2c17 : Code := { maxStack := 4, maxLocals := 5, code := prog_1_method_34_code, exceptionTable := #[], attributes := #[] }
def k2m17 : Method := { name := "appendDelivered", desc := "(III)V", sig := { parameters := [.int, .int, .int], returnType := none }, accessFlags := 2, code := some k2c17 }
/-- NakMulticast -/
def k2 : Class := { plain "NakMulticast" (some 0) with
  accessFlags := 49
  interfaces := #[]
  cf := some (fileOf pool2 8 #[] #[{ accessFlags := 1, nameIndex := 5, descriptorIndex := 209, attributes := #[] }, { accessFlags := 1, nameIndex := 213, descriptorIndex := 149, attributes := #[] }, { accessFlags := 1, nameIndex := 215, descriptorIndex := 216, attributes := #[] }, { accessFlags := 1, nameIndex := 220, descriptorIndex := 149, attributes := #[] }, { accessFlags := 1, nameIndex := 223, descriptorIndex := 224, attributes := #[] }, { accessFlags := 2, nameIndex := 70, descriptorIndex := 71, attributes := #[] }, { accessFlags := 2, nameIndex := 94, descriptorIndex := 95, attributes := #[] }, { accessFlags := 2, nameIndex := 117, descriptorIndex := 95, attributes := #[] }, { accessFlags := 2, nameIndex := 107, descriptorIndex := 108, attributes := #[] }, { accessFlags := 2, nameIndex := 111, descriptorIndex := 108, attributes := #[] }, { accessFlags := 2, nameIndex := 90, descriptorIndex := 91, attributes := #[] }, { accessFlags := 2, nameIndex := 120, descriptorIndex := 91, attributes := #[] }, { accessFlags := 2, nameIndex := 123, descriptorIndex := 124, attributes := #[] }, { accessFlags := 2, nameIndex := 127, descriptorIndex := 128, attributes := #[] }, { accessFlags := 2, nameIndex := 131, descriptorIndex := 132, attributes := #[] }, { accessFlags := 2, nameIndex := 135, descriptorIndex := 132, attributes := #[] }, { accessFlags := 2, nameIndex := 138, descriptorIndex := 139, attributes := #[] }, { accessFlags := 2, nameIndex := 155, descriptorIndex := 91, attributes := #[] }] 49 2 #[] #[{ accessFlags := 25, nameIndex := 168, descriptorIndex := 75, attributes := #[] }, { accessFlags := 25, nameIndex := 171, descriptorIndex := 75, attributes := #[] }, { accessFlags := 25, nameIndex := 173, descriptorIndex := 75, attributes := #[] }, { accessFlags := 25, nameIndex := 175, descriptorIndex := 75, attributes := #[] }, { accessFlags := 25, nameIndex := 177, descriptorIndex := 75, attributes := #[] }, { accessFlags := 25, nameIndex := 179, descriptorIndex := 75, attributes := #[] }, { accessFlags := 25, nameIndex := 181, descriptorIndex := 75, attributes := #[] }, { accessFlags := 25, nameIndex := 183, descriptorIndex := 75, attributes := #[] }, { accessFlags := 25, nameIndex := 184, descriptorIndex := 75, attributes := #[] }, { accessFlags := 25, nameIndex := 186, descriptorIndex := 75, attributes := #[] }, { accessFlags := 25, nameIndex := 188, descriptorIndex := 75, attributes := #[] }, { accessFlags := 25, nameIndex := 189, descriptorIndex := 75, attributes := #[] }, { accessFlags := 25, nameIndex := 190, descriptorIndex := 75, attributes := #[] }, { accessFlags := 25, nameIndex := 191, descriptorIndex := 75, attributes := #[] }, { accessFlags := 25, nameIndex := 192, descriptorIndex := 75, attributes := #[] }, { accessFlags := 25, nameIndex := 193, descriptorIndex := 75, attributes := #[] }, { accessFlags := 25, nameIndex := 194, descriptorIndex := 75, attributes := #[] }, { accessFlags := 25, nameIndex := 195, descriptorIndex := 75, attributes := #[] }, { accessFlags := 25, nameIndex := 197, descriptorIndex := 75, attributes := #[] }, { accessFlags := 25, nameIndex := 198, descriptorIndex := 75, attributes := #[] }, { accessFlags := 25, nameIndex := 199, descriptorIndex := 75, attributes := #[] }, { accessFlags := 25, nameIndex := 200, descriptorIndex := 75, attributes := #[] }, { accessFlags := 25, nameIndex := 201, descriptorIndex := 75, attributes := #[] }, { accessFlags := 25, nameIndex := 202, descriptorIndex := 75, attributes := #[] }, { accessFlags := 25, nameIndex := 203, descriptorIndex := 75, attributes := #[] }, { accessFlags := 25, nameIndex := 204, descriptorIndex := 75, attributes := #[] }, { accessFlags := 25, nameIndex := 205, descriptorIndex := 75, attributes := #[] }, { accessFlags := 25, nameIndex := 207, descriptorIndex := 75, attributes := #[] }, { accessFlags := 2, nameIndex := 74, descriptorIndex := 75, attributes := #[] }, { accessFlags := 2, nameIndex := 78, descriptorIndex := 75, attributes := #[] }, { accessFlags := 2, nameIndex := 81, descriptorIndex := 75, attributes := #[] }, { accessFlags := 2, nameIndex := 84, descriptorIndex := 75, attributes := #[] }, { accessFlags := 2, nameIndex := 87, descriptorIndex := 75, attributes := #[] }, { accessFlags := 18, nameIndex := 11, descriptorIndex := 12, attributes := #[] }, { accessFlags := 18, nameIndex := 15, descriptorIndex := 16, attributes := #[] }, { accessFlags := 18, nameIndex := 19, descriptorIndex := 12, attributes := #[] }, { accessFlags := 2, nameIndex := 114, descriptorIndex := 75, attributes := #[] }, { accessFlags := 18, nameIndex := 22, descriptorIndex := 12, attributes := #[] }, { accessFlags := 18, nameIndex := 25, descriptorIndex := 12, attributes := #[] }, { accessFlags := 18, nameIndex := 28, descriptorIndex := 12, attributes := #[] }, { accessFlags := 18, nameIndex := 31, descriptorIndex := 12, attributes := #[] }, { accessFlags := 18, nameIndex := 34, descriptorIndex := 12, attributes := #[] }, { accessFlags := 18, nameIndex := 37, descriptorIndex := 12, attributes := #[] }, { accessFlags := 18, nameIndex := 40, descriptorIndex := 12, attributes := #[] }, { accessFlags := 18, nameIndex := 43, descriptorIndex := 12, attributes := #[] }, { accessFlags := 18, nameIndex := 46, descriptorIndex := 12, attributes := #[] }, { accessFlags := 18, nameIndex := 49, descriptorIndex := 12, attributes := #[] }, { accessFlags := 18, nameIndex := 52, descriptorIndex := 12, attributes := #[] }, { accessFlags := 18, nameIndex := 55, descriptorIndex := 12, attributes := #[] }, { accessFlags := 18, nameIndex := 58, descriptorIndex := 12, attributes := #[] }, { accessFlags := 18, nameIndex := 61, descriptorIndex := 12, attributes := #[] }, { accessFlags := 18, nameIndex := 64, descriptorIndex := 12, attributes := #[] }, { accessFlags := 18, nameIndex := 67, descriptorIndex := 12, attributes := #[] }, { accessFlags := 2, nameIndex := 158, descriptorIndex := 75, attributes := #[] }])
  fields := #[{ name := "MAX_SEQ", type := .int, accessFlags := 25, slot := 0, constantValue := 0 }, { name := "RECEIVERS", type := .int, accessFlags := 25, slot := 1, constantValue := 0 }, { name := "BAD", type := .int, accessFlags := 25, slot := 2, constantValue := 0 }, { name := "RX_UNKNOWN", type := .int, accessFlags := 25, slot := 3, constantValue := 0 }, { name := "RX_BACKOFF", type := .int, accessFlags := 25, slot := 4, constantValue := 0 }, { name := "RX_WAIT_NCF", type := .int, accessFlags := 25, slot := 5, constantValue := 0 }, { name := "RX_WAIT_DATA", type := .int, accessFlags := 25, slot := 6, constantValue := 0 }, { name := "RX_HAVE", type := .int, accessFlags := 25, slot := 7, constantValue := 0 }, { name := "RX_DELIVERED", type := .int, accessFlags := 25, slot := 8, constantValue := 0 }, { name := "RX_LOST", type := .int, accessFlags := 25, slot := 9, constantValue := 0 }, { name := "INFO_NEXT", type := .int, accessFlags := 25, slot := 10, constantValue := 0 }, { name := "INFO_LEAD", type := .int, accessFlags := 25, slot := 11, constantValue := 0 }, { name := "INFO_TRAIL", type := .int, accessFlags := 25, slot := 12, constantValue := 0 }, { name := "INFO_DELIVERED", type := .int, accessFlags := 25, slot := 13, constantValue := 0 }, { name := "INFO_LOST", type := .int, accessFlags := 25, slot := 14, constantValue := 0 }, { name := "INFO_LOSS_LEFT", type := .int, accessFlags := 25, slot := 15, constantValue := 0 }, { name := "INFO_DUPLICATES", type := .int, accessFlags := 25, slot := 16, constantValue := 0 }, { name := "INFO_DROPPED", type := .int, accessFlags := 25, slot := 17, constantValue := 0 }, { name := "STAT_TIME", type := .int, accessFlags := 25, slot := 18, constantValue := 0 }, { name := "STAT_ODATA", type := .int, accessFlags := 25, slot := 19, constantValue := 0 }, { name := "STAT_RDATA", type := .int, accessFlags := 25, slot := 20, constantValue := 0 }, { name := "STAT_SPM", type := .int, accessFlags := 25, slot := 21, constantValue := 0 }, { name := "STAT_NAK", type := .int, accessFlags := 25, slot := 22, constantValue := 0 }, { name := "STAT_FORWARDED", type := .int, accessFlags := 25, slot := 23, constantValue := 0 }, { name := "STAT_SUPPRESSED", type := .int, accessFlags := 25, slot := 24, constantValue := 0 }, { name := "STAT_NCF", type := .int, accessFlags := 25, slot := 25, constantValue := 0 }, { name := "STAT_QUEUE", type := .int, accessFlags := 25, slot := 26, constantValue := 0 }, { name := "STAT_DROPPED", type := .int, accessFlags := 25, slot := 27, constantValue := 0 }, { name := "win", type := .int, accessFlags := 2, slot := 0, constantValue := 0 }, { name := "back", type := .int, accessFlags := 2, slot := 1, constantValue := 0 }, { name := "repair", type := .int, accessFlags := 2, slot := 2, constantValue := 0 }, { name := "period", type := .int, accessFlags := 2, slot := 3, constantValue := 0 }, { name := "nextSeq", type := .int, accessFlags := 2, slot := 4, constantValue := 0 }, { name := "srcPayload", type := (.array .int), accessFlags := 18, slot := 5, constantValue := 0 }, { name := "pend", type := (.array .boolean), accessFlags := 18, slot := 6, constantValue := 0 }, { name := "queue", type := (.array .int), accessFlags := 18, slot := 7, constantValue := 0 }, { name := "qLen", type := .int, accessFlags := 2, slot := 8, constantValue := 0 }, { name := "stats", type := (.array .int), accessFlags := 18, slot := 9, constantValue := 0 }, { name := "state", type := (.array .int), accessFlags := 18, slot := 10, constantValue := 0 }, { name := "timer", type := (.array .int), accessFlags := 18, slot := 11, constantValue := 0 }, { name := "rxVal", type := (.array .int), accessFlags := 18, slot := 12, constantValue := 0 }, { name := "rxNext", type := (.array .int), accessFlags := 18, slot := 13, constantValue := 0 }, { name := "rxLead", type := (.array .int), accessFlags := 18, slot := 14, constantValue := 0 }, { name := "rxTrail", type := (.array .int), accessFlags := 18, slot := 15, constantValue := 0 }, { name := "lossLeft", type := (.array .int), accessFlags := 18, slot := 16, constantValue := 0 }, { name := "dups", type := (.array .int), accessFlags := 18, slot := 17, constantValue := 0 }, { name := "drops", type := (.array .int), accessFlags := 18, slot := 18, constantValue := 0 }, { name := "delSeq", type := (.array .int), accessFlags := 18, slot := 19, constantValue := 0 }, { name := "delVal", type := (.array .int), accessFlags := 18, slot := 20, constantValue := 0 }, { name := "delLen", type := (.array .int), accessFlags := 18, slot := 21, constantValue := 0 }, { name := "lostLog", type := (.array .int), accessFlags := 18, slot := 22, constantValue := 0 }, { name := "lostLen", type := (.array .int), accessFlags := 18, slot := 23, constantValue := 0 }, { name := "nakBuf", type := (.array .int), accessFlags := 18, slot := 24, constantValue := 0 }, { name := "nakLen", type := .int, accessFlags := 2, slot := 25, constantValue := 0 }]
  methods := #[k2m0, k2m1, k2m2, k2m3, k2m4, k2m5, k2m6, k2m7, k2m8, k2m9, k2m10, k2m11, k2m12, k2m13, k2m14, k2m15, k2m16, k2m17]
  instanceTypes := #[.int, .int, .int, .int, .int, (.array .int), (.array .boolean), (.array .int), .int, (.array .int), (.array .int), (.array .int), (.array .int), (.array .int), (.array .int), (.array .int), (.array .int), (.array .int), (.array .int), (.array .int), (.array .int), (.array .int), (.array .int), (.array .int), (.array .int), .int]
  staticTypes := #[.int, .int, .int, .int, .int, .int, .int, .int, .int, .int, .int, .int, .int, .int, .int, .int, .int, .int, .int, .int, .int, .int, .int, .int, .int, .int, .int, .int]
  resolved := Array.replicate 232 none
  statics := none }

def pool3 : Array CpInfo := pool [(1, u "java/lang/Cloneable"), (0, .class_ 1), (0, u "java/lang/Object"), (0, .class_ 3)] 3

/-- java/lang/Cloneable -/
def k3 : Class := { plain "java/lang/Cloneable" (some 0) with
  accessFlags := 1537
  interfaces := #[]
  cf := some (fileOf pool3 2 #[] #[] 1537 4 #[] #[])
  fields := #[]
  methods := #[]
  instanceTypes := #[]
  staticTypes := #[]
  resolved := Array.replicate 8 none
  statics := none }

def pool4 : Array CpInfo := pool [(1, u "java/io/Serializable"), (0, .class_ 1), (0, u "java/lang/Object"), (0, .class_ 3)] 3

/-- java/io/Serializable -/
def k4 : Class := { plain "java/io/Serializable" (some 0) with
  accessFlags := 1537
  interfaces := #[]
  cf := some (fileOf pool4 2 #[] #[] 1537 4 #[] #[])
  fields := #[]
  methods := #[]
  instanceTypes := #[]
  staticTypes := #[]
  resolved := Array.replicate 8 none
  statics := none }

/-- the primitive boolean -/
def k5 : Class := { plain "boolean" none with kind := .primitive 'Z', accessFlags := 0x411 }
/-- [Z -/
def k6 : Class := { plain "[Z" (some 0) with kind := .array 5 .boolean, interfaces := #[3, 4], accessFlags := 1041 }

/-- the primitive byte -/
def k7 : Class := { plain "byte" none with kind := .primitive 'B', accessFlags := 0x411 }
/-- [B -/
def k8 : Class := { plain "[B" (some 0) with kind := .array 7 .byte, interfaces := #[3, 4], accessFlags := 1041 }

/-- the primitive int -/
def k9 : Class := { plain "int" none with kind := .primitive 'I', accessFlags := 0x411 }
/-- [I -/
def k10 : Class := { plain "[I" (some 0) with kind := .array 9 .int, interfaces := #[3, 4], accessFlags := 1041 }

def heap : Heap := #[]
def classes : Array Class := #[k0, k1, k2, k3, k4, k5, k6, k7, k8, k9, k10]
def interned : List (Array UInt16 × Addr) := []
def slotsUsed : Nat := 0
def theMethod : MethodId := ⟨1, 1⟩
def args0 : Array Value := #[.int 5, .int 5, .int 5, .int 5, .int 5, .int 5]
def aboutOver (below : List Frame) : State where
  vm := { classes := classes, interned := interned.toArray }
  heap := heap
  slotsUsed := slotsUsed
  threads := #[{ frames := .invoking theMethod args0 :: below }]
def below0 : List Frame := [.native { method := ⟨0, 0⟩, args := #[] }]
def about1 : State := aboutOver below0
def p0 : Program := .bare "" "" ""
def e0 : Env := launch0.env 0 0 0
theorem w_frames : about1.frames = Frame.invoking theMethod args0 :: below0 := rfl
set_option maxRecDepth 65536 in
theorem w_args : argsFit about1.vm theMethod args0 = true := by decide +kernel
set_option maxRecDepth 65536 in
theorem w_heap : heapFits about1 = true := by decide +kernel
set_option maxRecDepth 65536 in
theorem w_runnable : about1.curStatus? = some .runnable := by decide +kernel
set_option maxRecDepth 65536 in
theorem w_alone : about1.alone = true := by decide +kernel
set_option maxRecDepth 65536 in
theorem w_named : about1.methodNamed? x = some theMethod := by decide +kernel
set_option maxRecDepth 65536 in
theorem w_hears : about1.hears theMethod below0 = true := by decide +kernel
set_option maxRecDepth 65536 in
theorem w_ripe : about1.ripe theMethod args0 below0 = true := by decide +kernel
theorem w_running : about1.status = .running := rfl
set_option maxRecDepth 65536 in
theorem w_room : about1.hasRoom e0.platform room_1 = true :=
  launch0.hasRoom_least _ room_1 (by decide +kernel) (by decide +kernel) (by decide +kernel) (by decide +kernel) (by decide +kernel) (by decide +kernel)
theorem allAtoms_all (ts : List Jvm.Cond) (a : Array Jvm.Value) (st : Jvm.State) : (allAtoms ts).before a st = ts.all (fun c => c.before a st) := by
  induction ts with
  | nil => rfl
  | cons c t ih =>
    show (Jvm.Cond.and c (allAtoms t)).before a st = _
    rw [Jvm.Cond.before_and, ih, List.all_cons]
def words1 : List Jvm.Cond := Jvm.Cond.code x code maxLocals ret :: tables_1
/-- a 'code' word, met by the world's own term for the bytes: nothing is compared byte by byte -/
theorem code_word {y : MethodName} {bytes : ByteArray} {mx : Nat} {rt : Option FieldType} {a : Array Value} {s : State} {m : MethodId} {meth : Method} {c : Code} (h1 : s.methodNamed? y = some m) (h2 : s.vm.method? m = some meth) (h3 : meth.code = some c) (h4 : c.code = bytes)
    (h5 : (c.maxLocals == mx && c.exceptionTable.isEmpty && decide (c.maxStack ≤ mostOperands) && decide (meth.sig.returnType = rt) && !meth.locks && decide (parseMethodDescriptor y.desc = some meth.sig)) = true) : (Jvm.Cond.code y bytes mx rt).before a s = true := by
  simp only [Bool.and_eq_true, beq_iff_eq, Bool.not_eq_true', decide_eq_true_eq] at h5
  obtain ⟨⟨⟨⟨⟨g1, g2⟩, g3⟩, g4⟩, g5⟩, g6⟩ := h5
  simp [Cond.before, Cond.holds, Cond.value, h1, h2, h3, h4, g1, g2, g3, g4, g5, g6]
def isCode : Jvm.Cond → Bool
  | .code _ _ _ _ => true
  | _ => false
theorem all_split {L : List Jvm.Cond} {P : Jvm.Cond → Bool} (h1 : L.all (fun c => isCode c || P c) = true) (h2 : ∀ c ∈ L.filter isCode, P c = true) : L.all P = true := by
  refine List.all_eq_true.mpr fun c hc => ?_
  have h := List.all_eq_true.mp h1 c hc
  rcases Bool.eq_false_or_eq_true (isCode c) with hi | hi
  · exact h2 c (List.mem_filter.mpr ⟨hc, hi⟩)
  · simpa [hi] using h
set_option maxRecDepth 65536 in
theorem w_c0 : (Jvm.Cond.code x code maxLocals ret).before args0 about1 = true := code_word (m := ⟨1, 1⟩) (meth := k1m1) (c := k1c1) (by decide +kernel) rfl rfl rfl (by decide +kernel)
set_option maxRecDepth 65536 in
theorem w_c1 : (Jvm.Cond.code ({ cls := "NakMulticast", name := "<init>", desc := "(IIII)V" } : Jvm.MethodName) prog_1_method_1_code (6 : Nat) (Option.none : Option Jvm.ClassFile.FieldType)).before args0 about1 = true := code_word (m := ⟨2, 0⟩) (meth := k2m0) (c := k2c0) (by decide +kernel) rfl rfl rfl (by decide +kernel)
set_option maxRecDepth 65536 in
theorem w_c2 : (Jvm.Cond.code ({ cls := "java/lang/Object", name := "<init>", desc := "()V" } : Jvm.MethodName) object_method_1_code (1 : Nat) (Option.none : Option Jvm.ClassFile.FieldType)).before args0 about1 = true := code_word (m := ⟨0, 0⟩) (meth := k0m0) (c := k0c0) (by decide +kernel) rfl rfl rfl (by decide +kernel)
set_option maxRecDepth 65536 in
theorem w_c3 : (Jvm.Cond.code ({ cls := "NakMulticast", name := "clamp", desc := "(III)I" } : Jvm.MethodName) prog_1_method_17_code (4 : Nat) (Option.some Jvm.ClassFile.FieldType.int)).before args0 about1 = true := code_word (m := ⟨2, 5⟩) (meth := k2m5) (c := k2c5) (by decide +kernel) rfl rfl rfl (by decide +kernel)
set_option maxRecDepth 65536 in
theorem w_c4 : (Jvm.Cond.code ({ cls := "NakMulticast", name := "setLoss", desc := "(II)Z" } : Jvm.MethodName) prog_1_method_4_code (3 : Nat) (Option.some Jvm.ClassFile.FieldType.boolean)).before args0 about1 = true := code_word (m := ⟨2, 2⟩) (meth := k2m2) (c := k2c2) (by decide +kernel) rfl rfl rfl (by decide +kernel)
set_option maxRecDepth 65536 in
theorem w_c5 : (Jvm.Cond.code ({ cls := "NakMulticast", name := "validRx", desc := "(I)Z" } : Jvm.MethodName) prog_1_method_18_code (2 : Nat) (Option.some Jvm.ClassFile.FieldType.boolean)).before args0 about1 = true := code_word (m := ⟨2, 6⟩) (meth := k2m6) (c := k2c6) (by decide +kernel) rfl rfl rfl (by decide +kernel)
set_option maxRecDepth 65536 in
theorem w_c6 : (Jvm.Cond.code ({ cls := "NakMulticast", name := "send", desc := "(I)I" } : Jvm.MethodName) prog_1_method_2_code (3 : Nat) (Option.some Jvm.ClassFile.FieldType.int)).before args0 about1 = true := code_word (m := ⟨2, 1⟩) (meth := k2m1) (c := k2c1) (by decide +kernel) rfl rfl rfl (by decide +kernel)
set_option maxRecDepth 65536 in
theorem w_c7 : (Jvm.Cond.code ({ cls := "NakMulticast", name := "multicastSource", desc := "(III)V" } : Jvm.MethodName) prog_1_method_24_code (7 : Nat) (Option.none : Option Jvm.ClassFile.FieldType)).before args0 about1 = true := code_word (m := ⟨2, 10⟩) (meth := k2m10) (c := k2c10) (by decide +kernel) rfl rfl rfl (by decide +kernel)
set_option maxRecDepth 65536 in
theorem w_c8 : (Jvm.Cond.code ({ cls := "NakMulticast", name := "lead", desc := "()I" } : Jvm.MethodName) prog_1_method_20_code (1 : Nat) (Option.some Jvm.ClassFile.FieldType.int)).before args0 about1 = true := code_word (m := ⟨2, 8⟩) (meth := k2m8) (c := k2c8) (by decide +kernel) rfl rfl rfl (by decide +kernel)
set_option maxRecDepth 65536 in
theorem w_c9 : (Jvm.Cond.code ({ cls := "NakMulticast", name := "trail", desc := "()I" } : Jvm.MethodName) prog_1_method_21_code (2 : Nat) (Option.some Jvm.ClassFile.FieldType.int)).before args0 about1 = true := code_word (m := ⟨2, 9⟩) (meth := k2m9) (c := k2c9) (by decide +kernel) rfl rfl rfl (by decide +kernel)
set_option maxRecDepth 65536 in
theorem w_c10 : (Jvm.Cond.code ({ cls := "NakMulticast", name := "aggregatorApply", desc := "(III)V" } : Jvm.MethodName) prog_1_method_25_code (5 : Nat) (Option.none : Option Jvm.ClassFile.FieldType)).before args0 about1 = true := code_word (m := ⟨2, 11⟩) (meth := k2m11) (c := k2c11) (by decide +kernel) rfl rfl rfl (by decide +kernel)
set_option maxRecDepth 65536 in
theorem w_c11 : (Jvm.Cond.code ({ cls := "NakMulticast", name := "copyTo", desc := "(IIIIII)V" } : Jvm.MethodName) prog_1_method_27_code (7 : Nat) (Option.none : Option Jvm.ClassFile.FieldType)).before args0 about1 = true := code_word (m := ⟨2, 12⟩) (meth := k2m12) (c := k2c12) (by decide +kernel) rfl rfl rfl (by decide +kernel)
set_option maxRecDepth 65536 in
theorem w_c12 : (Jvm.Cond.code ({ cls := "NakMulticast", name := "applyData", desc := "(IIIII)V" } : Jvm.MethodName) prog_1_method_28_code (8 : Nat) (Option.none : Option Jvm.ClassFile.FieldType)).before args0 about1 = true := code_word (m := ⟨2, 13⟩) (meth := k2m13) (c := k2c13) (by decide +kernel) rfl rfl rfl (by decide +kernel)
set_option maxRecDepth 65536 in
theorem w_c13 : (Jvm.Cond.code ({ cls := "NakMulticast", name := "validSeq", desc := "(I)Z" } : Jvm.MethodName) prog_1_method_19_code (2 : Nat) (Option.some Jvm.ClassFile.FieldType.boolean)).before args0 about1 = true := code_word (m := ⟨2, 7⟩) (meth := k2m7) (c := k2c7) (by decide +kernel) rfl rfl rfl (by decide +kernel)
set_option maxRecDepth 65536 in
theorem w_c14 : (Jvm.Cond.code ({ cls := "NakMulticast", name := "applyLead", desc := "(II)V" } : Jvm.MethodName) prog_1_method_30_code (6 : Nat) (Option.none : Option Jvm.ClassFile.FieldType)).before args0 about1 = true := code_word (m := ⟨2, 14⟩) (meth := k2m14) (c := k2c14) (by decide +kernel) rfl rfl rfl (by decide +kernel)
set_option maxRecDepth 65536 in
theorem w_c15 : (Jvm.Cond.code ({ cls := "NakMulticast", name := "applyTrail", desc := "(II)V" } : Jvm.MethodName) prog_1_method_31_code (7 : Nat) (Option.none : Option Jvm.ClassFile.FieldType)).before args0 about1 = true := code_word (m := ⟨2, 15⟩) (meth := k2m15) (c := k2c15) (by decide +kernel) rfl rfl rfl (by decide +kernel)
set_option maxRecDepth 65536 in
theorem w_c16 : (Jvm.Cond.code ({ cls := "NakMulticast", name := "deliver", desc := "(I)V" } : Jvm.MethodName) prog_1_method_33_code (5 : Nat) (Option.none : Option Jvm.ClassFile.FieldType)).before args0 about1 = true := code_word (m := ⟨2, 16⟩) (meth := k2m16) (c := k2c16) (by decide +kernel) rfl rfl rfl (by decide +kernel)
set_option maxRecDepth 65536 in
theorem w_c17 : (Jvm.Cond.code ({ cls := "NakMulticast", name := "appendDelivered", desc := "(III)V" } : Jvm.MethodName) prog_1_method_34_code (5 : Nat) (Option.none : Option Jvm.ClassFile.FieldType)).before args0 about1 = true := code_word (m := ⟨2, 17⟩) (meth := k2m17) (c := k2c17) (by decide +kernel) rfl rfl rfl (by decide +kernel)
set_option maxRecDepth 65536 in
theorem w_c18 : (Jvm.Cond.code ({ cls := "NakMulticast", name := "rxInfo", desc := "(II)I" } : Jvm.MethodName) prog_1_method_11_code (3 : Nat) (Option.some Jvm.ClassFile.FieldType.int)).before args0 about1 = true := code_word (m := ⟨2, 4⟩) (meth := k2m4) (c := k2c4) (by decide +kernel) rfl rfl rfl (by decide +kernel)
set_option maxRecDepth 65536 in
theorem w_c19 : (Jvm.Cond.code ({ cls := "NakMulticast", name := "stat", desc := "(I)I" } : Jvm.MethodName) prog_1_method_8_code (2 : Nat) (Option.some Jvm.ClassFile.FieldType.int)).before args0 about1 = true := code_word (m := ⟨2, 3⟩) (meth := k2m3) (c := k2c3) (by decide +kernel) rfl rfl rfl (by decide +kernel)
def codes1 : List Jvm.Cond := [Jvm.Cond.code x code maxLocals ret, Jvm.Cond.code ({ cls := "NakMulticast", name := "<init>", desc := "(IIII)V" } : Jvm.MethodName) prog_1_method_1_code (6 : Nat) (Option.none : Option Jvm.ClassFile.FieldType), Jvm.Cond.code ({ cls := "java/lang/Object", name := "<init>", desc := "()V" } : Jvm.MethodName) object_method_1_code (1 : Nat) (Option.none : Option Jvm.ClassFile.FieldType), Jvm.Cond.code ({ cls := "NakMulticast", name := "clamp", desc := "(III)I" } : Jvm.MethodName) prog_1_method_17_code (4 : Nat) (Option.some Jvm.ClassFile.FieldType.int), Jvm.Cond.code ({ cls := "NakMulticast", name := "setLoss", desc := "(II)Z" } : Jvm.MethodName) prog_1_method_4_code (3 : Nat) (Option.some Jvm.ClassFile.FieldType.boolean), Jvm.Cond.code ({ cls := "NakMulticast", name := "validRx", desc := "(I)Z" } : Jvm.MethodName) prog_1_method_18_code (2 : Nat) (Option.some Jvm.ClassFile.FieldType.boolean), Jvm.Cond.code ({ cls := "NakMulticast", name := "send", desc := "(I)I" } : Jvm.MethodName) prog_1_method_2_code (3 : Nat) (Option.some Jvm.ClassFile.FieldType.int), Jvm.Cond.code ({ cls := "NakMulticast", name := "multicastSource", desc := "(III)V" } : Jvm.MethodName) prog_1_method_24_code (7 : Nat) (Option.none : Option Jvm.ClassFile.FieldType), Jvm.Cond.code ({ cls := "NakMulticast", name := "lead", desc := "()I" } : Jvm.MethodName) prog_1_method_20_code (1 : Nat) (Option.some Jvm.ClassFile.FieldType.int), Jvm.Cond.code ({ cls := "NakMulticast", name := "trail", desc := "()I" } : Jvm.MethodName) prog_1_method_21_code (2 : Nat) (Option.some Jvm.ClassFile.FieldType.int), Jvm.Cond.code ({ cls := "NakMulticast", name := "aggregatorApply", desc := "(III)V" } : Jvm.MethodName) prog_1_method_25_code (5 : Nat) (Option.none : Option Jvm.ClassFile.FieldType), Jvm.Cond.code ({ cls := "NakMulticast", name := "copyTo", desc := "(IIIIII)V" } : Jvm.MethodName) prog_1_method_27_code (7 : Nat) (Option.none : Option Jvm.ClassFile.FieldType), Jvm.Cond.code ({ cls := "NakMulticast", name := "applyData", desc := "(IIIII)V" } : Jvm.MethodName) prog_1_method_28_code (8 : Nat) (Option.none : Option Jvm.ClassFile.FieldType), Jvm.Cond.code ({ cls := "NakMulticast", name := "validSeq", desc := "(I)Z" } : Jvm.MethodName) prog_1_method_19_code (2 : Nat) (Option.some Jvm.ClassFile.FieldType.boolean), Jvm.Cond.code ({ cls := "NakMulticast", name := "applyLead", desc := "(II)V" } : Jvm.MethodName) prog_1_method_30_code (6 : Nat) (Option.none : Option Jvm.ClassFile.FieldType), Jvm.Cond.code ({ cls := "NakMulticast", name := "applyTrail", desc := "(II)V" } : Jvm.MethodName) prog_1_method_31_code (7 : Nat) (Option.none : Option Jvm.ClassFile.FieldType), Jvm.Cond.code ({ cls := "NakMulticast", name := "deliver", desc := "(I)V" } : Jvm.MethodName) prog_1_method_33_code (5 : Nat) (Option.none : Option Jvm.ClassFile.FieldType), Jvm.Cond.code ({ cls := "NakMulticast", name := "appendDelivered", desc := "(III)V" } : Jvm.MethodName) prog_1_method_34_code (5 : Nat) (Option.none : Option Jvm.ClassFile.FieldType), Jvm.Cond.code ({ cls := "NakMulticast", name := "rxInfo", desc := "(II)I" } : Jvm.MethodName) prog_1_method_11_code (3 : Nat) (Option.some Jvm.ClassFile.FieldType.int), Jvm.Cond.code ({ cls := "NakMulticast", name := "stat", desc := "(I)I" } : Jvm.MethodName) prog_1_method_8_code (2 : Nat) (Option.some Jvm.ClassFile.FieldType.int)]
set_option maxRecDepth 65536 in
theorem codes_eq : words1.filter isCode = codes1 := rfl
theorem w_codes : ∀ c ∈ words1.filter isCode, c.before args0 about1 = true := by
  rw [codes_eq]
  intro c hc
  simp only [codes1, List.mem_cons, List.not_mem_nil, or_false] at hc
  rcases hc with rfl | rfl | rfl | rfl | rfl | rfl | rfl | rfl | rfl | rfl | rfl | rfl | rfl | rfl | rfl | rfl | rfl | rfl | rfl | rfl
  · exact w_c0
  · exact w_c1
  · exact w_c2
  · exact w_c3
  · exact w_c4
  · exact w_c5
  · exact w_c6
  · exact w_c7
  · exact w_c8
  · exact w_c9
  · exact w_c10
  · exact w_c11
  · exact w_c12
  · exact w_c13
  · exact w_c14
  · exact w_c15
  · exact w_c16
  · exact w_c17
  · exact w_c18
  · exact w_c19
set_option maxRecDepth 65536 in
theorem w_t1 : (words1.take 24).all (fun c => isCode c || c.before args0 about1) = true := by decide +kernel
set_option maxRecDepth 65536 in
theorem w_t2 : ((words1.drop 24).take 24).all (fun c => isCode c || c.before args0 about1) = true := by decide +kernel
set_option maxRecDepth 65536 in
theorem w_t3 : (((words1.drop 24).drop 24).take 24).all (fun c => isCode c || c.before args0 about1) = true := by decide +kernel
set_option maxRecDepth 65536 in
theorem w_t4 : ((((words1.drop 24).drop 24).drop 24).take 24).all (fun c => isCode c || c.before args0 about1) = true := by decide +kernel
set_option maxRecDepth 65536 in
theorem w_t5 : (((((words1.drop 24).drop 24).drop 24).drop 24).take 24).all (fun c => isCode c || c.before args0 about1) = true := by decide +kernel
set_option maxRecDepth 65536 in
theorem w_t6 : (((((words1.drop 24).drop 24).drop 24).drop 24).drop 24).all (fun c => isCode c || c.before args0 about1) = true := by decide +kernel
theorem w_tables : (allAtoms (Jvm.Cond.code x code maxLocals ret :: tables_1)).before args0 about1 = true := by
  rw [allAtoms_all]
  show words1.all (fun c => c.before args0 about1) = true
  refine all_split ?_ w_codes
  rw [← List.take_append_drop 24 words1, List.all_append, w_t1, ← List.take_append_drop 24 (words1.drop 24), List.all_append, w_t2, ← List.take_append_drop 24 ((words1.drop 24).drop 24), List.all_append, w_t3, ← List.take_append_drop 24 (((words1.drop 24).drop 24).drop 24), List.all_append, w_t4, ← List.take_append_drop 24 ((((words1.drop 24).drop 24).drop 24).drop 24), List.all_append, w_t5, w_t6]
  rfl
set_option maxRecDepth 65536 in
theorem w_case : (Jvm.Cond.and given_1 narrow_1).before args0 about1 = true := by decide +kernel
theorem w_applies : (headSpec (Jvm.Cond.code x code maxLocals ret :: tables_1) room_1).applies x e0.platform about1 = true :=
  (Spec.applies_iff w_frames).mpr ⟨w_running, w_runnable, w_alone, w_named, w_hears, w_ripe, w_room, w_tables⟩
theorem atStart : AtStart classFile x code maxLocals ret World_1 tables_1 room_1 Calls_1 rest_1 Pre_1 launch0 p0 e0 about1 theMethod args0 below0 :=
  ⟨lists_1, trivial, launch0.admits_env _ _ _, launch0.least_env, fairChoices_fair.cas, fairChoices_fair.clock, w_frames, w_args, w_heap, w_applies, trivial, trivial, w_case⟩
end start1
theorem witness_1 : WitnessClaimed_1 := ⟨start1.p0, start1.e0, start1.about1, start1.theMethod, start1.args0, start1.below0, start1.atStart⟩
end Jvm.Pilot.@@N@@
