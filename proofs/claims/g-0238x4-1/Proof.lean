import JvmDerived
import JvmDerived.Pilot.@@N@@Statement
import JvmDerived.Pilot.@@N@@Code
set_option linter.unusedVariables false
set_option linter.unusedSimpArgs false
set_option maxRecDepth 4096
namespace Jvm.RoadKit
open Sem ClassFile Op Lib Jvm.Stand Jvm.Free Jvm.LawKit
section New
variable {p : Program} {l : Launch} {e : Env} {R : Room} {s : State} {m : MethodId} {args : Array Value} {below : List Frame} {meth : Method} {c : Code} {T : State} {locs : List Loc} {cells slots : Nat}
theorem retI (X : Stand p l e R s m args below meth c T locs cells slots) (hx : p.tables.exec = Jvm.exec) {pc : Nat} {Ls : Array Slot} {z : Int32} {rest : List Value} (hret : meth.sig.returnType = some .int) (hd : decode c.code pc = .ok (.ireturn, 1)) {fs : List Frame}
    (hl : ∀ (f : JFrame) (acts : List Action), f.method = m → f.locked = none → f.entered = [] → (doReturn e (T.setTop f) acts (some (.int z))).1 = T.setFrames fs) : Steps p.tables e below (T.setTop (mkF m pc Ls (.int z :: rest))) (T.setFrames fs) := by
  have hm' : T.vm.method? m = some meth := X.method'
  have hn : narrow .int (.int z) = .int z := rfl
  show Steps p.tables e below (T.setTop { method := m, pc := pc, locals := Ls, stack := _ :: rest, locked := none }) _
  jvm_step X.here [X.here.top, hx, hd, hm', hret, hn]
  first | (intro acts; rw [hl _ acts rfl rfl rfl]) | rw [hl _ _ rfl rfl rfl]
  exact Steps.refl _
theorem retL (X : Stand p l e R s m args below meth c T locs cells slots) (hx : p.tables.exec = Jvm.exec) {pc : Nat} {Ls : Array Slot} {z : Int64} {rest : List Value} (hret : meth.sig.returnType = some .long) (hd : decode c.code pc = .ok (.lreturn, 1)) {fs : List Frame}
    (hl : ∀ (f : JFrame) (acts : List Action), f.method = m → f.locked = none → f.entered = [] → (doReturn e (T.setTop f) acts (some (.long z))).1 = T.setFrames fs) : Steps p.tables e below (T.setTop (mkF m pc Ls (.long z :: rest))) (T.setFrames fs) := by
  have hm' : T.vm.method? m = some meth := X.method'
  have hn : narrow .long (.long z) = .long z := rfl
  show Steps p.tables e below (T.setTop { method := m, pc := pc, locals := Ls, stack := _ :: rest, locked := none }) _
  jvm_step X.here [X.here.top, hx, hd, hm', hret, hn]
  first | (intro acts; rw [hl _ acts rfl rfl rfl]) | rw [hl _ _ rfl rfl rfl]
  exact Steps.refl _
theorem retV (X : Stand p l e R s m args below meth c T locs cells slots) (hx : p.tables.exec = Jvm.exec) {pc : Nat} {Ls : Array Slot} {S : List Value} (hret : meth.sig.returnType = none) (hd : decode c.code pc = .ok (.return_, 1)) {fs : List Frame}
    (hl : ∀ (f : JFrame) (acts : List Action), f.method = m → f.locked = none → f.entered = [] → (doReturn e (T.setTop f) acts none).1 = T.setFrames fs) : Steps p.tables e below (T.setTop (mkF m pc Ls S)) (T.setFrames fs) := by
  have hm' : T.vm.method? m = some meth := X.method'
  show Steps p.tables e below (T.setTop { method := m, pc := pc, locals := Ls, stack := S, locked := none }) _
  jvm_step X.here [X.here.top, hx, hd, hm', hret]
  first | (intro acts; rw [hl _ acts rfl rfl rfl]) | rw [hl _ _ rfl rfl rfl]
  exact Steps.refl _
/-- an invokevirtual of a private method whose class is named by an 'instantiable' word -/
theorem privBack (X : Stand p l e R s m args below meth c T locs cells slots) (hexec : p.tables.exec = Jvm.exec) {own : String} {index kk : Nat} {y : MethodName} {bytes : ByteArray} {maxL : Nat} {ret : Option FieldType}
    (hown : s.vm.findClass own = some m.cls) (hlink : (Cond.methodLink own index y).before args s = true) (hinst : (Cond.instanceMethod y).before args s = true) (hni : (Cond.instantiable y.cls kk).before args s = true)
    (hpriv : s.PrivateAt y) (hcode : (Cond.code y bytes maxL ret).before args s = true) (hy : y.cls ≠ "java/lang/invoke/MethodHandle" ∧ y.cls ≠ "java/lang/invoke/VarHandle")
    {W : Nat} {Pre : Free.Pt → Array Value → Prop} {Post : Free.Pt → Array Value → Option Value → Free.Pt → Prop} (hK : Free.Back l R p e below s args y 3 W Pre Post)
    {g : JFrame} (hg : g.method = m) (hsize : g.locals.size = c.maxLocals) {a : Addr} {cell : Cell} (hcell : T.heap[a]? = some cell) (hobj : ∀ q, cell.vm ≠ .statics q)
    {argsL rest : List Value} (hlen : ∀ sig, parseMethodDescriptor y.desc = some sig → argsL.length = sig.parameters.length)
    (hstack : g.stack = argsL.reverse ++ .ref a :: rest) (hW : 2 * g.monitorRoom + (rest.map fun v => v.category).sum ≤ W) (hdg : decode c.code g.pc = .ok (.invokevirtual index, 3))
    (hpre : ∀ vm₁, s.WarmedH vm₁ → Pre ⟨T.setVm vm₁, locs, cells, slots⟩ (.ref a :: argsL).toArray) :
    ∃ (v : Option Value) (vm₁ : Vm) (B : Free.Pt), s.WarmedH vm₁ ∧ Stand p l e R s m args below meth c B.U B.locs B.cells B.slots ∧ Post ⟨T.setVm vm₁, locs, cells, slots⟩ (.ref a :: argsL).toArray v B ∧
      ∀ target, Steps p.tables e below (B.U.setTop { g with pc := g.pc + 3, stack := v.toList ++ rest }) target → Steps p.tables e below (T.setTop g) target := by
  obtain ⟨mk, methM, hnamed, hmethM, hstM, habM⟩ := Cond.instanceMethod_spec hinst
  obtain ⟨methM', cM, hmethM', -, -, -, -, -, -, hsigM⟩ := Cond.code_spec hnamed hcode
  cases hmethM.symm.trans hmethM'
  obtain ⟨c2, kP, q1, hkP, -, q3, -⟩ := Cond.instantiable_spec hni
  cases (findClass_of_methodNamed hnamed).symm.trans q1
  have hkPi : kP.isInterface = false := by
    simp only [Bool.or_eq_false_iff] at q3; exact q3.1
  have hselP : selectMethod e.platform s.vm cell.cls mk = .method mk := selectMethod_private hmethM (hpriv mk methM hnamed hmethM)
  obtain ⟨vm₁, X₁, hstep₁⟩ := X.invokevirtual hexec hown hlink hnamed hmethM hstM hkP hkPi hy (a := a) (cell := cell) hcell hobj hselP hmethM habM hkP hkPi (g := g) hg (argsL := argsL) (rest := rest) (hlen _ hsigM) hstack hdg
  obtain ⟨v, B, X', hpost, hsteps⟩ := hK m meth c ⟨T.setVm vm₁, locs, cells, slots⟩ { g with stack := rest } (.invokevirtual index) mk (Value.ref a :: argsL).toArray X₁ hg hsize hdg hW (X₁.named hnamed) (hpre vm₁ X₁.warmed)
  exact ⟨v, vm₁, B, X₁.warmed, X', hpost, fun target h => hstep₁ _ fun acts => by rw [doInvoke_state]; exact hsteps.trans h⟩
end New
end Jvm.RoadKit
namespace Jvm.Pilot.@@N@@
open Jvm Jvm.ClassFile Sem Op Lib Jvm.Free Jvm.Stand Jvm.LawKit Jvm.RoadKit Bundle Jvm.Pilot.@@N@@.Jvm.D
/-! ## tables of the claim, printed by B_gen.py out of made/ -/
def t_C : String := "FetchNegotiator"
def t_flds : List (String × String × FieldType) := [("cap", "I", .int), ("batch", "I", .int), ("maxRounds", "I", .int), ("count", "I", .int), ("sentCount", "I", .int), ("roundsDone", "I", .int), ("phaseNow", "I", .int), ("lastConnected", "Z", .boolean), ("kind", "[B", (.array .byte)), ("time", "[I", (.array .int)), ("link", "[I", (.array .int)), ("held", "[Z", (.array .boolean)), ("flags", "[B", (.array .byte)), ("sentList", "[I", (.array .int)), ("mark", "[Z", (.array .boolean)), ("stack", "[I", (.array .int)), ("ackMark", "[Z", (.array .boolean))]
def t_arrs : List (FieldType × Nat) := [(.byte, 32), (.int, 32), (.int, 96), (.boolean, 64), (.byte, 32), (.int, 32), (.boolean, 32), (.int, 128), (.boolean, 32)]
def t_ns : Nat := 17
def t_full : Nat := 10
def t_sc : Bool := false
def t_n : Nat := 15
def t_nm : Nat → MethodName
  | 0 => x
  | 1 => ⟨"FetchNegotiator", "<init>", "(III)V"⟩
  | 2 => ⟨"FetchNegotiator", "addBlob", "()I"⟩
  | 3 => ⟨"FetchNegotiator", "addTree", "(III)I"⟩
  | 4 => ⟨"FetchNegotiator", "give", "(II)I"⟩
  | 5 => ⟨"FetchNegotiator", "kindOf", "(I)I"⟩
  | 6 => ⟨"FetchNegotiator", "link", "(II)I"⟩
  | 7 => ⟨"FetchNegotiator", "has", "(II)Z"⟩
  | 8 => ⟨"FetchNegotiator", "clamp", "(III)I"⟩
  | 9 => ⟨"FetchNegotiator", "inRange", "(I)Z"⟩
  | 10 => ⟨"FetchNegotiator", "norm", "(I)I"⟩
  | 11 => ⟨"FetchNegotiator", "validEntry", "(I)Z"⟩
  | 12 => ⟨"FetchNegotiator", "define", "(IIIII)I"⟩
  | 13 => ⟨"FetchNegotiator", "clearMark", "()V"⟩
  | 14 => ⟨"FetchNegotiator", "markReach", "(I)V"⟩
  | _ => ⟨"", "", ""⟩
def t_bytes : Nat → ByteArray
  | 0 => code
  | 1 => prog_1_method_1_code
  | 2 => prog_1_method_2_code
  | 3 => prog_1_method_3_code
  | 4 => prog_1_method_5_code
  | 5 => prog_1_method_11_code
  | 6 => prog_1_method_12_code
  | 7 => prog_1_method_13_code
  | 8 => prog_1_method_18_code
  | 9 => prog_1_method_19_code
  | 10 => prog_1_method_20_code
  | 11 => prog_1_method_21_code
  | 12 => prog_1_method_23_code
  | 13 => prog_1_method_27_code
  | 14 => prog_1_method_28_code
  | _ => code
def t_ml : Nat → Nat
  | 0 => maxLocals
  | 1 => 4
  | 2 => 1
  | 3 => 7
  | 4 => 6
  | 5 => 2
  | 6 => 3
  | 7 => 3
  | 8 => 4
  | 9 => 2
  | 10 => 2
  | 11 => 2
  | 12 => 7
  | 13 => 2
  | 14 => 5
  | _ => 0
def t_rt : Nat → Option FieldType
  | 0 => ret
  | 1 => none
  | 2 => some .int
  | 3 => some .int
  | 4 => some .int
  | 5 => some .int
  | 6 => some .int
  | 7 => some .boolean
  | 8 => some .int
  | 9 => some .boolean
  | 10 => some .int
  | 11 => some .boolean
  | 12 => some .int
  | 13 => none
  | 14 => none
  | _ => none
def t_np : Nat → Nat
  | 0 => 2
  | 1 => 4
  | 2 => 1
  | 3 => 4
  | 4 => 3
  | 5 => 2
  | 6 => 3
  | 7 => 3
  | 8 => 4
  | 9 => 2
  | 10 => 2
  | 11 => 2
  | 12 => 6
  | 13 => 1
  | 14 => 2
  | _ => 0
def t_mode : Nat → Nat
  | 0 => 2
  | 1 => 1
  | 2 => 0
  | 3 => 0
  | 4 => 0
  | 5 => 0
  | 6 => 0
  | 7 => 0
  | 8 => 0
  | 9 => 0
  | 10 => 0
  | 11 => 0
  | 12 => 0
  | 13 => 0
  | 14 => 0
  | _ => 0
def t_rm : Nat → Room
  | 0 => room_1
  | 1 => { frames := 1, cells := 9, slots := 480, locals := 16 }
  | 2 => { frames := 1, cells := 0, slots := 0, locals := 18 }
  | 3 => { frames := 2, cells := 0, slots := 0, locals := 26 }
  | 4 => { frames := 2, cells := 0, slots := 0, locals := 29 }
  | 5 => { frames := 1, cells := 0, slots := 0, locals := 13 }
  | 6 => { frames := 1, cells := 0, slots := 0, locals := 13 }
  | 7 => { frames := 1, cells := 0, slots := 0, locals := 13 }
  | 8 => { frames := 0, cells := 0, slots := 0, locals := 0 }
  | 9 => { frames := 0, cells := 0, slots := 0, locals := 0 }
  | 10 => { frames := 0, cells := 0, slots := 0, locals := 0 }
  | 11 => { frames := 1, cells := 0, slots := 0, locals := 13 }
  | 12 => { frames := 0, cells := 0, slots := 0, locals := 0 }
  | 13 => { frames := 0, cells := 0, slots := 0, locals := 0 }
  | 14 => { frames := 1, cells := 0, slots := 0, locals := 13 }
  | _ => {}
def pmLk {α : Type} : List (Nat × α) → Nat → Option α
  | [], _ => none
  | (a, b) :: r, i => bif Nat.beq a i then some b else pmLk r i
theorem pmLk_mem {α : Type} {l : List (Nat × α)} {i : Nat} {b : α} (h : pmLk l i = some b) : (i, b) ∈ l := by
  induction l with
  | nil => cases h
  | cons q r ih =>
    obtain ⟨a, c⟩ := q
    simp only [pmLk] at h
    cases e : Nat.beq a i with
    | true => rw [e] at h; cases h; rw [Nat.eq_of_beq_eq_true e]; exact List.mem_cons_self ..
    | false => rw [e] at h; exact List.mem_cons_of_mem _ (ih h)
def t_isC : Nat → Bool
  | 0 => false
  | 1 => true
  | 2 => true
  | 3 => true
  | 4 => true
  | 5 => true
  | 6 => true
  | 7 => true
  | 8 => true
  | 9 => true
  | 10 => true
  | 11 => true
  | 12 => true
  | 13 => true
  | 14 => true
  | _ => false
def t_fls : List (Nat × Nat) := [(7, 8), (13, 9), (17, 10), (20, 11), (24, 12), (27, 13), (30, 14), (33, 15), (36, 16), (43, 0), (47, 1), (50, 2), (53, 3), (56, 4), (59, 5), (62, 6), (65, 7)]
def t_fl (k j : Nat) : Option Nat := match t_isC k with | true => pmLk t_fls j | false => none
def t_mkC : List (Nat × Nat × Nat) := [(1, 4, 0), (39, 2, 8), (69, 2, 12), (73, 2, 11), (81, 2, 9), (77, 2, 10), (87, 2, 13), (90, 2, 14)]
def t_mkL : List (Nat × Nat × Nat) := [(9, 3, 1), (12, 1, 2), (16, 1, 3), (20, 1, 4), (24, 1, 7), (28, 1, 5), (32, 1, 6)]
def t_mk (k j : Nat) : Option (Nat × Nat) := match t_isC k with | true => pmLk t_mkC j | false => pmLk t_mkL j
def t_new (k j : Nat) : Bool := Nat.beq k 0 && Nat.beq j 7
def t_ldcs : List (Nat × Int32) := []
def t_ldc2s : List (Nat × Int64) := []
def t_ldc (k j : Nat) : Option Int32 := match t_isC k with | true => none | false => pmLk t_ldcs j
def t_ldc2 (k j : Nat) : Option Int64 := match t_isC k with | true => none | false => pmLk t_ldc2s j
/-- law -/
def t_ins_0 (pc : Nat) : Option (Instr × Nat × Nat) := bif Nat.blt pc 318 then (bif Nat.blt pc 154 then (bif Nat.blt pc 71 then (bif Nat.blt pc 35 then (bif Nat.blt pc 18 then (bif Nat.blt pc 8 then (bif Nat.blt pc 4 then (bif Nat.blt pc 3 then (bif Nat.beq pc 0 then some (.new 7, 3, 0) else none) else (bif Nat.beq pc 3 then some (.dup, 4, 0) else none)) else (bif Nat.blt pc 6 then (bif Nat.beq pc 4 then some (.bipush 8, 6, 0) else none) else (bif Nat.blt pc 7 then (bif Nat.beq pc 6 then some (.iconst 1, 7, 0) else none) else (bif Nat.beq pc 7 then some (.iconst 1, 8, 0) else none)))) else (bif Nat.blt pc 13 then (bif Nat.blt pc 11 then (bif Nat.beq pc 8 then some (.invokespecial 9, 11, 0) else none) else (bif Nat.blt pc 12 then (bif Nat.beq pc 11 then some (.astore_n 2, 12, 0) else none) else (bif Nat.beq pc 12 then some (.aload_n 2, 13, 0) else none))) else (bif Nat.blt pc 16 then (bif Nat.beq pc 13 then some (.invokevirtual 12, 16, 0) else none) else (bif Nat.blt pc 17 then (bif Nat.beq pc 16 then some (.istore_n 3, 17, 0) else none) else (bif Nat.beq pc 17 then some (.aload_n 2, 18, 0) else none))))) else (bif Nat.blt pc 26 then (bif Nat.blt pc 20 then (bif Nat.blt pc 19 then (bif Nat.beq pc 18 then some (.iload_n 1, 19, 0) else none) else (bif Nat.beq pc 19 then some (.iload_n 1, 20, 0) else none)) else (bif Nat.blt pc 21 then (bif Nat.beq pc 20 then some (.iconst (-1), 21, 0) else none) else (bif Nat.blt pc 24 then (bif Nat.beq pc 21 then some (.invokevirtual 16, 24, 0) else none) else (bif Nat.beq pc 24 then some (.istore 4, 26, 0) else none)))) else (bif Nat.blt pc 29 then (bif Nat.blt pc 27 then (bif Nat.beq pc 26 then some (.aload_n 2, 27, 0) else none) else (bif Nat.blt pc 28 then (bif Nat.beq pc 27 then some (.iload_n 0, 28, 0) else none) else (bif Nat.beq pc 28 then some (.iconst 1, 29, 0) else none))) else (bif Nat.blt pc 32 then (bif Nat.beq pc 29 then some (.invokevirtual 20, 32, 0) else none) else (bif Nat.blt pc 34 then (bif Nat.beq pc 32 then some (.istore 5, 34, 0) else none) else (bif Nat.beq pc 34 then some (.aload_n 2, 35, 0) else none)))))) else (bif Nat.blt pc 52 then (bif Nat.blt pc 43 then (bif Nat.blt pc 37 then (bif Nat.blt pc 36 then (bif Nat.beq pc 35 then some (.iconst 0, 36, 0) else none) else (bif Nat.beq pc 36 then some (.iconst 0, 37, 0) else none)) else (bif Nat.blt pc 40 then (bif Nat.beq pc 37 then some (.invokevirtual 24, 40, 0) else none) else (bif Nat.blt pc 42 then (bif Nat.beq pc 40 then some (.istore 6, 42, 0) else none) else (bif Nat.beq pc 42 then some (.aload_n 2, 43, 0) else none)))) else (bif Nat.blt pc 48 then (bif Nat.blt pc 44 then (bif Nat.beq pc 43 then some (.iconst 0, 44, 0) else none) else (bif Nat.blt pc 45 then (bif Nat.beq pc 44 then some (.iconst 1, 45, 0) else none) else (bif Nat.beq pc 45 then some (.invokevirtual 24, 48, 0) else none))) else (bif Nat.blt pc 50 then (bif Nat.beq pc 48 then some (.istore 7, 50, 0) else none) else (bif Nat.blt pc 51 then (bif Nat.beq pc 50 then some (.aload_n 2, 51, 0) else none) else (bif Nat.beq pc 51 then some (.iconst 1, 52, 0) else none))))) else (bif Nat.blt pc 60 then (bif Nat.blt pc 56 then (bif Nat.blt pc 53 then (bif Nat.beq pc 52 then some (.iconst 0, 53, 0) else none) else (bif Nat.beq pc 53 then some (.invokevirtual 24, 56, 0) else none)) else (bif Nat.blt pc 58 then (bif Nat.beq pc 56 then some (.istore 8, 58, 0) else none) else (bif Nat.blt pc 59 then (bif Nat.beq pc 58 then some (.aload_n 2, 59, 0) else none) else (bif Nat.beq pc 59 then some (.iconst 1, 60, 0) else none)))) else (bif Nat.blt pc 66 then (bif Nat.blt pc 61 then (bif Nat.beq pc 60 then some (.iconst 1, 61, 0) else none) else (bif Nat.blt pc 64 then (bif Nat.beq pc 61 then some (.invokevirtual 24, 64, 0) else none) else (bif Nat.beq pc 64 then some (.istore 9, 66, 0) else none))) else (bif Nat.blt pc 67 then (bif Nat.beq pc 66 then some (.aload_n 2, 67, 0) else none) else (bif Nat.blt pc 68 then (bif Nat.beq pc 67 then some (.iconst 1, 68, 0) else none) else (bif Nat.beq pc 68 then some (.invokevirtual 28, 71, 0) else none))))))) else (bif Nat.blt pc 110 then (bif Nat.blt pc 89 then (bif Nat.blt pc 79 then (bif Nat.blt pc 74 then (bif Nat.blt pc 73 then (bif Nat.beq pc 71 then some (.istore 10, 73, 0) else none) else (bif Nat.beq pc 73 then some (.aload_n 2, 74, 0) else none)) else (bif Nat.blt pc 75 then (bif Nat.beq pc 74 then some (.iconst 1, 75, 0) else none) else (bif Nat.blt pc 76 then (bif Nat.beq pc 75 then some (.iconst 0, 76, 0) else none) else (bif Nat.beq pc 76 then some (.invokevirtual 32, 79, 0) else none)))) else (bif Nat.blt pc 83 then (bif Nat.blt pc 81 then (bif Nat.beq pc 79 then some (.istore 11, 81, 0) else none) else (bif Nat.blt pc 82 then (bif Nat.beq pc 81 then some (.aload_n 2, 82, 0) else none) else (bif Nat.beq pc 82 then some (.iconst 1, 83, 0) else none))) else (bif Nat.blt pc 84 then (bif Nat.beq pc 83 then some (.iconst 1, 84, 0) else none) else (bif Nat.blt pc 87 then (bif Nat.beq pc 84 then some (.invokevirtual 32, 87, 0) else none) else (bif Nat.beq pc 87 then some (.istore 12, 89, 0) else none))))) else (bif Nat.blt pc 98 then (bif Nat.blt pc 93 then (bif Nat.blt pc 90 then (bif Nat.beq pc 89 then some (.iload_n 1, 90, 0) else none) else (bif Nat.beq pc 90 then some (.ifCond .gt 7, 93, 97) else none)) else (bif Nat.blt pc 94 then (bif Nat.beq pc 93 then some (.iconst 1, 94, 0) else none) else (bif Nat.blt pc 97 then (bif Nat.beq pc 94 then some (.goto 4, 97, 98) else none) else (bif Nat.beq pc 97 then some (.iconst 0, 98, 0) else none)))) else (bif Nat.blt pc 105 then (bif Nat.blt pc 100 then (bif Nat.beq pc 98 then some (.istore 13, 100, 0) else none) else (bif Nat.blt pc 102 then (bif Nat.beq pc 100 then some (.iload 13, 102, 0) else none) else (bif Nat.beq pc 102 then some (.ifCond .eq 16, 105, 118) else none))) else (bif Nat.blt pc 106 then (bif Nat.beq pc 105 then some (.iload_n 0, 106, 0) else none) else (bif Nat.blt pc 109 then (bif Nat.beq pc 106 then some (.ifCond .eq 8, 109, 114) else none) else (bif Nat.beq pc 109 then some (.iload_n 0, 110, 0) else none)))))) else (bif Nat.blt pc 131 then (bif Nat.blt pc 119 then (bif Nat.blt pc 114 then (bif Nat.blt pc 111 then (bif Nat.beq pc 110 then some (.iconst 1, 111, 0) else none) else (bif Nat.beq pc 111 then some (.if_icmp .ne 7, 114, 118) else none)) else (bif Nat.blt pc 115 then (bif Nat.beq pc 114 then some (.iconst 1, 115, 0) else none) else (bif Nat.blt pc 118 then (bif Nat.beq pc 115 then some (.goto 4, 118, 119) else none) else (bif Nat.beq pc 118 then some (.iconst 0, 119, 0) else none)))) else (bif Nat.blt pc 126 then (bif Nat.blt pc 121 then (bif Nat.beq pc 119 then some (.istore 14, 121, 0) else none) else (bif Nat.blt pc 123 then (bif Nat.beq pc 121 then some (.iload 13, 123, 0) else none) else (bif Nat.beq pc 123 then some (.ifCond .eq 11, 126, 134) else none))) else (bif Nat.blt pc 127 then (bif Nat.beq pc 126 then some (.iload_n 1, 127, 0) else none) else (bif Nat.blt pc 130 then (bif Nat.beq pc 127 then some (.ifCond .ne 7, 130, 134) else none) else (bif Nat.beq pc 130 then some (.iconst 0, 131, 0) else none))))) else (bif Nat.blt pc 142 then (bif Nat.blt pc 135 then (bif Nat.blt pc 134 then (bif Nat.beq pc 131 then some (.goto 4, 134, 135) else none) else (bif Nat.beq pc 134 then some (.iconst (-1), 135, 0) else none)) else (bif Nat.blt pc 137 then (bif Nat.beq pc 135 then some (.istore 15, 137, 0) else none) else (bif Nat.blt pc 139 then (bif Nat.beq pc 137 then some (.iload 14, 139, 0) else none) else (bif Nat.beq pc 139 then some (.ifCond .eq 15, 142, 154) else none)))) else (bif Nat.blt pc 147 then (bif Nat.blt pc 143 then (bif Nat.beq pc 142 then some (.iload_n 1, 143, 0) else none) else (bif Nat.blt pc 146 then (bif Nat.beq pc 143 then some (.ifCond .ne 7, 146, 150) else none) else (bif Nat.beq pc 146 then some (.iconst 2, 147, 0) else none))) else (bif Nat.blt pc 150 then (bif Nat.beq pc 147 then some (.goto 8, 150, 155) else none) else (bif Nat.blt pc 151 then (bif Nat.beq pc 150 then some (.iconst 1, 151, 0) else none) else (bif Nat.beq pc 151 then some (.goto 4, 154, 155) else none)))))))) else (bif Nat.blt pc 237 then (bif Nat.blt pc 195 then (bif Nat.blt pc 174 then (bif Nat.blt pc 162 then (bif Nat.blt pc 157 then (bif Nat.blt pc 155 then (bif Nat.beq pc 154 then some (.iconst (-1), 155, 0) else none) else (bif Nat.beq pc 155 then some (.istore 16, 157, 0) else none)) else (bif Nat.blt pc 158 then (bif Nat.beq pc 157 then some (.iload_n 3, 158, 0) else none) else (bif Nat.blt pc 161 then (bif Nat.beq pc 158 then some (.ifCond .eq 5, 161, 163) else none) else (bif Nat.beq pc 161 then some (.iconst 0, 162, 0) else none)))) else (bif Nat.blt pc 167 then (bif Nat.blt pc 163 then (bif Nat.beq pc 162 then some (.ireturn, 163, 0) else none) else (bif Nat.blt pc 165 then (bif Nat.beq pc 163 then some (.iload 4, 165, 0) else none) else (bif Nat.beq pc 165 then some (.iload 13, 167, 0) else none))) else (bif Nat.blt pc 170 then (bif Nat.beq pc 167 then some (.ifCond .eq 7, 170, 174) else none) else (bif Nat.blt pc 171 then (bif Nat.beq pc 170 then some (.iconst 1, 171, 0) else none) else (bif Nat.beq pc 171 then some (.goto 4, 174, 175) else none))))) else (bif Nat.blt pc 182 then (bif Nat.blt pc 178 then (bif Nat.blt pc 175 then (bif Nat.beq pc 174 then some (.iconst (-1), 175, 0) else none) else (bif Nat.beq pc 175 then some (.if_icmp .eq 5, 178, 180) else none)) else (bif Nat.blt pc 179 then (bif Nat.beq pc 178 then some (.iconst 0, 179, 0) else none) else (bif Nat.blt pc 180 then (bif Nat.beq pc 179 then some (.ireturn, 180, 0) else none) else (bif Nat.beq pc 180 then some (.iload 10, 182, 0) else none)))) else (bif Nat.blt pc 188 then (bif Nat.blt pc 184 then (bif Nat.beq pc 182 then some (.iload 13, 184, 0) else none) else (bif Nat.blt pc 187 then (bif Nat.beq pc 184 then some (.ifCond .eq 7, 187, 191) else none) else (bif Nat.beq pc 187 then some (.iconst 2, 188, 0) else none))) else (bif Nat.blt pc 191 then (bif Nat.beq pc 188 then some (.goto 4, 191, 192) else none) else (bif Nat.blt pc 192 then (bif Nat.beq pc 191 then some (.iconst 0, 192, 0) else none) else (bif Nat.beq pc 192 then some (.if_icmp .eq 5, 195, 197) else none)))))) else (bif Nat.blt pc 215 then (bif Nat.blt pc 204 then (bif Nat.blt pc 197 then (bif Nat.blt pc 196 then (bif Nat.beq pc 195 then some (.iconst 0, 196, 0) else none) else (bif Nat.beq pc 196 then some (.ireturn, 197, 0) else none)) else (bif Nat.blt pc 199 then (bif Nat.beq pc 197 then some (.iload 11, 199, 0) else none) else (bif Nat.blt pc 201 then (bif Nat.beq pc 199 then some (.iload 15, 201, 0) else none) else (bif Nat.beq pc 201 then some (.if_icmp .ne 10, 204, 211) else none)))) else (bif Nat.blt pc 211 then (bif Nat.blt pc 206 then (bif Nat.beq pc 204 then some (.iload 12, 206, 0) else none) else (bif Nat.blt pc 208 then (bif Nat.beq pc 206 then some (.iload 15, 208, 0) else none) else (bif Nat.beq pc 208 then some (.if_icmp .eq 5, 211, 213) else none))) else (bif Nat.blt pc 212 then (bif Nat.beq pc 211 then some (.iconst 0, 212, 0) else none) else (bif Nat.blt pc 213 then (bif Nat.beq pc 212 then some (.ireturn, 213, 0) else none) else (bif Nat.beq pc 213 then some (.iload 5, 215, 0) else none))))) else (bif Nat.blt pc 224 then (bif Nat.blt pc 220 then (bif Nat.blt pc 217 then (bif Nat.beq pc 215 then some (.iload 16, 217, 0) else none) else (bif Nat.beq pc 217 then some (.if_icmp .eq 5, 220, 222) else none)) else (bif Nat.blt pc 221 then (bif Nat.beq pc 220 then some (.iconst 0, 221, 0) else none) else (bif Nat.blt pc 222 then (bif Nat.beq pc 221 then some (.ireturn, 222, 0) else none) else (bif Nat.beq pc 222 then some (.iload 6, 224, 0) else none)))) else (bif Nat.blt pc 230 then (bif Nat.blt pc 226 then (bif Nat.beq pc 224 then some (.iload 14, 226, 0) else none) else (bif Nat.blt pc 229 then (bif Nat.beq pc 226 then some (.ifCond .eq 15, 229, 241) else none) else (bif Nat.beq pc 229 then some (.iload_n 0, 230, 0) else none))) else (bif Nat.blt pc 233 then (bif Nat.beq pc 230 then some (.ifCond .ne 11, 233, 241) else none) else (bif Nat.blt pc 234 then (bif Nat.beq pc 233 then some (.iload_n 1, 234, 0) else none) else (bif Nat.beq pc 234 then some (.ifCond .ne 7, 237, 241) else none))))))) else (bif Nat.blt pc 277 then (bif Nat.blt pc 258 then (bif Nat.blt pc 246 then (bif Nat.blt pc 241 then (bif Nat.blt pc 238 then (bif Nat.beq pc 237 then some (.iconst 1, 238, 0) else none) else (bif Nat.beq pc 238 then some (.goto 4, 241, 242) else none)) else (bif Nat.blt pc 242 then (bif Nat.beq pc 241 then some (.iconst 0, 242, 0) else none) else (bif Nat.blt pc 245 then (bif Nat.beq pc 242 then some (.if_icmp .eq 5, 245, 247) else none) else (bif Nat.beq pc 245 then some (.iconst 0, 246, 0) else none)))) else (bif Nat.blt pc 251 then (bif Nat.blt pc 247 then (bif Nat.beq pc 246 then some (.ireturn, 247, 0) else none) else (bif Nat.blt pc 249 then (bif Nat.beq pc 247 then some (.iload 7, 249, 0) else none) else (bif Nat.beq pc 249 then some (.iload 14, 251, 0) else none))) else (bif Nat.blt pc 254 then (bif Nat.beq pc 251 then some (.ifCond .eq 11, 254, 262) else none) else (bif Nat.blt pc 255 then (bif Nat.beq pc 254 then some (.iload_n 0, 255, 0) else none) else (bif Nat.beq pc 255 then some (.ifCond .ne 7, 258, 262) else none))))) else (bif Nat.blt pc 267 then (bif Nat.blt pc 262 then (bif Nat.blt pc 259 then (bif Nat.beq pc 258 then some (.iconst 1, 259, 0) else none) else (bif Nat.beq pc 259 then some (.goto 4, 262, 263) else none)) else (bif Nat.blt pc 263 then (bif Nat.beq pc 262 then some (.iconst 0, 263, 0) else none) else (bif Nat.blt pc 266 then (bif Nat.beq pc 263 then some (.if_icmp .eq 5, 266, 268) else none) else (bif Nat.beq pc 266 then some (.iconst 0, 267, 0) else none)))) else (bif Nat.blt pc 272 then (bif Nat.blt pc 268 then (bif Nat.beq pc 267 then some (.ireturn, 268, 0) else none) else (bif Nat.blt pc 270 then (bif Nat.beq pc 268 then some (.iload 8, 270, 0) else none) else (bif Nat.beq pc 270 then some (.iload 14, 272, 0) else none))) else (bif Nat.blt pc 275 then (bif Nat.beq pc 272 then some (.ifCond .eq 16, 275, 288) else none) else (bif Nat.blt pc 276 then (bif Nat.beq pc 275 then some (.iload_n 0, 276, 0) else none) else (bif Nat.beq pc 276 then some (.iconst 1, 277, 0) else none)))))) else (bif Nat.blt pc 298 then (bif Nat.blt pc 288 then (bif Nat.blt pc 281 then (bif Nat.blt pc 280 then (bif Nat.beq pc 277 then some (.if_icmp .ne 11, 280, 288) else none) else (bif Nat.beq pc 280 then some (.iload_n 1, 281, 0) else none)) else (bif Nat.blt pc 284 then (bif Nat.beq pc 281 then some (.ifCond .ne 7, 284, 288) else none) else (bif Nat.blt pc 285 then (bif Nat.beq pc 284 then some (.iconst 1, 285, 0) else none) else (bif Nat.beq pc 285 then some (.goto 4, 288, 289) else none)))) else (bif Nat.blt pc 293 then (bif Nat.blt pc 289 then (bif Nat.beq pc 288 then some (.iconst 0, 289, 0) else none) else (bif Nat.blt pc 292 then (bif Nat.beq pc 289 then some (.if_icmp .eq 5, 292, 294) else none) else (bif Nat.beq pc 292 then some (.iconst 0, 293, 0) else none))) else (bif Nat.blt pc 294 then (bif Nat.beq pc 293 then some (.ireturn, 294, 0) else none) else (bif Nat.blt pc 296 then (bif Nat.beq pc 294 then some (.iload 9, 296, 0) else none) else (bif Nat.beq pc 296 then some (.iload 14, 298, 0) else none))))) else (bif Nat.blt pc 310 then (bif Nat.blt pc 303 then (bif Nat.blt pc 301 then (bif Nat.beq pc 298 then some (.ifCond .eq 12, 301, 310) else none) else (bif Nat.blt pc 302 then (bif Nat.beq pc 301 then some (.iload_n 0, 302, 0) else none) else (bif Nat.beq pc 302 then some (.iconst 1, 303, 0) else none))) else (bif Nat.blt pc 306 then (bif Nat.beq pc 303 then some (.if_icmp .ne 7, 306, 310) else none) else (bif Nat.blt pc 307 then (bif Nat.beq pc 306 then some (.iconst 1, 307, 0) else none) else (bif Nat.beq pc 307 then some (.goto 4, 310, 311) else none)))) else (bif Nat.blt pc 315 then (bif Nat.blt pc 311 then (bif Nat.beq pc 310 then some (.iconst 0, 311, 0) else none) else (bif Nat.blt pc 314 then (bif Nat.beq pc 311 then some (.if_icmp .eq 5, 314, 316) else none) else (bif Nat.beq pc 314 then some (.iconst 0, 315, 0) else none))) else (bif Nat.blt pc 316 then (bif Nat.beq pc 315 then some (.ireturn, 316, 0) else none) else (bif Nat.blt pc 317 then (bif Nat.beq pc 316 then some (.iconst 1, 317, 0) else none) else (bif Nat.beq pc 317 then some (.ireturn, 318, 0) else none))))))))) else none
/-- the constructor -/
def t_ins_1 (pc : Nat) : Option (Instr × Nat × Nat) := bif Nat.blt pc 140 then (bif Nat.blt pc 74 then (bif Nat.blt pc 36 then (bif Nat.blt pc 17 then (bif Nat.blt pc 7 then (bif Nat.blt pc 4 then (bif Nat.blt pc 1 then (bif Nat.beq pc 0 then some (.aload_n 0, 1, 0) else none) else (bif Nat.beq pc 1 then some (.invokespecial 1, 4, 0) else none)) else (bif Nat.blt pc 5 then (bif Nat.beq pc 4 then some (.aload_n 0, 5, 0) else none) else (bif Nat.beq pc 5 then some (.bipush 32, 7, 0) else none))) else (bif Nat.blt pc 12 then (bif Nat.blt pc 9 then (bif Nat.beq pc 7 then some (.newarray .byte, 9, 0) else none) else (bif Nat.beq pc 9 then some (.putfield 7, 12, 0) else none)) else (bif Nat.blt pc 13 then (bif Nat.beq pc 12 then some (.aload_n 0, 13, 0) else none) else (bif Nat.blt pc 15 then (bif Nat.beq pc 13 then some (.bipush 32, 15, 0) else none) else (bif Nat.beq pc 15 then some (.newarray .int, 17, 0) else none))))) else (bif Nat.blt pc 25 then (bif Nat.blt pc 21 then (bif Nat.blt pc 20 then (bif Nat.beq pc 17 then some (.putfield 13, 20, 0) else none) else (bif Nat.beq pc 20 then some (.aload_n 0, 21, 0) else none)) else (bif Nat.blt pc 23 then (bif Nat.beq pc 21 then some (.bipush 96, 23, 0) else none) else (bif Nat.beq pc 23 then some (.newarray .int, 25, 0) else none))) else (bif Nat.blt pc 29 then (bif Nat.blt pc 28 then (bif Nat.beq pc 25 then some (.putfield 17, 28, 0) else none) else (bif Nat.beq pc 28 then some (.aload_n 0, 29, 0) else none)) else (bif Nat.blt pc 31 then (bif Nat.beq pc 29 then some (.bipush 64, 31, 0) else none) else (bif Nat.blt pc 33 then (bif Nat.beq pc 31 then some (.newarray .boolean, 33, 0) else none) else (bif Nat.beq pc 33 then some (.putfield 20, 36, 0) else none)))))) else (bif Nat.blt pc 53 then (bif Nat.blt pc 44 then (bif Nat.blt pc 39 then (bif Nat.blt pc 37 then (bif Nat.beq pc 36 then some (.aload_n 0, 37, 0) else none) else (bif Nat.beq pc 37 then some (.bipush 32, 39, 0) else none)) else (bif Nat.blt pc 41 then (bif Nat.beq pc 39 then some (.newarray .byte, 41, 0) else none) else (bif Nat.beq pc 41 then some (.putfield 24, 44, 0) else none))) else (bif Nat.blt pc 47 then (bif Nat.blt pc 45 then (bif Nat.beq pc 44 then some (.aload_n 0, 45, 0) else none) else (bif Nat.beq pc 45 then some (.bipush 32, 47, 0) else none)) else (bif Nat.blt pc 49 then (bif Nat.beq pc 47 then some (.newarray .int, 49, 0) else none) else (bif Nat.blt pc 52 then (bif Nat.beq pc 49 then some (.putfield 27, 52, 0) else none) else (bif Nat.beq pc 52 then some (.aload_n 0, 53, 0) else none))))) else (bif Nat.blt pc 64 then (bif Nat.blt pc 57 then (bif Nat.blt pc 55 then (bif Nat.beq pc 53 then some (.bipush 32, 55, 0) else none) else (bif Nat.beq pc 55 then some (.newarray .boolean, 57, 0) else none)) else (bif Nat.blt pc 60 then (bif Nat.beq pc 57 then some (.putfield 30, 60, 0) else none) else (bif Nat.blt pc 61 then (bif Nat.beq pc 60 then some (.aload_n 0, 61, 0) else none) else (bif Nat.beq pc 61 then some (.sipush 128, 64, 0) else none)))) else (bif Nat.blt pc 69 then (bif Nat.blt pc 66 then (bif Nat.beq pc 64 then some (.newarray .int, 66, 0) else none) else (bif Nat.beq pc 66 then some (.putfield 33, 69, 0) else none)) else (bif Nat.blt pc 70 then (bif Nat.beq pc 69 then some (.aload_n 0, 70, 0) else none) else (bif Nat.blt pc 72 then (bif Nat.beq pc 70 then some (.bipush 32, 72, 0) else none) else (bif Nat.beq pc 72 then some (.newarray .boolean, 74, 0) else none))))))) else (bif Nat.blt pc 106 then (bif Nat.blt pc 91 then (bif Nat.blt pc 80 then (bif Nat.blt pc 78 then (bif Nat.blt pc 77 then (bif Nat.beq pc 74 then some (.putfield 36, 77, 0) else none) else (bif Nat.beq pc 77 then some (.aload_n 0, 78, 0) else none)) else (bif Nat.blt pc 79 then (bif Nat.beq pc 78 then some (.aload_n 0, 79, 0) else none) else (bif Nat.beq pc 79 then some (.iload_n 1, 80, 0) else none))) else (bif Nat.blt pc 84 then (bif Nat.blt pc 82 then (bif Nat.beq pc 80 then some (.bipush 8, 82, 0) else none) else (bif Nat.beq pc 82 then some (.bipush 32, 84, 0) else none)) else (bif Nat.blt pc 87 then (bif Nat.beq pc 84 then some (.invokevirtual 39, 87, 0) else none) else (bif Nat.blt pc 90 then (bif Nat.beq pc 87 then some (.putfield 43, 90, 0) else none) else (bif Nat.beq pc 90 then some (.aload_n 0, 91, 0) else none))))) else (bif Nat.blt pc 99 then (bif Nat.blt pc 93 then (bif Nat.blt pc 92 then (bif Nat.beq pc 91 then some (.aload_n 0, 92, 0) else none) else (bif Nat.beq pc 92 then some (.iload_n 2, 93, 0) else none)) else (bif Nat.blt pc 94 then (bif Nat.beq pc 93 then some (.iconst 1, 94, 0) else none) else (bif Nat.blt pc 96 then (bif Nat.beq pc 94 then some (.bipush 8, 96, 0) else none) else (bif Nat.beq pc 96 then some (.invokevirtual 39, 99, 0) else none)))) else (bif Nat.blt pc 103 then (bif Nat.blt pc 102 then (bif Nat.beq pc 99 then some (.putfield 47, 102, 0) else none) else (bif Nat.beq pc 102 then some (.aload_n 0, 103, 0) else none)) else (bif Nat.blt pc 104 then (bif Nat.beq pc 103 then some (.aload_n 0, 104, 0) else none) else (bif Nat.blt pc 105 then (bif Nat.beq pc 104 then some (.iload_n 3, 105, 0) else none) else (bif Nat.beq pc 105 then some (.iconst 1, 106, 0) else none)))))) else (bif Nat.blt pc 124 then (bif Nat.blt pc 115 then (bif Nat.blt pc 111 then (bif Nat.blt pc 108 then (bif Nat.beq pc 106 then some (.bipush 16, 108, 0) else none) else (bif Nat.beq pc 108 then some (.invokevirtual 39, 111, 0) else none)) else (bif Nat.blt pc 114 then (bif Nat.beq pc 111 then some (.putfield 50, 114, 0) else none) else (bif Nat.beq pc 114 then some (.aload_n 0, 115, 0) else none))) else (bif Nat.blt pc 119 then (bif Nat.blt pc 116 then (bif Nat.beq pc 115 then some (.iconst 0, 116, 0) else none) else (bif Nat.beq pc 116 then some (.putfield 53, 119, 0) else none)) else (bif Nat.blt pc 120 then (bif Nat.beq pc 119 then some (.aload_n 0, 120, 0) else none) else (bif Nat.blt pc 121 then (bif Nat.beq pc 120 then some (.iconst 0, 121, 0) else none) else (bif Nat.beq pc 121 then some (.putfield 56, 124, 0) else none))))) else (bif Nat.blt pc 131 then (bif Nat.blt pc 126 then (bif Nat.blt pc 125 then (bif Nat.beq pc 124 then some (.aload_n 0, 125, 0) else none) else (bif Nat.beq pc 125 then some (.iconst 0, 126, 0) else none)) else (bif Nat.blt pc 129 then (bif Nat.beq pc 126 then some (.putfield 59, 129, 0) else none) else (bif Nat.blt pc 130 then (bif Nat.beq pc 129 then some (.aload_n 0, 130, 0) else none) else (bif Nat.beq pc 130 then some (.iconst 0, 131, 0) else none)))) else (bif Nat.blt pc 135 then (bif Nat.blt pc 134 then (bif Nat.beq pc 131 then some (.putfield 62, 134, 0) else none) else (bif Nat.beq pc 134 then some (.aload_n 0, 135, 0) else none)) else (bif Nat.blt pc 136 then (bif Nat.beq pc 135 then some (.iconst 0, 136, 0) else none) else (bif Nat.blt pc 139 then (bif Nat.beq pc 136 then some (.putfield 65, 139, 0) else none) else (bif Nat.beq pc 139 then some (.return_, 140, 0) else none)))))))) else none
/-- addBlob -/
def t_ins_2 (pc : Nat) : Option (Instr × Nat × Nat) := bif Nat.blt pc 23 then (bif Nat.blt pc 13 then (bif Nat.blt pc 5 then (bif Nat.blt pc 1 then (bif Nat.beq pc 0 then some (.aload_n 0, 1, 0) else none) else (bif Nat.blt pc 4 then (bif Nat.beq pc 1 then some (.getfield 53, 4, 0) else none) else (bif Nat.beq pc 4 then some (.aload_n 0, 5, 0) else none))) else (bif Nat.blt pc 11 then (bif Nat.blt pc 8 then (bif Nat.beq pc 5 then some (.getfield 43, 8, 0) else none) else (bif Nat.beq pc 8 then some (.if_icmp .lt 5, 11, 13) else none)) else (bif Nat.blt pc 12 then (bif Nat.beq pc 11 then some (.iconst (-1), 12, 0) else none) else (bif Nat.beq pc 12 then some (.ireturn, 13, 0) else none)))) else (bif Nat.blt pc 17 then (bif Nat.blt pc 15 then (bif Nat.blt pc 14 then (bif Nat.beq pc 13 then some (.aload_n 0, 14, 0) else none) else (bif Nat.beq pc 14 then some (.iconst 1, 15, 0) else none)) else (bif Nat.blt pc 16 then (bif Nat.beq pc 15 then some (.iconst 0, 16, 0) else none) else (bif Nat.beq pc 16 then some (.iconst (-1), 17, 0) else none))) else (bif Nat.blt pc 19 then (bif Nat.blt pc 18 then (bif Nat.beq pc 17 then some (.iconst (-1), 18, 0) else none) else (bif Nat.beq pc 18 then some (.iconst (-1), 19, 0) else none)) else (bif Nat.blt pc 22 then (bif Nat.beq pc 19 then some (.invokevirtual 69, 22, 0) else none) else (bif Nat.beq pc 22 then some (.ireturn, 23, 0) else none))))) else none
/-- addTree -/
def t_ins_3 (pc : Nat) : Option (Instr × Nat × Nat) := bif Nat.blt pc 73 then (bif Nat.blt pc 38 then (bif Nat.blt pc 18 then (bif Nat.blt pc 11 then (bif Nat.blt pc 4 then (bif Nat.blt pc 1 then (bif Nat.beq pc 0 then some (.aload_n 0, 1, 0) else none) else (bif Nat.beq pc 1 then some (.getfield 53, 4, 0) else none)) else (bif Nat.blt pc 5 then (bif Nat.beq pc 4 then some (.aload_n 0, 5, 0) else none) else (bif Nat.blt pc 8 then (bif Nat.beq pc 5 then some (.getfield 43, 8, 0) else none) else (bif Nat.beq pc 8 then some (.if_icmp .lt 5, 11, 13) else none)))) else (bif Nat.blt pc 13 then (bif Nat.blt pc 12 then (bif Nat.beq pc 11 then some (.iconst (-1), 12, 0) else none) else (bif Nat.beq pc 12 then some (.ireturn, 13, 0) else none)) else (bif Nat.blt pc 14 then (bif Nat.beq pc 13 then some (.aload_n 0, 14, 0) else none) else (bif Nat.blt pc 15 then (bif Nat.beq pc 14 then some (.iload_n 1, 15, 0) else none) else (bif Nat.beq pc 15 then some (.invokevirtual 73, 18, 0) else none))))) else (bif Nat.blt pc 29 then (bif Nat.blt pc 22 then (bif Nat.blt pc 21 then (bif Nat.beq pc 18 then some (.ifCond .eq 19, 21, 37) else none) else (bif Nat.beq pc 21 then some (.aload_n 0, 22, 0) else none)) else (bif Nat.blt pc 23 then (bif Nat.beq pc 22 then some (.iload_n 2, 23, 0) else none) else (bif Nat.blt pc 26 then (bif Nat.beq pc 23 then some (.invokevirtual 73, 26, 0) else none) else (bif Nat.beq pc 26 then some (.ifCond .eq 11, 29, 37) else none)))) else (bif Nat.blt pc 31 then (bif Nat.blt pc 30 then (bif Nat.beq pc 29 then some (.aload_n 0, 30, 0) else none) else (bif Nat.beq pc 30 then some (.iload_n 3, 31, 0) else none)) else (bif Nat.blt pc 34 then (bif Nat.beq pc 31 then some (.invokevirtual 73, 34, 0) else none) else (bif Nat.blt pc 37 then (bif Nat.beq pc 34 then some (.ifCond .ne 5, 37, 39) else none) else (bif Nat.beq pc 37 then some (.iconst (-1), 38, 0) else none)))))) else (bif Nat.blt pc 54 then (bif Nat.blt pc 46 then (bif Nat.blt pc 40 then (bif Nat.blt pc 39 then (bif Nat.beq pc 38 then some (.ireturn, 39, 0) else none) else (bif Nat.beq pc 39 then some (.aload_n 0, 40, 0) else none)) else (bif Nat.blt pc 41 then (bif Nat.beq pc 40 then some (.iload_n 1, 41, 0) else none) else (bif Nat.blt pc 44 then (bif Nat.beq pc 41 then some (.invokevirtual 77, 44, 0) else none) else (bif Nat.beq pc 44 then some (.istore 4, 46, 0) else none)))) else (bif Nat.blt pc 48 then (bif Nat.blt pc 47 then (bif Nat.beq pc 46 then some (.aload_n 0, 47, 0) else none) else (bif Nat.beq pc 47 then some (.iload_n 2, 48, 0) else none)) else (bif Nat.blt pc 51 then (bif Nat.beq pc 48 then some (.invokevirtual 77, 51, 0) else none) else (bif Nat.blt pc 53 then (bif Nat.beq pc 51 then some (.istore 5, 53, 0) else none) else (bif Nat.beq pc 53 then some (.aload_n 0, 54, 0) else none))))) else (bif Nat.blt pc 62 then (bif Nat.blt pc 58 then (bif Nat.blt pc 55 then (bif Nat.beq pc 54 then some (.iload_n 3, 55, 0) else none) else (bif Nat.beq pc 55 then some (.invokevirtual 77, 58, 0) else none)) else (bif Nat.blt pc 60 then (bif Nat.beq pc 58 then some (.istore 6, 60, 0) else none) else (bif Nat.blt pc 61 then (bif Nat.beq pc 60 then some (.aload_n 0, 61, 0) else none) else (bif Nat.beq pc 61 then some (.iconst 2, 62, 0) else none)))) else (bif Nat.blt pc 67 then (bif Nat.blt pc 63 then (bif Nat.beq pc 62 then some (.iconst 0, 63, 0) else none) else (bif Nat.blt pc 65 then (bif Nat.beq pc 63 then some (.iload 4, 65, 0) else none) else (bif Nat.beq pc 65 then some (.iload 5, 67, 0) else none))) else (bif Nat.blt pc 69 then (bif Nat.beq pc 67 then some (.iload 6, 69, 0) else none) else (bif Nat.blt pc 72 then (bif Nat.beq pc 69 then some (.invokevirtual 69, 72, 0) else none) else (bif Nat.beq pc 72 then some (.ireturn, 73, 0) else none))))))) else none
/-- give -/
def t_ins_4 (pc : Nat) : Option (Instr × Nat × Nat) := bif Nat.blt pc 106 then (bif Nat.blt pc 49 then (bif Nat.blt pc 26 then (bif Nat.blt pc 13 then (bif Nat.blt pc 7 then (bif Nat.blt pc 1 then (bif Nat.beq pc 0 then some (.aload_n 0, 1, 0) else none) else (bif Nat.blt pc 4 then (bif Nat.beq pc 1 then some (.getfield 62, 4, 0) else none) else (bif Nat.beq pc 4 then some (.ifCond .ne 20, 7, 24) else none))) else (bif Nat.blt pc 11 then (bif Nat.blt pc 8 then (bif Nat.beq pc 7 then some (.iload_n 1, 8, 0) else none) else (bif Nat.beq pc 8 then some (.ifCond .eq 8, 11, 16) else none)) else (bif Nat.blt pc 12 then (bif Nat.beq pc 11 then some (.iload_n 1, 12, 0) else none) else (bif Nat.beq pc 12 then some (.iconst 1, 13, 0) else none)))) else (bif Nat.blt pc 18 then (bif Nat.blt pc 16 then (bif Nat.beq pc 13 then some (.if_icmp .ne 11, 16, 24) else none) else (bif Nat.blt pc 17 then (bif Nat.beq pc 16 then some (.aload_n 0, 17, 0) else none) else (bif Nat.beq pc 17 then some (.iload_n 2, 18, 0) else none))) else (bif Nat.blt pc 24 then (bif Nat.blt pc 21 then (bif Nat.beq pc 18 then some (.invokevirtual 81, 21, 0) else none) else (bif Nat.beq pc 21 then some (.ifCond .ne 5, 24, 26) else none)) else (bif Nat.blt pc 25 then (bif Nat.beq pc 24 then some (.iconst (-1), 25, 0) else none) else (bif Nat.beq pc 25 then some (.ireturn, 26, 0) else none))))) else (bif Nat.blt pc 38 then (bif Nat.blt pc 31 then (bif Nat.blt pc 27 then (bif Nat.beq pc 26 then some (.aload_n 0, 27, 0) else none) else (bif Nat.blt pc 30 then (bif Nat.beq pc 27 then some (.invokevirtual 87, 30, 0) else none) else (bif Nat.beq pc 30 then some (.aload_n 0, 31, 0) else none))) else (bif Nat.blt pc 35 then (bif Nat.blt pc 32 then (bif Nat.beq pc 31 then some (.iload_n 2, 32, 0) else none) else (bif Nat.beq pc 32 then some (.invokevirtual 90, 35, 0) else none)) else (bif Nat.blt pc 36 then (bif Nat.beq pc 35 then some (.iload_n 1, 36, 0) else none) else (bif Nat.beq pc 36 then some (.bipush 32, 38, 0) else none)))) else (bif Nat.blt pc 43 then (bif Nat.blt pc 40 then (bif Nat.blt pc 39 then (bif Nat.beq pc 38 then some (.imul, 39, 0) else none) else (bif Nat.beq pc 39 then some (.istore_n 3, 40, 0) else none)) else (bif Nat.blt pc 41 then (bif Nat.beq pc 40 then some (.iconst 0, 41, 0) else none) else (bif Nat.beq pc 41 then some (.istore 4, 43, 0) else none))) else (bif Nat.blt pc 46 then (bif Nat.blt pc 44 then (bif Nat.beq pc 43 then some (.iconst 0, 44, 0) else none) else (bif Nat.beq pc 44 then some (.istore 5, 46, 0) else none)) else (bif Nat.blt pc 48 then (bif Nat.beq pc 46 then some (.iload 5, 48, 0) else none) else (bif Nat.beq pc 48 then some (.aload_n 0, 49, 0) else none)))))) else (bif Nat.blt pc 79 then (bif Nat.blt pc 66 then (bif Nat.blt pc 57 then (bif Nat.blt pc 52 then (bif Nat.beq pc 49 then some (.getfield 53, 52, 0) else none) else (bif Nat.blt pc 55 then (bif Nat.beq pc 52 then some (.if_icmp .ge 51, 55, 103) else none) else (bif Nat.beq pc 55 then some (.iload 5, 57, 0) else none))) else (bif Nat.blt pc 62 then (bif Nat.blt pc 59 then (bif Nat.beq pc 57 then some (.bipush 32, 59, 0) else none) else (bif Nat.beq pc 59 then some (.if_icmp .ge 44, 62, 103) else none)) else (bif Nat.blt pc 63 then (bif Nat.beq pc 62 then some (.aload_n 0, 63, 0) else none) else (bif Nat.beq pc 63 then some (.getfield 30, 66, 0) else none)))) else (bif Nat.blt pc 72 then (bif Nat.blt pc 68 then (bif Nat.beq pc 66 then some (.iload 5, 68, 0) else none) else (bif Nat.blt pc 69 then (bif Nat.beq pc 68 then some (.baload, 69, 0) else none) else (bif Nat.beq pc 69 then some (.ifCond .eq 28, 72, 97) else none))) else (bif Nat.blt pc 76 then (bif Nat.blt pc 73 then (bif Nat.beq pc 72 then some (.aload_n 0, 73, 0) else none) else (bif Nat.beq pc 73 then some (.getfield 20, 76, 0) else none)) else (bif Nat.blt pc 77 then (bif Nat.beq pc 76 then some (.iload_n 3, 77, 0) else none) else (bif Nat.beq pc 77 then some (.iload 5, 79, 0) else none))))) else (bif Nat.blt pc 91 then (bif Nat.blt pc 84 then (bif Nat.blt pc 80 then (bif Nat.beq pc 79 then some (.iadd, 80, 0) else none) else (bif Nat.blt pc 81 then (bif Nat.beq pc 80 then some (.baload, 81, 0) else none) else (bif Nat.beq pc 81 then some (.ifCond .ne 16, 84, 97) else none))) else (bif Nat.blt pc 88 then (bif Nat.blt pc 85 then (bif Nat.beq pc 84 then some (.aload_n 0, 85, 0) else none) else (bif Nat.beq pc 85 then some (.getfield 20, 88, 0) else none)) else (bif Nat.blt pc 89 then (bif Nat.beq pc 88 then some (.iload_n 3, 89, 0) else none) else (bif Nat.beq pc 89 then some (.iload 5, 91, 0) else none)))) else (bif Nat.blt pc 97 then (bif Nat.blt pc 93 then (bif Nat.blt pc 92 then (bif Nat.beq pc 91 then some (.iadd, 92, 0) else none) else (bif Nat.beq pc 92 then some (.iconst 1, 93, 0) else none)) else (bif Nat.blt pc 94 then (bif Nat.beq pc 93 then some (.bastore, 94, 0) else none) else (bif Nat.beq pc 94 then some (.iinc 4 1, 97, 0) else none))) else (bif Nat.blt pc 103 then (bif Nat.blt pc 100 then (bif Nat.beq pc 97 then some (.iinc 5 1, 100, 0) else none) else (bif Nat.beq pc 100 then some (.goto (-54), 103, 46) else none)) else (bif Nat.blt pc 105 then (bif Nat.beq pc 103 then some (.iload 4, 105, 0) else none) else (bif Nat.beq pc 105 then some (.ireturn, 106, 0) else none))))))) else none
/-- kindOf -/
def t_ins_5 (pc : Nat) : Option (Instr × Nat × Nat) := bif Nat.blt pc 17 then (bif Nat.blt pc 9 then (bif Nat.blt pc 2 then (bif Nat.blt pc 1 then (bif Nat.beq pc 0 then some (.aload_n 0, 1, 0) else none) else (bif Nat.beq pc 1 then some (.iload_n 1, 2, 0) else none)) else (bif Nat.blt pc 5 then (bif Nat.beq pc 2 then some (.invokevirtual 81, 5, 0) else none) else (bif Nat.blt pc 8 then (bif Nat.beq pc 5 then some (.ifCond .ne 5, 8, 10) else none) else (bif Nat.beq pc 8 then some (.iconst 0, 9, 0) else none)))) else (bif Nat.blt pc 14 then (bif Nat.blt pc 10 then (bif Nat.beq pc 9 then some (.ireturn, 10, 0) else none) else (bif Nat.blt pc 11 then (bif Nat.beq pc 10 then some (.aload_n 0, 11, 0) else none) else (bif Nat.beq pc 11 then some (.getfield 7, 14, 0) else none))) else (bif Nat.blt pc 15 then (bif Nat.beq pc 14 then some (.iload_n 1, 15, 0) else none) else (bif Nat.blt pc 16 then (bif Nat.beq pc 15 then some (.baload, 16, 0) else none) else (bif Nat.beq pc 16 then some (.ireturn, 17, 0) else none))))) else none
/-- link -/
def t_ins_6 (pc : Nat) : Option (Instr × Nat × Nat) := bif Nat.blt pc 30 then (bif Nat.blt pc 18 then (bif Nat.blt pc 9 then (bif Nat.blt pc 2 then (bif Nat.blt pc 1 then (bif Nat.beq pc 0 then some (.aload_n 0, 1, 0) else none) else (bif Nat.beq pc 1 then some (.iload_n 1, 2, 0) else none)) else (bif Nat.blt pc 5 then (bif Nat.beq pc 2 then some (.invokevirtual 81, 5, 0) else none) else (bif Nat.blt pc 8 then (bif Nat.beq pc 5 then some (.ifCond .eq 12, 8, 17) else none) else (bif Nat.beq pc 8 then some (.iload_n 2, 9, 0) else none)))) else (bif Nat.blt pc 13 then (bif Nat.blt pc 12 then (bif Nat.beq pc 9 then some (.ifCond .lt 8, 12, 17) else none) else (bif Nat.beq pc 12 then some (.iload_n 2, 13, 0) else none)) else (bif Nat.blt pc 14 then (bif Nat.beq pc 13 then some (.iconst 2, 14, 0) else none) else (bif Nat.blt pc 17 then (bif Nat.beq pc 14 then some (.if_icmp .le 5, 17, 19) else none) else (bif Nat.beq pc 17 then some (.iconst (-1), 18, 0) else none))))) else (bif Nat.blt pc 25 then (bif Nat.blt pc 20 then (bif Nat.blt pc 19 then (bif Nat.beq pc 18 then some (.ireturn, 19, 0) else none) else (bif Nat.beq pc 19 then some (.aload_n 0, 20, 0) else none)) else (bif Nat.blt pc 23 then (bif Nat.beq pc 20 then some (.getfield 17, 23, 0) else none) else (bif Nat.blt pc 24 then (bif Nat.beq pc 23 then some (.iload_n 1, 24, 0) else none) else (bif Nat.beq pc 24 then some (.iconst 3, 25, 0) else none)))) else (bif Nat.blt pc 27 then (bif Nat.blt pc 26 then (bif Nat.beq pc 25 then some (.imul, 26, 0) else none) else (bif Nat.beq pc 26 then some (.iload_n 2, 27, 0) else none)) else (bif Nat.blt pc 28 then (bif Nat.beq pc 27 then some (.iadd, 28, 0) else none) else (bif Nat.blt pc 29 then (bif Nat.beq pc 28 then some (.iaload, 29, 0) else none) else (bif Nat.beq pc 29 then some (.ireturn, 30, 0) else none)))))) else none
/-- has -/
def t_ins_7 (pc : Nat) : Option (Instr × Nat × Nat) := bif Nat.blt pc 31 then (bif Nat.blt pc 18 then (bif Nat.blt pc 9 then (bif Nat.blt pc 4 then (bif Nat.blt pc 1 then (bif Nat.beq pc 0 then some (.iload_n 1, 1, 0) else none) else (bif Nat.beq pc 1 then some (.ifCond .eq 8, 4, 9) else none)) else (bif Nat.blt pc 5 then (bif Nat.beq pc 4 then some (.iload_n 1, 5, 0) else none) else (bif Nat.blt pc 6 then (bif Nat.beq pc 5 then some (.iconst 1, 6, 0) else none) else (bif Nat.beq pc 6 then some (.if_icmp .ne 11, 9, 17) else none)))) else (bif Nat.blt pc 11 then (bif Nat.blt pc 10 then (bif Nat.beq pc 9 then some (.aload_n 0, 10, 0) else none) else (bif Nat.beq pc 10 then some (.iload_n 2, 11, 0) else none)) else (bif Nat.blt pc 14 then (bif Nat.beq pc 11 then some (.invokevirtual 81, 14, 0) else none) else (bif Nat.blt pc 17 then (bif Nat.beq pc 14 then some (.ifCond .ne 5, 17, 19) else none) else (bif Nat.beq pc 17 then some (.iconst 0, 18, 0) else none))))) else (bif Nat.blt pc 26 then (bif Nat.blt pc 20 then (bif Nat.blt pc 19 then (bif Nat.beq pc 18 then some (.ireturn, 19, 0) else none) else (bif Nat.beq pc 19 then some (.aload_n 0, 20, 0) else none)) else (bif Nat.blt pc 23 then (bif Nat.beq pc 20 then some (.getfield 20, 23, 0) else none) else (bif Nat.blt pc 24 then (bif Nat.beq pc 23 then some (.iload_n 1, 24, 0) else none) else (bif Nat.beq pc 24 then some (.bipush 32, 26, 0) else none)))) else (bif Nat.blt pc 28 then (bif Nat.blt pc 27 then (bif Nat.beq pc 26 then some (.imul, 27, 0) else none) else (bif Nat.beq pc 27 then some (.iload_n 2, 28, 0) else none)) else (bif Nat.blt pc 29 then (bif Nat.beq pc 28 then some (.iadd, 29, 0) else none) else (bif Nat.blt pc 30 then (bif Nat.beq pc 29 then some (.baload, 30, 0) else none) else (bif Nat.beq pc 30 then some (.ireturn, 31, 0) else none)))))) else none
/-- clamp -/
def t_ins_8 (pc : Nat) : Option (Instr × Nat × Nat) := bif Nat.blt pc 16 then (bif Nat.blt pc 8 then (bif Nat.blt pc 5 then (bif Nat.blt pc 1 then (bif Nat.beq pc 0 then some (.iload_n 1, 1, 0) else none) else (bif Nat.blt pc 2 then (bif Nat.beq pc 1 then some (.iload_n 2, 2, 0) else none) else (bif Nat.beq pc 2 then some (.if_icmp .ge 5, 5, 7) else none))) else (bif Nat.blt pc 6 then (bif Nat.beq pc 5 then some (.iload_n 2, 6, 0) else none) else (bif Nat.blt pc 7 then (bif Nat.beq pc 6 then some (.ireturn, 7, 0) else none) else (bif Nat.beq pc 7 then some (.iload_n 1, 8, 0) else none)))) else (bif Nat.blt pc 13 then (bif Nat.blt pc 9 then (bif Nat.beq pc 8 then some (.iload_n 3, 9, 0) else none) else (bif Nat.blt pc 12 then (bif Nat.beq pc 9 then some (.if_icmp .le 5, 12, 14) else none) else (bif Nat.beq pc 12 then some (.iload_n 3, 13, 0) else none))) else (bif Nat.blt pc 14 then (bif Nat.beq pc 13 then some (.ireturn, 14, 0) else none) else (bif Nat.blt pc 15 then (bif Nat.beq pc 14 then some (.iload_n 1, 15, 0) else none) else (bif Nat.beq pc 15 then some (.ireturn, 16, 0) else none))))) else none
/-- inRange -/
def t_ins_9 (pc : Nat) : Option (Instr × Nat × Nat) := bif Nat.blt pc 24 then (bif Nat.blt pc 12 then (bif Nat.blt pc 5 then (bif Nat.blt pc 1 then (bif Nat.beq pc 0 then some (.iload_n 1, 1, 0) else none) else (bif Nat.blt pc 4 then (bif Nat.beq pc 1 then some (.ifCond .lt 21, 4, 22) else none) else (bif Nat.beq pc 4 then some (.iload_n 1, 5, 0) else none))) else (bif Nat.blt pc 6 then (bif Nat.beq pc 5 then some (.aload_n 0, 6, 0) else none) else (bif Nat.blt pc 9 then (bif Nat.beq pc 6 then some (.getfield 53, 9, 0) else none) else (bif Nat.beq pc 9 then some (.if_icmp .ge 13, 12, 22) else none)))) else (bif Nat.blt pc 18 then (bif Nat.blt pc 13 then (bif Nat.beq pc 12 then some (.iload_n 1, 13, 0) else none) else (bif Nat.blt pc 15 then (bif Nat.beq pc 13 then some (.bipush 32, 15, 0) else none) else (bif Nat.beq pc 15 then some (.if_icmp .ge 7, 18, 22) else none))) else (bif Nat.blt pc 22 then (bif Nat.blt pc 19 then (bif Nat.beq pc 18 then some (.iconst 1, 19, 0) else none) else (bif Nat.beq pc 19 then some (.goto 4, 22, 23) else none)) else (bif Nat.blt pc 23 then (bif Nat.beq pc 22 then some (.iconst 0, 23, 0) else none) else (bif Nat.beq pc 23 then some (.ireturn, 24, 0) else none))))) else none
/-- norm -/
def t_ins_10 (pc : Nat) : Option (Instr × Nat × Nat) := bif Nat.blt pc 8 then (bif Nat.blt pc 5 then (bif Nat.blt pc 1 then (bif Nat.beq pc 0 then some (.iload_n 1, 1, 0) else none) else (bif Nat.blt pc 4 then (bif Nat.beq pc 1 then some (.ifCond .ge 5, 4, 6) else none) else (bif Nat.beq pc 4 then some (.iconst (-1), 5, 0) else none))) else (bif Nat.blt pc 6 then (bif Nat.beq pc 5 then some (.ireturn, 6, 0) else none) else (bif Nat.blt pc 7 then (bif Nat.beq pc 6 then some (.iload_n 1, 7, 0) else none) else (bif Nat.beq pc 7 then some (.ireturn, 8, 0) else none)))) else none
/-- validEntry -/
def t_ins_11 (pc : Nat) : Option (Instr × Nat × Nat) := bif Nat.blt pc 30 then (bif Nat.blt pc 15 then (bif Nat.blt pc 6 then (bif Nat.blt pc 4 then (bif Nat.blt pc 1 then (bif Nat.beq pc 0 then some (.iload_n 1, 1, 0) else none) else (bif Nat.beq pc 1 then some (.ifCond .ge 5, 4, 6) else none)) else (bif Nat.blt pc 5 then (bif Nat.beq pc 4 then some (.iconst 1, 5, 0) else none) else (bif Nat.beq pc 5 then some (.ireturn, 6, 0) else none))) else (bif Nat.blt pc 8 then (bif Nat.blt pc 7 then (bif Nat.beq pc 6 then some (.aload_n 0, 7, 0) else none) else (bif Nat.beq pc 7 then some (.iload_n 1, 8, 0) else none)) else (bif Nat.blt pc 11 then (bif Nat.beq pc 8 then some (.invokevirtual 81, 11, 0) else none) else (bif Nat.blt pc 14 then (bif Nat.beq pc 11 then some (.ifCond .eq 17, 14, 28) else none) else (bif Nat.beq pc 14 then some (.aload_n 0, 15, 0) else none))))) else (bif Nat.blt pc 21 then (bif Nat.blt pc 19 then (bif Nat.blt pc 18 then (bif Nat.beq pc 15 then some (.getfield 7, 18, 0) else none) else (bif Nat.beq pc 18 then some (.iload_n 1, 19, 0) else none)) else (bif Nat.blt pc 20 then (bif Nat.beq pc 19 then some (.baload, 20, 0) else none) else (bif Nat.beq pc 20 then some (.iconst 3, 21, 0) else none))) else (bif Nat.blt pc 25 then (bif Nat.blt pc 24 then (bif Nat.beq pc 21 then some (.if_icmp .eq 7, 24, 28) else none) else (bif Nat.beq pc 24 then some (.iconst 1, 25, 0) else none)) else (bif Nat.blt pc 28 then (bif Nat.beq pc 25 then some (.goto 4, 28, 29) else none) else (bif Nat.blt pc 29 then (bif Nat.beq pc 28 then some (.iconst 0, 29, 0) else none) else (bif Nat.beq pc 29 then some (.ireturn, 30, 0) else none)))))) else none
/-- define -/
def t_ins_12 (pc : Nat) : Option (Instr × Nat × Nat) := bif Nat.blt pc 111 then (bif Nat.blt pc 57 then (bif Nat.blt pc 30 then (bif Nat.blt pc 18 then (bif Nat.blt pc 8 then (bif Nat.blt pc 4 then (bif Nat.blt pc 1 then (bif Nat.beq pc 0 then some (.aload_n 0, 1, 0) else none) else (bif Nat.beq pc 1 then some (.getfield 53, 4, 0) else none)) else (bif Nat.blt pc 6 then (bif Nat.beq pc 4 then some (.istore 6, 6, 0) else none) else (bif Nat.beq pc 6 then some (.iload 6, 8, 0) else none))) else (bif Nat.blt pc 13 then (bif Nat.blt pc 11 then (bif Nat.beq pc 8 then some (.ifCond .lt 10, 11, 18) else none) else (bif Nat.beq pc 11 then some (.iload 6, 13, 0) else none)) else (bif Nat.blt pc 15 then (bif Nat.beq pc 13 then some (.bipush 32, 15, 0) else none) else (bif Nat.beq pc 15 then some (.if_icmp .lt 5, 18, 20) else none)))) else (bif Nat.blt pc 24 then (bif Nat.blt pc 20 then (bif Nat.blt pc 19 then (bif Nat.beq pc 18 then some (.iconst (-1), 19, 0) else none) else (bif Nat.beq pc 19 then some (.ireturn, 20, 0) else none)) else (bif Nat.blt pc 21 then (bif Nat.beq pc 20 then some (.aload_n 0, 21, 0) else none) else (bif Nat.beq pc 21 then some (.getfield 7, 24, 0) else none))) else (bif Nat.blt pc 27 then (bif Nat.blt pc 26 then (bif Nat.beq pc 24 then some (.iload 6, 26, 0) else none) else (bif Nat.beq pc 26 then some (.iload_n 1, 27, 0) else none)) else (bif Nat.blt pc 28 then (bif Nat.beq pc 27 then some (.i2b, 28, 0) else none) else (bif Nat.blt pc 29 then (bif Nat.beq pc 28 then some (.bastore, 29, 0) else none) else (bif Nat.beq pc 29 then some (.aload_n 0, 30, 0) else none)))))) else (bif Nat.blt pc 45 then (bif Nat.blt pc 37 then (bif Nat.blt pc 35 then (bif Nat.blt pc 33 then (bif Nat.beq pc 30 then some (.getfield 13, 33, 0) else none) else (bif Nat.beq pc 33 then some (.iload 6, 35, 0) else none)) else (bif Nat.blt pc 36 then (bif Nat.beq pc 35 then some (.iload_n 2, 36, 0) else none) else (bif Nat.beq pc 36 then some (.iastore, 37, 0) else none))) else (bif Nat.blt pc 41 then (bif Nat.blt pc 38 then (bif Nat.beq pc 37 then some (.aload_n 0, 38, 0) else none) else (bif Nat.beq pc 38 then some (.getfield 17, 41, 0) else none)) else (bif Nat.blt pc 43 then (bif Nat.beq pc 41 then some (.iload 6, 43, 0) else none) else (bif Nat.blt pc 44 then (bif Nat.beq pc 43 then some (.iconst 3, 44, 0) else none) else (bif Nat.beq pc 44 then some (.imul, 45, 0) else none))))) else (bif Nat.blt pc 51 then (bif Nat.blt pc 47 then (bif Nat.blt pc 46 then (bif Nat.beq pc 45 then some (.iload_n 3, 46, 0) else none) else (bif Nat.beq pc 46 then some (.iastore, 47, 0) else none)) else (bif Nat.blt pc 48 then (bif Nat.beq pc 47 then some (.aload_n 0, 48, 0) else none) else (bif Nat.beq pc 48 then some (.getfield 17, 51, 0) else none))) else (bif Nat.blt pc 54 then (bif Nat.blt pc 53 then (bif Nat.beq pc 51 then some (.iload 6, 53, 0) else none) else (bif Nat.beq pc 53 then some (.iconst 3, 54, 0) else none)) else (bif Nat.blt pc 55 then (bif Nat.beq pc 54 then some (.imul, 55, 0) else none) else (bif Nat.blt pc 56 then (bif Nat.beq pc 55 then some (.iconst 1, 56, 0) else none) else (bif Nat.beq pc 56 then some (.iadd, 57, 0) else none))))))) else (bif Nat.blt pc 82 then (bif Nat.blt pc 69 then (bif Nat.blt pc 64 then (bif Nat.blt pc 60 then (bif Nat.blt pc 59 then (bif Nat.beq pc 57 then some (.iload 4, 59, 0) else none) else (bif Nat.beq pc 59 then some (.iastore, 60, 0) else none)) else (bif Nat.blt pc 61 then (bif Nat.beq pc 60 then some (.aload_n 0, 61, 0) else none) else (bif Nat.beq pc 61 then some (.getfield 17, 64, 0) else none))) else (bif Nat.blt pc 67 then (bif Nat.blt pc 66 then (bif Nat.beq pc 64 then some (.iload 6, 66, 0) else none) else (bif Nat.beq pc 66 then some (.iconst 3, 67, 0) else none)) else (bif Nat.blt pc 68 then (bif Nat.beq pc 67 then some (.imul, 68, 0) else none) else (bif Nat.beq pc 68 then some (.iconst 2, 69, 0) else none)))) else (bif Nat.blt pc 74 then (bif Nat.blt pc 72 then (bif Nat.blt pc 70 then (bif Nat.beq pc 69 then some (.iadd, 70, 0) else none) else (bif Nat.beq pc 70 then some (.iload 5, 72, 0) else none)) else (bif Nat.blt pc 73 then (bif Nat.beq pc 72 then some (.iastore, 73, 0) else none) else (bif Nat.beq pc 73 then some (.aload_n 0, 74, 0) else none))) else (bif Nat.blt pc 79 then (bif Nat.blt pc 77 then (bif Nat.beq pc 74 then some (.getfield 20, 77, 0) else none) else (bif Nat.beq pc 77 then some (.iload 6, 79, 0) else none)) else (bif Nat.blt pc 80 then (bif Nat.beq pc 79 then some (.iconst 0, 80, 0) else none) else (bif Nat.blt pc 81 then (bif Nat.beq pc 80 then some (.bastore, 81, 0) else none) else (bif Nat.beq pc 81 then some (.aload_n 0, 82, 0) else none)))))) else (bif Nat.blt pc 98 then (bif Nat.blt pc 90 then (bif Nat.blt pc 87 then (bif Nat.blt pc 85 then (bif Nat.beq pc 82 then some (.getfield 20, 85, 0) else none) else (bif Nat.beq pc 85 then some (.bipush 32, 87, 0) else none)) else (bif Nat.blt pc 89 then (bif Nat.beq pc 87 then some (.iload 6, 89, 0) else none) else (bif Nat.beq pc 89 then some (.iadd, 90, 0) else none))) else (bif Nat.blt pc 92 then (bif Nat.blt pc 91 then (bif Nat.beq pc 90 then some (.iconst 0, 91, 0) else none) else (bif Nat.beq pc 91 then some (.bastore, 92, 0) else none)) else (bif Nat.blt pc 93 then (bif Nat.beq pc 92 then some (.aload_n 0, 93, 0) else none) else (bif Nat.blt pc 96 then (bif Nat.beq pc 93 then some (.getfield 24, 96, 0) else none) else (bif Nat.beq pc 96 then some (.iload 6, 98, 0) else none))))) else (bif Nat.blt pc 103 then (bif Nat.blt pc 100 then (bif Nat.blt pc 99 then (bif Nat.beq pc 98 then some (.iconst 0, 99, 0) else none) else (bif Nat.beq pc 99 then some (.bastore, 100, 0) else none)) else (bif Nat.blt pc 101 then (bif Nat.beq pc 100 then some (.aload_n 0, 101, 0) else none) else (bif Nat.beq pc 101 then some (.iload 6, 103, 0) else none))) else (bif Nat.blt pc 105 then (bif Nat.blt pc 104 then (bif Nat.beq pc 103 then some (.iconst 1, 104, 0) else none) else (bif Nat.beq pc 104 then some (.iadd, 105, 0) else none)) else (bif Nat.blt pc 108 then (bif Nat.beq pc 105 then some (.putfield 53, 108, 0) else none) else (bif Nat.blt pc 110 then (bif Nat.beq pc 108 then some (.iload 6, 110, 0) else none) else (bif Nat.beq pc 110 then some (.ireturn, 111, 0) else none)))))))) else none
/-- clearMark -/
def t_ins_13 (pc : Nat) : Option (Instr × Nat × Nat) := bif Nat.blt pc 22 then (bif Nat.blt pc 9 then (bif Nat.blt pc 3 then (bif Nat.blt pc 1 then (bif Nat.beq pc 0 then some (.iconst 0, 1, 0) else none) else (bif Nat.blt pc 2 then (bif Nat.beq pc 1 then some (.istore_n 1, 2, 0) else none) else (bif Nat.beq pc 2 then some (.iload_n 1, 3, 0) else none))) else (bif Nat.blt pc 5 then (bif Nat.beq pc 3 then some (.bipush 32, 5, 0) else none) else (bif Nat.blt pc 8 then (bif Nat.beq pc 5 then some (.if_icmp .ge 16, 8, 21) else none) else (bif Nat.beq pc 8 then some (.aload_n 0, 9, 0) else none)))) else (bif Nat.blt pc 14 then (bif Nat.blt pc 12 then (bif Nat.beq pc 9 then some (.getfield 30, 12, 0) else none) else (bif Nat.blt pc 13 then (bif Nat.beq pc 12 then some (.iload_n 1, 13, 0) else none) else (bif Nat.beq pc 13 then some (.iconst 0, 14, 0) else none))) else (bif Nat.blt pc 18 then (bif Nat.blt pc 15 then (bif Nat.beq pc 14 then some (.bastore, 15, 0) else none) else (bif Nat.beq pc 15 then some (.iinc 1 1, 18, 0) else none)) else (bif Nat.blt pc 21 then (bif Nat.beq pc 18 then some (.goto (-16), 21, 2) else none) else (bif Nat.beq pc 21 then some (.return_, 22, 0) else none))))) else none
/-- markReach -/
def t_ins_14 (pc : Nat) : Option (Instr × Nat × Nat) := bif Nat.blt pc 82 then (bif Nat.blt pc 38 then (bif Nat.blt pc 18 then (bif Nat.blt pc 10 then (bif Nat.blt pc 5 then (bif Nat.blt pc 1 then (bif Nat.beq pc 0 then some (.aload_n 0, 1, 0) else none) else (bif Nat.blt pc 2 then (bif Nat.beq pc 1 then some (.iload_n 1, 2, 0) else none) else (bif Nat.beq pc 2 then some (.invokevirtual 81, 5, 0) else none))) else (bif Nat.blt pc 8 then (bif Nat.beq pc 5 then some (.ifCond .ne 4, 8, 9) else none) else (bif Nat.blt pc 9 then (bif Nat.beq pc 8 then some (.return_, 9, 0) else none) else (bif Nat.beq pc 9 then some (.aload_n 0, 10, 0) else none)))) else (bif Nat.blt pc 15 then (bif Nat.blt pc 13 then (bif Nat.beq pc 10 then some (.getfield 30, 13, 0) else none) else (bif Nat.blt pc 14 then (bif Nat.beq pc 13 then some (.iload_n 1, 14, 0) else none) else (bif Nat.beq pc 14 then some (.iconst 1, 15, 0) else none))) else (bif Nat.blt pc 16 then (bif Nat.beq pc 15 then some (.bastore, 16, 0) else none) else (bif Nat.blt pc 17 then (bif Nat.beq pc 16 then some (.iload_n 1, 17, 0) else none) else (bif Nat.beq pc 17 then some (.istore_n 2, 18, 0) else none))))) else (bif Nat.blt pc 28 then (bif Nat.blt pc 23 then (bif Nat.blt pc 19 then (bif Nat.beq pc 18 then some (.iload_n 2, 19, 0) else none) else (bif Nat.blt pc 22 then (bif Nat.beq pc 19 then some (.ifCond .lt 62, 22, 81) else none) else (bif Nat.beq pc 22 then some (.aload_n 0, 23, 0) else none))) else (bif Nat.blt pc 26 then (bif Nat.beq pc 23 then some (.getfield 30, 26, 0) else none) else (bif Nat.blt pc 27 then (bif Nat.beq pc 26 then some (.iload_n 2, 27, 0) else none) else (bif Nat.beq pc 27 then some (.baload, 28, 0) else none)))) else (bif Nat.blt pc 33 then (bif Nat.blt pc 31 then (bif Nat.beq pc 28 then some (.ifCond .eq 47, 31, 75) else none) else (bif Nat.blt pc 32 then (bif Nat.beq pc 31 then some (.iconst 0, 32, 0) else none) else (bif Nat.beq pc 32 then some (.istore_n 3, 33, 0) else none))) else (bif Nat.blt pc 34 then (bif Nat.beq pc 33 then some (.iload_n 3, 34, 0) else none) else (bif Nat.blt pc 35 then (bif Nat.beq pc 34 then some (.iconst 3, 35, 0) else none) else (bif Nat.beq pc 35 then some (.if_icmp .ge 40, 38, 75) else none)))))) else (bif Nat.blt pc 57 then (bif Nat.blt pc 46 then (bif Nat.blt pc 43 then (bif Nat.blt pc 39 then (bif Nat.beq pc 38 then some (.aload_n 0, 39, 0) else none) else (bif Nat.blt pc 42 then (bif Nat.beq pc 39 then some (.getfield 17, 42, 0) else none) else (bif Nat.beq pc 42 then some (.iload_n 2, 43, 0) else none))) else (bif Nat.blt pc 44 then (bif Nat.beq pc 43 then some (.iconst 3, 44, 0) else none) else (bif Nat.blt pc 45 then (bif Nat.beq pc 44 then some (.imul, 45, 0) else none) else (bif Nat.beq pc 45 then some (.iload_n 3, 46, 0) else none)))) else (bif Nat.blt pc 50 then (bif Nat.blt pc 47 then (bif Nat.beq pc 46 then some (.iadd, 47, 0) else none) else (bif Nat.blt pc 48 then (bif Nat.beq pc 47 then some (.iaload, 48, 0) else none) else (bif Nat.beq pc 48 then some (.istore 4, 50, 0) else none))) else (bif Nat.blt pc 52 then (bif Nat.beq pc 50 then some (.iload 4, 52, 0) else none) else (bif Nat.blt pc 55 then (bif Nat.beq pc 52 then some (.ifCond .lt 17, 55, 69) else none) else (bif Nat.beq pc 55 then some (.iload 4, 57, 0) else none))))) else (bif Nat.blt pc 68 then (bif Nat.blt pc 62 then (bif Nat.blt pc 58 then (bif Nat.beq pc 57 then some (.iload_n 2, 58, 0) else none) else (bif Nat.blt pc 61 then (bif Nat.beq pc 58 then some (.if_icmp .ge 11, 61, 69) else none) else (bif Nat.beq pc 61 then some (.aload_n 0, 62, 0) else none))) else (bif Nat.blt pc 65 then (bif Nat.beq pc 62 then some (.getfield 30, 65, 0) else none) else (bif Nat.blt pc 67 then (bif Nat.beq pc 65 then some (.iload 4, 67, 0) else none) else (bif Nat.beq pc 67 then some (.iconst 1, 68, 0) else none)))) else (bif Nat.blt pc 75 then (bif Nat.blt pc 69 then (bif Nat.beq pc 68 then some (.bastore, 69, 0) else none) else (bif Nat.blt pc 72 then (bif Nat.beq pc 69 then some (.iinc 3 1, 72, 0) else none) else (bif Nat.beq pc 72 then some (.goto (-39), 75, 33) else none))) else (bif Nat.blt pc 78 then (bif Nat.beq pc 75 then some (.iinc 2 (-1), 78, 0) else none) else (bif Nat.blt pc 81 then (bif Nat.beq pc 78 then some (.goto (-60), 81, 18) else none) else (bif Nat.beq pc 81 then some (.return_, 82, 0) else none))))))) else none
def t_ins : Nat → Nat → Option (Instr × Nat × Nat)
  | 0 => t_ins_0
  | 1 => t_ins_1
  | 2 => t_ins_2
  | 3 => t_ins_3
  | 4 => t_ins_4
  | 5 => t_ins_5
  | 6 => t_ins_6
  | 7 => t_ins_7
  | 8 => t_ins_8
  | 9 => t_ins_9
  | 10 => t_ins_10
  | 11 => t_ins_11
  | 12 => t_ins_12
  | 13 => t_ins_13
  | 14 => t_ins_14
  | _ => fun _ => none
/-- an instruction's length -/
def pmIL : Instr → Nat
  | .bipush _ | .iload _ | .lload _ | .aload _ | .istore _ | .lstore _ | .astore _ | .ldc _ | .newarray _ => 2
  | .sipush _ | .ldc2_w _ | .iinc _ _ | .goto _ | .ifCond _ _ | .if_icmp _ _ | .getfield _ | .putfield _ | .new _ | .invokestatic _ | .invokevirtual _ | .invokespecial _ => 3
  | _ => 1
def pmOkI (pc np tg : Nat) : Instr → Bool
  | .bipush c => decide ((Int8.ofInt c).toInt32 = Int32.ofInt c) && decide (np = pc + 2)
  | .sipush c => decide ((Int16.ofInt c).toInt32 = Int32.ofInt c) && decide (np = pc + 3)
  | .goto o | .ifCond _ o | .if_icmp _ o => decide (0 ≤ (pc : Int) + o ∧ tg = ((pc : Int) + o).toNat) && decide (np = pc + 3)
  | i => decide (np = pc + pmIL i)
def pmChk (f : Nat → Option (Instr × Nat × Nat)) (b : ByteArray) (n : Nat) : Bool := (List.range n).all fun pc => match f pc with
  | none => true
  | some (i, np, tg) => decide (decode b pc = .ok (i, pmIL i)) && pmOkI pc np tg i
theorem pmChk_out {f : Nat → Option (Instr × Nat × Nat)} {b : ByteArray} {n : Nat} (h : pmChk f b n = true) (hn : ∀ pc, ¬ pc < n → f pc = none) {pc np tg : Nat} {i : Instr} (e : f pc = some (i, np, tg)) : decode b pc = .ok (i, pmIL i) ∧ pmOkI pc np tg i = true := by
  by_cases hp : pc < n
  · have q := List.all_eq_true.mp h pc (List.mem_range.mpr hp)
    rw [e] at q
    simpa using q
  · rw [hn pc hp] at e; cases e
theorem pmBlt {α : Type} {pc n : Nat} {a : Option α} (h : ¬ pc < n) : (bif Nat.blt pc n then a else none) = none := by
  have : Nat.blt pc n = false := by
    cases e : Nat.blt pc n with
    | false => rfl
    | true => exact absurd (Nat.le_of_ble_eq_true e) h
  rw [this]; rfl
theorem chk_0 : pmChk t_ins_0 code 318 = true := by decide +kernel
theorem chk_1 : pmChk t_ins_1 prog_1_method_1_code 140 = true := by decide +kernel
theorem chk_2 : pmChk t_ins_2 prog_1_method_2_code 23 = true := by decide +kernel
theorem chk_3 : pmChk t_ins_3 prog_1_method_3_code 73 = true := by decide +kernel
theorem chk_4 : pmChk t_ins_4 prog_1_method_5_code 106 = true := by decide +kernel
theorem chk_5 : pmChk t_ins_5 prog_1_method_11_code 17 = true := by decide +kernel
theorem chk_6 : pmChk t_ins_6 prog_1_method_12_code 30 = true := by decide +kernel
theorem chk_7 : pmChk t_ins_7 prog_1_method_13_code 31 = true := by decide +kernel
theorem chk_8 : pmChk t_ins_8 prog_1_method_18_code 16 = true := by decide +kernel
theorem chk_9 : pmChk t_ins_9 prog_1_method_19_code 24 = true := by decide +kernel
theorem chk_10 : pmChk t_ins_10 prog_1_method_20_code 8 = true := by decide +kernel
theorem chk_11 : pmChk t_ins_11 prog_1_method_21_code 30 = true := by decide +kernel
theorem chk_12 : pmChk t_ins_12 prog_1_method_23_code 111 = true := by decide +kernel
theorem chk_13 : pmChk t_ins_13 prog_1_method_27_code 22 = true := by decide +kernel
theorem chk_14 : pmChk t_ins_14 prog_1_method_28_code 82 = true := by decide +kernel
theorem f_ins {k pc np tg : Nat} {i : Instr} (h : t_ins k pc = some (i, np, tg)) : decode (t_bytes k) pc = .ok (i, pmIL i) ∧ pmOkI pc np tg i = true := by
  match k, h with
  | 0, h => exact pmChk_out chk_0 (fun _ q => pmBlt q) h
  | 1, h => exact pmChk_out chk_1 (fun _ q => pmBlt q) h
  | 2, h => exact pmChk_out chk_2 (fun _ q => pmBlt q) h
  | 3, h => exact pmChk_out chk_3 (fun _ q => pmBlt q) h
  | 4, h => exact pmChk_out chk_4 (fun _ q => pmBlt q) h
  | 5, h => exact pmChk_out chk_5 (fun _ q => pmBlt q) h
  | 6, h => exact pmChk_out chk_6 (fun _ q => pmBlt q) h
  | 7, h => exact pmChk_out chk_7 (fun _ q => pmBlt q) h
  | 8, h => exact pmChk_out chk_8 (fun _ q => pmBlt q) h
  | 9, h => exact pmChk_out chk_9 (fun _ q => pmBlt q) h
  | 10, h => exact pmChk_out chk_10 (fun _ q => pmBlt q) h
  | 11, h => exact pmChk_out chk_11 (fun _ q => pmBlt q) h
  | 12, h => exact pmChk_out chk_12 (fun _ q => pmBlt q) h
  | 13, h => exact pmChk_out chk_13 (fun _ q => pmBlt q) h
  | 14, h => exact pmChk_out chk_14 (fun _ q => pmBlt q) h
  | _ + 15, h => have h2 : (none : Option (Instr × Nat × Nat)) = some _ := h; cases h2
theorem f_fls : ∀ q ∈ t_fls, ∃ n d ty, t_flds[q.2]? = some (n, d, ty) ∧ (Jvm.Cond.fieldLink t_C q.1 t_C n d) ∈ tables_1 := by
  unfold t_fls
  refine List.forall_mem_cons.mpr ⟨⟨_, _, _, rfl, (List.mem_of_getElem? (i := 10) rfl)⟩, ?_⟩
  refine List.forall_mem_cons.mpr ⟨⟨_, _, _, rfl, (List.mem_of_getElem? (i := 13) rfl)⟩, ?_⟩
  refine List.forall_mem_cons.mpr ⟨⟨_, _, _, rfl, (List.mem_of_getElem? (i := 15) rfl)⟩, ?_⟩
  refine List.forall_mem_cons.mpr ⟨⟨_, _, _, rfl, (List.mem_of_getElem? (i := 18) rfl)⟩, ?_⟩
  refine List.forall_mem_cons.mpr ⟨⟨_, _, _, rfl, (List.mem_of_getElem? (i := 20) rfl)⟩, ?_⟩
  refine List.forall_mem_cons.mpr ⟨⟨_, _, _, rfl, (List.mem_of_getElem? (i := 22) rfl)⟩, ?_⟩
  refine List.forall_mem_cons.mpr ⟨⟨_, _, _, rfl, (List.mem_of_getElem? (i := 24) rfl)⟩, ?_⟩
  refine List.forall_mem_cons.mpr ⟨⟨_, _, _, rfl, (List.mem_of_getElem? (i := 26) rfl)⟩, ?_⟩
  refine List.forall_mem_cons.mpr ⟨⟨_, _, _, rfl, (List.mem_of_getElem? (i := 28) rfl)⟩, ?_⟩
  refine List.forall_mem_cons.mpr ⟨⟨_, _, _, rfl, (List.mem_of_getElem? (i := 34) rfl)⟩, ?_⟩
  refine List.forall_mem_cons.mpr ⟨⟨_, _, _, rfl, (List.mem_of_getElem? (i := 36) rfl)⟩, ?_⟩
  refine List.forall_mem_cons.mpr ⟨⟨_, _, _, rfl, (List.mem_of_getElem? (i := 38) rfl)⟩, ?_⟩
  refine List.forall_mem_cons.mpr ⟨⟨_, _, _, rfl, (List.mem_of_getElem? (i := 40) rfl)⟩, ?_⟩
  refine List.forall_mem_cons.mpr ⟨⟨_, _, _, rfl, (List.mem_of_getElem? (i := 42) rfl)⟩, ?_⟩
  refine List.forall_mem_cons.mpr ⟨⟨_, _, _, rfl, (List.mem_of_getElem? (i := 44) rfl)⟩, ?_⟩
  refine List.forall_mem_cons.mpr ⟨⟨_, _, _, rfl, (List.mem_of_getElem? (i := 46) rfl)⟩, ?_⟩
  refine List.forall_mem_cons.mpr ⟨⟨_, _, _, rfl, (List.mem_of_getElem? (i := 48) rfl)⟩, ?_⟩
  exact fun _ h => nomatch h
theorem f_lays : ∀ q ∈ t_flds, (Jvm.Cond.lays t_C t_C q.1 q.2.1) ∈ tables_1 ∧ parseFieldDescriptor q.2.1 = some q.2.2 := by
  unfold t_flds
  refine List.forall_mem_cons.mpr ⟨⟨(List.mem_of_getElem? (i := 35) rfl), by decide +kernel⟩, ?_⟩
  refine List.forall_mem_cons.mpr ⟨⟨(List.mem_of_getElem? (i := 37) rfl), by decide +kernel⟩, ?_⟩
  refine List.forall_mem_cons.mpr ⟨⟨(List.mem_of_getElem? (i := 39) rfl), by decide +kernel⟩, ?_⟩
  refine List.forall_mem_cons.mpr ⟨⟨(List.mem_of_getElem? (i := 41) rfl), by decide +kernel⟩, ?_⟩
  refine List.forall_mem_cons.mpr ⟨⟨(List.mem_of_getElem? (i := 43) rfl), by decide +kernel⟩, ?_⟩
  refine List.forall_mem_cons.mpr ⟨⟨(List.mem_of_getElem? (i := 45) rfl), by decide +kernel⟩, ?_⟩
  refine List.forall_mem_cons.mpr ⟨⟨(List.mem_of_getElem? (i := 47) rfl), by decide +kernel⟩, ?_⟩
  refine List.forall_mem_cons.mpr ⟨⟨(List.mem_of_getElem? (i := 49) rfl), by decide +kernel⟩, ?_⟩
  refine List.forall_mem_cons.mpr ⟨⟨(List.mem_of_getElem? (i := 11) rfl), by decide +kernel⟩, ?_⟩
  refine List.forall_mem_cons.mpr ⟨⟨(List.mem_of_getElem? (i := 14) rfl), by decide +kernel⟩, ?_⟩
  refine List.forall_mem_cons.mpr ⟨⟨(List.mem_of_getElem? (i := 16) rfl), by decide +kernel⟩, ?_⟩
  refine List.forall_mem_cons.mpr ⟨⟨(List.mem_of_getElem? (i := 19) rfl), by decide +kernel⟩, ?_⟩
  refine List.forall_mem_cons.mpr ⟨⟨(List.mem_of_getElem? (i := 21) rfl), by decide +kernel⟩, ?_⟩
  refine List.forall_mem_cons.mpr ⟨⟨(List.mem_of_getElem? (i := 23) rfl), by decide +kernel⟩, ?_⟩
  refine List.forall_mem_cons.mpr ⟨⟨(List.mem_of_getElem? (i := 25) rfl), by decide +kernel⟩, ?_⟩
  refine List.forall_mem_cons.mpr ⟨⟨(List.mem_of_getElem? (i := 27) rfl), by decide +kernel⟩, ?_⟩
  refine List.forall_mem_cons.mpr ⟨⟨(List.mem_of_getElem? (i := 29) rfl), by decide +kernel⟩, ?_⟩
  exact fun _ h => nomatch h
theorem f_arrs : ∀ q ∈ t_arrs, (Jvm.Cond.arrayClass q.1) ∈ tables_1 ∧ (q.1 = .int ∨ q.1 = .byte ∨ q.1 = .boolean) ∧ q.2 < 4096 := by
  unfold t_arrs
  refine List.forall_mem_cons.mpr ⟨⟨(List.mem_of_getElem? (i := 9) rfl), by decide, by decide⟩, ?_⟩
  refine List.forall_mem_cons.mpr ⟨⟨(List.mem_of_getElem? (i := 12) rfl), by decide, by decide⟩, ?_⟩
  refine List.forall_mem_cons.mpr ⟨⟨(List.mem_of_getElem? (i := 12) rfl), by decide, by decide⟩, ?_⟩
  refine List.forall_mem_cons.mpr ⟨⟨(List.mem_of_getElem? (i := 17) rfl), by decide, by decide⟩, ?_⟩
  refine List.forall_mem_cons.mpr ⟨⟨(List.mem_of_getElem? (i := 9) rfl), by decide, by decide⟩, ?_⟩
  refine List.forall_mem_cons.mpr ⟨⟨(List.mem_of_getElem? (i := 12) rfl), by decide, by decide⟩, ?_⟩
  refine List.forall_mem_cons.mpr ⟨⟨(List.mem_of_getElem? (i := 17) rfl), by decide, by decide⟩, ?_⟩
  refine List.forall_mem_cons.mpr ⟨⟨(List.mem_of_getElem? (i := 12) rfl), by decide, by decide⟩, ?_⟩
  refine List.forall_mem_cons.mpr ⟨⟨(List.mem_of_getElem? (i := 17) rfl), by decide, by decide⟩, ?_⟩
  exact fun _ h => nomatch h
theorem f_inst : (Jvm.Cond.instantiable t_C t_ns) ∈ tables_1 := (List.mem_of_getElem? (i := 1) rfl)
theorem f_init : (Jvm.Cond.initialized t_C) ∈ tables_1 := (List.mem_of_getElem? (i := 2) rfl)
theorem f_new {k j : Nat} (h : t_new k j = true) : (Jvm.Cond.classLink (t_nm k).cls j t_C) ∈ tables_1 := by
  simp only [t_new, Bool.and_eq_true] at h
  rw [Nat.eq_of_beq_eq_true h.1, Nat.eq_of_beq_eq_true h.2]; exact (List.mem_of_getElem? (i := 0) rfl)
def pmWords (own : String) (j kd k' : Nat) : Prop :=
  match kd with
  | 4 => (Jvm.Cond.methodLink own j Lib.objectInit) ∈ tables_1 ∧ (Jvm.Cond.instanceMethod Lib.objectInit) ∈ tables_1 ∧ (Jvm.Cond.code Lib.objectInit ⟨#[0xb1]⟩ 1 none) ∈ tables_1
  | kd => (Jvm.Cond.methodLink own j (t_nm k')) ∈ tables_1 ∧ (Jvm.Cond.code (t_nm k') (t_bytes k') (t_ml k') (t_rt k')) ∈ tables_1 ∧ (Jvm.Cond.initialized (t_nm k').cls) ∈ tables_1 ∧ plainName (t_nm k').cls = true ∧
    ((t_nm k').cls ≠ "java/lang/invoke/MethodHandle" ∧ (t_nm k').cls ≠ "java/lang/invoke/VarHandle") ∧ (∃ ps r, parseMethodDescriptor (t_nm k').desc = some ⟨ps, r⟩ ∧ (match kd with | 0 => 0 | _ => 1) + ps.length = t_np k') ∧
    match kd with
    | 0 => (Jvm.Cond.static (t_nm k')) ∈ tables_1
    | 1 => (Jvm.Cond.declares (t_nm k')) ∈ tables_1 ∧ (Jvm.Cond.selects t_C (t_nm k') (t_nm k')) ∈ tables_1 ∧ (Jvm.Cond.instanceMethod (t_nm k')) ∈ tables_1
    | 2 => (Jvm.Cond.instanceMethod (t_nm k')) ∈ tables_1 ∧ (Jvm.Cond.privateMethod (t_nm k')) ∈ tables_1 ∧ (t_nm k').cls = t_C
    | 3 => (Jvm.Cond.instanceMethod (t_nm k')) ∈ tables_1 ∧ (t_nm k').name = "<init>" ∧ t_rt k' = none
    | _ => False
theorem pn_C : plainName "FetchNegotiator" = true := by first | (simp [plainName, overriddenIn]; done) | decide +kernel
theorem pn_L : plainName "FetchNegotiatorL2" = true := by first | (simp [plainName, overriddenIn]; done) | decide +kernel
theorem pd_0 : parseMethodDescriptor "()I" = some ⟨[], some .int⟩ := by decide +kernel
theorem pd_1 : parseMethodDescriptor "()V" = some ⟨[], none⟩ := by decide +kernel
theorem pd_2 : parseMethodDescriptor "(I)I" = some ⟨[.int], some .int⟩ := by decide +kernel
theorem pd_3 : parseMethodDescriptor "(I)V" = some ⟨[.int], none⟩ := by decide +kernel
theorem pd_4 : parseMethodDescriptor "(I)Z" = some ⟨[.int], some .boolean⟩ := by decide +kernel
theorem pd_5 : parseMethodDescriptor "(II)I" = some ⟨[.int, .int], some .int⟩ := by decide +kernel
theorem pd_6 : parseMethodDescriptor "(II)Z" = some ⟨[.int, .int], some .boolean⟩ := by decide +kernel
theorem pd_7 : parseMethodDescriptor "(III)I" = some ⟨[.int, .int, .int], some .int⟩ := by decide +kernel
theorem pd_8 : parseMethodDescriptor "(III)V" = some ⟨[.int, .int, .int], none⟩ := by decide +kernel
theorem pd_9 : parseMethodDescriptor "(IIIII)I" = some ⟨[.int, .int, .int, .int, .int], some .int⟩ := by decide +kernel
theorem f_mkC : ∀ q ∈ t_mkC, pmWords "FetchNegotiator" q.1 q.2.1 q.2.2 := by
  unfold t_mkC
  refine List.forall_mem_cons.mpr ⟨⟨(List.mem_of_getElem? (i := 6) rfl), (List.mem_of_getElem? (i := 7) rfl), (List.mem_of_getElem? (i := 8) rfl)⟩, ?_⟩
  refine List.forall_mem_cons.mpr ⟨⟨(List.mem_of_getElem? (i := 30) rfl), (List.mem_of_getElem? (i := 33) rfl), (List.mem_of_getElem? (i := 2) rfl), pn_C, by decide, ⟨_, _, pd_7, rfl⟩, (List.mem_of_getElem? (i := 31) rfl), (List.mem_of_getElem? (i := 32) rfl), rfl⟩, ?_⟩
  refine List.forall_mem_cons.mpr ⟨⟨(List.mem_of_getElem? (i := 55) rfl), (List.mem_of_getElem? (i := 58) rfl), (List.mem_of_getElem? (i := 2) rfl), pn_C, by decide, ⟨_, _, pd_9, rfl⟩, (List.mem_of_getElem? (i := 56) rfl), (List.mem_of_getElem? (i := 57) rfl), rfl⟩, ?_⟩
  refine List.forall_mem_cons.mpr ⟨⟨(List.mem_of_getElem? (i := 64) rfl), (List.mem_of_getElem? (i := 67) rfl), (List.mem_of_getElem? (i := 2) rfl), pn_C, by decide, ⟨_, _, pd_4, rfl⟩, (List.mem_of_getElem? (i := 65) rfl), (List.mem_of_getElem? (i := 66) rfl), rfl⟩, ?_⟩
  refine List.forall_mem_cons.mpr ⟨⟨(List.mem_of_getElem? (i := 68) rfl), (List.mem_of_getElem? (i := 71) rfl), (List.mem_of_getElem? (i := 2) rfl), pn_C, by decide, ⟨_, _, pd_4, rfl⟩, (List.mem_of_getElem? (i := 69) rfl), (List.mem_of_getElem? (i := 70) rfl), rfl⟩, ?_⟩
  refine List.forall_mem_cons.mpr ⟨⟨(List.mem_of_getElem? (i := 92) rfl), (List.mem_of_getElem? (i := 95) rfl), (List.mem_of_getElem? (i := 2) rfl), pn_C, by decide, ⟨_, _, pd_2, rfl⟩, (List.mem_of_getElem? (i := 93) rfl), (List.mem_of_getElem? (i := 94) rfl), rfl⟩, ?_⟩
  refine List.forall_mem_cons.mpr ⟨⟨(List.mem_of_getElem? (i := 96) rfl), (List.mem_of_getElem? (i := 99) rfl), (List.mem_of_getElem? (i := 2) rfl), pn_C, by decide, ⟨_, _, pd_1, rfl⟩, (List.mem_of_getElem? (i := 97) rfl), (List.mem_of_getElem? (i := 98) rfl), rfl⟩, ?_⟩
  refine List.forall_mem_cons.mpr ⟨⟨(List.mem_of_getElem? (i := 100) rfl), (List.mem_of_getElem? (i := 103) rfl), (List.mem_of_getElem? (i := 2) rfl), pn_C, by decide, ⟨_, _, pd_3, rfl⟩, (List.mem_of_getElem? (i := 101) rfl), (List.mem_of_getElem? (i := 102) rfl), rfl⟩, ?_⟩
  exact fun _ h => nomatch h
theorem f_mkL : ∀ q ∈ t_mkL, pmWords "FetchNegotiatorL2" q.1 q.2.1 q.2.2 := by
  unfold t_mkL
  refine List.forall_mem_cons.mpr ⟨⟨(List.mem_of_getElem? (i := 3) rfl), (List.mem_of_getElem? (i := 5) rfl), (List.mem_of_getElem? (i := 2) rfl), pn_C, by decide, ⟨_, _, pd_8, rfl⟩, (List.mem_of_getElem? (i := 4) rfl), rfl, rfl⟩, ?_⟩
  refine List.forall_mem_cons.mpr ⟨⟨(List.mem_of_getElem? (i := 50) rfl), (List.mem_of_getElem? (i := 54) rfl), (List.mem_of_getElem? (i := 2) rfl), pn_C, by decide, ⟨_, _, pd_0, rfl⟩, (List.mem_of_getElem? (i := 51) rfl), (List.mem_of_getElem? (i := 53) rfl), (List.mem_of_getElem? (i := 52) rfl)⟩, ?_⟩
  refine List.forall_mem_cons.mpr ⟨⟨(List.mem_of_getElem? (i := 59) rfl), (List.mem_of_getElem? (i := 63) rfl), (List.mem_of_getElem? (i := 2) rfl), pn_C, by decide, ⟨_, _, pd_7, rfl⟩, (List.mem_of_getElem? (i := 60) rfl), (List.mem_of_getElem? (i := 62) rfl), (List.mem_of_getElem? (i := 61) rfl)⟩, ?_⟩
  refine List.forall_mem_cons.mpr ⟨⟨(List.mem_of_getElem? (i := 72) rfl), (List.mem_of_getElem? (i := 76) rfl), (List.mem_of_getElem? (i := 2) rfl), pn_C, by decide, ⟨_, _, pd_5, rfl⟩, (List.mem_of_getElem? (i := 73) rfl), (List.mem_of_getElem? (i := 75) rfl), (List.mem_of_getElem? (i := 74) rfl)⟩, ?_⟩
  refine List.forall_mem_cons.mpr ⟨⟨(List.mem_of_getElem? (i := 77) rfl), (List.mem_of_getElem? (i := 81) rfl), (List.mem_of_getElem? (i := 2) rfl), pn_C, by decide, ⟨_, _, pd_6, rfl⟩, (List.mem_of_getElem? (i := 78) rfl), (List.mem_of_getElem? (i := 80) rfl), (List.mem_of_getElem? (i := 79) rfl)⟩, ?_⟩
  refine List.forall_mem_cons.mpr ⟨⟨(List.mem_of_getElem? (i := 82) rfl), (List.mem_of_getElem? (i := 86) rfl), (List.mem_of_getElem? (i := 2) rfl), pn_C, by decide, ⟨_, _, pd_2, rfl⟩, (List.mem_of_getElem? (i := 83) rfl), (List.mem_of_getElem? (i := 85) rfl), (List.mem_of_getElem? (i := 84) rfl)⟩, ?_⟩
  refine List.forall_mem_cons.mpr ⟨⟨(List.mem_of_getElem? (i := 87) rfl), (List.mem_of_getElem? (i := 91) rfl), (List.mem_of_getElem? (i := 2) rfl), pn_C, by decide, ⟨_, _, pd_5, rfl⟩, (List.mem_of_getElem? (i := 88) rfl), (List.mem_of_getElem? (i := 90) rfl), (List.mem_of_getElem? (i := 89) rfl)⟩, ?_⟩
  exact fun _ h => nomatch h
theorem f_own {k : Nat} {pc : Nat} {i : Instr × Nat × Nat} (h : t_ins k pc = some i) : (t_nm k).cls = match t_isC k with | true => t_C | false => "FetchNegotiatorL2" := by
  match k, h with
  | 0, _ => rfl
  | 1, _ => rfl
  | 2, _ => rfl
  | 3, _ => rfl
  | 4, _ => rfl
  | 5, _ => rfl
  | 6, _ => rfl
  | 7, _ => rfl
  | 8, _ => rfl
  | 9, _ => rfl
  | 10, _ => rfl
  | 11, _ => rfl
  | 12, _ => rfl
  | 13, _ => rfl
  | 14, _ => rfl
  | _ + 15, h => have h2 : (none : Option (Instr × Nat × Nat)) = some _ := h; cases h2
theorem f_ldcs : ∀ q ∈ t_ldcs, (Jvm.Cond.constant "FetchNegotiatorL2" q.1 q.2) ∈ tables_1 := by
  unfold t_ldcs
  exact fun _ h => nomatch h
theorem f_ldc2s : ∀ q ∈ t_ldc2s, (Jvm.Cond.constantLong "FetchNegotiatorL2" q.1 q.2) ∈ tables_1 := by
  unfold t_ldc2s
  exact fun _ h => nomatch h
theorem f_full : t_full = t_arrs.length + 1 := rfl
theorem f_nsl : t_ns = t_flds.length := rfl
theorem f_mode {k : Nat} : t_mode k = 0 ∨ t_mode k = 1 ∨ (t_mode k = 2 ∧ k = 0) := by
  match k with
  | 0 => exact Or.inr (Or.inr ⟨rfl, rfl⟩)
  | 1 => exact Or.inr (Or.inl rfl)
  | 2 => exact Or.inl rfl
  | 3 => exact Or.inl rfl
  | 4 => exact Or.inl rfl
  | 5 => exact Or.inl rfl
  | 6 => exact Or.inl rfl
  | 7 => exact Or.inl rfl
  | 8 => exact Or.inl rfl
  | 9 => exact Or.inl rfl
  | 10 => exact Or.inl rfl
  | 11 => exact Or.inl rfl
  | 12 => exact Or.inl rfl
  | 13 => exact Or.inl rfl
  | 14 => exact Or.inl rfl
  | _ + 15 => exact Or.inl rfl
theorem f_names : ∀ i j : Nat, i < t_flds.length → j < t_flds.length → i ≠ j → (t_flds[i]?).map (·.1) ≠ (t_flds[j]?).map (·.1) := by
  have h : ∀ i : Fin t_flds.length, ∀ j : Fin t_flds.length, i.1 ≠ j.1 → (t_flds[i.1]?).map (·.1) ≠ (t_flds[j.1]?).map (·.1) := by decide +kernel
  exact fun i j hi hj => h ⟨i, hi⟩ ⟨j, hj⟩
abbrev k_law : Nat := 0
abbrev k_init : Nat := 1
abbrev k_addBlob : Nat := 2
abbrev k_addTree : Nat := 3
abbrev k_give : Nat := 4
abbrev k_kindOf : Nat := 5
abbrev k_link : Nat := 6
abbrev k_has : Nat := 7
abbrev k_clamp : Nat := 8
abbrev k_inRange : Nat := 9
abbrev k_norm : Nat := 10
abbrev k_validEntry : Nat := 11
abbrev k_define : Nat := 12
abbrev k_clearMark : Nat := 13
abbrev k_markReach : Nat := 14
/-! ## the pure machine: what one instruction does, over a plain memory -/
abbrev Mem := Nat × Nat × List Value × (Nat → Nat → Int32)
abbrev Pst := Option Value → Mem → Prop
abbrev WPr := Nat → Nat → List Slot → List Value → Mem → Pst → Prop
def pmStl (L : List Slot) (i : Nat) (v : Value) : Option (List Slot) :=
  match L[i]? with
  | none => none
  | some .second => none
  | some (.val (.long _)) => some ((L.set (i + 1) .unset).set i (.val v))
  | some (.val (.double _)) => none
  | some .unset =>
    match L[i - 1]?, L[i + 1]? with
    | some (.val (.long _)), _ => none
    | some (.val (.double _)), _ => none
    | _, some .second => none
    | _, _ => some (L.set i (.val v))
  | some _ => some (L.set i (.val v))
def pmStlL (L : List Slot) (i : Nat) (v : Value) : Option (List Slot) :=
  match pmStl L i (.int 0) with
  | none => none
  | some L1 =>
    match pmStl L1 (i + 1) (.int 0) with
    | none => none
    | some L2 => some ((L2.set i (.val v)).set (i + 1) .second)
def fcS : List Slot → (List Slot → Prop) → Prop
  | [], K => K []
  | x :: r, K => fcS r fun r' => K (x :: r')
def fcV : List Value → (List Value → Prop) → Prop
  | [], K => K []
  | x :: r, K => fcV r fun r' => K (x :: r')
theorem fcS_eq (L : List Slot) : ∀ K : List Slot → Prop, fcS L K = K L := by
  induction L with
  | nil => intro K; rfl
  | cons x r ih => intro K; exact ih _
theorem fcV_eq (L : List Value) : ∀ K : List Value → Prop, fcV L K = K L := by
  induction L with
  | nil => intro K; rfl
  | cons x r ih => intro K; exact ih _
def pmTgt (pc : Nat) (o : Int) : Nat := ((pc : Int) + o).toNat
def pmBr (cd : ClassFile.Cond) (x y : Int32) (T F : Prop) : Prop :=
  match cd with
  | .eq => (x = y → T) ∧ (¬ x = y → F)
  | .ne => (x = y → F) ∧ (¬ x = y → T)
  | .lt => (x.toInt < y.toInt → T) ∧ (¬ x.toInt < y.toInt → F)
  | .ge => (x.toInt < y.toInt → F) ∧ (¬ x.toInt < y.toInt → T)
  | .gt => (y.toInt < x.toInt → T) ∧ (¬ y.toInt < x.toInt → F)
  | .le => (y.toInt < x.toInt → F) ∧ (¬ y.toInt < x.toInt → T)
def pmLen (r : Nat) (σ : Mem) : Nat :=
  match r with
  | 0 => σ.2.1
  | 1 => 0
  | r + 2 => match t_arrs[r]? with | some q => q.2 | none => 0
def pmTy (r : Nat) : FieldType :=
  match r with
  | 0 => .int
  | 1 => .float
  | r + 2 => match t_arrs[r]? with | some q => q.1 | none => .float
/-- is there an array of this number? -/
def pmThere (r : Nat) (a : Nat) : Bool :=
  match r with
  | 0 => t_sc
  | 1 => false
  | r + 2 => Nat.ble (r + 2) a
def pmSet (A : Nat → Nat → Int32) (r i : Nat) (v : Int32) : Nat → Nat → Int32 := fun r' j => if r' = r then (if j = i then v else A r j) else A r' j
def pmSlots : List Value → List Slot
  | [] => []
  | .long z :: r => .val (.long z) :: .second :: pmSlots r
  | v :: r => .val v :: pmSlots r
def pmEntry (n : Nat) (as : List Value) : List Slot := pmSlots as ++ List.replicate (n - (pmSlots as).length) .unset
def pmPop : Nat → List Value → List Value → Option (List Value × List Value)
  | 0, as, S => some (as, S)
  | _ + 1, _, [] => none
  | n + 1, as, v :: S => pmPop n (v :: as) S
def pmWt : List Value → Nat
  | [] => 0
  | .long _ :: r => 2 + pmWt r
  | .double _ :: r => 2 + pmWt r
  | _ :: r => 1 + pmWt r
/-- slots of the first a cells -/
def pmSS : Nat → Nat
  | 0 => 0
  | a + 1 => t_ns + ((t_arrs.take a).map (·.2)).sum
/-- 0: plain, 1: the constructor, 2: the law -/
def pmBC (k a : Nat) : Nat := match t_mode k with | 0 => 0 | 1 => a - 1 | _ => a
def pmBS (k a : Nat) : Nat := match t_mode k with | 0 => 0 | 1 => pmSS a - pmSS 1 | _ => pmSS a
/-- may k call k' here? -/
def pmRoom (k k' : Nat) (S : List Value) (a : Nat) : Bool :=
  Nat.ble ((t_rm k').frames + 1) (t_rm k).frames && Nat.ble (pmWt S + (t_ml k' + 11) + (t_rm k').locals) (t_rm k).locals &&
  match t_mode k' with
  | 0 => Nat.ble (pmBC k a) (t_rm k).cells && Nat.ble (pmBS k a) (t_rm k).slots
  | 1 => Nat.beq (t_mode k) 2 && Nat.beq a 1
  | _ => false
def pmFit (k' : Nat) (as : List Value) : Bool := Nat.ble (pmSlots as).length (t_ml k') && as.all fun v => match v with | .double _ => false | _ => true
def pmCall (W : WPr) (k k' : Nat) (as R : List Value) (σ : Mem) (K : Pst) : Prop :=
  match pmRoom k k' R σ.1 && pmFit k' as with
  | true => W k' 0 (pmEntry (t_ml k') as) [] σ K
  | false => False
def pmPush (v : Option Value) (R : List Value) : List Value := match v with | none => R | some w => w :: R
def pmInt (S : List Value) (K : Int32 → List Value → Prop) : Prop := match S with | .int x :: R => K x R | _ => False
def pmInt2 (S : List Value) (K : Int32 → Int32 → List Value → Prop) : Prop := match S with | .int y :: .int x :: R => K x y R | _ => False
def pmLng2 (S : List Value) (K : Int64 → Int64 → List Value → Prop) : Prop := match S with | .long y :: .long x :: R => K x y R | _ => False
def pmLI (S : List Value) (K : Int64 → Int32 → List Value → Prop) : Prop := match S with | .int y :: .long x :: R => K x y R | _ => False
def pmLdI (Ls : List Slot) (n : Nat) (K : Int32 → Prop) : Prop := match Ls[n]? with | some (.val (.int x)) => K x | _ => False
def pmLdL (Ls : List Slot) (n : Nat) (K : Int64 → Prop) : Prop := match Ls[n]? with | some (.val (.long x)) => K x | _ => False
def pmLdR (Ls : List Slot) (n : Nat) (K : Nat → Prop) : Prop := match Ls[n]? with | some (.val (.ref x)) => K x | _ => False
def pmStI (Ls : List Slot) (n : Nat) (S : List Value) (K : List Slot → List Value → Prop) : Prop := match S with | .int x :: R => (match pmStl Ls n (.int x) with | some L' => fcS L' (fun L' => K L' R) | none => False) | _ => False
def pmStL (Ls : List Slot) (n : Nat) (S : List Value) (K : List Slot → List Value → Prop) : Prop := match S with | .long x :: R => (match pmStlL Ls n (.long x) with | some L' => fcS L' (fun L' => K L' R) | none => False) | _ => False
def pmStR (Ls : List Slot) (n : Nat) (S : List Value) (K : List Slot → List Value → Prop) : Prop := match S with | .ref x :: R => (match pmStl Ls n (.ref x) with | some L' => fcS L' (fun L' => K L' R) | none => False) | _ => False
def pmALd (ty : FieldType) (S : List Value) (σ : Mem) (K : Int32 → List Value → Prop) : Prop :=
  match S with
  | .int i :: .ref r :: R =>
    match pmThere r σ.1, decide (pmTy r = ty) with
    | true, true => (0 ≤ i.toInt ∧ i.toInt < (pmLen r σ : Int)) ∧ K (σ.2.2.2 r i.toInt.toNat) R
    | _, _ => False
  | _ => False
def pmASt (ty : FieldType) (S : List Value) (σ : Mem) (K : Mem → List Value → Prop) : Prop :=
  match S with
  | .int v :: .int i :: .ref (r + 2) :: R =>
    match pmThere (r + 2) σ.1, decide (pmTy (r + 2) = ty) with
    | true, true => (0 ≤ i.toInt ∧ i.toInt < (pmLen (r + 2) σ : Int)) ∧ (match σ with | (a, n, F, A) => K (a, n, F, pmSet A (r + 2) i.toInt.toNat (nar ty v)) R)
    | _, _ => False
  | _ => False
def pmTop (S : List Value) : Nat := match S with | .int _ :: .ref r :: _ => r | .int _ :: .int _ :: .ref r :: _ => r | _ => 1
/-- what a field of this type takes of a value -/
def pmPut (ty : FieldType) (v : Value) : Option Value :=
  match ty, v with
  | .int, .int x => some (.int x)
  | .boolean, .int x => some (.int (x &&& 1))
  | .array _, .ref (r + 2) => some (.ref (r + 2))
  | _, _ => none
def pmRet (k : Nat) (a : Nat) : Bool := match t_mode k with | 1 => Nat.beq a t_full | _ => true
def pmILdc (k np : Nat) (Ls : List Slot) (S : List Value) (σ : Mem) (nx : Nat → List Slot → List Value → Mem → Prop) (j : Nat) : Prop :=
  match t_ldc k j with | some v => nx np Ls (.int v :: S) σ | none => False
def pmILdc2 (k np : Nat) (Ls : List Slot) (S : List Value) (σ : Mem) (nx : Nat → List Slot → List Value → Mem → Prop) (j : Nat) : Prop :=
  match t_ldc2 k j with | some v => nx np Ls (.long v :: S) σ | none => False
def pmIL2i (np : Nat) (Ls : List Slot) (S : List Value) (σ : Mem) (nx : Nat → List Slot → List Value → Mem → Prop) : Prop :=
  match S with | .long x :: R => nx np Ls (.int x.toInt32 :: R) σ | _ => False
def pmIPop (np : Nat) (Ls : List Slot) (S : List Value) (σ : Mem) (nx : Nat → List Slot → List Value → Mem → Prop) : Prop :=
  match S with | .int _ :: R => nx np Ls R σ | .ref _ :: R => nx np Ls R σ | _ => False
def pmIDup (np : Nat) (Ls : List Slot) (S : List Value) (σ : Mem) (nx : Nat → List Slot → List Value → Mem → Prop) : Prop :=
  match S with | .int x :: R => nx np Ls (.int x :: .int x :: R) σ | .ref x :: R => nx np Ls (.ref x :: .ref x :: R) σ | _ => False
def pmILen (np : Nat) (Ls : List Slot) (S : List Value) (σ : Mem) (nx : Nat → List Slot → List Value → Mem → Prop) : Prop :=
  match S with | .ref r :: R => (match pmThere r σ.1 with | true => nx np Ls (.int (Int32.ofNat (pmLen r σ)) :: R) σ | false => False) | _ => False
def pmIBal (np : Nat) (Ls : List Slot) (S : List Value) (σ : Mem) (nx : Nat → List Slot → List Value → Mem → Prop) : Prop :=
  match pmTy (pmTop S) with
    | .byte => pmALd .byte S σ fun x R => nx np Ls (.int x :: R) σ
    | .boolean => pmALd .boolean S σ fun x R => nx np Ls (.int x :: R) σ
    | _ => False
def pmIBas (np : Nat) (Ls : List Slot) (S : List Value) (σ : Mem) (nx : Nat → List Slot → List Value → Mem → Prop) : Prop :=
  match pmTy (pmTop S) with
    | .byte => pmASt .byte S σ fun σ' R => nx np Ls R σ'
    | .boolean => pmASt .boolean S σ fun σ' R => nx np Ls R σ'
    | _ => False
def pmIGet (k np : Nat) (Ls : List Slot) (S : List Value) (σ : Mem) (nx : Nat → List Slot → List Value → Mem → Prop) (j : Nat) : Prop :=
  match S, t_fl k j, Nat.ble 1 σ.1 with
    | .ref 1 :: R, some q, true => (match σ.2.2.1[q]? with | some v => nx np Ls (v :: R) σ | none => False)
    | _, _, _ => False
def pmIPut (k np : Nat) (Ls : List Slot) (S : List Value) (σ : Mem) (nx : Nat → List Slot → List Value → Mem → Prop) (j : Nat) : Prop :=
  match S, t_fl k j, Nat.ble 1 σ.1 with
    | v :: .ref 1 :: R, some q, true => (match t_flds[q]? with
      | some f => (match pmPut f.2.2 v with | some v' => (match σ with | (a, n, F, A) => fcV (F.set q v') fun F' => nx np Ls R (a, n, F', A)) | none => False)
      | none => False)
    | _, _, _ => False
def pmINew (k np : Nat) (Ls : List Slot) (S : List Value) (σ : Mem) (nx : Nat → List Slot → List Value → Mem → Prop) (j : Nat) : Prop :=
  match σ, t_new k j, t_mode k with
    | (0, n, _, A), true, 2 => (1 ≤ (t_rm k).cells ∧ t_ns ≤ (t_rm k).slots) ∧ fcV (t_flds.map (fun f => defaultValue f.2.2)) fun F' => nx np Ls (.ref 1 :: S) (1, n, F', A)
    | _, _, _ => False
def pmINewA (k np : Nat) (Ls : List Slot) (S : List Value) (σ : Mem) (nx : Nat → List Slot → List Value → Mem → Prop) (aty : ArrayType) : Prop :=
  match S, σ with
    | .int n :: R, (a + 1, n', F, A) => (match t_arrs[a]? with
      | some q => (n = Int32.ofNat q.2 ∧ newarray.typeOf aty = q.1 ∧ q.2 < 4096 ∧ ¬ t_mode k = 0 ∧ pmBC k (a + 1) + 1 ≤ (t_rm k).cells ∧ pmBS k (a + 1) + q.2 ≤ (t_rm k).slots) ∧ nx np Ls (.ref (a + 2) :: R) (a + 2, n', F, A)
      | none => False)
    | _, _ => False
def pmISta (W : WPr) (k np : Nat) (Ls : List Slot) (S : List Value) (σ : Mem) (nx : Nat → List Slot → List Value → Mem → Prop) (j : Nat) : Prop :=
  match t_mk k j with
    | some (0, k') => (match pmPop (t_np k') [] S with | some (as, R) => pmCall W k k' as R σ fun v σ' => nx np Ls (pmPush v R) σ' | none => False)
    | _ => False
def pmIVir (W : WPr) (k np : Nat) (Ls : List Slot) (S : List Value) (σ : Mem) (nx : Nat → List Slot → List Value → Mem → Prop) (j : Nat) : Prop :=
  match t_mk k j, Nat.ble 1 σ.1 with
    | some (1, k'), true => (match pmPop (t_np k') [] S with | some (.ref 1 :: as, R) => pmCall W k k' (.ref 1 :: as) R σ fun v σ' => nx np Ls (pmPush v R) σ' | _ => False)
    | some (2, k'), true => (match pmPop (t_np k') [] S with | some (.ref 1 :: as, R) => pmCall W k k' (.ref 1 :: as) R σ fun v σ' => nx np Ls (pmPush v R) σ' | _ => False)
    | _, _ => False
def pmISpe (W : WPr) (k np : Nat) (Ls : List Slot) (S : List Value) (σ : Mem) (nx : Nat → List Slot → List Value → Mem → Prop) (j : Nat) : Prop :=
  match t_mk k j, Nat.ble 1 σ.1 with
    | some (3, k'), true => (match pmPop (t_np k') [] S with | some (.ref 1 :: as, R) => pmCall W k k' (.ref 1 :: as) R σ fun v σ' => nx np Ls (pmPush v R) σ' | _ => False)
    | some (4, _), true => (match S with | .ref 1 :: R => (1 ≤ (t_rm k).frames ∧ pmWt R + 12 ≤ (t_rm k).locals) ∧ nx np Ls R σ | _ => False)
    | _, _ => False
def pmIRet (k : Nat) (S : List Value) (σ : Mem) (Q : Pst) : Prop :=
  match t_rt k, pmRet k σ.1 with
    | some .int, true => pmInt S fun x _ => Q (some (.int x)) σ
    | some .boolean, true => pmInt S fun x _ => Q (some (.int (x &&& 1))) σ
    | _, _ => False
def pmIRtL (k : Nat) (S : List Value) (σ : Mem) (Q : Pst) : Prop :=
  match t_rt k, pmRet k σ.1, S with
    | some .long, true, .long x :: _ => Q (some (.long x)) σ
    | _, _, _ => False
def pmIRtV (k : Nat) (σ : Mem) (Q : Pst) : Prop :=
  match t_rt k, pmRet k σ.1 with
    | none, true => Q none σ
    | _, _ => False
def stp (W : WPr) (k np tg : Nat) (Ls : List Slot) (S : List Value) (σ : Mem) (Q : Pst) (nx : Nat → List Slot → List Value → Mem → Prop) (i : Instr) : Prop :=
  match i with
  | .iconst c => nx np Ls (.int (Int32.ofInt c) :: S) σ
  | .bipush c => nx np Ls (.int (Int32.ofInt c) :: S) σ
  | .sipush c => nx np Ls (.int (Int32.ofInt c) :: S) σ
  | .lconst c => nx np Ls (.long (Int64.ofNat c) :: S) σ
  | .ldc j => pmILdc k np Ls S σ nx j
  | .ldc2_w j => pmILdc2 k np Ls S σ nx j
  | .iload n => pmLdI Ls n fun x => nx np Ls (.int x :: S) σ
  | .iload_n n => pmLdI Ls n.val fun x => nx np Ls (.int x :: S) σ
  | .lload n => pmLdL Ls n fun x => nx np Ls (.long x :: S) σ
  | .lload_n n => pmLdL Ls n.val fun x => nx np Ls (.long x :: S) σ
  | .aload n => pmLdR Ls n fun x => nx np Ls (.ref x :: S) σ
  | .aload_n n => pmLdR Ls n.val fun x => nx np Ls (.ref x :: S) σ
  | .istore n => pmStI Ls n S fun L' R => nx np L' R σ
  | .istore_n n => pmStI Ls n.val S fun L' R => nx np L' R σ
  | .lstore n => pmStL Ls n S fun L' R => nx np L' R σ
  | .lstore_n n => pmStL Ls n.val S fun L' R => nx np L' R σ
  | .astore n => pmStR Ls n S fun L' R => nx np L' R σ
  | .astore_n n => pmStR Ls n.val S fun L' R => nx np L' R σ
  | .iinc n c => pmLdI Ls n fun x => fcS (Ls.set n (.val (.int (x + Int32.ofInt c)))) fun L' => nx np L' S σ
  | .iadd => pmInt2 S fun x y R => nx np Ls (.int (x + y) :: R) σ
  | .isub => pmInt2 S fun x y R => nx np Ls (.int (x - y) :: R) σ
  | .imul => pmInt2 S fun x y R => nx np Ls (.int (x * y) :: R) σ
  | .idiv => pmInt2 S fun x y R => ¬ y = 0 ∧ nx np Ls (.int (x / y) :: R) σ
  | .irem => pmInt2 S fun x y R => ¬ y = 0 ∧ nx np Ls (.int (x % y) :: R) σ
  | .iand => pmInt2 S fun x y R => nx np Ls (.int (x &&& y) :: R) σ
  | .ior => pmInt2 S fun x y R => nx np Ls (.int (x ||| y) :: R) σ
  | .ixor => pmInt2 S fun x y R => nx np Ls (.int (x ^^^ y) :: R) σ
  | .ishl => pmInt2 S fun x y R => nx np Ls (.int (x <<< (y &&& 31)) :: R) σ
  | .ishr => pmInt2 S fun x y R => nx np Ls (.int (x >>> (y &&& 31)) :: R) σ
  | .iushr => pmInt2 S fun x y R => nx np Ls (.int (Jvm.Free.XT.ushr x y) :: R) σ
  | .land => pmLng2 S fun x y R => nx np Ls (.long (x &&& y) :: R) σ
  | .lor => pmLng2 S fun x y R => nx np Ls (.long (x ||| y) :: R) σ
  | .lxor => pmLng2 S fun x y R => nx np Ls (.long (x ^^^ y) :: R) σ
  | .lcmp => pmLng2 S fun x y R => nx np Ls (.int (Jvm.Free.XT.cmpL x y) :: R) σ
  | .lshl => pmLI S fun x y R => nx np Ls (.long (x <<< (y.toInt64 &&& 63)) :: R) σ
  | .lushr => pmLI S fun x y R => nx np Ls (.long (Jvm.Free.XT.ushrL x y) :: R) σ
  | .i2b => pmInt S fun x R => nx np Ls (.int x.toInt8.toInt32 :: R) σ
  | .i2l => pmInt S fun x R => nx np Ls (.long x.toInt64 :: R) σ
  | .l2i => pmIL2i np Ls S σ nx
  | .pop => pmIPop np Ls S σ nx
  | .dup => pmIDup np Ls S σ nx
  | .goto o => nx tg Ls S σ
  | .ifCond cd o => pmInt S fun x R => pmBr cd x 0 (nx tg Ls R σ) (nx np Ls R σ)
  | .if_icmp cd o => pmInt2 S fun x y R => pmBr cd x y (nx tg Ls R σ) (nx np Ls R σ)
  | .arraylength => pmILen np Ls S σ nx
  | .iaload => pmALd .int S σ fun x R => nx np Ls (.int x :: R) σ
  | .baload => pmIBal np Ls S σ nx
  | .iastore => pmASt .int S σ fun σ' R => nx np Ls R σ'
  | .bastore => pmIBas np Ls S σ nx
  | .getfield j => pmIGet k np Ls S σ nx j
  | .putfield j => pmIPut k np Ls S σ nx j
  | .new j => pmINew k np Ls S σ nx j
  | .newarray aty => pmINewA k np Ls S σ nx aty
  | .invokestatic j => pmISta W k np Ls S σ nx j
  | .invokevirtual j => pmIVir W k np Ls S σ nx j
  | .invokespecial j => pmISpe W k np Ls S σ nx j
  | .ireturn => pmIRet k S σ Q
  | .lreturn => pmIRtL k S σ Q
  | .return_ => pmIRtV k σ Q
  | _ => False
def wp (W : WPr) (cut : List Nat) : Nat → WPr
  | 0, _, _, _, _, _, _ => False
  | n + 1, k, pc, Ls, S, σ, Q =>
    match t_ins k pc with
    | none => False
    | some (i, np, tg) => stp W k np tg Ls S σ Q (fun pc' Ls' S' σ' => match cut.contains pc' with | true => W k pc' Ls' S' σ' Q | false => wp W cut n k pc' Ls' S' σ' Q) i
/-- less is known of the locals -/
def pmLe : List Slot → List Slot → Prop
  | [], [] => True
  | x :: xs, y :: ys => (x = .unset ∨ x = y) ∧ pmLe xs ys
  | _, _ => False
theorem f_rm (k : Nat) : (t_mode k = 0 → (t_rm k).cells = 0 ∧ (t_rm k).slots = 0) ∧ (t_mode k = 1 → (t_rm k).cells = t_full - 1 ∧ (t_rm k).slots = pmSS t_full - pmSS 1) := by
  match k with
  | 0 => exact ⟨fun h => absurd h (by decide), fun h => absurd h (by decide)⟩
  | 1 => exact ⟨fun h => absurd h (by decide), fun _ => ⟨by decide, by decide⟩⟩
  | 2 => exact ⟨fun _ => ⟨rfl, rfl⟩, fun h => absurd h (by decide)⟩
  | 3 => exact ⟨fun _ => ⟨rfl, rfl⟩, fun h => absurd h (by decide)⟩
  | 4 => exact ⟨fun _ => ⟨rfl, rfl⟩, fun h => absurd h (by decide)⟩
  | 5 => exact ⟨fun _ => ⟨rfl, rfl⟩, fun h => absurd h (by decide)⟩
  | 6 => exact ⟨fun _ => ⟨rfl, rfl⟩, fun h => absurd h (by decide)⟩
  | 7 => exact ⟨fun _ => ⟨rfl, rfl⟩, fun h => absurd h (by decide)⟩
  | 8 => exact ⟨fun _ => ⟨rfl, rfl⟩, fun h => absurd h (by decide)⟩
  | 9 => exact ⟨fun _ => ⟨rfl, rfl⟩, fun h => absurd h (by decide)⟩
  | 10 => exact ⟨fun _ => ⟨rfl, rfl⟩, fun h => absurd h (by decide)⟩
  | 11 => exact ⟨fun _ => ⟨rfl, rfl⟩, fun h => absurd h (by decide)⟩
  | 12 => exact ⟨fun _ => ⟨rfl, rfl⟩, fun h => absurd h (by decide)⟩
  | 13 => exact ⟨fun _ => ⟨rfl, rfl⟩, fun h => absurd h (by decide)⟩
  | 14 => exact ⟨fun _ => ⟨rfl, rfl⟩, fun h => absurd h (by decide)⟩
  | _ + 15 => exact ⟨fun _ => ⟨rfl, rfl⟩, fun h => absurd (show (0 : Nat) = 1 from h) (by decide)⟩
theorem f_law : 1 + (t_full - 1) ≤ (t_rm 0).cells ∧ pmSS 1 + (pmSS t_full - pmSS 1) ≤ (t_rm 0).slots := by decide
theorem f_ss : pmSS 1 ≤ pmSS t_full := by decide
/-! ## the pure machine is sound: what it says of a body, the model's run does -/
def pmRho (n0 scA : Nat) : Nat → Addr
  | 0 => scA
  | r + 1 => n0 + r
def cv (n0 scA : Nat) : Value → Value
  | .ref r => .ref (pmRho n0 scA r)
  | v => v
def cs (n0 scA : Nat) : Slot → Slot
  | .val v => .val (cv n0 scA v)
  | s => s
theorem cv_cat (n0 scA : Nat) (v : Value) : (cv n0 scA v).category = v.category := by cases v <;> rfl
def pmLR (n0 scA : Nat) (Ls : List Slot) (Lc : Array Slot) : Prop := Lc.size = Ls.length ∧ ∀ (i : Nat) (x : Slot), Ls[i]? = some x → x ≠ .unset → Lc[i]? = some (cs n0 scA x)
def pmWC (Lc : Array Slot) : Prop := (∀ i : Nat, Lc[i]? = some .second → ∃ j v, i = j + 1 ∧ Lc[j]? = some (.val v) ∧ v.category = 2) ∧ ∀ (i : Nat) (v : Value), Lc[i]? = some (.val v) → v.category = 2 → Lc[i + 1]? = some .second
theorem pmSet1 {Lc : Array Slot} {i : Nat} (h : i < Lc.size) (x : Slot) : setAt Lc i x = some (Lc.setIfInBounds i x) := by simp [setAt, h]
theorem pmGet (Lc : Array Slot) (i j : Nat) (x : Slot) (h : i < Lc.size) : (Lc.setIfInBounds i x)[j]? = if i = j then some x else Lc[j]? := by
  by_cases e : i = j
  · subst e; simp [h]
  · simp [e, Array.getElem?_setIfInBounds_ne]
theorem pmLt {Lc : Array Slot} {i : Nat} {x : Slot} (h : Lc[i]? = some x) : i < Lc.size := (Array.getElem?_eq_some_iff.mp h).1
theorem pmStoreDef (l : Array Slot) (i : Nat) (v : Value) : storeLocals l i v = (l[i]?).bind (fun x => match x with
  | .second => (setAt l (i - 1) .unset).bind fun l' => storeSelf l' i v
  | .val old => if old.category = 2 then (setAt l (i + 1) .unset).bind fun l' => storeSelf l' i v else storeSelf l i v
  | .unset => storeSelf l i v) := rfl
theorem pmSelfDef (l : Array Slot) (i : Nat) (v : Value) (h : v.category = 1) : storeSelf l i v = setAt l i (.val v) := by
  unfold storeSelf
  cases hs : setAt l i (.val v) with
  | none => rfl
  | some l' => simp [h]
/-- one word is stored -/
theorem pmStore1 {n0 scA : Nat} {Ls L' : List Slot} {Lc : Array Slot} {i : Nat} {v : Value} (hR : pmLR n0 scA Ls Lc) (hC : pmWC Lc) (hv : v.category = 1) (h : pmStl Ls i v = some L') :
    ∃ Lc', storeLocals Lc i (cv n0 scA v) = some Lc' ∧ pmLR n0 scA L' Lc' ∧ pmWC Lc' := by
  have hv' : (cv n0 scA v).category = 1 := by rw [cv_cat]; exact hv
  have hcs : cs n0 scA (.val v) = .val (cv n0 scA v) := rfl
  -- what stands at i
  cases hx : Ls[i]? with
  | none => simp [pmStl, hx] at h
  | some x =>
    have hi : i < Lc.size := by rw [hR.1]; exact (List.getElem?_eq_some_iff.mp hx).1
    obtain ⟨y, hy⟩ : ∃ y, Lc[i]? = some y := ⟨_, Array.getElem?_eq_getElem hi⟩
    -- the three shapes of y
    have key : ∀ (Lc1 : Array Slot), Lc1.size = Lc.size → storeLocals Lc i (cv n0 scA v) = some (Lc1.setIfInBounds i (.val (cv n0 scA v))) →
        (∀ j, j ≠ i → Lc1[j]? = Lc[j]? ∨ (Lc1[j]? = some .unset ∧ L'[j]? = some .unset) ∨ (Lc1[j]? = some .unset ∧ ∀ z, L'[j]? = some z → z = .unset)) →
        (∀ j, j ≠ i → Lc1[j]? = some .second → ∃ q w, j = q + 1 ∧ q ≠ i ∧ Lc1[q]? = some (.val w) ∧ w.category = 2) → (∀ j w, j ≠ i → Lc1[j]? = some (.val w) → w.category = 2 → j + 1 ≠ i ∧ Lc1[j + 1]? = some .second) →
        (∀ j z, j ≠ i → L'[j]? = some z → z ≠ .unset → Ls[j]? = some z) → L'[i]? = some (.val v) → L'.length = Ls.length →
        ∃ Lc', storeLocals Lc i (cv n0 scA v) = some Lc' ∧ pmLR n0 scA L' Lc' ∧ pmWC Lc' := by
      intro Lc1 hs hst ho hw1 hw2 hL hLi hlen
      refine ⟨_, hst, ⟨by simp [hs, hlen, hR.1], ?_⟩, ?_, ?_⟩
      · intro j z hz hne
        rw [pmGet _ _ _ _ (by rw [hs]; exact hi)]
        by_cases e : i = j
        · subst e; rw [if_pos rfl]; rw [hLi] at hz; cases hz; rfl
        · rw [if_neg e]
          have hz' := hL j z (Ne.symm e) hz hne
          rcases ho j (Ne.symm e) with q | ⟨q1, q2⟩ | ⟨q1, q2⟩
          · rw [q]; exact hR.2 j z hz' hne
          · rw [hz] at q2; cases q2; exact absurd rfl hne
          · exact absurd (q2 z hz) hne
      · intro j hj
        rw [pmGet _ _ _ _ (by rw [hs]; exact hi)] at hj
        by_cases e : i = j
        · rw [if_pos e] at hj; cases hj
        · rw [if_neg e] at hj
          obtain ⟨q, w, r1, r2, r3, r4⟩ := hw1 j (Ne.symm e) hj
          exact ⟨q, w, r1, by rw [pmGet _ _ _ _ (by rw [hs]; exact hi), if_neg (Ne.symm r2)]; exact r3, r4⟩
      · intro j w hj hw
        rw [pmGet _ _ _ _ (by rw [hs]; exact hi)] at hj
        by_cases e : i = j
        · rw [if_pos e] at hj; cases hj; rw [hv'] at hw; cases hw
        · rw [if_neg e] at hj
          obtain ⟨r1, r2⟩ := hw2 j w (Ne.symm e) hj hw
          rw [pmGet _ _ _ _ (by rw [hs]; exact hi), if_neg (Ne.symm r1)]; exact r2
    cases y with
    | second =>
      obtain ⟨j0, w0, e0, g0, c0⟩ := hC.1 i hy
      have hj0 : j0 < Lc.size := pmLt g0
      have hst : storeLocals Lc i (cv n0 scA v) = some ((Lc.setIfInBounds j0 .unset).setIfInBounds i (.val (cv n0 scA v))) := by
        have : i - 1 = j0 := by omega
        rw [pmStoreDef, hy]; simp [this, setAt, hj0, storeSelf, hv', hi]
      have hxu : x = .unset := by
        cases x with
        | unset => rfl
        | second => simp [pmStl, hx] at h
        | val z => have := hR.2 i _ hx (by simp); rw [hy] at this; cases this
      subst hxu
      have hL' : L' = Ls.set i (.val v) ∧ ∀ z, Ls[j0]? = some z → z = .unset := by
        have hj : i - 1 = j0 := by omega
        simp only [pmStl, hx, hj] at h
        refine ⟨?_, fun z hz => ?_⟩
        · split at h <;> first | (cases h; done) | (exact (Option.some.inj h).symm)
        · cases z with
          | unset => rfl
          | second => have := hR.2 j0 _ hz (by simp); rw [g0] at this; cases this
          | val z =>
            exfalso
            have q := hR.2 j0 _ hz (by simp); rw [g0] at q
            have q' : w0 = cv n0 scA z := by cases q; rfl
            have q2 : z.category = 2 := by rw [← cv_cat n0 scA z, ← q']; exact c0
            rw [hz] at h
            cases z <;> simp [Value.category] at q2 <;> simp at h
      obtain ⟨rfl, hj0u⟩ := hL'
      refine key (Lc.setIfInBounds j0 .unset) (by simp) hst ?_ ?_ ?_ ?_ ?_ ?_
      · intro j hj
        rw [pmGet _ _ _ _ hj0]
        by_cases e : j0 = j
        · rw [if_pos e]; subst e; exact Or.inr (Or.inr ⟨rfl, fun z hz => hj0u z (by rwa [List.getElem?_set_ne (Ne.symm hj)] at hz)⟩)
        · rw [if_neg e]; exact Or.inl rfl
      · intro j hj hj2
        rw [pmGet _ _ _ _ hj0] at hj2
        by_cases e : j0 = j
        · rw [if_pos e] at hj2; cases hj2
        · rw [if_neg e] at hj2
          obtain ⟨q, w, r1, r2, r3⟩ := hC.1 j hj2
          have qi : q ≠ i := fun z => by rw [z, hy] at r2; cases r2
          have qj : j0 ≠ q := fun z => by omega
          exact ⟨q, w, r1, qi, by rw [pmGet _ _ _ _ hj0, if_neg qj]; exact r2, r3⟩
      · intro j w hj hj2 hw
        rw [pmGet _ _ _ _ hj0] at hj2
        by_cases e : j0 = j
        · rw [if_pos e] at hj2; cases hj2
        · rw [if_neg e] at hj2
          have r := hC.2 j w hj2 hw
          exact ⟨by omega, by rw [pmGet _ _ _ _ hj0, if_neg (fun z => by rw [← z, g0] at r; cases r)]; exact r⟩
      · intro j z hj hz hne; rwa [List.getElem?_set_ne (Ne.symm hj)] at hz
      · simp [(List.getElem?_eq_some_iff.mp hx).1]
      · simp
    | unset =>
      have hst : storeLocals Lc i (cv n0 scA v) = some (Lc.setIfInBounds i (.val (cv n0 scA v))) := by rw [pmStoreDef, hy]; simp [setAt, storeSelf, hv', hi]
      have hxu : x = .unset := by
        cases x with
        | unset => rfl
        | second => simp [pmStl, hx] at h
        | val z => have := hR.2 i _ hx (by simp); rw [hy] at this; cases this
      subst hxu
      have hL' : L' = Ls.set i (.val v) := by
        simp only [pmStl, hx] at h
        split at h <;> first | (cases h; done) | (exact (Option.some.inj h).symm)
      subst hL'
      refine key Lc rfl hst (fun _ _ => Or.inl rfl) ?_ ?_ ?_ ?_ ?_
      · intro j hj hj2
        obtain ⟨q, w, r1, r2, r3⟩ := hC.1 j hj2
        exact ⟨q, w, r1, fun z => (by rw [z, hy] at r2; cases r2), r2, r3⟩
      · intro j w hj hj2 hw
        have r := hC.2 j w hj2 hw
        exact ⟨fun z => (by rw [z, hy] at r; cases r), r⟩
      · intro j z hj hz hne; rwa [List.getElem?_set_ne (Ne.symm hj)] at hz
      · simp [(List.getElem?_eq_some_iff.mp hx).1]
      · simp
    | val y =>
      by_cases hy2 : y.category = 2
      · have g1 := hC.2 i y hy hy2
        have hi1 : i + 1 < Lc.size := pmLt g1
        have hst : storeLocals Lc i (cv n0 scA v) = some ((Lc.setIfInBounds (i + 1) .unset).setIfInBounds i (.val (cv n0 scA v))) := by
          rw [pmStoreDef, hy]; simp [hy2, setAt, hi1, storeSelf, hv', hi]
        have hL' : L'.length = Ls.length ∧ L'[i]? = some (.val v) ∧ (∀ j, j ≠ i → j ≠ i + 1 → L'[j]? = Ls[j]?) ∧ ∀ z, L'[i + 1]? = some z → z = .unset := by
          have hil := (List.getElem?_eq_some_iff.mp hx).1
          cases x with
          | second => simp [pmStl, hx] at h
          | unset =>
            have hL2 : L' = Ls.set i (.val v) ∧ Ls[i + 1]? ≠ some .second := by
              simp only [pmStl, hx] at h
              refine ⟨?_, fun z => ?_⟩
              · split at h <;> first | (cases h; done) | (exact (Option.some.inj h).symm)
              · rw [z] at h
                split at h <;> first | (cases h; done) | (rename_i a b c; first | exact c rfl | exact absurd rfl (by assumption) | skip)
                all_goals simp_all
            obtain ⟨rfl, hn⟩ := hL2
            refine ⟨by simp, by simp [hil], fun j h1 h2 => List.getElem?_set_ne (Ne.symm h1), fun z hz => ?_⟩
            rw [List.getElem?_set_ne (by omega)] at hz
            cases z with
            | unset => rfl
            | second => exact absurd hz hn
            | val z => have := hR.2 (i + 1) _ hz (by simp); rw [g1] at this; cases this
          | val z =>
            have q := hR.2 i _ hx (by simp); rw [hy] at q
            have q' : y = cv n0 scA z := by cases q; rfl
            have q2 : z.category = 2 := by rw [← cv_cat n0 scA z, ← q']; exact hy2
            cases z <;> simp [Value.category] at q2
            · simp only [pmStl, hx] at h
              cases h
              have hl1 : i + 1 < Ls.length := by rw [← hR.1]; exact hi1
              refine ⟨by simp, by simp [hil], fun j h1 h2 => ?_, fun z hz => ?_⟩
              · rw [List.getElem?_set_ne (Ne.symm h1), List.getElem?_set_ne (Ne.symm h2)]
              · rw [List.getElem?_set_ne (by omega)] at hz; simp [hl1] at hz; exact hz.symm
            · simp [pmStl, hx] at h
        obtain ⟨a1, a2, a3, a4⟩ := hL'
        refine key (Lc.setIfInBounds (i + 1) .unset) (by simp) hst ?_ ?_ ?_ ?_ a2 a1
        · intro j hj
          rw [pmGet _ _ _ _ hi1]
          by_cases e : i + 1 = j
          · rw [if_pos e]; subst e; exact Or.inr (Or.inr ⟨rfl, a4⟩)
          · rw [if_neg e]; exact Or.inl rfl
        · intro j hj hj2
          rw [pmGet _ _ _ _ hi1] at hj2
          by_cases e : i + 1 = j
          · rw [if_pos e] at hj2; cases hj2
          · rw [if_neg e] at hj2
            obtain ⟨q, w, r1, r2, r3⟩ := hC.1 j hj2
            exact ⟨q, w, r1, fun z => by omega, by rw [pmGet _ _ _ _ hi1, if_neg (fun z => by rw [← z, g1] at r2; cases r2)]; exact r2, r3⟩
        · intro j w hj hj2 hw
          rw [pmGet _ _ _ _ hi1] at hj2
          by_cases e : i + 1 = j
          · rw [if_pos e] at hj2; cases hj2
          · rw [if_neg e] at hj2
            have r := hC.2 j w hj2 hw
            exact ⟨fun z => (by rw [z, hy] at r; cases r), by rw [pmGet _ _ _ _ hi1, if_neg (fun z => hj (by omega))]; exact r⟩
        · intro j z hj hz hne
          by_cases e : j = i + 1
          · subst e; exact absurd (a4 z hz) hne
          · rwa [a3 j hj e] at hz
      · have hst : storeLocals Lc i (cv n0 scA v) = some (Lc.setIfInBounds i (.val (cv n0 scA v))) := by rw [pmStoreDef, hy]; simp [hy2, setAt, storeSelf, hv', hi]
        have hL' : L' = Ls.set i (.val v) := by
          cases x with
          | second => simp [pmStl, hx] at h
          | unset =>
            simp only [pmStl, hx] at h
            split at h <;> first | (cases h; done) | (exact (Option.some.inj h).symm)
          | val z =>
            have q := hR.2 i _ hx (by simp); rw [hy] at q
            have q' : y = cv n0 scA z := by cases q; rfl
            have q2 : ¬ z.category = 2 := by rw [← cv_cat n0 scA z, ← q']; exact hy2
            cases z <;> first | (simp [Value.category] at q2; done) | (simp only [pmStl, hx] at h; exact (Option.some.inj h).symm)
        subst hL'
        refine key Lc rfl hst (fun _ _ => Or.inl rfl) ?_ ?_ ?_ ?_ ?_
        · intro j hj hj2
          obtain ⟨q, w, r1, r2, r3⟩ := hC.1 j hj2
          exact ⟨q, w, r1, fun z => (by rw [z, hy] at r2; cases r2; exact hy2 r3), r2, r3⟩
        · intro j w hj hj2 hw
          have r := hC.2 j w hj2 hw
          exact ⟨fun z => (by rw [z, hy] at r; cases r), r⟩
        · intro j z hj hz hne; rwa [List.getElem?_set_ne (Ne.symm hj)] at hz
        · simp [(List.getElem?_eq_some_iff.mp hx).1]
        · simp
def pmClean (Lc : Array Slot) (i : Nat) (y : Slot) : Array Slot :=
  match y with
  | .second => Lc.setIfInBounds (i - 1) .unset
  | .val w => if w.category = 2 then Lc.setIfInBounds (i + 1) .unset else Lc
  | .unset => Lc
theorem pmClean_size (Lc : Array Slot) (i : Nat) (y : Slot) : (pmClean Lc i y).size = Lc.size := by
  cases y with
  | second => simp [pmClean]
  | unset => rfl
  | val w => simp only [pmClean]; split <;> simp
theorem pmPh {Lc : Array Slot} {i : Nat} {y : Slot} (hC : pmWC Lc) (hy : Lc[i]? = some y) (v : Value) : storeLocals Lc i v = storeSelf (pmClean Lc i y) i v := by
  rw [pmStoreDef, hy]
  cases y with
  | second =>
    obtain ⟨j, w, e, g, -⟩ := hC.1 i hy
    have h1 : i - 1 < Lc.size := by have := pmLt g; omega
    simp [pmSet1 h1, pmClean]
  | unset => rfl
  | val w =>
    by_cases hw : w.category = 2
    · have h1 : i + 1 < Lc.size := pmLt (hC.2 i w hy hw)
      simp [pmSet1 h1, pmClean, hw]
    · simp [pmClean, hw]
theorem pmSelf1 {A : Array Slot} {i : Nat} {v : Value} (h : i < A.size) (hv : v.category = 1) : storeSelf A i v = some (A.setIfInBounds i (.val v)) := by rw [pmSelfDef _ _ _ hv, pmSet1 h]
theorem pmSelf2 {A : Array Slot} {i : Nat} {z : Int64} {y : Slot} (h : i < A.size) (hy : A[i + 1]? = some y) (h2 : ∀ w, y = .val w → w.category = 2 → i + 2 < A.size) (hn : y ≠ .second) :
    storeSelf A i (.long z) = some (((pmClean A (i + 1) y).setIfInBounds i (.val (.long z))).setIfInBounds (i + 1) .second) := by
  have h1 : i + 1 < A.size := pmLt hy
  have hy' : (A.setIfInBounds i (.val (.long z)))[i + 1]? = some y := by rw [pmGet _ _ _ _ h, if_neg (by omega)]; exact hy
  have ex : storeSelf A i (.long z) = (setAt A i (.val (.long z))).bind fun l => (l[i + 1]?).bind fun x => match x with
    | .val old => if old.category = 2 then (setAt l (i + 2) .unset).bind fun l' => setAt l' (i + 1) .second else setAt l (i + 1) .second
    | _ => setAt l (i + 1) .second := rfl
  rw [ex, pmSet1 h]
  simp only [Option.bind_some, hy']
  have s1 : i + 1 < (A.setIfInBounds i (.val (.long z))).size := by simpa using h1
  cases y with
  | second => exact absurd rfl hn
  | unset => simp [pmSet1 s1, pmClean]
  | val w =>
    by_cases hw : w.category = 2
    · have h3 := h2 w rfl hw
      have s2 : i + 2 < (A.setIfInBounds i (.val (.long z))).size := by simpa using h3
      have s3 : i + 1 < ((A.setIfInBounds i (.val (.long z))).setIfInBounds (i + 2) .unset).size := by simpa using h1
      simp only [hw, if_true, pmSet1 s2, Option.bind_some, pmSet1 s3, pmClean]
      congr 2
      apply Array.ext_getElem?
      intro j
      have h3' : i + 1 + 1 < A.size := h3
      rw [pmGet _ _ _ _ s2, pmGet _ _ _ _ h, pmGet _ _ _ _ (by simpa using h), pmGet _ _ _ _ h3']
      by_cases e1 : i + 2 = j
      · rw [if_pos e1, if_neg (by omega), if_pos (by omega)]
      · rw [if_neg e1]
        by_cases e2 : i = j
        · rw [if_pos e2, if_pos e2]
        · rw [if_neg e2, if_neg e2, if_neg (by omega)]
    · simp [hw, pmSet1 s1, pmClean]
theorem pmClean_set {A : Array Slot} {i : Nat} {y1 : Slot} (iA : i < A.size) (h3 : ∀ w, y1 = .val w → w.category = 2 → i + 2 < A.size) (ny1 : y1 ≠ .second) (x : Slot) {j : Nat} (hj : j ≠ i) : (pmClean (A.setIfInBounds i x) (i + 1) y1)[j]? = (pmClean A (i + 1) y1)[j]? := by
  cases y1 with
  | second => exact absurd rfl ny1
  | unset => simp only [pmClean]; rw [pmGet _ _ _ _ iA, if_neg (Ne.symm hj)]
  | val w =>
    by_cases hw : w.category = 2
    · have h3' : i + 1 + 1 < A.size := h3 w rfl hw
      have h4 : i + 1 + 1 < (A.setIfInBounds i x).size := by simpa using h3'
      simp only [pmClean, hw, if_true]
      rw [pmGet _ _ _ _ h4, pmGet _ _ _ _ iA, pmGet _ _ _ _ h3', if_neg (Ne.symm hj)]
    · simp only [pmClean, hw, if_false]; rw [pmGet _ _ _ _ iA, if_neg (Ne.symm hj)]
theorem pmStore2 {n0 scA : Nat} {Ls L' : List Slot} {Lc : Array Slot} {i : Nat} {z : Int64} (hR : pmLR n0 scA Ls Lc) (hC : pmWC Lc) (h : pmStlL Ls i (.long z) = some L') :
    ∃ Lc', storeLocals Lc i (.long z) = some Lc' ∧ pmLR n0 scA L' Lc' ∧ pmWC Lc' := by
  simp only [pmStlL] at h
  cases h1 : pmStl Ls i (.int 0) with
  | none => rw [h1] at h; cases h
  | some L1 =>
    rw [h1] at h
    dsimp only at h
    cases h2 : pmStl L1 (i + 1) (.int 0) with
    | none => rw [h2] at h; cases h
    | some L2 =>
      rw [h2] at h
      cases h
      obtain ⟨Lc1, e1, R1, C1⟩ := pmStore1 hR hC rfl h1
      obtain ⟨Lc2, e2, R2, C2⟩ := pmStore1 R1 C1 rfl h2
      change storeLocals Lc i (.int 0) = some Lc1 at e1
      change storeLocals Lc1 (i + 1) (.int 0) = some Lc2 at e2
      obtain ⟨y, hy⟩ : ∃ y, Lc[i]? = some y := by
        cases q : Lc[i]? with
        | none => rw [pmStoreDef, q] at e1; cases e1
        | some y => exact ⟨y, rfl⟩
      have hi : i < Lc.size := pmLt hy
      have iA : i < (pmClean Lc i y).size := by rw [pmClean_size]; exact hi
      rw [pmPh hC hy, pmSelf1 iA rfl] at e1
      have e1' : Lc1 = (pmClean Lc i y).setIfInBounds i (.val (.int 0)) := (Option.some.inj e1).symm
      obtain ⟨y1, hy1⟩ : ∃ y, Lc1[i + 1]? = some y := by
        cases q : Lc1[i + 1]? with
        | none => rw [pmStoreDef, q] at e2; cases e2
        | some y => exact ⟨y, rfl⟩
      have l2 : i + 1 < Lc1.size := pmLt hy1
      have iB : i + 1 < (pmClean Lc1 (i + 1) y1).size := by rw [pmClean_size]; exact l2
      rw [pmPh C1 hy1, pmSelf1 iB rfl] at e2
      have e2' : Lc2 = (pmClean Lc1 (i + 1) y1).setIfInBounds (i + 1) (.val (.int 0)) := (Option.some.inj e2).symm
      have g1 : Lc1[i]? = some (.val (.int 0)) := by rw [e1', pmGet _ _ _ _ iA, if_pos rfl]
      have ny1 : y1 ≠ .second := by
        rintro rfl
        obtain ⟨j, w, r1, r2, r3⟩ := C1.1 _ hy1
        have : j = i := by omega
        subst this; rw [g1] at r2; cases r2; simp [Value.category] at r3
      have hyA : (pmClean Lc i y)[i + 1]? = some y1 := by rw [e1', pmGet _ _ _ _ iA, if_neg (by omega)] at hy1; exact hy1
      have h3 : ∀ w, y1 = .val w → w.category = 2 → i + 2 < (pmClean Lc i y).size := by
        intro w hw hc
        subst hw
        have := pmLt (C1.2 _ _ hy1 hc)
        rw [e1'] at this; simpa using this
      have fin := pmSelf2 (z := z) iA hyA h3 ny1
      rw [← pmPh hC hy] at fin
      -- the same array, over the one with two ints
      have clc : ∀ j, j ≠ i → (pmClean Lc1 (i + 1) y1)[j]? = (pmClean (pmClean Lc i y) (i + 1) y1)[j]? := by
        intro j hj
        rw [e1']
        exact pmClean_set iA h3 ny1 _ hj
      have fin' : storeLocals Lc i (.long z) = some ((Lc2.setIfInBounds i (.val (.long z))).setIfInBounds (i + 1) .second) := by
        rw [fin]
        congr 1
        apply Array.ext_getElem?
        intro j
        have q1 : i < (pmClean (pmClean Lc i y) (i + 1) y1).size := by rw [pmClean_size]; exact iA
        have q2 : i + 1 < (pmClean (pmClean Lc i y) (i + 1) y1).size := by rw [pmClean_size]; exact pmLt hyA
        have q3 : i < Lc2.size := by rw [e2']; simp [pmClean_size]; omega
        have q4 : i + 1 < Lc2.size := by rw [e2']; simp [pmClean_size]; omega
        rw [pmGet _ _ _ _ (by simpa using q2), pmGet _ _ _ _ q1, pmGet _ _ _ _ (by simpa using q4), pmGet _ _ _ _ q3]
        by_cases z1 : i + 1 = j
        · rw [if_pos z1, if_pos z1]
        · rw [if_neg z1, if_neg z1]
          by_cases z2 : i = j
          · rw [if_pos z2, if_pos z2]
          · rw [if_neg z2, if_neg z2, e2', pmGet _ _ _ _ iB, if_neg z1]
            exact (clc j (Ne.symm z2)).symm
      have i2 : i < Lc2.size := by rw [e2']; simp [pmClean_size]; omega
      have i21 : i + 1 < Lc2.size := by rw [e2']; simp [pmClean_size]; omega
      have g2 : Lc2[i + 1]? = some (.val (.int 0)) := by rw [e2', pmGet _ _ _ _ iB, if_pos rfl]
      have g2i' : Lc2[i]? = some (.val (.int 0)) := by
        rw [e2', pmGet _ _ _ _ iB, if_neg (by omega)]
        cases y1 with
        | second => exact absurd rfl ny1
        | unset => exact g1
        | val w =>
          simp only [pmClean]
          split
          · rename_i hw
            rw [pmGet _ _ _ _ (pmLt (C1.2 _ _ hy1 hw)), if_neg (by omega)]; exact g1
          · exact g1
      have hget : ∀ j, ((Lc2.setIfInBounds i (.val (.long z))).setIfInBounds (i + 1) .second)[j]? = if i + 1 = j then some .second else if i = j then some (.val (.long z)) else Lc2[j]? := fun j => by
        rw [pmGet _ _ _ _ (by simpa using i21), pmGet _ _ _ _ i2]
      refine ⟨_, fin', ⟨by simp [R2.1], ?_⟩, ?_, ?_⟩
      · intro j x hx hne
        rw [hget]
        by_cases e : i + 1 = j
        · subst e
          rw [if_pos rfl]
          have : i + 1 < L2.length := by rw [← R2.1]; exact i21
          simp [this] at hx; subst hx; rfl
        · rw [if_neg e]
          rw [List.getElem?_set_ne e] at hx
          by_cases e' : i = j
          · subst e'
            rw [if_pos rfl]
            have : i < L2.length := by rw [← R2.1]; exact i2
            simp [this] at hx; subst hx; rfl
          · rw [if_neg e']
            rw [List.getElem?_set_ne e'] at hx
            exact R2.2 j x hx hne
      · intro j hj
        rw [hget] at hj
        by_cases e : i + 1 = j
        · exact ⟨i, .long z, e.symm, by rw [hget, if_neg (by omega), if_pos rfl], rfl⟩
        · rw [if_neg e] at hj
          by_cases e' : i = j
          · rw [if_pos e'] at hj; cases hj
          · rw [if_neg e'] at hj
            obtain ⟨q, w, r1, r2, r3⟩ := C2.1 j hj
            refine ⟨q, w, r1, ?_, r3⟩
            rw [hget, if_neg (fun u => by rw [← u, g2] at r2; cases r2; simp [Value.category] at r3), if_neg (fun u => by rw [← u, g2i'] at r2; cases r2; simp [Value.category] at r3)]
            exact r2
      · intro j w hj hw
        rw [hget] at hj
        by_cases e : i + 1 = j
        · rw [if_pos e] at hj; cases hj
        · rw [if_neg e] at hj
          by_cases e' : i = j
          · subst e'; rw [hget, if_pos rfl]
          · rw [if_neg e'] at hj
            have r := C2.2 j w hj hw
            rw [hget]
            by_cases e2 : i + 1 = j + 1
            · rw [if_pos e2]
            · rw [if_neg e2, if_neg (fun u => by rw [← u, g2i'] at r; cases r)]; exact r
def pmRel (Z : State) (n0 scA : Nat) (σ : Mem) (h : Heap) : Prop :=
  h.size = n0 + σ.1 ∧ σ.1 ≤ t_full ∧
  (t_sc = true → scA < n0 ∧ σ.2.1 < 2147483648 ∧ ∃ c : Cell, Arr Z h scA c .int ∧ c.slots.size = σ.2.1 ∧ ∀ i, i < σ.2.1 → c.slots[i]? = some (.int (σ.2.2.2 0 i))) ∧
  (1 ≤ σ.1 → Exa Z h n0 t_C ∧ σ.2.2.1.length = t_flds.length ∧ ∀ (q : Nat) (f : String × String × FieldType) (v : Value), t_flds[q]? = some f → σ.2.2.1[q]? = some v → Fld Z h n0 t_C f.1 f.2.1 (cv n0 scA v)) ∧
  ∀ (r : Nat) (q : FieldType × Nat), t_arrs[r]? = some q → (r + 2 ≤ σ.1 → ∃ c : Cell, Arr Z h (n0 + (r + 1)) c q.1 ∧ c.slots.size = q.2 ∧ ∀ i, i < q.2 → c.slots[i]? = some (.int (σ.2.2.2 (r + 2) i))) ∧ (σ.1 < r + 2 → ∀ i, i < q.2 → σ.2.2.2 (r + 2) i = 0)
def pmCtx (l : Launch) (Z : State) (n0 scA k : Nat) (σ : Mem) (p : Program) (e : Env) (s : State) (m : MethodId) (args : Array Value) (below : List Frame) (meth : Method) (c : Code) (T : State) (locs : List Loc) : Prop :=
  Stand p l e (t_rm k) s m args below meth c T locs (pmBC k σ.1) (pmBS k σ.1) ∧ p.tables.exec = Jvm.exec ∧ Z.Warmed39 s.vm ∧ c.code = t_bytes k ∧ c.maxLocals = t_ml k ∧ s.vm.findClass (t_nm k).cls = some m.cls ∧ meth.sig.returnType = t_rt k ∧ pmRel Z n0 scA σ T.heap ∧ Fr n0 locs ∧ s.heap.size + pmBC k σ.1 = n0 + σ.1
def pmROk (k a a' : Nat) : Prop := (t_mode k = 0 → a' = a) ∧ (t_mode k = 1 → a' = t_full)
def WM (l : Launch) (Z : State) (n0 scA : Nat) : WPr := fun k pc Ls S σ Q =>
  ∀ (p : Program) (e : Env) (s : State) (m : MethodId) (args : Array Value) (below : List Frame) (meth : Method) (c : Code) (T : State) (locs : List Loc) (Lc : Array Slot),
    pmCtx l Z n0 scA k σ p e s m args below meth c T locs → pmLR n0 scA Ls Lc → pmWC Lc → Ls.length = t_ml k →
    ∃ (v : Option Value) (σ' : Mem) (T' : State) (locs' : List Loc), pmCtx l Z n0 scA k σ' p e s m args below meth c T' locs' ∧ Q v σ' ∧ pmROk k σ.1 σ'.1 ∧ (t_rt k = none → v = none) ∧
      ∀ fs, (∀ (f : JFrame) (acts : List Action), f.method = m → f.locked = none → f.entered = [] → (doReturn e (T'.setTop f) acts (v.map (cv n0 scA))).1 = T'.setFrames fs) → Steps p.tables e below (T.setTop (mkF m pc Lc (S.map (cv n0 scA)))) (T'.setFrames fs)
section Sound
variable {l : Launch} {Z : State} {a0 : Array Value} {n0 scA : Nat}
/-- one step that goes from one point of the same body to another -/
theorem pmStep {k pc pc' : Nat} {Ls Ls' : List Slot} {S S' : List Value} {σ σ' : Mem} {Q : Pst} (h : WM l Z n0 scA k pc' Ls' S' σ' Q) (hlen : Ls'.length = Ls.length) (hro : ∀ a, pmROk k σ'.1 a → pmROk k σ.1 a)
    (st : ∀ (p : Program) (e : Env) (s : State) (m : MethodId) (args : Array Value) (below : List Frame) (meth : Method) (c : Code) (T : State) (locs : List Loc) (Lc : Array Slot), pmCtx l Z n0 scA k σ p e s m args below meth c T locs → pmLR n0 scA Ls Lc → pmWC Lc → Ls.length = t_ml k →
      ∃ (T' : State) (locs' : List Loc) (Lc' : Array Slot), pmCtx l Z n0 scA k σ' p e s m args below meth c T' locs' ∧ pmLR n0 scA Ls' Lc' ∧ pmWC Lc' ∧
        ∀ target, Steps p.tables e below (T'.setTop (mkF m pc' Lc' (S'.map (cv n0 scA)))) target → Steps p.tables e below (T.setTop (mkF m pc Lc (S.map (cv n0 scA)))) target) : WM l Z n0 scA k pc Ls S σ Q := by
  intro p e s m args below meth c T locs Lc hX hR hC hL
  obtain ⟨T1, locs1, Lc1, X1, R1, C1, s1⟩ := st p e s m args below meth c T locs Lc hX hR hC hL
  obtain ⟨v, σ2, T2, locs2, X2, q2, r2, n2, s2⟩ := h p e s m args below meth c T1 locs1 Lc1 X1 R1 C1 (hlen.trans hL)
  exact ⟨v, σ2, T2, locs2, X2, q2, hro _ r2, n2, fun fs hr => s1 _ (s2 fs hr)⟩
/-- a step that touches neither heap nor tables -/
theorem pmPure {k pc pc' : Nat} {Ls Ls' : List Slot} {S S' : List Value} {σ : Mem} {Q : Pst} (h : WM l Z n0 scA k pc' Ls' S' σ Q) (hlen : Ls'.length = Ls.length)
    (st : ∀ (p : Program) (e : Env) (m : MethodId) (below : List Frame) (c : Code) (T : State) (Lc : Array Slot), p.tables.exec = Jvm.exec → At T m c below → c.code = t_bytes k → pmLR n0 scA Ls Lc → pmWC Lc →
      ∃ (Lc' : Array Slot), pmLR n0 scA Ls' Lc' ∧ pmWC Lc' ∧ ∀ target, Steps p.tables e below (T.setTop (mkF m pc' Lc' (S'.map (cv n0 scA)))) target → Steps p.tables e below (T.setTop (mkF m pc Lc (S.map (cv n0 scA)))) target) : WM l Z n0 scA k pc Ls S σ Q :=
  pmStep h hlen (fun _ q => q) fun p e s m args below meth c T locs Lc hX hR hC hL => by
    obtain ⟨Lc', R1, C1, s1⟩ := st p e m below c T Lc hX.2.1 hX.1.here hX.2.2.2.1 hR hC
    exact ⟨T, locs, Lc', hX, R1, C1, s1⟩
/-- and leaves the locals as they are -/
theorem pmPure0 {k pc pc' : Nat} {Ls : List Slot} {S S' : List Value} {σ : Mem} {Q : Pst} (h : WM l Z n0 scA k pc' Ls S' σ Q)
    (st : ∀ (p : Program) (e : Env) (m : MethodId) (below : List Frame) (c : Code) (T : State) (Lc : Array Slot), p.tables.exec = Jvm.exec → At T m c below → c.code = t_bytes k → pmLR n0 scA Ls Lc →
      ∀ target, Steps p.tables e below (T.setTop (mkF m pc' Lc (S'.map (cv n0 scA)))) target → Steps p.tables e below (T.setTop (mkF m pc Lc (S.map (cv n0 scA)))) target) : WM l Z n0 scA k pc Ls S σ Q :=
  pmPure h rfl fun p e m below c T Lc hx hat hby hR hC => ⟨Lc, hR, hC, st p e m below c T Lc hx hat hby hR⟩
/-- a branch -/
theorem pmBranch {k pc : Nat} {Ls : List Slot} {S R : List Value} {σ : Mem} {Q : Pst} {cd : ClassFile.Cond} {x y : Int32} {o : Int} {T F : Prop} (h : pmBr cd x y T F) (hT : T → WM l Z n0 scA k (pmTgt pc o) Ls R σ Q) (hF : F → WM l Z n0 scA k (pc + 3) Ls R σ Q)
    (yes : ∀ (p : Program) (e : Env) (m : MethodId) (below : List Frame) (c : Code) (T : State) (Lc : Array Slot), p.tables.exec = Jvm.exec → At T m c below → c.code = t_bytes k → if_icmp.holds cd x y = true →
      ∀ target, Steps p.tables e below (T.setTop (mkF m (pmTgt pc o) Lc (R.map (cv n0 scA)))) target → Steps p.tables e below (T.setTop (mkF m pc Lc (S.map (cv n0 scA)))) target)
    (no : ∀ (p : Program) (e : Env) (m : MethodId) (below : List Frame) (c : Code) (T : State) (Lc : Array Slot), p.tables.exec = Jvm.exec → At T m c below → c.code = t_bytes k → if_icmp.holds cd x y = false →
      ∀ target, Steps p.tables e below (T.setTop (mkF m (pc + 3) Lc (R.map (cv n0 scA)))) target → Steps p.tables e below (T.setTop (mkF m pc Lc (S.map (cv n0 scA)))) target) : WM l Z n0 scA k pc Ls S σ Q := by
  have go : ∀ b, if_icmp.holds cd x y = b → (b = true → T) → (b = false → F) → WM l Z n0 scA k pc Ls S σ Q := by
    intro b hb h1 h2
    cases b with
    | true => exact pmPure0 (hT (h1 rfl)) fun p e m below c T Lc hx hat hby _ => yes p e m below c T Lc hx hat hby hb
    | false => exact pmPure0 (hF (h2 rfl)) fun p e m below c T Lc hx hat hby _ => no p e m below c T Lc hx hat hby hb
  cases cd
  · by_cases q : x = y
    · exact go true (teq q).1 (fun _ => h.1 q) (fun z => by cases z)
    · exact go false (feq q).1 (fun z => by cases z) (fun _ => h.2 q)
  · by_cases q : x = y
    · exact go false (teq q).2 (fun z => by cases z) (fun _ => h.1 q)
    · exact go true (feq q).2 (fun _ => h.2 q) (fun z => by cases z)
  · by_cases q : x.toInt < y.toInt
    · exact go true (tlt (Int32.lt_iff_toInt_lt.mpr q)).1 (fun _ => h.1 q) (fun z => by cases z)
    · exact go false (flt (fun z => q (Int32.lt_iff_toInt_lt.mp z))).1 (fun z => by cases z) (fun _ => h.2 q)
  · by_cases q : x.toInt < y.toInt
    · exact go false (tlt (Int32.lt_iff_toInt_lt.mpr q)).2.1 (fun z => by cases z) (fun _ => h.1 q)
    · exact go true (flt (fun z => q (Int32.lt_iff_toInt_lt.mp z))).2.1 (fun _ => h.2 q) (fun z => by cases z)
  · by_cases q : y.toInt < x.toInt
    · exact go true (tlt (Int32.lt_iff_toInt_lt.mpr q)).2.2.1 (fun _ => h.1 q) (fun z => by cases z)
    · exact go false (flt (fun z => q (Int32.lt_iff_toInt_lt.mp z))).2.2.1 (fun z => by cases z) (fun _ => h.2 q)
  · by_cases q : y.toInt < x.toInt
    · exact go false (tlt (Int32.lt_iff_toInt_lt.mpr q)).2.2.2 (fun z => by cases z) (fun _ => h.1 q)
    · exact go true (flt (fun z => q (Int32.lt_iff_toInt_lt.mp z))).2.2.2 (fun _ => h.2 q) (fun z => by cases z)
theorem pmStl_len {L L' : List Slot} {i : Nat} {v : Value} (h : pmStl L i v = some L') : L'.length = L.length := by
  unfold pmStl at h
  split at h <;> first | (cases h; done) | (cases h; simp; done) | (split at h <;> first | (cases h; done) | (cases h; simp; done))
theorem pmStlL_len {L L' : List Slot} {i : Nat} {v : Value} (h : pmStlL L i v = some L') : L'.length = L.length := by
  unfold pmStlL at h
  split at h
  · cases h
  · rename_i L1 h1
    split at h
    · cases h
    · rename_i L2 h2
      cases h
      simp [pmStl_len h2, pmStl_len h1]
theorem clampNeg (x : Int32) : x.toNatClampNeg = x.toInt.toNat := rfl
theorem pmInb {j : Int32} {n : Nat} {c : Cell} (hs : c.slots.size = n) (h : 0 ≤ j.toInt ∧ j.toInt < (n : Int)) : ¬ (j < 0 ∨ c.slots.size ≤ j.toNatClampNeg) := by
  rw [hs, clampNeg, Int32.lt_iff_toInt_lt]
  have e0 : (0 : Int32).toInt = 0 := rfl
  rw [e0]; omega
/-- an array as the memory says -/
theorem pmArr {σ : Mem} {h : Heap} {r : Nat} (R : pmRel Z n0 scA σ h) (ht : pmThere r σ.1 = true) : ∃ c : Cell, Arr Z h (pmRho n0 scA r) c (pmTy r) ∧ c.slots.size = pmLen r σ ∧ ∀ i, i < pmLen r σ → c.slots[i]? = some (.int (σ.2.2.2 r i)) := by
  match r, ht with
  | 0, ht =>
    obtain ⟨-, -, c, h1, h2, h3⟩ := R.2.2.1 ht
    exact ⟨c, h1, h2, h3⟩
  | r + 2, ht =>
    have ht' : r + 2 ≤ σ.1 := Nat.le_of_ble_eq_true ht
    have hr : r < t_arrs.length := by have := R.2.1; rw [f_full] at this; omega
    have hq : t_arrs[r]? = some t_arrs[r] := List.getElem?_eq_getElem hr
    obtain ⟨c, h1, h2, h3⟩ := (R.2.2.2.2 r _ hq).1 ht'
    have e1 : pmTy (r + 2) = t_arrs[r].1 := by simp only [pmTy, hq]
    have e2 : pmLen (r + 2) σ = t_arrs[r].2 := by simp only [pmLen, hq]
    rw [e1, e2]
    exact ⟨c, h1, h2, h3⟩
theorem pmROk_same {k : Nat} {σ σ' : Mem} (h : σ'.1 = σ.1) : ∀ a, pmROk k σ'.1 a → pmROk k σ.1 a := fun a q => h ▸ q
end Sound
section Sound
variable {l : Launch} {Z : State} {a0 : Array Value} {n0 scA : Nat}
theorem pmLaid (hw : ∀ d ∈ tables_1, d.before a0 Z = true) {q : Nat} {f : String × String × FieldType} (h : t_flds[q]? = some f) : (Jvm.Cond.lays t_C t_C f.1 f.2.1).before a0 Z = true ∧ parseFieldDescriptor f.2.1 = some f.2.2 :=
  ⟨hw _ (f_lays f (List.mem_of_getElem? h)).1, (f_lays f (List.mem_of_getElem? h)).2⟩
theorem pmSlotNe (hw : ∀ d ∈ tables_1, d.before a0 Z = true) {q q' : Nat} {f f' : String × String × FieldType} (h : t_flds[q]? = some f) (h' : t_flds[q']? = some f') (hne : q ≠ q') : Jvm.RoadKit.slotOf Z t_C f.1 f.2.1 ≠ Jvm.RoadKit.slotOf Z t_C f'.1 f'.2.1 := by
  have n := f_names q q' (List.getElem?_eq_some_iff.mp h).1 (List.getElem?_eq_some_iff.mp h').1 hne
  rw [h, h'] at n
  exact slot_ne (Or.inl (pmLaid hw h).1) (Or.inl (pmLaid hw h').1) (fun e => n (by simp [e])) (pmLaid hw h).2 (pmLaid hw h').2
theorem pmRel_put (hw : ∀ d ∈ tables_1, d.before a0 Z = true) {σ : Mem} {h h' : Heap} {q : Nat} {f : String × String × FieldType} {v : Value} (R : pmRel Z n0 scA σ h) (h1 : 1 ≤ σ.1) (hf : t_flds[q]? = some f) (W : Wr h h' n0 (Jvm.RoadKit.slotOf Z t_C f.1 f.2.1) (cv n0 scA v)) :
    pmRel Z n0 scA (σ.1, σ.2.1, σ.2.2.1.set q v, σ.2.2.2) h' := by
  obtain ⟨r1, r2, r3, r4, r5⟩ := R
  refine ⟨W.size.trans r1, r2, fun ht => ?_, fun h1' => ?_, fun r z hz => ⟨fun hr => ?_, (r5 r z hz).2⟩⟩
  · obtain ⟨a1, a2, c, A, a3⟩ := r3 ht
    exact ⟨a1, a2, c, A.other W (show (scA : Nat) ≠ n0 by omega), a3⟩
  · obtain ⟨E, hl, F⟩ := r4 h1
    refine ⟨E.wr W, by simpa using hl, fun q' f' v' hf' hv' => ?_⟩
    by_cases e : q = q'
    · subst e
      cases hf.symm.trans hf'
      have hq : q < σ.2.2.1.length := by rw [hl]; exact (List.getElem?_eq_some_iff.mp hf).1
      have e2 : v' = v := by simpa [hq] using hv'.symm
      subst e2
      exact Fld.same W (F q f _ hf (List.getElem?_eq_getElem hq))
    · have hv2 : σ.2.2.1[q']? = some v' := by simpa [List.getElem?_set_ne e] using hv'
      exact Fld.other W (F q' f' v' hf' hv2) (Or.inr (pmSlotNe hw hf' hf (Ne.symm e)))
  · obtain ⟨c, A, a3⟩ := (r5 r z hz).1 hr
    exact ⟨c, A.other W (show (n0 + (r + 1) : Nat) ≠ n0 by omega), a3⟩
theorem pmRel_set {σ : Mem} {h h' : Heap} {r i : Nat} {v : Int32} (R : pmRel Z n0 scA σ h) (hr : r + 2 ≤ σ.1) (hi : i < pmLen (r + 2) σ) (W : Wr h h' (n0 + (r + 1)) i (.int v)) :
    pmRel Z n0 scA (σ.1, σ.2.1, σ.2.2.1, pmSet σ.2.2.2 (r + 2) i v) h' := by
  obtain ⟨r1, r2, r3, r4, r5⟩ := R
  refine ⟨W.size.trans r1, r2, fun ht => ?_, fun h1 => ?_, fun r' z hz => ⟨fun hr' => ?_, fun hr' j hj => ?_⟩⟩
  · obtain ⟨a1, a2, c, A, a3, a4⟩ := r3 ht
    exact ⟨a1, a2, c, A.other W (show (scA : Nat) ≠ n0 + (r + 1) by omega), a3, fun j hj => by rw [a4 j hj]; simp [pmSet]⟩
  · obtain ⟨E, hl, F⟩ := r4 h1
    exact ⟨E.wr W, hl, fun q' f' v' hf' hv' => Fld.other W (F q' f' v' hf' hv') (Or.inl (show (n0 : Nat) ≠ n0 + (r + 1) by omega))⟩
  · obtain ⟨c, A, a3, a4⟩ := (r5 r' z hz).1 hr'
    by_cases e : r' = r
    · subst e
      have hi' : i < z.2 := by simpa only [pmLen, hz] using hi
      refine ⟨_, A.same W, by simp [Cell.setSlot, a3], fun j hj => ?_⟩
      by_cases e2 : i = j
      · subst e2; simp [Cell.setSlot, a3, hi', pmSet]
      · simp only [Cell.setSlot, Array.getElem?_setIfInBounds_ne e2]
        rw [a4 j hj]; simp [pmSet, Ne.symm e2]
    · refine ⟨c, A.other W (show (n0 + (r' + 1) : Nat) ≠ n0 + (r + 1) by omega), a3, fun j hj => ?_⟩
      rw [a4 j hj]
      simp [pmSet, e]
  · have e : ¬ r' = r := fun e => by subst e; simp only at hr'; omega
    have := (r5 r' z hz).2 hr' j hj
    simp [pmSet, e, this]
theorem pmRel_new (hw : ∀ d ∈ tables_1, d.before a0 Z = true) {n : Nat} {F : List Value} {A : Nat → Nat → Int32} {h h' : Heap} (R : pmRel Z n0 scA (0, n, F, A) h) (E : Ext h h') (hs : h'.size = h.size + 1) (X : Exa Z h' h.size t_C)
    (D : ∀ {O nm d : String} {ty : FieldType}, Laid Z a0 t_C O nm d → parseFieldDescriptor d = some ty → Fld Z h' h.size O nm d (defaultValue ty)) : pmRel Z n0 scA (1, n, t_flds.map (fun f => defaultValue f.2.2), A) h' := by
  obtain ⟨r1, r2, r3, r4, r5⟩ := R
  have r1' : h.size = n0 := r1
  refine ⟨by rw [hs, r1'], by rw [f_full]; simp, fun ht => ?_, fun _ => ⟨by rw [← r1']; exact X, by simp, fun q f v hf hv => ?_⟩, fun r z hz => ⟨fun hr => ?_, fun hr j hj => ?_⟩⟩
  · obtain ⟨a1, a2, c, A1, a3⟩ := r3 ht
    exact ⟨a1, a2, c, A1.ext E, a3⟩
  · have e : v = defaultValue f.2.2 := by simpa [hf] using hv.symm
    subst e
    have := D (Or.inl (pmLaid hw hf).1) (pmLaid hw hf).2
    rw [r1'] at this
    have e2 : cv n0 scA (defaultValue f.2.2) = defaultValue f.2.2 := by cases f.2.2 <;> rfl
    rw [e2]; exact this
  · simp only at hr; omega
  · exact (r5 r z hz).2 (by simp) j hj
theorem pmRel_arr {a n : Nat} {F : List Value} {A : Nat → Nat → Int32} {h h' : Heap} {z : FieldType × Nat} {cA : ClassId} {m : Int32} (R : pmRel Z n0 scA (a + 1, n, F, A) h) (E : Ext h h') (hs : h'.size = h.size + 1) (hz : t_arrs[a]? = some z) (hm : m = Int32.ofNat z.2) (hz2 : z.2 < 4096)
    (hd : defaultValue z.1 = .int 0) (B : Arr Z h' h.size (newA cA z.1 m) z.1) : pmRel Z n0 scA (a + 2, n, F, A) h' := by
  obtain ⟨r1, r2, r3, r4, r5⟩ := R
  have r1' : h.size = n0 + (a + 1) := r1
  have ha : a < t_arrs.length := (List.getElem?_eq_some_iff.mp hz).1
  have hm' : m.toNatClampNeg = z.2 := by
    subst hm
    rw [clampNeg]
    have : (Int32.ofNat z.2).toInt = (z.2 : Int) := Int32.toInt_ofNat_of_lt (by omega)
    rw [this]; simp
  refine ⟨by rw [hs, r1']; omega, by rw [f_full]; omega, fun ht => ?_, fun _ => ?_, fun r w hw => ⟨fun hr => ?_, fun hr j hj => ?_⟩⟩
  · obtain ⟨a1, a2, c, A1, a3⟩ := r3 ht
    exact ⟨a1, a2, c, A1.ext E, a3⟩
  · obtain ⟨X, hl, F1⟩ := r4 (by simp)
    exact ⟨X.ext E, hl, fun q f v hf hv => (F1 q f v hf hv).ext E⟩
  · by_cases e : r = a
    · subst e
      cases hz.symm.trans hw
      refine ⟨_, by rw [← r1']; exact B, by simp [newA, hm'], fun j hj => ?_⟩
      have z0 : A (r + 2) j = 0 := (r5 r z hz).2 (by simp) j hj
      show (newA cA z.1 m).slots[j]? = some (.int (A (r + 2) j))
      rw [z0]
      simp [newA, hm', hj, hd]
    · have hr' : r + 2 ≤ a + 2 := hr
      obtain ⟨c, A1, a3⟩ := (r5 r w hw).1 (show r + 2 ≤ a + 1 by omega)
      exact ⟨c, A1.ext E, a3⟩
  · exact (r5 r w hw).2 (show a + 1 < r + 2 by have : a + 2 < r + 2 := hr; omega) j hj
/-! entering a body -/
theorem pmSlots_loc (n0 scA : Nat) (as : List Value) (hnd : ∀ v ∈ as, ∀ b, v ≠ .double b) : ((as.map (cv n0 scA)).foldl (fun (acc : Array Slot) v => if v.category = 2 then (acc.push (.val v)).push .second else acc.push (.val v)) #[]).toList = (pmSlots as).map (cs n0 scA) := by
  have gen : ∀ (as : List Value) (acc : Array Slot), (∀ v ∈ as, ∀ b, v ≠ .double b) → ((as.map (cv n0 scA)).foldl (fun (acc : Array Slot) v => if v.category = 2 then (acc.push (.val v)).push .second else acc.push (.val v)) acc).toList = acc.toList ++ (pmSlots as).map (cs n0 scA) := by
    intro as
    induction as with
    | nil => intro acc _; simp [pmSlots]
    | cons v r ih =>
      intro acc hnd
      rw [List.map_cons, List.foldl_cons, ih _ (fun w hw => hnd w (List.mem_cons_of_mem _ hw))]
      cases v <;> first | (simp [pmSlots, cv, cs, Value.category]; done) | exact absurd rfl (hnd _ (List.mem_cons_self ..) _)
  simpa using gen as #[] hnd
theorem pmEntry_loc (n0 scA ml : Nat) (as : List Value) (hnd : ∀ v ∈ as, ∀ b, v ≠ .double b) : argsToLocals (as.map (cv n0 scA)).toArray ml = ((pmEntry ml as).map (cs n0 scA)).toArray := by
  have h := pmSlots_loc n0 scA as hnd
  apply Array.toList_inj.mp
  unfold argsToLocals
  simp only [List.foldl_toArray', Array.toList_append, Array.toList_replicate, List.toList_toArray]
  rw [pmEntry, List.map_append, h]
  congr 1
  have : (List.foldl (fun (acc : Array Slot) v => if v.category = 2 then (acc.push (.val v)).push .second else acc.push (.val v)) #[] (as.map (cv n0 scA))).size = (pmSlots as).length := by
    rw [← Array.length_toList, h, List.length_map]
  rw [this]
  simp [cs]
theorem pmSlots_wc (as : List Value) : (∀ i : Nat, (pmSlots as)[i]? = some .second → ∃ j v, i = j + 1 ∧ (pmSlots as)[j]? = some (.val v) ∧ v.category = 2) ∧ (∀ (i : Nat) (v : Value), (pmSlots as)[i]? = some (.val v) → v.category = 2 → (∀ b, v ≠ .double b) → (pmSlots as)[i + 1]? = some .second) := by
  induction as with
  | nil => exact ⟨fun i h => by simp [pmSlots] at h, fun i v h => by simp [pmSlots] at h⟩
  | cons v r ih =>
    have one : ∀ w : Value, w.category = 1 ∨ (∃ b, w = .double b) → ((∀ i : Nat, (.val w :: pmSlots r)[i]? = some .second → ∃ j v, i = j + 1 ∧ (.val w :: pmSlots r)[j]? = some (.val v) ∧ v.category = 2) ∧ (∀ (i : Nat) (v : Value), (.val w :: pmSlots r)[i]? = some (.val v) → v.category = 2 → (∀ b, v ≠ .double b) → (.val w :: pmSlots r)[i + 1]? = some .second)) := by
      intro w hw
      refine ⟨fun i h => ?_, fun i u h hc hd => ?_⟩
      · cases i with
        | zero => simp at h
        | succ i =>
          obtain ⟨j, u, e, g, q⟩ := ih.1 i (by simpa using h)
          exact ⟨j + 1, u, by omega, by simpa using g, q⟩
      · cases i with
        | zero =>
          have : u = w := by simpa using h.symm
          subst this
          rcases hw with hw | ⟨b, rfl⟩
          · rw [hw] at hc; cases hc
          · exact absurd rfl (hd b)
        | succ i => simpa using ih.2 i u (by simpa using h) hc hd
    cases v with
    | long z =>
      refine ⟨fun i h => ?_, fun i u h hc hd => ?_⟩
      · match i, h with
        | 0, h => simp [pmSlots] at h
        | 1, h => exact ⟨0, .long z, rfl, by simp [pmSlots], rfl⟩
        | i + 2, h =>
          obtain ⟨j, u, e, g, q⟩ := ih.1 i (by simpa [pmSlots] using h)
          exact ⟨j + 2, u, by omega, by simpa [pmSlots] using g, q⟩
      · match i, h with
        | 0, h => simp [pmSlots]
        | 1, h => simp [pmSlots] at h
        | i + 2, h => simpa [pmSlots] using ih.2 i u (by simpa [pmSlots] using h) hc hd
    | int z => exact one _ (Or.inl rfl)
    | float z => exact one _ (Or.inl rfl)
    | double z => exact one _ (Or.inr ⟨_, rfl⟩)
    | null => exact one _ (Or.inl rfl)
    | ref z => exact one _ (Or.inl rfl)
    | retAddr z => exact one _ (Or.inl rfl)
theorem pmEntry_ok (n0 scA ml : Nat) (as : List Value) (hnd : ∀ v ∈ as, ∀ b, v ≠ .double b) : pmLR n0 scA (pmEntry ml as) ((pmEntry ml as).map (cs n0 scA)).toArray ∧ pmWC ((pmEntry ml as).map (cs n0 scA)).toArray := by
  have nd : ∀ (i : Nat) (v : Value), (pmSlots as)[i]? = some (.val v) → ∀ b, v ≠ .double b := by
    intro i v h b e
    subst e
    have : ∀ (as : List Value), (∀ v ∈ as, ∀ b, v ≠ .double b) → Slot.val (.double b) ∉ pmSlots as := by
      intro as
      induction as with
      | nil => intro _ q; simp [pmSlots] at q
      | cons w r ih =>
        intro hn q
        have ih' := ih (fun w hw => hn w (List.mem_cons_of_mem _ hw))
        cases w with
        | double d => exact hn _ (List.mem_cons_self ..) _ rfl
        | _ => simp [pmSlots] at q; exact ih' q
    exact this as hnd (List.mem_of_getElem? h)
  have app : ∀ (i : Nat) (x : Slot), (pmEntry ml as)[i]? = some x → x ≠ .unset → (pmSlots as)[i]? = some x := by
    intro i x h hx
    unfold pmEntry at h
    by_cases q : i < (pmSlots as).length
    · rwa [List.getElem?_append_left q] at h
    · rw [List.getElem?_append_right (Nat.le_of_not_lt q), List.getElem?_replicate] at h
      split at h
      · cases h; exact absurd rfl hx
      · cases h
  have app' : ∀ (i : Nat) (x : Slot), (pmSlots as)[i]? = some x → (pmEntry ml as)[i]? = some x := by
    intro i x h
    unfold pmEntry
    rw [List.getElem?_append_left (List.getElem?_eq_some_iff.mp h).1]; exact h
  refine ⟨⟨by simp, fun i x h _ => by simp [h]⟩, fun i h => ?_, fun i v h hc => ?_⟩
  · have h' : (pmEntry ml as)[i]? = some .second := by
      simp only [List.getElem?_toArray, List.getElem?_map, Option.map_eq_some_iff] at h
      obtain ⟨x, h1, h2⟩ := h
      cases x <;> simp [cs] at h2
      exact h1
    obtain ⟨j, v, e, g, q⟩ := (pmSlots_wc as).1 i (app i _ h' (by simp))
    exact ⟨j, cv n0 scA v, e, by simp [app' j _ g, cs], by rw [cv_cat]; exact q⟩
  · simp only [List.getElem?_toArray, List.getElem?_map, Option.map_eq_some_iff] at h
    obtain ⟨x, h1, h2⟩ := h
    cases x with
    | unset => simp [cs] at h2
    | second => simp [cs] at h2
    | val w =>
      have e : cv n0 scA w = v := by simpa [cs] using h2
      subst e
      rw [cv_cat] at hc
      have g := app i _ h1 (by simp)
      have := (pmSlots_wc as).2 i w g hc (nd i w g)
      simp [app' _ _ this, cs]
end Sound
section Sound
variable {l : Launch} {Z : State} {a0 : Array Value} {n0 scA : Nat}
theorem pmWt_sum (n0 scA : Nat) (S : List Value) : ((S.map (cv n0 scA)).map fun v => v.category).sum = pmWt S := by
  induction S with
  | nil => rfl
  | cons v r ih =>
    rw [List.map_cons, List.map_cons, List.sum_cons, ih]
    cases v <;> rfl
theorem pmPop_spec {n : Nat} : ∀ {as S bs R : List Value}, pmPop n as S = some (bs, R) → bs.reverse ++ R = as.reverse ++ S ∧ bs.length = n + as.length := by
  induction n with
  | zero => intro as S bs R h; cases h; exact ⟨rfl, by simp⟩
  | succ n ih =>
    intro as S bs R h
    cases S with
    | nil => cases h
    | cons v S =>
      obtain ⟨h1, h2⟩ := ih (show pmPop n (v :: as) S = some (bs, R) from h)
      exact ⟨by rw [h1]; simp, by rw [h2]; simp; omega⟩
/-- what a body leaves -/
def pmLeft (Z : State) (n0 scA k : Nat) (a : Nat) (Q : Pst) (v : Option Value) (h : Heap) (L : List Loc) : Prop := ∃ (w : Option Value) (σ' : Mem), v = w.map (cv n0 scA) ∧ Q w σ' ∧ pmRel Z n0 scA σ' h ∧ Fr n0 L ∧ pmROk k a σ'.1
theorem pmMet (hw : ∀ d ∈ tables_1, d.before a0 Z = true) {k : Nat} {as : List Value} {σ : Mem} {Q : Pst} {h0 : Heap} (ws : List Jvm.Cond) (H : WM l Z n0 scA k 0 (pmEntry (t_ml k) as) [] σ Q) (R : pmRel Z n0 scA σ h0) (hpl : plainName (t_nm k).cls = true) (hnd : ∀ v ∈ as, ∀ b, v ≠ .double b)
    (hlen : (pmEntry (t_ml k) as).length = t_ml k) (hc : pmBC k σ.1 = 0) (hs : pmBS k σ.1 = 0) (cc ss : Nat) (hcc : ∀ a, pmROk k σ.1 a → a ≤ t_full → pmBC k a ≤ cc ∧ pmBS k a ≤ ss) :
    MetFree l (t_nm k) (head1 (Jvm.Cond.code (t_nm k) (t_bytes k) (t_ml k) (t_rt k) :: ws) (t_rm k)) (fun a U => a = (as.map (cv n0 scA)).toArray ∧ Z.Warmed39 U.vm ∧ U.heap = h0) (fun _ _ _ _ _ => True)
      (fun _ U o U' => ∃ v L, o = .returned v ∧ pmLeft Z n0 scA k σ.1 Q v U'.heap L ∧ FrameEnd U o U' L cc ss) := by
  refine MetFree.of_bodySF (plainFor_of_name hpl) hisR ?_
  intro p e s m args below meth c s₁ Bd hml0 hP hK
  obtain ⟨rfl, hZ, hh⟩ := hP
  have hx := Bd.exec
  have hby := Bd.bytes
  have hown : s.vm.findClass (t_nm k).cls = some m.cls := findClass_of_methodNamed Bd.named
  have X0 : Stand p l e (t_rm k) s m (as.map (cv n0 scA)).toArray below meth c s₁ [] 0 0 := Stand.of_body Bd
  have e0 : s₁.heap = h0 := by rw [← hh, Bd.state]; rfl
  obtain ⟨eR, eC⟩ := pmEntry_ok n0 scA (t_ml k) as hnd
  have X0' : pmCtx l Z n0 scA k σ p e s m (as.map (cv n0 scA)).toArray below meth c s₁ [] := ⟨by rw [hc, hs]; exact X0, hx, hZ, hby, hml0, hown, Bd.returns, by rw [e0]; exact R, Fr.nil n0, by rw [hc, hh, R.1]; rfl⟩
  obtain ⟨v, σ', T', locs', X', q', r', n', st⟩ := H p e s m _ below meth c s₁ [] _ X0' eR eC hlen
  have ef : entryFrame m (as.map (cv n0 scA)).toArray (t_ml k) = mkF m 0 ((pmEntry (t_ml k) as).map (cs n0 scA)).toArray [] := by
    rw [entryFrame, pmEntry_loc n0 scA _ as hnd]
  obtain ⟨fs, hr, hrun, hended, hW, hsame⟩ := X'.1.leave (v := v.map (cv n0 scA)) (fun h => by rw [Bd.returns] at h; rw [n' h]; rfl)
  obtain ⟨b1, b2⟩ := hcc σ'.1 r' X'.2.2.2.2.2.2.2.1.2.1
  refine ⟨_, _, castTop ef (st fs hr), hrun, hended, _, _, rfl, ⟨v, σ', rfl, q', ?_, X'.2.2.2.2.2.2.2.2.1, r'⟩, ⟨_, rfl⟩, hW, hsame.mono b1 b2⟩
  exact X'.2.2.2.2.2.2.2.1
theorem pmRm {k : Nat} : (t_mode k = 0 → (t_rm k).cells = 0 ∧ (t_rm k).slots = 0) ∧ (t_mode k = 1 → (t_rm k).cells = t_full - 1 ∧ (t_rm k).slots = pmSS t_full - pmSS 1) := f_rm k
/-- a call, whatever links it -/
theorem pmCallS (hw : ∀ d ∈ tables_1, d.before a0 Z = true) {k k' pc : Nat} {Ls : List Slot} {S as R : List Value} {σ : Mem} {Q : Pst} (hpop : pmPop (t_np k') [] S = some (as, R)) (hpl : plainName (t_nm k').cls = true)
    (hcode : (Jvm.Cond.code (t_nm k') (t_bytes k') (t_ml k') (t_rt k')) ∈ tables_1) (hinit : (Jvm.Cond.initialized (t_nm k').cls) ∈ tables_1)
    (h : pmCall (WM l Z n0 scA) k k' as R σ fun v σ' => WM l Z n0 scA k (pc + 3) Ls (pmPush v R) σ' Q)
    (link : ∀ (p : Program) (e : Env) (s : State) (m : MethodId) (args : Array Value) (below : List Frame) (meth : Method) (c : Code) (T : State) (locs : List Loc) (Lc : Array Slot) (Pre : Pt → Array Value → Prop) (Post : Pt → Array Value → Option Value → Pt → Prop),
      pmCtx l Z n0 scA k σ p e s m args below meth c T locs → Lc.size = c.maxLocals → Back l (t_rm k) p e below s args (t_nm k') 3 (pmWt R) Pre Post →
      (∀ vm₁, s.WarmedH vm₁ → Pre ⟨T.setVm vm₁, locs, pmBC k σ.1, pmBS k σ.1⟩ (as.map (cv n0 scA)).toArray) →
      ∃ (v : Option Value) (vm₁ : Vm) (B : Pt), s.WarmedH vm₁ ∧ Stand p l e (t_rm k) s m args below meth c B.U B.locs B.cells B.slots ∧ Post ⟨T.setVm vm₁, locs, pmBC k σ.1, pmBS k σ.1⟩ (as.map (cv n0 scA)).toArray v B ∧
        ∀ target, Steps p.tables e below (B.U.setTop (mkF m (pc + 3) Lc (v.toList ++ R.map (cv n0 scA)))) target → Steps p.tables e below (T.setTop (mkF m pc Lc (S.map (cv n0 scA)))) target) : WM l Z n0 scA k pc Ls S σ Q := by
  unfold pmCall at h
  cases hrf : (pmRoom k k' R σ.1 && pmFit k' as) with
  | false => rw [hrf] at h; exact h.elim
  | true =>
    rw [hrf] at h
    dsimp only at h
    obtain ⟨hr, hfit⟩ := Bool.and_eq_true_iff.mp hrf
    intro p e s m args below meth c T locs Lc hX hR hC hL
    obtain ⟨X, hx, hZ, hby, hml, hown, hret, hRel, hFr, hSz⟩ := id hX
    simp only [pmRoom, Bool.and_eq_true] at hr
    obtain ⟨⟨hf, hl⟩, hm⟩ := hr
    have hf' := Nat.le_of_ble_eq_true hf
    have hl' := Nat.le_of_ble_eq_true hl
    have hnd : ∀ v ∈ as, ∀ b, v ≠ .double b := by
      intro v hv b e
      subst e
      simp only [pmFit, Bool.and_eq_true, List.all_eq_true] at hfit
      exact Bool.noConfusion (hfit.2 _ hv)
    have hlen : (pmEntry (t_ml k') as).length = t_ml k' := by
      simp only [pmFit, Bool.and_eq_true] at hfit
      have := Nat.le_of_ble_eq_true hfit.1
      simp [pmEntry]; omega
    have facts : pmBC k' σ.1 = 0 ∧ pmBS k' σ.1 = 0 ∧ pmBC k σ.1 + (t_rm k').cells ≤ (t_rm k).cells ∧ pmBS k σ.1 + (t_rm k').slots ≤ (t_rm k).slots ∧ (∀ a, pmROk k' σ.1 a → a ≤ t_full → pmBC k' a ≤ (t_rm k').cells ∧ pmBS k' a ≤ (t_rm k').slots) ∧
        (∀ a, pmROk k' σ.1 a → pmBC k a = pmBC k σ.1 + (t_rm k').cells ∧ pmBS k a = pmBS k σ.1 + (t_rm k').slots ∧ (∀ b, pmROk k a b → pmROk k σ.1 b) ∧ (s.heap.size + pmBC k σ.1 = n0 + σ.1 → s.heap.size + pmBC k a = n0 + a)) := by
      rcases f_mode (k := k') with h0 | h0 | ⟨h0, -⟩
      · obtain ⟨c1, c2⟩ := pmRm.1 h0
        rw [h0] at hm
        simp only [Bool.and_eq_true] at hm
        have g1 := Nat.le_of_ble_eq_true hm.1
        have g2 := Nat.le_of_ble_eq_true hm.2
        refine ⟨by simp [pmBC, h0], by simp [pmBS, h0], by omega, by omega, fun a _ _ => ⟨by simp [pmBC, h0], by simp [pmBS, h0]⟩, fun a ha => ?_⟩
        rw [ha.1 h0, c1, c2]
        exact ⟨rfl, rfl, fun _ q => q, fun q => q⟩
      · obtain ⟨c1, c2⟩ := pmRm.2 h0
        rw [h0] at hm
        simp only [Bool.and_eq_true] at hm
        have g1 := Nat.eq_of_beq_eq_true hm.1
        have g2 := Nat.eq_of_beq_eq_true hm.2
        have k0 : k = 0 := by
          rcases f_mode (k := k) with q | q | q
          · omega
          · omega
          · exact q.2
        have q1 : pmBC k 1 = 1 := by simp [pmBC, g1]
        have q2 : pmBS k 1 = pmSS 1 := by simp [pmBS, g1]
        have q3 : 1 ≤ t_full := by rw [f_full]; omega
        refine ⟨by simp [pmBC, h0, g2], by simp [pmBS, h0, g2], ?_, ?_, fun a ha _ => ?_, fun a ha => ?_⟩
        · rw [g2, q1, c1, k0]; exact f_law.1
        · rw [g2, q2, c2, k0]; exact f_law.2
        · rw [ha.2 h0, c1, c2]; exact ⟨by simp [pmBC, h0], by simp [pmBS, h0]⟩
        · have := ha.2 h0
          subst this
          rw [g2, q1, q2, c1, c2]
          refine ⟨by simp only [pmBC, g1]; omega, ?_, fun b hb => ⟨fun z => by omega, fun z => by omega⟩, fun q => by simp only [pmBC, g1]; omega⟩
          have : pmSS 1 ≤ pmSS t_full := f_ss
          simp only [pmBS, g1]; omega
      · rw [h0] at hm; cases hm
    obtain ⟨d1, d2, d3, d4, d5, d6⟩ := facts
    have met := pmMet hw [] h hRel hpl hnd hlen d1 d2 (t_rm k').cells (t_rm k').slots d5
    have bk := backOf (W := pmWt R) (R := t_rm k) (p := p) (e := e) (below := below) (s := s) (args := args) (len := 3) met hZ (hw _ hcode) (hw _ hinit) hf' hl'
    obtain ⟨v, vm₁, ⟨T1, L1, c1, s1⟩, -, X1, ⟨Lc1, hQ, e1, e2, e3⟩, st⟩ := link p e s m args below meth c T locs Lc _ _ hX (by rw [hR.1, hL, hml]) bk (fun vm₁ _ => ⟨rfl, rfl, d3, d4⟩)
    dsimp only [Pt.U, Pt.locs, Pt.cells, Pt.slots] at X1 e1 e2 e3 hQ st
    obtain ⟨w, σ1, rfl, hK, hR1, hF1, hO1⟩ := hQ
    obtain ⟨g1, g2, g3, g4⟩ := d6 σ1.1 hO1
    subst e1 e2 e3
    have hctx : pmCtx l Z n0 scA k σ1 p e s m args below meth c T1 (locs ++ Lc1) := ⟨by rw [g1, g2]; exact X1, hx, hZ, hby, hml, hown, hret, hR1, Fr.app hFr hF1, g4 hSz⟩
    obtain ⟨v2, σ2, T2, locs2, X2, q2, r2, n2, st2⟩ := hK p e s m args below meth c T1 (locs ++ Lc1) Lc hctx hR hC hL
    refine ⟨v2, σ2, T2, locs2, X2, q2, g3 _ r2, n2, fun fs hr => st _ ?_⟩
    have := st2 fs hr
    cases w with
    | none => exact this
    | some w => exact this
theorem pmMono {k pc : Nat} {Ls : List Slot} {S : List Value} {σ : Mem} {Q Q' : Pst} (h : WM l Z n0 scA k pc Ls S σ Q) (hq : ∀ v σ', Q v σ' → Q' v σ') : WM l Z n0 scA k pc Ls S σ Q' := by
  intro p e s m args below meth c T locs Lc hX hR hC hL
  obtain ⟨v, σ2, T2, locs2, X2, q2, r⟩ := h p e s m args below meth c T locs Lc hX hR hC hL
  exact ⟨v, σ2, T2, locs2, X2, hq _ _ q2, r⟩
theorem pmCallMono {k k' : Nat} {as R : List Value} {σ : Mem} {K K' : Pst} (h : pmCall (WM l Z n0 scA) k k' as R σ K) (hk : ∀ v σ', K v σ' → K' v σ') : pmCall (WM l Z n0 scA) k k' as R σ K' := by
  unfold pmCall at h ⊢
  split at h
  · exact pmMono h hk
  · exact h.elim
theorem pmOwnC {k pc : Nat} {i : Instr × Nat × Nat} (h : t_ins k pc = some i) (hc : t_isC k = true) : (t_nm k).cls = t_C := by have := f_own h; rw [hc] at this; exact this
theorem pmFieldW (hw : ∀ d ∈ tables_1, d.before a0 Z = true) {k pc j q : Nat} {i : Instr × Nat × Nat} (hi : t_ins k pc = some i) (h : t_fl k j = some q) : ∃ f : String × String × FieldType, t_flds[q]? = some f ∧ (Jvm.Cond.fieldLink (t_nm k).cls j t_C f.1 f.2.1).before a0 Z = true := by
  unfold t_fl at h
  cases hc : t_isC k with
  | false => rw [hc] at h; cases h
  | true =>
    rw [hc] at h
    obtain ⟨n, d, ty, h1, h2⟩ := f_fls _ (pmLk_mem h)
    rw [pmOwnC hi hc]
    exact ⟨(n, d, ty), h1, hw _ h2⟩
theorem pmCallW {k pc j kd k' : Nat} {i : Instr × Nat × Nat} (hi : t_ins k pc = some i) (h : t_mk k j = some (kd, k')) : pmWords (t_nm k).cls j kd k' := by
  unfold t_mk at h
  have ho := f_own hi
  cases hc : t_isC k with
  | false => rw [hc] at h ho; rw [ho]; exact f_mkL _ (pmLk_mem h)
  | true => rw [hc] at h ho; rw [ho]; exact f_mkC _ (pmLk_mem h)
end Sound
section Sound
variable {l : Launch} {Z : State} {a0 : Array Value} {n0 scA : Nat}
theorem pmLook {Ls : List Slot} {Lc : Array Slot} {n : Nat} {v : Value} (hR : pmLR n0 scA Ls Lc) (h : Ls[n]? = some (.val v)) : Lc[n]? = some (.val (cv n0 scA v)) := hR.2 n _ h (by simp)
theorem pmStpI {k pc pc' n : Nat} {Ls : List Slot} {S : List Value} {σ : Mem} {Q : Pst} {nx : List Slot → List Value → Prop} (h : pmStI Ls n S nx) (hnx : ∀ L' R, nx L' R → WM l Z n0 scA k pc' L' R σ Q)
    (st : ∀ (p : Program) (e : Env) (m : MethodId) (below : List Frame) (c : Code) (T : State) (Lc Lc' : Array Slot) (x : Int32) (R : List Value), p.tables.exec = Jvm.exec → At T m c below → c.code = t_bytes k → storeLocals Lc n (.int x) = some Lc' → ∀ target, Steps p.tables e below (T.setTop (mkF m pc' Lc' R)) target → Steps p.tables e below (T.setTop (mkF m pc Lc (.int x :: R))) target) : WM l Z n0 scA k pc Ls S σ Q := by
  unfold pmStI at h
  split at h
  · rename_i x R
    split at h
    · rename_i L' hL
      rw [fcS_eq] at h
      refine pmPure (hnx _ _ h) (pmStl_len hL) fun p e m below c T Lc hx hat hby hR hC => ?_
      obtain ⟨Lc', e1, R1, C1⟩ := pmStore1 hR hC rfl hL
      exact ⟨Lc', R1, C1, st p e m below c T Lc Lc' x _ hx hat hby e1⟩
    · exact h.elim
  · exact h.elim
theorem pmStpR {k pc pc' n : Nat} {Ls : List Slot} {S : List Value} {σ : Mem} {Q : Pst} {nx : List Slot → List Value → Prop} (h : pmStR Ls n S nx) (hnx : ∀ L' R, nx L' R → WM l Z n0 scA k pc' L' R σ Q)
    (st : ∀ (p : Program) (e : Env) (m : MethodId) (below : List Frame) (c : Code) (T : State) (Lc Lc' : Array Slot) (x : Addr) (R : List Value), p.tables.exec = Jvm.exec → At T m c below → c.code = t_bytes k → storeLocals Lc n (.ref x) = some Lc' → ∀ target, Steps p.tables e below (T.setTop (mkF m pc' Lc' R)) target → Steps p.tables e below (T.setTop (mkF m pc Lc (.ref x :: R))) target) : WM l Z n0 scA k pc Ls S σ Q := by
  unfold pmStR at h
  split at h
  · rename_i x R
    split at h
    · rename_i L' hL
      rw [fcS_eq] at h
      refine pmPure (hnx _ _ h) (pmStl_len hL) fun p e m below c T Lc hx hat hby hR hC => ?_
      obtain ⟨Lc', e1, R1, C1⟩ := pmStore1 hR hC rfl hL
      exact ⟨Lc', R1, C1, st p e m below c T Lc Lc' _ _ hx hat hby e1⟩
    · exact h.elim
  · exact h.elim
theorem pmStpL {k pc pc' n : Nat} {Ls : List Slot} {S : List Value} {σ : Mem} {Q : Pst} {nx : List Slot → List Value → Prop} (h : pmStL Ls n S nx) (hnx : ∀ L' R, nx L' R → WM l Z n0 scA k pc' L' R σ Q)
    (st : ∀ (p : Program) (e : Env) (m : MethodId) (below : List Frame) (c : Code) (T : State) (Lc Lc' : Array Slot) (x : Int64) (R : List Value), p.tables.exec = Jvm.exec → At T m c below → c.code = t_bytes k → storeLocals Lc n (.long x) = some Lc' → ∀ target, Steps p.tables e below (T.setTop (mkF m pc' Lc' R)) target → Steps p.tables e below (T.setTop (mkF m pc Lc (.long x :: R))) target) : WM l Z n0 scA k pc Ls S σ Q := by
  unfold pmStL at h
  split at h
  · rename_i x R
    split at h
    · rename_i L' hL
      rw [fcS_eq] at h
      refine pmPure (hnx _ _ h) (pmStlL_len hL) fun p e m below c T Lc hx hat hby hR hC => ?_
      obtain ⟨Lc', e1, R1, C1⟩ := pmStore2 hR hC hL
      exact ⟨Lc', R1, C1, st p e m below c T Lc Lc' x _ hx hat hby e1⟩
    · exact h.elim
  · exact h.elim
theorem pmLdSt {k pc pc' : Nat} {ty : FieldType} {Ls : List Slot} {S : List Value} {σ : Mem} {Q : Pst} {nx : Int32 → List Value → Prop} (h : pmALd ty S σ nx) (hnx : ∀ x R, nx x R → WM l Z n0 scA k pc' Ls (.int x :: R) σ Q)
    (st : ∀ (p : Program) (e : Env) (s : State) (m : MethodId) (args : Array Value) (below : List Frame) (meth : Method) (c : Code) (T : State) (locs : List Loc) (Lc : Array Slot) (a : Addr) (cell : Cell) (j x : Int32) (R : List Value), pmCtx l Z n0 scA k σ p e s m args below meth c T locs → T.heap[a]? = some cell → s.isArrayOf cell ty → cell.vm ≠ .unknown → ¬ (j < 0 ∨ cell.slots.size ≤ j.toNatClampNeg) → cell.slots[j.toNatClampNeg]? = some (.int x) →
      ∀ target, Steps p.tables e below (T.setTop (mkF m pc' Lc (.int x :: R))) target → Steps p.tables e below (T.setTop (mkF m pc Lc (.int j :: .ref a :: R))) target) : WM l Z n0 scA k pc Ls S σ Q := by
  unfold pmALd at h
  split at h
  · rename_i i r R
    split at h
    · rename_i h1 h2
      obtain ⟨hb, hk⟩ := h
      have hty : pmTy r = ty := of_decide_eq_true h2
      refine pmStep (hnx _ _ hk) rfl (fun _ q => q) fun p e s m args below meth c T locs Lc hX hR hC hL => ⟨T, locs, Lc, hX, hR, hC, ?_⟩
      obtain ⟨cl, A, hs, hv⟩ := pmArr hX.2.2.2.2.2.2.2.1 h1
      rw [hty] at A
      exact st p e s m args below meth c T locs Lc _ cl i _ _ hX A.1 (State.isArrayOf_alike hX.2.2.1.alike A.2.1) A.2.2 (pmInb hs hb) (hv i.toInt.toNat (by omega))
    · exact h.elim
  · exact h.elim
theorem pmStSt {k pc pc' : Nat} {ty : FieldType} {Ls : List Slot} {S : List Value} {σ : Mem} {Q : Pst} {nx : Mem → List Value → Prop} (h : pmASt ty S σ nx) (hnx : ∀ σ' R, nx σ' R → WM l Z n0 scA k pc' Ls R σ' Q)
    (st : ∀ (p : Program) (e : Env) (s : State) (m : MethodId) (args : Array Value) (below : List Frame) (meth : Method) (c : Code) (T : State) (locs : List Loc) (Lc : Array Slot) (a : Addr) (cell : Cell) (j x : Int32) (R : List Value), pmCtx l Z n0 scA k σ p e s m args below meth c T locs → Arr Z T.heap a cell ty → ¬ (j < 0 ∨ cell.slots.size ≤ j.toNatClampNeg) →
      ∃ T' h', Stand p l e (t_rm k) s m args below meth c T' (locs ++ [⟨a, j.toNatClampNeg⟩]) (pmBC k σ.1) (pmBS k σ.1) ∧ T'.heap = h' ∧ Wr T.heap h' a j.toNatClampNeg (.int (nar ty x)) ∧ ∀ target, Steps p.tables e below (T'.setTop (mkF m pc' Lc R)) target → Steps p.tables e below (T.setTop (mkF m pc Lc (.int x :: .int j :: .ref a :: R))) target) : WM l Z n0 scA k pc Ls S σ Q := by
  unfold pmASt at h
  split at h
  · rename_i v i r R
    split at h
    · rename_i h1 h2
      obtain ⟨hb, hk⟩ := h
      obtain ⟨a', n', F', A'⟩ := σ
      dsimp only at hk
      have hty : pmTy (r + 2) = ty := of_decide_eq_true h2
      refine pmStep (hnx _ _ hk) rfl (fun _ q => q) fun p e s m args below meth c T locs Lc hX hR hC hL => ?_
      obtain ⟨X, hx, hZ, hby, hml, hown, hret, hRel, hFr, hSz⟩ := id hX
      obtain ⟨cl, A, hs, hv⟩ := pmArr hRel h1
      rw [hty] at A
      obtain ⟨T', h', X', e', W, s'⟩ := st p e s m args below meth c T locs Lc _ cl i v (R.map (cv n0 scA)) hX A (pmInb hs hb)
      subst e'
      exact ⟨T', _, Lc, ⟨X', hx, hZ, hby, hml, hown, hret, pmRel_set hRel (Nat.le_of_ble_eq_true h1) (by omega) W, Fr.snoc X' hFr (show n0 ≤ n0 + (r + 1) by omega), hSz⟩, hR, hC, s'⟩
    · exact h.elim
  · exact h.elim
theorem pmPut_spec {ty : FieldType} {v v' : Value} (h : pmPut ty v = some v') : narrow ty (cv n0 scA v) = cv n0 scA v' ∧ fits ty (cv n0 scA v') = true := by
  unfold pmPut at h
  split at h
  · cases h; exact ⟨rfl, rfl⟩
  · cases h; rename_i x; exact ⟨rfl, fits_nar_bool x⟩
  · cases h; exact ⟨rfl, rfl⟩
  · cases h
set_option maxHeartbeats 4000000 in
theorem pmSound (hw : ∀ d ∈ tables_1, d.before a0 Z = true) {k pc np tg : Nat} {Ls : List Slot} {S : List Value} {σ : Mem} {Q : Pst} {nx : Nat → List Slot → List Value → Mem → Prop} {i : Instr} (hi : t_ins k pc = some (i, np, tg)) (hnx : ∀ pc Ls S σ, nx pc Ls S σ → WM l Z n0 scA k pc Ls S σ Q)
    (h : stp (WM l Z n0 scA) k np tg Ls S σ Q nx i) : WM l Z n0 scA k pc Ls S σ Q := by
  obtain ⟨hd, hok⟩ := f_ins hi
  have hnp : np = pc + pmIL i ∧ (∀ c, i = .bipush c → (Int8.ofInt c).toInt32 = Int32.ofInt c) ∧ (∀ c, i = .sipush c → (Int16.ofInt c).toInt32 = Int32.ofInt c) ∧ (∀ o, (i = .goto o ∨ (∃ cd, i = .ifCond cd o) ∨ ∃ cd, i = .if_icmp cd o) → 0 ≤ (pc : Int) + o ∧ tg = pmTgt pc o) := by
    cases i
    case bipush c => simp only [pmOkI, Bool.and_eq_true, decide_eq_true_eq] at hok; exact ⟨hok.2, fun _ e => (by cases e; exact hok.1), fun _ e => (by cases e), fun _ e => (by rcases e with e | ⟨_, e⟩ | ⟨_, e⟩ <;> cases e)⟩
    case sipush c => simp only [pmOkI, Bool.and_eq_true, decide_eq_true_eq] at hok; exact ⟨hok.2, fun _ e => (by cases e), fun _ e => (by cases e; exact hok.1), fun _ e => (by rcases e with e | ⟨_, e⟩ | ⟨_, e⟩ <;> cases e)⟩
    case goto o => simp only [pmOkI, Bool.and_eq_true, decide_eq_true_eq] at hok; exact ⟨hok.2, fun _ e => (by cases e), fun _ e => (by cases e), fun _ e => (by rcases e with e | ⟨_, e⟩ | ⟨_, e⟩ <;> cases e; exact hok.1)⟩
    case ifCond cd o => simp only [pmOkI, Bool.and_eq_true, decide_eq_true_eq] at hok; exact ⟨hok.2, fun _ e => (by cases e), fun _ e => (by cases e), fun _ e => (by rcases e with e | ⟨_, e⟩ | ⟨_, e⟩ <;> cases e; exact hok.1)⟩
    case if_icmp cd o => simp only [pmOkI, Bool.and_eq_true, decide_eq_true_eq] at hok; exact ⟨hok.2, fun _ e => (by cases e), fun _ e => (by cases e), fun _ e => (by rcases e with e | ⟨_, e⟩ | ⟨_, e⟩ <;> cases e; exact hok.1)⟩
    all_goals exact ⟨of_decide_eq_true hok, fun _ e => (by cases e), fun _ e => (by cases e), fun _ e => (by rcases e with e | ⟨_, e⟩ | ⟨_, e⟩ <;> cases e)⟩
  obtain ⟨rfl, ok1, ok2, ok3⟩ := hnp
  cases i
  case iconst c => exact pmPure0 (hnx _ _ _ _ h) fun p e m below c T Lc hx hat hby _ target kt => XS.iconst hat hx rfl (hb hby hd) kt
  case bipush c =>
    have e1 : (Int8.ofInt c).toInt32 = Int32.ofInt c := ok1 _ rfl
    exact pmPure0 (hnx _ _ _ _ h) fun p e m below c T Lc hx hat hby _ target kt => XS.bipush hat hx rfl (hb hby hd) (by rw [e1]; exact kt)
  case sipush c =>
    have e1 : (Int16.ofInt c).toInt32 = Int32.ofInt c := ok2 _ rfl
    exact pmPure0 (hnx _ _ _ _ h) fun p e m below c T Lc hx hat hby _ target kt => XS.sipush hat hx rfl (hb hby hd) (by rw [e1]; exact kt)
  case lconst c => exact pmPure0 (hnx _ _ _ _ h) fun p e m below c T Lc hx hat hby _ target kt => Jvm.Free.XT.lconst hat hx rfl (hb hby hd) kt
  case ldc j =>
    simp only [stp, pmILdc] at h
    split at h
    · rename_i v hv
      refine pmStep (hnx _ _ _ _ h) rfl (fun _ q => q) fun p e s m args below meth c T locs Lc hX hR hC hL => ⟨T, locs, Lc, hX, hR, hC, fun target kt => ?_⟩
      have hwd : (Jvm.Cond.constant (t_nm k).cls j v).before a0 Z = true := by
        unfold t_ldc at hv
        have ho := f_own hi
        cases hc : t_isC k with
        | true => rw [hc] at hv; cases hv
        | false => rw [hc] at hv ho; rw [ho]; exact hw _ (f_ldcs _ (pmLk_mem hv))
      exact hX.1.ldcInt hX.2.1 hX.2.2.2.2.2.1 (mvT hX.2.2.1 hwd) (g := mkF m pc Lc (S.map (cv n0 scA))) rfl (hb hX.2.2.2.1 hd) _ kt
    · exact h.elim
  case ldc2_w j =>
    simp only [stp, pmILdc2] at h
    split at h
    · rename_i v hv
      refine pmStep (hnx _ _ _ _ h) rfl (fun _ q => q) fun p e s m args below meth c T locs Lc hX hR hC hL => ⟨T, locs, Lc, hX, hR, hC, fun target kt => ?_⟩
      have hwd : (Jvm.Cond.constantLong (t_nm k).cls j v).before a0 Z = true := by
        unfold t_ldc2 at hv
        have ho := f_own hi
        cases hc : t_isC k with
        | true => rw [hc] at hv; cases hv
        | false => rw [hc] at hv ho; rw [ho]; exact hw _ (f_ldc2s _ (pmLk_mem hv))
      exact hX.1.ldc2Long hX.2.1 hX.2.2.2.2.2.1 (mvT hX.2.2.1 hwd) (g := mkF m pc Lc (S.map (cv n0 scA))) rfl (hb hX.2.2.2.1 hd) _ kt
    · exact h.elim
  case iload n =>
    simp only [stp, pmLdI] at h
    split at h
    · rename_i x hx0
      exact pmPure0 (hnx _ _ _ _ h) fun p e m below c T Lc hx hat hby hR target kt => XS.iload hat hx rfl (hb hby hd) (pmLook hR hx0) kt
    · exact h.elim
  case iload_n n =>
    simp only [stp, pmLdI] at h
    split at h
    · rename_i x hx0
      exact pmPure0 (hnx _ _ _ _ h) fun p e m below c T Lc hx hat hby hR target kt => XS.iloadN hat hx rfl (hb hby hd) (pmLook hR hx0) kt
    · exact h.elim
  case lload n =>
    simp only [stp, pmLdL] at h
    split at h
    · rename_i x hx0
      exact pmPure0 (hnx _ _ _ _ h) fun p e m below c T Lc hx hat hby hR target kt => Jvm.Free.XT.lload hat hx rfl (hb hby hd) (pmLook hR hx0) kt
    · exact h.elim
  case lload_n n =>
    simp only [stp, pmLdL] at h
    split at h
    · rename_i x hx0
      exact pmPure0 (hnx _ _ _ _ h) fun p e m below c T Lc hx hat hby hR target kt => Jvm.Free.XT.lloadN hat hx rfl (hb hby hd) (pmLook hR hx0) kt
    · exact h.elim
  case aload n =>
    simp only [stp, pmLdR] at h
    split at h
    · rename_i x hx0
      exact pmPure0 (hnx _ _ _ _ h) fun p e m below c T Lc hx hat hby hR target kt => XS.aload hat hx rfl (hb hby hd) (pmLook hR hx0) rfl kt
    · exact h.elim
  case aload_n n =>
    simp only [stp, pmLdR] at h
    split at h
    · rename_i x hx0
      exact pmPure0 (hnx _ _ _ _ h) fun p e m below c T Lc hx hat hby hR target kt => XS.aloadN hat hx rfl (hb hby hd) (pmLook hR hx0) rfl kt
    · exact h.elim
  case istore n => exact pmStpI h (fun _ _ q => hnx _ _ _ _ q) fun p e m below c T Lc Lc' x R hx hat hby e1 target kt => XS.istore hat hx rfl (hb hby hd) rfl e1 kt
  case istore_n n => exact pmStpI h (fun _ _ q => hnx _ _ _ _ q) fun p e m below c T Lc Lc' x R hx hat hby e1 target kt => XS.istoreN hat hx rfl (hb hby hd) rfl e1 kt
  case lstore n => exact pmStpL h (fun _ _ q => hnx _ _ _ _ q) fun p e m below c T Lc Lc' x R hx hat hby e1 target kt => Jvm.Free.XT.lstore hat hx rfl (hb hby hd) rfl e1 kt
  case lstore_n n => exact pmStpL h (fun _ _ q => hnx _ _ _ _ q) fun p e m below c T Lc Lc' x R hx hat hby e1 target kt => Jvm.Free.XT.lstoreN hat hx rfl (hb hby hd) rfl e1 kt
  case astore n => exact pmStpR h (fun _ _ q => hnx _ _ _ _ q) fun p e m below c T Lc Lc' x R hx hat hby e1 target kt => XS.astore hat hx rfl (hb hby hd) rfl rfl e1 kt
  case astore_n n => exact pmStpR h (fun _ _ q => hnx _ _ _ _ q) fun p e m below c T Lc Lc' x R hx hat hby e1 target kt => XS.astoreN hat hx rfl (hb hby hd) rfl rfl e1 kt
  case iinc n c =>
    simp only [stp, pmLdI] at h
    split at h
    · rename_i x hx0
      have hS : pmStl Ls n (.int (x + Int32.ofInt c)) = some (Ls.set n (.val (.int (x + Int32.ofInt c)))) := by simp only [pmStl, hx0]
      rw [fcS_eq] at h
      refine pmPure (hnx _ _ _ _ h) (by simp) fun p e m below c T Lc hx hat hby hR hC => ?_
      obtain ⟨Lc', e1, R1, C1⟩ := pmStore1 hR hC rfl hS
      exact ⟨Lc', R1, C1, fun target kt => XS.iinc hat hx rfl (hb hby hd) (pmLook hR hx0) e1 kt⟩
    · exact h.elim
  case iadd =>
    simp only [stp, pmInt2] at h
    split at h
    · exact pmPure0 (hnx _ _ _ _ h) fun p e m below c T Lc hx hat hby hR target kt => XS.iadd hat hx rfl (hb hby hd) rfl kt
    · exact h.elim
  case isub =>
    simp only [stp, pmInt2] at h
    split at h
    · exact pmPure0 (hnx _ _ _ _ h) fun p e m below c T Lc hx hat hby hR target kt => XS.isub hat hx rfl (hb hby hd) rfl kt
    · exact h.elim
  case imul =>
    simp only [stp, pmInt2] at h
    split at h
    · exact pmPure0 (hnx _ _ _ _ h) fun p e m below c T Lc hx hat hby hR target kt => XS.imul hat hx rfl (hb hby hd) rfl kt
    · exact h.elim
  case idiv =>
    simp only [stp, pmInt2] at h
    split at h
    · exact pmPure0 (hnx _ _ _ _ h.2) fun p e m below c T Lc hx hat hby hR target kt => XS.idiv hat hx rfl (hb hby hd) rfl h.1 kt
    · exact h.elim
  case irem =>
    simp only [stp, pmInt2] at h
    split at h
    · refine pmStep (hnx _ _ _ _ h.2) rfl (fun _ q => q) fun p e s m args below meth c T locs Lc hX hR hC hL => ⟨T, locs, Lc, hX, hR, hC, fun target kt => ?_⟩
      exact iremM hX.1 hX.2.1 rfl (hb hX.2.2.2.1 hd) rfl h.1 kt
    · exact h.elim
  case iand =>
    simp only [stp, pmInt2] at h
    split at h
    · exact pmPure0 (hnx _ _ _ _ h) fun p e m below c T Lc hx hat hby hR target kt => XS.iand hat hx rfl (hb hby hd) rfl kt
    · exact h.elim
  case ior =>
    simp only [stp, pmInt2] at h
    split at h
    · exact pmPure0 (hnx _ _ _ _ h) fun p e m below c T Lc hx hat hby hR target kt => Jvm.Free.XT.ior hat hx rfl (hb hby hd) rfl kt
    · exact h.elim
  case ixor =>
    simp only [stp, pmInt2] at h
    split at h
    · exact pmPure0 (hnx _ _ _ _ h) fun p e m below c T Lc hx hat hby hR target kt => Jvm.Free.XT.ixor hat hx rfl (hb hby hd) rfl kt
    · exact h.elim
  case ishl =>
    simp only [stp, pmInt2] at h
    split at h
    · exact pmPure0 (hnx _ _ _ _ h) fun p e m below c T Lc hx hat hby hR target kt => Jvm.Free.XT.ishl hat hx rfl (hb hby hd) rfl kt
    · exact h.elim
  case ishr =>
    simp only [stp, pmInt2] at h
    split at h
    · exact pmPure0 (hnx _ _ _ _ h) fun p e m below c T Lc hx hat hby hR target kt => Jvm.Free.XT.ishr hat hx rfl (hb hby hd) rfl kt
    · exact h.elim
  case iushr =>
    simp only [stp, pmInt2] at h
    split at h
    · exact pmPure0 (hnx _ _ _ _ h) fun p e m below c T Lc hx hat hby hR target kt => Jvm.Free.XT.iushr hat hx rfl (hb hby hd) rfl kt
    · exact h.elim
  case land =>
    simp only [stp, pmLng2] at h
    split at h
    · exact pmPure0 (hnx _ _ _ _ h) fun p e m below c T Lc hx hat hby hR target kt => Jvm.Free.XT.land hat hx rfl (hb hby hd) rfl kt
    · exact h.elim
  case lor =>
    simp only [stp, pmLng2] at h
    split at h
    · exact pmPure0 (hnx _ _ _ _ h) fun p e m below c T Lc hx hat hby hR target kt => Jvm.Free.XT.lor hat hx rfl (hb hby hd) rfl kt
    · exact h.elim
  case lxor =>
    simp only [stp, pmLng2] at h
    split at h
    · exact pmPure0 (hnx _ _ _ _ h) fun p e m below c T Lc hx hat hby hR target kt => Jvm.Free.XT.lxor hat hx rfl (hb hby hd) rfl kt
    · exact h.elim
  case lcmp =>
    simp only [stp, pmLng2] at h
    split at h
    · exact pmPure0 (hnx _ _ _ _ h) fun p e m below c T Lc hx hat hby hR target kt => Jvm.Free.XT.lcmp hat hx rfl (hb hby hd) rfl kt
    · exact h.elim
  case lshl =>
    simp only [stp, pmLI] at h
    split at h
    · exact pmPure0 (hnx _ _ _ _ h) fun p e m below c T Lc hx hat hby hR target kt => Jvm.Free.XT.lshl hat hx rfl (hb hby hd) rfl kt
    · exact h.elim
  case lushr =>
    simp only [stp, pmLI] at h
    split at h
    · exact pmPure0 (hnx _ _ _ _ h) fun p e m below c T Lc hx hat hby hR target kt => Jvm.Free.XT.lushr hat hx rfl (hb hby hd) rfl kt
    · exact h.elim
  case i2b =>
    simp only [stp, pmInt] at h
    split at h
    · exact pmPure0 (hnx _ _ _ _ h) fun p e m below c T Lc hx hat hby hR target kt => Jvm.Free.XT.i2b hat hx rfl (hb hby hd) rfl kt
    · exact h.elim
  case i2l =>
    simp only [stp, pmInt] at h
    split at h
    · exact pmPure0 (hnx _ _ _ _ h) fun p e m below c T Lc hx hat hby hR target kt => Jvm.Free.XT.i2l hat hx rfl (hb hby hd) rfl kt
    · exact h.elim
  case l2i =>
    simp only [stp, pmIL2i] at h
    split at h
    · exact pmPure0 (hnx _ _ _ _ h) fun p e m below c T Lc hx hat hby hR target kt => Jvm.Free.XT.l2i hat hx rfl (hb hby hd) rfl kt
    · exact h.elim
  case pop =>
    simp only [stp, pmIPop] at h
    split at h
    · exact pmPure0 (hnx _ _ _ _ h) fun p e m below c T Lc hx hat hby hR target kt => Jvm.Free.XT.pop hat hx rfl (hb hby hd) rfl rfl kt
    · exact pmPure0 (hnx _ _ _ _ h) fun p e m below c T Lc hx hat hby hR target kt => Jvm.Free.XT.pop hat hx rfl (hb hby hd) rfl rfl kt
    · exact h.elim
  case dup =>
    simp only [stp, pmIDup] at h
    split at h
    · exact pmPure0 (hnx _ _ _ _ h) fun p e m below c T Lc hx hat hby hR target kt => XS.dup hat hx rfl (hb hby hd) rfl rfl kt
    · exact pmPure0 (hnx _ _ _ _ h) fun p e m below c T Lc hx hat hby hR target kt => XS.dup hat hx rfl (hb hby hd) rfl rfl kt
    · exact h.elim
  case goto o =>
    obtain ⟨e1, rfl⟩ := ok3 o (Or.inl rfl)
    exact pmPure0 (hnx _ _ _ _ h) fun p e m below c T Lc hx hat hby hR target kt => XS.goto hat hx rfl (pc0 := pc) (pc' := pmTgt pc o) rfl (hb hby hd) e1 rfl kt
  case ifCond cd o =>
    obtain ⟨e1, rfl⟩ := ok3 o (Or.inr (Or.inl ⟨_, rfl⟩))
    simp only [stp, pmInt] at h
    split at h
    · refine pmBranch h (fun q => hnx _ _ _ _ q) (fun q => hnx _ _ _ _ q) ?_ ?_
      · intro p e m below c T Lc hx hat hby hc target kt
        exact XS.ifYes hat hx rfl (pc0 := pc) (pc' := pmTgt pc o) rfl (hb hby hd) rfl ((if0 _ _).trans hc) e1 rfl kt
      · intro p e m below c T Lc hx hat hby hc target kt
        exact XS.ifNo hat hx rfl (hb hby hd) rfl ((if0 _ _).trans hc) kt
    · exact h.elim
  case if_icmp cd o =>
    obtain ⟨e1, rfl⟩ := ok3 o (Or.inr (Or.inr ⟨_, rfl⟩))
    simp only [stp, pmInt2] at h
    split at h
    · refine pmBranch h (fun q => hnx _ _ _ _ q) (fun q => hnx _ _ _ _ q) ?_ ?_
      · intro p e m below c T Lc hx hat hby hc target kt
        exact XS.icmpYes hat hx rfl (pc0 := pc) (pc' := pmTgt pc o) rfl (hb hby hd) rfl hc e1 rfl kt
      · intro p e m below c T Lc hx hat hby hc target kt
        exact XS.icmpNo hat hx rfl (hb hby hd) rfl hc kt
    · exact h.elim
  case arraylength =>
    simp only [stp, pmILen] at h
    split at h
    · rename_i r R
      split at h
      · rename_i ht
        refine pmStep (hnx _ _ _ _ h) rfl (fun _ q => q) fun p e s m args below meth c T locs Lc hX hR hC hL => ⟨T, locs, Lc, hX, hR, hC, fun target kt => ?_⟩
        obtain ⟨cl, A, hs, hv⟩ := pmArr hX.2.2.2.2.2.2.2.1 ht
        refine hX.1.arraylength hX.2.1 A.1 (State.isArrayOf_alike hX.2.2.1.alike A.2.1) (g := mkF m pc Lc _) rfl rfl (hb hX.2.2.2.1 hd) _ ?_
        rw [hs]; exact kt
      · exact h.elim
    · exact h.elim
  case iaload =>
    refine pmLdSt (nx := fun x R => nx (pc + 1) Ls (.int x :: R) σ) h (fun _ _ q => hnx _ _ _ _ q) ?_
    intro p e s m args below meth c T locs Lc a cell j x R hX hc ha hk hj hv target kt
    exact hX.1.iaload hX.2.1 hc ha hk hj hv (g := mkF m pc Lc _) rfl rfl (hb hX.2.2.2.1 hd) _ kt
  case baload =>
    simp only [stp, pmIBal] at h
    split at h
    · refine pmLdSt (nx := fun x R => nx (pc + 1) Ls (.int x :: R) σ) h (fun _ _ q => hnx _ _ _ _ q) ?_
      intro p e s m args below meth c T locs Lc a cell j x R hX hc ha hk hj hv target kt
      exact hX.1.baloadBytes hX.2.1 hc ha hk hj hv (g := mkF m pc Lc _) rfl rfl (hb hX.2.2.2.1 hd) _ kt
    · refine pmLdSt (nx := fun x R => nx (pc + 1) Ls (.int x :: R) σ) h (fun _ _ q => hnx _ _ _ _ q) ?_
      intro p e s m args below meth c T locs Lc a cell j x R hX hc ha hk hj hv target kt
      exact hX.1.baloadBooleans hX.2.1 hc ha hk hj hv (g := mkF m pc Lc _) rfl rfl (hb hX.2.2.2.1 hd) _ kt
    · exact h.elim
  case iastore =>
    refine pmStSt (nx := fun σ' R => nx (pc + 1) Ls R σ') h (fun _ _ q => hnx _ _ _ _ q) ?_
    intro p e s m args below meth c T locs Lc a cell j x R hX A hj
    exact Jvm.RoadKit.stI hX.1 hX.2.1 hX.2.2.1 rfl A hj (g := mkF m pc Lc _) rfl rfl (hb hX.2.2.2.1 hd)
  case bastore =>
    simp only [stp, pmIBas] at h
    split at h
    · refine pmStSt (nx := fun σ' R => nx (pc + 1) Ls R σ') h (fun _ _ q => hnx _ _ _ _ q) ?_
      intro p e s m args below meth c T locs Lc a cell j x R hX A hj
      exact stB hX.1 hX.2.1 hX.2.2.1 rfl A hj (g := mkF m pc Lc _) rfl rfl (hb hX.2.2.2.1 hd)
    · refine pmStSt (nx := fun σ' R => nx (pc + 1) Ls R σ') h (fun _ _ q => hnx _ _ _ _ q) ?_
      intro p e s m args below meth c T locs Lc a cell j x R hX A hj
      exact stZ hX.1 hX.2.1 hX.2.2.1 rfl A hj (g := mkF m pc Lc _) rfl rfl (hb hX.2.2.2.1 hd)
    · exact h.elim
  case getfield j =>
    simp only [stp, pmIGet] at h
    split at h
    · rename_i R q hq h1
      split at h
      · rename_i v hv
        refine pmStep (hnx _ _ _ _ h) rfl (fun _ q => q) fun p e s m args below meth c T locs Lc hX hR hC hL => ?_
        obtain ⟨X, hx, hZ, hby, hml, hown, hret, hRel, hFr, hSz⟩ := id hX
        obtain ⟨f, hf, wf⟩ := pmFieldW hw hi hq
        have Fq := (hRel.2.2.2.1 (Nat.le_of_ble_eq_true h1)).2.2 q f v hf hv
        obtain ⟨T', X', e', s'⟩ := getF X hx hZ hown (host := "") (Or.inl wf) Via.refl rfl Fq (g := mkF m pc Lc (.ref n0 :: R.map (cv n0 scA))) rfl rfl (hb hby hd)
        exact ⟨T', locs, Lc, ⟨X', hx, hZ, hby, hml, hown, hret, by rw [e']; exact hRel, hFr, hSz⟩, hR, hC, s'⟩
      · exact h.elim
    · exact h.elim
  case putfield j =>
    simp only [stp, pmIPut] at h
    split at h
    · rename_i v R q hq h1
      split at h
      · rename_i f hf
        split at h
        · rename_i v' hv'
          obtain ⟨a, n, F, A⟩ := σ
          dsimp only at h
          rw [fcV_eq] at h
          refine pmStep (hnx _ _ _ _ h) rfl (fun _ q => q) fun p e s m args below meth c T locs Lc hX hR hC hL => ?_
          obtain ⟨X, hx, hZ, hby, hml, hown, hret, hRel, hFr, hSz⟩ := id hX
          obtain ⟨f', hf', wf⟩ := pmFieldW hw hi hq
          cases hf.symm.trans hf'
          have h1' := Nat.le_of_ble_eq_true h1
          obtain ⟨E, hl0, F0⟩ := hRel.2.2.2.1 h1'
          have hql : q < F.length := by have hl1 : F.length = t_flds.length := hl0; rw [hl1]; exact (List.getElem?_eq_some_iff.mp hf).1
          have Fq := F0 q f _ hf (List.getElem?_eq_getElem hql)
          have hnar := pmPut_spec (n0 := n0) (scA := scA) hv'
          obtain ⟨T', h', X', e', W, s'⟩ := putFN X hx hZ hown wf Via.refl rfl Fq E (Or.inl (pmLaid hw hf).1) (hw _ f_inst) (ty := f.2.2) (v' := cv n0 scA v') (pmLaid hw hf).2 hnar.1 hnar.2 (g := mkF m pc Lc (cv n0 scA v :: .ref n0 :: R.map (cv n0 scA))) rfl rfl (hb hby hd)
          subst e'
          exact ⟨T', _, Lc, ⟨X', hx, hZ, hby, hml, hown, hret, pmRel_put hw hRel h1' hf W, Fr.snoc X' hFr (Nat.le_refl _), hSz⟩, hR, hC, s'⟩
        · exact h.elim
      · exact h.elim
    · exact h.elim
  case new j =>
    simp only [stp, pmINew] at h
    split at h
    · rename_i n F A hn hm
      obtain ⟨⟨b1, b2⟩, h⟩ := h
      rw [fcV_eq] at h
      refine pmStep (hnx _ _ _ _ h) rfl (fun a q => ⟨fun z => by omega, fun z => by omega⟩) fun p e s m args below meth c T locs Lc hX hR hC hL => ?_
      obtain ⟨X, hx, hZ, hby, hml, hown, hret, hRel, hFr, hSz⟩ := id hX
      have z1 : pmBC k 0 = 0 := by simp [pmBC, hm]
      have z2 : pmBS k 0 = 0 := by simp [pmBS, hm, pmSS]
      have z3 : pmBC k 1 = 0 + 1 := by simp [pmBC, hm]
      have z4 : pmBS k 1 = 0 + t_ns := by simp [pmBS, hm, pmSS]
      have X0 : Stand p l e (t_rm k) s m args below meth c T locs 0 0 := by have := X; simp only [z1, z2] at this; exact this
      obtain ⟨T', h', X', e', E, A1, D, -, s'⟩ := newO X0 hx hZ hown (hw _ (f_new hn)) (hw _ f_inst) (hw _ f_init) rfl (g := mkF m pc Lc (S.map (cv n0 scA))) rfl (hb hby hd) (by omega) (by omega)
      have hsz : h'.size = T.heap.size + 1 := by
        have q1 : T.heap.size < h'.size := A1.lt
        have q2 := X'.heapSize
        rw [e'] at q2
        have q3 : T.heap.size = n0 + 0 := hRel.1
        have q4 : s.heap.size + pmBC k 0 = n0 + 0 := hSz
        rw [z1] at q4
        omega
      subst e'
      have r1' : T.heap.size = n0 := hRel.1
      refine ⟨T', locs, Lc, ⟨by simp only [z3, z4]; exact X', hx, hZ, hby, hml, hown, hret, pmRel_new hw hRel E hsz A1 D, hFr, by have q4 : s.heap.size + pmBC k 0 = n0 + 0 := hSz; rw [z1] at q4; simp only [z3]; omega⟩, hR, hC, ?_⟩
      intro target kt
      refine s' target ?_
      rw [r1']
      exact kt
    · exact h.elim
  case newarray aty =>
    simp only [stp, pmINewA] at h
    split at h
    · rename_i n R a n' F A
      split at h
      · rename_i q hq
        obtain ⟨⟨b1, b2, b3, b4, b5, b6⟩, h⟩ := h
        have md : t_mode k = 1 ∨ t_mode k = 2 := by
          rcases f_mode (k := k) with z | z | z
          · exact absurd z b4
          · exact Or.inl z
          · exact Or.inr z.1
        have hss : pmSS (a + 2) = pmSS (a + 1) + q.2 := by
          have hl := (List.getElem?_eq_some_iff.mp hq)
          show t_ns + ((t_arrs.take (a + 1)).map (·.2)).sum = t_ns + ((t_arrs.take a).map (·.2)).sum + q.2
          rw [List.take_succ_eq_append_getElem hl.1, hl.2]
          simp; omega
        have hs1 : pmSS 1 ≤ pmSS (a + 1) := by
          show t_ns + ((t_arrs.take 0).map (·.2)).sum ≤ t_ns + ((t_arrs.take a).map (·.2)).sum
          simp
        have z3 : pmBC k (a + 2) = pmBC k (a + 1) + 1 := by
          rcases md with z | z
          · simp only [pmBC, z]; omega
          · simp only [pmBC, z]
        have z4 : pmBS k (a + 2) = pmBS k (a + 1) + q.2 := by
          rcases md with z | z
          · simp only [pmBS, z]; omega
          · simp only [pmBS, z]; exact hss
        have hro : ∀ b, pmROk k (a + 2) b → pmROk k (a + 1) b := fun b hb => ⟨fun z => absurd z b4, hb.2⟩
        refine pmStep (hnx _ _ _ _ h) rfl hro fun p e s m args below meth c T locs Lc hX hR hC hL => ?_
        obtain ⟨X, hx, hZ, hby, hml, hown, hret, hRel, hFr, hSz⟩ := id hX
        have hq' := f_arrs q (List.mem_of_getElem? hq)
        have ntoi : n.toInt = (q.2 : Int) := by rw [b1]; exact Int32.toInt_ofNat_of_lt (by omega)
        have hn0 : ¬ n < 0 := by
          rw [Int32.lt_iff_toInt_lt, ntoi]
          have e0 : (0 : Int32).toInt = 0 := rfl
          rw [e0]; omega
        have hcl : n.toNatClampNeg = q.2 := by rw [clampNeg, ntoi]; simp
        obtain ⟨T', h', cA, X', e', E, A1, s'⟩ := newP X hx hZ (aty := aty) (by rw [b2]; exact hw _ hq'.1) rfl (g := mkF m pc Lc (.int n :: R.map (cv n0 scA))) rfl (hb hby hd) rfl hn0 (cap := q.2) (Nat.le_of_eq hcl) (by omega) b5 b6
        have hsz : h'.size = T.heap.size + 1 := by
          have q1 : T.heap.size < h'.size := A1.lt
          have q2 := X'.heapSize
          rw [e'] at q2
          have q3 : T.heap.size = n0 + (a + 1) := hRel.1
          have q4 : s.heap.size + pmBC k (a + 1) = n0 + (a + 1) := hSz
          have q5 : pmBC k ((a + 1, n', F, A) : Mem).1 = pmBC k (a + 1) := rfl
          rw [q5] at q2
          omega
        subst e'
        rw [b2] at A1
        have r1' : T.heap.size = n0 + (a + 1) := hRel.1
        have hdv : defaultValue q.1 = .int 0 := by
          rcases hq'.2.1 with z | z | z <;> rw [z] <;> rfl
        refine ⟨T', locs, Lc, ⟨by show Stand p l e (t_rm k) s m args below meth c T' locs (pmBC k (a + 2)) (pmBS k (a + 2)); rw [z3, z4]; exact X', hx, hZ, hby, hml, hown, hret, pmRel_arr hRel E hsz hq b1 b3 hdv A1, hFr, ?_⟩, hR, hC, ?_⟩
        · have q4 : s.heap.size + pmBC k (a + 1) = n0 + (a + 1) := hSz
          show s.heap.size + pmBC k (a + 2) = n0 + (a + 2)
          rw [z3]; omega
        · intro target kt
          refine s' target ?_
          rw [r1']
          exact kt
      · exact h.elim
    · exact h.elim
  case invokestatic j =>
    simp only [stp, pmISta] at h
    split at h
    · rename_i k' hmk
      split at h
      · rename_i as R hpop
        have W := pmCallW hi hmk
        obtain ⟨wl, wc, wi, hpl, hne, ⟨ps, r, hp, hn⟩, ws⟩ := W
        obtain ⟨p1, p2⟩ := pmPop_spec hpop
        have hS : S = as.reverse ++ R := by simpa using p1.symm
        refine pmCallS hw hpop hpl wc wi (pmCallMono h fun v σ' q => hnx _ _ _ _ q) ?_
        intro p e s m args below meth c T locs Lc Pre Post hX hsz bk hpre
        obtain ⟨X, hx, hZ, hby, hml, hown, hret, hRel, hFr, hSz⟩ := id hX
        exact Jvm.LawKit.callS X hx (y := t_nm k') hown (mvT hZ (hw _ wl)) (mvT hZ (hw _ ws)) (mvT hZ (hw _ wi)) (mvT hZ (hw _ wc)) hne bk (g := mkF m pc Lc (S.map (cv n0 scA))) rfl hsz (argsL := as.map (cv n0 scA)) (rest := R.map (cv n0 scA)) (lenOf hp (by simp at p2 hn ⊢; omega)) (by rw [hS]; simp) (by show 2 * 0 + _ ≤ _; rw [pmWt_sum]; omega) (hb hby hd) hpre
      · exact h.elim
    · exact h.elim
  case invokevirtual j =>
    simp only [stp, pmIVir] at h
    split at h
    · rename_i k' hmk h1
      split at h
      · rename_i as R hpop
        have W := pmCallW hi hmk
        obtain ⟨wl, wc, wi, hpl, hne, ⟨ps, r, hp, hn⟩, wd, wsel, winst⟩ := W
        obtain ⟨p1, p2⟩ := pmPop_spec hpop
        have hS : S = (.ref 1 :: as).reverse ++ R := by simpa using p1.symm
        refine pmCallS hw hpop hpl wc wi (pmCallMono h fun v σ' q => hnx _ _ _ _ q) ?_
        intro p e s m args below meth c T locs Lc Pre Post hX hsz bk hpre
        obtain ⟨X, hx, hZ, hby, hml, hown, hret, hRel, hFr, hSz⟩ := id hX
        obtain ⟨E, -, -⟩ := hRel.2.2.2.1 (Nat.le_of_ble_eq_true h1)
        obtain ⟨cB, kB, qa, qb, qc⟩ := isOf hZ rfl E
        obtain ⟨v, vm₁, B, w1, w2, w3, w4⟩ := X.virtualBack hx (y := t_nm k') (z := t_nm k') hown (mvT hZ (hw _ wl)) (mvT hZ (hw _ wd)) (notFace_of_selects (args := #[]) (mvT hZ (hw _ wsel))) (mvT hZ (hw _ wsel)) (mvT hZ (hw _ winst)) hne bk qa qc (g := mkF m pc Lc (S.map (cv n0 scA))) rfl hsz (Steps.refl _) (argsL := as.map (cv n0 scA)) (rest := R.map (cv n0 scA)) (lenOf hp (by simp at p2 hn ⊢; omega)) (by rw [hS]; simp [cv, pmRho]) (by show 2 * 0 + _ ≤ _; rw [pmWt_sum]; omega) (hb hby hd) hpre
        exact ⟨v, vm₁, B, w1, w2, w3, fun target q => w4.trans q⟩
      · exact h.elim
    · rename_i k' hmk h1
      split at h
      · rename_i as R hpop
        have W := pmCallW hi hmk
        obtain ⟨wl, wc, wi, hpl, hne, ⟨ps, r, hp, hn⟩, winst, wpriv, wcls⟩ := W
        obtain ⟨p1, p2⟩ := pmPop_spec hpop
        have hS : S = (.ref 1 :: as).reverse ++ R := by simpa using p1.symm
        refine pmCallS hw hpop hpl wc wi (pmCallMono h fun v σ' q => hnx _ _ _ _ q) ?_
        intro p e s m args below meth c T locs Lc Pre Post hX hsz bk hpre
        obtain ⟨X, hx, hZ, hby, hml, hown, hret, hRel, hFr, hSz⟩ := id hX
        obtain ⟨E, -, -⟩ := hRel.2.2.2.1 (Nat.le_of_ble_eq_true h1)
        obtain ⟨cq, q1, q2⟩ := E.cell
        exact privBack X hx (kk := t_ns) (y := t_nm k') hown (mvT hZ (hw _ wl)) (mvT hZ (hw _ winst)) (by rw [wcls]; exact mvT hZ (hw _ f_inst)) (Cond.privateMethod_at (mvP hZ (hw _ wpriv) (args := #[]))) (mvT hZ (hw _ wc)) hne bk (g := mkF m pc Lc (S.map (cv n0 scA))) rfl hsz q1 q2 (argsL := as.map (cv n0 scA)) (rest := R.map (cv n0 scA)) (lenOf hp (by simp at p2 hn ⊢; omega)) (by rw [hS]; simp [cv, pmRho]) (by show 2 * 0 + _ ≤ _; rw [pmWt_sum]; omega) (hb hby hd) hpre
      · exact h.elim
    · exact h.elim
  case invokespecial j =>
    simp only [stp, pmISpe] at h
    split at h
    · rename_i k' hmk h1
      split at h
      · rename_i as R hpop
        have W := pmCallW hi hmk
        obtain ⟨wl, wc, wi, hpl, hne, ⟨ps, r, hp, hn⟩, winst, wnm, wrt⟩ := W
        obtain ⟨p1, p2⟩ := pmPop_spec hpop
        have hS : S = (.ref 1 :: as).reverse ++ R := by simpa using p1.symm
        refine pmCallS hw hpop hpl wc wi (pmCallMono h fun v σ' q => hnx _ _ _ _ q) ?_
        intro p e s m args below meth c T locs Lc Pre Post hX hsz bk hpre
        obtain ⟨X, hx, hZ, hby, hml, hown, hret, hRel, hFr, hSz⟩ := id hX
        rw [wrt] at wc
        obtain ⟨v, vm₁, B, w1, w2, w3, w4⟩ := X.specialBack hx (y := t_nm k') wnm hown (mvT hZ (hw _ wl)) (mvT hZ (hw _ winst)) (mvT hZ (hw _ wc)) hne bk (g := mkF m pc Lc (S.map (cv n0 scA))) rfl hsz (Steps.refl _) (a := n0) (argsL := as.map (cv n0 scA)) (rest := R.map (cv n0 scA)) (lenOf hp (by simp at p2 hn ⊢; omega)) (by rw [hS]; simp [cv, pmRho]) (by show 2 * 0 + _ ≤ _; rw [pmWt_sum]; omega) (hb hby hd) hpre
        exact ⟨v, vm₁, B, w1, w2, w3, fun target q => w4.trans q⟩
      · exact h.elim
    · rename_i k' hmk h1
      split at h
      · rename_i R
        have W := pmCallW hi hmk
        obtain ⟨w1, w2, w3⟩ := W
        obtain ⟨⟨b1, b2⟩, h⟩ := h
        refine pmStep (hnx _ _ _ _ h) rfl (fun _ q => q) fun p e s m args below meth c T locs Lc hX hR hC hL => ?_
        obtain ⟨X, hx, hZ, hby, hml, hown, hret, hRel, hFr, hSz⟩ := id hX
        obtain ⟨T', X', e', s'⟩ := initO X hx hZ hown (hw _ w1) (hw _ w2) (hw _ w3) rfl (g := mkF m pc Lc (.ref n0 :: R.map (cv n0 scA))) rfl (by show Lc.size = c.maxLocals; rw [hR.1, hL, hml]) rfl (hb hby hd) b1 (W := pmWt R) (by show 2 * 0 + _ ≤ _; rw [pmWt_sum]; omega) b2
        exact ⟨T', locs, Lc, ⟨X', hx, hZ, hby, hml, hown, hret, by rw [e']; exact hRel, hFr, hSz⟩, hR, hC, s'⟩
      · exact h.elim
    · exact h.elim
  case ireturn =>
    have ro : pmRet k σ.1 = true → pmROk k σ.1 σ.1 := fun q => ⟨fun _ => rfl, fun z => by simp only [pmRet, z] at q; exact Nat.eq_of_beq_eq_true q⟩
    simp only [stp, pmIRet] at h
    split at h
    · rename_i hrt hre
      simp only [pmInt] at h
      split at h
      · rename_i x R
        intro p e s m args below meth c T locs Lc hX hR hC hL
        refine ⟨_, σ, T, locs, hX, h, ro hre, fun z => (by rw [hrt] at z; cases z), fun fs hr => ?_⟩
        exact retI hX.1 hX.2.1 (hX.2.2.2.2.2.2.1.trans hrt) (hb hX.2.2.2.1 hd) hr
      · exact h.elim
    · rename_i hrt hre
      simp only [pmInt] at h
      split at h
      · rename_i x R
        intro p e s m args below meth c T locs Lc hX hR hC hL
        refine ⟨_, σ, T, locs, hX, h, ro hre, fun z => (by rw [hrt] at z; cases z), fun fs hr => ?_⟩
        exact retN hX.1 hX.2.1 (t := .boolean) (hX.2.2.2.2.2.2.1.trans hrt) (Or.inl rfl) (hb hX.2.2.2.1 hd) hr
      · exact h.elim
    · exact h.elim
  case lreturn =>
    have ro : pmRet k σ.1 = true → pmROk k σ.1 σ.1 := fun q => ⟨fun _ => rfl, fun z => by simp only [pmRet, z] at q; exact Nat.eq_of_beq_eq_true q⟩
    simp only [stp, pmIRtL] at h
    split at h
    · rename_i x R hrt hre
      intro p e s m args below meth c T locs Lc hX hR hC hL
      refine ⟨_, σ, T, locs, hX, h, ro hre, fun z => (by rw [hrt] at z; cases z), fun fs hr => ?_⟩
      exact retL hX.1 hX.2.1 (hX.2.2.2.2.2.2.1.trans hrt) (hb hX.2.2.2.1 hd) hr
    · exact h.elim
  case return_ =>
    have ro : pmRet k σ.1 = true → pmROk k σ.1 σ.1 := fun q => ⟨fun _ => rfl, fun z => by simp only [pmRet, z] at q; exact Nat.eq_of_beq_eq_true q⟩
    simp only [stp, pmIRtV] at h
    split at h
    · rename_i hrt hre
      intro p e s m args below meth c T locs Lc hX hR hC hL
      refine ⟨_, σ, T, locs, hX, h, ro hre, fun z => rfl, fun fs hr => ?_⟩
      exact retV hX.1 hX.2.1 (hX.2.2.2.2.2.2.1.trans hrt) (hb hX.2.2.2.1 hd) hr
    · exact h.elim
  all_goals exact False.elim h
theorem pmClosed (hw : ∀ d ∈ tables_1, d.before a0 Z = true) (cut : List Nat) (n : Nat) : ∀ (k pc : Nat) (Ls : List Slot) (S : List Value) (σ : Mem) (Q : Pst), wp (WM l Z n0 scA) cut n k pc Ls S σ Q → WM l Z n0 scA k pc Ls S σ Q := by
  induction n with
  | zero => intro k pc Ls S σ Q h; exact h.elim
  | succ n ih =>
    intro k pc Ls S σ Q h
    simp only [wp] at h
    split at h
    · exact h.elim
    · rename_i i hi
      refine pmSound hw hi ?_ h
      intro pc' Ls' S' σ' h'
      split at h'
      · exact h'
      · exact ih _ _ _ _ _ _ h'
theorem pmForget {k pc : Nat} {Ls Ls' : List Slot} {S : List Value} {σ : Mem} {Q : Pst} (hle : pmLe Ls' Ls) (h : WM l Z n0 scA k pc Ls' S σ Q) : WM l Z n0 scA k pc Ls S σ Q := by
  have key : ∀ (A B : List Slot), pmLe A B → A.length = B.length ∧ ∀ (i : Nat) (x : Slot), A[i]? = some x → x ≠ .unset → B[i]? = some x := by
    intro A
    induction A with
    | nil => intro B h; cases B with
      | nil => exact ⟨rfl, fun i x h => by simp at h⟩
      | cons _ _ => exact h.elim
    | cons a A ih => intro B h; cases B with
      | nil => exact h.elim
      | cons b B =>
        obtain ⟨h1, h2⟩ := ih B h.2
        refine ⟨by simp [h1], fun i x hx hne => ?_⟩
        cases i with
        | zero =>
          have : a = x := by simpa using hx
          subst this
          rcases h.1 with e | e
          · exact absurd e hne
          · simp [e]
        | succ i => simpa using h2 i x (by simpa using hx) hne
  obtain ⟨h1, h2⟩ := key _ _ hle
  exact pmStep h h1 (fun _ q => q) fun p e s m args below meth c T locs Lc hX hR hC hL => ⟨T, locs, Lc, hX, ⟨by rw [hR.1, h1], fun i x hx hne => hR.2 i x (h2 i x hx hne) hne⟩, hC, fun _ q => q⟩
end Sound
/-! ## FetchNegotiator in the pure machine -/
def Clo (W : WPr) : Prop := ∀ (cut : List Nat) (n k pc : Nat) (Ls : List Slot) (S : List Value) (σ : Mem) (Q : Pst), wp W cut n k pc Ls S σ Q → W k pc Ls S σ Q
def Fgt (W : WPr) : Prop := ∀ (k pc : Nat) (Ls Ls' : List Slot) (S : List Value) (σ : Mem) (Q : Pst), pmLe Ls' Ls → W k pc Ls' S σ Q → W k pc Ls S σ Q
def nst (n : Nat) (I : Nat → Int32) (A : Nat → Nat → Int32) : Mem :=
  (10, n, [.int (I 0), .int (I 1), .int (I 2), .int (I 3), .int (I 4), .int (I 5), .int (I 6), .int (I 7), .ref 2, .ref 3, .ref 4, .ref 5, .ref 6, .ref 7, .ref 8, .ref 9, .ref 10], A)
def fSt (I : Nat → Int32) (j : Nat) (v : Int32) : Nat → Int32 := fun i => if i = j then v else I i
theorem pmSet_eq (A : Nat → Nat → Int32) (r i : Nat) (v : Int32) : pmSet A r i v r i = v := by simp [pmSet]
theorem pmSet_ne (A : Nat → Nat → Int32) (r : Nat) (v : Int32) {i j : Nat} (h : ¬ j = i) : pmSet A r i v r j = A r j := by simp only [pmSet, if_true, if_neg h]
theorem pmSet_r (A : Nat → Nat → Int32) (i : Nat) (v : Int32) {r r' : Nat} (h : ¬ r' = r) : pmSet A r i v r' = A r' := by funext j; simp only [pmSet, if_neg h]
abbrev i32 (n : Nat) : Int32 := Int32.ofNat n
theorem i32_toInt {n : Nat} (h : n < 2147483648) : (i32 n).toInt = (n : Int) := Int32.toInt_ofNat_of_lt h
theorem i32_succ (n : Nat) : i32 n + Int32.ofInt 1 = i32 (n + 1) := by
  show Int32.ofNat n + 1 = Int32.ofNat (n + 1)
  rw [Int32.ofNat_add]; rfl
theorem i32_of {x : Int32} (h : 0 ≤ x.toInt) : x = i32 x.toInt.toNat := by
  apply Int32.toInt_inj.mp
  have := Int32.toInt_lt x
  rw [i32_toInt (by omega)]; omega
variable {W : WPr}
theorem n10 : ¬ (1 : Int32) = 0 := by decide
theorem inRange_ok (hW : Clo W) {n : Nat} {I : Nat → Int32} {A : Nat → Nat → Int32} {id : Int32} {Q : Pst}
    (h1 : 0 ≤ id.toInt → id.toInt < (I 3).toInt → id.toInt < 32 → Q (some (.int 1)) (nst n I A)) (h0 : ¬ (0 ≤ id.toInt ∧ id.toInt < (I 3).toInt ∧ id.toInt < 32) → Q (some (.int 0)) (nst n I A)) :
    W k_inRange 0 [.val (.ref 1), .val (.int id)] [] (nst n I A) Q := by
  have e0 : (0 : Int32).toInt = 0 := rfl
  have e32 : (Int32.ofInt 32).toInt = 32 := by decide
  refine hW [] 20 _ _ _ _ _ _ ?_
  refine ⟨fun q => ?_, fun q => ⟨fun q2 => ⟨fun q3 => ?_, fun q3 => ?_⟩, fun q2 => ?_⟩⟩
  · exact h0 (by omega)
  · exact h1 (by omega) q2 (by omega)
  · exact h0 (by omega)
  · exact h0 (by omega)
def clF (v lo hi : Int32) : Int32 := if v.toInt < lo.toInt then lo else if hi.toInt < v.toInt then hi else v
theorem clamp_ok (hW : Clo W) {σ : Mem} {v lo hi : Int32} {Q : Pst} (hq : Q (some (.int (clF v lo hi))) σ) : W k_clamp 0 [.val (.ref 1), .val (.int v), .val (.int lo), .val (.int hi)] [] σ Q := by
  refine hW [] 20 _ _ _ _ _ _ ?_
  unfold clF at hq
  refine ⟨fun q => ?_, fun q => ⟨fun q2 => ?_, fun q2 => ?_⟩⟩
  · rw [if_pos q] at hq; exact hq
  · rw [if_neg q, if_pos q2] at hq; exact hq
  · rw [if_neg q, if_neg q2] at hq; exact hq
def fI (c b r : Int32) : Nat → Int32
  | 0 => clF c (Int32.ofInt 8) (Int32.ofInt 32)
  | 1 => clF b (Int32.ofInt 1) (Int32.ofInt 8)
  | 2 => clF r (Int32.ofInt 1) (Int32.ofInt 16)
  | _ => 0
theorem init_ok (hW : Clo W) {n : Nat} {F : List Value} {A : Nat → Nat → Int32} {c b r : Int32} {Q : Pst} (hq : Q none (nst n (fI c b r) A)) : W k_init 0 [.val (.ref 1), .val (.int c), .val (.int b), .val (.int r)] [] (1, n, t_flds.map (fun f => defaultValue f.2.2), A) Q := by
  refine hW [] 100 _ _ _ _ _ _ ?_
  refine ⟨by decide, ⟨by decide, ⟨by decide, ⟨by decide, ⟨by decide, ⟨by decide, ⟨by decide, ⟨by decide, ⟨by decide, ⟨by decide, ?_⟩⟩⟩⟩⟩⟩⟩⟩⟩⟩
  refine clamp_ok hW ?_
  refine clamp_ok hW ?_
  refine clamp_ok hW ?_
  exact hq
theorem tI_add {x y : Int32} (h1 : -2147483648 ≤ x.toInt + y.toInt) (h2 : x.toInt + y.toInt < 2147483648) : (x + y).toInt = x.toInt + y.toInt := by
  rw [Int32.toInt_add]; exact Int.bmod_eq_of_le (by omega) (by omega)
theorem tI_sub {x y : Int32} (h1 : -2147483648 ≤ x.toInt - y.toInt) (h2 : x.toInt - y.toInt < 2147483648) : (x - y).toInt = x.toInt - y.toInt := by
  rw [Int32.toInt_sub]; exact Int.bmod_eq_of_le (by omega) (by omega)
theorem tI_mul {x y : Int32} (h1 : -2147483648 ≤ x.toInt * y.toInt) (h2 : x.toInt * y.toInt < 2147483648) : (x * y).toInt = x.toInt * y.toInt := by
  rw [Int32.toInt_mul]; exact Int.bmod_eq_of_le (by omega) (by omega)
theorem tI0 : (0 : Int32).toInt = 0 := rfl
theorem tI1 : (1 : Int32).toInt = 1 := rfl
theorem oI0 : (Int32.ofInt 0).toInt = 0 := by decide
theorem oI1 : (Int32.ofInt 1).toInt = 1 := by decide
theorem oI2 : (Int32.ofInt 2).toInt = 2 := by decide
theorem oI3 : (Int32.ofInt 3).toInt = 3 := by decide
theorem oI32 : (Int32.ofInt 32).toInt = 32 := by decide
theorem oIm1 : (Int32.ofInt (-1)).toInt = -1 := by decide
theorem tI_x3 {x : Int32} (h0 : 0 ≤ x.toInt) (h1 : x.toInt < 32) : (x * Int32.ofInt 3).toInt = 3 * x.toInt := by
  rw [tI_mul (by rw [oI3]; omega) (by rw [oI3]; omega), oI3]; omega
theorem tI_x3k {x y : Int32} (h0 : 0 ≤ x.toInt) (h1 : x.toInt < 32) (h2 : 0 ≤ y.toInt) (h3 : y.toInt < 3) : (x * Int32.ofInt 3 + y).toInt = 3 * x.toInt + y.toInt := by
  rw [tI_add (by rw [tI_x3 h0 h1]; omega) (by rw [tI_x3 h0 h1]; omega), tI_x3 h0 h1]
theorem norm_ok (hW : Clo W) {σ : Mem} {v : Int32} {Q : Pst} (hq : Q (some (.int (if v.toInt < 0 then Int32.ofInt (-1) else v))) σ) : W k_norm 0 [.val (.ref 1), .val (.int v)] [] σ Q := by
  refine hW [] 20 _ _ _ _ _ _ ?_
  refine ⟨fun q => ?_, fun q => ?_⟩
  · rw [if_pos (by rwa [tI0] at q)] at hq; exact hq
  · rw [if_neg (by rwa [tI0] at q)] at hq; exact hq
theorem validEntry_ok (hW : Clo W) {n : Nat} {I : Nat → Int32} {A : Nat → Nat → Int32} {e : Int32} {Q : Pst}
    (h1 : (e.toInt < 0 ∨ (0 ≤ e.toInt ∧ e.toInt < (I 3).toInt ∧ e.toInt < 32 ∧ ¬ A 2 e.toInt.toNat = 3)) → Q (some (.int 1)) (nst n I A)) (h0 : ¬ (e.toInt < 0 ∨ (0 ≤ e.toInt ∧ e.toInt < (I 3).toInt ∧ e.toInt < 32 ∧ ¬ A 2 e.toInt.toNat = 3)) → Q (some (.int 0)) (nst n I A)) :
    W k_validEntry 0 [.val (.ref 1), .val (.int e)] [] (nst n I A) Q := by
  refine hW [] 30 _ _ _ _ _ _ ?_
  refine ⟨fun q => ?_, fun q => ?_⟩
  · exact h1 (Or.inl (by rwa [tI0] at q))
  · rw [tI0] at q
    refine inRange_ok hW (fun a b c => ?_) (fun d => ?_)
    · refine ⟨fun z => absurd z n10, fun _ => ?_⟩
      refine ⟨⟨a, by show e.toInt < 32; exact c⟩, ⟨fun z => ?_, fun z => ?_⟩⟩
      · exact h0 (fun w => w.elim q (fun w => w.2.2.2 z))
      · exact h1 (Or.inr ⟨a, b, c, z⟩)
    · refine ⟨fun _ => ?_, fun z => absurd rfl z⟩
      exact h0 (fun w => w.elim q (fun w => d ⟨w.1, w.2.1, w.2.2.1⟩))
def fb (x : Int32) : Int32 := x.toInt8.toInt32.toInt8.toInt32
def fDef (A : Nat → Nat → Int32) (c : Nat) (k t l0 l1 l2 : Int32) : Nat → Nat → Int32 :=
  pmSet (pmSet (pmSet (pmSet (pmSet (pmSet (pmSet (pmSet A 2 c (fb k)) 3 c t) 4 (3 * c) l0) 4 (3 * c + 1) l1) 4 (3 * c + 2) l2) 5 c 0) 5 (32 + c) 0) 6 c 0
theorem define_ok (hW : Clo W) {n : Nat} {I : Nat → Int32} {A : Nat → Nat → Int32} {k t l0 l1 l2 : Int32} {Q : Pst} (c0 : 0 ≤ (I 3).toInt) (c1 : (I 3).toInt < 32)
    (hq : Q (some (.int (I 3))) (nst n (fSt I 3 (I 3 + Int32.ofInt 1)) (fDef A (I 3).toInt.toNat k t l0 l1 l2))) :
    W k_define 0 [.val (.ref 1), .val (.int k), .val (.int t), .val (.int l0), .val (.int l1), .val (.int l2), .unset] [] (nst n I A) Q := by
  have m0 := tI_x3 c0 c1
  have m1 := tI_x3k (y := Int32.ofInt 1) c0 c1 (by decide) (by decide)
  have m2 := tI_x3k (y := Int32.ofInt 2) c0 c1 (by decide) (by decide)
  have m3 : (Int32.ofInt 32 + I 3).toInt = 32 + (I 3).toInt := by rw [tI_add (by rw [oI32]; omega) (by rw [oI32]; omega), oI32]
  rw [oI1] at m1
  rw [oI2] at m2
  refine hW [] 80 _ _ _ _ _ _ ?_
  refine ⟨fun q => ?_, fun _ => ⟨fun _ => ?_, fun q => ?_⟩⟩
  · rw [tI0] at q; omega
  · refine ⟨⟨c0, c1⟩, ⟨⟨c0, c1⟩, ⟨?_, ⟨?_, ⟨?_, ⟨?_, ⟨?_, ⟨?_, ?_⟩⟩⟩⟩⟩⟩⟩⟩
    · show 0 ≤ (I 3 * Int32.ofInt 3).toInt ∧ (I 3 * Int32.ofInt 3).toInt < 96; omega
    · show 0 ≤ (I 3 * Int32.ofInt 3 + Int32.ofInt 1).toInt ∧ (I 3 * Int32.ofInt 3 + Int32.ofInt 1).toInt < 96; omega
    · show 0 ≤ (I 3 * Int32.ofInt 3 + Int32.ofInt 2).toInt ∧ (I 3 * Int32.ofInt 3 + Int32.ofInt 2).toInt < 96; omega
    · show 0 ≤ (I 3).toInt ∧ (I 3).toInt < 64; omega
    · show 0 ≤ (Int32.ofInt 32 + I 3).toInt ∧ (Int32.ofInt 32 + I 3).toInt < 64; omega
    · show 0 ≤ (I 3).toInt ∧ (I 3).toInt < 32; omega
    · show Q (some (.int (I 3))) (nst n (fSt I 3 (I 3 + Int32.ofInt 1)) (pmSet (pmSet (pmSet (pmSet (pmSet (pmSet (pmSet (pmSet A 2 (I 3).toInt.toNat (fb k)) 3 (I 3).toInt.toNat t) 4 (I 3 * Int32.ofInt 3).toInt.toNat l0) 4 (I 3 * Int32.ofInt 3 + Int32.ofInt 1).toInt.toNat l1) 4 (I 3 * Int32.ofInt 3 + Int32.ofInt 2).toInt.toNat l2) 5 (I 3).toInt.toNat 0) 5 (Int32.ofInt 32 + I 3).toInt.toNat 0) 6 (I 3).toInt.toNat 0))
      have e0 : (I 3 * Int32.ofInt 3).toInt.toNat = 3 * (I 3).toInt.toNat := by omega
      have e1 : (I 3 * Int32.ofInt 3 + Int32.ofInt 1).toInt.toNat = 3 * (I 3).toInt.toNat + 1 := by omega
      have e2 : (I 3 * Int32.ofInt 3 + Int32.ofInt 2).toInt.toNat = 3 * (I 3).toInt.toNat + 2 := by omega
      have e3 : (Int32.ofInt 32 + I 3).toInt.toNat = 32 + (I 3).toInt.toNat := by omega
      rw [e0, e1, e2, e3]
      exact hq
  · exact absurd (show (I 3).toInt < (Int32.ofInt 32).toInt by rw [oI32]; exact c1) q
theorem addBlob_ok (hW : Clo W) {n : Nat} {I : Nat → Int32} {A : Nat → Nat → Int32} {Q : Pst} (c0 : 0 ≤ (I 3).toInt) (c1 : (I 0).toInt ≤ 32)
    (h1 : (I 3).toInt < (I 0).toInt → Q (some (.int (I 3))) (nst n (fSt I 3 (I 3 + Int32.ofInt 1)) (fDef A (I 3).toInt.toNat (Int32.ofInt 1) (Int32.ofInt 0) (Int32.ofInt (-1)) (Int32.ofInt (-1)) (Int32.ofInt (-1))))) (h0 : ¬ (I 3).toInt < (I 0).toInt → Q (some (.int (-1))) (nst n I A)) :
    W k_addBlob 0 [.val (.ref 1)] [] (nst n I A) Q := by
  refine hW [] 30 _ _ _ _ _ _ ?_
  refine ⟨fun q => ?_, fun q => h0 q⟩
  refine define_ok hW c0 (by have q' : (I 3).toInt < (I 0).toInt := q; omega) ?_
  exact h1 q
def vE (I : Nat → Int32) (A : Nat → Nat → Int32) (e : Int32) : Prop := e.toInt < 0 ∨ (0 ≤ e.toInt ∧ e.toInt < (I 3).toInt ∧ e.toInt < 32 ∧ ¬ A 2 e.toInt.toNat = 3)
def vP (I : Nat → Int32) (A : Nat → Nat → Int32) (e : Int32) : Prop := e.toInt < 0 ∨ (0 ≤ e.toInt ∧ e.toInt < (I 3).toInt ∧ e.toInt < 32 ∧ A 2 e.toInt.toNat = 3)
def nrm (v : Int32) : Int32 := if v.toInt < 0 then Int32.ofInt (-1) else v
theorem addTree_ok (hW : Clo W) {n : Nat} {I : Nat → Int32} {A : Nat → Nat → Int32} {e0 e1 e2 : Int32} {Q : Pst} (c0 : 0 ≤ (I 3).toInt) (c1 : (I 0).toInt ≤ 32)
    (h1 : (I 3).toInt < (I 0).toInt → vE I A e0 → vE I A e1 → vE I A e2 → Q (some (.int (I 3))) (nst n (fSt I 3 (I 3 + Int32.ofInt 1)) (fDef A (I 3).toInt.toNat (Int32.ofInt 2) (Int32.ofInt 0) (nrm e0) (nrm e1) (nrm e2))))
    (h0 : ¬ ((I 3).toInt < (I 0).toInt ∧ vE I A e0 ∧ vE I A e1 ∧ vE I A e2) → Q (some (.int (-1))) (nst n I A)) :
    W k_addTree 0 [.val (.ref 1), .val (.int e0), .val (.int e1), .val (.int e2), .unset, .unset, .unset] [] (nst n I A) Q := by
  refine hW [] 50 _ _ _ _ _ _ ?_
  refine ⟨fun q => ?_, fun q => h0 fun z => q z.1⟩
  have q' : (I 3).toInt < (I 0).toInt := q
  refine validEntry_ok hW (fun v0 => ?_) (fun v0 => ?_)
  · refine ⟨fun z => absurd z n10, fun _ => ?_⟩
    refine validEntry_ok hW (fun v1 => ?_) (fun v1 => ?_)
    · refine ⟨fun z => absurd z n10, fun _ => ?_⟩
      refine validEntry_ok hW (fun v2 => ?_) (fun v2 => ?_)
      · refine ⟨fun z => absurd z n10, fun _ => ?_⟩
        refine norm_ok hW ?_
        refine norm_ok hW ?_
        refine norm_ok hW ?_
        refine define_ok hW c0 (by omega) ?_
        exact h1 q v0 v1 v2
      · exact ⟨fun _ => h0 fun z => v2 z.2.2.2, fun z => absurd rfl z⟩
    · exact ⟨fun _ => h0 fun z => v1 z.2.2.1, fun z => absurd rfl z⟩
  · exact ⟨fun _ => h0 fun z => v0 z.2.1, fun z => absurd rfl z⟩
theorem kindOf_ok (hW : Clo W) {n : Nat} {I : Nat → Int32} {A : Nat → Nat → Int32} {id : Int32} {Q : Pst}
    (h1 : 0 ≤ id.toInt → id.toInt < (I 3).toInt → id.toInt < 32 → Q (some (.int (A 2 id.toInt.toNat))) (nst n I A)) (h0 : ¬ (0 ≤ id.toInt ∧ id.toInt < (I 3).toInt ∧ id.toInt < 32) → Q (some (.int 0)) (nst n I A)) :
    W k_kindOf 0 [.val (.ref 1), .val (.int id)] [] (nst n I A) Q := by
  refine hW [] 30 _ _ _ _ _ _ ?_
  refine inRange_ok hW (fun a b c => ?_) (fun d => ?_)
  · refine ⟨fun z => absurd z n10, fun _ => ?_⟩
    exact ⟨⟨a, by show id.toInt < 32; exact c⟩, h1 a b c⟩
  · exact ⟨fun _ => h0 d, fun z => absurd rfl z⟩
theorem link_ok (hW : Clo W) {n : Nat} {I : Nat → Int32} {A : Nat → Nat → Int32} {id k : Int32} {Q : Pst}
    (h1 : 0 ≤ id.toInt → id.toInt < (I 3).toInt → id.toInt < 32 → 0 ≤ k.toInt → k.toInt ≤ 2 → Q (some (.int (A 4 (3 * id.toInt.toNat + k.toInt.toNat)))) (nst n I A)) (h0 : ¬ ((0 ≤ id.toInt ∧ id.toInt < (I 3).toInt ∧ id.toInt < 32) ∧ 0 ≤ k.toInt ∧ k.toInt ≤ 2) → Q (some (.int (-1))) (nst n I A)) :
    W k_link 0 [.val (.ref 1), .val (.int id), .val (.int k)] [] (nst n I A) Q := by
  refine hW [] 40 _ _ _ _ _ _ ?_
  refine inRange_ok hW (fun a b c => ?_) (fun d => ?_)
  · refine ⟨fun z => absurd z n10, fun _ => ⟨fun q => h0 fun z => ?_, fun q => ⟨fun q2 => h0 fun z => ?_, fun q2 => ?_⟩⟩⟩
    · have q' : k.toInt < 0 := q
      omega
    · have q2' : (Int32.ofInt 2).toInt < k.toInt := q2
      rw [oI2] at q2'; omega
    · have q' : ¬ k.toInt < 0 := q
      have q2' : ¬ (Int32.ofInt 2).toInt < k.toInt := q2
      rw [oI2] at q2'
      have m := tI_x3k (y := k) a c (by omega) (by omega)
      refine ⟨?_, ?_⟩
      · show 0 ≤ (id * Int32.ofInt 3 + k).toInt ∧ (id * Int32.ofInt 3 + k).toInt < 96
        omega
      · show Q (some (.int (A 4 (id * Int32.ofInt 3 + k).toInt.toNat))) (nst n I A)
        have e : (id * Int32.ofInt 3 + k).toInt.toNat = 3 * id.toInt.toNat + k.toInt.toNat := by omega
        rw [e]
        exact h1 a b c (by omega) (by omega)
  · exact ⟨fun _ => h0 fun z => d z.1, fun z => absurd rfl z⟩
theorem tI_32k {x y : Int32} (h0 : 0 ≤ x.toInt) (h1 : x.toInt ≤ 1) (h2 : 0 ≤ y.toInt) (h3 : y.toInt < 32) : (x * Int32.ofInt 32 + y).toInt = 32 * x.toInt + y.toInt := by
  have m : (x * Int32.ofInt 32).toInt = 32 * x.toInt := by rw [tI_mul (by rw [oI32]; omega) (by rw [oI32]; omega), oI32]; omega
  rw [tI_add (by rw [m]; omega) (by rw [m]; omega), m]
theorem has_ok (hW : Clo W) {n : Nat} {I : Nat → Int32} {A : Nat → Nat → Int32} {s id : Int32} {Q : Pst}
    (h1 : (s = 0 ∨ s = 1) → 0 ≤ id.toInt → id.toInt < (I 3).toInt → id.toInt < 32 → Q (some (.int (A 5 (32 * s.toInt.toNat + id.toInt.toNat) &&& 1))) (nst n I A)) (h0 : ¬ ((s = 0 ∨ s = 1) ∧ 0 ≤ id.toInt ∧ id.toInt < (I 3).toInt ∧ id.toInt < 32) → Q (some (.int 0)) (nst n I A)) :
    W k_has 0 [.val (.ref 1), .val (.int s), .val (.int id)] [] (nst n I A) Q := by
  refine hW [] 40 _ _ _ _ _ _ ?_
  have main : (hs : s = 0 ∨ s = 1) → (0 ≤ id.toInt) → id.toInt < (I 3).toInt → id.toInt < 32 → (0 ≤ (s * Int32.ofInt 32 + id).toInt ∧ (s * Int32.ofInt 32 + id).toInt < 64) ∧ Q (some (.int (A 5 (s * Int32.ofInt 32 + id).toInt.toNat &&& 1))) (nst n I A) := by
    intro hs a b c
    have s0 : 0 ≤ s.toInt ∧ s.toInt ≤ 1 := by rcases hs with rfl | rfl <;> decide
    have m := tI_32k s0.1 s0.2 a c
    refine ⟨by omega, ?_⟩
    have e : (s * Int32.ofInt 32 + id).toInt.toNat = 32 * s.toInt.toNat + id.toInt.toNat := by omega
    rw [e]
    exact h1 hs a b c
  refine ⟨fun q => ?_, fun q => ⟨fun q2 => ?_, fun q2 => ?_⟩⟩
  · refine inRange_ok hW (fun a b c => ?_) (fun d => ?_)
    · exact ⟨fun z => absurd z n10, fun _ => main (Or.inl q) a b c⟩
    · exact ⟨fun _ => h0 fun z => d z.2, fun z => absurd rfl z⟩
  · refine inRange_ok hW (fun a b c => ?_) (fun d => ?_)
    · exact ⟨fun z => absurd z n10, fun _ => main (Or.inr q2) a b c⟩
    · exact ⟨fun _ => h0 fun z => d z.2, fun z => absurd rfl z⟩
  · exact h0 fun z => z.1.elim q q2
/-! marks -/
theorem clearMark_ok (hW : Clo W) {n : Nat} {I : Nat → Int32} {A : Nat → Nat → Int32} {Q : Pst} (hq : ∀ A' : Nat → Nat → Int32, (∀ i, i < 32 → A' 8 i = 0) → (∀ r, r ≠ 8 → A' r = A r) → Q none (nst n I A')) :
    W k_clearMark 0 [.val (.ref 1), .unset] [] (nst n I A) Q := by
  have loop : ∀ (m j : Nat) (B : Nat → Nat → Int32), j + m = 32 → (∀ i, i < j → B 8 i = 0) → (∀ r, r ≠ 8 → B r = A r) → W k_clearMark 2 [.val (.ref 1), .val (.int (i32 j))] [] (nst n I B) Q := by
    intro m
    induction m with
    | zero =>
      intro j B hj hB hr
      have ji : (i32 j).toInt = (j : Int) := i32_toInt (by omega)
      refine hW [] 20 _ _ _ _ _ _ ?_
      refine ⟨fun q => ?_, fun q => ?_⟩
      · have q' : (i32 j).toInt < (Int32.ofInt 32).toInt := q
        rw [ji, oI32] at q'; omega
      · exact hq B (fun i hi => hB i (by omega)) hr
    | succ m ih =>
      intro j B hj hB hr
      have ji : (i32 j).toInt = (j : Int) := i32_toInt (by omega)
      refine hW [2] 20 _ _ _ _ _ _ ?_
      refine ⟨fun q => ?_, fun q => ?_⟩
      · refine ⟨?_, ?_⟩
        · show 0 ≤ (i32 j).toInt ∧ (i32 j).toInt < 32
          rw [ji]; omega
        · show W k_clearMark 2 [.val (.ref 1), .val (.int (i32 j + Int32.ofInt 1))] [] (nst n I (pmSet B 8 (i32 j).toInt.toNat 0)) Q
          rw [i32_succ, ji]
          refine ih (j + 1) _ (by omega) (fun i hi => ?_) (fun r hr' => ?_)
          · by_cases e : i = j
            · simp [pmSet, e]
            · simp [pmSet, e]; exact hB i (by omega)
          · rw [← hr r hr']; funext i; simp [pmSet, hr']
      · have q' : ¬ (i32 j).toInt < (Int32.ofInt 32).toInt := q
        rw [ji, oI32] at q'; omega
  refine hW [2] 20 _ _ _ _ _ _ ?_
  exact loop 32 0 A rfl (fun i hi => by omega) (fun _ _ => rfl)
def mClo (lk : Nat → Int32) (lo d : Nat) (P : Nat → Prop) : Prop := ∀ i, lo ≤ i → i ≤ d → P i → ∀ k, k < 3 → 0 ≤ (lk (3 * i + k)).toInt → (lk (3 * i + k)).toInt < (i : Int) → P (lk (3 * i + k)).toInt.toNat
/-- between A and B: marks of d's reach have come, closed from lo on -/
def mInv (A B : Nat → Nat → Int32) (d lo : Nat) : Prop :=
  (∀ r, r ≠ 8 → B r = A r) ∧ (∀ i, i < 32 → ¬ A 8 i = 0 → ¬ B 8 i = 0) ∧ ¬ B 8 d = 0 ∧ mClo (A 4) lo d (fun i => ¬ B 8 i = 0) ∧
  (∀ P : Nat → Prop, (∀ i, i < 32 → ¬ A 8 i = 0 → P i) → P d → mClo (A 4) 0 d P → ∀ i, i < 32 → ¬ B 8 i = 0 → P i) ∧ (∀ i, i < 32 → B 8 i = A 8 i ∨ B 8 i = 1)
theorem mInv_set {A B : Nat → Nat → Int32} {d lo i k : Nat} (h : mInv A B d lo) (hd : d < 32) (hi : ¬ B 8 i = 0) (h1 : i < lo) (h2 : i ≤ d) (hk : k < 3) (h3 : 0 ≤ (A 4 (3 * i + k)).toInt) (h4 : (A 4 (3 * i + k)).toInt < (i : Int)) : mInv A (pmSet B 8 (A 4 (3 * i + k)).toInt.toNat 1) d lo := by
  obtain ⟨a1, a2, a3, a4, a5, a6⟩ := h
  have mono : ∀ j, ¬ B 8 j = 0 → ¬ pmSet B 8 (A 4 (3 * i + k)).toInt.toNat 1 8 j = 0 := by
    intro j hj
    simp only [pmSet, if_true]
    split
    · decide
    · exact hj
  refine ⟨fun r hr => ?_, fun j hj hm => mono j (a2 j hj hm), mono d a3, ?_, ?_, ?_⟩
  · rw [← a1 r hr]; funext j; simp [pmSet, hr]
  · intro j hj1 hj2 hm k' hk' q1 q2
    have hm' : ¬ B 8 j = 0 := by
      have : ¬ j = (A 4 (3 * i + k)).toInt.toNat := by omega
      rwa [pmSet_ne _ _ _ this] at hm
    exact mono _ (a4 j hj1 hj2 hm' k' hk' q1 q2)
  · intro P p1 p2 p3 j hj hm
    by_cases e : j = (A 4 (3 * i + k)).toInt.toNat
    · subst e
      exact p3 i (Nat.zero_le _) h2 (a5 P p1 p2 p3 i (by omega) hi) k hk h3 h4
    · exact a5 P p1 p2 p3 j hj (by rwa [pmSet_ne _ _ _ e] at hm)
  · intro j hj
    by_cases e : j = (A 4 (3 * i + k)).toInt.toNat
    · right; rw [e, pmSet_eq]
    · rw [pmSet_ne _ _ _ e]; exact a6 j hj
theorem mInv_lo {A B : Nat → Nat → Int32} {d i : Nat} (h : mInv A B d (i + 1)) (hc : ¬ B 8 i = 0 → ∀ k, k < 3 → 0 ≤ (A 4 (3 * i + k)).toInt → (A 4 (3 * i + k)).toInt < (i : Int) → ¬ B 8 (A 4 (3 * i + k)).toInt.toNat = 0) : mInv A B d i := by
  obtain ⟨a1, a2, a3, a4, a5, a6⟩ := h
  refine ⟨a1, a2, a3, fun j hj1 hj2 hm k hk q1 q2 => ?_, a5, a6⟩
  by_cases e : j = i
  · subst e; exact hc hm k hk q1 q2
  · exact a4 j (by omega) hj2 hm k hk q1 q2
theorem markReach_ok (hW : Clo W) (hF : Fgt W) {n : Nat} {I : Nat → Int32} {A : Nat → Nat → Int32} {id : Int32} {Q : Pst} (b0 : 0 ≤ id.toInt) (b1 : id.toInt < (I 3).toInt) (b2 : id.toInt < 32)
    (hq : ∀ B : Nat → Nat → Int32, mInv A B id.toInt.toNat 0 → Q none (nst n I B)) :
    W k_markReach 0 [.val (.ref 1), .val (.int id), .unset, .unset, .unset] [] (nst n I A) Q := by
  generalize hd : id.toInt.toNat = d at hq
  have hdi : id.toInt = (d : Int) := by omega
  have hd32 : d < 32 := by omega
  -- the outer loop
  have outer : ∀ (j : Nat) (x : Int32) (B : Nat → Nat → Int32), x.toInt = (j : Int) - 1 → j ≤ d + 1 → mInv A B d j → W k_markReach 18 [.val (.ref 1), .val (.int id), .val (.int x), .unset, .unset] [] (nst n I B) Q := by
    intro j
    induction j with
    | zero =>
      intro x B hx hj hB
      refine hW [] 20 _ _ _ _ _ _ ?_
      refine ⟨fun q => hq B hB, fun q => ?_⟩
      have q' : ¬ x.toInt < 0 := q
      omega
    | succ j ih =>
      intro x B hx hj hB
      have hxj : x.toInt = (j : Int) := by omega
      have xn : x.toInt.toNat = j := by omega
      -- behind the inner loop
      have back : ∀ B' : Nat → Nat → Int32, mInv A B' d j → W k_markReach 75 [.val (.ref 1), .val (.int id), .val (.int x), .unset, .unset] [] (nst n I B') Q := by
        intro B' hB'
        refine hW [18] 10 _ _ _ _ _ _ ?_
        refine ih (x + Int32.ofInt (-1)) B' ?_ (by omega) hB'
        rw [tI_add (by rw [oIm1]; omega) (by rw [oIm1]; omega), oIm1]; omega
      -- the inner loop
      have inner : ∀ (m kk : Nat) (B' : Nat → Nat → Int32), kk + m = 3 → mInv A B' d (j + 1) → ¬ B' 8 j = 0 → (∀ k, k < kk → 0 ≤ (A 4 (3 * j + k)).toInt → (A 4 (3 * j + k)).toInt < (j : Int) → ¬ B' 8 (A 4 (3 * j + k)).toInt.toNat = 0) →
          W k_markReach 33 [.val (.ref 1), .val (.int id), .val (.int x), .val (.int (i32 kk)), .unset] [] (nst n I B') Q := by
        intro m
        induction m with
        | zero =>
          intro kk B' hk hB' hm hc
          have ki : (i32 kk).toInt = (kk : Int) := i32_toInt (by omega)
          refine hW [75] 20 _ _ _ _ _ _ ?_
          refine ⟨fun q => ?_, fun q => ?_⟩
          · have q' : (i32 kk).toInt < (Int32.ofInt 3).toInt := q
            rw [ki, oI3] at q'; omega
          · refine hF _ _ _ [.val (.ref 1), .val (.int id), .val (.int x), .unset, .unset] _ _ _ ⟨Or.inr rfl, Or.inr rfl, Or.inr rfl, Or.inl rfl, Or.inl rfl, trivial⟩ ?_
            exact back B' (mInv_lo hB' fun _ k hk' => hc k (by omega))
        | succ m ihm =>
          intro kk B' hk hB' hm hc
          have ki : (i32 kk).toInt = (kk : Int) := i32_toInt (by omega)
          have idx := tI_x3k (x := x) (y := i32 kk) (by omega) (by omega) (by omega) (by omega)
          have idn : (x * Int32.ofInt 3 + i32 kk).toInt.toNat = 3 * j + kk := by omega
          have lk : B' 4 (x * Int32.ofInt 3 + i32 kk).toInt.toNat = A 4 (3 * j + kk) := by rw [idn, hB'.1 4 (by decide)]
          refine hW [33] 40 _ _ _ _ _ _ ?_
          refine ⟨fun q => ?_, fun q => ?_⟩
          · refine ⟨?_, ?_⟩
            · show 0 ≤ (x * Int32.ofInt 3 + i32 kk).toInt ∧ (x * Int32.ofInt 3 + i32 kk).toInt < 96
              omega
            · have next : ∀ (B2 : Nat → Nat → Int32) (t : Int32), mInv A B2 d (j + 1) → ¬ B2 8 j = 0 → (∀ k, k < kk + 1 → 0 ≤ (A 4 (3 * j + k)).toInt → (A 4 (3 * j + k)).toInt < (j : Int) → ¬ B2 8 (A 4 (3 * j + k)).toInt.toNat = 0) →
                  W k_markReach 33 [.val (.ref 1), .val (.int id), .val (.int x), .val (.int (i32 kk + Int32.ofInt 1)), .val (.int t)] [] (nst n I B2) Q := by
                intro B2 t g1 g2 g3
                refine hF _ _ _ [.val (.ref 1), .val (.int id), .val (.int x), .val (.int (i32 kk + Int32.ofInt 1)), .unset] _ _ _ ⟨Or.inr rfl, Or.inr rfl, Or.inr rfl, Or.inr rfl, Or.inl rfl, trivial⟩ ?_
                rw [i32_succ]
                exact ihm (kk + 1) B2 (by omega) g1 g2 g3
              refine ⟨fun q1 => ?_, fun q1 => ⟨fun q2 => ?_, fun q2 => ?_⟩⟩
              · have q1' : (B' 4 (x * Int32.ofInt 3 + i32 kk).toInt.toNat).toInt < 0 := q1
                rw [lk] at q1'
                refine next B' _ hB' hm (fun k hk' w1 w2 => ?_)
                by_cases e : k = kk
                · subst e; omega
                · exact hc k (by omega) w1 w2
              · have q1' : ¬ (B' 4 (x * Int32.ofInt 3 + i32 kk).toInt.toNat).toInt < 0 := q1
                have q2' : (B' 4 (x * Int32.ofInt 3 + i32 kk).toInt.toNat).toInt < x.toInt := q2
                rw [lk] at q1' q2'
                refine ⟨?_, ?_⟩
                · show 0 ≤ (B' 4 (x * Int32.ofInt 3 + i32 kk).toInt.toNat).toInt ∧ (B' 4 (x * Int32.ofInt 3 + i32 kk).toInt.toNat).toInt < 32
                  rw [lk]; omega
                · show W k_markReach 33 [.val (.ref 1), .val (.int id), .val (.int x), .val (.int (i32 kk + Int32.ofInt 1)), .val (.int (B' 4 (x * Int32.ofInt 3 + i32 kk).toInt.toNat))] [] (nst n I (pmSet B' 8 (B' 4 (x * Int32.ofInt 3 + i32 kk).toInt.toNat).toInt.toNat 1)) Q
                  rw [lk]
                  have sm := mInv_set hB' hd32 hm (Nat.lt_succ_self j) (by omega) (show kk < 3 by omega) (by omega) (by omega)
                  refine next _ _ sm ?_ (fun k hk' w1 w2 => ?_)
                  · simp only [pmSet, if_true]; split
                    · decide
                    · exact hm
                  · simp only [pmSet, if_true]; split
                    · decide
                    · rename_i ne
                      by_cases e : k = kk
                      · subst e; exact absurd rfl ne
                      · exact hc k (by omega) w1 w2
              · have q2' : ¬ (B' 4 (x * Int32.ofInt 3 + i32 kk).toInt.toNat).toInt < x.toInt := q2
                rw [lk] at q2'
                refine next B' _ hB' hm (fun k hk' w1 w2 => ?_)
                by_cases e : k = kk
                · subst e; omega
                · exact hc k (by omega) w1 w2
          · have q' : ¬ (i32 kk).toInt < (Int32.ofInt 3).toInt := q
            rw [ki, oI3] at q'; omega
      refine hW [33, 75] 30 _ _ _ _ _ _ ?_
      refine ⟨fun q => ?_, fun q => ⟨?_, ⟨fun z => ?_, fun z => ?_⟩⟩⟩
      · have q' : x.toInt < 0 := q
        omega
      · show 0 ≤ x.toInt ∧ x.toInt < 32
        omega
      · have z' : B 8 x.toInt.toNat = 0 := z
        rw [xn] at z'
        exact back B (mInv_lo hB fun w => absurd z' w)
      · have z' : ¬ B 8 x.toInt.toNat = 0 := z
        rw [xn] at z'
        exact inner 3 0 B rfl hB z' (fun k hk => by omega)
  refine hW [18] 40 _ _ _ _ _ _ ?_
  refine inRange_ok hW (fun _ _ _ => ?_) (fun w => absurd ⟨b0, b1, b2⟩ w)
  refine ⟨fun z => absurd z n10, fun _ => ⟨⟨b0, by show id.toInt < 32; exact b2⟩, ?_⟩⟩
  show W k_markReach 18 [.val (.ref 1), .val (.int id), .val (.int id), .unset, .unset] [] (nst n I (pmSet A 8 id.toInt.toNat 1)) Q
  rw [hd]
  refine outer (d + 1) id _ (by omega) (Nat.le_refl _) ⟨fun r hr => ?_, fun i _ hm => ?_, by simp [pmSet], fun i h1 h2 => by omega, fun P p1 p2 p3 i hi hm => ?_, fun i hi => ?_⟩
  · funext j; simp [pmSet, hr]
  · simp only [pmSet, if_true]; split
    · decide
    · exact hm
  · by_cases e : i = d
    · subst e; exact p2
    · exact p1 i hi (by simpa [pmSet, e] using hm)
  · by_cases e : i = d
    · right; simp [pmSet, e]
    · left; simp [pmSet, e]
def isR (lk : Nat → Int32) (d : Nat) (R : Nat → Prop) : Prop := R d ∧ mClo lk 0 d R ∧ ∀ P : Nat → Prop, P d → mClo lk 0 d P → ∀ i, i < 32 → R i → P i
def cntF (p : Nat → Bool) : Nat → Nat
  | 0 => 0
  | c + 1 => cntF p c + (if p c = true then 1 else 0)
theorem cntF_le (p : Nat → Bool) (c : Nat) : cntF p c ≤ c := by
  induction c with
  | zero => exact Nat.le_refl _
  | succ c ih => simp only [cntF]; split <;> omega
/-- the marks alone: cleared, then the reach of d -/
theorem reach_ok (hW : Clo W) (hF : Fgt W) {n : Nat} {I : Nat → Int32} {A : Nat → Nat → Int32} {id : Int32} {Q : Pst} (b0 : 0 ≤ id.toInt) (b1 : id.toInt < (I 3).toInt) (b2 : id.toInt < 32) (hA : ∀ i, i < 32 → A 8 i = 0)
    (hq : ∀ B : Nat → Nat → Int32, (∀ r, r ≠ 8 → B r = A r) → isR (A 4) id.toInt.toNat (fun i => ¬ B 8 i = 0) → (∀ i, i < 32 → B 8 i = 0 ∨ B 8 i = 1) → Q none (nst n I B)) :
    W k_markReach 0 [.val (.ref 1), .val (.int id), .unset, .unset, .unset] [] (nst n I A) Q := by
  refine markReach_ok hW hF b0 b1 b2 fun B hB => ?_
  obtain ⟨a1, a2, a3, a4, a5, a6⟩ := hB
  refine hq B a1 ⟨a3, a4, fun P p1 p2 i hi hm => a5 P (fun j hj w => absurd (hA j hj) w) p1 p2 i hi hm⟩ (fun i hi => ?_)
  rcases a6 i hi with w | w
  · left; rw [w, hA i hi]
  · right; exact w
theorem give_ok (hW : Clo W) (hF : Fgt W) {n : Nat} {I : Nat → Int32} {A : Nat → Nat → Int32} {s id : Int32} {Q : Pst} (c0 : 0 ≤ (I 3).toInt) (c1 : (I 3).toInt ≤ 32)
    (h0 : ¬ (I 6 = 0 ∧ (s = 0 ∨ s = 1) ∧ (0 ≤ id.toInt ∧ id.toInt < (I 3).toInt ∧ id.toInt < 32)) → Q (some (.int (-1))) (nst n I A))
    (h1 : I 6 = 0 → (s = 0 ∨ s = 1) → 0 ≤ id.toInt → id.toInt < (I 3).toInt → id.toInt < 32 → ∀ B : Nat → Nat → Int32, (∀ r, r ≠ 5 → r ≠ 8 → B r = A r) → isR (A 4) id.toInt.toNat (fun i => ¬ B 8 i = 0) →
      (∀ j, B 5 j = if (32 * s.toInt.toNat ≤ j ∧ j < 32 * s.toInt.toNat + (I 3).toInt.toNat ∧ ¬ B 8 (j - 32 * s.toInt.toNat) = 0 ∧ A 5 j = 0) then 1 else A 5 j) →
      Q (some (.int (i32 (cntF (fun i => decide (¬ B 8 i = 0) && decide (A 5 (32 * s.toInt.toNat + i) = 0)) (I 3).toInt.toNat)))) (nst n I B)) :
    W k_give 0 [.val (.ref 1), .val (.int s), .val (.int id), .unset, .unset, .unset] [] (nst n I A) Q := by
  have body : I 6 = 0 → (s = 0 ∨ s = 1) → W k_give 16 [.val (.ref 1), .val (.int s), .val (.int id), .unset, .unset, .unset] [] (nst n I A) Q := by
    intro hp hs
    have s0 : 0 ≤ s.toInt ∧ s.toInt ≤ 1 := by rcases hs with rfl | rfl <;> decide
    refine hW [46] 50 _ _ _ _ _ _ ?_
    refine inRange_ok hW (fun a b c => ?_) (fun d => ?_)
    · refine ⟨fun z => absurd z n10, fun _ => ?_⟩
      refine clearMark_ok hW fun A1 z1 z2 => ?_
      refine reach_ok hW hF a b c z1 fun B f1 f2 f3 => ?_
      have f1' : ∀ r, r ≠ 8 → B r = A r := fun r hr => (f1 r hr).trans (z2 r hr)
      have f2' : isR (A 4) id.toInt.toNat (fun i => ¬ B 8 i = 0) := by rw [← z2 4 (by decide)]; exact f2
      generalize hc : (I 3).toInt.toNat = cn at h1
      generalize hb : 32 * s.toInt.toNat = bs at h1
      have hci : (I 3).toInt = (cn : Int) := by omega
      have m32 : (s * Int32.ofInt 32).toInt = (bs : Int) := by rw [tI_mul (by rw [oI32]; omega) (by rw [oI32]; omega), oI32]; omega
      have loop : ∀ (m i : Nat) (B' : Nat → Nat → Int32), i + m = cn → (∀ r, r ≠ 5 → B' r = B r) → (∀ j, B' 5 j = if (bs ≤ j ∧ j < bs + i ∧ ¬ B 8 (j - bs) = 0 ∧ A 5 j = 0) then 1 else A 5 j) →
          W k_give 46 [.val (.ref 1), .val (.int s), .val (.int id), .val (.int (s * Int32.ofInt 32)), .val (.int (i32 (cntF (fun i => decide (¬ B 8 i = 0) && decide (A 5 (bs + i) = 0)) i))), .val (.int (i32 i))] [] (nst n I B') Q := by
        intro m
        induction m with
        | zero =>
          intro i B' hi g1 g2
          have ii : (i32 i).toInt = (i : Int) := i32_toInt (by omega)
          have fin : Q (some (.int (i32 (cntF (fun i => decide (¬ B 8 i = 0) && decide (A 5 (bs + i) = 0)) i)))) (nst n I B') := by
            have hi' : i = cn := by omega
            subst hi'
            have e8 : B' 8 = B 8 := g1 8 (by decide)
            have := h1 hp hs a b c B' (fun r r5 r8 => (g1 r r5).trans (f1' r r8)) (by rw [e8]; exact f2') (by rw [e8]; exact g2)
            rwa [e8] at this
          refine hW [] 20 _ _ _ _ _ _ ?_
          refine ⟨fun q => ?_, fun q => fin⟩
          have q' : (i32 i).toInt < (I 3).toInt := q
          omega
        | succ m ih =>
          intro i B' hi g1 g2
          have ii : (i32 i).toInt = (i : Int) := i32_toInt (by omega)
          have bi : (s * Int32.ofInt 32 + i32 i).toInt = (bs : Int) + i := by rw [tI_add (by omega) (by omega)]; omega
          have bn : (s * Int32.ofInt 32 + i32 i).toInt.toNat = bs + i := by omega
          have e8 : B' 8 = B 8 := g1 8 (by decide)
          have h5 : B' 5 (bs + i) = A 5 (bs + i) := by rw [g2, if_neg (by omega)]
          refine hW [46] 50 _ _ _ _ _ _ ?_
          refine ⟨fun q => ⟨fun q2 => ?_, fun q2 => ?_⟩, fun q => ?_⟩
          · refine ⟨?_, ⟨fun z => ?_, fun z => ⟨?_, ⟨fun z2 => ?_, fun z2 => ?_⟩⟩⟩⟩
            · show 0 ≤ (i32 i).toInt ∧ (i32 i).toInt < 32; omega
            · have z' : B' 8 (i32 i).toInt.toNat = 0 := z
              have in' : (i32 i).toInt.toNat = i := by omega
              rw [in', e8] at z'
              show W k_give 46 [.val (.ref 1), .val (.int s), .val (.int id), .val (.int (s * Int32.ofInt 32)), .val (.int (i32 (cntF (fun i => decide (¬ B 8 i = 0) && decide (A 5 (bs + i) = 0)) i))), .val (.int (i32 i + Int32.ofInt 1))] [] (nst n I B') Q
              have := ih (i + 1) B' (by omega) g1 (fun j => by
                rw [g2]
                by_cases w : bs ≤ j ∧ j < bs + i ∧ ¬ B 8 (j - bs) = 0 ∧ A 5 j = 0
                · rw [if_pos w, if_pos ⟨w.1, by omega, w.2.2⟩]
                · rw [if_neg w, if_neg]
                  rintro ⟨w1, w2, w3, w4⟩
                  have : j = bs + i := by
                    have : ¬ j < bs + i := fun w5 => w ⟨w1, w5, w3, w4⟩
                    omega
                  subst this
                  rw [Nat.add_sub_cancel_left] at w3
                  exact w3 z')
              rw [i32_succ]
              simpa [cntF, z'] using this
            · show 0 ≤ (s * Int32.ofInt 32 + i32 i).toInt ∧ (s * Int32.ofInt 32 + i32 i).toInt < 64; omega
            · have z' : ¬ B' 8 (i32 i).toInt.toNat = 0 := z
              have in' : (i32 i).toInt.toNat = i := by omega
              rw [in', e8] at z'
              have z2' : B' 5 (s * Int32.ofInt 32 + i32 i).toInt.toNat = 0 := z2
              rw [bn, h5] at z2'
              refine ⟨?_, ?_⟩
              · show 0 ≤ (s * Int32.ofInt 32 + i32 i).toInt ∧ (s * Int32.ofInt 32 + i32 i).toInt < 64; omega
              · show W k_give 46 [.val (.ref 1), .val (.int s), .val (.int id), .val (.int (s * Int32.ofInt 32)), .val (.int (i32 (cntF (fun i => decide (¬ B 8 i = 0) && decide (A 5 (bs + i) = 0)) i) + Int32.ofInt 1)), .val (.int (i32 i + Int32.ofInt 1))] [] (nst n I (pmSet B' 5 (s * Int32.ofInt 32 + i32 i).toInt.toNat 1)) Q
                rw [bn, i32_succ, i32_succ]
                have := ih (i + 1) (pmSet B' 5 (bs + i) 1) (by omega) (fun r hr => by rw [pmSet_r _ _ _ hr]; exact g1 r hr) (fun j => by
                  by_cases e : j = bs + i
                  · subst e
                    rw [pmSet_eq, if_pos ⟨by omega, by omega, by rw [Nat.add_sub_cancel_left]; exact z', z2'⟩]
                  · rw [pmSet_ne _ _ _ e, g2]
                    by_cases w : bs ≤ j ∧ j < bs + i ∧ ¬ B 8 (j - bs) = 0 ∧ A 5 j = 0
                    · rw [if_pos w, if_pos ⟨w.1, by omega, w.2.2⟩]
                    · rw [if_neg w, if_neg]
                      rintro ⟨w1, w2, w3, w4⟩
                      exact w ⟨w1, by omega, w3, w4⟩)
                simpa [cntF, z', z2'] using this
            · have z' : ¬ B' 8 (i32 i).toInt.toNat = 0 := z
              have z2' : ¬ B' 5 (s * Int32.ofInt 32 + i32 i).toInt.toNat = 0 := z2
              rw [bn, h5] at z2'
              show W k_give 46 [.val (.ref 1), .val (.int s), .val (.int id), .val (.int (s * Int32.ofInt 32)), .val (.int (i32 (cntF (fun i => decide (¬ B 8 i = 0) && decide (A 5 (bs + i) = 0)) i))), .val (.int (i32 i + Int32.ofInt 1))] [] (nst n I B') Q
              have := ih (i + 1) B' (by omega) g1 (fun j => by
                rw [g2]
                by_cases w : bs ≤ j ∧ j < bs + i ∧ ¬ B 8 (j - bs) = 0 ∧ A 5 j = 0
                · rw [if_pos w, if_pos ⟨w.1, by omega, w.2.2⟩]
                · rw [if_neg w, if_neg]
                  rintro ⟨w1, w2, w3, w4⟩
                  have : j = bs + i := by
                    have : ¬ j < bs + i := fun w5 => w ⟨w1, w5, w3, w4⟩
                    omega
                  subst this
                  exact z2' w4)
              rw [i32_succ]
              simpa [cntF, z2'] using this
          · have q' : (i32 i).toInt < (I 3).toInt := q
            have q2' : ¬ (i32 i).toInt < (Int32.ofInt 32).toInt := q2
            rw [oI32] at q2'; omega
          · have q' : ¬ (i32 i).toInt < (I 3).toInt := q
            omega
      exact loop cn 0 B (by omega) (fun _ _ => rfl) (fun j => by rw [if_neg (by omega), f1' 5 (by decide)])
    · exact ⟨fun _ => h0 fun z => d z.2.2, fun z => absurd rfl z⟩
  refine hW [16] 20 _ _ _ _ _ _ ?_
  refine ⟨fun p => ⟨fun q => ?_, fun q => ⟨fun q2 => ?_, fun q2 => ?_⟩⟩, fun p => ?_⟩
  · exact body p (Or.inl q)
  · exact body p (Or.inr q2)
  · exact h0 fun z => z.2.1.elim q q2
  · exact h0 fun z => p z.1
/-! ## the law of g-0238x4-1 -/
def x4L (s e b t g c0 c1 s0 s1 kd l0 l1 : Int32) : List Slot := [.val (.int s), .val (.int e), .val (.ref 1), .val (.int b), .val (.int t), .val (.int g), .val (.int c0), .val (.int c1), .val (.int s0), .val (.int s1), .val (.int kd), .val (.int l0), .val (.int l1), .unset, .unset, .unset, .unset]
set_option maxHeartbeats 4000000 in
theorem x4_pos (hW : Clo W) {s e : Int32} {σ : Mem} (he : 0 < e.toInt) : W 0 89 (x4L s e 0 (-1) (-1) 0 0 0 0 0 (-1) (-1)) [] σ (fun v _ => v = some (.int 1)) := by
  have e1 : ¬ e = 0 := fun h => by rw [h, tI0] at he; omega
  refine hW [] 200 _ _ _ _ _ _ ?_
  repeat' (first
    | exact rfl
    | (refine ⟨fun q => ?_, fun q => ?_⟩ <;> first | (exfalso; first | exact absurd q (by decide) | exact absurd (by decide) q | contradiction | (have q2 : ¬ (0 : Int32).toInt < e.toInt := q; rw [tI0] at q2; omega)) | skip))
set_option maxHeartbeats 4000000 in
theorem x4_neg (hW : Clo W) {s e : Int32} {σ : Mem} (he : e.toInt < 0) :
    (s = 0 → W 0 89 (x4L s e 0 1 1 0 1 0 0 2 (-1) (-1)) [] σ (fun v _ => v = some (.int 1))) ∧ (s = 1 → W 0 89 (x4L s e 0 1 1 0 0 0 1 2 (-1) (-1)) [] σ (fun v _ => v = some (.int 1))) ∧ (¬ (s = 0 ∨ s = 1) → W 0 89 (x4L s e 0 1 (-1) 0 0 0 0 2 (-1) (-1)) [] σ (fun v _ => v = some (.int 1))) := by
  have e1 : ¬ e = 0 := fun h => by rw [h, tI0] at he; omega
  refine ⟨fun hs => ?_, fun hs => ?_, fun hs => ?_⟩
  · subst hs
    refine hW [] 200 _ _ _ _ _ _ ?_
    repeat' (first
      | exact rfl
      | (refine ⟨fun q => ?_, fun q => ?_⟩ <;> first | (exfalso; first | exact absurd q (by decide) | exact absurd (by decide) q | contradiction | (have q2 : (0 : Int32).toInt < e.toInt := q; rw [tI0] at q2; omega)) | skip))
  · subst hs
    refine hW [] 200 _ _ _ _ _ _ ?_
    repeat' (first
      | exact rfl
      | (refine ⟨fun q => ?_, fun q => ?_⟩ <;> first | (exfalso; first | exact absurd q (by decide) | exact absurd (by decide) q | contradiction | (have q2 : (0 : Int32).toInt < e.toInt := q; rw [tI0] at q2; omega)) | skip))
  · have s0 : ¬ s = 0 := fun h => hs (Or.inl h)
    have s1 : ¬ s = 1 := fun h => hs (Or.inr h)
    have s1' : ¬ s = Int32.ofInt 1 := s1
    refine hW [] 200 _ _ _ _ _ _ ?_
    repeat' (first
      | exact rfl
      | (refine ⟨fun q => ?_, fun q => ?_⟩ <;> first | (exfalso; first | exact absurd q (by decide) | exact absurd (by decide) q | contradiction | exact s1 q | (have q2 : (0 : Int32).toInt < e.toInt := q; rw [tI0] at q2; omega)) | skip))
set_option maxHeartbeats 4000000 in
theorem x4_zero (hW : Clo W) {s : Int32} {σ : Mem} :
    (s = 0 → W 0 89 (x4L s 0 0 1 2 1 1 0 0 2 0 0) [] σ (fun v _ => v = some (.int 1))) ∧ (s = 1 → W 0 89 (x4L s 0 0 1 2 0 0 1 1 2 0 0) [] σ (fun v _ => v = some (.int 1))) ∧ (¬ (s = 0 ∨ s = 1) → W 0 89 (x4L s 0 0 1 (-1) 0 0 0 0 2 0 0) [] σ (fun v _ => v = some (.int 1))) := by
  refine ⟨fun hs => ?_, fun hs => ?_, fun hs => ?_⟩
  · subst hs
    refine hW [] 200 _ _ _ _ _ _ ?_
    repeat' (first
      | exact rfl
      | (refine ⟨fun q => ?_, fun q => ?_⟩ <;> first | (exfalso; first | exact absurd q (by decide) | exact absurd (by decide) q) | skip))
  · subst hs
    refine hW [] 200 _ _ _ _ _ _ ?_
    repeat' (first
      | exact rfl
      | (refine ⟨fun q => ?_, fun q => ?_⟩ <;> first | (exfalso; first | exact absurd q (by decide) | exact absurd (by decide) q) | skip))
  · have s0 : ¬ s = 0 := fun h => hs (Or.inl h)
    have s1 : ¬ s = 1 := fun h => hs (Or.inr h)
    refine hW [] 200 _ _ _ _ _ _ ?_
    repeat' (first
      | exact rfl
      | (refine ⟨fun q => ?_, fun q => ?_⟩ <;> first | (exfalso; first | exact absurd q (by decide) | exact absurd (by decide) q | contradiction | exact s1 q) | skip))
/-- the first object made, the memory stands so -/
def x4A1 : Nat → Nat → Int32 := fDef (fun _ _ => 0) 0 (Int32.ofInt 1) (Int32.ofInt 0) (Int32.ofInt (-1)) (Int32.ofInt (-1)) (Int32.ofInt (-1))
def x4I1 : Nat → Int32 := fSt (fI (Int32.ofInt 8) (Int32.ofInt 1) (Int32.ofInt 1)) 3 (0 + Int32.ofInt 1)
def x4A2 (e : Int32) : Nat → Nat → Int32 := fDef x4A1 1 (Int32.ofInt 2) (Int32.ofInt 0) (nrm e) (nrm e) (nrm (Int32.ofInt (-1)))
def x4I2 : Nat → Int32 := fSt x4I1 3 (0 + Int32.ofInt 1 + Int32.ofInt 1)
theorem x4A2_5 (e : Int32) (j : Nat) : x4A2 e 5 j = 0 := by
  simp only [x4A2, x4A1, fDef, pmSet]
  repeat' split
  all_goals first | rfl | simp_all
set_option maxHeartbeats 4000000 in
theorem law_ok (hW : Clo W) (hF : Fgt W) (s e : Int32) : W 0 0 (pmEntry (t_ml 0) [.int s, .int e]) [] (0, 0, [], fun _ _ => 0) (fun v _ => v = some (.int 1)) := by
  have i13 : (x4I1 3).toInt = 1 := by decide
  have i10 : (x4I1 0).toInt = 8 := by decide
  have i23 : (x4I2 3).toInt = 2 := by decide
  refine hW [32] 100 _ _ _ _ _ _ ?_
  refine ⟨by decide, ?_⟩
  refine init_ok hW (F := []) ?_
  refine addBlob_ok hW (by decide) (by decide) (fun _ => ?_) (fun w => absurd (by decide) w)
  show W k_addTree 0 [.val (.ref 1), .val (.int e), .val (.int e), .val (.int (Int32.ofInt (-1))), .unset, .unset, .unset] [] (nst 0 x4I1 x4A1) _
  by_cases he : 0 < e.toInt
  · -- no such object
    have nv : ¬ vE x4I1 x4A1 e := by
      rintro (w | ⟨_, w, _⟩)
      · omega
      · rw [i13] at w; omega
    refine addTree_ok hW (by rw [i13]; omega) (by rw [i10]; omega) (fun _ w => absurd w nv) (fun _ => ?_)
    refine give_ok hW hF (by rw [i13]; omega) (by rw [i13]; omega) (fun _ => ?_) (fun _ _ _ w => absurd w (by rw [i13]; decide))
    refine hW [89] 80 _ _ _ _ _ _ ?_
    refine has_ok hW (fun _ _ _ _ => ?_) (fun w => absurd ⟨Or.inl rfl, by decide, by decide, by decide⟩ w)
    refine has_ok hW (fun _ _ w => absurd w (by decide)) (fun _ => ?_)
    refine has_ok hW (fun _ _ _ _ => ?_) (fun w => absurd ⟨Or.inr rfl, by decide, by decide, by decide⟩ w)
    refine has_ok hW (fun _ _ w => absurd w (by decide)) (fun _ => ?_)
    refine kindOf_ok hW (fun _ w => absurd w (by decide)) (fun _ => ?_)
    refine link_ok hW (fun _ w => absurd w (by decide)) (fun _ => ?_)
    refine link_ok hW (fun _ w => absurd w (by decide)) (fun _ => ?_)
    exact x4_pos hW he
  · have hv : vE x4I1 x4A1 e := by
      by_cases h0 : e.toInt < 0
      · exact Or.inl h0
      · have e0 : e = 0 := Int32.toInt_inj.mp (by rw [tI0]; omega)
        subst e0
        exact Or.inr ⟨by decide, by decide, by decide, by decide⟩
    refine addTree_ok hW (by rw [i13]; omega) (by rw [i10]; omega) (fun _ _ _ _ => ?_) (fun w => absurd ⟨by decide, hv, hv, Or.inl (by decide)⟩ w)
    show W k_give 0 [.val (.ref 1), .val (.int s), .val (.int (Int32.ofInt 1)), .unset, .unset, .unset] [] (nst 0 x4I2 (x4A2 e)) _
    have kd : x4A2 e 2 1 = 2 := rfl
    have l0 : x4A2 e 4 3 = nrm e := rfl
    have l1 : x4A2 e 4 4 = nrm e := rfl
    have l2 : x4A2 e 4 5 = Int32.ofInt (-1) := rfl
    -- what stands behind give
    have fin : ∀ (B : Nat → Nat → Int32) (g : Int32), (∀ r, r ≠ 5 → r ≠ 8 → B r = x4A2 e r) →
        W 0 89 (x4L s e 0 1 g (B 5 0 &&& 1) (B 5 1 &&& 1) (B 5 32 &&& 1) (B 5 33 &&& 1) 2 (nrm e) (nrm e)) [] (nst 0 x4I2 B) (fun v _ => v = some (.int 1)) →
        W 0 32 [.val (.int s), .val (.int e), .val (.ref 1), .val (.int 0), .val (.int 1), .unset, .unset, .unset, .unset, .unset, .unset, .unset, .unset, .unset, .unset, .unset, .unset] [.int g] (nst 0 x4I2 B) (fun v _ => v = some (.int 1)) := by
      intro B g hB h
      refine hW [89] 80 _ _ _ _ _ _ ?_
      refine has_ok hW (fun _ _ _ _ => ?_) (fun w => absurd ⟨Or.inl rfl, by decide, by decide, by decide⟩ w)
      refine has_ok hW (fun _ _ _ _ => ?_) (fun w => absurd ⟨Or.inl rfl, by decide, by decide, by decide⟩ w)
      refine has_ok hW (fun _ _ _ _ => ?_) (fun w => absurd ⟨Or.inr rfl, by decide, by decide, by decide⟩ w)
      refine has_ok hW (fun _ _ _ _ => ?_) (fun w => absurd ⟨Or.inr rfl, by decide, by decide, by decide⟩ w)
      refine kindOf_ok hW (fun _ _ _ => ?_) (fun w => absurd ⟨by decide, by decide, by decide⟩ w)
      refine link_ok hW (fun _ _ _ _ _ => ?_) (fun w => absurd ⟨⟨by decide, by decide, by decide⟩, by decide, by decide⟩ w)
      refine link_ok hW (fun _ _ _ _ _ => ?_) (fun w => absurd ⟨⟨by decide, by decide, by decide⟩, by decide, by decide⟩ w)
      show W 0 89 (x4L s e 0 1 g (B 5 0 &&& 1) (B 5 1 &&& 1) (B 5 32 &&& 1) (B 5 33 &&& 1) (B 2 1) (B 4 3) (B 4 4)) [] (nst 0 x4I2 B) (fun v _ => v = some (.int 1))
      rw [hB 2 (by decide) (by decide), hB 4 (by decide) (by decide), kd, l0, l1]
      exact h
    refine give_ok hW hF (by rw [i23]; omega) (by rw [i23]; omega) (fun w => ?_) (fun _ hs _ _ _ B g1 g2 g3 => ?_)
    · have hs : ¬ (s = 0 ∨ s = 1) := fun z => w ⟨by decide, z, by decide, by decide, by decide⟩
      refine fin (x4A2 e) _ (fun _ _ _ => rfl) ?_
      rw [x4A2_5, x4A2_5, x4A2_5, x4A2_5]
      by_cases h0 : e.toInt < 0
      · have en : nrm e = -1 := if_pos h0
        rw [en]; exact (x4_neg hW h0).2.2 hs
      · have e0 : e = 0 := Int32.toInt_inj.mp (by rw [tI0]; omega)
        subst e0
        exact (x4_zero hW).2.2 hs
    · have c2 : (x4I2 3).toInt.toNat = 2 := by decide
      have dn : (Int32.ofInt 1).toInt.toNat = 1 := by decide
      rw [dn] at g2
      have hB5 : ∀ j, B 5 j = if (32 * s.toInt.toNat ≤ j ∧ j < 32 * s.toInt.toNat + 2 ∧ ¬ B 8 (j - 32 * s.toInt.toNat) = 0) then 1 else 0 := by
        intro j
        rw [g3 j, x4A2_5, c2]
        simp
      have m1 : ¬ B 8 1 = 0 := g2.1
      rw [c2]
      by_cases h0 : e.toInt < 0
      · have en : nrm e = Int32.ofInt (-1) := if_pos h0
        have m0 : B 8 0 = 0 := by
          refine Classical.byContradiction fun w => ?_
          have := g2.2.2 (fun i => i = 1) rfl (fun i _ h1 h2 k hk q1 q2 => ?_) 0 (by decide) w
          · exact absurd this (by decide)
          · exfalso
            have h2' : i = 1 := h2
            subst h2'
            have hk' : k = 0 ∨ k = 1 ∨ k = 2 := by omega
            rcases hk' with rfl | rfl | rfl
            · rw [show 3 * 1 + 0 = 3 from rfl, l0, en] at q1; exact absurd q1 (by decide)
            · rw [show 3 * 1 + 1 = 4 from rfl, l1, en] at q1; exact absurd q1 (by decide)
            · rw [show 3 * 1 + 2 = 5 from rfl, l2] at q1; exact absurd q1 (by decide)
        have cn : cntF (fun i => decide (¬ B 8 i = 0) && decide (x4A2 e 5 (32 * s.toInt.toNat + i) = 0)) 2 = 1 := by simp [cntF, m0, m1, x4A2_5]
        rw [cn]
        refine fin B _ g1 ?_
        rw [hB5, hB5, hB5, hB5, en]
        rcases hs with rfl | rfl
        · simp [m0, m1, tI0]; exact (x4_neg hW h0).1 rfl
        · simp [m0, m1, tI1]; exact (x4_neg hW h0).2.1 rfl
      · have e0 : e = 0 := Int32.toInt_inj.mp (by rw [tI0]; omega)
        subst e0
        have m0 : ¬ B 8 0 = 0 := by
          have := g2.2.1 1 (by decide) (by decide) m1 0 (by decide) (by decide) (by decide)
          exact this
        have cn : cntF (fun i => decide (¬ B 8 i = 0) && decide (x4A2 0 5 (32 * s.toInt.toNat + i) = 0)) 2 = 2 := by simp [cntF, m0, m1, x4A2_5]
        rw [cn]
        refine fin B _ g1 ?_
        rw [hB5, hB5, hB5, hB5]
        rcases hs with rfl | rfl
        · simp [m0, m1, tI0]; exact (x4_zero hW).1 rfl
        · simp [m0, m1, tI1]; exact (x4_zero hW).2.1 rfl
theorem pmEnd0 : ∀ a, pmROk 0 0 a → a ≤ t_full → pmBC 0 a ≤ 32 ∧ pmBS 0 a ≤ 1088 := by
  have h : ∀ a : Fin (t_full + 1), pmBC 0 a.1 ≤ 32 ∧ pmBS 0 a.1 ≤ 1088 := by decide +kernel
  exact fun a _ ha => h ⟨a, Nat.lt_succ_of_le ha⟩
set_option maxRecDepth 65536 in
set_option maxHeartbeats 4000000 in
theorem comes_1 {Post : Tables → Env → Array Value → State → Outcome → State → Prop} (hpost : ∀ tb e args s v u, (limb_1_1.after args s (.returned v) u = true ∧ limb_1_2.after args s (.returned v) u = true ∧ True) → FrameEnd s (.returned v) u (Jvm.fieldLocs frame_1_writes args s ++ Jvm.arrayLocs frame_1_arrays args s ++ Jvm.staticLocs frame_1_statics s) 32 1088 → Post tb e args s (.returned v) u) :
    ArmFor flags0 classFile x code maxLocals ret World_1 tables_1 room_1 Calls_1 rest_1 Pre_1 Post := by
  intro l hfl _ _ p e ha hc hk s m args below hf hA hF happ hP
  obtain ⟨hcalls, hrest, hpre⟩ := hP
  obtain ⟨-, -, -, hnamed, -, -, -, hat⟩ := (Spec.applies_iff hf).mp happ
  obtain ⟨hg, hn⟩ := and_e (Cond.before_iff.mp (show (Jvm.Cond.and given_1 narrow_1).before args s = true from hpre))
  obtain ⟨hcnt, g0⟩ := and_e hg
  obtain ⟨v0, g1⟩ := and_e g0
  obtain ⟨w0, w1, rfl⟩ : ∃ w0 w1 : Value, args = #[w0, w1] := by
    have hs : args.size = 2 := by simpa [Cond.value, given_1] using hcnt
    obtain ⟨L⟩ := args
    match L, hs with
    | [w0, w1], _ => exact ⟨w0, w1, rfl⟩
  have hw := fun d (hd : d ∈ tables_1) => atoms_spec (ws := Jvm.Cond.code x code maxLocals ret :: tables_1) hat d (List.mem_cons_of_mem _ hd)
  have hfit : Fit s := fun {y c} hc i hi => by
    obtain ⟨ha, rfl⟩ := Array.getElem?_eq_some_iff.mp hc
    have q := List.all_eq_true.mp ((Array.all_eq_true_iff_forall_mem.mp hF) _ (Array.getElem_mem ha)) i (List.mem_range.mpr hi)
    simpa [Array.getElem?_eq_getElem hi] using q
  obtain ⟨i0, ei0⟩ := is_v v0
  obtain rfl : w0 = (.int i0) := Option.some.inj ei0
  obtain ⟨i1, ei1⟩ := is_v g1
  obtain rfl : w1 = (.int i1) := Option.some.inj ei1
  have hR : pmRel s s.heap.size 0 (0, 0, [], fun _ _ => 0) s.heap := ⟨rfl, Nat.zero_le _, fun h => absurd h (by decide), fun h => absurd h (by decide), fun r q hq => ⟨fun h => absurd h (by simp), fun _ _ _ => rfl⟩⟩
  have H : WM l s s.heap.size 0 0 0 (pmEntry (t_ml 0) [.int i0, .int i1]) [] (0, 0, [], fun _ _ => 0) (fun v _ => v = some (.int 1)) := law_ok (fun cut n k pc Ls S σ Q h => pmClosed hw cut n k pc Ls S σ Q h) (fun k pc Ls Ls' S σ Q h1 h2 => pmForget h1 h2) i0 i1
  have M := pmMet (l := l) hw (k := 0) tables_1 H hR pn_L (by intro v hv b e; subst e; simp at hv) rfl rfl rfl 32 1088 pmEnd0
  obtain ⟨n, o, h1, h2, h3, v, L, rfl, ⟨w, σ', rfl, rfl, -, N, -⟩, hq⟩ := M p e ha hc hk s m _ below hf ((Spec.applies_iff_loose hf).mp happ).1 ⟨rfl, State.Warmed39.refl s, rfl⟩ trivial
  refine ⟨n, _, h1, h2, h3, hpost _ _ _ _ _ _ ⟨Cond.after_iff.mpr rfl, Cond.after_iff.mpr (eq_i res_at (Term.int_eval (1)) rfl), trivial⟩ ⟨hq.1, hq.2.1, (hq.2.2.sift fun y hy => Or.inr (N y hy)).mono (by decide) (by decide)⟩⟩
theorem main_1_1 : Claimed_1_1 := comes_1 fun _ _ _ _ _ _ h hF => ⟨h.1, hF⟩
theorem main_1_2 : Claimed_1_2 := comes_1 fun _ _ _ _ _ _ h hF => ⟨h.2.1, hF⟩
end Jvm.Pilot.@@N@@
namespace Jvm.Pilot.@@N@@
open Jvm Jvm.ClassFile Sem Op Lib Jvm.Free Jvm.Stand Jvm.Pilot.@@N@@.Jvm.D
/-! MADE BY PROGRAM (witnessworld.py) out of the Statement's table words and the real class files: 11 classes; the members and pool entries that the words name. The judged class is class 1, her method 1. -/
namespace start1
open Jvm.ClassFile
def u (s : String) : CpInfo := .utf8 (stringToUtf16 s)
/-- a pool by its gaps: so many unusable entries, then the entry; so many at the end -/
def gap : Nat → List CpInfo → List CpInfo
  | 0, r => r
  | n + 1, r => .unusable :: gap n r
def poolList (es : List (Nat × CpInfo)) (last : Nat) : List CpInfo := es.foldr (fun e r => gap e.1 (e.2 :: r)) (gap last [])
def pool (es : List (Nat × CpInfo)) (last : Nat) : Array CpInfo := ⟨poolList es last⟩
def fileOf (pool : Array CpInfo) (this : Nat) (attrs : Array Attribute := #[]) (ms : Array MethodInfo := #[]) (fl : Nat := 33) (sup : Nat := 0) (ifs : Array Nat := #[]) (fds : Array FieldInfo := #[]) : ClassFile where
  minorVersion := 0
  majorVersion := 65
  constantPool := pool
  accessFlags := fl
  thisClass := this
  superClass := sup
  interfaces := ifs
  fields := fds
  methods := ms
  attributes := attrs
def plain (name : String) (sup : Option ClassId) : Class where
  name := name
  kind := .ordinary
  loader := none
  accessFlags := 33
  super := sup
  interfaces := #[]
  cf := none
  fields := #[]
  methods := #[]
  instanceTypes := #[]
  staticTypes := #[]
  resolved := #[]
  callSites := []
  init := .initialized
  statics := none
  mirror := none

def pool0 : Array CpInfo := pool [(5, u "<init>"), (0, u "()V"), (1, .class_ 10), (1, u "java/lang/Object")] 113

def k0c0 : Code := { maxStack := 0, maxLocals := 1, code := object_method_1_code, exceptionTable := #[], attributes := #[] }
def k0m0 : Method := { name := "<init>", desc := "()V", sig := { parameters := [], returnType := none }, accessFlags := 1, code := some k0c0 }
/-- java/lang/Object -/
def k0 : Class := { plain "java/lang/Object" none with
  accessFlags := 33
  interfaces := #[]
  cf := some (fileOf pool0 8 #[] #[{ accessFlags := 1, nameIndex := 5, descriptorIndex := 6, attributes := #[] }] 33 0 #[] #[])
  fields := #[]
  methods := #[k0m0]
  instanceTypes := #[]
  staticTypes := #[]
  resolved := Array.replicate 124 none
  statics := none }

def pool1 : Array CpInfo := pool [(2, .class_ 4), (1, u "java/lang/Object"), (0, u "<init>"), (0, u "()V"), (0, .class_ 8), (0, u "FetchNegotiator"), (0, .methodref 7 10), (0, .nameAndType 5 11), (0, u "(III)V"), (0, .methodref 7 13), (0, .nameAndType 14 15), (0, u "addBlob"), (0, u "()I"), (0, .methodref 7 17), (0, .nameAndType 18 19), (0, u "addTree"), (0, u "(III)I"), (0, .methodref 7 21), (0, .nameAndType 22 23), (0, u "give"), (0, u "(II)I"), (0, .methodref 7 25), (0, .nameAndType 26 27), (0, u "has"), (0, u "(II)Z"), (0, .methodref 7 29), (0, .nameAndType 30 31), (0, u "kindOf"), (0, u "(I)I"), (0, .methodref 7 33), (0, .nameAndType 34 23), (0, u "link"), (0, .class_ 36), (0, u "FetchNegotiatorL2"), (2, u "law")] 3

def k1m0 : Method := { name := "<init>", desc := "()V", sig := { parameters := [], returnType := none }, accessFlags := 1, code := none }
def k1c1 : Code := { maxStack := 5, maxLocals := 17, code := code, exceptionTable := #[], attributes := #[] }
def k1m1 : Method := { name := "law", desc := "(II)Z", sig := { parameters := [.int, .int], returnType := some .boolean }, accessFlags := 9, code := some k1c1 }
/-- FetchNegotiatorL2 -/
def k1 : Class := { plain "FetchNegotiatorL2" (some 0) with
  accessFlags := 33
  interfaces := #[]
  cf := some (fileOf pool1 35 #[] #[{ accessFlags := 1, nameIndex := 5, descriptorIndex := 6, attributes := #[] }, { accessFlags := 9, nameIndex := 39, descriptorIndex := 27, attributes := #[] }] 33 2 #[] #[])
  fields := #[]
  methods := #[k1m0, k1m1]
  instanceTypes := #[]
  staticTypes := #[]
  resolved := Array.replicate 43 none
  statics := none }

def pool2 : Array CpInfo := pool [(1, .methodref 2 3), (0, .class_ 4), (0, .nameAndType 5 6), (0, u "java/lang/Object"), (0, u "<init>"), (0, u "()V"), (0, .fieldref 8 9), (0, .class_ 10), (0, .nameAndType 11 12), (0, u "FetchNegotiator"), (0, u "kind"), (0, u "[B"), (0, .fieldref 8 14), (0, .nameAndType 15 16), (0, u "time"), (0, u "[I"), (0, .fieldref 8 18), (0, .nameAndType 19 16), (0, u "link"), (0, .fieldref 8 21), (0, .nameAndType 22 23), (0, u "held"), (0, u "[Z"), (0, .fieldref 8 25), (0, .nameAndType 26 12), (0, u "flags"), (0, .fieldref 8 28), (0, .nameAndType 29 16), (0, u "sentList"), (0, .fieldref 8 31), (0, .nameAndType 32 23), (0, u "mark"), (0, .fieldref 8 34), (0, .nameAndType 35 16), (0, u "stack"), (0, .fieldref 8 37), (0, .nameAndType 38 23), (0, u "ackMark"), (0, .methodref 8 40), (0, .nameAndType 41 42), (0, u "clamp"), (0, u "(III)I"), (0, .fieldref 8 44), (0, .nameAndType 45 46), (0, u "cap"), (0, u "I"), (0, .fieldref 8 48), (0, .nameAndType 49 46), (0, u "batch"), (0, .fieldref 8 51), (0, .nameAndType 52 46), (0, u "maxRounds"), (0, .fieldref 8 54), (0, .nameAndType 55 46), (0, u "count"), (0, .fieldref 8 57), (0, .nameAndType 58 46), (0, u "sentCount"), (0, .fieldref 8 60), (0, .nameAndType 61 46), (0, u "roundsDone"), (0, .fieldref 8 63), (0, .nameAndType 64 46), (0, u "phaseNow"), (0, .fieldref 8 66), (0, .nameAndType 67 68), (0, u "lastConnected"), (0, u "Z"), (0, .methodref 8 70), (0, .nameAndType 71 72), (0, u "define"), (0, u "(IIIII)I"), (0, .methodref 8 74), (0, .nameAndType 75 76), (0, u "validEntry"), (0, u "(I)Z"), (0, .methodref 8 78), (0, .nameAndType 79 80), (0, u "norm"), (0, u "(I)I"), (0, .methodref 8 82), (0, .nameAndType 83 76), (0, u "inRange"), (3, .methodref 8 88), (0, .nameAndType 89 6), (0, u "clearMark"), (0, .methodref 8 91), (0, .nameAndType 92 93), (0, u "markReach"), (0, u "(I)V"), (3, u "(II)Z"), (17, u "()I"), (15, u "NONE"), (2, u "BLOB"), (1, u "TREE"), (1, u "COMMIT"), (1, u "CLIENT"), (0, u "SERVER"), (0, u "WANTED"), (0, u "SENT"), (0, u "ACKED"), (1, u "COMMON"), (1, u "IN_PACK"), (1, u "IDLE"), (0, u "NEGOTIATING"), (0, u "DONE"), (0, u "PACKED"), (0, u "(III)V"), (2, u "addBlob"), (1, u "addTree"), (2, u "give"), (0, u "(II)I"), (5, u "kindOf"), (0, u "has")] 6

def k2c0 : Code := { maxStack := 5, maxLocals := 4, code := prog_1_method_1_code, exceptionTable := #[], attributes := #[] }
def k2m0 : Method := { name := "<init>", desc := "(III)V", sig := { parameters := [.int, .int, .int], returnType := none }, accessFlags := 1, code := some k2c0 }
def k2c1 : Code := { maxStack := 6, maxLocals := 1, code := prog_1_method_2_code, exceptionTable := #[], attributes := #[] }
def k2m1 : Method := { name := "addBlob", desc := "()I", sig := { parameters := [], returnType := some .int }, accessFlags := 1, code := some k2c1 }
def k2c2 : Code := { maxStack := 6, maxLocals := 7, code := prog_1_method_3_code, exceptionTable := #[], attributes := #[] }
def k2m2 : Method := { name := "addTree", desc := "(III)I", sig := { parameters := [.int, .int, .int], returnType := some .int }, accessFlags := 1, code := some k2c2 }
def k2c3 : Code := { maxStack := 3, maxLocals := 6, code := prog_1_method_5_code, exceptionTable := #[], attributes := #[] }
def k2m3 : Method := { name := "give", desc := "(II)I", sig := { parameters := [.int, .int], returnType := some .int }, accessFlags := 1, code := some k2c3 }
def k2c4 : Code := { maxStack := 2, maxLocals := 2, code := prog_1_method_11_code, exceptionTable := #[], attributes := #[] }
def k2m4 : Method := { name := "kindOf", desc := "(I)I", sig := { parameters := [.int], returnType := some .int }, accessFlags := 1, code := some k2c4 }
def k2c5 : Code := { maxStack := 3, maxLocals := 3, code := prog_1_method_12_code, exceptionTable := #[], attributes := #[] }
def k2m5 : Method := { name := "link", desc := "(II)I", sig := { parameters := [.int, .int], returnType := some .int }, accessFlags := 1, code := some k2c5 }
def k2c6 : Code := { maxStack := 3, maxLocals := 3, code := prog_1_method_13_code, exceptionTable := #[], attributes := #[] }
def k2m6 : Method := { name := "has", desc := "(II)Z", sig := { parameters := [.int, .int], returnType := some .boolean }, accessFlags := 1, code := some k2c6 }
def k2c7 : Code := { maxStack := 2, maxLocals := 4, code := prog_1_method_18_code, exceptionTable := #[], attributes := #[] }
def k2m7 : Method := { name := "clamp", desc := "(III)I", sig := { parameters := [.int, .int, .int], returnType := some .int }, accessFlags := 2, code := some k2c7 }
def k2c8 : Code := { maxStack := 2, maxLocals := 2, code := prog_1_method_19_code, exceptionTable := #[], attributes := #[] }
def k2m8 : Method := { name := "inRange", desc := "(I)Z", sig := { parameters := [.int], returnType := some .boolean }, accessFlags := 2, code := some k2c8 }
def k2c9 : Code := { maxStack := 1, maxLocals := 2, code := prog_1_method_20_code, exceptionTable := #[], attributes := #[] }
def k2m9 : Method := { name := "norm", desc := "(I)I", sig := { parameters := [.int], returnType := some .int }, accessFlags := 2, code := some k2c9 }
def k2c10 : Code := { maxStack := 2, maxLocals := 2, code := prog_1_method_21_code, exceptionTable := #[], attributes := #[] }
def k2m10 : Method := { name := "validEntry", desc := "(I)Z", sig := { parameters := [.int], returnType := some .boolean }, accessFlags := 2, code := some k2c10 }
def k2c11 : Code := { maxStack := 3, maxLocals := 7, code := prog_1_method_23_code, exceptionTable := #[], attributes := #[] }
def k2m11 : Method := { name := "define", desc := "(IIIII)I", sig := { parameters := [.int, .int, .int, .int, .int], returnType := some .int }, accessFlags := 2, code := some k2c11 }
def k2c12 : Code := { maxStack := 3, maxLocals := 2, code := prog_1_method_27_code, exceptionTable := #[], attributes := #[] }
def k2m12 : Method := { name := "clearMark", desc := "()V", sig := { parameters := [], returnType := none }, accessFlags := 2, code := some k2c12 }
def k2c13 : Code := { maxStack := 3, maxLocals := 5, code := prog_1_method_28_code, exceptionTable := #[], attributes := #[] }
def k2m13 : Method := { name := "markReach", desc := "(I)V", sig := { parameters := [.int], returnType := none }, accessFlags := 2, code := some k2c13 }
/-- FetchNegotiator -/
def k2 : Class := { plain "FetchNegotiator" (some 0) with
  accessFlags := 49
  interfaces := #[]
  cf := some (fileOf pool2 8 #[] #[{ accessFlags := 1, nameIndex := 5, descriptorIndex := 154, attributes := #[] }, { accessFlags := 1, nameIndex := 157, descriptorIndex := 115, attributes := #[] }, { accessFlags := 1, nameIndex := 159, descriptorIndex := 42, attributes := #[] }, { accessFlags := 1, nameIndex := 162, descriptorIndex := 163, attributes := #[] }, { accessFlags := 1, nameIndex := 169, descriptorIndex := 80, attributes := #[] }, { accessFlags := 1, nameIndex := 19, descriptorIndex := 163, attributes := #[] }, { accessFlags := 1, nameIndex := 170, descriptorIndex := 97, attributes := #[] }, { accessFlags := 2, nameIndex := 41, descriptorIndex := 42, attributes := #[] }, { accessFlags := 2, nameIndex := 83, descriptorIndex := 76, attributes := #[] }, { accessFlags := 2, nameIndex := 79, descriptorIndex := 80, attributes := #[] }, { accessFlags := 2, nameIndex := 75, descriptorIndex := 76, attributes := #[] }, { accessFlags := 2, nameIndex := 71, descriptorIndex := 72, attributes := #[] }, { accessFlags := 2, nameIndex := 89, descriptorIndex := 6, attributes := #[] }, { accessFlags := 2, nameIndex := 92, descriptorIndex := 93, attributes := #[] }] 49 2 #[] #[{ accessFlags := 25, nameIndex := 131, descriptorIndex := 46, attributes := #[] }, { accessFlags := 25, nameIndex := 134, descriptorIndex := 46, attributes := #[] }, { accessFlags := 25, nameIndex := 136, descriptorIndex := 46, attributes := #[] }, { accessFlags := 25, nameIndex := 138, descriptorIndex := 46, attributes := #[] }, { accessFlags := 25, nameIndex := 140, descriptorIndex := 46, attributes := #[] }, { accessFlags := 25, nameIndex := 141, descriptorIndex := 46, attributes := #[] }, { accessFlags := 25, nameIndex := 142, descriptorIndex := 46, attributes := #[] }, { accessFlags := 25, nameIndex := 143, descriptorIndex := 46, attributes := #[] }, { accessFlags := 25, nameIndex := 144, descriptorIndex := 46, attributes := #[] }, { accessFlags := 25, nameIndex := 146, descriptorIndex := 46, attributes := #[] }, { accessFlags := 25, nameIndex := 148, descriptorIndex := 46, attributes := #[] }, { accessFlags := 25, nameIndex := 150, descriptorIndex := 46, attributes := #[] }, { accessFlags := 25, nameIndex := 151, descriptorIndex := 46, attributes := #[] }, { accessFlags := 25, nameIndex := 152, descriptorIndex := 46, attributes := #[] }, { accessFlags := 25, nameIndex := 153, descriptorIndex := 46, attributes := #[] }, { accessFlags := 2, nameIndex := 45, descriptorIndex := 46, attributes := #[] }, { accessFlags := 2, nameIndex := 49, descriptorIndex := 46, attributes := #[] }, { accessFlags := 2, nameIndex := 52, descriptorIndex := 46, attributes := #[] }, { accessFlags := 2, nameIndex := 55, descriptorIndex := 46, attributes := #[] }, { accessFlags := 2, nameIndex := 58, descriptorIndex := 46, attributes := #[] }, { accessFlags := 2, nameIndex := 61, descriptorIndex := 46, attributes := #[] }, { accessFlags := 2, nameIndex := 64, descriptorIndex := 46, attributes := #[] }, { accessFlags := 2, nameIndex := 67, descriptorIndex := 68, attributes := #[] }, { accessFlags := 2, nameIndex := 11, descriptorIndex := 12, attributes := #[] }, { accessFlags := 2, nameIndex := 15, descriptorIndex := 16, attributes := #[] }, { accessFlags := 2, nameIndex := 19, descriptorIndex := 16, attributes := #[] }, { accessFlags := 2, nameIndex := 22, descriptorIndex := 23, attributes := #[] }, { accessFlags := 2, nameIndex := 26, descriptorIndex := 12, attributes := #[] }, { accessFlags := 2, nameIndex := 29, descriptorIndex := 16, attributes := #[] }, { accessFlags := 2, nameIndex := 32, descriptorIndex := 23, attributes := #[] }, { accessFlags := 2, nameIndex := 35, descriptorIndex := 16, attributes := #[] }, { accessFlags := 2, nameIndex := 38, descriptorIndex := 23, attributes := #[] }])
  fields := #[{ name := "NONE", type := .int, accessFlags := 25, slot := 0, constantValue := 0 }, { name := "BLOB", type := .int, accessFlags := 25, slot := 1, constantValue := 0 }, { name := "TREE", type := .int, accessFlags := 25, slot := 2, constantValue := 0 }, { name := "COMMIT", type := .int, accessFlags := 25, slot := 3, constantValue := 0 }, { name := "CLIENT", type := .int, accessFlags := 25, slot := 4, constantValue := 0 }, { name := "SERVER", type := .int, accessFlags := 25, slot := 5, constantValue := 0 }, { name := "WANTED", type := .int, accessFlags := 25, slot := 6, constantValue := 0 }, { name := "SENT", type := .int, accessFlags := 25, slot := 7, constantValue := 0 }, { name := "ACKED", type := .int, accessFlags := 25, slot := 8, constantValue := 0 }, { name := "COMMON", type := .int, accessFlags := 25, slot := 9, constantValue := 0 }, { name := "IN_PACK", type := .int, accessFlags := 25, slot := 10, constantValue := 0 }, { name := "IDLE", type := .int, accessFlags := 25, slot := 11, constantValue := 0 }, { name := "NEGOTIATING", type := .int, accessFlags := 25, slot := 12, constantValue := 0 }, { name := "DONE", type := .int, accessFlags := 25, slot := 13, constantValue := 0 }, { name := "PACKED", type := .int, accessFlags := 25, slot := 14, constantValue := 0 }, { name := "cap", type := .int, accessFlags := 2, slot := 0, constantValue := 0 }, { name := "batch", type := .int, accessFlags := 2, slot := 1, constantValue := 0 }, { name := "maxRounds", type := .int, accessFlags := 2, slot := 2, constantValue := 0 }, { name := "count", type := .int, accessFlags := 2, slot := 3, constantValue := 0 }, { name := "sentCount", type := .int, accessFlags := 2, slot := 4, constantValue := 0 }, { name := "roundsDone", type := .int, accessFlags := 2, slot := 5, constantValue := 0 }, { name := "phaseNow", type := .int, accessFlags := 2, slot := 6, constantValue := 0 }, { name := "lastConnected", type := .boolean, accessFlags := 2, slot := 7, constantValue := 0 }, { name := "kind", type := (.array .byte), accessFlags := 2, slot := 8, constantValue := 0 }, { name := "time", type := (.array .int), accessFlags := 2, slot := 9, constantValue := 0 }, { name := "link", type := (.array .int), accessFlags := 2, slot := 10, constantValue := 0 }, { name := "held", type := (.array .boolean), accessFlags := 2, slot := 11, constantValue := 0 }, { name := "flags", type := (.array .byte), accessFlags := 2, slot := 12, constantValue := 0 }, { name := "sentList", type := (.array .int), accessFlags := 2, slot := 13, constantValue := 0 }, { name := "mark", type := (.array .boolean), accessFlags := 2, slot := 14, constantValue := 0 }, { name := "stack", type := (.array .int), accessFlags := 2, slot := 15, constantValue := 0 }, { name := "ackMark", type := (.array .boolean), accessFlags := 2, slot := 16, constantValue := 0 }]
  methods := #[k2m0, k2m1, k2m2, k2m3, k2m4, k2m5, k2m6, k2m7, k2m8, k2m9, k2m10, k2m11, k2m12, k2m13]
  instanceTypes := #[.int, .int, .int, .int, .int, .int, .int, .boolean, (.array .byte), (.array .int), (.array .int), (.array .boolean), (.array .byte), (.array .int), (.array .boolean), (.array .int), (.array .boolean)]
  staticTypes := #[.int, .int, .int, .int, .int, .int, .int, .int, .int, .int, .int, .int, .int, .int, .int]
  resolved := Array.replicate 177 none
  statics := none }

def pool3 : Array CpInfo := pool [(1, u "java/lang/Cloneable"), (0, .class_ 1), (0, u "java/lang/Object"), (0, .class_ 3)] 3

/-- java/lang/Cloneable -/
def k3 : Class := { plain "java/lang/Cloneable" (some 0) with
  accessFlags := 1537
  interfaces := #[]
  cf := some (fileOf pool3 2 #[] #[] 1537 4 #[] #[])
  fields := #[]
  methods := #[]
  instanceTypes := #[]
  staticTypes := #[]
  resolved := Array.replicate 8 none
  statics := none }

def pool4 : Array CpInfo := pool [(1, u "java/io/Serializable"), (0, .class_ 1), (0, u "java/lang/Object"), (0, .class_ 3)] 3

/-- java/io/Serializable -/
def k4 : Class := { plain "java/io/Serializable" (some 0) with
  accessFlags := 1537
  interfaces := #[]
  cf := some (fileOf pool4 2 #[] #[] 1537 4 #[] #[])
  fields := #[]
  methods := #[]
  instanceTypes := #[]
  staticTypes := #[]
  resolved := Array.replicate 8 none
  statics := none }

/-- the primitive boolean -/
def k5 : Class := { plain "boolean" none with kind := .primitive 'Z', accessFlags := 0x411 }
/-- [Z -/
def k6 : Class := { plain "[Z" (some 0) with kind := .array 5 .boolean, interfaces := #[3, 4], accessFlags := 1041 }

/-- the primitive byte -/
def k7 : Class := { plain "byte" none with kind := .primitive 'B', accessFlags := 0x411 }
/-- [B -/
def k8 : Class := { plain "[B" (some 0) with kind := .array 7 .byte, interfaces := #[3, 4], accessFlags := 1041 }

/-- the primitive int -/
def k9 : Class := { plain "int" none with kind := .primitive 'I', accessFlags := 0x411 }
/-- [I -/
def k10 : Class := { plain "[I" (some 0) with kind := .array 9 .int, interfaces := #[3, 4], accessFlags := 1041 }

def heap : Heap := #[]
def classes : Array Class := #[k0, k1, k2, k3, k4, k5, k6, k7, k8, k9, k10]
def interned : List (Array UInt16 × Addr) := []
def slotsUsed : Nat := 0
def theMethod : MethodId := ⟨1, 1⟩
def args0 : Array Value := #[.int 5, .int 5]
def aboutOver (below : List Frame) : State where
  vm := { classes := classes, interned := interned.toArray }
  heap := heap
  slotsUsed := slotsUsed
  threads := #[{ frames := .invoking theMethod args0 :: below }]
def below0 : List Frame := [.native { method := ⟨0, 0⟩, args := #[] }]
def about1 : State := aboutOver below0
def p0 : Program := .bare "" "" ""
def e0 : Env := launch0.env 0 0 0
theorem w_frames : about1.frames = Frame.invoking theMethod args0 :: below0 := rfl
set_option maxRecDepth 65536 in
theorem w_args : argsFit about1.vm theMethod args0 = true := by decide +kernel
set_option maxRecDepth 65536 in
theorem w_heap : heapFits about1 = true := by decide +kernel
set_option maxRecDepth 65536 in
theorem w_runnable : about1.curStatus? = some .runnable := by decide +kernel
set_option maxRecDepth 65536 in
theorem w_alone : about1.alone = true := by decide +kernel
set_option maxRecDepth 65536 in
theorem w_named : about1.methodNamed? x = some theMethod := by decide +kernel
set_option maxRecDepth 65536 in
theorem w_hears : about1.hears theMethod below0 = true := by decide +kernel
set_option maxRecDepth 65536 in
theorem w_ripe : about1.ripe theMethod args0 below0 = true := by decide +kernel
theorem w_running : about1.status = .running := rfl
set_option maxRecDepth 65536 in
theorem w_room : about1.hasRoom e0.platform room_1 = true :=
  launch0.hasRoom_least _ room_1 (by decide +kernel) (by decide +kernel) (by decide +kernel) (by decide +kernel) (by decide +kernel) (by decide +kernel)
theorem allAtoms_all (ts : List Jvm.Cond) (a : Array Jvm.Value) (st : Jvm.State) : (allAtoms ts).before a st = ts.all (fun c => c.before a st) := by
  induction ts with
  | nil => rfl
  | cons c t ih =>
    show (Jvm.Cond.and c (allAtoms t)).before a st = _
    rw [Jvm.Cond.before_and, ih, List.all_cons]
def words1 : List Jvm.Cond := Jvm.Cond.code x code maxLocals ret :: tables_1
/-- a 'code' word, met by the world's own term for the bytes: nothing is compared byte by byte -/
theorem code_word {y : MethodName} {bytes : ByteArray} {mx : Nat} {rt : Option FieldType} {a : Array Value} {s : State} {m : MethodId} {meth : Method} {c : Code} (h1 : s.methodNamed? y = some m) (h2 : s.vm.method? m = some meth) (h3 : meth.code = some c) (h4 : c.code = bytes)
    (h5 : (c.maxLocals == mx && c.exceptionTable.isEmpty && decide (c.maxStack ≤ mostOperands) && decide (meth.sig.returnType = rt) && !meth.locks && decide (parseMethodDescriptor y.desc = some meth.sig)) = true) : (Jvm.Cond.code y bytes mx rt).before a s = true := by
  simp only [Bool.and_eq_true, beq_iff_eq, Bool.not_eq_true', decide_eq_true_eq] at h5
  obtain ⟨⟨⟨⟨⟨g1, g2⟩, g3⟩, g4⟩, g5⟩, g6⟩ := h5
  simp [Cond.before, Cond.holds, Cond.value, h1, h2, h3, h4, g1, g2, g3, g4, g5, g6]
def isCode : Jvm.Cond → Bool
  | .code _ _ _ _ => true
  | _ => false
theorem all_split {L : List Jvm.Cond} {P : Jvm.Cond → Bool} (h1 : L.all (fun c => isCode c || P c) = true) (h2 : ∀ c ∈ L.filter isCode, P c = true) : L.all P = true := by
  refine List.all_eq_true.mpr fun c hc => ?_
  have h := List.all_eq_true.mp h1 c hc
  rcases Bool.eq_false_or_eq_true (isCode c) with hi | hi
  · exact h2 c (List.mem_filter.mpr ⟨hc, hi⟩)
  · simpa [hi] using h
set_option maxRecDepth 65536 in
theorem w_c0 : (Jvm.Cond.code x code maxLocals ret).before args0 about1 = true := code_word (m := ⟨1, 1⟩) (meth := k1m1) (c := k1c1) (by decide +kernel) rfl rfl rfl (by decide +kernel)
set_option maxRecDepth 65536 in
theorem w_c1 : (Jvm.Cond.code ({ cls := "FetchNegotiator", name := "<init>", desc := "(III)V" } : Jvm.MethodName) prog_1_method_1_code (4 : Nat) (Option.none : Option Jvm.ClassFile.FieldType)).before args0 about1 = true := code_word (m := ⟨2, 0⟩) (meth := k2m0) (c := k2c0) (by decide +kernel) rfl rfl rfl (by decide +kernel)
set_option maxRecDepth 65536 in
theorem w_c2 : (Jvm.Cond.code ({ cls := "java/lang/Object", name := "<init>", desc := "()V" } : Jvm.MethodName) object_method_1_code (1 : Nat) (Option.none : Option Jvm.ClassFile.FieldType)).before args0 about1 = true := code_word (m := ⟨0, 0⟩) (meth := k0m0) (c := k0c0) (by decide +kernel) rfl rfl rfl (by decide +kernel)
set_option maxRecDepth 65536 in
theorem w_c3 : (Jvm.Cond.code ({ cls := "FetchNegotiator", name := "clamp", desc := "(III)I" } : Jvm.MethodName) prog_1_method_18_code (4 : Nat) (Option.some Jvm.ClassFile.FieldType.int)).before args0 about1 = true := code_word (m := ⟨2, 7⟩) (meth := k2m7) (c := k2c7) (by decide +kernel) rfl rfl rfl (by decide +kernel)
set_option maxRecDepth 65536 in
theorem w_c4 : (Jvm.Cond.code ({ cls := "FetchNegotiator", name := "addBlob", desc := "()I" } : Jvm.MethodName) prog_1_method_2_code (1 : Nat) (Option.some Jvm.ClassFile.FieldType.int)).before args0 about1 = true := code_word (m := ⟨2, 1⟩) (meth := k2m1) (c := k2c1) (by decide +kernel) rfl rfl rfl (by decide +kernel)
set_option maxRecDepth 65536 in
theorem w_c5 : (Jvm.Cond.code ({ cls := "FetchNegotiator", name := "define", desc := "(IIIII)I" } : Jvm.MethodName) prog_1_method_23_code (7 : Nat) (Option.some Jvm.ClassFile.FieldType.int)).before args0 about1 = true := code_word (m := ⟨2, 11⟩) (meth := k2m11) (c := k2c11) (by decide +kernel) rfl rfl rfl (by decide +kernel)
set_option maxRecDepth 65536 in
theorem w_c6 : (Jvm.Cond.code ({ cls := "FetchNegotiator", name := "addTree", desc := "(III)I" } : Jvm.MethodName) prog_1_method_3_code (7 : Nat) (Option.some Jvm.ClassFile.FieldType.int)).before args0 about1 = true := code_word (m := ⟨2, 2⟩) (meth := k2m2) (c := k2c2) (by decide +kernel) rfl rfl rfl (by decide +kernel)
set_option maxRecDepth 65536 in
theorem w_c7 : (Jvm.Cond.code ({ cls := "FetchNegotiator", name := "validEntry", desc := "(I)Z" } : Jvm.MethodName) prog_1_method_21_code (2 : Nat) (Option.some Jvm.ClassFile.FieldType.boolean)).before args0 about1 = true := code_word (m := ⟨2, 10⟩) (meth := k2m10) (c := k2c10) (by decide +kernel) rfl rfl rfl (by decide +kernel)
set_option maxRecDepth 65536 in
theorem w_c8 : (Jvm.Cond.code ({ cls := "FetchNegotiator", name := "inRange", desc := "(I)Z" } : Jvm.MethodName) prog_1_method_19_code (2 : Nat) (Option.some Jvm.ClassFile.FieldType.boolean)).before args0 about1 = true := code_word (m := ⟨2, 8⟩) (meth := k2m8) (c := k2c8) (by decide +kernel) rfl rfl rfl (by decide +kernel)
set_option maxRecDepth 65536 in
theorem w_c9 : (Jvm.Cond.code ({ cls := "FetchNegotiator", name := "give", desc := "(II)I" } : Jvm.MethodName) prog_1_method_5_code (6 : Nat) (Option.some Jvm.ClassFile.FieldType.int)).before args0 about1 = true := code_word (m := ⟨2, 3⟩) (meth := k2m3) (c := k2c3) (by decide +kernel) rfl rfl rfl (by decide +kernel)
set_option maxRecDepth 65536 in
theorem w_c10 : (Jvm.Cond.code ({ cls := "FetchNegotiator", name := "has", desc := "(II)Z" } : Jvm.MethodName) prog_1_method_13_code (3 : Nat) (Option.some Jvm.ClassFile.FieldType.boolean)).before args0 about1 = true := code_word (m := ⟨2, 6⟩) (meth := k2m6) (c := k2c6) (by decide +kernel) rfl rfl rfl (by decide +kernel)
set_option maxRecDepth 65536 in
theorem w_c11 : (Jvm.Cond.code ({ cls := "FetchNegotiator", name := "kindOf", desc := "(I)I" } : Jvm.MethodName) prog_1_method_11_code (2 : Nat) (Option.some Jvm.ClassFile.FieldType.int)).before args0 about1 = true := code_word (m := ⟨2, 4⟩) (meth := k2m4) (c := k2c4) (by decide +kernel) rfl rfl rfl (by decide +kernel)
set_option maxRecDepth 65536 in
theorem w_c12 : (Jvm.Cond.code ({ cls := "FetchNegotiator", name := "link", desc := "(II)I" } : Jvm.MethodName) prog_1_method_12_code (3 : Nat) (Option.some Jvm.ClassFile.FieldType.int)).before args0 about1 = true := code_word (m := ⟨2, 5⟩) (meth := k2m5) (c := k2c5) (by decide +kernel) rfl rfl rfl (by decide +kernel)
set_option maxRecDepth 65536 in
theorem w_c13 : (Jvm.Cond.code ({ cls := "FetchNegotiator", name := "norm", desc := "(I)I" } : Jvm.MethodName) prog_1_method_20_code (2 : Nat) (Option.some Jvm.ClassFile.FieldType.int)).before args0 about1 = true := code_word (m := ⟨2, 9⟩) (meth := k2m9) (c := k2c9) (by decide +kernel) rfl rfl rfl (by decide +kernel)
set_option maxRecDepth 65536 in
theorem w_c14 : (Jvm.Cond.code ({ cls := "FetchNegotiator", name := "clearMark", desc := "()V" } : Jvm.MethodName) prog_1_method_27_code (2 : Nat) (Option.none : Option Jvm.ClassFile.FieldType)).before args0 about1 = true := code_word (m := ⟨2, 12⟩) (meth := k2m12) (c := k2c12) (by decide +kernel) rfl rfl rfl (by decide +kernel)
set_option maxRecDepth 65536 in
theorem w_c15 : (Jvm.Cond.code ({ cls := "FetchNegotiator", name := "markReach", desc := "(I)V" } : Jvm.MethodName) prog_1_method_28_code (5 : Nat) (Option.none : Option Jvm.ClassFile.FieldType)).before args0 about1 = true := code_word (m := ⟨2, 13⟩) (meth := k2m13) (c := k2c13) (by decide +kernel) rfl rfl rfl (by decide +kernel)
def codes1 : List Jvm.Cond := [Jvm.Cond.code x code maxLocals ret, Jvm.Cond.code ({ cls := "FetchNegotiator", name := "<init>", desc := "(III)V" } : Jvm.MethodName) prog_1_method_1_code (4 : Nat) (Option.none : Option Jvm.ClassFile.FieldType), Jvm.Cond.code ({ cls := "java/lang/Object", name := "<init>", desc := "()V" } : Jvm.MethodName) object_method_1_code (1 : Nat) (Option.none : Option Jvm.ClassFile.FieldType), Jvm.Cond.code ({ cls := "FetchNegotiator", name := "clamp", desc := "(III)I" } : Jvm.MethodName) prog_1_method_18_code (4 : Nat) (Option.some Jvm.ClassFile.FieldType.int), Jvm.Cond.code ({ cls := "FetchNegotiator", name := "addBlob", desc := "()I" } : Jvm.MethodName) prog_1_method_2_code (1 : Nat) (Option.some Jvm.ClassFile.FieldType.int), Jvm.Cond.code ({ cls := "FetchNegotiator", name := "define", desc := "(IIIII)I" } : Jvm.MethodName) prog_1_method_23_code (7 : Nat) (Option.some Jvm.ClassFile.FieldType.int), Jvm.Cond.code ({ cls := "FetchNegotiator", name := "addTree", desc := "(III)I" } : Jvm.MethodName) prog_1_method_3_code (7 : Nat) (Option.some Jvm.ClassFile.FieldType.int), Jvm.Cond.code ({ cls := "FetchNegotiator", name := "validEntry", desc := "(I)Z" } : Jvm.MethodName) prog_1_method_21_code (2 : Nat) (Option.some Jvm.ClassFile.FieldType.boolean), Jvm.Cond.code ({ cls := "FetchNegotiator", name := "inRange", desc := "(I)Z" } : Jvm.MethodName) prog_1_method_19_code (2 : Nat) (Option.some Jvm.ClassFile.FieldType.boolean), Jvm.Cond.code ({ cls := "FetchNegotiator", name := "give", desc := "(II)I" } : Jvm.MethodName) prog_1_method_5_code (6 : Nat) (Option.some Jvm.ClassFile.FieldType.int), Jvm.Cond.code ({ cls := "FetchNegotiator", name := "has", desc := "(II)Z" } : Jvm.MethodName) prog_1_method_13_code (3 : Nat) (Option.some Jvm.ClassFile.FieldType.boolean), Jvm.Cond.code ({ cls := "FetchNegotiator", name := "kindOf", desc := "(I)I" } : Jvm.MethodName) prog_1_method_11_code (2 : Nat) (Option.some Jvm.ClassFile.FieldType.int), Jvm.Cond.code ({ cls := "FetchNegotiator", name := "link", desc := "(II)I" } : Jvm.MethodName) prog_1_method_12_code (3 : Nat) (Option.some Jvm.ClassFile.FieldType.int), Jvm.Cond.code ({ cls := "FetchNegotiator", name := "norm", desc := "(I)I" } : Jvm.MethodName) prog_1_method_20_code (2 : Nat) (Option.some Jvm.ClassFile.FieldType.int), Jvm.Cond.code ({ cls := "FetchNegotiator", name := "clearMark", desc := "()V" } : Jvm.MethodName) prog_1_method_27_code (2 : Nat) (Option.none : Option Jvm.ClassFile.FieldType), Jvm.Cond.code ({ cls := "FetchNegotiator", name := "markReach", desc := "(I)V" } : Jvm.MethodName) prog_1_method_28_code (5 : Nat) (Option.none : Option Jvm.ClassFile.FieldType)]
set_option maxRecDepth 65536 in
theorem codes_eq : words1.filter isCode = codes1 := rfl
theorem w_codes : ∀ c ∈ words1.filter isCode, c.before args0 about1 = true := by
  rw [codes_eq]
  intro c hc
  simp only [codes1, List.mem_cons, List.not_mem_nil, or_false] at hc
  rcases hc with rfl | rfl | rfl | rfl | rfl | rfl | rfl | rfl | rfl | rfl | rfl | rfl | rfl | rfl | rfl | rfl
  · exact w_c0
  · exact w_c1
  · exact w_c2
  · exact w_c3
  · exact w_c4
  · exact w_c5
  · exact w_c6
  · exact w_c7
  · exact w_c8
  · exact w_c9
  · exact w_c10
  · exact w_c11
  · exact w_c12
  · exact w_c13
  · exact w_c14
  · exact w_c15
set_option maxRecDepth 65536 in
theorem w_t1 : (words1.take 24).all (fun c => isCode c || c.before args0 about1) = true := by decide +kernel
set_option maxRecDepth 65536 in
theorem w_t2 : ((words1.drop 24).take 24).all (fun c => isCode c || c.before args0 about1) = true := by decide +kernel
set_option maxRecDepth 65536 in
theorem w_t3 : (((words1.drop 24).drop 24).take 24).all (fun c => isCode c || c.before args0 about1) = true := by decide +kernel
set_option maxRecDepth 65536 in
theorem w_t4 : ((((words1.drop 24).drop 24).drop 24).take 24).all (fun c => isCode c || c.before args0 about1) = true := by decide +kernel
set_option maxRecDepth 65536 in
theorem w_t5 : ((((words1.drop 24).drop 24).drop 24).drop 24).all (fun c => isCode c || c.before args0 about1) = true := by decide +kernel
theorem w_tables : (allAtoms (Jvm.Cond.code x code maxLocals ret :: tables_1)).before args0 about1 = true := by
  rw [allAtoms_all]
  show words1.all (fun c => c.before args0 about1) = true
  refine all_split ?_ w_codes
  rw [← List.take_append_drop 24 words1, List.all_append, w_t1, ← List.take_append_drop 24 (words1.drop 24), List.all_append, w_t2, ← List.take_append_drop 24 ((words1.drop 24).drop 24), List.all_append, w_t3, ← List.take_append_drop 24 (((words1.drop 24).drop 24).drop 24), List.all_append, w_t4, w_t5]
  rfl
set_option maxRecDepth 65536 in
theorem w_case : (Jvm.Cond.and given_1 narrow_1).before args0 about1 = true := by decide +kernel
theorem w_applies : (headSpec (Jvm.Cond.code x code maxLocals ret :: tables_1) room_1).applies x e0.platform about1 = true :=
  (Spec.applies_iff w_frames).mpr ⟨w_running, w_runnable, w_alone, w_named, w_hears, w_ripe, w_room, w_tables⟩
theorem atStart : AtStart classFile x code maxLocals ret World_1 tables_1 room_1 Calls_1 rest_1 Pre_1 launch0 p0 e0 about1 theMethod args0 below0 :=
  ⟨lists_1, trivial, launch0.admits_env _ _ _, launch0.least_env, fairChoices_fair.cas, fairChoices_fair.clock, w_frames, w_args, w_heap, w_applies, trivial, trivial, w_case⟩
end start1
theorem witness_1 : WitnessClaimed_1 := ⟨start1.p0, start1.e0, start1.about1, start1.theMethod, start1.args0, start1.below0, start1.atStart⟩
end Jvm.Pilot.@@N@@
