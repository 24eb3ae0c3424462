import JvmDerived
import JvmDerived.Pilot.@@N@@Statement
import JvmDerived.Pilot.@@N@@Code
set_option linter.unusedVariables false
set_option linter.unusedSimpArgs false
set_option maxRecDepth 4096
namespace Jvm.RoadKit
open Sem ClassFile Op Lib Jvm.Stand Jvm.Free Jvm.LawKit
section New
variable {p : Program} {l : Launch} {e : Env} {R : Room} {s : State} {m : MethodId} {args : Array Value} {below : List Frame} {meth : Method} {c : Code} {T : State} {locs : List Loc} {cells slots : Nat}
theorem retI (X : Stand p l e R s m args below meth c T locs cells slots) (hx : p.tables.exec = Jvm.exec) {pc : Nat} {Ls : Array Slot} {z : Int32} {rest : List Value} (hret : meth.sig.returnType = some .int) (hd : decode c.code pc = .ok (.ireturn, 1)) {fs : List Frame}
    (hl : ∀ (f : JFrame) (acts : List Action), f.method = m → f.locked = none → f.entered = [] → (doReturn e (T.setTop f) acts (some (.int z))).1 = T.setFrames fs) : Steps p.tables e below (T.setTop (mkF m pc Ls (.int z :: rest))) (T.setFrames fs) := by
  have hm' : T.vm.method? m = some meth := X.method'
  have hn : narrow .int (.int z) = .int z := rfl
  show Steps p.tables e below (T.setTop { method := m, pc := pc, locals := Ls, stack := _ :: rest, locked := none }) _
  jvm_step X.here [X.here.top, hx, hd, hm', hret, hn]
  first | (intro acts; rw [hl _ acts rfl rfl rfl]) | rw [hl _ _ rfl rfl rfl]
  exact Steps.refl _
theorem retL (X : Stand p l e R s m args below meth c T locs cells slots) (hx : p.tables.exec = Jvm.exec) {pc : Nat} {Ls : Array Slot} {z : Int64} {rest : List Value} (hret : meth.sig.returnType = some .long) (hd : decode c.code pc = .ok (.lreturn, 1)) {fs : List Frame}
    (hl : ∀ (f : JFrame) (acts : List Action), f.method = m → f.locked = none → f.entered = [] → (doReturn e (T.setTop f) acts (some (.long z))).1 = T.setFrames fs) : Steps p.tables e below (T.setTop (mkF m pc Ls (.long z :: rest))) (T.setFrames fs) := by
  have hm' : T.vm.method? m = some meth := X.method'
  have hn : narrow .long (.long z) = .long z := rfl
  show Steps p.tables e below (T.setTop { method := m, pc := pc, locals := Ls, stack := _ :: rest, locked := none }) _
  jvm_step X.here [X.here.top, hx, hd, hm', hret, hn]
  first | (intro acts; rw [hl _ acts rfl rfl rfl]) | rw [hl _ _ rfl rfl rfl]
  exact Steps.refl _
theorem retV (X : Stand p l e R s m args below meth c T locs cells slots) (hx : p.tables.exec = Jvm.exec) {pc : Nat} {Ls : Array Slot} {S : List Value} (hret : meth.sig.returnType = none) (hd : decode c.code pc = .ok (.return_, 1)) {fs : List Frame}
    (hl : ∀ (f : JFrame) (acts : List Action), f.method = m → f.locked = none → f.entered = [] → (doReturn e (T.setTop f) acts none).1 = T.setFrames fs) : Steps p.tables e below (T.setTop (mkF m pc Ls S)) (T.setFrames fs) := by
  have hm' : T.vm.method? m = some meth := X.method'
  show Steps p.tables e below (T.setTop { method := m, pc := pc, locals := Ls, stack := S, locked := none }) _
  jvm_step X.here [X.here.top, hx, hd, hm', hret]
  first | (intro acts; rw [hl _ acts rfl rfl rfl]) | rw [hl _ _ rfl rfl rfl]
  exact Steps.refl _
/-- an invokevirtual of a private method whose class is named by an 'instantiable' word -/
theorem privBack (X : Stand p l e R s m args below meth c T locs cells slots) (hexec : p.tables.exec = Jvm.exec) {own : String} {index kk : Nat} {y : MethodName} {bytes : ByteArray} {maxL : Nat} {ret : Option FieldType}
    (hown : s.vm.findClass own = some m.cls) (hlink : (Cond.methodLink own index y).before args s = true) (hinst : (Cond.instanceMethod y).before args s = true) (hni : (Cond.instantiable y.cls kk).before args s = true)
    (hpriv : s.PrivateAt y) (hcode : (Cond.code y bytes maxL ret).before args s = true) (hy : y.cls ≠ "java/lang/invoke/MethodHandle" ∧ y.cls ≠ "java/lang/invoke/VarHandle")
    {W : Nat} {Pre : Free.Pt → Array Value → Prop} {Post : Free.Pt → Array Value → Option Value → Free.Pt → Prop} (hK : Free.Back l R p e below s args y 3 W Pre Post)
    {g : JFrame} (hg : g.method = m) (hsize : g.locals.size = c.maxLocals) {a : Addr} {cell : Cell} (hcell : T.heap[a]? = some cell) (hobj : ∀ q, cell.vm ≠ .statics q)
    {argsL rest : List Value} (hlen : ∀ sig, parseMethodDescriptor y.desc = some sig → argsL.length = sig.parameters.length)
    (hstack : g.stack = argsL.reverse ++ .ref a :: rest) (hW : 2 * g.monitorRoom + (rest.map fun v => v.category).sum ≤ W) (hdg : decode c.code g.pc = .ok (.invokevirtual index, 3))
    (hpre : ∀ vm₁, s.WarmedH vm₁ → Pre ⟨T.setVm vm₁, locs, cells, slots⟩ (.ref a :: argsL).toArray) :
    ∃ (v : Option Value) (vm₁ : Vm) (B : Free.Pt), s.WarmedH vm₁ ∧ Stand p l e R s m args below meth c B.U B.locs B.cells B.slots ∧ Post ⟨T.setVm vm₁, locs, cells, slots⟩ (.ref a :: argsL).toArray v B ∧
      ∀ target, Steps p.tables e below (B.U.setTop { g with pc := g.pc + 3, stack := v.toList ++ rest }) target → Steps p.tables e below (T.setTop g) target := by
  obtain ⟨mk, methM, hnamed, hmethM, hstM, habM⟩ := Cond.instanceMethod_spec hinst
  obtain ⟨methM', cM, hmethM', -, -, -, -, -, -, hsigM⟩ := Cond.code_spec hnamed hcode
  cases hmethM.symm.trans hmethM'
  obtain ⟨c2, kP, q1, hkP, -, q3, -⟩ := Cond.instantiable_spec hni
  cases (findClass_of_methodNamed hnamed).symm.trans q1
  have hkPi : kP.isInterface = false := by
    simp only [Bool.or_eq_false_iff] at q3; exact q3.1
  have hselP : selectMethod e.platform s.vm cell.cls mk = .method mk := selectMethod_private hmethM (hpriv mk methM hnamed hmethM)
  obtain ⟨vm₁, X₁, hstep₁⟩ := X.invokevirtual hexec hown hlink hnamed hmethM hstM hkP hkPi hy (a := a) (cell := cell) hcell hobj hselP hmethM habM hkP hkPi (g := g) hg (argsL := argsL) (rest := rest) (hlen _ hsigM) hstack hdg
  obtain ⟨v, B, X', hpost, hsteps⟩ := hK m meth c ⟨T.setVm vm₁, locs, cells, slots⟩ { g with stack := rest } (.invokevirtual index) mk (Value.ref a :: argsL).toArray X₁ hg hsize hdg hW (X₁.named hnamed) (hpre vm₁ X₁.warmed)
  exact ⟨v, vm₁, B, X₁.warmed, X', hpost, fun target h => hstep₁ _ fun acts => by rw [doInvoke_state]; exact hsteps.trans h⟩
end New
end Jvm.RoadKit
namespace Jvm.Pilot.@@N@@
open Jvm Jvm.ClassFile Sem Op Lib Jvm.Free Jvm.Stand Jvm.LawKit Jvm.RoadKit Bundle Jvm.Pilot.@@N@@.Jvm.D
/-! ## tables of the claim, printed by B_gen.py out of made/ -/
def t_C : String := "FetchNegotiator"
def t_flds : List (String × String × FieldType) := [("cap", "I", .int), ("batch", "I", .int), ("maxRounds", "I", .int), ("count", "I", .int), ("sentCount", "I", .int), ("roundsDone", "I", .int), ("phaseNow", "I", .int), ("lastConnected", "Z", .boolean), ("kind", "[B", (.array .byte)), ("time", "[I", (.array .int)), ("link", "[I", (.array .int)), ("held", "[Z", (.array .boolean)), ("flags", "[B", (.array .byte)), ("sentList", "[I", (.array .int)), ("mark", "[Z", (.array .boolean)), ("stack", "[I", (.array .int)), ("ackMark", "[Z", (.array .boolean))]
def t_arrs : List (FieldType × Nat) := [(.byte, 32), (.int, 32), (.int, 96), (.boolean, 64), (.byte, 32), (.int, 32), (.boolean, 32), (.int, 128), (.boolean, 32)]
def t_ns : Nat := 17
def t_full : Nat := 10
def t_sc : Bool := true
def t_n : Nat := 41
def t_nm : Nat → MethodName
  | 0 => x
  | 1 => ⟨"FetchNegotiator", "<init>", "(III)V"⟩
  | 2 => ⟨"FetchNegotiator", "addBlob", "()I"⟩
  | 3 => ⟨"FetchNegotiator", "addTree", "(III)I"⟩
  | 4 => ⟨"FetchNegotiator", "addCommit", "(IIII)I"⟩
  | 5 => ⟨"FetchNegotiator", "give", "(II)I"⟩
  | 6 => ⟨"FetchNegotiator", "want", "(I)Z"⟩
  | 7 => ⟨"FetchNegotiator", "round", "()I"⟩
  | 8 => ⟨"FetchNegotiator", "pack", "()I"⟩
  | 9 => ⟨"FetchNegotiator", "newFetch", "()V"⟩
  | 10 => ⟨"FetchNegotiator", "phase", "()I"⟩
  | 11 => ⟨"FetchNegotiator", "kindOf", "(I)I"⟩
  | 12 => ⟨"FetchNegotiator", "link", "(II)I"⟩
  | 13 => ⟨"FetchNegotiator", "has", "(II)Z"⟩
  | 14 => ⟨"FetchNegotiator", "status", "(I)I"⟩
  | 15 => ⟨"FetchNegotiator", "connected", "()Z"⟩
  | 16 => ⟨"FetchNegotiator", "clamp", "(III)I"⟩
  | 17 => ⟨"FetchNegotiator", "inRange", "(I)Z"⟩
  | 18 => ⟨"FetchNegotiator", "norm", "(I)I"⟩
  | 19 => ⟨"FetchNegotiator", "validEntry", "(I)Z"⟩
  | 20 => ⟨"FetchNegotiator", "validParent", "(I)Z"⟩
  | 21 => ⟨"FetchNegotiator", "define", "(IIIII)I"⟩
  | 22 => ⟨"FetchNegotiator", "hasFlag", "(II)Z"⟩
  | 23 => ⟨"FetchNegotiator", "setFlag", "(II)V"⟩
  | 24 => ⟨"FetchNegotiator", "clearFlag", "(II)V"⟩
  | 25 => ⟨"FetchNegotiator", "clearMark", "()V"⟩
  | 26 => ⟨"FetchNegotiator", "markReach", "(I)V"⟩
  | 27 => ⟨"FetchNegotiator", "markFlagged", "(I)V"⟩
  | 28 => ⟨"FetchNegotiator", "clientHoldsMarked", "()Z"⟩
  | 29 => ⟨"FetchNegotiator", "anyWanted", "()Z"⟩
  | 30 => ⟨"FetchNegotiator", "isEligible", "(I)Z"⟩
  | 31 => ⟨"FetchNegotiator", "pickNext", "()I"⟩
  | 32 => ⟨"FetchNegotiator", "pickBatch", "()V"⟩
  | 33 => ⟨"FetchNegotiator", "answerBatch", "(I)I"⟩
  | 34 => ⟨"FetchNegotiator", "markCommon", "(I)V"⟩
  | 35 => ⟨"FetchNegotiatorOwnLaw", "cell", "([II)I"⟩
  | 36 => ⟨"FetchNegotiatorOwnLaw", "check", "(LFetchNegotiator;I)Z"⟩
  | 37 => ⟨"FetchNegotiatorOwnLaw", "nat", "(I)I"⟩
  | 38 => ⟨"FetchNegotiatorOwnLaw", "pickKind", "(LFetchNegotiator;II)I"⟩
  | 39 => ⟨"FetchNegotiatorOwnLaw", "pickWantable", "(LFetchNegotiator;I)I"⟩
  | 40 => ⟨"FetchNegotiatorOwnLaw", "reach", "(LFetchNegotiator;II)J"⟩
  | _ => ⟨"", "", ""⟩
def t_bytes : Nat → ByteArray
  | 0 => code
  | 1 => prog_1_method_1_code
  | 2 => prog_1_method_2_code
  | 3 => prog_1_method_3_code
  | 4 => prog_1_method_4_code
  | 5 => prog_1_method_5_code
  | 6 => prog_1_method_6_code
  | 7 => prog_1_method_7_code
  | 8 => prog_1_method_8_code
  | 9 => prog_1_method_9_code
  | 10 => prog_1_method_10_code
  | 11 => prog_1_method_11_code
  | 12 => prog_1_method_12_code
  | 13 => prog_1_method_13_code
  | 14 => prog_1_method_14_code
  | 15 => prog_1_method_17_code
  | 16 => prog_1_method_18_code
  | 17 => prog_1_method_19_code
  | 18 => prog_1_method_20_code
  | 19 => prog_1_method_21_code
  | 20 => prog_1_method_22_code
  | 21 => prog_1_method_23_code
  | 22 => prog_1_method_24_code
  | 23 => prog_1_method_25_code
  | 24 => prog_1_method_26_code
  | 25 => prog_1_method_27_code
  | 26 => prog_1_method_28_code
  | 27 => prog_1_method_29_code
  | 28 => prog_1_method_30_code
  | 29 => prog_1_method_31_code
  | 30 => prog_1_method_32_code
  | 31 => prog_1_method_33_code
  | 32 => prog_1_method_34_code
  | 33 => prog_1_method_35_code
  | 34 => prog_1_method_36_code
  | 35 => method_2_code
  | 36 => method_7_code
  | 37 => method_3_code
  | 38 => method_4_code
  | 39 => method_5_code
  | 40 => method_6_code
  | _ => code
def t_ml : Nat → Nat
  | 0 => maxLocals
  | 1 => 4
  | 2 => 1
  | 3 => 7
  | 4 => 7
  | 5 => 6
  | 6 => 2
  | 7 => 3
  | 8 => 3
  | 9 => 2
  | 10 => 1
  | 11 => 2
  | 12 => 3
  | 13 => 3
  | 14 => 2
  | 15 => 1
  | 16 => 4
  | 17 => 2
  | 18 => 2
  | 19 => 2
  | 20 => 2
  | 21 => 7
  | 22 => 3
  | 23 => 3
  | 24 => 3
  | 25 => 2
  | 26 => 5
  | 27 => 3
  | 28 => 2
  | 29 => 2
  | 30 => 2
  | 31 => 3
  | 32 => 3
  | 33 => 5
  | 34 => 3
  | 35 => 2
  | 36 => 10
  | 37 => 1
  | 38 => 4
  | 39 => 3
  | 40 => 12
  | _ => 0
def t_rt : Nat → Option FieldType
  | 0 => ret
  | 1 => none
  | 2 => some .int
  | 3 => some .int
  | 4 => some .int
  | 5 => some .int
  | 6 => some .boolean
  | 7 => some .int
  | 8 => some .int
  | 9 => none
  | 10 => some .int
  | 11 => some .int
  | 12 => some .int
  | 13 => some .boolean
  | 14 => some .int
  | 15 => some .boolean
  | 16 => some .int
  | 17 => some .boolean
  | 18 => some .int
  | 19 => some .boolean
  | 20 => some .boolean
  | 21 => some .int
  | 22 => some .boolean
  | 23 => none
  | 24 => none
  | 25 => none
  | 26 => none
  | 27 => none
  | 28 => some .boolean
  | 29 => some .boolean
  | 30 => some .boolean
  | 31 => some .int
  | 32 => none
  | 33 => some .int
  | 34 => none
  | 35 => some .int
  | 36 => some .boolean
  | 37 => some .int
  | 38 => some .int
  | 39 => some .int
  | 40 => some .long
  | _ => none
def t_np : Nat → Nat
  | 0 => 1
  | 1 => 4
  | 2 => 1
  | 3 => 4
  | 4 => 5
  | 5 => 3
  | 6 => 2
  | 7 => 1
  | 8 => 1
  | 9 => 1
  | 10 => 1
  | 11 => 2
  | 12 => 3
  | 13 => 3
  | 14 => 2
  | 15 => 1
  | 16 => 4
  | 17 => 2
  | 18 => 2
  | 19 => 2
  | 20 => 2
  | 21 => 6
  | 22 => 3
  | 23 => 3
  | 24 => 3
  | 25 => 1
  | 26 => 2
  | 27 => 2
  | 28 => 1
  | 29 => 1
  | 30 => 2
  | 31 => 1
  | 32 => 1
  | 33 => 2
  | 34 => 2
  | 35 => 2
  | 36 => 2
  | 37 => 1
  | 38 => 3
  | 39 => 2
  | 40 => 3
  | _ => 0
def t_mode : Nat → Nat
  | 0 => 2
  | 1 => 1
  | 2 => 0
  | 3 => 0
  | 4 => 0
  | 5 => 0
  | 6 => 0
  | 7 => 0
  | 8 => 0
  | 9 => 0
  | 10 => 0
  | 11 => 0
  | 12 => 0
  | 13 => 0
  | 14 => 0
  | 15 => 0
  | 16 => 0
  | 17 => 0
  | 18 => 0
  | 19 => 0
  | 20 => 0
  | 21 => 0
  | 22 => 0
  | 23 => 0
  | 24 => 0
  | 25 => 0
  | 26 => 0
  | 27 => 0
  | 28 => 0
  | 29 => 0
  | 30 => 0
  | 31 => 0
  | 32 => 0
  | 33 => 0
  | 34 => 0
  | 35 => 0
  | 36 => 0
  | 37 => 0
  | 38 => 0
  | 39 => 0
  | 40 => 0
  | _ => 0
def t_rm : Nat → Room
  | 0 => room_1
  | 1 => { frames := 1, cells := 9, slots := 480, locals := 16 }
  | 2 => { frames := 1, cells := 0, slots := 0, locals := 18 }
  | 3 => { frames := 2, cells := 0, slots := 0, locals := 26 }
  | 4 => { frames := 2, cells := 0, slots := 0, locals := 26 }
  | 5 => { frames := 2, cells := 0, slots := 0, locals := 29 }
  | 6 => { frames := 1, cells := 0, slots := 0, locals := 14 }
  | 7 => { frames := 4, cells := 0, slots := 0, locals := 59 }
  | 8 => { frames := 3, cells := 0, slots := 0, locals := 43 }
  | 9 => { frames := 0, cells := 0, slots := 0, locals := 0 }
  | 10 => { frames := 0, cells := 0, slots := 0, locals := 0 }
  | 11 => { frames := 1, cells := 0, slots := 0, locals := 13 }
  | 12 => { frames := 1, cells := 0, slots := 0, locals := 13 }
  | 13 => { frames := 1, cells := 0, slots := 0, locals := 13 }
  | 14 => { frames := 1, cells := 0, slots := 0, locals := 13 }
  | 15 => { frames := 0, cells := 0, slots := 0, locals := 0 }
  | 16 => { frames := 0, cells := 0, slots := 0, locals := 0 }
  | 17 => { frames := 0, cells := 0, slots := 0, locals := 0 }
  | 18 => { frames := 0, cells := 0, slots := 0, locals := 0 }
  | 19 => { frames := 1, cells := 0, slots := 0, locals := 13 }
  | 20 => { frames := 1, cells := 0, slots := 0, locals := 13 }
  | 21 => { frames := 0, cells := 0, slots := 0, locals := 0 }
  | 22 => { frames := 0, cells := 0, slots := 0, locals := 0 }
  | 23 => { frames := 0, cells := 0, slots := 0, locals := 0 }
  | 24 => { frames := 0, cells := 0, slots := 0, locals := 0 }
  | 25 => { frames := 0, cells := 0, slots := 0, locals := 0 }
  | 26 => { frames := 1, cells := 0, slots := 0, locals := 13 }
  | 27 => { frames := 2, cells := 0, slots := 0, locals := 29 }
  | 28 => { frames := 0, cells := 0, slots := 0, locals := 0 }
  | 29 => { frames := 1, cells := 0, slots := 0, locals := 14 }
  | 30 => { frames := 1, cells := 0, slots := 0, locals := 14 }
  | 31 => { frames := 2, cells := 0, slots := 0, locals := 27 }
  | 32 => { frames := 3, cells := 0, slots := 0, locals := 41 }
  | 33 => { frames := 3, cells := 0, slots := 0, locals := 43 }
  | 34 => { frames := 2, cells := 0, slots := 0, locals := 29 }
  | 35 => { frames := 0, cells := 0, slots := 0, locals := 0 }
  | 36 => { frames := 3, cells := 0, slots := 0, locals := 52 }
  | 37 => { frames := 0, cells := 0, slots := 0, locals := 0 }
  | 38 => { frames := 2, cells := 0, slots := 0, locals := 26 }
  | 39 => { frames := 2, cells := 0, slots := 0, locals := 27 }
  | 40 => { frames := 2, cells := 0, slots := 0, locals := 27 }
  | _ => {}
def pmLk {α : Type} : List (Nat × α) → Nat → Option α
  | [], _ => none
  | (a, b) :: r, i => bif Nat.beq a i then some b else pmLk r i
theorem pmLk_mem {α : Type} {l : List (Nat × α)} {i : Nat} {b : α} (h : pmLk l i = some b) : (i, b) ∈ l := by
  induction l with
  | nil => cases h
  | cons q r ih =>
    obtain ⟨a, c⟩ := q
    simp only [pmLk] at h
    cases e : Nat.beq a i with
    | true => rw [e] at h; cases h; rw [Nat.eq_of_beq_eq_true e]; exact List.mem_cons_self ..
    | false => rw [e] at h; exact List.mem_cons_of_mem _ (ih h)
def t_isC : Nat → Bool
  | 0 => false
  | 1 => true
  | 2 => true
  | 3 => true
  | 4 => true
  | 5 => true
  | 6 => true
  | 7 => true
  | 8 => true
  | 9 => true
  | 10 => true
  | 11 => true
  | 12 => true
  | 13 => true
  | 14 => true
  | 15 => true
  | 16 => true
  | 17 => true
  | 18 => true
  | 19 => true
  | 20 => true
  | 21 => true
  | 22 => true
  | 23 => true
  | 24 => true
  | 25 => true
  | 26 => true
  | 27 => true
  | 28 => true
  | 29 => true
  | 30 => true
  | 31 => true
  | 32 => true
  | 33 => true
  | 34 => true
  | 35 => false
  | 36 => false
  | 37 => false
  | 38 => false
  | 39 => false
  | 40 => false
  | _ => false
def t_fls : List (Nat × Nat) := [(7, 8), (13, 9), (17, 10), (20, 11), (24, 12), (27, 13), (30, 14), (33, 15), (36, 16), (43, 0), (47, 1), (50, 2), (53, 3), (56, 4), (59, 5), (62, 6), (65, 7)]
def t_fl (k j : Nat) : Option Nat := match t_isC k with | true => pmLk t_fls j | false => none
def t_mkC : List (Nat × Nat × Nat) := [(1, 4, 0), (39, 2, 16), (69, 2, 21), (81, 2, 17), (73, 2, 19), (77, 2, 18), (102, 2, 29), (94, 2, 22), (84, 2, 20), (87, 2, 25), (90, 2, 26), (98, 2, 23), (106, 2, 32), (112, 2, 31), (125, 2, 30), (109, 2, 33), (116, 2, 27), (119, 2, 24), (122, 2, 28), (128, 2, 34)]
def t_mkL : List (Nat × Nat × Nat) := [(35, 0, 35), (39, 0, 37), (42, 3, 1), (45, 1, 2), (81, 1, 10), (49, 0, 38), (8, 1, 11), (53, 1, 3), (72, 1, 7), (57, 1, 4), (61, 1, 5), (78, 1, 9), (75, 1, 8), (64, 0, 39), (68, 1, 6), (14, 1, 13), (84, 0, 36), (22, 1, 14), (25, 0, 40), (18, 1, 12), (31, 1, 15)]
def t_mk (k j : Nat) : Option (Nat × Nat) := match t_isC k with | true => pmLk t_mkC j | false => pmLk t_mkL j
def t_new (k j : Nat) : Bool := Nat.beq k 0 && Nat.beq j 9
def t_ldcs : List (Nat × Int32) := [(7, 2147483647)]
def t_ldc2s : List (Nat × Int64) := []
def t_ldc (k j : Nat) : Option Int32 := match t_isC k with | true => none | false => pmLk t_ldcs j
def t_ldc2 (k j : Nat) : Option Int64 := match t_isC k with | true => none | false => pmLk t_ldc2s j
/-- law -/
def t_ins_0 (pc : Nat) : Option (Instr × Nat × Nat) := bif Nat.blt pc 516 then (bif Nat.blt pc 249 then (bif Nat.blt pc 123 then (bif Nat.blt pc 57 then (bif Nat.blt pc 29 then (bif Nat.blt pc 14 then (bif Nat.blt pc 7 then (bif Nat.blt pc 3 then (bif Nat.blt pc 2 then (bif Nat.beq pc 0 then some (.bipush 8, 2, 0) else none) else (bif Nat.beq pc 2 then some (.aload_n 0, 3, 0) else none)) else (bif Nat.blt pc 4 then (bif Nat.beq pc 3 then some (.iconst 0, 4, 0) else none) else (bif Nat.beq pc 4 then some (.invokestatic 35, 7, 0) else none))) else (bif Nat.blt pc 12 then (bif Nat.blt pc 10 then (bif Nat.beq pc 7 then some (.invokestatic 39, 10, 0) else none) else (bif Nat.beq pc 10 then some (.bipush 25, 12, 0) else none)) else (bif Nat.blt pc 13 then (bif Nat.beq pc 12 then some (.irem, 13, 0) else none) else (bif Nat.beq pc 13 then some (.iadd, 14, 0) else none)))) else (bif Nat.blt pc 20 then (bif Nat.blt pc 18 then (bif Nat.blt pc 15 then (bif Nat.beq pc 14 then some (.istore_n 1, 15, 0) else none) else (bif Nat.beq pc 15 then some (.new 9, 18, 0) else none)) else (bif Nat.blt pc 19 then (bif Nat.beq pc 18 then some (.dup, 19, 0) else none) else (bif Nat.beq pc 19 then some (.iload_n 1, 20, 0) else none))) else (bif Nat.blt pc 22 then (bif Nat.blt pc 21 then (bif Nat.beq pc 20 then some (.iconst 1, 21, 0) else none) else (bif Nat.beq pc 21 then some (.aload_n 0, 22, 0) else none)) else (bif Nat.blt pc 23 then (bif Nat.beq pc 22 then some (.iconst 1, 23, 0) else none) else (bif Nat.blt pc 26 then (bif Nat.beq pc 23 then some (.invokestatic 35, 26, 0) else none) else (bif Nat.beq pc 26 then some (.invokestatic 39, 29, 0) else none)))))) else (bif Nat.blt pc 44 then (bif Nat.blt pc 34 then (bif Nat.blt pc 32 then (bif Nat.blt pc 31 then (bif Nat.beq pc 29 then some (.bipush 8, 31, 0) else none) else (bif Nat.beq pc 31 then some (.irem, 32, 0) else none)) else (bif Nat.blt pc 33 then (bif Nat.beq pc 32 then some (.iadd, 33, 0) else none) else (bif Nat.beq pc 33 then some (.iconst 1, 34, 0) else none))) else (bif Nat.blt pc 36 then (bif Nat.blt pc 35 then (bif Nat.beq pc 34 then some (.aload_n 0, 35, 0) else none) else (bif Nat.beq pc 35 then some (.iconst 2, 36, 0) else none)) else (bif Nat.blt pc 39 then (bif Nat.beq pc 36 then some (.invokestatic 35, 39, 0) else none) else (bif Nat.blt pc 42 then (bif Nat.beq pc 39 then some (.invokestatic 39, 42, 0) else none) else (bif Nat.beq pc 42 then some (.bipush 16, 44, 0) else none))))) else (bif Nat.blt pc 50 then (bif Nat.blt pc 46 then (bif Nat.blt pc 45 then (bif Nat.beq pc 44 then some (.irem, 45, 0) else none) else (bif Nat.beq pc 45 then some (.iadd, 46, 0) else none)) else (bif Nat.blt pc 49 then (bif Nat.beq pc 46 then some (.invokespecial 42, 49, 0) else none) else (bif Nat.beq pc 49 then some (.astore_n 2, 50, 0) else none))) else (bif Nat.blt pc 52 then (bif Nat.blt pc 51 then (bif Nat.beq pc 50 then some (.iconst 0, 51, 0) else none) else (bif Nat.beq pc 51 then some (.istore_n 3, 52, 0) else none)) else (bif Nat.blt pc 53 then (bif Nat.beq pc 52 then some (.iconst 3, 53, 0) else none) else (bif Nat.blt pc 55 then (bif Nat.beq pc 53 then some (.istore 4, 55, 0) else none) else (bif Nat.beq pc 55 then some (.iload 4, 57, 0) else none))))))) else (bif Nat.blt pc 90 then (bif Nat.blt pc 74 then (bif Nat.blt pc 63 then (bif Nat.blt pc 59 then (bif Nat.blt pc 58 then (bif Nat.beq pc 57 then some (.aload_n 0, 58, 0) else none) else (bif Nat.beq pc 58 then some (.arraylength, 59, 0) else none)) else (bif Nat.blt pc 62 then (bif Nat.beq pc 59 then some (.if_icmp .ge 455, 62, 514) else none) else (bif Nat.beq pc 62 then some (.aload_n 0, 63, 0) else none))) else (bif Nat.blt pc 68 then (bif Nat.blt pc 65 then (bif Nat.beq pc 63 then some (.iload 4, 65, 0) else none) else (bif Nat.beq pc 65 then some (.invokestatic 35, 68, 0) else none)) else (bif Nat.blt pc 71 then (bif Nat.beq pc 68 then some (.invokestatic 39, 71, 0) else none) else (bif Nat.blt pc 73 then (bif Nat.beq pc 71 then some (.bipush 16, 73, 0) else none) else (bif Nat.beq pc 73 then some (.irem, 74, 0) else none))))) else (bif Nat.blt pc 80 then (bif Nat.blt pc 77 then (bif Nat.blt pc 76 then (bif Nat.beq pc 74 then some (.istore 5, 76, 0) else none) else (bif Nat.beq pc 76 then some (.aload_n 0, 77, 0) else none)) else (bif Nat.blt pc 79 then (bif Nat.beq pc 77 then some (.iload 4, 79, 0) else none) else (bif Nat.beq pc 79 then some (.iconst 1, 80, 0) else none))) else (bif Nat.blt pc 84 then (bif Nat.blt pc 81 then (bif Nat.beq pc 80 then some (.iadd, 81, 0) else none) else (bif Nat.beq pc 81 then some (.invokestatic 35, 84, 0) else none)) else (bif Nat.blt pc 87 then (bif Nat.beq pc 84 then some (.invokestatic 39, 87, 0) else none) else (bif Nat.blt pc 89 then (bif Nat.beq pc 87 then some (.istore 6, 89, 0) else none) else (bif Nat.beq pc 89 then some (.aload_n 0, 90, 0) else none)))))) else (bif Nat.blt pc 106 then (bif Nat.blt pc 97 then (bif Nat.blt pc 93 then (bif Nat.blt pc 92 then (bif Nat.beq pc 90 then some (.iload 4, 92, 0) else none) else (bif Nat.beq pc 92 then some (.iconst 2, 93, 0) else none)) else (bif Nat.blt pc 94 then (bif Nat.beq pc 93 then some (.iadd, 94, 0) else none) else (bif Nat.beq pc 94 then some (.invokestatic 35, 97, 0) else none))) else (bif Nat.blt pc 102 then (bif Nat.blt pc 100 then (bif Nat.beq pc 97 then some (.invokestatic 39, 100, 0) else none) else (bif Nat.beq pc 100 then some (.istore 7, 102, 0) else none)) else (bif Nat.blt pc 103 then (bif Nat.beq pc 102 then some (.aload_n 0, 103, 0) else none) else (bif Nat.blt pc 105 then (bif Nat.beq pc 103 then some (.iload 4, 105, 0) else none) else (bif Nat.beq pc 105 then some (.iconst 3, 106, 0) else none))))) else (bif Nat.blt pc 115 then (bif Nat.blt pc 110 then (bif Nat.blt pc 107 then (bif Nat.beq pc 106 then some (.iadd, 107, 0) else none) else (bif Nat.beq pc 107 then some (.invokestatic 35, 110, 0) else none)) else (bif Nat.blt pc 113 then (bif Nat.beq pc 110 then some (.invokestatic 39, 113, 0) else none) else (bif Nat.beq pc 113 then some (.istore 8, 115, 0) else none))) else (bif Nat.blt pc 118 then (bif Nat.blt pc 116 then (bif Nat.beq pc 115 then some (.aload_n 0, 116, 0) else none) else (bif Nat.beq pc 116 then some (.iload 4, 118, 0) else none)) else (bif Nat.blt pc 119 then (bif Nat.beq pc 118 then some (.iconst 4, 119, 0) else none) else (bif Nat.blt pc 120 then (bif Nat.beq pc 119 then some (.iadd, 120, 0) else none) else (bif Nat.beq pc 120 then some (.invokestatic 35, 123, 0) else none)))))))) else (bif Nat.blt pc 179 then (bif Nat.blt pc 157 then (bif Nat.blt pc 141 then (bif Nat.blt pc 131 then (bif Nat.blt pc 128 then (bif Nat.blt pc 126 then (bif Nat.beq pc 123 then some (.invokestatic 39, 126, 0) else none) else (bif Nat.beq pc 126 then some (.istore 9, 128, 0) else none)) else (bif Nat.blt pc 129 then (bif Nat.beq pc 128 then some (.iconst (-1), 129, 0) else none) else (bif Nat.beq pc 129 then some (.istore 10, 131, 0) else none))) else (bif Nat.blt pc 134 then (bif Nat.blt pc 133 then (bif Nat.beq pc 131 then some (.iload 5, 133, 0) else none) else (bif Nat.beq pc 133 then some (.iconst 1, 134, 0) else none)) else (bif Nat.blt pc 137 then (bif Nat.beq pc 134 then some (.if_icmp .gt 12, 137, 146) else none) else (bif Nat.blt pc 138 then (bif Nat.beq pc 137 then some (.aload_n 2, 138, 0) else none) else (bif Nat.beq pc 138 then some (.invokevirtual 45, 141, 0) else none))))) else (bif Nat.blt pc 149 then (bif Nat.blt pc 146 then (bif Nat.blt pc 143 then (bif Nat.beq pc 141 then some (.istore 10, 143, 0) else none) else (bif Nat.beq pc 143 then some (.goto 333, 146, 476) else none)) else (bif Nat.blt pc 148 then (bif Nat.beq pc 146 then some (.iload 5, 148, 0) else none) else (bif Nat.beq pc 148 then some (.iconst 4, 149, 0) else none))) else (bif Nat.blt pc 154 then (bif Nat.blt pc 152 then (bif Nat.beq pc 149 then some (.if_icmp .gt 135, 152, 284) else none) else (bif Nat.beq pc 152 then some (.iload 6, 154, 0) else none)) else (bif Nat.blt pc 155 then (bif Nat.beq pc 154 then some (.iload_n 3, 155, 0) else none) else (bif Nat.blt pc 156 then (bif Nat.beq pc 155 then some (.iconst 1, 156, 0) else none) else (bif Nat.beq pc 156 then some (.iadd, 157, 0) else none)))))) else (bif Nat.blt pc 168 then (bif Nat.blt pc 162 then (bif Nat.blt pc 159 then (bif Nat.blt pc 158 then (bif Nat.beq pc 157 then some (.irem, 158, 0) else none) else (bif Nat.beq pc 158 then some (.iconst 1, 159, 0) else none)) else (bif Nat.blt pc 160 then (bif Nat.beq pc 159 then some (.isub, 160, 0) else none) else (bif Nat.beq pc 160 then some (.istore 11, 162, 0) else none))) else (bif Nat.blt pc 165 then (bif Nat.blt pc 164 then (bif Nat.beq pc 162 then some (.iload 7, 164, 0) else none) else (bif Nat.beq pc 164 then some (.iload_n 3, 165, 0) else none)) else (bif Nat.blt pc 166 then (bif Nat.beq pc 165 then some (.iconst 1, 166, 0) else none) else (bif Nat.blt pc 167 then (bif Nat.beq pc 166 then some (.iadd, 167, 0) else none) else (bif Nat.beq pc 167 then some (.irem, 168, 0) else none))))) else (bif Nat.blt pc 174 then (bif Nat.blt pc 170 then (bif Nat.blt pc 169 then (bif Nat.beq pc 168 then some (.iconst 1, 169, 0) else none) else (bif Nat.beq pc 169 then some (.isub, 170, 0) else none)) else (bif Nat.blt pc 172 then (bif Nat.beq pc 170 then some (.istore 12, 172, 0) else none) else (bif Nat.beq pc 172 then some (.iload 8, 174, 0) else none))) else (bif Nat.blt pc 176 then (bif Nat.blt pc 175 then (bif Nat.beq pc 174 then some (.iload_n 3, 175, 0) else none) else (bif Nat.beq pc 175 then some (.iconst 1, 176, 0) else none)) else (bif Nat.blt pc 177 then (bif Nat.beq pc 176 then some (.iadd, 177, 0) else none) else (bif Nat.blt pc 178 then (bif Nat.beq pc 177 then some (.irem, 178, 0) else none) else (bif Nat.beq pc 178 then some (.iconst 1, 179, 0) else none))))))) else (bif Nat.blt pc 213 then (bif Nat.blt pc 196 then (bif Nat.blt pc 187 then (bif Nat.blt pc 182 then (bif Nat.blt pc 180 then (bif Nat.beq pc 179 then some (.isub, 180, 0) else none) else (bif Nat.beq pc 180 then some (.istore 13, 182, 0) else none)) else (bif Nat.blt pc 184 then (bif Nat.beq pc 182 then some (.iload 11, 184, 0) else none) else (bif Nat.beq pc 184 then some (.ifCond .ge 7, 187, 191) else none))) else (bif Nat.blt pc 191 then (bif Nat.blt pc 188 then (bif Nat.beq pc 187 then some (.iconst (-1), 188, 0) else none) else (bif Nat.beq pc 188 then some (.goto 21, 191, 209) else none)) else (bif Nat.blt pc 192 then (bif Nat.beq pc 191 then some (.aload_n 2, 192, 0) else none) else (bif Nat.blt pc 194 then (bif Nat.beq pc 192 then some (.iload 11, 194, 0) else none) else (bif Nat.beq pc 194 then some (.iload 9, 196, 0) else none))))) else (bif Nat.blt pc 202 then (bif Nat.blt pc 198 then (bif Nat.blt pc 197 then (bif Nat.beq pc 196 then some (.iconst 1, 197, 0) else none) else (bif Nat.beq pc 197 then some (.iand, 198, 0) else none)) else (bif Nat.blt pc 201 then (bif Nat.beq pc 198 then some (.ifCond .ne 7, 201, 205) else none) else (bif Nat.beq pc 201 then some (.iconst 1, 202, 0) else none))) else (bif Nat.blt pc 206 then (bif Nat.blt pc 205 then (bif Nat.beq pc 202 then some (.goto 4, 205, 206) else none) else (bif Nat.beq pc 205 then some (.iconst 2, 206, 0) else none)) else (bif Nat.blt pc 209 then (bif Nat.beq pc 206 then some (.invokestatic 49, 209, 0) else none) else (bif Nat.blt pc 211 then (bif Nat.beq pc 209 then some (.istore 14, 211, 0) else none) else (bif Nat.beq pc 211 then some (.iload 12, 213, 0) else none)))))) else (bif Nat.blt pc 230 then (bif Nat.blt pc 221 then (bif Nat.blt pc 217 then (bif Nat.blt pc 216 then (bif Nat.beq pc 213 then some (.ifCond .ge 7, 216, 220) else none) else (bif Nat.beq pc 216 then some (.iconst (-1), 217, 0) else none)) else (bif Nat.blt pc 220 then (bif Nat.beq pc 217 then some (.goto 21, 220, 238) else none) else (bif Nat.beq pc 220 then some (.aload_n 2, 221, 0) else none))) else (bif Nat.blt pc 225 then (bif Nat.blt pc 223 then (bif Nat.beq pc 221 then some (.iload 12, 223, 0) else none) else (bif Nat.beq pc 223 then some (.iload 9, 225, 0) else none)) else (bif Nat.blt pc 226 then (bif Nat.beq pc 225 then some (.iconst 2, 226, 0) else none) else (bif Nat.blt pc 227 then (bif Nat.beq pc 226 then some (.iand, 227, 0) else none) else (bif Nat.beq pc 227 then some (.ifCond .ne 7, 230, 234) else none))))) else (bif Nat.blt pc 238 then (bif Nat.blt pc 234 then (bif Nat.blt pc 231 then (bif Nat.beq pc 230 then some (.iconst 1, 231, 0) else none) else (bif Nat.beq pc 231 then some (.goto 4, 234, 235) else none)) else (bif Nat.blt pc 235 then (bif Nat.beq pc 234 then some (.iconst 2, 235, 0) else none) else (bif Nat.beq pc 235 then some (.invokestatic 49, 238, 0) else none))) else (bif Nat.blt pc 242 then (bif Nat.blt pc 240 then (bif Nat.beq pc 238 then some (.istore 15, 240, 0) else none) else (bif Nat.beq pc 240 then some (.iload 13, 242, 0) else none)) else (bif Nat.blt pc 245 then (bif Nat.beq pc 242 then some (.ifCond .ge 7, 245, 249) else none) else (bif Nat.blt pc 246 then (bif Nat.beq pc 245 then some (.iconst (-1), 246, 0) else none) else (bif Nat.beq pc 246 then some (.goto 21, 249, 267) else none))))))))) else (bif Nat.blt pc 373 then (bif Nat.blt pc 314 then (bif Nat.blt pc 281 then (bif Nat.blt pc 263 then (bif Nat.blt pc 255 then (bif Nat.blt pc 252 then (bif Nat.blt pc 250 then (bif Nat.beq pc 249 then some (.aload_n 2, 250, 0) else none) else (bif Nat.beq pc 250 then some (.iload 13, 252, 0) else none)) else (bif Nat.blt pc 254 then (bif Nat.beq pc 252 then some (.iload 9, 254, 0) else none) else (bif Nat.beq pc 254 then some (.iconst 4, 255, 0) else none))) else (bif Nat.blt pc 259 then (bif Nat.blt pc 256 then (bif Nat.beq pc 255 then some (.iand, 256, 0) else none) else (bif Nat.beq pc 256 then some (.ifCond .ne 7, 259, 263) else none)) else (bif Nat.blt pc 260 then (bif Nat.beq pc 259 then some (.iconst 1, 260, 0) else none) else (bif Nat.beq pc 260 then some (.goto 4, 263, 264) else none)))) else (bif Nat.blt pc 270 then (bif Nat.blt pc 267 then (bif Nat.blt pc 264 then (bif Nat.beq pc 263 then some (.iconst 2, 264, 0) else none) else (bif Nat.beq pc 264 then some (.invokestatic 49, 267, 0) else none)) else (bif Nat.blt pc 269 then (bif Nat.beq pc 267 then some (.istore 16, 269, 0) else none) else (bif Nat.beq pc 269 then some (.aload_n 2, 270, 0) else none))) else (bif Nat.blt pc 274 then (bif Nat.blt pc 272 then (bif Nat.beq pc 270 then some (.iload 14, 272, 0) else none) else (bif Nat.beq pc 272 then some (.iload 15, 274, 0) else none)) else (bif Nat.blt pc 276 then (bif Nat.beq pc 274 then some (.iload 16, 276, 0) else none) else (bif Nat.blt pc 279 then (bif Nat.beq pc 276 then some (.invokevirtual 53, 279, 0) else none) else (bif Nat.beq pc 279 then some (.istore 10, 281, 0) else none)))))) else (bif Nat.blt pc 300 then (bif Nat.blt pc 291 then (bif Nat.blt pc 286 then (bif Nat.blt pc 284 then (bif Nat.beq pc 281 then some (.goto 195, 284, 476) else none) else (bif Nat.beq pc 284 then some (.iload 5, 286, 0) else none)) else (bif Nat.blt pc 288 then (bif Nat.beq pc 286 then some (.bipush 7, 288, 0) else none) else (bif Nat.beq pc 288 then some (.if_icmp .gt 100, 291, 388) else none))) else (bif Nat.blt pc 295 then (bif Nat.blt pc 292 then (bif Nat.beq pc 291 then some (.iload_n 3, 292, 0) else none) else (bif Nat.beq pc 292 then some (.ifCond .ne 7, 295, 299) else none)) else (bif Nat.blt pc 296 then (bif Nat.beq pc 295 then some (.iconst (-1), 296, 0) else none) else (bif Nat.blt pc 299 then (bif Nat.beq pc 296 then some (.goto 12, 299, 308) else none) else (bif Nat.beq pc 299 then some (.aload_n 2, 300, 0) else none))))) else (bif Nat.blt pc 305 then (bif Nat.blt pc 303 then (bif Nat.blt pc 302 then (bif Nat.beq pc 300 then some (.iload 7, 302, 0) else none) else (bif Nat.beq pc 302 then some (.iload_n 3, 303, 0) else none)) else (bif Nat.blt pc 304 then (bif Nat.beq pc 303 then some (.irem, 304, 0) else none) else (bif Nat.beq pc 304 then some (.iconst 2, 305, 0) else none))) else (bif Nat.blt pc 310 then (bif Nat.blt pc 308 then (bif Nat.beq pc 305 then some (.invokestatic 49, 308, 0) else none) else (bif Nat.beq pc 308 then some (.istore 11, 310, 0) else none)) else (bif Nat.blt pc 312 then (bif Nat.beq pc 310 then some (.iload 8, 312, 0) else none) else (bif Nat.blt pc 313 then (bif Nat.beq pc 312 then some (.iload_n 3, 313, 0) else none) else (bif Nat.beq pc 313 then some (.iconst 1, 314, 0) else none))))))) else (bif Nat.blt pc 340 then (bif Nat.blt pc 325 then (bif Nat.blt pc 318 then (bif Nat.blt pc 316 then (bif Nat.blt pc 315 then (bif Nat.beq pc 314 then some (.iadd, 315, 0) else none) else (bif Nat.beq pc 315 then some (.irem, 316, 0) else none)) else (bif Nat.blt pc 317 then (bif Nat.beq pc 316 then some (.iconst 1, 317, 0) else none) else (bif Nat.beq pc 317 then some (.isub, 318, 0) else none))) else (bif Nat.blt pc 322 then (bif Nat.blt pc 320 then (bif Nat.beq pc 318 then some (.istore 12, 320, 0) else none) else (bif Nat.beq pc 320 then some (.iload 9, 322, 0) else none)) else (bif Nat.blt pc 323 then (bif Nat.beq pc 322 then some (.iload_n 3, 323, 0) else none) else (bif Nat.blt pc 324 then (bif Nat.beq pc 323 then some (.iconst 1, 324, 0) else none) else (bif Nat.beq pc 324 then some (.iadd, 325, 0) else none))))) else (bif Nat.blt pc 330 then (bif Nat.blt pc 327 then (bif Nat.blt pc 326 then (bif Nat.beq pc 325 then some (.irem, 326, 0) else none) else (bif Nat.beq pc 326 then some (.iconst 1, 327, 0) else none)) else (bif Nat.blt pc 328 then (bif Nat.beq pc 327 then some (.isub, 328, 0) else none) else (bif Nat.beq pc 328 then some (.istore 13, 330, 0) else none))) else (bif Nat.blt pc 335 then (bif Nat.blt pc 332 then (bif Nat.beq pc 330 then some (.iload 12, 332, 0) else none) else (bif Nat.beq pc 332 then some (.ifCond .ge 7, 335, 339) else none)) else (bif Nat.blt pc 336 then (bif Nat.beq pc 335 then some (.iconst (-1), 336, 0) else none) else (bif Nat.blt pc 339 then (bif Nat.beq pc 336 then some (.goto 10, 339, 346) else none) else (bif Nat.beq pc 339 then some (.aload_n 2, 340, 0) else none)))))) else (bif Nat.blt pc 358 then (bif Nat.blt pc 348 then (bif Nat.blt pc 343 then (bif Nat.blt pc 342 then (bif Nat.beq pc 340 then some (.iload 12, 342, 0) else none) else (bif Nat.beq pc 342 then some (.iconst 3, 343, 0) else none)) else (bif Nat.blt pc 346 then (bif Nat.beq pc 343 then some (.invokestatic 49, 346, 0) else none) else (bif Nat.beq pc 346 then some (.istore 14, 348, 0) else none))) else (bif Nat.blt pc 353 then (bif Nat.blt pc 350 then (bif Nat.beq pc 348 then some (.iload 13, 350, 0) else none) else (bif Nat.beq pc 350 then some (.ifCond .ge 7, 353, 357) else none)) else (bif Nat.blt pc 354 then (bif Nat.beq pc 353 then some (.iconst (-1), 354, 0) else none) else (bif Nat.blt pc 357 then (bif Nat.beq pc 354 then some (.goto 10, 357, 364) else none) else (bif Nat.beq pc 357 then some (.aload_n 2, 358, 0) else none))))) else (bif Nat.blt pc 366 then (bif Nat.blt pc 361 then (bif Nat.blt pc 360 then (bif Nat.beq pc 358 then some (.iload 13, 360, 0) else none) else (bif Nat.beq pc 360 then some (.iconst 3, 361, 0) else none)) else (bif Nat.blt pc 364 then (bif Nat.beq pc 361 then some (.invokestatic 49, 364, 0) else none) else (bif Nat.beq pc 364 then some (.istore 15, 366, 0) else none))) else (bif Nat.blt pc 369 then (bif Nat.blt pc 367 then (bif Nat.beq pc 366 then some (.aload_n 2, 367, 0) else none) else (bif Nat.beq pc 367 then some (.iload 6, 369, 0) else none)) else (bif Nat.blt pc 371 then (bif Nat.beq pc 369 then some (.bipush 8, 371, 0) else none) else (bif Nat.blt pc 372 then (bif Nat.beq pc 371 then some (.irem, 372, 0) else none) else (bif Nat.beq pc 372 then some (.iconst 3, 373, 0) else none)))))))) else (bif Nat.blt pc 442 then (bif Nat.blt pc 407 then (bif Nat.blt pc 392 then (bif Nat.blt pc 380 then (bif Nat.blt pc 376 then (bif Nat.blt pc 374 then (bif Nat.beq pc 373 then some (.isub, 374, 0) else none) else (bif Nat.beq pc 374 then some (.iload 11, 376, 0) else none)) else (bif Nat.blt pc 378 then (bif Nat.beq pc 376 then some (.iload 14, 378, 0) else none) else (bif Nat.beq pc 378 then some (.iload 15, 380, 0) else none))) else (bif Nat.blt pc 385 then (bif Nat.blt pc 383 then (bif Nat.beq pc 380 then some (.invokevirtual 57, 383, 0) else none) else (bif Nat.beq pc 383 then some (.istore 10, 385, 0) else none)) else (bif Nat.blt pc 388 then (bif Nat.beq pc 385 then some (.goto 91, 388, 476) else none) else (bif Nat.blt pc 390 then (bif Nat.beq pc 388 then some (.iload 5, 390, 0) else none) else (bif Nat.beq pc 390 then some (.bipush 10, 392, 0) else none))))) else (bif Nat.blt pc 400 then (bif Nat.blt pc 396 then (bif Nat.blt pc 395 then (bif Nat.beq pc 392 then some (.if_icmp .gt 23, 395, 415) else none) else (bif Nat.beq pc 395 then some (.iload_n 3, 396, 0) else none)) else (bif Nat.blt pc 399 then (bif Nat.beq pc 396 then some (.ifCond .le 80, 399, 476) else none) else (bif Nat.beq pc 399 then some (.aload_n 2, 400, 0) else none))) else (bif Nat.blt pc 403 then (bif Nat.blt pc 402 then (bif Nat.beq pc 400 then some (.iload 6, 402, 0) else none) else (bif Nat.beq pc 402 then some (.iconst 1, 403, 0) else none)) else (bif Nat.blt pc 404 then (bif Nat.beq pc 403 then some (.iand, 404, 0) else none) else (bif Nat.blt pc 406 then (bif Nat.beq pc 404 then some (.iload 7, 406, 0) else none) else (bif Nat.beq pc 406 then some (.iload_n 3, 407, 0) else none)))))) else (bif Nat.blt pc 426 then (bif Nat.blt pc 415 then (bif Nat.blt pc 411 then (bif Nat.blt pc 408 then (bif Nat.beq pc 407 then some (.irem, 408, 0) else none) else (bif Nat.beq pc 408 then some (.invokevirtual 61, 411, 0) else none)) else (bif Nat.blt pc 412 then (bif Nat.beq pc 411 then some (.pop, 412, 0) else none) else (bif Nat.beq pc 412 then some (.goto 64, 415, 476) else none))) else (bif Nat.blt pc 419 then (bif Nat.blt pc 417 then (bif Nat.beq pc 415 then some (.iload 5, 417, 0) else none) else (bif Nat.beq pc 417 then some (.bipush 11, 419, 0) else none)) else (bif Nat.blt pc 422 then (bif Nat.beq pc 419 then some (.if_icmp .ne 23, 422, 442) else none) else (bif Nat.blt pc 423 then (bif Nat.beq pc 422 then some (.iload_n 3, 423, 0) else none) else (bif Nat.beq pc 423 then some (.ifCond .le 53, 426, 476) else none))))) else (bif Nat.blt pc 431 then (bif Nat.blt pc 428 then (bif Nat.blt pc 427 then (bif Nat.beq pc 426 then some (.aload_n 2, 427, 0) else none) else (bif Nat.beq pc 427 then some (.aload_n 2, 428, 0) else none)) else (bif Nat.blt pc 430 then (bif Nat.beq pc 428 then some (.iload 6, 430, 0) else none) else (bif Nat.beq pc 430 then some (.iload_n 3, 431, 0) else none))) else (bif Nat.blt pc 435 then (bif Nat.blt pc 432 then (bif Nat.beq pc 431 then some (.irem, 432, 0) else none) else (bif Nat.beq pc 432 then some (.invokestatic 64, 435, 0) else none)) else (bif Nat.blt pc 438 then (bif Nat.beq pc 435 then some (.invokevirtual 68, 438, 0) else none) else (bif Nat.blt pc 439 then (bif Nat.beq pc 438 then some (.pop, 439, 0) else none) else (bif Nat.beq pc 439 then some (.goto 37, 442, 476) else none))))))) else (bif Nat.blt pc 481 then (bif Nat.blt pc 461 then (bif Nat.blt pc 450 then (bif Nat.blt pc 446 then (bif Nat.blt pc 444 then (bif Nat.beq pc 442 then some (.iload 5, 444, 0) else none) else (bif Nat.beq pc 444 then some (.bipush 13, 446, 0) else none)) else (bif Nat.blt pc 449 then (bif Nat.beq pc 446 then some (.if_icmp .gt 11, 449, 457) else none) else (bif Nat.beq pc 449 then some (.aload_n 2, 450, 0) else none))) else (bif Nat.blt pc 454 then (bif Nat.blt pc 453 then (bif Nat.beq pc 450 then some (.invokevirtual 72, 453, 0) else none) else (bif Nat.beq pc 453 then some (.pop, 454, 0) else none)) else (bif Nat.blt pc 457 then (bif Nat.beq pc 454 then some (.goto 22, 457, 476) else none) else (bif Nat.blt pc 459 then (bif Nat.beq pc 457 then some (.iload 5, 459, 0) else none) else (bif Nat.beq pc 459 then some (.bipush 14, 461, 0) else none))))) else (bif Nat.blt pc 469 then (bif Nat.blt pc 465 then (bif Nat.blt pc 464 then (bif Nat.beq pc 461 then some (.if_icmp .ne 11, 464, 472) else none) else (bif Nat.beq pc 464 then some (.aload_n 2, 465, 0) else none)) else (bif Nat.blt pc 468 then (bif Nat.beq pc 465 then some (.invokevirtual 75, 468, 0) else none) else (bif Nat.beq pc 468 then some (.pop, 469, 0) else none))) else (bif Nat.blt pc 473 then (bif Nat.blt pc 472 then (bif Nat.beq pc 469 then some (.goto 7, 472, 476) else none) else (bif Nat.beq pc 472 then some (.aload_n 2, 473, 0) else none)) else (bif Nat.blt pc 476 then (bif Nat.beq pc 473 then some (.invokevirtual 78, 476, 0) else none) else (bif Nat.blt pc 478 then (bif Nat.beq pc 476 then some (.iload 10, 478, 0) else none) else (bif Nat.beq pc 478 then some (.ifCond .lt 12, 481, 490) else none)))))) else (bif Nat.blt pc 499 then (bif Nat.blt pc 490 then (bif Nat.blt pc 484 then (bif Nat.blt pc 482 then (bif Nat.beq pc 481 then some (.iload_n 3, 482, 0) else none) else (bif Nat.beq pc 482 then some (.bipush 32, 484, 0) else none)) else (bif Nat.blt pc 487 then (bif Nat.beq pc 484 then some (.if_icmp .ge 6, 487, 490) else none) else (bif Nat.beq pc 487 then some (.iinc 3 1, 490, 0) else none))) else (bif Nat.blt pc 494 then (bif Nat.blt pc 491 then (bif Nat.beq pc 490 then some (.aload_n 2, 491, 0) else none) else (bif Nat.beq pc 491 then some (.invokevirtual 81, 494, 0) else none)) else (bif Nat.blt pc 495 then (bif Nat.beq pc 494 then some (.iconst 3, 495, 0) else none) else (bif Nat.blt pc 498 then (bif Nat.beq pc 495 then some (.if_icmp .ne 13, 498, 508) else none) else (bif Nat.beq pc 498 then some (.aload_n 2, 499, 0) else none))))) else (bif Nat.blt pc 507 then (bif Nat.blt pc 503 then (bif Nat.blt pc 500 then (bif Nat.beq pc 499 then some (.iload_n 3, 500, 0) else none) else (bif Nat.beq pc 500 then some (.invokestatic 84, 503, 0) else none)) else (bif Nat.blt pc 506 then (bif Nat.beq pc 503 then some (.ifCond .ne 5, 506, 508) else none) else (bif Nat.beq pc 506 then some (.iconst 0, 507, 0) else none))) else (bif Nat.blt pc 511 then (bif Nat.blt pc 508 then (bif Nat.beq pc 507 then some (.ireturn, 508, 0) else none) else (bif Nat.beq pc 508 then some (.iinc 4 5, 511, 0) else none)) else (bif Nat.blt pc 514 then (bif Nat.beq pc 511 then some (.goto (-456), 514, 55) else none) else (bif Nat.blt pc 515 then (bif Nat.beq pc 514 then some (.iconst 1, 515, 0) else none) else (bif Nat.beq pc 515 then some (.ireturn, 516, 0) else none)))))))))) else none
/-- the constructor -/
def t_ins_1 (pc : Nat) : Option (Instr × Nat × Nat) := bif Nat.blt pc 140 then (bif Nat.blt pc 74 then (bif Nat.blt pc 36 then (bif Nat.blt pc 17 then (bif Nat.blt pc 7 then (bif Nat.blt pc 4 then (bif Nat.blt pc 1 then (bif Nat.beq pc 0 then some (.aload_n 0, 1, 0) else none) else (bif Nat.beq pc 1 then some (.invokespecial 1, 4, 0) else none)) else (bif Nat.blt pc 5 then (bif Nat.beq pc 4 then some (.aload_n 0, 5, 0) else none) else (bif Nat.beq pc 5 then some (.bipush 32, 7, 0) else none))) else (bif Nat.blt pc 12 then (bif Nat.blt pc 9 then (bif Nat.beq pc 7 then some (.newarray .byte, 9, 0) else none) else (bif Nat.beq pc 9 then some (.putfield 7, 12, 0) else none)) else (bif Nat.blt pc 13 then (bif Nat.beq pc 12 then some (.aload_n 0, 13, 0) else none) else (bif Nat.blt pc 15 then (bif Nat.beq pc 13 then some (.bipush 32, 15, 0) else none) else (bif Nat.beq pc 15 then some (.newarray .int, 17, 0) else none))))) else (bif Nat.blt pc 25 then (bif Nat.blt pc 21 then (bif Nat.blt pc 20 then (bif Nat.beq pc 17 then some (.putfield 13, 20, 0) else none) else (bif Nat.beq pc 20 then some (.aload_n 0, 21, 0) else none)) else (bif Nat.blt pc 23 then (bif Nat.beq pc 21 then some (.bipush 96, 23, 0) else none) else (bif Nat.beq pc 23 then some (.newarray .int, 25, 0) else none))) else (bif Nat.blt pc 29 then (bif Nat.blt pc 28 then (bif Nat.beq pc 25 then some (.putfield 17, 28, 0) else none) else (bif Nat.beq pc 28 then some (.aload_n 0, 29, 0) else none)) else (bif Nat.blt pc 31 then (bif Nat.beq pc 29 then some (.bipush 64, 31, 0) else none) else (bif Nat.blt pc 33 then (bif Nat.beq pc 31 then some (.newarray .boolean, 33, 0) else none) else (bif Nat.beq pc 33 then some (.putfield 20, 36, 0) else none)))))) else (bif Nat.blt pc 53 then (bif Nat.blt pc 44 then (bif Nat.blt pc 39 then (bif Nat.blt pc 37 then (bif Nat.beq pc 36 then some (.aload_n 0, 37, 0) else none) else (bif Nat.beq pc 37 then some (.bipush 32, 39, 0) else none)) else (bif Nat.blt pc 41 then (bif Nat.beq pc 39 then some (.newarray .byte, 41, 0) else none) else (bif Nat.beq pc 41 then some (.putfield 24, 44, 0) else none))) else (bif Nat.blt pc 47 then (bif Nat.blt pc 45 then (bif Nat.beq pc 44 then some (.aload_n 0, 45, 0) else none) else (bif Nat.beq pc 45 then some (.bipush 32, 47, 0) else none)) else (bif Nat.blt pc 49 then (bif Nat.beq pc 47 then some (.newarray .int, 49, 0) else none) else (bif Nat.blt pc 52 then (bif Nat.beq pc 49 then some (.putfield 27, 52, 0) else none) else (bif Nat.beq pc 52 then some (.aload_n 0, 53, 0) else none))))) else (bif Nat.blt pc 64 then (bif Nat.blt pc 57 then (bif Nat.blt pc 55 then (bif Nat.beq pc 53 then some (.bipush 32, 55, 0) else none) else (bif Nat.beq pc 55 then some (.newarray .boolean, 57, 0) else none)) else (bif Nat.blt pc 60 then (bif Nat.beq pc 57 then some (.putfield 30, 60, 0) else none) else (bif Nat.blt pc 61 then (bif Nat.beq pc 60 then some (.aload_n 0, 61, 0) else none) else (bif Nat.beq pc 61 then some (.sipush 128, 64, 0) else none)))) else (bif Nat.blt pc 69 then (bif Nat.blt pc 66 then (bif Nat.beq pc 64 then some (.newarray .int, 66, 0) else none) else (bif Nat.beq pc 66 then some (.putfield 33, 69, 0) else none)) else (bif Nat.blt pc 70 then (bif Nat.beq pc 69 then some (.aload_n 0, 70, 0) else none) else (bif Nat.blt pc 72 then (bif Nat.beq pc 70 then some (.bipush 32, 72, 0) else none) else (bif Nat.beq pc 72 then some (.newarray .boolean, 74, 0) else none))))))) else (bif Nat.blt pc 106 then (bif Nat.blt pc 91 then (bif Nat.blt pc 80 then (bif Nat.blt pc 78 then (bif Nat.blt pc 77 then (bif Nat.beq pc 74 then some (.putfield 36, 77, 0) else none) else (bif Nat.beq pc 77 then some (.aload_n 0, 78, 0) else none)) else (bif Nat.blt pc 79 then (bif Nat.beq pc 78 then some (.aload_n 0, 79, 0) else none) else (bif Nat.beq pc 79 then some (.iload_n 1, 80, 0) else none))) else (bif Nat.blt pc 84 then (bif Nat.blt pc 82 then (bif Nat.beq pc 80 then some (.bipush 8, 82, 0) else none) else (bif Nat.beq pc 82 then some (.bipush 32, 84, 0) else none)) else (bif Nat.blt pc 87 then (bif Nat.beq pc 84 then some (.invokevirtual 39, 87, 0) else none) else (bif Nat.blt pc 90 then (bif Nat.beq pc 87 then some (.putfield 43, 90, 0) else none) else (bif Nat.beq pc 90 then some (.aload_n 0, 91, 0) else none))))) else (bif Nat.blt pc 99 then (bif Nat.blt pc 93 then (bif Nat.blt pc 92 then (bif Nat.beq pc 91 then some (.aload_n 0, 92, 0) else none) else (bif Nat.beq pc 92 then some (.iload_n 2, 93, 0) else none)) else (bif Nat.blt pc 94 then (bif Nat.beq pc 93 then some (.iconst 1, 94, 0) else none) else (bif Nat.blt pc 96 then (bif Nat.beq pc 94 then some (.bipush 8, 96, 0) else none) else (bif Nat.beq pc 96 then some (.invokevirtual 39, 99, 0) else none)))) else (bif Nat.blt pc 103 then (bif Nat.blt pc 102 then (bif Nat.beq pc 99 then some (.putfield 47, 102, 0) else none) else (bif Nat.beq pc 102 then some (.aload_n 0, 103, 0) else none)) else (bif Nat.blt pc 104 then (bif Nat.beq pc 103 then some (.aload_n 0, 104, 0) else none) else (bif Nat.blt pc 105 then (bif Nat.beq pc 104 then some (.iload_n 3, 105, 0) else none) else (bif Nat.beq pc 105 then some (.iconst 1, 106, 0) else none)))))) else (bif Nat.blt pc 124 then (bif Nat.blt pc 115 then (bif Nat.blt pc 111 then (bif Nat.blt pc 108 then (bif Nat.beq pc 106 then some (.bipush 16, 108, 0) else none) else (bif Nat.beq pc 108 then some (.invokevirtual 39, 111, 0) else none)) else (bif Nat.blt pc 114 then (bif Nat.beq pc 111 then some (.putfield 50, 114, 0) else none) else (bif Nat.beq pc 114 then some (.aload_n 0, 115, 0) else none))) else (bif Nat.blt pc 119 then (bif Nat.blt pc 116 then (bif Nat.beq pc 115 then some (.iconst 0, 116, 0) else none) else (bif Nat.beq pc 116 then some (.putfield 53, 119, 0) else none)) else (bif Nat.blt pc 120 then (bif Nat.beq pc 119 then some (.aload_n 0, 120, 0) else none) else (bif Nat.blt pc 121 then (bif Nat.beq pc 120 then some (.iconst 0, 121, 0) else none) else (bif Nat.beq pc 121 then some (.putfield 56, 124, 0) else none))))) else (bif Nat.blt pc 131 then (bif Nat.blt pc 126 then (bif Nat.blt pc 125 then (bif Nat.beq pc 124 then some (.aload_n 0, 125, 0) else none) else (bif Nat.beq pc 125 then some (.iconst 0, 126, 0) else none)) else (bif Nat.blt pc 129 then (bif Nat.beq pc 126 then some (.putfield 59, 129, 0) else none) else (bif Nat.blt pc 130 then (bif Nat.beq pc 129 then some (.aload_n 0, 130, 0) else none) else (bif Nat.beq pc 130 then some (.iconst 0, 131, 0) else none)))) else (bif Nat.blt pc 135 then (bif Nat.blt pc 134 then (bif Nat.beq pc 131 then some (.putfield 62, 134, 0) else none) else (bif Nat.beq pc 134 then some (.aload_n 0, 135, 0) else none)) else (bif Nat.blt pc 136 then (bif Nat.beq pc 135 then some (.iconst 0, 136, 0) else none) else (bif Nat.blt pc 139 then (bif Nat.beq pc 136 then some (.putfield 65, 139, 0) else none) else (bif Nat.beq pc 139 then some (.return_, 140, 0) else none)))))))) else none
/-- addBlob -/
def t_ins_2 (pc : Nat) : Option (Instr × Nat × Nat) := bif Nat.blt pc 23 then (bif Nat.blt pc 13 then (bif Nat.blt pc 5 then (bif Nat.blt pc 1 then (bif Nat.beq pc 0 then some (.aload_n 0, 1, 0) else none) else (bif Nat.blt pc 4 then (bif Nat.beq pc 1 then some (.getfield 53, 4, 0) else none) else (bif Nat.beq pc 4 then some (.aload_n 0, 5, 0) else none))) else (bif Nat.blt pc 11 then (bif Nat.blt pc 8 then (bif Nat.beq pc 5 then some (.getfield 43, 8, 0) else none) else (bif Nat.beq pc 8 then some (.if_icmp .lt 5, 11, 13) else none)) else (bif Nat.blt pc 12 then (bif Nat.beq pc 11 then some (.iconst (-1), 12, 0) else none) else (bif Nat.beq pc 12 then some (.ireturn, 13, 0) else none)))) else (bif Nat.blt pc 17 then (bif Nat.blt pc 15 then (bif Nat.blt pc 14 then (bif Nat.beq pc 13 then some (.aload_n 0, 14, 0) else none) else (bif Nat.beq pc 14 then some (.iconst 1, 15, 0) else none)) else (bif Nat.blt pc 16 then (bif Nat.beq pc 15 then some (.iconst 0, 16, 0) else none) else (bif Nat.beq pc 16 then some (.iconst (-1), 17, 0) else none))) else (bif Nat.blt pc 19 then (bif Nat.blt pc 18 then (bif Nat.beq pc 17 then some (.iconst (-1), 18, 0) else none) else (bif Nat.beq pc 18 then some (.iconst (-1), 19, 0) else none)) else (bif Nat.blt pc 22 then (bif Nat.beq pc 19 then some (.invokevirtual 69, 22, 0) else none) else (bif Nat.beq pc 22 then some (.ireturn, 23, 0) else none))))) else none
/-- addTree -/
def t_ins_3 (pc : Nat) : Option (Instr × Nat × Nat) := bif Nat.blt pc 73 then (bif Nat.blt pc 38 then (bif Nat.blt pc 18 then (bif Nat.blt pc 11 then (bif Nat.blt pc 4 then (bif Nat.blt pc 1 then (bif Nat.beq pc 0 then some (.aload_n 0, 1, 0) else none) else (bif Nat.beq pc 1 then some (.getfield 53, 4, 0) else none)) else (bif Nat.blt pc 5 then (bif Nat.beq pc 4 then some (.aload_n 0, 5, 0) else none) else (bif Nat.blt pc 8 then (bif Nat.beq pc 5 then some (.getfield 43, 8, 0) else none) else (bif Nat.beq pc 8 then some (.if_icmp .lt 5, 11, 13) else none)))) else (bif Nat.blt pc 13 then (bif Nat.blt pc 12 then (bif Nat.beq pc 11 then some (.iconst (-1), 12, 0) else none) else (bif Nat.beq pc 12 then some (.ireturn, 13, 0) else none)) else (bif Nat.blt pc 14 then (bif Nat.beq pc 13 then some (.aload_n 0, 14, 0) else none) else (bif Nat.blt pc 15 then (bif Nat.beq pc 14 then some (.iload_n 1, 15, 0) else none) else (bif Nat.beq pc 15 then some (.invokevirtual 73, 18, 0) else none))))) else (bif Nat.blt pc 29 then (bif Nat.blt pc 22 then (bif Nat.blt pc 21 then (bif Nat.beq pc 18 then some (.ifCond .eq 19, 21, 37) else none) else (bif Nat.beq pc 21 then some (.aload_n 0, 22, 0) else none)) else (bif Nat.blt pc 23 then (bif Nat.beq pc 22 then some (.iload_n 2, 23, 0) else none) else (bif Nat.blt pc 26 then (bif Nat.beq pc 23 then some (.invokevirtual 73, 26, 0) else none) else (bif Nat.beq pc 26 then some (.ifCond .eq 11, 29, 37) else none)))) else (bif Nat.blt pc 31 then (bif Nat.blt pc 30 then (bif Nat.beq pc 29 then some (.aload_n 0, 30, 0) else none) else (bif Nat.beq pc 30 then some (.iload_n 3, 31, 0) else none)) else (bif Nat.blt pc 34 then (bif Nat.beq pc 31 then some (.invokevirtual 73, 34, 0) else none) else (bif Nat.blt pc 37 then (bif Nat.beq pc 34 then some (.ifCond .ne 5, 37, 39) else none) else (bif Nat.beq pc 37 then some (.iconst (-1), 38, 0) else none)))))) else (bif Nat.blt pc 54 then (bif Nat.blt pc 46 then (bif Nat.blt pc 40 then (bif Nat.blt pc 39 then (bif Nat.beq pc 38 then some (.ireturn, 39, 0) else none) else (bif Nat.beq pc 39 then some (.aload_n 0, 40, 0) else none)) else (bif Nat.blt pc 41 then (bif Nat.beq pc 40 then some (.iload_n 1, 41, 0) else none) else (bif Nat.blt pc 44 then (bif Nat.beq pc 41 then some (.invokevirtual 77, 44, 0) else none) else (bif Nat.beq pc 44 then some (.istore 4, 46, 0) else none)))) else (bif Nat.blt pc 48 then (bif Nat.blt pc 47 then (bif Nat.beq pc 46 then some (.aload_n 0, 47, 0) else none) else (bif Nat.beq pc 47 then some (.iload_n 2, 48, 0) else none)) else (bif Nat.blt pc 51 then (bif Nat.beq pc 48 then some (.invokevirtual 77, 51, 0) else none) else (bif Nat.blt pc 53 then (bif Nat.beq pc 51 then some (.istore 5, 53, 0) else none) else (bif Nat.beq pc 53 then some (.aload_n 0, 54, 0) else none))))) else (bif Nat.blt pc 62 then (bif Nat.blt pc 58 then (bif Nat.blt pc 55 then (bif Nat.beq pc 54 then some (.iload_n 3, 55, 0) else none) else (bif Nat.beq pc 55 then some (.invokevirtual 77, 58, 0) else none)) else (bif Nat.blt pc 60 then (bif Nat.beq pc 58 then some (.istore 6, 60, 0) else none) else (bif Nat.blt pc 61 then (bif Nat.beq pc 60 then some (.aload_n 0, 61, 0) else none) else (bif Nat.beq pc 61 then some (.iconst 2, 62, 0) else none)))) else (bif Nat.blt pc 67 then (bif Nat.blt pc 63 then (bif Nat.beq pc 62 then some (.iconst 0, 63, 0) else none) else (bif Nat.blt pc 65 then (bif Nat.beq pc 63 then some (.iload 4, 65, 0) else none) else (bif Nat.beq pc 65 then some (.iload 5, 67, 0) else none))) else (bif Nat.blt pc 69 then (bif Nat.beq pc 67 then some (.iload 6, 69, 0) else none) else (bif Nat.blt pc 72 then (bif Nat.beq pc 69 then some (.invokevirtual 69, 72, 0) else none) else (bif Nat.beq pc 72 then some (.ireturn, 73, 0) else none))))))) else none
/-- addCommit -/
def t_ins_4 (pc : Nat) : Option (Instr × Nat × Nat) := bif Nat.blt pc 79 then (bif Nat.blt pc 38 then (bif Nat.blt pc 21 then (bif Nat.blt pc 11 then (bif Nat.blt pc 4 then (bif Nat.blt pc 1 then (bif Nat.beq pc 0 then some (.aload_n 0, 1, 0) else none) else (bif Nat.beq pc 1 then some (.getfield 53, 4, 0) else none)) else (bif Nat.blt pc 5 then (bif Nat.beq pc 4 then some (.aload_n 0, 5, 0) else none) else (bif Nat.blt pc 8 then (bif Nat.beq pc 5 then some (.getfield 43, 8, 0) else none) else (bif Nat.beq pc 8 then some (.if_icmp .lt 5, 11, 13) else none)))) else (bif Nat.blt pc 14 then (bif Nat.blt pc 12 then (bif Nat.beq pc 11 then some (.iconst (-1), 12, 0) else none) else (bif Nat.blt pc 13 then (bif Nat.beq pc 12 then some (.ireturn, 13, 0) else none) else (bif Nat.beq pc 13 then some (.aload_n 0, 14, 0) else none))) else (bif Nat.blt pc 15 then (bif Nat.beq pc 14 then some (.iload_n 2, 15, 0) else none) else (bif Nat.blt pc 18 then (bif Nat.beq pc 15 then some (.invokevirtual 81, 18, 0) else none) else (bif Nat.beq pc 18 then some (.ifCond .eq 13, 21, 31) else none))))) else (bif Nat.blt pc 28 then (bif Nat.blt pc 25 then (bif Nat.blt pc 22 then (bif Nat.beq pc 21 then some (.aload_n 0, 22, 0) else none) else (bif Nat.beq pc 22 then some (.getfield 7, 25, 0) else none)) else (bif Nat.blt pc 26 then (bif Nat.beq pc 25 then some (.iload_n 2, 26, 0) else none) else (bif Nat.blt pc 27 then (bif Nat.beq pc 26 then some (.baload, 27, 0) else none) else (bif Nat.beq pc 27 then some (.iconst 2, 28, 0) else none)))) else (bif Nat.blt pc 33 then (bif Nat.blt pc 31 then (bif Nat.beq pc 28 then some (.if_icmp .eq 5, 31, 33) else none) else (bif Nat.blt pc 32 then (bif Nat.beq pc 31 then some (.iconst (-1), 32, 0) else none) else (bif Nat.beq pc 32 then some (.ireturn, 33, 0) else none))) else (bif Nat.blt pc 34 then (bif Nat.beq pc 33 then some (.aload_n 0, 34, 0) else none) else (bif Nat.blt pc 35 then (bif Nat.beq pc 34 then some (.iload_n 3, 35, 0) else none) else (bif Nat.beq pc 35 then some (.invokevirtual 84, 38, 0) else none)))))) else (bif Nat.blt pc 59 then (bif Nat.blt pc 50 then (bif Nat.blt pc 42 then (bif Nat.blt pc 41 then (bif Nat.beq pc 38 then some (.ifCond .eq 12, 41, 50) else none) else (bif Nat.beq pc 41 then some (.aload_n 0, 42, 0) else none)) else (bif Nat.blt pc 44 then (bif Nat.beq pc 42 then some (.iload 4, 44, 0) else none) else (bif Nat.blt pc 47 then (bif Nat.beq pc 44 then some (.invokevirtual 84, 47, 0) else none) else (bif Nat.beq pc 47 then some (.ifCond .ne 5, 50, 52) else none)))) else (bif Nat.blt pc 53 then (bif Nat.blt pc 51 then (bif Nat.beq pc 50 then some (.iconst (-1), 51, 0) else none) else (bif Nat.blt pc 52 then (bif Nat.beq pc 51 then some (.ireturn, 52, 0) else none) else (bif Nat.beq pc 52 then some (.aload_n 0, 53, 0) else none))) else (bif Nat.blt pc 54 then (bif Nat.beq pc 53 then some (.iload_n 3, 54, 0) else none) else (bif Nat.blt pc 57 then (bif Nat.beq pc 54 then some (.invokevirtual 77, 57, 0) else none) else (bif Nat.beq pc 57 then some (.istore 5, 59, 0) else none))))) else (bif Nat.blt pc 69 then (bif Nat.blt pc 65 then (bif Nat.blt pc 60 then (bif Nat.beq pc 59 then some (.aload_n 0, 60, 0) else none) else (bif Nat.blt pc 62 then (bif Nat.beq pc 60 then some (.iload 4, 62, 0) else none) else (bif Nat.beq pc 62 then some (.invokevirtual 77, 65, 0) else none))) else (bif Nat.blt pc 67 then (bif Nat.beq pc 65 then some (.istore 6, 67, 0) else none) else (bif Nat.blt pc 68 then (bif Nat.beq pc 67 then some (.aload_n 0, 68, 0) else none) else (bif Nat.beq pc 68 then some (.iconst 3, 69, 0) else none)))) else (bif Nat.blt pc 73 then (bif Nat.blt pc 70 then (bif Nat.beq pc 69 then some (.iload_n 1, 70, 0) else none) else (bif Nat.blt pc 71 then (bif Nat.beq pc 70 then some (.iload_n 2, 71, 0) else none) else (bif Nat.beq pc 71 then some (.iload 5, 73, 0) else none))) else (bif Nat.blt pc 75 then (bif Nat.beq pc 73 then some (.iload 6, 75, 0) else none) else (bif Nat.blt pc 78 then (bif Nat.beq pc 75 then some (.invokevirtual 69, 78, 0) else none) else (bif Nat.beq pc 78 then some (.ireturn, 79, 0) else none))))))) else none
/-- give -/
def t_ins_5 (pc : Nat) : Option (Instr × Nat × Nat) := bif Nat.blt pc 106 then (bif Nat.blt pc 49 then (bif Nat.blt pc 26 then (bif Nat.blt pc 13 then (bif Nat.blt pc 7 then (bif Nat.blt pc 1 then (bif Nat.beq pc 0 then some (.aload_n 0, 1, 0) else none) else (bif Nat.blt pc 4 then (bif Nat.beq pc 1 then some (.getfield 62, 4, 0) else none) else (bif Nat.beq pc 4 then some (.ifCond .ne 20, 7, 24) else none))) else (bif Nat.blt pc 11 then (bif Nat.blt pc 8 then (bif Nat.beq pc 7 then some (.iload_n 1, 8, 0) else none) else (bif Nat.beq pc 8 then some (.ifCond .eq 8, 11, 16) else none)) else (bif Nat.blt pc 12 then (bif Nat.beq pc 11 then some (.iload_n 1, 12, 0) else none) else (bif Nat.beq pc 12 then some (.iconst 1, 13, 0) else none)))) else (bif Nat.blt pc 18 then (bif Nat.blt pc 16 then (bif Nat.beq pc 13 then some (.if_icmp .ne 11, 16, 24) else none) else (bif Nat.blt pc 17 then (bif Nat.beq pc 16 then some (.aload_n 0, 17, 0) else none) else (bif Nat.beq pc 17 then some (.iload_n 2, 18, 0) else none))) else (bif Nat.blt pc 24 then (bif Nat.blt pc 21 then (bif Nat.beq pc 18 then some (.invokevirtual 81, 21, 0) else none) else (bif Nat.beq pc 21 then some (.ifCond .ne 5, 24, 26) else none)) else (bif Nat.blt pc 25 then (bif Nat.beq pc 24 then some (.iconst (-1), 25, 0) else none) else (bif Nat.beq pc 25 then some (.ireturn, 26, 0) else none))))) else (bif Nat.blt pc 38 then (bif Nat.blt pc 31 then (bif Nat.blt pc 27 then (bif Nat.beq pc 26 then some (.aload_n 0, 27, 0) else none) else (bif Nat.blt pc 30 then (bif Nat.beq pc 27 then some (.invokevirtual 87, 30, 0) else none) else (bif Nat.beq pc 30 then some (.aload_n 0, 31, 0) else none))) else (bif Nat.blt pc 35 then (bif Nat.blt pc 32 then (bif Nat.beq pc 31 then some (.iload_n 2, 32, 0) else none) else (bif Nat.beq pc 32 then some (.invokevirtual 90, 35, 0) else none)) else (bif Nat.blt pc 36 then (bif Nat.beq pc 35 then some (.iload_n 1, 36, 0) else none) else (bif Nat.beq pc 36 then some (.bipush 32, 38, 0) else none)))) else (bif Nat.blt pc 43 then (bif Nat.blt pc 40 then (bif Nat.blt pc 39 then (bif Nat.beq pc 38 then some (.imul, 39, 0) else none) else (bif Nat.beq pc 39 then some (.istore_n 3, 40, 0) else none)) else (bif Nat.blt pc 41 then (bif Nat.beq pc 40 then some (.iconst 0, 41, 0) else none) else (bif Nat.beq pc 41 then some (.istore 4, 43, 0) else none))) else (bif Nat.blt pc 46 then (bif Nat.blt pc 44 then (bif Nat.beq pc 43 then some (.iconst 0, 44, 0) else none) else (bif Nat.beq pc 44 then some (.istore 5, 46, 0) else none)) else (bif Nat.blt pc 48 then (bif Nat.beq pc 46 then some (.iload 5, 48, 0) else none) else (bif Nat.beq pc 48 then some (.aload_n 0, 49, 0) else none)))))) else (bif Nat.blt pc 79 then (bif Nat.blt pc 66 then (bif Nat.blt pc 57 then (bif Nat.blt pc 52 then (bif Nat.beq pc 49 then some (.getfield 53, 52, 0) else none) else (bif Nat.blt pc 55 then (bif Nat.beq pc 52 then some (.if_icmp .ge 51, 55, 103) else none) else (bif Nat.beq pc 55 then some (.iload 5, 57, 0) else none))) else (bif Nat.blt pc 62 then (bif Nat.blt pc 59 then (bif Nat.beq pc 57 then some (.bipush 32, 59, 0) else none) else (bif Nat.beq pc 59 then some (.if_icmp .ge 44, 62, 103) else none)) else (bif Nat.blt pc 63 then (bif Nat.beq pc 62 then some (.aload_n 0, 63, 0) else none) else (bif Nat.beq pc 63 then some (.getfield 30, 66, 0) else none)))) else (bif Nat.blt pc 72 then (bif Nat.blt pc 68 then (bif Nat.beq pc 66 then some (.iload 5, 68, 0) else none) else (bif Nat.blt pc 69 then (bif Nat.beq pc 68 then some (.baload, 69, 0) else none) else (bif Nat.beq pc 69 then some (.ifCond .eq 28, 72, 97) else none))) else (bif Nat.blt pc 76 then (bif Nat.blt pc 73 then (bif Nat.beq pc 72 then some (.aload_n 0, 73, 0) else none) else (bif Nat.beq pc 73 then some (.getfield 20, 76, 0) else none)) else (bif Nat.blt pc 77 then (bif Nat.beq pc 76 then some (.iload_n 3, 77, 0) else none) else (bif Nat.beq pc 77 then some (.iload 5, 79, 0) else none))))) else (bif Nat.blt pc 91 then (bif Nat.blt pc 84 then (bif Nat.blt pc 80 then (bif Nat.beq pc 79 then some (.iadd, 80, 0) else none) else (bif Nat.blt pc 81 then (bif Nat.beq pc 80 then some (.baload, 81, 0) else none) else (bif Nat.beq pc 81 then some (.ifCond .ne 16, 84, 97) else none))) else (bif Nat.blt pc 88 then (bif Nat.blt pc 85 then (bif Nat.beq pc 84 then some (.aload_n 0, 85, 0) else none) else (bif Nat.beq pc 85 then some (.getfield 20, 88, 0) else none)) else (bif Nat.blt pc 89 then (bif Nat.beq pc 88 then some (.iload_n 3, 89, 0) else none) else (bif Nat.beq pc 89 then some (.iload 5, 91, 0) else none)))) else (bif Nat.blt pc 97 then (bif Nat.blt pc 93 then (bif Nat.blt pc 92 then (bif Nat.beq pc 91 then some (.iadd, 92, 0) else none) else (bif Nat.beq pc 92 then some (.iconst 1, 93, 0) else none)) else (bif Nat.blt pc 94 then (bif Nat.beq pc 93 then some (.bastore, 94, 0) else none) else (bif Nat.beq pc 94 then some (.iinc 4 1, 97, 0) else none))) else (bif Nat.blt pc 103 then (bif Nat.blt pc 100 then (bif Nat.beq pc 97 then some (.iinc 5 1, 100, 0) else none) else (bif Nat.beq pc 100 then some (.goto (-54), 103, 46) else none)) else (bif Nat.blt pc 105 then (bif Nat.beq pc 103 then some (.iload 4, 105, 0) else none) else (bif Nat.beq pc 105 then some (.ireturn, 106, 0) else none))))))) else none
/-- want -/
def t_ins_6 (pc : Nat) : Option (Instr × Nat × Nat) := bif Nat.blt pc 58 then (bif Nat.blt pc 31 then (bif Nat.blt pc 16 then (bif Nat.blt pc 8 then (bif Nat.blt pc 4 then (bif Nat.blt pc 1 then (bif Nat.beq pc 0 then some (.aload_n 0, 1, 0) else none) else (bif Nat.beq pc 1 then some (.getfield 62, 4, 0) else none)) else (bif Nat.blt pc 7 then (bif Nat.beq pc 4 then some (.ifCond .ne 11, 7, 15) else none) else (bif Nat.beq pc 7 then some (.aload_n 0, 8, 0) else none))) else (bif Nat.blt pc 12 then (bif Nat.blt pc 9 then (bif Nat.beq pc 8 then some (.iload_n 1, 9, 0) else none) else (bif Nat.beq pc 9 then some (.invokevirtual 81, 12, 0) else none)) else (bif Nat.blt pc 15 then (bif Nat.beq pc 12 then some (.ifCond .ne 5, 15, 17) else none) else (bif Nat.beq pc 15 then some (.iconst 0, 16, 0) else none)))) else (bif Nat.blt pc 22 then (bif Nat.blt pc 18 then (bif Nat.blt pc 17 then (bif Nat.beq pc 16 then some (.ireturn, 17, 0) else none) else (bif Nat.beq pc 17 then some (.aload_n 0, 18, 0) else none)) else (bif Nat.blt pc 21 then (bif Nat.beq pc 18 then some (.getfield 7, 21, 0) else none) else (bif Nat.beq pc 21 then some (.iload_n 1, 22, 0) else none))) else (bif Nat.blt pc 24 then (bif Nat.blt pc 23 then (bif Nat.beq pc 22 then some (.baload, 23, 0) else none) else (bif Nat.beq pc 23 then some (.iconst 3, 24, 0) else none)) else (bif Nat.blt pc 27 then (bif Nat.beq pc 24 then some (.if_icmp .ne 24, 27, 48) else none) else (bif Nat.blt pc 28 then (bif Nat.beq pc 27 then some (.aload_n 0, 28, 0) else none) else (bif Nat.beq pc 28 then some (.getfield 20, 31, 0) else none)))))) else (bif Nat.blt pc 45 then (bif Nat.blt pc 36 then (bif Nat.blt pc 34 then (bif Nat.blt pc 33 then (bif Nat.beq pc 31 then some (.bipush 32, 33, 0) else none) else (bif Nat.beq pc 33 then some (.iload_n 1, 34, 0) else none)) else (bif Nat.blt pc 35 then (bif Nat.beq pc 34 then some (.iadd, 35, 0) else none) else (bif Nat.beq pc 35 then some (.baload, 36, 0) else none))) else (bif Nat.blt pc 40 then (bif Nat.blt pc 39 then (bif Nat.beq pc 36 then some (.ifCond .eq 12, 39, 48) else none) else (bif Nat.beq pc 39 then some (.aload_n 0, 40, 0) else none)) else (bif Nat.blt pc 41 then (bif Nat.beq pc 40 then some (.iload_n 1, 41, 0) else none) else (bif Nat.blt pc 42 then (bif Nat.beq pc 41 then some (.iconst 1, 42, 0) else none) else (bif Nat.beq pc 42 then some (.invokevirtual 94, 45, 0) else none))))) else (bif Nat.blt pc 51 then (bif Nat.blt pc 49 then (bif Nat.blt pc 48 then (bif Nat.beq pc 45 then some (.ifCond .eq 5, 48, 50) else none) else (bif Nat.beq pc 48 then some (.iconst 0, 49, 0) else none)) else (bif Nat.blt pc 50 then (bif Nat.beq pc 49 then some (.ireturn, 50, 0) else none) else (bif Nat.beq pc 50 then some (.aload_n 0, 51, 0) else none))) else (bif Nat.blt pc 53 then (bif Nat.blt pc 52 then (bif Nat.beq pc 51 then some (.iload_n 1, 52, 0) else none) else (bif Nat.beq pc 52 then some (.iconst 1, 53, 0) else none)) else (bif Nat.blt pc 56 then (bif Nat.beq pc 53 then some (.invokevirtual 98, 56, 0) else none) else (bif Nat.blt pc 57 then (bif Nat.beq pc 56 then some (.iconst 1, 57, 0) else none) else (bif Nat.beq pc 57 then some (.ireturn, 58, 0) else none))))))) else none
/-- round -/
def t_ins_7 (pc : Nat) : Option (Instr × Nat × Nat) := bif Nat.blt pc 84 then (bif Nat.blt pc 41 then (bif Nat.blt pc 21 then (bif Nat.blt pc 11 then (bif Nat.blt pc 4 then (bif Nat.blt pc 1 then (bif Nat.beq pc 0 then some (.aload_n 0, 1, 0) else none) else (bif Nat.beq pc 1 then some (.getfield 62, 4, 0) else none)) else (bif Nat.blt pc 7 then (bif Nat.beq pc 4 then some (.ifCond .eq 13, 7, 17) else none) else (bif Nat.blt pc 8 then (bif Nat.beq pc 7 then some (.aload_n 0, 8, 0) else none) else (bif Nat.beq pc 8 then some (.getfield 62, 11, 0) else none)))) else (bif Nat.blt pc 16 then (bif Nat.blt pc 12 then (bif Nat.beq pc 11 then some (.iconst 1, 12, 0) else none) else (bif Nat.blt pc 15 then (bif Nat.beq pc 12 then some (.if_icmp .eq 5, 15, 17) else none) else (bif Nat.beq pc 15 then some (.iconst (-1), 16, 0) else none))) else (bif Nat.blt pc 17 then (bif Nat.beq pc 16 then some (.ireturn, 17, 0) else none) else (bif Nat.blt pc 18 then (bif Nat.beq pc 17 then some (.aload_n 0, 18, 0) else none) else (bif Nat.beq pc 18 then some (.invokevirtual 102, 21, 0) else none))))) else (bif Nat.blt pc 31 then (bif Nat.blt pc 26 then (bif Nat.blt pc 24 then (bif Nat.beq pc 21 then some (.ifCond .ne 5, 24, 26) else none) else (bif Nat.blt pc 25 then (bif Nat.beq pc 24 then some (.iconst (-1), 25, 0) else none) else (bif Nat.beq pc 25 then some (.ireturn, 26, 0) else none))) else (bif Nat.blt pc 27 then (bif Nat.beq pc 26 then some (.aload_n 0, 27, 0) else none) else (bif Nat.blt pc 30 then (bif Nat.beq pc 27 then some (.getfield 56, 30, 0) else none) else (bif Nat.beq pc 30 then some (.istore_n 1, 31, 0) else none)))) else (bif Nat.blt pc 36 then (bif Nat.blt pc 32 then (bif Nat.beq pc 31 then some (.aload_n 0, 32, 0) else none) else (bif Nat.blt pc 35 then (bif Nat.beq pc 32 then some (.invokevirtual 106, 35, 0) else none) else (bif Nat.beq pc 35 then some (.aload_n 0, 36, 0) else none))) else (bif Nat.blt pc 37 then (bif Nat.beq pc 36 then some (.iload_n 1, 37, 0) else none) else (bif Nat.blt pc 40 then (bif Nat.beq pc 37 then some (.invokevirtual 109, 40, 0) else none) else (bif Nat.beq pc 40 then some (.istore_n 2, 41, 0) else none)))))) else (bif Nat.blt pc 62 then (bif Nat.blt pc 48 then (bif Nat.blt pc 43 then (bif Nat.blt pc 42 then (bif Nat.beq pc 41 then some (.aload_n 0, 42, 0) else none) else (bif Nat.beq pc 42 then some (.dup, 43, 0) else none)) else (bif Nat.blt pc 46 then (bif Nat.beq pc 43 then some (.getfield 59, 46, 0) else none) else (bif Nat.blt pc 47 then (bif Nat.beq pc 46 then some (.iconst 1, 47, 0) else none) else (bif Nat.beq pc 47 then some (.iadd, 48, 0) else none)))) else (bif Nat.blt pc 55 then (bif Nat.blt pc 51 then (bif Nat.beq pc 48 then some (.putfield 59, 51, 0) else none) else (bif Nat.blt pc 52 then (bif Nat.beq pc 51 then some (.aload_n 0, 52, 0) else none) else (bif Nat.beq pc 52 then some (.invokevirtual 112, 55, 0) else none))) else (bif Nat.blt pc 58 then (bif Nat.beq pc 55 then some (.ifCond .lt 14, 58, 69) else none) else (bif Nat.blt pc 59 then (bif Nat.beq pc 58 then some (.aload_n 0, 59, 0) else none) else (bif Nat.beq pc 59 then some (.getfield 59, 62, 0) else none))))) else (bif Nat.blt pc 74 then (bif Nat.blt pc 69 then (bif Nat.blt pc 63 then (bif Nat.beq pc 62 then some (.aload_n 0, 63, 0) else none) else (bif Nat.blt pc 66 then (bif Nat.beq pc 63 then some (.getfield 50, 66, 0) else none) else (bif Nat.beq pc 66 then some (.if_icmp .lt 11, 69, 77) else none))) else (bif Nat.blt pc 70 then (bif Nat.beq pc 69 then some (.aload_n 0, 70, 0) else none) else (bif Nat.blt pc 71 then (bif Nat.beq pc 70 then some (.iconst 2, 71, 0) else none) else (bif Nat.beq pc 71 then some (.putfield 62, 74, 0) else none)))) else (bif Nat.blt pc 79 then (bif Nat.blt pc 77 then (bif Nat.beq pc 74 then some (.goto 8, 77, 82) else none) else (bif Nat.blt pc 78 then (bif Nat.beq pc 77 then some (.aload_n 0, 78, 0) else none) else (bif Nat.beq pc 78 then some (.iconst 1, 79, 0) else none))) else (bif Nat.blt pc 82 then (bif Nat.beq pc 79 then some (.putfield 62, 82, 0) else none) else (bif Nat.blt pc 83 then (bif Nat.beq pc 82 then some (.iload_n 2, 83, 0) else none) else (bif Nat.beq pc 83 then some (.ireturn, 84, 0) else none))))))) else none
/-- pack -/
def t_ins_8 (pc : Nat) : Option (Instr × Nat × Nat) := bif Nat.blt pc 137 then (bif Nat.blt pc 65 then (bif Nat.blt pc 34 then (bif Nat.blt pc 17 then (bif Nat.blt pc 8 then (bif Nat.blt pc 4 then (bif Nat.blt pc 1 then (bif Nat.beq pc 0 then some (.aload_n 0, 1, 0) else none) else (bif Nat.beq pc 1 then some (.getfield 62, 4, 0) else none)) else (bif Nat.blt pc 5 then (bif Nat.beq pc 4 then some (.iconst 3, 5, 0) else none) else (bif Nat.beq pc 5 then some (.if_icmp .eq 10, 8, 15) else none))) else (bif Nat.blt pc 12 then (bif Nat.blt pc 9 then (bif Nat.beq pc 8 then some (.aload_n 0, 9, 0) else none) else (bif Nat.beq pc 9 then some (.invokevirtual 102, 12, 0) else none)) else (bif Nat.blt pc 15 then (bif Nat.beq pc 12 then some (.ifCond .ne 5, 15, 17) else none) else (bif Nat.blt pc 16 then (bif Nat.beq pc 15 then some (.iconst (-1), 16, 0) else none) else (bif Nat.beq pc 16 then some (.ireturn, 17, 0) else none))))) else (bif Nat.blt pc 24 then (bif Nat.blt pc 19 then (bif Nat.blt pc 18 then (bif Nat.beq pc 17 then some (.aload_n 0, 18, 0) else none) else (bif Nat.beq pc 18 then some (.iconst 4, 19, 0) else none)) else (bif Nat.blt pc 22 then (bif Nat.beq pc 19 then some (.invokevirtual 116, 22, 0) else none) else (bif Nat.blt pc 23 then (bif Nat.beq pc 22 then some (.iconst 0, 23, 0) else none) else (bif Nat.beq pc 23 then some (.istore_n 1, 24, 0) else none)))) else (bif Nat.blt pc 27 then (bif Nat.blt pc 25 then (bif Nat.beq pc 24 then some (.iload_n 1, 25, 0) else none) else (bif Nat.beq pc 25 then some (.bipush 32, 27, 0) else none)) else (bif Nat.blt pc 30 then (bif Nat.beq pc 27 then some (.if_icmp .ge 21, 30, 48) else none) else (bif Nat.blt pc 31 then (bif Nat.beq pc 30 then some (.aload_n 0, 31, 0) else none) else (bif Nat.beq pc 31 then some (.getfield 36, 34, 0) else none)))))) else (bif Nat.blt pc 49 then (bif Nat.blt pc 40 then (bif Nat.blt pc 36 then (bif Nat.blt pc 35 then (bif Nat.beq pc 34 then some (.iload_n 1, 35, 0) else none) else (bif Nat.beq pc 35 then some (.aload_n 0, 36, 0) else none)) else (bif Nat.blt pc 39 then (bif Nat.beq pc 36 then some (.getfield 30, 39, 0) else none) else (bif Nat.beq pc 39 then some (.iload_n 1, 40, 0) else none))) else (bif Nat.blt pc 42 then (bif Nat.blt pc 41 then (bif Nat.beq pc 40 then some (.baload, 41, 0) else none) else (bif Nat.beq pc 41 then some (.bastore, 42, 0) else none)) else (bif Nat.blt pc 45 then (bif Nat.beq pc 42 then some (.iinc 1 1, 45, 0) else none) else (bif Nat.blt pc 48 then (bif Nat.beq pc 45 then some (.goto (-21), 48, 24) else none) else (bif Nat.beq pc 48 then some (.aload_n 0, 49, 0) else none))))) else (bif Nat.blt pc 56 then (bif Nat.blt pc 53 then (bif Nat.blt pc 50 then (bif Nat.beq pc 49 then some (.iconst 1, 50, 0) else none) else (bif Nat.beq pc 50 then some (.invokevirtual 116, 53, 0) else none)) else (bif Nat.blt pc 54 then (bif Nat.beq pc 53 then some (.iconst 0, 54, 0) else none) else (bif Nat.blt pc 55 then (bif Nat.beq pc 54 then some (.istore_n 1, 55, 0) else none) else (bif Nat.beq pc 55 then some (.iconst 0, 56, 0) else none)))) else (bif Nat.blt pc 58 then (bif Nat.blt pc 57 then (bif Nat.beq pc 56 then some (.istore_n 2, 57, 0) else none) else (bif Nat.beq pc 57 then some (.iload_n 2, 58, 0) else none)) else (bif Nat.blt pc 59 then (bif Nat.beq pc 58 then some (.aload_n 0, 59, 0) else none) else (bif Nat.blt pc 62 then (bif Nat.beq pc 59 then some (.getfield 53, 62, 0) else none) else (bif Nat.beq pc 62 then some (.if_icmp .ge 60, 65, 122) else none))))))) else (bif Nat.blt pc 100 then (bif Nat.blt pc 81 then (bif Nat.blt pc 72 then (bif Nat.blt pc 68 then (bif Nat.blt pc 66 then (bif Nat.beq pc 65 then some (.iload_n 2, 66, 0) else none) else (bif Nat.beq pc 66 then some (.bipush 32, 68, 0) else none)) else (bif Nat.blt pc 71 then (bif Nat.beq pc 68 then some (.if_icmp .ge 54, 71, 122) else none) else (bif Nat.beq pc 71 then some (.aload_n 0, 72, 0) else none))) else (bif Nat.blt pc 76 then (bif Nat.blt pc 75 then (bif Nat.beq pc 72 then some (.getfield 30, 75, 0) else none) else (bif Nat.beq pc 75 then some (.iload_n 2, 76, 0) else none)) else (bif Nat.blt pc 77 then (bif Nat.beq pc 76 then some (.baload, 77, 0) else none) else (bif Nat.blt pc 80 then (bif Nat.beq pc 77 then some (.ifCond .eq 32, 80, 109) else none) else (bif Nat.beq pc 80 then some (.aload_n 0, 81, 0) else none))))) else (bif Nat.blt pc 90 then (bif Nat.blt pc 85 then (bif Nat.blt pc 84 then (bif Nat.beq pc 81 then some (.getfield 36, 84, 0) else none) else (bif Nat.beq pc 84 then some (.iload_n 2, 85, 0) else none)) else (bif Nat.blt pc 86 then (bif Nat.beq pc 85 then some (.baload, 86, 0) else none) else (bif Nat.blt pc 89 then (bif Nat.beq pc 86 then some (.ifCond .ne 23, 89, 109) else none) else (bif Nat.beq pc 89 then some (.aload_n 0, 90, 0) else none)))) else (bif Nat.blt pc 93 then (bif Nat.blt pc 91 then (bif Nat.beq pc 90 then some (.iload_n 2, 91, 0) else none) else (bif Nat.beq pc 91 then some (.bipush 16, 93, 0) else none)) else (bif Nat.blt pc 96 then (bif Nat.beq pc 93 then some (.invokevirtual 98, 96, 0) else none) else (bif Nat.blt pc 97 then (bif Nat.beq pc 96 then some (.aload_n 0, 97, 0) else none) else (bif Nat.beq pc 97 then some (.getfield 20, 100, 0) else none)))))) else (bif Nat.blt pc 119 then (bif Nat.blt pc 109 then (bif Nat.blt pc 102 then (bif Nat.blt pc 101 then (bif Nat.beq pc 100 then some (.iload_n 2, 101, 0) else none) else (bif Nat.beq pc 101 then some (.iconst 1, 102, 0) else none)) else (bif Nat.blt pc 103 then (bif Nat.beq pc 102 then some (.bastore, 103, 0) else none) else (bif Nat.blt pc 106 then (bif Nat.beq pc 103 then some (.iinc 1 1, 106, 0) else none) else (bif Nat.beq pc 106 then some (.goto 10, 109, 116) else none)))) else (bif Nat.blt pc 111 then (bif Nat.blt pc 110 then (bif Nat.beq pc 109 then some (.aload_n 0, 110, 0) else none) else (bif Nat.beq pc 110 then some (.iload_n 2, 111, 0) else none)) else (bif Nat.blt pc 113 then (bif Nat.beq pc 111 then some (.bipush 16, 113, 0) else none) else (bif Nat.blt pc 116 then (bif Nat.beq pc 113 then some (.invokevirtual 119, 116, 0) else none) else (bif Nat.beq pc 116 then some (.iinc 2 1, 119, 0) else none))))) else (bif Nat.blt pc 130 then (bif Nat.blt pc 123 then (bif Nat.blt pc 122 then (bif Nat.beq pc 119 then some (.goto (-62), 122, 57) else none) else (bif Nat.beq pc 122 then some (.aload_n 0, 123, 0) else none)) else (bif Nat.blt pc 124 then (bif Nat.beq pc 123 then some (.aload_n 0, 124, 0) else none) else (bif Nat.blt pc 127 then (bif Nat.beq pc 124 then some (.invokevirtual 122, 127, 0) else none) else (bif Nat.beq pc 127 then some (.putfield 65, 130, 0) else none)))) else (bif Nat.blt pc 132 then (bif Nat.blt pc 131 then (bif Nat.beq pc 130 then some (.aload_n 0, 131, 0) else none) else (bif Nat.beq pc 131 then some (.iconst 3, 132, 0) else none)) else (bif Nat.blt pc 135 then (bif Nat.beq pc 132 then some (.putfield 62, 135, 0) else none) else (bif Nat.blt pc 136 then (bif Nat.beq pc 135 then some (.iload_n 1, 136, 0) else none) else (bif Nat.beq pc 136 then some (.ireturn, 137, 0) else none)))))))) else none
/-- newFetch -/
def t_ins_9 (pc : Nat) : Option (Instr × Nat × Nat) := bif Nat.blt pc 49 then (bif Nat.blt pc 22 then (bif Nat.blt pc 12 then (bif Nat.blt pc 3 then (bif Nat.blt pc 1 then (bif Nat.beq pc 0 then some (.iconst 0, 1, 0) else none) else (bif Nat.blt pc 2 then (bif Nat.beq pc 1 then some (.istore_n 1, 2, 0) else none) else (bif Nat.beq pc 2 then some (.iload_n 1, 3, 0) else none))) else (bif Nat.blt pc 8 then (bif Nat.blt pc 5 then (bif Nat.beq pc 3 then some (.bipush 32, 5, 0) else none) else (bif Nat.beq pc 5 then some (.if_icmp .ge 23, 8, 28) else none)) else (bif Nat.blt pc 9 then (bif Nat.beq pc 8 then some (.aload_n 0, 9, 0) else none) else (bif Nat.beq pc 9 then some (.getfield 24, 12, 0) else none)))) else (bif Nat.blt pc 16 then (bif Nat.blt pc 14 then (bif Nat.blt pc 13 then (bif Nat.beq pc 12 then some (.iload_n 1, 13, 0) else none) else (bif Nat.beq pc 13 then some (.iconst 0, 14, 0) else none)) else (bif Nat.blt pc 15 then (bif Nat.beq pc 14 then some (.bastore, 15, 0) else none) else (bif Nat.beq pc 15 then some (.aload_n 0, 16, 0) else none))) else (bif Nat.blt pc 20 then (bif Nat.blt pc 19 then (bif Nat.beq pc 16 then some (.getfield 27, 19, 0) else none) else (bif Nat.beq pc 19 then some (.iload_n 1, 20, 0) else none)) else (bif Nat.blt pc 21 then (bif Nat.beq pc 20 then some (.iconst 0, 21, 0) else none) else (bif Nat.beq pc 21 then some (.iastore, 22, 0) else none))))) else (bif Nat.blt pc 35 then (bif Nat.blt pc 29 then (bif Nat.blt pc 25 then (bif Nat.beq pc 22 then some (.iinc 1 1, 25, 0) else none) else (bif Nat.blt pc 28 then (bif Nat.beq pc 25 then some (.goto (-23), 28, 2) else none) else (bif Nat.beq pc 28 then some (.aload_n 0, 29, 0) else none))) else (bif Nat.blt pc 33 then (bif Nat.blt pc 30 then (bif Nat.beq pc 29 then some (.iconst 0, 30, 0) else none) else (bif Nat.beq pc 30 then some (.putfield 56, 33, 0) else none)) else (bif Nat.blt pc 34 then (bif Nat.beq pc 33 then some (.aload_n 0, 34, 0) else none) else (bif Nat.beq pc 34 then some (.iconst 0, 35, 0) else none)))) else (bif Nat.blt pc 43 then (bif Nat.blt pc 39 then (bif Nat.blt pc 38 then (bif Nat.beq pc 35 then some (.putfield 59, 38, 0) else none) else (bif Nat.beq pc 38 then some (.aload_n 0, 39, 0) else none)) else (bif Nat.blt pc 40 then (bif Nat.beq pc 39 then some (.iconst 0, 40, 0) else none) else (bif Nat.beq pc 40 then some (.putfield 65, 43, 0) else none))) else (bif Nat.blt pc 45 then (bif Nat.blt pc 44 then (bif Nat.beq pc 43 then some (.aload_n 0, 44, 0) else none) else (bif Nat.beq pc 44 then some (.iconst 0, 45, 0) else none)) else (bif Nat.blt pc 48 then (bif Nat.beq pc 45 then some (.putfield 62, 48, 0) else none) else (bif Nat.beq pc 48 then some (.return_, 49, 0) else none)))))) else none
/-- phase -/
def t_ins_10 (pc : Nat) : Option (Instr × Nat × Nat) := bif Nat.blt pc 5 then (bif Nat.blt pc 1 then (bif Nat.beq pc 0 then some (.aload_n 0, 1, 0) else none) else (bif Nat.blt pc 4 then (bif Nat.beq pc 1 then some (.getfield 62, 4, 0) else none) else (bif Nat.beq pc 4 then some (.ireturn, 5, 0) else none))) else none
/-- kindOf -/
def t_ins_11 (pc : Nat) : Option (Instr × Nat × Nat) := bif Nat.blt pc 17 then (bif Nat.blt pc 9 then (bif Nat.blt pc 2 then (bif Nat.blt pc 1 then (bif Nat.beq pc 0 then some (.aload_n 0, 1, 0) else none) else (bif Nat.beq pc 1 then some (.iload_n 1, 2, 0) else none)) else (bif Nat.blt pc 5 then (bif Nat.beq pc 2 then some (.invokevirtual 81, 5, 0) else none) else (bif Nat.blt pc 8 then (bif Nat.beq pc 5 then some (.ifCond .ne 5, 8, 10) else none) else (bif Nat.beq pc 8 then some (.iconst 0, 9, 0) else none)))) else (bif Nat.blt pc 14 then (bif Nat.blt pc 10 then (bif Nat.beq pc 9 then some (.ireturn, 10, 0) else none) else (bif Nat.blt pc 11 then (bif Nat.beq pc 10 then some (.aload_n 0, 11, 0) else none) else (bif Nat.beq pc 11 then some (.getfield 7, 14, 0) else none))) else (bif Nat.blt pc 15 then (bif Nat.beq pc 14 then some (.iload_n 1, 15, 0) else none) else (bif Nat.blt pc 16 then (bif Nat.beq pc 15 then some (.baload, 16, 0) else none) else (bif Nat.beq pc 16 then some (.ireturn, 17, 0) else none))))) else none
/-- link -/
def t_ins_12 (pc : Nat) : Option (Instr × Nat × Nat) := bif Nat.blt pc 30 then (bif Nat.blt pc 18 then (bif Nat.blt pc 9 then (bif Nat.blt pc 2 then (bif Nat.blt pc 1 then (bif Nat.beq pc 0 then some (.aload_n 0, 1, 0) else none) else (bif Nat.beq pc 1 then some (.iload_n 1, 2, 0) else none)) else (bif Nat.blt pc 5 then (bif Nat.beq pc 2 then some (.invokevirtual 81, 5, 0) else none) else (bif Nat.blt pc 8 then (bif Nat.beq pc 5 then some (.ifCond .eq 12, 8, 17) else none) else (bif Nat.beq pc 8 then some (.iload_n 2, 9, 0) else none)))) else (bif Nat.blt pc 13 then (bif Nat.blt pc 12 then (bif Nat.beq pc 9 then some (.ifCond .lt 8, 12, 17) else none) else (bif Nat.beq pc 12 then some (.iload_n 2, 13, 0) else none)) else (bif Nat.blt pc 14 then (bif Nat.beq pc 13 then some (.iconst 2, 14, 0) else none) else (bif Nat.blt pc 17 then (bif Nat.beq pc 14 then some (.if_icmp .le 5, 17, 19) else none) else (bif Nat.beq pc 17 then some (.iconst (-1), 18, 0) else none))))) else (bif Nat.blt pc 25 then (bif Nat.blt pc 20 then (bif Nat.blt pc 19 then (bif Nat.beq pc 18 then some (.ireturn, 19, 0) else none) else (bif Nat.beq pc 19 then some (.aload_n 0, 20, 0) else none)) else (bif Nat.blt pc 23 then (bif Nat.beq pc 20 then some (.getfield 17, 23, 0) else none) else (bif Nat.blt pc 24 then (bif Nat.beq pc 23 then some (.iload_n 1, 24, 0) else none) else (bif Nat.beq pc 24 then some (.iconst 3, 25, 0) else none)))) else (bif Nat.blt pc 27 then (bif Nat.blt pc 26 then (bif Nat.beq pc 25 then some (.imul, 26, 0) else none) else (bif Nat.beq pc 26 then some (.iload_n 2, 27, 0) else none)) else (bif Nat.blt pc 28 then (bif Nat.beq pc 27 then some (.iadd, 28, 0) else none) else (bif Nat.blt pc 29 then (bif Nat.beq pc 28 then some (.iaload, 29, 0) else none) else (bif Nat.beq pc 29 then some (.ireturn, 30, 0) else none)))))) else none
/-- has -/
def t_ins_13 (pc : Nat) : Option (Instr × Nat × Nat) := bif Nat.blt pc 31 then (bif Nat.blt pc 18 then (bif Nat.blt pc 9 then (bif Nat.blt pc 4 then (bif Nat.blt pc 1 then (bif Nat.beq pc 0 then some (.iload_n 1, 1, 0) else none) else (bif Nat.beq pc 1 then some (.ifCond .eq 8, 4, 9) else none)) else (bif Nat.blt pc 5 then (bif Nat.beq pc 4 then some (.iload_n 1, 5, 0) else none) else (bif Nat.blt pc 6 then (bif Nat.beq pc 5 then some (.iconst 1, 6, 0) else none) else (bif Nat.beq pc 6 then some (.if_icmp .ne 11, 9, 17) else none)))) else (bif Nat.blt pc 11 then (bif Nat.blt pc 10 then (bif Nat.beq pc 9 then some (.aload_n 0, 10, 0) else none) else (bif Nat.beq pc 10 then some (.iload_n 2, 11, 0) else none)) else (bif Nat.blt pc 14 then (bif Nat.beq pc 11 then some (.invokevirtual 81, 14, 0) else none) else (bif Nat.blt pc 17 then (bif Nat.beq pc 14 then some (.ifCond .ne 5, 17, 19) else none) else (bif Nat.beq pc 17 then some (.iconst 0, 18, 0) else none))))) else (bif Nat.blt pc 26 then (bif Nat.blt pc 20 then (bif Nat.blt pc 19 then (bif Nat.beq pc 18 then some (.ireturn, 19, 0) else none) else (bif Nat.beq pc 19 then some (.aload_n 0, 20, 0) else none)) else (bif Nat.blt pc 23 then (bif Nat.beq pc 20 then some (.getfield 20, 23, 0) else none) else (bif Nat.blt pc 24 then (bif Nat.beq pc 23 then some (.iload_n 1, 24, 0) else none) else (bif Nat.beq pc 24 then some (.bipush 32, 26, 0) else none)))) else (bif Nat.blt pc 28 then (bif Nat.blt pc 27 then (bif Nat.beq pc 26 then some (.imul, 27, 0) else none) else (bif Nat.beq pc 27 then some (.iload_n 2, 28, 0) else none)) else (bif Nat.blt pc 29 then (bif Nat.beq pc 28 then some (.iadd, 29, 0) else none) else (bif Nat.blt pc 30 then (bif Nat.beq pc 29 then some (.baload, 30, 0) else none) else (bif Nat.beq pc 30 then some (.ireturn, 31, 0) else none)))))) else none
/-- status -/
def t_ins_14 (pc : Nat) : Option (Instr × Nat × Nat) := bif Nat.blt pc 21 then (bif Nat.blt pc 10 then (bif Nat.blt pc 5 then (bif Nat.blt pc 1 then (bif Nat.beq pc 0 then some (.aload_n 0, 1, 0) else none) else (bif Nat.blt pc 2 then (bif Nat.beq pc 1 then some (.iload_n 1, 2, 0) else none) else (bif Nat.beq pc 2 then some (.invokevirtual 81, 5, 0) else none))) else (bif Nat.blt pc 8 then (bif Nat.beq pc 5 then some (.ifCond .ne 5, 8, 10) else none) else (bif Nat.blt pc 9 then (bif Nat.beq pc 8 then some (.iconst 0, 9, 0) else none) else (bif Nat.beq pc 9 then some (.ireturn, 10, 0) else none)))) else (bif Nat.blt pc 15 then (bif Nat.blt pc 11 then (bif Nat.beq pc 10 then some (.aload_n 0, 11, 0) else none) else (bif Nat.blt pc 14 then (bif Nat.beq pc 11 then some (.getfield 24, 14, 0) else none) else (bif Nat.beq pc 14 then some (.iload_n 1, 15, 0) else none))) else (bif Nat.blt pc 19 then (bif Nat.blt pc 16 then (bif Nat.beq pc 15 then some (.baload, 16, 0) else none) else (bif Nat.beq pc 16 then some (.sipush 255, 19, 0) else none)) else (bif Nat.blt pc 20 then (bif Nat.beq pc 19 then some (.iand, 20, 0) else none) else (bif Nat.beq pc 20 then some (.ireturn, 21, 0) else none))))) else none
/-- connected -/
def t_ins_15 (pc : Nat) : Option (Instr × Nat × Nat) := bif Nat.blt pc 5 then (bif Nat.blt pc 1 then (bif Nat.beq pc 0 then some (.aload_n 0, 1, 0) else none) else (bif Nat.blt pc 4 then (bif Nat.beq pc 1 then some (.getfield 65, 4, 0) else none) else (bif Nat.beq pc 4 then some (.ireturn, 5, 0) else none))) else none
/-- clamp -/
def t_ins_16 (pc : Nat) : Option (Instr × Nat × Nat) := bif Nat.blt pc 16 then (bif Nat.blt pc 8 then (bif Nat.blt pc 5 then (bif Nat.blt pc 1 then (bif Nat.beq pc 0 then some (.iload_n 1, 1, 0) else none) else (bif Nat.blt pc 2 then (bif Nat.beq pc 1 then some (.iload_n 2, 2, 0) else none) else (bif Nat.beq pc 2 then some (.if_icmp .ge 5, 5, 7) else none))) else (bif Nat.blt pc 6 then (bif Nat.beq pc 5 then some (.iload_n 2, 6, 0) else none) else (bif Nat.blt pc 7 then (bif Nat.beq pc 6 then some (.ireturn, 7, 0) else none) else (bif Nat.beq pc 7 then some (.iload_n 1, 8, 0) else none)))) else (bif Nat.blt pc 13 then (bif Nat.blt pc 9 then (bif Nat.beq pc 8 then some (.iload_n 3, 9, 0) else none) else (bif Nat.blt pc 12 then (bif Nat.beq pc 9 then some (.if_icmp .le 5, 12, 14) else none) else (bif Nat.beq pc 12 then some (.iload_n 3, 13, 0) else none))) else (bif Nat.blt pc 14 then (bif Nat.beq pc 13 then some (.ireturn, 14, 0) else none) else (bif Nat.blt pc 15 then (bif Nat.beq pc 14 then some (.iload_n 1, 15, 0) else none) else (bif Nat.beq pc 15 then some (.ireturn, 16, 0) else none))))) else none
/-- inRange -/
def t_ins_17 (pc : Nat) : Option (Instr × Nat × Nat) := bif Nat.blt pc 24 then (bif Nat.blt pc 12 then (bif Nat.blt pc 5 then (bif Nat.blt pc 1 then (bif Nat.beq pc 0 then some (.iload_n 1, 1, 0) else none) else (bif Nat.blt pc 4 then (bif Nat.beq pc 1 then some (.ifCond .lt 21, 4, 22) else none) else (bif Nat.beq pc 4 then some (.iload_n 1, 5, 0) else none))) else (bif Nat.blt pc 6 then (bif Nat.beq pc 5 then some (.aload_n 0, 6, 0) else none) else (bif Nat.blt pc 9 then (bif Nat.beq pc 6 then some (.getfield 53, 9, 0) else none) else (bif Nat.beq pc 9 then some (.if_icmp .ge 13, 12, 22) else none)))) else (bif Nat.blt pc 18 then (bif Nat.blt pc 13 then (bif Nat.beq pc 12 then some (.iload_n 1, 13, 0) else none) else (bif Nat.blt pc 15 then (bif Nat.beq pc 13 then some (.bipush 32, 15, 0) else none) else (bif Nat.beq pc 15 then some (.if_icmp .ge 7, 18, 22) else none))) else (bif Nat.blt pc 22 then (bif Nat.blt pc 19 then (bif Nat.beq pc 18 then some (.iconst 1, 19, 0) else none) else (bif Nat.beq pc 19 then some (.goto 4, 22, 23) else none)) else (bif Nat.blt pc 23 then (bif Nat.beq pc 22 then some (.iconst 0, 23, 0) else none) else (bif Nat.beq pc 23 then some (.ireturn, 24, 0) else none))))) else none
/-- norm -/
def t_ins_18 (pc : Nat) : Option (Instr × Nat × Nat) := bif Nat.blt pc 8 then (bif Nat.blt pc 5 then (bif Nat.blt pc 1 then (bif Nat.beq pc 0 then some (.iload_n 1, 1, 0) else none) else (bif Nat.blt pc 4 then (bif Nat.beq pc 1 then some (.ifCond .ge 5, 4, 6) else none) else (bif Nat.beq pc 4 then some (.iconst (-1), 5, 0) else none))) else (bif Nat.blt pc 6 then (bif Nat.beq pc 5 then some (.ireturn, 6, 0) else none) else (bif Nat.blt pc 7 then (bif Nat.beq pc 6 then some (.iload_n 1, 7, 0) else none) else (bif Nat.beq pc 7 then some (.ireturn, 8, 0) else none)))) else none
/-- validEntry -/
def t_ins_19 (pc : Nat) : Option (Instr × Nat × Nat) := bif Nat.blt pc 30 then (bif Nat.blt pc 15 then (bif Nat.blt pc 6 then (bif Nat.blt pc 4 then (bif Nat.blt pc 1 then (bif Nat.beq pc 0 then some (.iload_n 1, 1, 0) else none) else (bif Nat.beq pc 1 then some (.ifCond .ge 5, 4, 6) else none)) else (bif Nat.blt pc 5 then (bif Nat.beq pc 4 then some (.iconst 1, 5, 0) else none) else (bif Nat.beq pc 5 then some (.ireturn, 6, 0) else none))) else (bif Nat.blt pc 8 then (bif Nat.blt pc 7 then (bif Nat.beq pc 6 then some (.aload_n 0, 7, 0) else none) else (bif Nat.beq pc 7 then some (.iload_n 1, 8, 0) else none)) else (bif Nat.blt pc 11 then (bif Nat.beq pc 8 then some (.invokevirtual 81, 11, 0) else none) else (bif Nat.blt pc 14 then (bif Nat.beq pc 11 then some (.ifCond .eq 17, 14, 28) else none) else (bif Nat.beq pc 14 then some (.aload_n 0, 15, 0) else none))))) else (bif Nat.blt pc 21 then (bif Nat.blt pc 19 then (bif Nat.blt pc 18 then (bif Nat.beq pc 15 then some (.getfield 7, 18, 0) else none) else (bif Nat.beq pc 18 then some (.iload_n 1, 19, 0) else none)) else (bif Nat.blt pc 20 then (bif Nat.beq pc 19 then some (.baload, 20, 0) else none) else (bif Nat.beq pc 20 then some (.iconst 3, 21, 0) else none))) else (bif Nat.blt pc 25 then (bif Nat.blt pc 24 then (bif Nat.beq pc 21 then some (.if_icmp .eq 7, 24, 28) else none) else (bif Nat.beq pc 24 then some (.iconst 1, 25, 0) else none)) else (bif Nat.blt pc 28 then (bif Nat.beq pc 25 then some (.goto 4, 28, 29) else none) else (bif Nat.blt pc 29 then (bif Nat.beq pc 28 then some (.iconst 0, 29, 0) else none) else (bif Nat.beq pc 29 then some (.ireturn, 30, 0) else none)))))) else none
/-- validParent -/
def t_ins_20 (pc : Nat) : Option (Instr × Nat × Nat) := bif Nat.blt pc 30 then (bif Nat.blt pc 15 then (bif Nat.blt pc 6 then (bif Nat.blt pc 4 then (bif Nat.blt pc 1 then (bif Nat.beq pc 0 then some (.iload_n 1, 1, 0) else none) else (bif Nat.beq pc 1 then some (.ifCond .ge 5, 4, 6) else none)) else (bif Nat.blt pc 5 then (bif Nat.beq pc 4 then some (.iconst 1, 5, 0) else none) else (bif Nat.beq pc 5 then some (.ireturn, 6, 0) else none))) else (bif Nat.blt pc 8 then (bif Nat.blt pc 7 then (bif Nat.beq pc 6 then some (.aload_n 0, 7, 0) else none) else (bif Nat.beq pc 7 then some (.iload_n 1, 8, 0) else none)) else (bif Nat.blt pc 11 then (bif Nat.beq pc 8 then some (.invokevirtual 81, 11, 0) else none) else (bif Nat.blt pc 14 then (bif Nat.beq pc 11 then some (.ifCond .eq 17, 14, 28) else none) else (bif Nat.beq pc 14 then some (.aload_n 0, 15, 0) else none))))) else (bif Nat.blt pc 21 then (bif Nat.blt pc 19 then (bif Nat.blt pc 18 then (bif Nat.beq pc 15 then some (.getfield 7, 18, 0) else none) else (bif Nat.beq pc 18 then some (.iload_n 1, 19, 0) else none)) else (bif Nat.blt pc 20 then (bif Nat.beq pc 19 then some (.baload, 20, 0) else none) else (bif Nat.beq pc 20 then some (.iconst 3, 21, 0) else none))) else (bif Nat.blt pc 25 then (bif Nat.blt pc 24 then (bif Nat.beq pc 21 then some (.if_icmp .ne 7, 24, 28) else none) else (bif Nat.beq pc 24 then some (.iconst 1, 25, 0) else none)) else (bif Nat.blt pc 28 then (bif Nat.beq pc 25 then some (.goto 4, 28, 29) else none) else (bif Nat.blt pc 29 then (bif Nat.beq pc 28 then some (.iconst 0, 29, 0) else none) else (bif Nat.beq pc 29 then some (.ireturn, 30, 0) else none)))))) else none
/-- define -/
def t_ins_21 (pc : Nat) : Option (Instr × Nat × Nat) := bif Nat.blt pc 111 then (bif Nat.blt pc 57 then (bif Nat.blt pc 30 then (bif Nat.blt pc 18 then (bif Nat.blt pc 8 then (bif Nat.blt pc 4 then (bif Nat.blt pc 1 then (bif Nat.beq pc 0 then some (.aload_n 0, 1, 0) else none) else (bif Nat.beq pc 1 then some (.getfield 53, 4, 0) else none)) else (bif Nat.blt pc 6 then (bif Nat.beq pc 4 then some (.istore 6, 6, 0) else none) else (bif Nat.beq pc 6 then some (.iload 6, 8, 0) else none))) else (bif Nat.blt pc 13 then (bif Nat.blt pc 11 then (bif Nat.beq pc 8 then some (.ifCond .lt 10, 11, 18) else none) else (bif Nat.beq pc 11 then some (.iload 6, 13, 0) else none)) else (bif Nat.blt pc 15 then (bif Nat.beq pc 13 then some (.bipush 32, 15, 0) else none) else (bif Nat.beq pc 15 then some (.if_icmp .lt 5, 18, 20) else none)))) else (bif Nat.blt pc 24 then (bif Nat.blt pc 20 then (bif Nat.blt pc 19 then (bif Nat.beq pc 18 then some (.iconst (-1), 19, 0) else none) else (bif Nat.beq pc 19 then some (.ireturn, 20, 0) else none)) else (bif Nat.blt pc 21 then (bif Nat.beq pc 20 then some (.aload_n 0, 21, 0) else none) else (bif Nat.beq pc 21 then some (.getfield 7, 24, 0) else none))) else (bif Nat.blt pc 27 then (bif Nat.blt pc 26 then (bif Nat.beq pc 24 then some (.iload 6, 26, 0) else none) else (bif Nat.beq pc 26 then some (.iload_n 1, 27, 0) else none)) else (bif Nat.blt pc 28 then (bif Nat.beq pc 27 then some (.i2b, 28, 0) else none) else (bif Nat.blt pc 29 then (bif Nat.beq pc 28 then some (.bastore, 29, 0) else none) else (bif Nat.beq pc 29 then some (.aload_n 0, 30, 0) else none)))))) else (bif Nat.blt pc 45 then (bif Nat.blt pc 37 then (bif Nat.blt pc 35 then (bif Nat.blt pc 33 then (bif Nat.beq pc 30 then some (.getfield 13, 33, 0) else none) else (bif Nat.beq pc 33 then some (.iload 6, 35, 0) else none)) else (bif Nat.blt pc 36 then (bif Nat.beq pc 35 then some (.iload_n 2, 36, 0) else none) else (bif Nat.beq pc 36 then some (.iastore, 37, 0) else none))) else (bif Nat.blt pc 41 then (bif Nat.blt pc 38 then (bif Nat.beq pc 37 then some (.aload_n 0, 38, 0) else none) else (bif Nat.beq pc 38 then some (.getfield 17, 41, 0) else none)) else (bif Nat.blt pc 43 then (bif Nat.beq pc 41 then some (.iload 6, 43, 0) else none) else (bif Nat.blt pc 44 then (bif Nat.beq pc 43 then some (.iconst 3, 44, 0) else none) else (bif Nat.beq pc 44 then some (.imul, 45, 0) else none))))) else (bif Nat.blt pc 51 then (bif Nat.blt pc 47 then (bif Nat.blt pc 46 then (bif Nat.beq pc 45 then some (.iload_n 3, 46, 0) else none) else (bif Nat.beq pc 46 then some (.iastore, 47, 0) else none)) else (bif Nat.blt pc 48 then (bif Nat.beq pc 47 then some (.aload_n 0, 48, 0) else none) else (bif Nat.beq pc 48 then some (.getfield 17, 51, 0) else none))) else (bif Nat.blt pc 54 then (bif Nat.blt pc 53 then (bif Nat.beq pc 51 then some (.iload 6, 53, 0) else none) else (bif Nat.beq pc 53 then some (.iconst 3, 54, 0) else none)) else (bif Nat.blt pc 55 then (bif Nat.beq pc 54 then some (.imul, 55, 0) else none) else (bif Nat.blt pc 56 then (bif Nat.beq pc 55 then some (.iconst 1, 56, 0) else none) else (bif Nat.beq pc 56 then some (.iadd, 57, 0) else none))))))) else (bif Nat.blt pc 82 then (bif Nat.blt pc 69 then (bif Nat.blt pc 64 then (bif Nat.blt pc 60 then (bif Nat.blt pc 59 then (bif Nat.beq pc 57 then some (.iload 4, 59, 0) else none) else (bif Nat.beq pc 59 then some (.iastore, 60, 0) else none)) else (bif Nat.blt pc 61 then (bif Nat.beq pc 60 then some (.aload_n 0, 61, 0) else none) else (bif Nat.beq pc 61 then some (.getfield 17, 64, 0) else none))) else (bif Nat.blt pc 67 then (bif Nat.blt pc 66 then (bif Nat.beq pc 64 then some (.iload 6, 66, 0) else none) else (bif Nat.beq pc 66 then some (.iconst 3, 67, 0) else none)) else (bif Nat.blt pc 68 then (bif Nat.beq pc 67 then some (.imul, 68, 0) else none) else (bif Nat.beq pc 68 then some (.iconst 2, 69, 0) else none)))) else (bif Nat.blt pc 74 then (bif Nat.blt pc 72 then (bif Nat.blt pc 70 then (bif Nat.beq pc 69 then some (.iadd, 70, 0) else none) else (bif Nat.beq pc 70 then some (.iload 5, 72, 0) else none)) else (bif Nat.blt pc 73 then (bif Nat.beq pc 72 then some (.iastore, 73, 0) else none) else (bif Nat.beq pc 73 then some (.aload_n 0, 74, 0) else none))) else (bif Nat.blt pc 79 then (bif Nat.blt pc 77 then (bif Nat.beq pc 74 then some (.getfield 20, 77, 0) else none) else (bif Nat.beq pc 77 then some (.iload 6, 79, 0) else none)) else (bif Nat.blt pc 80 then (bif Nat.beq pc 79 then some (.iconst 0, 80, 0) else none) else (bif Nat.blt pc 81 then (bif Nat.beq pc 80 then some (.bastore, 81, 0) else none) else (bif Nat.beq pc 81 then some (.aload_n 0, 82, 0) else none)))))) else (bif Nat.blt pc 98 then (bif Nat.blt pc 90 then (bif Nat.blt pc 87 then (bif Nat.blt pc 85 then (bif Nat.beq pc 82 then some (.getfield 20, 85, 0) else none) else (bif Nat.beq pc 85 then some (.bipush 32, 87, 0) else none)) else (bif Nat.blt pc 89 then (bif Nat.beq pc 87 then some (.iload 6, 89, 0) else none) else (bif Nat.beq pc 89 then some (.iadd, 90, 0) else none))) else (bif Nat.blt pc 92 then (bif Nat.blt pc 91 then (bif Nat.beq pc 90 then some (.iconst 0, 91, 0) else none) else (bif Nat.beq pc 91 then some (.bastore, 92, 0) else none)) else (bif Nat.blt pc 93 then (bif Nat.beq pc 92 then some (.aload_n 0, 93, 0) else none) else (bif Nat.blt pc 96 then (bif Nat.beq pc 93 then some (.getfield 24, 96, 0) else none) else (bif Nat.beq pc 96 then some (.iload 6, 98, 0) else none))))) else (bif Nat.blt pc 103 then (bif Nat.blt pc 100 then (bif Nat.blt pc 99 then (bif Nat.beq pc 98 then some (.iconst 0, 99, 0) else none) else (bif Nat.beq pc 99 then some (.bastore, 100, 0) else none)) else (bif Nat.blt pc 101 then (bif Nat.beq pc 100 then some (.aload_n 0, 101, 0) else none) else (bif Nat.beq pc 101 then some (.iload 6, 103, 0) else none))) else (bif Nat.blt pc 105 then (bif Nat.blt pc 104 then (bif Nat.beq pc 103 then some (.iconst 1, 104, 0) else none) else (bif Nat.beq pc 104 then some (.iadd, 105, 0) else none)) else (bif Nat.blt pc 108 then (bif Nat.beq pc 105 then some (.putfield 53, 108, 0) else none) else (bif Nat.blt pc 110 then (bif Nat.beq pc 108 then some (.iload 6, 110, 0) else none) else (bif Nat.beq pc 110 then some (.ireturn, 111, 0) else none)))))))) else none
/-- hasFlag -/
def t_ins_22 (pc : Nat) : Option (Instr × Nat × Nat) := bif Nat.blt pc 17 then (bif Nat.blt pc 7 then (bif Nat.blt pc 4 then (bif Nat.blt pc 1 then (bif Nat.beq pc 0 then some (.aload_n 0, 1, 0) else none) else (bif Nat.beq pc 1 then some (.getfield 24, 4, 0) else none)) else (bif Nat.blt pc 5 then (bif Nat.beq pc 4 then some (.iload_n 1, 5, 0) else none) else (bif Nat.blt pc 6 then (bif Nat.beq pc 5 then some (.baload, 6, 0) else none) else (bif Nat.beq pc 6 then some (.iload_n 2, 7, 0) else none)))) else (bif Nat.blt pc 12 then (bif Nat.blt pc 8 then (bif Nat.beq pc 7 then some (.iand, 8, 0) else none) else (bif Nat.blt pc 11 then (bif Nat.beq pc 8 then some (.ifCond .eq 7, 11, 15) else none) else (bif Nat.beq pc 11 then some (.iconst 1, 12, 0) else none))) else (bif Nat.blt pc 15 then (bif Nat.beq pc 12 then some (.goto 4, 15, 16) else none) else (bif Nat.blt pc 16 then (bif Nat.beq pc 15 then some (.iconst 0, 16, 0) else none) else (bif Nat.beq pc 16 then some (.ireturn, 17, 0) else none))))) else none
/-- setFlag -/
def t_ins_23 (pc : Nat) : Option (Instr × Nat × Nat) := bif Nat.blt pc 16 then (bif Nat.blt pc 10 then (bif Nat.blt pc 5 then (bif Nat.blt pc 1 then (bif Nat.beq pc 0 then some (.aload_n 0, 1, 0) else none) else (bif Nat.blt pc 4 then (bif Nat.beq pc 1 then some (.getfield 24, 4, 0) else none) else (bif Nat.beq pc 4 then some (.iload_n 1, 5, 0) else none))) else (bif Nat.blt pc 6 then (bif Nat.beq pc 5 then some (.aload_n 0, 6, 0) else none) else (bif Nat.blt pc 9 then (bif Nat.beq pc 6 then some (.getfield 24, 9, 0) else none) else (bif Nat.beq pc 9 then some (.iload_n 1, 10, 0) else none)))) else (bif Nat.blt pc 13 then (bif Nat.blt pc 11 then (bif Nat.beq pc 10 then some (.baload, 11, 0) else none) else (bif Nat.blt pc 12 then (bif Nat.beq pc 11 then some (.iload_n 2, 12, 0) else none) else (bif Nat.beq pc 12 then some (.ior, 13, 0) else none))) else (bif Nat.blt pc 14 then (bif Nat.beq pc 13 then some (.i2b, 14, 0) else none) else (bif Nat.blt pc 15 then (bif Nat.beq pc 14 then some (.bastore, 15, 0) else none) else (bif Nat.beq pc 15 then some (.return_, 16, 0) else none))))) else none
/-- clearFlag -/
def t_ins_24 (pc : Nat) : Option (Instr × Nat × Nat) := bif Nat.blt pc 18 then (bif Nat.blt pc 11 then (bif Nat.blt pc 5 then (bif Nat.blt pc 1 then (bif Nat.beq pc 0 then some (.aload_n 0, 1, 0) else none) else (bif Nat.blt pc 4 then (bif Nat.beq pc 1 then some (.getfield 24, 4, 0) else none) else (bif Nat.beq pc 4 then some (.iload_n 1, 5, 0) else none))) else (bif Nat.blt pc 9 then (bif Nat.blt pc 6 then (bif Nat.beq pc 5 then some (.aload_n 0, 6, 0) else none) else (bif Nat.beq pc 6 then some (.getfield 24, 9, 0) else none)) else (bif Nat.blt pc 10 then (bif Nat.beq pc 9 then some (.iload_n 1, 10, 0) else none) else (bif Nat.beq pc 10 then some (.baload, 11, 0) else none)))) else (bif Nat.blt pc 14 then (bif Nat.blt pc 12 then (bif Nat.beq pc 11 then some (.iload_n 2, 12, 0) else none) else (bif Nat.blt pc 13 then (bif Nat.beq pc 12 then some (.iconst (-1), 13, 0) else none) else (bif Nat.beq pc 13 then some (.ixor, 14, 0) else none))) else (bif Nat.blt pc 16 then (bif Nat.blt pc 15 then (bif Nat.beq pc 14 then some (.iand, 15, 0) else none) else (bif Nat.beq pc 15 then some (.i2b, 16, 0) else none)) else (bif Nat.blt pc 17 then (bif Nat.beq pc 16 then some (.bastore, 17, 0) else none) else (bif Nat.beq pc 17 then some (.return_, 18, 0) else none))))) else none
/-- clearMark -/
def t_ins_25 (pc : Nat) : Option (Instr × Nat × Nat) := bif Nat.blt pc 22 then (bif Nat.blt pc 9 then (bif Nat.blt pc 3 then (bif Nat.blt pc 1 then (bif Nat.beq pc 0 then some (.iconst 0, 1, 0) else none) else (bif Nat.blt pc 2 then (bif Nat.beq pc 1 then some (.istore_n 1, 2, 0) else none) else (bif Nat.beq pc 2 then some (.iload_n 1, 3, 0) else none))) else (bif Nat.blt pc 5 then (bif Nat.beq pc 3 then some (.bipush 32, 5, 0) else none) else (bif Nat.blt pc 8 then (bif Nat.beq pc 5 then some (.if_icmp .ge 16, 8, 21) else none) else (bif Nat.beq pc 8 then some (.aload_n 0, 9, 0) else none)))) else (bif Nat.blt pc 14 then (bif Nat.blt pc 12 then (bif Nat.beq pc 9 then some (.getfield 30, 12, 0) else none) else (bif Nat.blt pc 13 then (bif Nat.beq pc 12 then some (.iload_n 1, 13, 0) else none) else (bif Nat.beq pc 13 then some (.iconst 0, 14, 0) else none))) else (bif Nat.blt pc 18 then (bif Nat.blt pc 15 then (bif Nat.beq pc 14 then some (.bastore, 15, 0) else none) else (bif Nat.beq pc 15 then some (.iinc 1 1, 18, 0) else none)) else (bif Nat.blt pc 21 then (bif Nat.beq pc 18 then some (.goto (-16), 21, 2) else none) else (bif Nat.beq pc 21 then some (.return_, 22, 0) else none))))) else none
/-- markReach -/
def t_ins_26 (pc : Nat) : Option (Instr × Nat × Nat) := bif Nat.blt pc 82 then (bif Nat.blt pc 38 then (bif Nat.blt pc 18 then (bif Nat.blt pc 10 then (bif Nat.blt pc 5 then (bif Nat.blt pc 1 then (bif Nat.beq pc 0 then some (.aload_n 0, 1, 0) else none) else (bif Nat.blt pc 2 then (bif Nat.beq pc 1 then some (.iload_n 1, 2, 0) else none) else (bif Nat.beq pc 2 then some (.invokevirtual 81, 5, 0) else none))) else (bif Nat.blt pc 8 then (bif Nat.beq pc 5 then some (.ifCond .ne 4, 8, 9) else none) else (bif Nat.blt pc 9 then (bif Nat.beq pc 8 then some (.return_, 9, 0) else none) else (bif Nat.beq pc 9 then some (.aload_n 0, 10, 0) else none)))) else (bif Nat.blt pc 15 then (bif Nat.blt pc 13 then (bif Nat.beq pc 10 then some (.getfield 30, 13, 0) else none) else (bif Nat.blt pc 14 then (bif Nat.beq pc 13 then some (.iload_n 1, 14, 0) else none) else (bif Nat.beq pc 14 then some (.iconst 1, 15, 0) else none))) else (bif Nat.blt pc 16 then (bif Nat.beq pc 15 then some (.bastore, 16, 0) else none) else (bif Nat.blt pc 17 then (bif Nat.beq pc 16 then some (.iload_n 1, 17, 0) else none) else (bif Nat.beq pc 17 then some (.istore_n 2, 18, 0) else none))))) else (bif Nat.blt pc 28 then (bif Nat.blt pc 23 then (bif Nat.blt pc 19 then (bif Nat.beq pc 18 then some (.iload_n 2, 19, 0) else none) else (bif Nat.blt pc 22 then (bif Nat.beq pc 19 then some (.ifCond .lt 62, 22, 81) else none) else (bif Nat.beq pc 22 then some (.aload_n 0, 23, 0) else none))) else (bif Nat.blt pc 26 then (bif Nat.beq pc 23 then some (.getfield 30, 26, 0) else none) else (bif Nat.blt pc 27 then (bif Nat.beq pc 26 then some (.iload_n 2, 27, 0) else none) else (bif Nat.beq pc 27 then some (.baload, 28, 0) else none)))) else (bif Nat.blt pc 33 then (bif Nat.blt pc 31 then (bif Nat.beq pc 28 then some (.ifCond .eq 47, 31, 75) else none) else (bif Nat.blt pc 32 then (bif Nat.beq pc 31 then some (.iconst 0, 32, 0) else none) else (bif Nat.beq pc 32 then some (.istore_n 3, 33, 0) else none))) else (bif Nat.blt pc 34 then (bif Nat.beq pc 33 then some (.iload_n 3, 34, 0) else none) else (bif Nat.blt pc 35 then (bif Nat.beq pc 34 then some (.iconst 3, 35, 0) else none) else (bif Nat.beq pc 35 then some (.if_icmp .ge 40, 38, 75) else none)))))) else (bif Nat.blt pc 57 then (bif Nat.blt pc 46 then (bif Nat.blt pc 43 then (bif Nat.blt pc 39 then (bif Nat.beq pc 38 then some (.aload_n 0, 39, 0) else none) else (bif Nat.blt pc 42 then (bif Nat.beq pc 39 then some (.getfield 17, 42, 0) else none) else (bif Nat.beq pc 42 then some (.iload_n 2, 43, 0) else none))) else (bif Nat.blt pc 44 then (bif Nat.beq pc 43 then some (.iconst 3, 44, 0) else none) else (bif Nat.blt pc 45 then (bif Nat.beq pc 44 then some (.imul, 45, 0) else none) else (bif Nat.beq pc 45 then some (.iload_n 3, 46, 0) else none)))) else (bif Nat.blt pc 50 then (bif Nat.blt pc 47 then (bif Nat.beq pc 46 then some (.iadd, 47, 0) else none) else (bif Nat.blt pc 48 then (bif Nat.beq pc 47 then some (.iaload, 48, 0) else none) else (bif Nat.beq pc 48 then some (.istore 4, 50, 0) else none))) else (bif Nat.blt pc 52 then (bif Nat.beq pc 50 then some (.iload 4, 52, 0) else none) else (bif Nat.blt pc 55 then (bif Nat.beq pc 52 then some (.ifCond .lt 17, 55, 69) else none) else (bif Nat.beq pc 55 then some (.iload 4, 57, 0) else none))))) else (bif Nat.blt pc 68 then (bif Nat.blt pc 62 then (bif Nat.blt pc 58 then (bif Nat.beq pc 57 then some (.iload_n 2, 58, 0) else none) else (bif Nat.blt pc 61 then (bif Nat.beq pc 58 then some (.if_icmp .ge 11, 61, 69) else none) else (bif Nat.beq pc 61 then some (.aload_n 0, 62, 0) else none))) else (bif Nat.blt pc 65 then (bif Nat.beq pc 62 then some (.getfield 30, 65, 0) else none) else (bif Nat.blt pc 67 then (bif Nat.beq pc 65 then some (.iload 4, 67, 0) else none) else (bif Nat.beq pc 67 then some (.iconst 1, 68, 0) else none)))) else (bif Nat.blt pc 75 then (bif Nat.blt pc 69 then (bif Nat.beq pc 68 then some (.bastore, 69, 0) else none) else (bif Nat.blt pc 72 then (bif Nat.beq pc 69 then some (.iinc 3 1, 72, 0) else none) else (bif Nat.beq pc 72 then some (.goto (-39), 75, 33) else none))) else (bif Nat.blt pc 78 then (bif Nat.beq pc 75 then some (.iinc 2 (-1), 78, 0) else none) else (bif Nat.blt pc 81 then (bif Nat.beq pc 78 then some (.goto (-60), 81, 18) else none) else (bif Nat.beq pc 81 then some (.return_, 82, 0) else none))))))) else none
/-- markFlagged -/
def t_ins_27 (pc : Nat) : Option (Instr × Nat × Nat) := bif Nat.blt pc 41 then (bif Nat.blt pc 20 then (bif Nat.blt pc 7 then (bif Nat.blt pc 4 then (bif Nat.blt pc 1 then (bif Nat.beq pc 0 then some (.aload_n 0, 1, 0) else none) else (bif Nat.beq pc 1 then some (.invokevirtual 87, 4, 0) else none)) else (bif Nat.blt pc 5 then (bif Nat.beq pc 4 then some (.iconst 0, 5, 0) else none) else (bif Nat.blt pc 6 then (bif Nat.beq pc 5 then some (.istore_n 2, 6, 0) else none) else (bif Nat.beq pc 6 then some (.iload_n 2, 7, 0) else none)))) else (bif Nat.blt pc 14 then (bif Nat.blt pc 8 then (bif Nat.beq pc 7 then some (.aload_n 0, 8, 0) else none) else (bif Nat.blt pc 11 then (bif Nat.beq pc 8 then some (.getfield 53, 11, 0) else none) else (bif Nat.beq pc 11 then some (.if_icmp .ge 29, 14, 40) else none))) else (bif Nat.blt pc 15 then (bif Nat.beq pc 14 then some (.iload_n 2, 15, 0) else none) else (bif Nat.blt pc 17 then (bif Nat.beq pc 15 then some (.bipush 32, 17, 0) else none) else (bif Nat.beq pc 17 then some (.if_icmp .ge 23, 20, 40) else none))))) else (bif Nat.blt pc 29 then (bif Nat.blt pc 22 then (bif Nat.blt pc 21 then (bif Nat.beq pc 20 then some (.aload_n 0, 21, 0) else none) else (bif Nat.beq pc 21 then some (.iload_n 2, 22, 0) else none)) else (bif Nat.blt pc 23 then (bif Nat.beq pc 22 then some (.iload_n 1, 23, 0) else none) else (bif Nat.blt pc 26 then (bif Nat.beq pc 23 then some (.invokevirtual 94, 26, 0) else none) else (bif Nat.beq pc 26 then some (.ifCond .eq 8, 29, 34) else none)))) else (bif Nat.blt pc 34 then (bif Nat.blt pc 30 then (bif Nat.beq pc 29 then some (.aload_n 0, 30, 0) else none) else (bif Nat.blt pc 31 then (bif Nat.beq pc 30 then some (.iload_n 2, 31, 0) else none) else (bif Nat.beq pc 31 then some (.invokevirtual 90, 34, 0) else none))) else (bif Nat.blt pc 37 then (bif Nat.beq pc 34 then some (.iinc 2 1, 37, 0) else none) else (bif Nat.blt pc 40 then (bif Nat.beq pc 37 then some (.goto (-31), 40, 6) else none) else (bif Nat.beq pc 40 then some (.return_, 41, 0) else none)))))) else none
/-- clientHoldsMarked -/
def t_ins_28 (pc : Nat) : Option (Instr × Nat × Nat) := bif Nat.blt pc 44 then (bif Nat.blt pc 21 then (bif Nat.blt pc 10 then (bif Nat.blt pc 3 then (bif Nat.blt pc 1 then (bif Nat.beq pc 0 then some (.iconst 0, 1, 0) else none) else (bif Nat.blt pc 2 then (bif Nat.beq pc 1 then some (.istore_n 1, 2, 0) else none) else (bif Nat.beq pc 2 then some (.iload_n 1, 3, 0) else none))) else (bif Nat.blt pc 4 then (bif Nat.beq pc 3 then some (.aload_n 0, 4, 0) else none) else (bif Nat.blt pc 7 then (bif Nat.beq pc 4 then some (.getfield 53, 7, 0) else none) else (bif Nat.beq pc 7 then some (.if_icmp .ge 35, 10, 42) else none)))) else (bif Nat.blt pc 16 then (bif Nat.blt pc 11 then (bif Nat.beq pc 10 then some (.iload_n 1, 11, 0) else none) else (bif Nat.blt pc 13 then (bif Nat.beq pc 11 then some (.bipush 32, 13, 0) else none) else (bif Nat.beq pc 13 then some (.if_icmp .ge 29, 16, 42) else none))) else (bif Nat.blt pc 17 then (bif Nat.beq pc 16 then some (.aload_n 0, 17, 0) else none) else (bif Nat.blt pc 20 then (bif Nat.beq pc 17 then some (.getfield 30, 20, 0) else none) else (bif Nat.beq pc 20 then some (.iload_n 1, 21, 0) else none))))) else (bif Nat.blt pc 31 then (bif Nat.blt pc 26 then (bif Nat.blt pc 22 then (bif Nat.beq pc 21 then some (.baload, 22, 0) else none) else (bif Nat.blt pc 25 then (bif Nat.beq pc 22 then some (.ifCond .eq 14, 25, 36) else none) else (bif Nat.beq pc 25 then some (.aload_n 0, 26, 0) else none))) else (bif Nat.blt pc 29 then (bif Nat.beq pc 26 then some (.getfield 20, 29, 0) else none) else (bif Nat.blt pc 30 then (bif Nat.beq pc 29 then some (.iload_n 1, 30, 0) else none) else (bif Nat.beq pc 30 then some (.baload, 31, 0) else none)))) else (bif Nat.blt pc 36 then (bif Nat.blt pc 34 then (bif Nat.beq pc 31 then some (.ifCond .ne 5, 34, 36) else none) else (bif Nat.blt pc 35 then (bif Nat.beq pc 34 then some (.iconst 0, 35, 0) else none) else (bif Nat.beq pc 35 then some (.ireturn, 36, 0) else none))) else (bif Nat.blt pc 42 then (bif Nat.blt pc 39 then (bif Nat.beq pc 36 then some (.iinc 1 1, 39, 0) else none) else (bif Nat.beq pc 39 then some (.goto (-37), 42, 2) else none)) else (bif Nat.blt pc 43 then (bif Nat.beq pc 42 then some (.iconst 1, 43, 0) else none) else (bif Nat.beq pc 43 then some (.ireturn, 44, 0) else none)))))) else none
/-- anyWanted -/
def t_ins_29 (pc : Nat) : Option (Instr × Nat × Nat) := bif Nat.blt pc 35 then (bif Nat.blt pc 17 then (bif Nat.blt pc 7 then (bif Nat.blt pc 2 then (bif Nat.blt pc 1 then (bif Nat.beq pc 0 then some (.iconst 0, 1, 0) else none) else (bif Nat.beq pc 1 then some (.istore_n 1, 2, 0) else none)) else (bif Nat.blt pc 3 then (bif Nat.beq pc 2 then some (.iload_n 1, 3, 0) else none) else (bif Nat.blt pc 4 then (bif Nat.beq pc 3 then some (.aload_n 0, 4, 0) else none) else (bif Nat.beq pc 4 then some (.getfield 53, 7, 0) else none)))) else (bif Nat.blt pc 11 then (bif Nat.blt pc 10 then (bif Nat.beq pc 7 then some (.if_icmp .ge 26, 10, 33) else none) else (bif Nat.beq pc 10 then some (.iload_n 1, 11, 0) else none)) else (bif Nat.blt pc 13 then (bif Nat.beq pc 11 then some (.bipush 32, 13, 0) else none) else (bif Nat.blt pc 16 then (bif Nat.beq pc 13 then some (.if_icmp .ge 20, 16, 33) else none) else (bif Nat.beq pc 16 then some (.aload_n 0, 17, 0) else none))))) else (bif Nat.blt pc 26 then (bif Nat.blt pc 19 then (bif Nat.blt pc 18 then (bif Nat.beq pc 17 then some (.iload_n 1, 18, 0) else none) else (bif Nat.beq pc 18 then some (.iconst 1, 19, 0) else none)) else (bif Nat.blt pc 22 then (bif Nat.beq pc 19 then some (.invokevirtual 94, 22, 0) else none) else (bif Nat.blt pc 25 then (bif Nat.beq pc 22 then some (.ifCond .eq 5, 25, 27) else none) else (bif Nat.beq pc 25 then some (.iconst 1, 26, 0) else none)))) else (bif Nat.blt pc 30 then (bif Nat.blt pc 27 then (bif Nat.beq pc 26 then some (.ireturn, 27, 0) else none) else (bif Nat.beq pc 27 then some (.iinc 1 1, 30, 0) else none)) else (bif Nat.blt pc 33 then (bif Nat.beq pc 30 then some (.goto (-28), 33, 2) else none) else (bif Nat.blt pc 34 then (bif Nat.beq pc 33 then some (.iconst 0, 34, 0) else none) else (bif Nat.beq pc 34 then some (.ireturn, 35, 0) else none)))))) else none
/-- isEligible -/
def t_ins_30 (pc : Nat) : Option (Instr × Nat × Nat) := bif Nat.blt pc 44 then (bif Nat.blt pc 20 then (bif Nat.blt pc 10 then (bif Nat.blt pc 5 then (bif Nat.blt pc 1 then (bif Nat.beq pc 0 then some (.aload_n 0, 1, 0) else none) else (bif Nat.blt pc 4 then (bif Nat.beq pc 1 then some (.getfield 7, 4, 0) else none) else (bif Nat.beq pc 4 then some (.iload_n 1, 5, 0) else none))) else (bif Nat.blt pc 6 then (bif Nat.beq pc 5 then some (.baload, 6, 0) else none) else (bif Nat.blt pc 7 then (bif Nat.beq pc 6 then some (.iconst 3, 7, 0) else none) else (bif Nat.beq pc 7 then some (.if_icmp .ne 35, 10, 42) else none)))) else (bif Nat.blt pc 15 then (bif Nat.blt pc 11 then (bif Nat.beq pc 10 then some (.aload_n 0, 11, 0) else none) else (bif Nat.blt pc 14 then (bif Nat.beq pc 11 then some (.getfield 20, 14, 0) else none) else (bif Nat.beq pc 14 then some (.iload_n 1, 15, 0) else none))) else (bif Nat.blt pc 16 then (bif Nat.beq pc 15 then some (.baload, 16, 0) else none) else (bif Nat.blt pc 19 then (bif Nat.beq pc 16 then some (.ifCond .eq 26, 19, 42) else none) else (bif Nat.beq pc 19 then some (.aload_n 0, 20, 0) else none))))) else (bif Nat.blt pc 30 then (bif Nat.blt pc 25 then (bif Nat.blt pc 21 then (bif Nat.beq pc 20 then some (.iload_n 1, 21, 0) else none) else (bif Nat.blt pc 22 then (bif Nat.beq pc 21 then some (.iconst 2, 22, 0) else none) else (bif Nat.beq pc 22 then some (.invokevirtual 94, 25, 0) else none))) else (bif Nat.blt pc 28 then (bif Nat.beq pc 25 then some (.ifCond .ne 17, 28, 42) else none) else (bif Nat.blt pc 29 then (bif Nat.beq pc 28 then some (.aload_n 0, 29, 0) else none) else (bif Nat.beq pc 29 then some (.iload_n 1, 30, 0) else none)))) else (bif Nat.blt pc 38 then (bif Nat.blt pc 32 then (bif Nat.beq pc 30 then some (.bipush 8, 32, 0) else none) else (bif Nat.blt pc 35 then (bif Nat.beq pc 32 then some (.invokevirtual 94, 35, 0) else none) else (bif Nat.beq pc 35 then some (.ifCond .ne 7, 38, 42) else none))) else (bif Nat.blt pc 42 then (bif Nat.blt pc 39 then (bif Nat.beq pc 38 then some (.iconst 1, 39, 0) else none) else (bif Nat.beq pc 39 then some (.goto 4, 42, 43) else none)) else (bif Nat.blt pc 43 then (bif Nat.beq pc 42 then some (.iconst 0, 43, 0) else none) else (bif Nat.beq pc 43 then some (.ireturn, 44, 0) else none)))))) else none
/-- pickNext -/
def t_ins_31 (pc : Nat) : Option (Instr × Nat × Nat) := bif Nat.blt pc 55 then (bif Nat.blt pc 27 then (bif Nat.blt pc 12 then (bif Nat.blt pc 4 then (bif Nat.blt pc 2 then (bif Nat.blt pc 1 then (bif Nat.beq pc 0 then some (.iconst (-1), 1, 0) else none) else (bif Nat.beq pc 1 then some (.istore_n 1, 2, 0) else none)) else (bif Nat.blt pc 3 then (bif Nat.beq pc 2 then some (.iconst 0, 3, 0) else none) else (bif Nat.beq pc 3 then some (.istore_n 2, 4, 0) else none))) else (bif Nat.blt pc 6 then (bif Nat.blt pc 5 then (bif Nat.beq pc 4 then some (.iload_n 2, 5, 0) else none) else (bif Nat.beq pc 5 then some (.aload_n 0, 6, 0) else none)) else (bif Nat.blt pc 9 then (bif Nat.beq pc 6 then some (.getfield 53, 9, 0) else none) else (bif Nat.beq pc 9 then some (.if_icmp .ge 44, 12, 53) else none)))) else (bif Nat.blt pc 19 then (bif Nat.blt pc 15 then (bif Nat.blt pc 13 then (bif Nat.beq pc 12 then some (.iload_n 2, 13, 0) else none) else (bif Nat.beq pc 13 then some (.bipush 32, 15, 0) else none)) else (bif Nat.blt pc 18 then (bif Nat.beq pc 15 then some (.if_icmp .ge 38, 18, 53) else none) else (bif Nat.beq pc 18 then some (.aload_n 0, 19, 0) else none))) else (bif Nat.blt pc 23 then (bif Nat.blt pc 20 then (bif Nat.beq pc 19 then some (.iload_n 2, 20, 0) else none) else (bif Nat.beq pc 20 then some (.invokevirtual 125, 23, 0) else none)) else (bif Nat.blt pc 26 then (bif Nat.beq pc 23 then some (.ifCond .eq 24, 26, 47) else none) else (bif Nat.beq pc 26 then some (.iload_n 1, 27, 0) else none))))) else (bif Nat.blt pc 41 then (bif Nat.blt pc 35 then (bif Nat.blt pc 31 then (bif Nat.blt pc 30 then (bif Nat.beq pc 27 then some (.ifCond .lt 18, 30, 45) else none) else (bif Nat.beq pc 30 then some (.aload_n 0, 31, 0) else none)) else (bif Nat.blt pc 34 then (bif Nat.beq pc 31 then some (.getfield 13, 34, 0) else none) else (bif Nat.beq pc 34 then some (.iload_n 2, 35, 0) else none))) else (bif Nat.blt pc 37 then (bif Nat.blt pc 36 then (bif Nat.beq pc 35 then some (.iaload, 36, 0) else none) else (bif Nat.beq pc 36 then some (.aload_n 0, 37, 0) else none)) else (bif Nat.blt pc 40 then (bif Nat.beq pc 37 then some (.getfield 13, 40, 0) else none) else (bif Nat.beq pc 40 then some (.iload_n 1, 41, 0) else none)))) else (bif Nat.blt pc 47 then (bif Nat.blt pc 45 then (bif Nat.blt pc 42 then (bif Nat.beq pc 41 then some (.iaload, 42, 0) else none) else (bif Nat.beq pc 42 then some (.if_icmp .lt 5, 45, 47) else none)) else (bif Nat.blt pc 46 then (bif Nat.beq pc 45 then some (.iload_n 2, 46, 0) else none) else (bif Nat.beq pc 46 then some (.istore_n 1, 47, 0) else none))) else (bif Nat.blt pc 53 then (bif Nat.blt pc 50 then (bif Nat.beq pc 47 then some (.iinc 2 1, 50, 0) else none) else (bif Nat.beq pc 50 then some (.goto (-46), 53, 4) else none)) else (bif Nat.blt pc 54 then (bif Nat.beq pc 53 then some (.iload_n 1, 54, 0) else none) else (bif Nat.beq pc 54 then some (.ireturn, 55, 0) else none)))))) else none
/-- pickBatch -/
def t_ins_32 (pc : Nat) : Option (Instr × Nat × Nat) := bif Nat.blt pc 62 then (bif Nat.blt pc 30 then (bif Nat.blt pc 14 then (bif Nat.blt pc 4 then (bif Nat.blt pc 2 then (bif Nat.blt pc 1 then (bif Nat.beq pc 0 then some (.iconst 0, 1, 0) else none) else (bif Nat.beq pc 1 then some (.istore_n 1, 2, 0) else none)) else (bif Nat.blt pc 3 then (bif Nat.beq pc 2 then some (.iload_n 1, 3, 0) else none) else (bif Nat.beq pc 3 then some (.aload_n 0, 4, 0) else none))) else (bif Nat.blt pc 10 then (bif Nat.blt pc 7 then (bif Nat.beq pc 4 then some (.getfield 47, 7, 0) else none) else (bif Nat.beq pc 7 then some (.if_icmp .ge 54, 10, 61) else none)) else (bif Nat.blt pc 11 then (bif Nat.beq pc 10 then some (.aload_n 0, 11, 0) else none) else (bif Nat.beq pc 11 then some (.invokevirtual 112, 14, 0) else none)))) else (bif Nat.blt pc 20 then (bif Nat.blt pc 16 then (bif Nat.blt pc 15 then (bif Nat.beq pc 14 then some (.istore_n 2, 15, 0) else none) else (bif Nat.beq pc 15 then some (.iload_n 2, 16, 0) else none)) else (bif Nat.blt pc 19 then (bif Nat.beq pc 16 then some (.ifCond .lt 12, 19, 28) else none) else (bif Nat.beq pc 19 then some (.aload_n 0, 20, 0) else none))) else (bif Nat.blt pc 25 then (bif Nat.blt pc 23 then (bif Nat.beq pc 20 then some (.getfield 56, 23, 0) else none) else (bif Nat.beq pc 23 then some (.bipush 32, 25, 0) else none)) else (bif Nat.blt pc 28 then (bif Nat.beq pc 25 then some (.if_icmp .lt 4, 28, 29) else none) else (bif Nat.blt pc 29 then (bif Nat.beq pc 28 then some (.return_, 29, 0) else none) else (bif Nat.beq pc 29 then some (.aload_n 0, 30, 0) else none)))))) else (bif Nat.blt pc 45 then (bif Nat.blt pc 36 then (bif Nat.blt pc 32 then (bif Nat.blt pc 31 then (bif Nat.beq pc 30 then some (.iload_n 2, 31, 0) else none) else (bif Nat.beq pc 31 then some (.iconst 2, 32, 0) else none)) else (bif Nat.blt pc 35 then (bif Nat.beq pc 32 then some (.invokevirtual 98, 35, 0) else none) else (bif Nat.beq pc 35 then some (.aload_n 0, 36, 0) else none))) else (bif Nat.blt pc 40 then (bif Nat.blt pc 39 then (bif Nat.beq pc 36 then some (.getfield 27, 39, 0) else none) else (bif Nat.beq pc 39 then some (.aload_n 0, 40, 0) else none)) else (bif Nat.blt pc 43 then (bif Nat.beq pc 40 then some (.getfield 56, 43, 0) else none) else (bif Nat.blt pc 44 then (bif Nat.beq pc 43 then some (.iload_n 2, 44, 0) else none) else (bif Nat.beq pc 44 then some (.iastore, 45, 0) else none))))) else (bif Nat.blt pc 51 then (bif Nat.blt pc 47 then (bif Nat.blt pc 46 then (bif Nat.beq pc 45 then some (.aload_n 0, 46, 0) else none) else (bif Nat.beq pc 46 then some (.dup, 47, 0) else none)) else (bif Nat.blt pc 50 then (bif Nat.beq pc 47 then some (.getfield 56, 50, 0) else none) else (bif Nat.beq pc 50 then some (.iconst 1, 51, 0) else none))) else (bif Nat.blt pc 55 then (bif Nat.blt pc 52 then (bif Nat.beq pc 51 then some (.iadd, 52, 0) else none) else (bif Nat.beq pc 52 then some (.putfield 56, 55, 0) else none)) else (bif Nat.blt pc 58 then (bif Nat.beq pc 55 then some (.iinc 1 1, 58, 0) else none) else (bif Nat.blt pc 61 then (bif Nat.beq pc 58 then some (.goto (-56), 61, 2) else none) else (bif Nat.beq pc 61 then some (.return_, 62, 0) else none))))))) else none
/-- answerBatch -/
def t_ins_33 (pc : Nat) : Option (Instr × Nat × Nat) := bif Nat.blt pc 72 then (bif Nat.blt pc 32 then (bif Nat.blt pc 13 then (bif Nat.blt pc 4 then (bif Nat.blt pc 2 then (bif Nat.blt pc 1 then (bif Nat.beq pc 0 then some (.iconst 0, 1, 0) else none) else (bif Nat.beq pc 1 then some (.istore_n 2, 2, 0) else none)) else (bif Nat.blt pc 3 then (bif Nat.beq pc 2 then some (.iload_n 1, 3, 0) else none) else (bif Nat.beq pc 3 then some (.istore_n 3, 4, 0) else none))) else (bif Nat.blt pc 6 then (bif Nat.blt pc 5 then (bif Nat.beq pc 4 then some (.iload_n 3, 5, 0) else none) else (bif Nat.beq pc 5 then some (.aload_n 0, 6, 0) else none)) else (bif Nat.blt pc 9 then (bif Nat.beq pc 6 then some (.getfield 56, 9, 0) else none) else (bif Nat.blt pc 12 then (bif Nat.beq pc 9 then some (.if_icmp .ge 61, 12, 70) else none) else (bif Nat.beq pc 12 then some (.iload_n 3, 13, 0) else none))))) else (bif Nat.blt pc 23 then (bif Nat.blt pc 18 then (bif Nat.blt pc 15 then (bif Nat.beq pc 13 then some (.bipush 32, 15, 0) else none) else (bif Nat.beq pc 15 then some (.if_icmp .ge 55, 18, 70) else none)) else (bif Nat.blt pc 19 then (bif Nat.beq pc 18 then some (.aload_n 0, 19, 0) else none) else (bif Nat.blt pc 22 then (bif Nat.beq pc 19 then some (.getfield 27, 22, 0) else none) else (bif Nat.beq pc 22 then some (.iload_n 3, 23, 0) else none)))) else (bif Nat.blt pc 26 then (bif Nat.blt pc 24 then (bif Nat.beq pc 23 then some (.iaload, 24, 0) else none) else (bif Nat.beq pc 24 then some (.istore 4, 26, 0) else none)) else (bif Nat.blt pc 27 then (bif Nat.beq pc 26 then some (.aload_n 0, 27, 0) else none) else (bif Nat.blt pc 29 then (bif Nat.beq pc 27 then some (.iload 4, 29, 0) else none) else (bif Nat.beq pc 29 then some (.invokevirtual 81, 32, 0) else none)))))) else (bif Nat.blt pc 51 then (bif Nat.blt pc 43 then (bif Nat.blt pc 36 then (bif Nat.blt pc 35 then (bif Nat.beq pc 32 then some (.ifCond .eq 32, 35, 64) else none) else (bif Nat.beq pc 35 then some (.aload_n 0, 36, 0) else none)) else (bif Nat.blt pc 39 then (bif Nat.beq pc 36 then some (.getfield 20, 39, 0) else none) else (bif Nat.blt pc 41 then (bif Nat.beq pc 39 then some (.bipush 32, 41, 0) else none) else (bif Nat.beq pc 41 then some (.iload 4, 43, 0) else none)))) else (bif Nat.blt pc 45 then (bif Nat.blt pc 44 then (bif Nat.beq pc 43 then some (.iadd, 44, 0) else none) else (bif Nat.beq pc 44 then some (.baload, 45, 0) else none)) else (bif Nat.blt pc 48 then (bif Nat.beq pc 45 then some (.ifCond .eq 19, 48, 64) else none) else (bif Nat.blt pc 49 then (bif Nat.beq pc 48 then some (.aload_n 0, 49, 0) else none) else (bif Nat.beq pc 49 then some (.iload 4, 51, 0) else none))))) else (bif Nat.blt pc 61 then (bif Nat.blt pc 55 then (bif Nat.blt pc 52 then (bif Nat.beq pc 51 then some (.iconst 4, 52, 0) else none) else (bif Nat.beq pc 52 then some (.invokevirtual 98, 55, 0) else none)) else (bif Nat.blt pc 56 then (bif Nat.beq pc 55 then some (.aload_n 0, 56, 0) else none) else (bif Nat.blt pc 58 then (bif Nat.beq pc 56 then some (.iload 4, 58, 0) else none) else (bif Nat.beq pc 58 then some (.invokevirtual 128, 61, 0) else none)))) else (bif Nat.blt pc 67 then (bif Nat.blt pc 64 then (bif Nat.beq pc 61 then some (.iinc 2 1, 64, 0) else none) else (bif Nat.beq pc 64 then some (.iinc 3 1, 67, 0) else none)) else (bif Nat.blt pc 70 then (bif Nat.beq pc 67 then some (.goto (-63), 70, 4) else none) else (bif Nat.blt pc 71 then (bif Nat.beq pc 70 then some (.iload_n 2, 71, 0) else none) else (bif Nat.beq pc 71 then some (.ireturn, 72, 0) else none))))))) else none
/-- markCommon -/
def t_ins_34 (pc : Nat) : Option (Instr × Nat × Nat) := bif Nat.blt pc 58 then (bif Nat.blt pc 29 then (bif Nat.blt pc 12 then (bif Nat.blt pc 6 then (bif Nat.blt pc 4 then (bif Nat.blt pc 1 then (bif Nat.beq pc 0 then some (.aload_n 0, 1, 0) else none) else (bif Nat.beq pc 1 then some (.invokevirtual 87, 4, 0) else none)) else (bif Nat.blt pc 5 then (bif Nat.beq pc 4 then some (.aload_n 0, 5, 0) else none) else (bif Nat.beq pc 5 then some (.iload_n 1, 6, 0) else none))) else (bif Nat.blt pc 10 then (bif Nat.blt pc 9 then (bif Nat.beq pc 6 then some (.invokevirtual 90, 9, 0) else none) else (bif Nat.beq pc 9 then some (.iconst 0, 10, 0) else none)) else (bif Nat.blt pc 11 then (bif Nat.beq pc 10 then some (.istore_n 2, 11, 0) else none) else (bif Nat.beq pc 11 then some (.iload_n 2, 12, 0) else none)))) else (bif Nat.blt pc 20 then (bif Nat.blt pc 16 then (bif Nat.blt pc 13 then (bif Nat.beq pc 12 then some (.aload_n 0, 13, 0) else none) else (bif Nat.beq pc 13 then some (.getfield 53, 16, 0) else none)) else (bif Nat.blt pc 19 then (bif Nat.beq pc 16 then some (.if_icmp .ge 41, 19, 57) else none) else (bif Nat.beq pc 19 then some (.iload_n 2, 20, 0) else none))) else (bif Nat.blt pc 25 then (bif Nat.blt pc 22 then (bif Nat.beq pc 20 then some (.bipush 32, 22, 0) else none) else (bif Nat.beq pc 22 then some (.if_icmp .ge 35, 25, 57) else none)) else (bif Nat.blt pc 26 then (bif Nat.beq pc 25 then some (.aload_n 0, 26, 0) else none) else (bif Nat.beq pc 26 then some (.getfield 30, 29, 0) else none))))) else (bif Nat.blt pc 41 then (bif Nat.blt pc 35 then (bif Nat.blt pc 31 then (bif Nat.blt pc 30 then (bif Nat.beq pc 29 then some (.iload_n 2, 30, 0) else none) else (bif Nat.beq pc 30 then some (.baload, 31, 0) else none)) else (bif Nat.blt pc 34 then (bif Nat.beq pc 31 then some (.ifCond .eq 20, 34, 51) else none) else (bif Nat.beq pc 34 then some (.aload_n 0, 35, 0) else none))) else (bif Nat.blt pc 39 then (bif Nat.blt pc 38 then (bif Nat.beq pc 35 then some (.getfield 7, 38, 0) else none) else (bif Nat.beq pc 38 then some (.iload_n 2, 39, 0) else none)) else (bif Nat.blt pc 40 then (bif Nat.beq pc 39 then some (.baload, 40, 0) else none) else (bif Nat.beq pc 40 then some (.iconst 3, 41, 0) else none)))) else (bif Nat.blt pc 48 then (bif Nat.blt pc 45 then (bif Nat.blt pc 44 then (bif Nat.beq pc 41 then some (.if_icmp .ne 10, 44, 51) else none) else (bif Nat.beq pc 44 then some (.aload_n 0, 45, 0) else none)) else (bif Nat.blt pc 46 then (bif Nat.beq pc 45 then some (.iload_n 2, 46, 0) else none) else (bif Nat.beq pc 46 then some (.bipush 8, 48, 0) else none))) else (bif Nat.blt pc 54 then (bif Nat.blt pc 51 then (bif Nat.beq pc 48 then some (.invokevirtual 98, 51, 0) else none) else (bif Nat.beq pc 51 then some (.iinc 2 1, 54, 0) else none)) else (bif Nat.blt pc 57 then (bif Nat.beq pc 54 then some (.goto (-43), 57, 11) else none) else (bif Nat.beq pc 57 then some (.return_, 58, 0) else none)))))) else none
/-- cell -/
def t_ins_35 (pc : Nat) : Option (Instr × Nat × Nat) := bif Nat.blt pc 14 then (bif Nat.blt pc 7 then (bif Nat.blt pc 2 then (bif Nat.blt pc 1 then (bif Nat.beq pc 0 then some (.iload_n 1, 1, 0) else none) else (bif Nat.beq pc 1 then some (.aload_n 0, 2, 0) else none)) else (bif Nat.blt pc 3 then (bif Nat.beq pc 2 then some (.arraylength, 3, 0) else none) else (bif Nat.blt pc 6 then (bif Nat.beq pc 3 then some (.if_icmp .ge 9, 6, 12) else none) else (bif Nat.beq pc 6 then some (.aload_n 0, 7, 0) else none)))) else (bif Nat.blt pc 9 then (bif Nat.blt pc 8 then (bif Nat.beq pc 7 then some (.iload_n 1, 8, 0) else none) else (bif Nat.beq pc 8 then some (.iaload, 9, 0) else none)) else (bif Nat.blt pc 12 then (bif Nat.beq pc 9 then some (.goto 4, 12, 13) else none) else (bif Nat.blt pc 13 then (bif Nat.beq pc 12 then some (.iconst 0, 13, 0) else none) else (bif Nat.beq pc 13 then some (.ireturn, 14, 0) else none))))) else none
/-- check -/
def t_ins_36 (pc : Nat) : Option (Instr × Nat × Nat) := bif Nat.blt pc 201 then (bif Nat.blt pc 98 then (bif Nat.blt pc 46 then (bif Nat.blt pc 24 then (bif Nat.blt pc 10 then (bif Nat.blt pc 3 then (bif Nat.blt pc 1 then (bif Nat.beq pc 0 then some (.lconst 0, 1, 0) else none) else (bif Nat.blt pc 2 then (bif Nat.beq pc 1 then some (.lstore_n 2, 2, 0) else none) else (bif Nat.beq pc 2 then some (.lconst 0, 3, 0) else none))) else (bif Nat.blt pc 6 then (bif Nat.blt pc 5 then (bif Nat.beq pc 3 then some (.lstore 4, 5, 0) else none) else (bif Nat.beq pc 5 then some (.iconst 0, 6, 0) else none)) else (bif Nat.blt pc 8 then (bif Nat.beq pc 6 then some (.istore 6, 8, 0) else none) else (bif Nat.beq pc 8 then some (.iload 6, 10, 0) else none)))) else (bif Nat.blt pc 15 then (bif Nat.blt pc 11 then (bif Nat.beq pc 10 then some (.iload_n 1, 11, 0) else none) else (bif Nat.blt pc 14 then (bif Nat.beq pc 11 then some (.if_icmp .ge 75, 14, 86) else none) else (bif Nat.beq pc 14 then some (.aload_n 0, 15, 0) else none))) else (bif Nat.blt pc 20 then (bif Nat.blt pc 17 then (bif Nat.beq pc 15 then some (.iload 6, 17, 0) else none) else (bif Nat.beq pc 17 then some (.invokevirtual 22, 20, 0) else none)) else (bif Nat.blt pc 22 then (bif Nat.beq pc 20 then some (.istore 7, 22, 0) else none) else (bif Nat.beq pc 22 then some (.iload 7, 24, 0) else none))))) else (bif Nat.blt pc 34 then (bif Nat.blt pc 29 then (bif Nat.blt pc 25 then (bif Nat.beq pc 24 then some (.iconst 1, 25, 0) else none) else (bif Nat.blt pc 26 then (bif Nat.beq pc 25 then some (.iand, 26, 0) else none) else (bif Nat.beq pc 26 then some (.ifCond .eq 13, 29, 39) else none))) else (bif Nat.blt pc 31 then (bif Nat.blt pc 30 then (bif Nat.beq pc 29 then some (.lload_n 2, 30, 0) else none) else (bif Nat.beq pc 30 then some (.aload_n 0, 31, 0) else none)) else (bif Nat.blt pc 33 then (bif Nat.beq pc 31 then some (.iload 6, 33, 0) else none) else (bif Nat.beq pc 33 then some (.iload_n 1, 34, 0) else none)))) else (bif Nat.blt pc 39 then (bif Nat.blt pc 37 then (bif Nat.beq pc 34 then some (.invokestatic 25, 37, 0) else none) else (bif Nat.blt pc 38 then (bif Nat.beq pc 37 then some (.lor, 38, 0) else none) else (bif Nat.beq pc 38 then some (.lstore_n 2, 39, 0) else none))) else (bif Nat.blt pc 42 then (bif Nat.blt pc 41 then (bif Nat.beq pc 39 then some (.iload 7, 41, 0) else none) else (bif Nat.beq pc 41 then some (.iconst 4, 42, 0) else none)) else (bif Nat.blt pc 43 then (bif Nat.beq pc 42 then some (.iand, 43, 0) else none) else (bif Nat.beq pc 43 then some (.ifCond .eq 37, 46, 80) else none)))))) else (bif Nat.blt pc 70 then (bif Nat.blt pc 58 then (bif Nat.blt pc 51 then (bif Nat.blt pc 48 then (bif Nat.beq pc 46 then some (.lload 4, 48, 0) else none) else (bif Nat.blt pc 49 then (bif Nat.beq pc 48 then some (.aload_n 0, 49, 0) else none) else (bif Nat.beq pc 49 then some (.iload 6, 51, 0) else none))) else (bif Nat.blt pc 55 then (bif Nat.blt pc 52 then (bif Nat.beq pc 51 then some (.iload_n 1, 52, 0) else none) else (bif Nat.beq pc 52 then some (.invokestatic 25, 55, 0) else none)) else (bif Nat.blt pc 56 then (bif Nat.beq pc 55 then some (.lor, 56, 0) else none) else (bif Nat.beq pc 56 then some (.lstore 4, 58, 0) else none)))) else (bif Nat.blt pc 62 then (bif Nat.blt pc 59 then (bif Nat.beq pc 58 then some (.aload_n 0, 59, 0) else none) else (bif Nat.blt pc 60 then (bif Nat.beq pc 59 then some (.iconst 1, 60, 0) else none) else (bif Nat.beq pc 60 then some (.iload 6, 62, 0) else none))) else (bif Nat.blt pc 68 then (bif Nat.blt pc 65 then (bif Nat.beq pc 62 then some (.invokevirtual 14, 65, 0) else none) else (bif Nat.beq pc 65 then some (.ifCond .eq 13, 68, 78) else none)) else (bif Nat.blt pc 69 then (bif Nat.beq pc 68 then some (.aload_n 0, 69, 0) else none) else (bif Nat.beq pc 69 then some (.iconst 0, 70, 0) else none))))) else (bif Nat.blt pc 86 then (bif Nat.blt pc 78 then (bif Nat.blt pc 72 then (bif Nat.beq pc 70 then some (.iload 6, 72, 0) else none) else (bif Nat.blt pc 75 then (bif Nat.beq pc 72 then some (.invokevirtual 14, 75, 0) else none) else (bif Nat.beq pc 75 then some (.ifCond .ne 5, 78, 80) else none))) else (bif Nat.blt pc 80 then (bif Nat.blt pc 79 then (bif Nat.beq pc 78 then some (.iconst 0, 79, 0) else none) else (bif Nat.beq pc 79 then some (.ireturn, 80, 0) else none)) else (bif Nat.blt pc 83 then (bif Nat.beq pc 80 then some (.iinc 6 1, 83, 0) else none) else (bif Nat.beq pc 83 then some (.goto (-75), 86, 8) else none)))) else (bif Nat.blt pc 91 then (bif Nat.blt pc 87 then (bif Nat.beq pc 86 then some (.iconst 0, 87, 0) else none) else (bif Nat.blt pc 89 then (bif Nat.beq pc 87 then some (.istore 6, 89, 0) else none) else (bif Nat.beq pc 89 then some (.iload 6, 91, 0) else none))) else (bif Nat.blt pc 95 then (bif Nat.blt pc 92 then (bif Nat.beq pc 91 then some (.iload_n 1, 92, 0) else none) else (bif Nat.beq pc 92 then some (.if_icmp .ge 104, 95, 196) else none)) else (bif Nat.blt pc 96 then (bif Nat.beq pc 95 then some (.aload_n 0, 96, 0) else none) else (bif Nat.beq pc 96 then some (.iload 6, 98, 0) else none))))))) else (bif Nat.blt pc 144 then (bif Nat.blt pc 121 then (bif Nat.blt pc 112 then (bif Nat.blt pc 104 then (bif Nat.blt pc 101 then (bif Nat.beq pc 98 then some (.invokevirtual 22, 101, 0) else none) else (bif Nat.blt pc 103 then (bif Nat.beq pc 101 then some (.bipush 16, 103, 0) else none) else (bif Nat.beq pc 103 then some (.iand, 104, 0) else none))) else (bif Nat.blt pc 108 then (bif Nat.blt pc 107 then (bif Nat.beq pc 104 then some (.ifCond .eq 7, 107, 111) else none) else (bif Nat.beq pc 107 then some (.iconst 1, 108, 0) else none)) else (bif Nat.blt pc 111 then (bif Nat.beq pc 108 then some (.goto 4, 111, 112) else none) else (bif Nat.beq pc 111 then some (.iconst 0, 112, 0) else none)))) else (bif Nat.blt pc 117 then (bif Nat.blt pc 114 then (bif Nat.beq pc 112 then some (.istore 7, 114, 0) else none) else (bif Nat.blt pc 115 then (bif Nat.beq pc 114 then some (.lload_n 2, 115, 0) else none) else (bif Nat.beq pc 115 then some (.iload 6, 117, 0) else none))) else (bif Nat.blt pc 119 then (bif Nat.blt pc 118 then (bif Nat.beq pc 117 then some (.lushr, 118, 0) else none) else (bif Nat.beq pc 118 then some (.lconst 1, 119, 0) else none)) else (bif Nat.blt pc 120 then (bif Nat.beq pc 119 then some (.land, 120, 0) else none) else (bif Nat.beq pc 120 then some (.lconst 0, 121, 0) else none))))) else (bif Nat.blt pc 134 then (bif Nat.blt pc 126 then (bif Nat.blt pc 122 then (bif Nat.beq pc 121 then some (.lcmp, 122, 0) else none) else (bif Nat.blt pc 125 then (bif Nat.beq pc 122 then some (.ifCond .eq 7, 125, 129) else none) else (bif Nat.beq pc 125 then some (.iconst 1, 126, 0) else none))) else (bif Nat.blt pc 130 then (bif Nat.blt pc 129 then (bif Nat.beq pc 126 then some (.goto 4, 129, 130) else none) else (bif Nat.beq pc 129 then some (.iconst 0, 130, 0) else none)) else (bif Nat.blt pc 132 then (bif Nat.beq pc 130 then some (.istore 8, 132, 0) else none) else (bif Nat.beq pc 132 then some (.lload 4, 134, 0) else none)))) else (bif Nat.blt pc 138 then (bif Nat.blt pc 136 then (bif Nat.beq pc 134 then some (.iload 6, 136, 0) else none) else (bif Nat.blt pc 137 then (bif Nat.beq pc 136 then some (.lushr, 137, 0) else none) else (bif Nat.beq pc 137 then some (.lconst 1, 138, 0) else none))) else (bif Nat.blt pc 140 then (bif Nat.blt pc 139 then (bif Nat.beq pc 138 then some (.land, 139, 0) else none) else (bif Nat.beq pc 139 then some (.lconst 0, 140, 0) else none)) else (bif Nat.blt pc 141 then (bif Nat.beq pc 140 then some (.lcmp, 141, 0) else none) else (bif Nat.beq pc 141 then some (.ifCond .eq 7, 144, 148) else none)))))) else (bif Nat.blt pc 172 then (bif Nat.blt pc 158 then (bif Nat.blt pc 149 then (bif Nat.blt pc 145 then (bif Nat.beq pc 144 then some (.iconst 1, 145, 0) else none) else (bif Nat.blt pc 148 then (bif Nat.beq pc 145 then some (.goto 4, 148, 149) else none) else (bif Nat.beq pc 148 then some (.iconst 0, 149, 0) else none))) else (bif Nat.blt pc 153 then (bif Nat.blt pc 151 then (bif Nat.beq pc 149 then some (.istore 9, 151, 0) else none) else (bif Nat.beq pc 151 then some (.iload 7, 153, 0) else none)) else (bif Nat.blt pc 155 then (bif Nat.beq pc 153 then some (.iload 8, 155, 0) else none) else (bif Nat.beq pc 155 then some (.ifCond .eq 12, 158, 167) else none)))) else (bif Nat.blt pc 164 then (bif Nat.blt pc 160 then (bif Nat.beq pc 158 then some (.iload 9, 160, 0) else none) else (bif Nat.blt pc 163 then (bif Nat.beq pc 160 then some (.ifCond .ne 7, 163, 167) else none) else (bif Nat.beq pc 163 then some (.iconst 1, 164, 0) else none))) else (bif Nat.blt pc 168 then (bif Nat.blt pc 167 then (bif Nat.beq pc 164 then some (.goto 4, 167, 168) else none) else (bif Nat.beq pc 167 then some (.iconst 0, 168, 0) else none)) else (bif Nat.blt pc 171 then (bif Nat.beq pc 168 then some (.if_icmp .eq 5, 171, 173) else none) else (bif Nat.beq pc 171 then some (.iconst 0, 172, 0) else none))))) else (bif Nat.blt pc 185 then (bif Nat.blt pc 178 then (bif Nat.blt pc 173 then (bif Nat.beq pc 172 then some (.ireturn, 173, 0) else none) else (bif Nat.blt pc 175 then (bif Nat.beq pc 173 then some (.iload 8, 175, 0) else none) else (bif Nat.beq pc 175 then some (.ifCond .eq 15, 178, 190) else none))) else (bif Nat.blt pc 180 then (bif Nat.blt pc 179 then (bif Nat.beq pc 178 then some (.aload_n 0, 179, 0) else none) else (bif Nat.beq pc 179 then some (.iconst 0, 180, 0) else none)) else (bif Nat.blt pc 182 then (bif Nat.beq pc 180 then some (.iload 6, 182, 0) else none) else (bif Nat.beq pc 182 then some (.invokevirtual 14, 185, 0) else none)))) else (bif Nat.blt pc 193 then (bif Nat.blt pc 189 then (bif Nat.blt pc 188 then (bif Nat.beq pc 185 then some (.ifCond .ne 5, 188, 190) else none) else (bif Nat.beq pc 188 then some (.iconst 0, 189, 0) else none)) else (bif Nat.blt pc 190 then (bif Nat.beq pc 189 then some (.ireturn, 190, 0) else none) else (bif Nat.beq pc 190 then some (.iinc 6 1, 193, 0) else none))) else (bif Nat.blt pc 197 then (bif Nat.blt pc 196 then (bif Nat.beq pc 193 then some (.goto (-104), 196, 89) else none) else (bif Nat.beq pc 196 then some (.aload_n 0, 197, 0) else none)) else (bif Nat.blt pc 200 then (bif Nat.beq pc 197 then some (.invokevirtual 31, 200, 0) else none) else (bif Nat.beq pc 200 then some (.ireturn, 201, 0) else none)))))))) else none
/-- nat -/
def t_ins_37 (pc : Nat) : Option (Instr × Nat × Nat) := bif Nat.blt pc 5 then (bif Nat.blt pc 3 then (bif Nat.blt pc 1 then (bif Nat.beq pc 0 then some (.iload_n 0, 1, 0) else none) else (bif Nat.beq pc 1 then some (.ldc 7, 3, 0) else none)) else (bif Nat.blt pc 4 then (bif Nat.beq pc 3 then some (.iand, 4, 0) else none) else (bif Nat.beq pc 4 then some (.ireturn, 5, 0) else none))) else none
/-- pickKind -/
def t_ins_38 (pc : Nat) : Option (Instr × Nat × Nat) := bif Nat.blt pc 25 then (bif Nat.blt pc 11 then (bif Nat.blt pc 3 then (bif Nat.blt pc 1 then (bif Nat.beq pc 0 then some (.iload_n 1, 1, 0) else none) else (bif Nat.blt pc 2 then (bif Nat.beq pc 1 then some (.istore_n 3, 2, 0) else none) else (bif Nat.beq pc 2 then some (.iload_n 3, 3, 0) else none))) else (bif Nat.blt pc 7 then (bif Nat.blt pc 6 then (bif Nat.beq pc 3 then some (.ifCond .lt 20, 6, 23) else none) else (bif Nat.beq pc 6 then some (.aload_n 0, 7, 0) else none)) else (bif Nat.blt pc 8 then (bif Nat.beq pc 7 then some (.iload_n 3, 8, 0) else none) else (bif Nat.beq pc 8 then some (.invokevirtual 8, 11, 0) else none)))) else (bif Nat.blt pc 17 then (bif Nat.blt pc 15 then (bif Nat.blt pc 12 then (bif Nat.beq pc 11 then some (.iload_n 2, 12, 0) else none) else (bif Nat.beq pc 12 then some (.if_icmp .ne 5, 15, 17) else none)) else (bif Nat.blt pc 16 then (bif Nat.beq pc 15 then some (.iload_n 3, 16, 0) else none) else (bif Nat.beq pc 16 then some (.ireturn, 17, 0) else none))) else (bif Nat.blt pc 23 then (bif Nat.blt pc 20 then (bif Nat.beq pc 17 then some (.iinc 3 (-1), 20, 0) else none) else (bif Nat.beq pc 20 then some (.goto (-18), 23, 2) else none)) else (bif Nat.blt pc 24 then (bif Nat.beq pc 23 then some (.iconst (-1), 24, 0) else none) else (bif Nat.beq pc 24 then some (.ireturn, 25, 0) else none))))) else none
/-- pickWantable -/
def t_ins_39 (pc : Nat) : Option (Instr × Nat × Nat) := bif Nat.blt pc 34 then (bif Nat.blt pc 16 then (bif Nat.blt pc 7 then (bif Nat.blt pc 2 then (bif Nat.blt pc 1 then (bif Nat.beq pc 0 then some (.iload_n 1, 1, 0) else none) else (bif Nat.beq pc 1 then some (.istore_n 2, 2, 0) else none)) else (bif Nat.blt pc 3 then (bif Nat.beq pc 2 then some (.iload_n 2, 3, 0) else none) else (bif Nat.blt pc 6 then (bif Nat.beq pc 3 then some (.ifCond .lt 29, 6, 32) else none) else (bif Nat.beq pc 6 then some (.aload_n 0, 7, 0) else none)))) else (bif Nat.blt pc 11 then (bif Nat.blt pc 8 then (bif Nat.beq pc 7 then some (.iload_n 2, 8, 0) else none) else (bif Nat.beq pc 8 then some (.invokevirtual 8, 11, 0) else none)) else (bif Nat.blt pc 12 then (bif Nat.beq pc 11 then some (.iconst 3, 12, 0) else none) else (bif Nat.blt pc 15 then (bif Nat.beq pc 12 then some (.if_icmp .ne 14, 15, 26) else none) else (bif Nat.beq pc 15 then some (.aload_n 0, 16, 0) else none))))) else (bif Nat.blt pc 25 then (bif Nat.blt pc 18 then (bif Nat.blt pc 17 then (bif Nat.beq pc 16 then some (.iconst 1, 17, 0) else none) else (bif Nat.beq pc 17 then some (.iload_n 2, 18, 0) else none)) else (bif Nat.blt pc 21 then (bif Nat.beq pc 18 then some (.invokevirtual 14, 21, 0) else none) else (bif Nat.blt pc 24 then (bif Nat.beq pc 21 then some (.ifCond .eq 5, 24, 26) else none) else (bif Nat.beq pc 24 then some (.iload_n 2, 25, 0) else none)))) else (bif Nat.blt pc 29 then (bif Nat.blt pc 26 then (bif Nat.beq pc 25 then some (.ireturn, 26, 0) else none) else (bif Nat.beq pc 26 then some (.iinc 2 (-1), 29, 0) else none)) else (bif Nat.blt pc 32 then (bif Nat.beq pc 29 then some (.goto (-27), 32, 2) else none) else (bif Nat.blt pc 33 then (bif Nat.beq pc 32 then some (.iload_n 1, 33, 0) else none) else (bif Nat.beq pc 33 then some (.ireturn, 34, 0) else none)))))) else none
/-- reach -/
def t_ins_40 (pc : Nat) : Option (Instr × Nat × Nat) := bif Nat.blt pc 118 then (bif Nat.blt pc 54 then (bif Nat.blt pc 26 then (bif Nat.blt pc 10 then (bif Nat.blt pc 4 then (bif Nat.blt pc 2 then (bif Nat.blt pc 1 then (bif Nat.beq pc 0 then some (.lconst 1, 1, 0) else none) else (bif Nat.beq pc 1 then some (.iload_n 1, 2, 0) else none)) else (bif Nat.blt pc 3 then (bif Nat.beq pc 2 then some (.lshl, 3, 0) else none) else (bif Nat.beq pc 3 then some (.lstore_n 3, 4, 0) else none))) else (bif Nat.blt pc 7 then (bif Nat.blt pc 5 then (bif Nat.beq pc 4 then some (.iconst 1, 5, 0) else none) else (bif Nat.beq pc 5 then some (.istore 5, 7, 0) else none)) else (bif Nat.blt pc 8 then (bif Nat.beq pc 7 then some (.iconst 0, 8, 0) else none) else (bif Nat.beq pc 8 then some (.istore 6, 10, 0) else none)))) else (bif Nat.blt pc 18 then (bif Nat.blt pc 13 then (bif Nat.blt pc 12 then (bif Nat.beq pc 10 then some (.iload 6, 12, 0) else none) else (bif Nat.beq pc 12 then some (.iload_n 2, 13, 0) else none)) else (bif Nat.blt pc 16 then (bif Nat.beq pc 13 then some (.if_icmp .gt 103, 16, 116) else none) else (bif Nat.beq pc 16 then some (.iload 5, 18, 0) else none))) else (bif Nat.blt pc 22 then (bif Nat.blt pc 21 then (bif Nat.beq pc 18 then some (.ifCond .eq 98, 21, 116) else none) else (bif Nat.beq pc 21 then some (.iconst 0, 22, 0) else none)) else (bif Nat.blt pc 24 then (bif Nat.beq pc 22 then some (.istore 5, 24, 0) else none) else (bif Nat.blt pc 25 then (bif Nat.beq pc 24 then some (.iload_n 2, 25, 0) else none) else (bif Nat.beq pc 25 then some (.iconst 1, 26, 0) else none)))))) else (bif Nat.blt pc 39 then (bif Nat.blt pc 34 then (bif Nat.blt pc 29 then (bif Nat.blt pc 27 then (bif Nat.beq pc 26 then some (.isub, 27, 0) else none) else (bif Nat.beq pc 27 then some (.istore 7, 29, 0) else none)) else (bif Nat.blt pc 31 then (bif Nat.beq pc 29 then some (.iload 7, 31, 0) else none) else (bif Nat.beq pc 31 then some (.ifCond .lt 79, 34, 110) else none))) else (bif Nat.blt pc 37 then (bif Nat.blt pc 35 then (bif Nat.beq pc 34 then some (.lload_n 3, 35, 0) else none) else (bif Nat.beq pc 35 then some (.iload 7, 37, 0) else none)) else (bif Nat.blt pc 38 then (bif Nat.beq pc 37 then some (.lushr, 38, 0) else none) else (bif Nat.beq pc 38 then some (.lconst 1, 39, 0) else none)))) else (bif Nat.blt pc 45 then (bif Nat.blt pc 41 then (bif Nat.blt pc 40 then (bif Nat.beq pc 39 then some (.land, 40, 0) else none) else (bif Nat.beq pc 40 then some (.lconst 0, 41, 0) else none)) else (bif Nat.blt pc 42 then (bif Nat.beq pc 41 then some (.lcmp, 42, 0) else none) else (bif Nat.beq pc 42 then some (.ifCond .eq 62, 45, 104) else none))) else (bif Nat.blt pc 48 then (bif Nat.blt pc 46 then (bif Nat.beq pc 45 then some (.iconst 0, 46, 0) else none) else (bif Nat.beq pc 46 then some (.istore 8, 48, 0) else none)) else (bif Nat.blt pc 50 then (bif Nat.beq pc 48 then some (.iload 8, 50, 0) else none) else (bif Nat.blt pc 51 then (bif Nat.beq pc 50 then some (.iconst 3, 51, 0) else none) else (bif Nat.beq pc 51 then some (.if_icmp .ge 53, 54, 104) else none))))))) else (bif Nat.blt pc 85 then (bif Nat.blt pc 71 then (bif Nat.blt pc 62 then (bif Nat.blt pc 57 then (bif Nat.blt pc 55 then (bif Nat.beq pc 54 then some (.aload_n 0, 55, 0) else none) else (bif Nat.beq pc 55 then some (.iload 7, 57, 0) else none)) else (bif Nat.blt pc 59 then (bif Nat.beq pc 57 then some (.iload 8, 59, 0) else none) else (bif Nat.beq pc 59 then some (.invokevirtual 18, 62, 0) else none))) else (bif Nat.blt pc 66 then (bif Nat.blt pc 64 then (bif Nat.beq pc 62 then some (.istore 9, 64, 0) else none) else (bif Nat.beq pc 64 then some (.iload 9, 66, 0) else none)) else (bif Nat.blt pc 69 then (bif Nat.beq pc 66 then some (.ifCond .lt 32, 69, 98) else none) else (bif Nat.beq pc 69 then some (.iload 9, 71, 0) else none)))) else (bif Nat.blt pc 78 then (bif Nat.blt pc 75 then (bif Nat.blt pc 72 then (bif Nat.beq pc 71 then some (.iload_n 2, 72, 0) else none) else (bif Nat.beq pc 72 then some (.if_icmp .ge 26, 75, 98) else none)) else (bif Nat.blt pc 76 then (bif Nat.beq pc 75 then some (.lconst 1, 76, 0) else none) else (bif Nat.beq pc 76 then some (.iload 9, 78, 0) else none))) else (bif Nat.blt pc 81 then (bif Nat.blt pc 79 then (bif Nat.beq pc 78 then some (.lshl, 79, 0) else none) else (bif Nat.beq pc 79 then some (.lstore 10, 81, 0) else none)) else (bif Nat.blt pc 82 then (bif Nat.beq pc 81 then some (.lload_n 3, 82, 0) else none) else (bif Nat.blt pc 84 then (bif Nat.beq pc 82 then some (.lload 10, 84, 0) else none) else (bif Nat.beq pc 84 then some (.land, 85, 0) else none)))))) else (bif Nat.blt pc 96 then (bif Nat.blt pc 91 then (bif Nat.blt pc 87 then (bif Nat.blt pc 86 then (bif Nat.beq pc 85 then some (.lconst 0, 86, 0) else none) else (bif Nat.beq pc 86 then some (.lcmp, 87, 0) else none)) else (bif Nat.blt pc 90 then (bif Nat.beq pc 87 then some (.ifCond .ne 11, 90, 98) else none) else (bif Nat.beq pc 90 then some (.lload_n 3, 91, 0) else none))) else (bif Nat.blt pc 94 then (bif Nat.blt pc 93 then (bif Nat.beq pc 91 then some (.lload 10, 93, 0) else none) else (bif Nat.beq pc 93 then some (.lor, 94, 0) else none)) else (bif Nat.blt pc 95 then (bif Nat.beq pc 94 then some (.lstore_n 3, 95, 0) else none) else (bif Nat.beq pc 95 then some (.iconst 1, 96, 0) else none)))) else (bif Nat.blt pc 107 then (bif Nat.blt pc 101 then (bif Nat.blt pc 98 then (bif Nat.beq pc 96 then some (.istore 5, 98, 0) else none) else (bif Nat.beq pc 98 then some (.iinc 8 1, 101, 0) else none)) else (bif Nat.blt pc 104 then (bif Nat.beq pc 101 then some (.goto (-53), 104, 48) else none) else (bif Nat.beq pc 104 then some (.iinc 7 (-1), 107, 0) else none))) else (bif Nat.blt pc 113 then (bif Nat.blt pc 110 then (bif Nat.beq pc 107 then some (.goto (-78), 110, 29) else none) else (bif Nat.beq pc 110 then some (.iinc 6 1, 113, 0) else none)) else (bif Nat.blt pc 116 then (bif Nat.beq pc 113 then some (.goto (-103), 116, 10) else none) else (bif Nat.blt pc 117 then (bif Nat.beq pc 116 then some (.lload_n 3, 117, 0) else none) else (bif Nat.beq pc 117 then some (.lreturn, 118, 0) else none)))))))) else none
def t_ins : Nat → Nat → Option (Instr × Nat × Nat)
  | 0 => t_ins_0
  | 1 => t_ins_1
  | 2 => t_ins_2
  | 3 => t_ins_3
  | 4 => t_ins_4
  | 5 => t_ins_5
  | 6 => t_ins_6
  | 7 => t_ins_7
  | 8 => t_ins_8
  | 9 => t_ins_9
  | 10 => t_ins_10
  | 11 => t_ins_11
  | 12 => t_ins_12
  | 13 => t_ins_13
  | 14 => t_ins_14
  | 15 => t_ins_15
  | 16 => t_ins_16
  | 17 => t_ins_17
  | 18 => t_ins_18
  | 19 => t_ins_19
  | 20 => t_ins_20
  | 21 => t_ins_21
  | 22 => t_ins_22
  | 23 => t_ins_23
  | 24 => t_ins_24
  | 25 => t_ins_25
  | 26 => t_ins_26
  | 27 => t_ins_27
  | 28 => t_ins_28
  | 29 => t_ins_29
  | 30 => t_ins_30
  | 31 => t_ins_31
  | 32 => t_ins_32
  | 33 => t_ins_33
  | 34 => t_ins_34
  | 35 => t_ins_35
  | 36 => t_ins_36
  | 37 => t_ins_37
  | 38 => t_ins_38
  | 39 => t_ins_39
  | 40 => t_ins_40
  | _ => fun _ => none
/-- an instruction's length -/
def pmIL : Instr → Nat
  | .bipush _ | .iload _ | .lload _ | .aload _ | .istore _ | .lstore _ | .astore _ | .ldc _ | .newarray _ => 2
  | .sipush _ | .ldc2_w _ | .iinc _ _ | .goto _ | .ifCond _ _ | .if_icmp _ _ | .getfield _ | .putfield _ | .new _ | .invokestatic _ | .invokevirtual _ | .invokespecial _ => 3
  | _ => 1
def pmOkI (pc np tg : Nat) : Instr → Bool
  | .bipush c => decide ((Int8.ofInt c).toInt32 = Int32.ofInt c) && decide (np = pc + 2)
  | .sipush c => decide ((Int16.ofInt c).toInt32 = Int32.ofInt c) && decide (np = pc + 3)
  | .goto o | .ifCond _ o | .if_icmp _ o => decide (0 ≤ (pc : Int) + o ∧ tg = ((pc : Int) + o).toNat) && decide (np = pc + 3)
  | i => decide (np = pc + pmIL i)
def pmChk (f : Nat → Option (Instr × Nat × Nat)) (b : ByteArray) (n : Nat) : Bool := (List.range n).all fun pc => match f pc with
  | none => true
  | some (i, np, tg) => decide (decode b pc = .ok (i, pmIL i)) && pmOkI pc np tg i
theorem pmChk_out {f : Nat → Option (Instr × Nat × Nat)} {b : ByteArray} {n : Nat} (h : pmChk f b n = true) (hn : ∀ pc, ¬ pc < n → f pc = none) {pc np tg : Nat} {i : Instr} (e : f pc = some (i, np, tg)) : decode b pc = .ok (i, pmIL i) ∧ pmOkI pc np tg i = true := by
  by_cases hp : pc < n
  · have q := List.all_eq_true.mp h pc (List.mem_range.mpr hp)
    rw [e] at q
    simpa using q
  · rw [hn pc hp] at e; cases e
theorem pmBlt {α : Type} {pc n : Nat} {a : Option α} (h : ¬ pc < n) : (bif Nat.blt pc n then a else none) = none := by
  have : Nat.blt pc n = false := by
    cases e : Nat.blt pc n with
    | false => rfl
    | true => exact absurd (Nat.le_of_ble_eq_true e) h
  rw [this]; rfl
theorem chk_0 : pmChk t_ins_0 code 516 = true := by decide +kernel
theorem chk_1 : pmChk t_ins_1 prog_1_method_1_code 140 = true := by decide +kernel
theorem chk_2 : pmChk t_ins_2 prog_1_method_2_code 23 = true := by decide +kernel
theorem chk_3 : pmChk t_ins_3 prog_1_method_3_code 73 = true := by decide +kernel
theorem chk_4 : pmChk t_ins_4 prog_1_method_4_code 79 = true := by decide +kernel
theorem chk_5 : pmChk t_ins_5 prog_1_method_5_code 106 = true := by decide +kernel
theorem chk_6 : pmChk t_ins_6 prog_1_method_6_code 58 = true := by decide +kernel
theorem chk_7 : pmChk t_ins_7 prog_1_method_7_code 84 = true := by decide +kernel
theorem chk_8 : pmChk t_ins_8 prog_1_method_8_code 137 = true := by decide +kernel
theorem chk_9 : pmChk t_ins_9 prog_1_method_9_code 49 = true := by decide +kernel
theorem chk_10 : pmChk t_ins_10 prog_1_method_10_code 5 = true := by decide +kernel
theorem chk_11 : pmChk t_ins_11 prog_1_method_11_code 17 = true := by decide +kernel
theorem chk_12 : pmChk t_ins_12 prog_1_method_12_code 30 = true := by decide +kernel
theorem chk_13 : pmChk t_ins_13 prog_1_method_13_code 31 = true := by decide +kernel
theorem chk_14 : pmChk t_ins_14 prog_1_method_14_code 21 = true := by decide +kernel
theorem chk_15 : pmChk t_ins_15 prog_1_method_17_code 5 = true := by decide +kernel
theorem chk_16 : pmChk t_ins_16 prog_1_method_18_code 16 = true := by decide +kernel
theorem chk_17 : pmChk t_ins_17 prog_1_method_19_code 24 = true := by decide +kernel
theorem chk_18 : pmChk t_ins_18 prog_1_method_20_code 8 = true := by decide +kernel
theorem chk_19 : pmChk t_ins_19 prog_1_method_21_code 30 = true := by decide +kernel
theorem chk_20 : pmChk t_ins_20 prog_1_method_22_code 30 = true := by decide +kernel
theorem chk_21 : pmChk t_ins_21 prog_1_method_23_code 111 = true := by decide +kernel
theorem chk_22 : pmChk t_ins_22 prog_1_method_24_code 17 = true := by decide +kernel
theorem chk_23 : pmChk t_ins_23 prog_1_method_25_code 16 = true := by decide +kernel
theorem chk_24 : pmChk t_ins_24 prog_1_method_26_code 18 = true := by decide +kernel
theorem chk_25 : pmChk t_ins_25 prog_1_method_27_code 22 = true := by decide +kernel
theorem chk_26 : pmChk t_ins_26 prog_1_method_28_code 82 = true := by decide +kernel
theorem chk_27 : pmChk t_ins_27 prog_1_method_29_code 41 = true := by decide +kernel
theorem chk_28 : pmChk t_ins_28 prog_1_method_30_code 44 = true := by decide +kernel
theorem chk_29 : pmChk t_ins_29 prog_1_method_31_code 35 = true := by decide +kernel
theorem chk_30 : pmChk t_ins_30 prog_1_method_32_code 44 = true := by decide +kernel
theorem chk_31 : pmChk t_ins_31 prog_1_method_33_code 55 = true := by decide +kernel
theorem chk_32 : pmChk t_ins_32 prog_1_method_34_code 62 = true := by decide +kernel
theorem chk_33 : pmChk t_ins_33 prog_1_method_35_code 72 = true := by decide +kernel
theorem chk_34 : pmChk t_ins_34 prog_1_method_36_code 58 = true := by decide +kernel
theorem chk_35 : pmChk t_ins_35 method_2_code 14 = true := by decide +kernel
theorem chk_36 : pmChk t_ins_36 method_7_code 201 = true := by decide +kernel
theorem chk_37 : pmChk t_ins_37 method_3_code 5 = true := by decide +kernel
theorem chk_38 : pmChk t_ins_38 method_4_code 25 = true := by decide +kernel
theorem chk_39 : pmChk t_ins_39 method_5_code 34 = true := by decide +kernel
theorem chk_40 : pmChk t_ins_40 method_6_code 118 = true := by decide +kernel
theorem f_ins {k pc np tg : Nat} {i : Instr} (h : t_ins k pc = some (i, np, tg)) : decode (t_bytes k) pc = .ok (i, pmIL i) ∧ pmOkI pc np tg i = true := by
  match k, h with
  | 0, h => exact pmChk_out chk_0 (fun _ q => pmBlt q) h
  | 1, h => exact pmChk_out chk_1 (fun _ q => pmBlt q) h
  | 2, h => exact pmChk_out chk_2 (fun _ q => pmBlt q) h
  | 3, h => exact pmChk_out chk_3 (fun _ q => pmBlt q) h
  | 4, h => exact pmChk_out chk_4 (fun _ q => pmBlt q) h
  | 5, h => exact pmChk_out chk_5 (fun _ q => pmBlt q) h
  | 6, h => exact pmChk_out chk_6 (fun _ q => pmBlt q) h
  | 7, h => exact pmChk_out chk_7 (fun _ q => pmBlt q) h
  | 8, h => exact pmChk_out chk_8 (fun _ q => pmBlt q) h
  | 9, h => exact pmChk_out chk_9 (fun _ q => pmBlt q) h
  | 10, h => exact pmChk_out chk_10 (fun _ q => pmBlt q) h
  | 11, h => exact pmChk_out chk_11 (fun _ q => pmBlt q) h
  | 12, h => exact pmChk_out chk_12 (fun _ q => pmBlt q) h
  | 13, h => exact pmChk_out chk_13 (fun _ q => pmBlt q) h
  | 14, h => exact pmChk_out chk_14 (fun _ q => pmBlt q) h
  | 15, h => exact pmChk_out chk_15 (fun _ q => pmBlt q) h
  | 16, h => exact pmChk_out chk_16 (fun _ q => pmBlt q) h
  | 17, h => exact pmChk_out chk_17 (fun _ q => pmBlt q) h
  | 18, h => exact pmChk_out chk_18 (fun _ q => pmBlt q) h
  | 19, h => exact pmChk_out chk_19 (fun _ q => pmBlt q) h
  | 20, h => exact pmChk_out chk_20 (fun _ q => pmBlt q) h
  | 21, h => exact pmChk_out chk_21 (fun _ q => pmBlt q) h
  | 22, h => exact pmChk_out chk_22 (fun _ q => pmBlt q) h
  | 23, h => exact pmChk_out chk_23 (fun _ q => pmBlt q) h
  | 24, h => exact pmChk_out chk_24 (fun _ q => pmBlt q) h
  | 25, h => exact pmChk_out chk_25 (fun _ q => pmBlt q) h
  | 26, h => exact pmChk_out chk_26 (fun _ q => pmBlt q) h
  | 27, h => exact pmChk_out chk_27 (fun _ q => pmBlt q) h
  | 28, h => exact pmChk_out chk_28 (fun _ q => pmBlt q) h
  | 29, h => exact pmChk_out chk_29 (fun _ q => pmBlt q) h
  | 30, h => exact pmChk_out chk_30 (fun _ q => pmBlt q) h
  | 31, h => exact pmChk_out chk_31 (fun _ q => pmBlt q) h
  | 32, h => exact pmChk_out chk_32 (fun _ q => pmBlt q) h
  | 33, h => exact pmChk_out chk_33 (fun _ q => pmBlt q) h
  | 34, h => exact pmChk_out chk_34 (fun _ q => pmBlt q) h
  | 35, h => exact pmChk_out chk_35 (fun _ q => pmBlt q) h
  | 36, h => exact pmChk_out chk_36 (fun _ q => pmBlt q) h
  | 37, h => exact pmChk_out chk_37 (fun _ q => pmBlt q) h
  | 38, h => exact pmChk_out chk_38 (fun _ q => pmBlt q) h
  | 39, h => exact pmChk_out chk_39 (fun _ q => pmBlt q) h
  | 40, h => exact pmChk_out chk_40 (fun _ q => pmBlt q) h
  | _ + 41, h => have h2 : (none : Option (Instr × Nat × Nat)) = some _ := h; cases h2
theorem f_fls : ∀ q ∈ t_fls, ∃ n d ty, t_flds[q.2]? = some (n, d, ty) ∧ (Jvm.Cond.fieldLink t_C q.1 t_C n d) ∈ tables_1 := by
  unfold t_fls
  refine List.forall_mem_cons.mpr ⟨⟨_, _, _, rfl, (List.mem_of_getElem? (i := 18) rfl)⟩, ?_⟩
  refine List.forall_mem_cons.mpr ⟨⟨_, _, _, rfl, (List.mem_of_getElem? (i := 21) rfl)⟩, ?_⟩
  refine List.forall_mem_cons.mpr ⟨⟨_, _, _, rfl, (List.mem_of_getElem? (i := 23) rfl)⟩, ?_⟩
  refine List.forall_mem_cons.mpr ⟨⟨_, _, _, rfl, (List.mem_of_getElem? (i := 26) rfl)⟩, ?_⟩
  refine List.forall_mem_cons.mpr ⟨⟨_, _, _, rfl, (List.mem_of_getElem? (i := 28) rfl)⟩, ?_⟩
  refine List.forall_mem_cons.mpr ⟨⟨_, _, _, rfl, (List.mem_of_getElem? (i := 30) rfl)⟩, ?_⟩
  refine List.forall_mem_cons.mpr ⟨⟨_, _, _, rfl, (List.mem_of_getElem? (i := 32) rfl)⟩, ?_⟩
  refine List.forall_mem_cons.mpr ⟨⟨_, _, _, rfl, (List.mem_of_getElem? (i := 34) rfl)⟩, ?_⟩
  refine List.forall_mem_cons.mpr ⟨⟨_, _, _, rfl, (List.mem_of_getElem? (i := 36) rfl)⟩, ?_⟩
  refine List.forall_mem_cons.mpr ⟨⟨_, _, _, rfl, (List.mem_of_getElem? (i := 42) rfl)⟩, ?_⟩
  refine List.forall_mem_cons.mpr ⟨⟨_, _, _, rfl, (List.mem_of_getElem? (i := 44) rfl)⟩, ?_⟩
  refine List.forall_mem_cons.mpr ⟨⟨_, _, _, rfl, (List.mem_of_getElem? (i := 46) rfl)⟩, ?_⟩
  refine List.forall_mem_cons.mpr ⟨⟨_, _, _, rfl, (List.mem_of_getElem? (i := 48) rfl)⟩, ?_⟩
  refine List.forall_mem_cons.mpr ⟨⟨_, _, _, rfl, (List.mem_of_getElem? (i := 50) rfl)⟩, ?_⟩
  refine List.forall_mem_cons.mpr ⟨⟨_, _, _, rfl, (List.mem_of_getElem? (i := 52) rfl)⟩, ?_⟩
  refine List.forall_mem_cons.mpr ⟨⟨_, _, _, rfl, (List.mem_of_getElem? (i := 54) rfl)⟩, ?_⟩
  refine List.forall_mem_cons.mpr ⟨⟨_, _, _, rfl, (List.mem_of_getElem? (i := 56) rfl)⟩, ?_⟩
  exact fun _ h => nomatch h
theorem f_lays : ∀ q ∈ t_flds, (Jvm.Cond.lays t_C t_C q.1 q.2.1) ∈ tables_1 ∧ parseFieldDescriptor q.2.1 = some q.2.2 := by
  unfold t_flds
  refine List.forall_mem_cons.mpr ⟨⟨(List.mem_of_getElem? (i := 43) rfl), by decide +kernel⟩, ?_⟩
  refine List.forall_mem_cons.mpr ⟨⟨(List.mem_of_getElem? (i := 45) rfl), by decide +kernel⟩, ?_⟩
  refine List.forall_mem_cons.mpr ⟨⟨(List.mem_of_getElem? (i := 47) rfl), by decide +kernel⟩, ?_⟩
  refine List.forall_mem_cons.mpr ⟨⟨(List.mem_of_getElem? (i := 49) rfl), by decide +kernel⟩, ?_⟩
  refine List.forall_mem_cons.mpr ⟨⟨(List.mem_of_getElem? (i := 51) rfl), by decide +kernel⟩, ?_⟩
  refine List.forall_mem_cons.mpr ⟨⟨(List.mem_of_getElem? (i := 53) rfl), by decide +kernel⟩, ?_⟩
  refine List.forall_mem_cons.mpr ⟨⟨(List.mem_of_getElem? (i := 55) rfl), by decide +kernel⟩, ?_⟩
  refine List.forall_mem_cons.mpr ⟨⟨(List.mem_of_getElem? (i := 57) rfl), by decide +kernel⟩, ?_⟩
  refine List.forall_mem_cons.mpr ⟨⟨(List.mem_of_getElem? (i := 19) rfl), by decide +kernel⟩, ?_⟩
  refine List.forall_mem_cons.mpr ⟨⟨(List.mem_of_getElem? (i := 22) rfl), by decide +kernel⟩, ?_⟩
  refine List.forall_mem_cons.mpr ⟨⟨(List.mem_of_getElem? (i := 24) rfl), by decide +kernel⟩, ?_⟩
  refine List.forall_mem_cons.mpr ⟨⟨(List.mem_of_getElem? (i := 27) rfl), by decide +kernel⟩, ?_⟩
  refine List.forall_mem_cons.mpr ⟨⟨(List.mem_of_getElem? (i := 29) rfl), by decide +kernel⟩, ?_⟩
  refine List.forall_mem_cons.mpr ⟨⟨(List.mem_of_getElem? (i := 31) rfl), by decide +kernel⟩, ?_⟩
  refine List.forall_mem_cons.mpr ⟨⟨(List.mem_of_getElem? (i := 33) rfl), by decide +kernel⟩, ?_⟩
  refine List.forall_mem_cons.mpr ⟨⟨(List.mem_of_getElem? (i := 35) rfl), by decide +kernel⟩, ?_⟩
  refine List.forall_mem_cons.mpr ⟨⟨(List.mem_of_getElem? (i := 37) rfl), by decide +kernel⟩, ?_⟩
  exact fun _ h => nomatch h
theorem f_arrs : ∀ q ∈ t_arrs, (Jvm.Cond.arrayClass q.1) ∈ tables_1 ∧ (q.1 = .int ∨ q.1 = .byte ∨ q.1 = .boolean) ∧ q.2 < 4096 := by
  unfold t_arrs
  refine List.forall_mem_cons.mpr ⟨⟨(List.mem_of_getElem? (i := 17) rfl), by decide, by decide⟩, ?_⟩
  refine List.forall_mem_cons.mpr ⟨⟨(List.mem_of_getElem? (i := 20) rfl), by decide, by decide⟩, ?_⟩
  refine List.forall_mem_cons.mpr ⟨⟨(List.mem_of_getElem? (i := 20) rfl), by decide, by decide⟩, ?_⟩
  refine List.forall_mem_cons.mpr ⟨⟨(List.mem_of_getElem? (i := 25) rfl), by decide, by decide⟩, ?_⟩
  refine List.forall_mem_cons.mpr ⟨⟨(List.mem_of_getElem? (i := 17) rfl), by decide, by decide⟩, ?_⟩
  refine List.forall_mem_cons.mpr ⟨⟨(List.mem_of_getElem? (i := 20) rfl), by decide, by decide⟩, ?_⟩
  refine List.forall_mem_cons.mpr ⟨⟨(List.mem_of_getElem? (i := 25) rfl), by decide, by decide⟩, ?_⟩
  refine List.forall_mem_cons.mpr ⟨⟨(List.mem_of_getElem? (i := 20) rfl), by decide, by decide⟩, ?_⟩
  refine List.forall_mem_cons.mpr ⟨⟨(List.mem_of_getElem? (i := 25) rfl), by decide, by decide⟩, ?_⟩
  exact fun _ h => nomatch h
theorem f_inst : (Jvm.Cond.instantiable t_C t_ns) ∈ tables_1 := (List.mem_of_getElem? (i := 9) rfl)
theorem f_init : (Jvm.Cond.initialized t_C) ∈ tables_1 := (List.mem_of_getElem? (i := 10) rfl)
theorem f_new {k j : Nat} (h : t_new k j = true) : (Jvm.Cond.classLink (t_nm k).cls j t_C) ∈ tables_1 := by
  simp only [t_new, Bool.and_eq_true] at h
  rw [Nat.eq_of_beq_eq_true h.1, Nat.eq_of_beq_eq_true h.2]; exact (List.mem_of_getElem? (i := 8) rfl)
def pmWords (own : String) (j kd k' : Nat) : Prop :=
  match kd with
  | 4 => (Jvm.Cond.methodLink own j Lib.objectInit) ∈ tables_1 ∧ (Jvm.Cond.instanceMethod Lib.objectInit) ∈ tables_1 ∧ (Jvm.Cond.code Lib.objectInit ⟨#[0xb1]⟩ 1 none) ∈ tables_1
  | kd => (Jvm.Cond.methodLink own j (t_nm k')) ∈ tables_1 ∧ (Jvm.Cond.code (t_nm k') (t_bytes k') (t_ml k') (t_rt k')) ∈ tables_1 ∧ (Jvm.Cond.initialized (t_nm k').cls) ∈ tables_1 ∧ plainName (t_nm k').cls = true ∧
    ((t_nm k').cls ≠ "java/lang/invoke/MethodHandle" ∧ (t_nm k').cls ≠ "java/lang/invoke/VarHandle") ∧ (∃ ps r, parseMethodDescriptor (t_nm k').desc = some ⟨ps, r⟩ ∧ (match kd with | 0 => 0 | _ => 1) + ps.length = t_np k') ∧
    match kd with
    | 0 => (Jvm.Cond.static (t_nm k')) ∈ tables_1
    | 1 => (Jvm.Cond.declares (t_nm k')) ∈ tables_1 ∧ (Jvm.Cond.selects t_C (t_nm k') (t_nm k')) ∈ tables_1 ∧ (Jvm.Cond.instanceMethod (t_nm k')) ∈ tables_1
    | 2 => (Jvm.Cond.instanceMethod (t_nm k')) ∈ tables_1 ∧ (Jvm.Cond.privateMethod (t_nm k')) ∈ tables_1 ∧ (t_nm k').cls = t_C
    | 3 => (Jvm.Cond.instanceMethod (t_nm k')) ∈ tables_1 ∧ (t_nm k').name = "<init>" ∧ t_rt k' = none
    | _ => False
theorem pn_C : plainName "FetchNegotiator" = true := by first | (simp [plainName, overriddenIn]; done) | decide +kernel
theorem pn_L : plainName "FetchNegotiatorOwnLaw" = true := by first | (simp [plainName, overriddenIn]; done) | decide +kernel
theorem pd_0 : parseMethodDescriptor "()I" = some ⟨[], some .int⟩ := by decide +kernel
theorem pd_1 : parseMethodDescriptor "()V" = some ⟨[], none⟩ := by decide +kernel
theorem pd_2 : parseMethodDescriptor "()Z" = some ⟨[], some .boolean⟩ := by decide +kernel
theorem pd_3 : parseMethodDescriptor "(I)I" = some ⟨[.int], some .int⟩ := by decide +kernel
theorem pd_4 : parseMethodDescriptor "(I)V" = some ⟨[.int], none⟩ := by decide +kernel
theorem pd_5 : parseMethodDescriptor "(I)Z" = some ⟨[.int], some .boolean⟩ := by decide +kernel
theorem pd_6 : parseMethodDescriptor "(II)I" = some ⟨[.int, .int], some .int⟩ := by decide +kernel
theorem pd_7 : parseMethodDescriptor "(II)V" = some ⟨[.int, .int], none⟩ := by decide +kernel
theorem pd_8 : parseMethodDescriptor "(II)Z" = some ⟨[.int, .int], some .boolean⟩ := by decide +kernel
theorem pd_9 : parseMethodDescriptor "(III)I" = some ⟨[.int, .int, .int], some .int⟩ := by decide +kernel
theorem pd_10 : parseMethodDescriptor "(III)V" = some ⟨[.int, .int, .int], none⟩ := by decide +kernel
theorem pd_11 : parseMethodDescriptor "(IIII)I" = some ⟨[.int, .int, .int, .int], some .int⟩ := by decide +kernel
theorem pd_12 : parseMethodDescriptor "(IIIII)I" = some ⟨[.int, .int, .int, .int, .int], some .int⟩ := by decide +kernel
theorem pd_13 : parseMethodDescriptor "(LFetchNegotiator;I)I" = some ⟨[(.object "FetchNegotiator"), .int], some .int⟩ := by decide +kernel
theorem pd_14 : parseMethodDescriptor "(LFetchNegotiator;I)Z" = some ⟨[(.object "FetchNegotiator"), .int], some .boolean⟩ := by decide +kernel
theorem pd_15 : parseMethodDescriptor "(LFetchNegotiator;II)I" = some ⟨[(.object "FetchNegotiator"), .int, .int], some .int⟩ := by decide +kernel
theorem pd_16 : parseMethodDescriptor "(LFetchNegotiator;II)J" = some ⟨[(.object "FetchNegotiator"), .int, .int], some .long⟩ := by decide +kernel
theorem pd_17 : parseMethodDescriptor "([II)I" = some ⟨[(.array .int), .int], some .int⟩ := by decide +kernel
theorem f_mkC : ∀ q ∈ t_mkC, pmWords "FetchNegotiator" q.1 q.2.1 q.2.2 := by
  unfold t_mkC
  refine List.forall_mem_cons.mpr ⟨⟨(List.mem_of_getElem? (i := 14) rfl), (List.mem_of_getElem? (i := 15) rfl), (List.mem_of_getElem? (i := 16) rfl)⟩, ?_⟩
  refine List.forall_mem_cons.mpr ⟨⟨(List.mem_of_getElem? (i := 38) rfl), (List.mem_of_getElem? (i := 41) rfl), (List.mem_of_getElem? (i := 10) rfl), pn_C, by decide, ⟨_, _, pd_9, rfl⟩, (List.mem_of_getElem? (i := 39) rfl), (List.mem_of_getElem? (i := 40) rfl), rfl⟩, ?_⟩
  refine List.forall_mem_cons.mpr ⟨⟨(List.mem_of_getElem? (i := 63) rfl), (List.mem_of_getElem? (i := 66) rfl), (List.mem_of_getElem? (i := 10) rfl), pn_C, by decide, ⟨_, _, pd_12, rfl⟩, (List.mem_of_getElem? (i := 64) rfl), (List.mem_of_getElem? (i := 65) rfl), rfl⟩, ?_⟩
  refine List.forall_mem_cons.mpr ⟨⟨(List.mem_of_getElem? (i := 80) rfl), (List.mem_of_getElem? (i := 83) rfl), (List.mem_of_getElem? (i := 10) rfl), pn_C, by decide, ⟨_, _, pd_5, rfl⟩, (List.mem_of_getElem? (i := 81) rfl), (List.mem_of_getElem? (i := 82) rfl), rfl⟩, ?_⟩
  refine List.forall_mem_cons.mpr ⟨⟨(List.mem_of_getElem? (i := 89) rfl), (List.mem_of_getElem? (i := 92) rfl), (List.mem_of_getElem? (i := 10) rfl), pn_C, by decide, ⟨_, _, pd_5, rfl⟩, (List.mem_of_getElem? (i := 90) rfl), (List.mem_of_getElem? (i := 91) rfl), rfl⟩, ?_⟩
  refine List.forall_mem_cons.mpr ⟨⟨(List.mem_of_getElem? (i := 93) rfl), (List.mem_of_getElem? (i := 96) rfl), (List.mem_of_getElem? (i := 10) rfl), pn_C, by decide, ⟨_, _, pd_3, rfl⟩, (List.mem_of_getElem? (i := 94) rfl), (List.mem_of_getElem? (i := 95) rfl), rfl⟩, ?_⟩
  refine List.forall_mem_cons.mpr ⟨⟨(List.mem_of_getElem? (i := 102) rfl), (List.mem_of_getElem? (i := 105) rfl), (List.mem_of_getElem? (i := 10) rfl), pn_C, by decide, ⟨_, _, pd_2, rfl⟩, (List.mem_of_getElem? (i := 103) rfl), (List.mem_of_getElem? (i := 104) rfl), rfl⟩, ?_⟩
  refine List.forall_mem_cons.mpr ⟨⟨(List.mem_of_getElem? (i := 106) rfl), (List.mem_of_getElem? (i := 109) rfl), (List.mem_of_getElem? (i := 10) rfl), pn_C, by decide, ⟨_, _, pd_8, rfl⟩, (List.mem_of_getElem? (i := 107) rfl), (List.mem_of_getElem? (i := 108) rfl), rfl⟩, ?_⟩
  refine List.forall_mem_cons.mpr ⟨⟨(List.mem_of_getElem? (i := 115) rfl), (List.mem_of_getElem? (i := 118) rfl), (List.mem_of_getElem? (i := 10) rfl), pn_C, by decide, ⟨_, _, pd_5, rfl⟩, (List.mem_of_getElem? (i := 116) rfl), (List.mem_of_getElem? (i := 117) rfl), rfl⟩, ?_⟩
  refine List.forall_mem_cons.mpr ⟨⟨(List.mem_of_getElem? (i := 124) rfl), (List.mem_of_getElem? (i := 127) rfl), (List.mem_of_getElem? (i := 10) rfl), pn_C, by decide, ⟨_, _, pd_1, rfl⟩, (List.mem_of_getElem? (i := 125) rfl), (List.mem_of_getElem? (i := 126) rfl), rfl⟩, ?_⟩
  refine List.forall_mem_cons.mpr ⟨⟨(List.mem_of_getElem? (i := 128) rfl), (List.mem_of_getElem? (i := 131) rfl), (List.mem_of_getElem? (i := 10) rfl), pn_C, by decide, ⟨_, _, pd_4, rfl⟩, (List.mem_of_getElem? (i := 129) rfl), (List.mem_of_getElem? (i := 130) rfl), rfl⟩, ?_⟩
  refine List.forall_mem_cons.mpr ⟨⟨(List.mem_of_getElem? (i := 155) rfl), (List.mem_of_getElem? (i := 158) rfl), (List.mem_of_getElem? (i := 10) rfl), pn_C, by decide, ⟨_, _, pd_7, rfl⟩, (List.mem_of_getElem? (i := 156) rfl), (List.mem_of_getElem? (i := 157) rfl), rfl⟩, ?_⟩
  refine List.forall_mem_cons.mpr ⟨⟨(List.mem_of_getElem? (i := 159) rfl), (List.mem_of_getElem? (i := 162) rfl), (List.mem_of_getElem? (i := 10) rfl), pn_C, by decide, ⟨_, _, pd_1, rfl⟩, (List.mem_of_getElem? (i := 160) rfl), (List.mem_of_getElem? (i := 161) rfl), rfl⟩, ?_⟩
  refine List.forall_mem_cons.mpr ⟨⟨(List.mem_of_getElem? (i := 163) rfl), (List.mem_of_getElem? (i := 166) rfl), (List.mem_of_getElem? (i := 10) rfl), pn_C, by decide, ⟨_, _, pd_0, rfl⟩, (List.mem_of_getElem? (i := 164) rfl), (List.mem_of_getElem? (i := 165) rfl), rfl⟩, ?_⟩
  refine List.forall_mem_cons.mpr ⟨⟨(List.mem_of_getElem? (i := 167) rfl), (List.mem_of_getElem? (i := 170) rfl), (List.mem_of_getElem? (i := 10) rfl), pn_C, by decide, ⟨_, _, pd_5, rfl⟩, (List.mem_of_getElem? (i := 168) rfl), (List.mem_of_getElem? (i := 169) rfl), rfl⟩, ?_⟩
  refine List.forall_mem_cons.mpr ⟨⟨(List.mem_of_getElem? (i := 171) rfl), (List.mem_of_getElem? (i := 174) rfl), (List.mem_of_getElem? (i := 10) rfl), pn_C, by decide, ⟨_, _, pd_3, rfl⟩, (List.mem_of_getElem? (i := 172) rfl), (List.mem_of_getElem? (i := 173) rfl), rfl⟩, ?_⟩
  refine List.forall_mem_cons.mpr ⟨⟨(List.mem_of_getElem? (i := 175) rfl), (List.mem_of_getElem? (i := 178) rfl), (List.mem_of_getElem? (i := 10) rfl), pn_C, by decide, ⟨_, _, pd_4, rfl⟩, (List.mem_of_getElem? (i := 176) rfl), (List.mem_of_getElem? (i := 177) rfl), rfl⟩, ?_⟩
  refine List.forall_mem_cons.mpr ⟨⟨(List.mem_of_getElem? (i := 179) rfl), (List.mem_of_getElem? (i := 182) rfl), (List.mem_of_getElem? (i := 10) rfl), pn_C, by decide, ⟨_, _, pd_7, rfl⟩, (List.mem_of_getElem? (i := 180) rfl), (List.mem_of_getElem? (i := 181) rfl), rfl⟩, ?_⟩
  refine List.forall_mem_cons.mpr ⟨⟨(List.mem_of_getElem? (i := 183) rfl), (List.mem_of_getElem? (i := 186) rfl), (List.mem_of_getElem? (i := 10) rfl), pn_C, by decide, ⟨_, _, pd_2, rfl⟩, (List.mem_of_getElem? (i := 184) rfl), (List.mem_of_getElem? (i := 185) rfl), rfl⟩, ?_⟩
  refine List.forall_mem_cons.mpr ⟨⟨(List.mem_of_getElem? (i := 208) rfl), (List.mem_of_getElem? (i := 211) rfl), (List.mem_of_getElem? (i := 10) rfl), pn_C, by decide, ⟨_, _, pd_4, rfl⟩, (List.mem_of_getElem? (i := 209) rfl), (List.mem_of_getElem? (i := 210) rfl), rfl⟩, ?_⟩
  exact fun _ h => nomatch h
theorem f_mkL : ∀ q ∈ t_mkL, pmWords "FetchNegotiatorOwnLaw" q.1 q.2.1 q.2.2 := by
  unfold t_mkL
  refine List.forall_mem_cons.mpr ⟨⟨(List.mem_of_getElem? (i := 0) rfl), (List.mem_of_getElem? (i := 3) rfl), (List.mem_of_getElem? (i := 2) rfl), pn_L, by decide, ⟨_, _, pd_17, rfl⟩, (List.mem_of_getElem? (i := 1) rfl)⟩, ?_⟩
  refine List.forall_mem_cons.mpr ⟨⟨(List.mem_of_getElem? (i := 4) rfl), (List.mem_of_getElem? (i := 6) rfl), (List.mem_of_getElem? (i := 2) rfl), pn_L, by decide, ⟨_, _, pd_3, rfl⟩, (List.mem_of_getElem? (i := 5) rfl)⟩, ?_⟩
  refine List.forall_mem_cons.mpr ⟨⟨(List.mem_of_getElem? (i := 11) rfl), (List.mem_of_getElem? (i := 13) rfl), (List.mem_of_getElem? (i := 10) rfl), pn_C, by decide, ⟨_, _, pd_10, rfl⟩, (List.mem_of_getElem? (i := 12) rfl), rfl, rfl⟩, ?_⟩
  refine List.forall_mem_cons.mpr ⟨⟨(List.mem_of_getElem? (i := 58) rfl), (List.mem_of_getElem? (i := 62) rfl), (List.mem_of_getElem? (i := 10) rfl), pn_C, by decide, ⟨_, _, pd_0, rfl⟩, (List.mem_of_getElem? (i := 59) rfl), (List.mem_of_getElem? (i := 61) rfl), (List.mem_of_getElem? (i := 60) rfl)⟩, ?_⟩
  refine List.forall_mem_cons.mpr ⟨⟨(List.mem_of_getElem? (i := 67) rfl), (List.mem_of_getElem? (i := 71) rfl), (List.mem_of_getElem? (i := 10) rfl), pn_C, by decide, ⟨_, _, pd_0, rfl⟩, (List.mem_of_getElem? (i := 68) rfl), (List.mem_of_getElem? (i := 70) rfl), (List.mem_of_getElem? (i := 69) rfl)⟩, ?_⟩
  refine List.forall_mem_cons.mpr ⟨⟨(List.mem_of_getElem? (i := 72) rfl), (List.mem_of_getElem? (i := 74) rfl), (List.mem_of_getElem? (i := 2) rfl), pn_L, by decide, ⟨_, _, pd_15, rfl⟩, (List.mem_of_getElem? (i := 73) rfl)⟩, ?_⟩
  refine List.forall_mem_cons.mpr ⟨⟨(List.mem_of_getElem? (i := 75) rfl), (List.mem_of_getElem? (i := 79) rfl), (List.mem_of_getElem? (i := 10) rfl), pn_C, by decide, ⟨_, _, pd_3, rfl⟩, (List.mem_of_getElem? (i := 76) rfl), (List.mem_of_getElem? (i := 78) rfl), (List.mem_of_getElem? (i := 77) rfl)⟩, ?_⟩
  refine List.forall_mem_cons.mpr ⟨⟨(List.mem_of_getElem? (i := 84) rfl), (List.mem_of_getElem? (i := 88) rfl), (List.mem_of_getElem? (i := 10) rfl), pn_C, by decide, ⟨_, _, pd_9, rfl⟩, (List.mem_of_getElem? (i := 85) rfl), (List.mem_of_getElem? (i := 87) rfl), (List.mem_of_getElem? (i := 86) rfl)⟩, ?_⟩
  refine List.forall_mem_cons.mpr ⟨⟨(List.mem_of_getElem? (i := 97) rfl), (List.mem_of_getElem? (i := 101) rfl), (List.mem_of_getElem? (i := 10) rfl), pn_C, by decide, ⟨_, _, pd_0, rfl⟩, (List.mem_of_getElem? (i := 98) rfl), (List.mem_of_getElem? (i := 100) rfl), (List.mem_of_getElem? (i := 99) rfl)⟩, ?_⟩
  refine List.forall_mem_cons.mpr ⟨⟨(List.mem_of_getElem? (i := 110) rfl), (List.mem_of_getElem? (i := 114) rfl), (List.mem_of_getElem? (i := 10) rfl), pn_C, by decide, ⟨_, _, pd_11, rfl⟩, (List.mem_of_getElem? (i := 111) rfl), (List.mem_of_getElem? (i := 113) rfl), (List.mem_of_getElem? (i := 112) rfl)⟩, ?_⟩
  refine List.forall_mem_cons.mpr ⟨⟨(List.mem_of_getElem? (i := 119) rfl), (List.mem_of_getElem? (i := 123) rfl), (List.mem_of_getElem? (i := 10) rfl), pn_C, by decide, ⟨_, _, pd_6, rfl⟩, (List.mem_of_getElem? (i := 120) rfl), (List.mem_of_getElem? (i := 122) rfl), (List.mem_of_getElem? (i := 121) rfl)⟩, ?_⟩
  refine List.forall_mem_cons.mpr ⟨⟨(List.mem_of_getElem? (i := 132) rfl), (List.mem_of_getElem? (i := 136) rfl), (List.mem_of_getElem? (i := 10) rfl), pn_C, by decide, ⟨_, _, pd_1, rfl⟩, (List.mem_of_getElem? (i := 133) rfl), (List.mem_of_getElem? (i := 135) rfl), (List.mem_of_getElem? (i := 134) rfl)⟩, ?_⟩
  refine List.forall_mem_cons.mpr ⟨⟨(List.mem_of_getElem? (i := 137) rfl), (List.mem_of_getElem? (i := 141) rfl), (List.mem_of_getElem? (i := 10) rfl), pn_C, by decide, ⟨_, _, pd_0, rfl⟩, (List.mem_of_getElem? (i := 138) rfl), (List.mem_of_getElem? (i := 140) rfl), (List.mem_of_getElem? (i := 139) rfl)⟩, ?_⟩
  refine List.forall_mem_cons.mpr ⟨⟨(List.mem_of_getElem? (i := 142) rfl), (List.mem_of_getElem? (i := 144) rfl), (List.mem_of_getElem? (i := 2) rfl), pn_L, by decide, ⟨_, _, pd_13, rfl⟩, (List.mem_of_getElem? (i := 143) rfl)⟩, ?_⟩
  refine List.forall_mem_cons.mpr ⟨⟨(List.mem_of_getElem? (i := 145) rfl), (List.mem_of_getElem? (i := 149) rfl), (List.mem_of_getElem? (i := 10) rfl), pn_C, by decide, ⟨_, _, pd_5, rfl⟩, (List.mem_of_getElem? (i := 146) rfl), (List.mem_of_getElem? (i := 148) rfl), (List.mem_of_getElem? (i := 147) rfl)⟩, ?_⟩
  refine List.forall_mem_cons.mpr ⟨⟨(List.mem_of_getElem? (i := 150) rfl), (List.mem_of_getElem? (i := 154) rfl), (List.mem_of_getElem? (i := 10) rfl), pn_C, by decide, ⟨_, _, pd_8, rfl⟩, (List.mem_of_getElem? (i := 151) rfl), (List.mem_of_getElem? (i := 153) rfl), (List.mem_of_getElem? (i := 152) rfl)⟩, ?_⟩
  refine List.forall_mem_cons.mpr ⟨⟨(List.mem_of_getElem? (i := 187) rfl), (List.mem_of_getElem? (i := 189) rfl), (List.mem_of_getElem? (i := 2) rfl), pn_L, by decide, ⟨_, _, pd_14, rfl⟩, (List.mem_of_getElem? (i := 188) rfl)⟩, ?_⟩
  refine List.forall_mem_cons.mpr ⟨⟨(List.mem_of_getElem? (i := 190) rfl), (List.mem_of_getElem? (i := 194) rfl), (List.mem_of_getElem? (i := 10) rfl), pn_C, by decide, ⟨_, _, pd_3, rfl⟩, (List.mem_of_getElem? (i := 191) rfl), (List.mem_of_getElem? (i := 193) rfl), (List.mem_of_getElem? (i := 192) rfl)⟩, ?_⟩
  refine List.forall_mem_cons.mpr ⟨⟨(List.mem_of_getElem? (i := 195) rfl), (List.mem_of_getElem? (i := 197) rfl), (List.mem_of_getElem? (i := 2) rfl), pn_L, by decide, ⟨_, _, pd_16, rfl⟩, (List.mem_of_getElem? (i := 196) rfl)⟩, ?_⟩
  refine List.forall_mem_cons.mpr ⟨⟨(List.mem_of_getElem? (i := 198) rfl), (List.mem_of_getElem? (i := 202) rfl), (List.mem_of_getElem? (i := 10) rfl), pn_C, by decide, ⟨_, _, pd_6, rfl⟩, (List.mem_of_getElem? (i := 199) rfl), (List.mem_of_getElem? (i := 201) rfl), (List.mem_of_getElem? (i := 200) rfl)⟩, ?_⟩
  refine List.forall_mem_cons.mpr ⟨⟨(List.mem_of_getElem? (i := 203) rfl), (List.mem_of_getElem? (i := 207) rfl), (List.mem_of_getElem? (i := 10) rfl), pn_C, by decide, ⟨_, _, pd_2, rfl⟩, (List.mem_of_getElem? (i := 204) rfl), (List.mem_of_getElem? (i := 206) rfl), (List.mem_of_getElem? (i := 205) rfl)⟩, ?_⟩
  exact fun _ h => nomatch h
theorem f_own {k : Nat} {pc : Nat} {i : Instr × Nat × Nat} (h : t_ins k pc = some i) : (t_nm k).cls = match t_isC k with | true => t_C | false => "FetchNegotiatorOwnLaw" := by
  match k, h with
  | 0, _ => rfl
  | 1, _ => rfl
  | 2, _ => rfl
  | 3, _ => rfl
  | 4, _ => rfl
  | 5, _ => rfl
  | 6, _ => rfl
  | 7, _ => rfl
  | 8, _ => rfl
  | 9, _ => rfl
  | 10, _ => rfl
  | 11, _ => rfl
  | 12, _ => rfl
  | 13, _ => rfl
  | 14, _ => rfl
  | 15, _ => rfl
  | 16, _ => rfl
  | 17, _ => rfl
  | 18, _ => rfl
  | 19, _ => rfl
  | 20, _ => rfl
  | 21, _ => rfl
  | 22, _ => rfl
  | 23, _ => rfl
  | 24, _ => rfl
  | 25, _ => rfl
  | 26, _ => rfl
  | 27, _ => rfl
  | 28, _ => rfl
  | 29, _ => rfl
  | 30, _ => rfl
  | 31, _ => rfl
  | 32, _ => rfl
  | 33, _ => rfl
  | 34, _ => rfl
  | 35, _ => rfl
  | 36, _ => rfl
  | 37, _ => rfl
  | 38, _ => rfl
  | 39, _ => rfl
  | 40, _ => rfl
  | _ + 41, h => have h2 : (none : Option (Instr × Nat × Nat)) = some _ := h; cases h2
theorem f_ldcs : ∀ q ∈ t_ldcs, (Jvm.Cond.constant "FetchNegotiatorOwnLaw" q.1 q.2) ∈ tables_1 := by
  unfold t_ldcs
  refine List.forall_mem_cons.mpr ⟨(List.mem_of_getElem? (i := 7) rfl), ?_⟩
  exact fun _ h => nomatch h
theorem f_ldc2s : ∀ q ∈ t_ldc2s, (Jvm.Cond.constantLong "FetchNegotiatorOwnLaw" q.1 q.2) ∈ tables_1 := by
  unfold t_ldc2s
  exact fun _ h => nomatch h
theorem f_full : t_full = t_arrs.length + 1 := rfl
theorem f_nsl : t_ns = t_flds.length := rfl
theorem f_mode {k : Nat} : t_mode k = 0 ∨ t_mode k = 1 ∨ (t_mode k = 2 ∧ k = 0) := by
  match k with
  | 0 => exact Or.inr (Or.inr ⟨rfl, rfl⟩)
  | 1 => exact Or.inr (Or.inl rfl)
  | 2 => exact Or.inl rfl
  | 3 => exact Or.inl rfl
  | 4 => exact Or.inl rfl
  | 5 => exact Or.inl rfl
  | 6 => exact Or.inl rfl
  | 7 => exact Or.inl rfl
  | 8 => exact Or.inl rfl
  | 9 => exact Or.inl rfl
  | 10 => exact Or.inl rfl
  | 11 => exact Or.inl rfl
  | 12 => exact Or.inl rfl
  | 13 => exact Or.inl rfl
  | 14 => exact Or.inl rfl
  | 15 => exact Or.inl rfl
  | 16 => exact Or.inl rfl
  | 17 => exact Or.inl rfl
  | 18 => exact Or.inl rfl
  | 19 => exact Or.inl rfl
  | 20 => exact Or.inl rfl
  | 21 => exact Or.inl rfl
  | 22 => exact Or.inl rfl
  | 23 => exact Or.inl rfl
  | 24 => exact Or.inl rfl
  | 25 => exact Or.inl rfl
  | 26 => exact Or.inl rfl
  | 27 => exact Or.inl rfl
  | 28 => exact Or.inl rfl
  | 29 => exact Or.inl rfl
  | 30 => exact Or.inl rfl
  | 31 => exact Or.inl rfl
  | 32 => exact Or.inl rfl
  | 33 => exact Or.inl rfl
  | 34 => exact Or.inl rfl
  | 35 => exact Or.inl rfl
  | 36 => exact Or.inl rfl
  | 37 => exact Or.inl rfl
  | 38 => exact Or.inl rfl
  | 39 => exact Or.inl rfl
  | 40 => exact Or.inl rfl
  | _ + 41 => exact Or.inl rfl
theorem f_names : ∀ i j : Nat, i < t_flds.length → j < t_flds.length → i ≠ j → (t_flds[i]?).map (·.1) ≠ (t_flds[j]?).map (·.1) := by
  have h : ∀ i : Fin t_flds.length, ∀ j : Fin t_flds.length, i.1 ≠ j.1 → (t_flds[i.1]?).map (·.1) ≠ (t_flds[j.1]?).map (·.1) := by decide +kernel
  exact fun i j hi hj => h ⟨i, hi⟩ ⟨j, hj⟩
abbrev k_law : Nat := 0
abbrev k_init : Nat := 1
abbrev k_addBlob : Nat := 2
abbrev k_addTree : Nat := 3
abbrev k_addCommit : Nat := 4
abbrev k_give : Nat := 5
abbrev k_want : Nat := 6
abbrev k_round : Nat := 7
abbrev k_pack : Nat := 8
abbrev k_newFetch : Nat := 9
abbrev k_phase : Nat := 10
abbrev k_kindOf : Nat := 11
abbrev k_link : Nat := 12
abbrev k_has : Nat := 13
abbrev k_status : Nat := 14
abbrev k_connected : Nat := 15
abbrev k_clamp : Nat := 16
abbrev k_inRange : Nat := 17
abbrev k_norm : Nat := 18
abbrev k_validEntry : Nat := 19
abbrev k_validParent : Nat := 20
abbrev k_define : Nat := 21
abbrev k_hasFlag : Nat := 22
abbrev k_setFlag : Nat := 23
abbrev k_clearFlag : Nat := 24
abbrev k_clearMark : Nat := 25
abbrev k_markReach : Nat := 26
abbrev k_markFlagged : Nat := 27
abbrev k_clientHoldsMarked : Nat := 28
abbrev k_anyWanted : Nat := 29
abbrev k_isEligible : Nat := 30
abbrev k_pickNext : Nat := 31
abbrev k_pickBatch : Nat := 32
abbrev k_answerBatch : Nat := 33
abbrev k_markCommon : Nat := 34
abbrev k_cell : Nat := 35
abbrev k_check : Nat := 36
abbrev k_nat : Nat := 37
abbrev k_pickKind : Nat := 38
abbrev k_pickWantable : Nat := 39
abbrev k_reach : Nat := 40
/-! ## the pure machine: what one instruction does, over a plain memory -/
abbrev Mem := Nat × Nat × List Value × (Nat → Nat → Int32)
abbrev Pst := Option Value → Mem → Prop
abbrev WPr := Nat → Nat → List Slot → List Value → Mem → Pst → Prop
def pmStl (L : List Slot) (i : Nat) (v : Value) : Option (List Slot) :=
  match L[i]? with
  | none => none
  | some .second => none
  | some (.val (.long _)) => some ((L.set (i + 1) .unset).set i (.val v))
  | some (.val (.double _)) => none
  | some .unset =>
    match L[i - 1]?, L[i + 1]? with
    | some (.val (.long _)), _ => none
    | some (.val (.double _)), _ => none
    | _, some .second => none
    | _, _ => some (L.set i (.val v))
  | some _ => some (L.set i (.val v))
def pmStlL (L : List Slot) (i : Nat) (v : Value) : Option (List Slot) :=
  match pmStl L i (.int 0) with
  | none => none
  | some L1 =>
    match pmStl L1 (i + 1) (.int 0) with
    | none => none
    | some L2 => some ((L2.set i (.val v)).set (i + 1) .second)
def fcS : List Slot → (List Slot → Prop) → Prop
  | [], K => K []
  | x :: r, K => fcS r fun r' => K (x :: r')
def fcV : List Value → (List Value → Prop) → Prop
  | [], K => K []
  | x :: r, K => fcV r fun r' => K (x :: r')
theorem fcS_eq (L : List Slot) : ∀ K : List Slot → Prop, fcS L K = K L := by
  induction L with
  | nil => intro K; rfl
  | cons x r ih => intro K; exact ih _
theorem fcV_eq (L : List Value) : ∀ K : List Value → Prop, fcV L K = K L := by
  induction L with
  | nil => intro K; rfl
  | cons x r ih => intro K; exact ih _
def pmTgt (pc : Nat) (o : Int) : Nat := ((pc : Int) + o).toNat
def pmBr (cd : ClassFile.Cond) (x y : Int32) (T F : Prop) : Prop :=
  match cd with
  | .eq => (x = y → T) ∧ (¬ x = y → F)
  | .ne => (x = y → F) ∧ (¬ x = y → T)
  | .lt => (x.toInt < y.toInt → T) ∧ (¬ x.toInt < y.toInt → F)
  | .ge => (x.toInt < y.toInt → F) ∧ (¬ x.toInt < y.toInt → T)
  | .gt => (y.toInt < x.toInt → T) ∧ (¬ y.toInt < x.toInt → F)
  | .le => (y.toInt < x.toInt → F) ∧ (¬ y.toInt < x.toInt → T)
def pmLen (r : Nat) (σ : Mem) : Nat :=
  match r with
  | 0 => σ.2.1
  | 1 => 0
  | r + 2 => match t_arrs[r]? with | some q => q.2 | none => 0
def pmTy (r : Nat) : FieldType :=
  match r with
  | 0 => .int
  | 1 => .float
  | r + 2 => match t_arrs[r]? with | some q => q.1 | none => .float
/-- is there an array of this number? -/
def pmThere (r : Nat) (a : Nat) : Bool :=
  match r with
  | 0 => t_sc
  | 1 => false
  | r + 2 => Nat.ble (r + 2) a
def pmSet (A : Nat → Nat → Int32) (r i : Nat) (v : Int32) : Nat → Nat → Int32 := fun r' j => if r' = r then (if j = i then v else A r j) else A r' j
def pmSlots : List Value → List Slot
  | [] => []
  | .long z :: r => .val (.long z) :: .second :: pmSlots r
  | v :: r => .val v :: pmSlots r
def pmEntry (n : Nat) (as : List Value) : List Slot := pmSlots as ++ List.replicate (n - (pmSlots as).length) .unset
def pmPop : Nat → List Value → List Value → Option (List Value × List Value)
  | 0, as, S => some (as, S)
  | _ + 1, _, [] => none
  | n + 1, as, v :: S => pmPop n (v :: as) S
def pmWt : List Value → Nat
  | [] => 0
  | .long _ :: r => 2 + pmWt r
  | .double _ :: r => 2 + pmWt r
  | _ :: r => 1 + pmWt r
/-- slots of the first a cells -/
def pmSS : Nat → Nat
  | 0 => 0
  | a + 1 => t_ns + ((t_arrs.take a).map (·.2)).sum
/-- 0: plain, 1: the constructor, 2: the law -/
def pmBC (k a : Nat) : Nat := match t_mode k with | 0 => 0 | 1 => a - 1 | _ => a
def pmBS (k a : Nat) : Nat := match t_mode k with | 0 => 0 | 1 => pmSS a - pmSS 1 | _ => pmSS a
/-- may k call k' here? -/
def pmRoom (k k' : Nat) (S : List Value) (a : Nat) : Bool :=
  Nat.ble ((t_rm k').frames + 1) (t_rm k).frames && Nat.ble (pmWt S + (t_ml k' + 11) + (t_rm k').locals) (t_rm k).locals &&
  match t_mode k' with
  | 0 => Nat.ble (pmBC k a) (t_rm k).cells && Nat.ble (pmBS k a) (t_rm k).slots
  | 1 => Nat.beq (t_mode k) 2 && Nat.beq a 1
  | _ => false
def pmFit (k' : Nat) (as : List Value) : Bool := Nat.ble (pmSlots as).length (t_ml k') && as.all fun v => match v with | .double _ => false | _ => true
def pmCall (W : WPr) (k k' : Nat) (as R : List Value) (σ : Mem) (K : Pst) : Prop :=
  match pmRoom k k' R σ.1 && pmFit k' as with
  | true => W k' 0 (pmEntry (t_ml k') as) [] σ K
  | false => False
def pmPush (v : Option Value) (R : List Value) : List Value := match v with | none => R | some w => w :: R
def pmInt (S : List Value) (K : Int32 → List Value → Prop) : Prop := match S with | .int x :: R => K x R | _ => False
def pmInt2 (S : List Value) (K : Int32 → Int32 → List Value → Prop) : Prop := match S with | .int y :: .int x :: R => K x y R | _ => False
def pmLng2 (S : List Value) (K : Int64 → Int64 → List Value → Prop) : Prop := match S with | .long y :: .long x :: R => K x y R | _ => False
def pmLI (S : List Value) (K : Int64 → Int32 → List Value → Prop) : Prop := match S with | .int y :: .long x :: R => K x y R | _ => False
def pmLdI (Ls : List Slot) (n : Nat) (K : Int32 → Prop) : Prop := match Ls[n]? with | some (.val (.int x)) => K x | _ => False
def pmLdL (Ls : List Slot) (n : Nat) (K : Int64 → Prop) : Prop := match Ls[n]? with | some (.val (.long x)) => K x | _ => False
def pmLdR (Ls : List Slot) (n : Nat) (K : Nat → Prop) : Prop := match Ls[n]? with | some (.val (.ref x)) => K x | _ => False
def pmStI (Ls : List Slot) (n : Nat) (S : List Value) (K : List Slot → List Value → Prop) : Prop := match S with | .int x :: R => (match pmStl Ls n (.int x) with | some L' => fcS L' (fun L' => K L' R) | none => False) | _ => False
def pmStL (Ls : List Slot) (n : Nat) (S : List Value) (K : List Slot → List Value → Prop) : Prop := match S with | .long x :: R => (match pmStlL Ls n (.long x) with | some L' => fcS L' (fun L' => K L' R) | none => False) | _ => False
def pmStR (Ls : List Slot) (n : Nat) (S : List Value) (K : List Slot → List Value → Prop) : Prop := match S with | .ref x :: R => (match pmStl Ls n (.ref x) with | some L' => fcS L' (fun L' => K L' R) | none => False) | _ => False
def pmALd (ty : FieldType) (S : List Value) (σ : Mem) (K : Int32 → List Value → Prop) : Prop :=
  match S with
  | .int i :: .ref r :: R =>
    match pmThere r σ.1, decide (pmTy r = ty) with
    | true, true => (0 ≤ i.toInt ∧ i.toInt < (pmLen r σ : Int)) ∧ K (σ.2.2.2 r i.toInt.toNat) R
    | _, _ => False
  | _ => False
def pmASt (ty : FieldType) (S : List Value) (σ : Mem) (K : Mem → List Value → Prop) : Prop :=
  match S with
  | .int v :: .int i :: .ref (r + 2) :: R =>
    match pmThere (r + 2) σ.1, decide (pmTy (r + 2) = ty) with
    | true, true => (0 ≤ i.toInt ∧ i.toInt < (pmLen (r + 2) σ : Int)) ∧ (match σ with | (a, n, F, A) => K (a, n, F, pmSet A (r + 2) i.toInt.toNat (nar ty v)) R)
    | _, _ => False
  | _ => False
def pmTop (S : List Value) : Nat := match S with | .int _ :: .ref r :: _ => r | .int _ :: .int _ :: .ref r :: _ => r | _ => 1
/-- what a field of this type takes of a value -/
def pmPut (ty : FieldType) (v : Value) : Option Value :=
  match ty, v with
  | .int, .int x => some (.int x)
  | .boolean, .int x => some (.int (x &&& 1))
  | .array _, .ref (r + 2) => some (.ref (r + 2))
  | _, _ => none
def pmRet (k : Nat) (a : Nat) : Bool := match t_mode k with | 1 => Nat.beq a t_full | _ => true
def pmILdc (k np : Nat) (Ls : List Slot) (S : List Value) (σ : Mem) (nx : Nat → List Slot → List Value → Mem → Prop) (j : Nat) : Prop :=
  match t_ldc k j with | some v => nx np Ls (.int v :: S) σ | none => False
def pmILdc2 (k np : Nat) (Ls : List Slot) (S : List Value) (σ : Mem) (nx : Nat → List Slot → List Value → Mem → Prop) (j : Nat) : Prop :=
  match t_ldc2 k j with | some v => nx np Ls (.long v :: S) σ | none => False
def pmIL2i (np : Nat) (Ls : List Slot) (S : List Value) (σ : Mem) (nx : Nat → List Slot → List Value → Mem → Prop) : Prop :=
  match S with | .long x :: R => nx np Ls (.int x.toInt32 :: R) σ | _ => False
def pmIPop (np : Nat) (Ls : List Slot) (S : List Value) (σ : Mem) (nx : Nat → List Slot → List Value → Mem → Prop) : Prop :=
  match S with | .int _ :: R => nx np Ls R σ | .ref _ :: R => nx np Ls R σ | _ => False
def pmIDup (np : Nat) (Ls : List Slot) (S : List Value) (σ : Mem) (nx : Nat → List Slot → List Value → Mem → Prop) : Prop :=
  match S with | .int x :: R => nx np Ls (.int x :: .int x :: R) σ | .ref x :: R => nx np Ls (.ref x :: .ref x :: R) σ | _ => False
def pmILen (np : Nat) (Ls : List Slot) (S : List Value) (σ : Mem) (nx : Nat → List Slot → List Value → Mem → Prop) : Prop :=
  match S with | .ref r :: R => (match pmThere r σ.1 with | true => nx np Ls (.int (Int32.ofNat (pmLen r σ)) :: R) σ | false => False) | _ => False
def pmIBal (np : Nat) (Ls : List Slot) (S : List Value) (σ : Mem) (nx : Nat → List Slot → List Value → Mem → Prop) : Prop :=
  match pmTy (pmTop S) with
    | .byte => pmALd .byte S σ fun x R => nx np Ls (.int x :: R) σ
    | .boolean => pmALd .boolean S σ fun x R => nx np Ls (.int x :: R) σ
    | _ => False
def pmIBas (np : Nat) (Ls : List Slot) (S : List Value) (σ : Mem) (nx : Nat → List Slot → List Value → Mem → Prop) : Prop :=
  match pmTy (pmTop S) with
    | .byte => pmASt .byte S σ fun σ' R => nx np Ls R σ'
    | .boolean => pmASt .boolean S σ fun σ' R => nx np Ls R σ'
    | _ => False
def pmIGet (k np : Nat) (Ls : List Slot) (S : List Value) (σ : Mem) (nx : Nat → List Slot → List Value → Mem → Prop) (j : Nat) : Prop :=
  match S, t_fl k j, Nat.ble 1 σ.1 with
    | .ref 1 :: R, some q, true => (match σ.2.2.1[q]? with | some v => nx np Ls (v :: R) σ | none => False)
    | _, _, _ => False
def pmIPut (k np : Nat) (Ls : List Slot) (S : List Value) (σ : Mem) (nx : Nat → List Slot → List Value → Mem → Prop) (j : Nat) : Prop :=
  match S, t_fl k j, Nat.ble 1 σ.1 with
    | v :: .ref 1 :: R, some q, true => (match t_flds[q]? with
      | some f => (match pmPut f.2.2 v with | some v' => (match σ with | (a, n, F, A) => fcV (F.set q v') fun F' => nx np Ls R (a, n, F', A)) | none => False)
      | none => False)
    | _, _, _ => False
def pmINew (k np : Nat) (Ls : List Slot) (S : List Value) (σ : Mem) (nx : Nat → List Slot → List Value → Mem → Prop) (j : Nat) : Prop :=
  match σ, t_new k j, t_mode k with
    | (0, n, _, A), true, 2 => (1 ≤ (t_rm k).cells ∧ t_ns ≤ (t_rm k).slots) ∧ fcV (t_flds.map (fun f => defaultValue f.2.2)) fun F' => nx np Ls (.ref 1 :: S) (1, n, F', A)
    | _, _, _ => False
def pmINewA (k np : Nat) (Ls : List Slot) (S : List Value) (σ : Mem) (nx : Nat → List Slot → List Value → Mem → Prop) (aty : ArrayType) : Prop :=
  match S, σ with
    | .int n :: R, (a + 1, n', F, A) => (match t_arrs[a]? with
      | some q => (n = Int32.ofNat q.2 ∧ newarray.typeOf aty = q.1 ∧ q.2 < 4096 ∧ ¬ t_mode k = 0 ∧ pmBC k (a + 1) + 1 ≤ (t_rm k).cells ∧ pmBS k (a + 1) + q.2 ≤ (t_rm k).slots) ∧ nx np Ls (.ref (a + 2) :: R) (a + 2, n', F, A)
      | none => False)
    | _, _ => False
def pmISta (W : WPr) (k np : Nat) (Ls : List Slot) (S : List Value) (σ : Mem) (nx : Nat → List Slot → List Value → Mem → Prop) (j : Nat) : Prop :=
  match t_mk k j with
    | some (0, k') => (match pmPop (t_np k') [] S with | some (as, R) => pmCall W k k' as R σ fun v σ' => nx np Ls (pmPush v R) σ' | none => False)
    | _ => False
def pmIVir (W : WPr) (k np : Nat) (Ls : List Slot) (S : List Value) (σ : Mem) (nx : Nat → List Slot → List Value → Mem → Prop) (j : Nat) : Prop :=
  match t_mk k j, Nat.ble 1 σ.1 with
    | some (1, k'), true => (match pmPop (t_np k') [] S with | some (.ref 1 :: as, R) => pmCall W k k' (.ref 1 :: as) R σ fun v σ' => nx np Ls (pmPush v R) σ' | _ => False)
    | some (2, k'), true => (match pmPop (t_np k') [] S with | some (.ref 1 :: as, R) => pmCall W k k' (.ref 1 :: as) R σ fun v σ' => nx np Ls (pmPush v R) σ' | _ => False)
    | _, _ => False
def pmISpe (W : WPr) (k np : Nat) (Ls : List Slot) (S : List Value) (σ : Mem) (nx : Nat → List Slot → List Value → Mem → Prop) (j : Nat) : Prop :=
  match t_mk k j, Nat.ble 1 σ.1 with
    | some (3, k'), true => (match pmPop (t_np k') [] S with | some (.ref 1 :: as, R) => pmCall W k k' (.ref 1 :: as) R σ fun v σ' => nx np Ls (pmPush v R) σ' | _ => False)
    | some (4, _), true => (match S with | .ref 1 :: R => (1 ≤ (t_rm k).frames ∧ pmWt R + 12 ≤ (t_rm k).locals) ∧ nx np Ls R σ | _ => False)
    | _, _ => False
def pmIRet (k : Nat) (S : List Value) (σ : Mem) (Q : Pst) : Prop :=
  match t_rt k, pmRet k σ.1 with
    | some .int, true => pmInt S fun x _ => Q (some (.int x)) σ
    | some .boolean, true => pmInt S fun x _ => Q (some (.int (x &&& 1))) σ
    | _, _ => False
def pmIRtL (k : Nat) (S : List Value) (σ : Mem) (Q : Pst) : Prop :=
  match t_rt k, pmRet k σ.1, S with
    | some .long, true, .long x :: _ => Q (some (.long x)) σ
    | _, _, _ => False
def pmIRtV (k : Nat) (σ : Mem) (Q : Pst) : Prop :=
  match t_rt k, pmRet k σ.1 with
    | none, true => Q none σ
    | _, _ => False
def stp (W : WPr) (k np tg : Nat) (Ls : List Slot) (S : List Value) (σ : Mem) (Q : Pst) (nx : Nat → List Slot → List Value → Mem → Prop) (i : Instr) : Prop :=
  match i with
  | .iconst c => nx np Ls (.int (Int32.ofInt c) :: S) σ
  | .bipush c => nx np Ls (.int (Int32.ofInt c) :: S) σ
  | .sipush c => nx np Ls (.int (Int32.ofInt c) :: S) σ
  | .lconst c => nx np Ls (.long (Int64.ofNat c) :: S) σ
  | .ldc j => pmILdc k np Ls S σ nx j
  | .ldc2_w j => pmILdc2 k np Ls S σ nx j
  | .iload n => pmLdI Ls n fun x => nx np Ls (.int x :: S) σ
  | .iload_n n => pmLdI Ls n.val fun x => nx np Ls (.int x :: S) σ
  | .lload n => pmLdL Ls n fun x => nx np Ls (.long x :: S) σ
  | .lload_n n => pmLdL Ls n.val fun x => nx np Ls (.long x :: S) σ
  | .aload n => pmLdR Ls n fun x => nx np Ls (.ref x :: S) σ
  | .aload_n n => pmLdR Ls n.val fun x => nx np Ls (.ref x :: S) σ
  | .istore n => pmStI Ls n S fun L' R => nx np L' R σ
  | .istore_n n => pmStI Ls n.val S fun L' R => nx np L' R σ
  | .lstore n => pmStL Ls n S fun L' R => nx np L' R σ
  | .lstore_n n => pmStL Ls n.val S fun L' R => nx np L' R σ
  | .astore n => pmStR Ls n S fun L' R => nx np L' R σ
  | .astore_n n => pmStR Ls n.val S fun L' R => nx np L' R σ
  | .iinc n c => pmLdI Ls n fun x => fcS (Ls.set n (.val (.int (x + Int32.ofInt c)))) fun L' => nx np L' S σ
  | .iadd => pmInt2 S fun x y R => nx np Ls (.int (x + y) :: R) σ
  | .isub => pmInt2 S fun x y R => nx np Ls (.int (x - y) :: R) σ
  | .imul => pmInt2 S fun x y R => nx np Ls (.int (x * y) :: R) σ
  | .idiv => pmInt2 S fun x y R => ¬ y = 0 ∧ nx np Ls (.int (x / y) :: R) σ
  | .irem => pmInt2 S fun x y R => ¬ y = 0 ∧ nx np Ls (.int (x % y) :: R) σ
  | .iand => pmInt2 S fun x y R => nx np Ls (.int (x &&& y) :: R) σ
  | .ior => pmInt2 S fun x y R => nx np Ls (.int (x ||| y) :: R) σ
  | .ixor => pmInt2 S fun x y R => nx np Ls (.int (x ^^^ y) :: R) σ
  | .ishl => pmInt2 S fun x y R => nx np Ls (.int (x <<< (y &&& 31)) :: R) σ
  | .ishr => pmInt2 S fun x y R => nx np Ls (.int (x >>> (y &&& 31)) :: R) σ
  | .iushr => pmInt2 S fun x y R => nx np Ls (.int (Jvm.Free.XT.ushr x y) :: R) σ
  | .land => pmLng2 S fun x y R => nx np Ls (.long (x &&& y) :: R) σ
  | .lor => pmLng2 S fun x y R => nx np Ls (.long (x ||| y) :: R) σ
  | .lxor => pmLng2 S fun x y R => nx np Ls (.long (x ^^^ y) :: R) σ
  | .lcmp => pmLng2 S fun x y R => nx np Ls (.int (Jvm.Free.XT.cmpL x y) :: R) σ
  | .lshl => pmLI S fun x y R => nx np Ls (.long (x <<< (y.toInt64 &&& 63)) :: R) σ
  | .lushr => pmLI S fun x y R => nx np Ls (.long (Jvm.Free.XT.ushrL x y) :: R) σ
  | .i2b => pmInt S fun x R => nx np Ls (.int x.toInt8.toInt32 :: R) σ
  | .i2l => pmInt S fun x R => nx np Ls (.long x.toInt64 :: R) σ
  | .l2i => pmIL2i np Ls S σ nx
  | .pop => pmIPop np Ls S σ nx
  | .dup => pmIDup np Ls S σ nx
  | .goto o => nx tg Ls S σ
  | .ifCond cd o => pmInt S fun x R => pmBr cd x 0 (nx tg Ls R σ) (nx np Ls R σ)
  | .if_icmp cd o => pmInt2 S fun x y R => pmBr cd x y (nx tg Ls R σ) (nx np Ls R σ)
  | .arraylength => pmILen np Ls S σ nx
  | .iaload => pmALd .int S σ fun x R => nx np Ls (.int x :: R) σ
  | .baload => pmIBal np Ls S σ nx
  | .iastore => pmASt .int S σ fun σ' R => nx np Ls R σ'
  | .bastore => pmIBas np Ls S σ nx
  | .getfield j => pmIGet k np Ls S σ nx j
  | .putfield j => pmIPut k np Ls S σ nx j
  | .new j => pmINew k np Ls S σ nx j
  | .newarray aty => pmINewA k np Ls S σ nx aty
  | .invokestatic j => pmISta W k np Ls S σ nx j
  | .invokevirtual j => pmIVir W k np Ls S σ nx j
  | .invokespecial j => pmISpe W k np Ls S σ nx j
  | .ireturn => pmIRet k S σ Q
  | .lreturn => pmIRtL k S σ Q
  | .return_ => pmIRtV k σ Q
  | _ => False
def wp (W : WPr) (cut : List Nat) : Nat → WPr
  | 0, _, _, _, _, _, _ => False
  | n + 1, k, pc, Ls, S, σ, Q =>
    match t_ins k pc with
    | none => False
    | some (i, np, tg) => stp W k np tg Ls S σ Q (fun pc' Ls' S' σ' => match cut.contains pc' with | true => W k pc' Ls' S' σ' Q | false => wp W cut n k pc' Ls' S' σ' Q) i
/-- less is known of the locals -/
def pmLe : List Slot → List Slot → Prop
  | [], [] => True
  | x :: xs, y :: ys => (x = .unset ∨ x = y) ∧ pmLe xs ys
  | _, _ => False
theorem f_rm (k : Nat) : (t_mode k = 0 → (t_rm k).cells = 0 ∧ (t_rm k).slots = 0) ∧ (t_mode k = 1 → (t_rm k).cells = t_full - 1 ∧ (t_rm k).slots = pmSS t_full - pmSS 1) := by
  match k with
  | 0 => exact ⟨fun h => absurd h (by decide), fun h => absurd h (by decide)⟩
  | 1 => exact ⟨fun h => absurd h (by decide), fun _ => ⟨by decide, by decide⟩⟩
  | 2 => exact ⟨fun _ => ⟨rfl, rfl⟩, fun h => absurd h (by decide)⟩
  | 3 => exact ⟨fun _ => ⟨rfl, rfl⟩, fun h => absurd h (by decide)⟩
  | 4 => exact ⟨fun _ => ⟨rfl, rfl⟩, fun h => absurd h (by decide)⟩
  | 5 => exact ⟨fun _ => ⟨rfl, rfl⟩, fun h => absurd h (by decide)⟩
  | 6 => exact ⟨fun _ => ⟨rfl, rfl⟩, fun h => absurd h (by decide)⟩
  | 7 => exact ⟨fun _ => ⟨rfl, rfl⟩, fun h => absurd h (by decide)⟩
  | 8 => exact ⟨fun _ => ⟨rfl, rfl⟩, fun h => absurd h (by decide)⟩
  | 9 => exact ⟨fun _ => ⟨rfl, rfl⟩, fun h => absurd h (by decide)⟩
  | 10 => exact ⟨fun _ => ⟨rfl, rfl⟩, fun h => absurd h (by decide)⟩
  | 11 => exact ⟨fun _ => ⟨rfl, rfl⟩, fun h => absurd h (by decide)⟩
  | 12 => exact ⟨fun _ => ⟨rfl, rfl⟩, fun h => absurd h (by decide)⟩
  | 13 => exact ⟨fun _ => ⟨rfl, rfl⟩, fun h => absurd h (by decide)⟩
  | 14 => exact ⟨fun _ => ⟨rfl, rfl⟩, fun h => absurd h (by decide)⟩
  | 15 => exact ⟨fun _ => ⟨rfl, rfl⟩, fun h => absurd h (by decide)⟩
  | 16 => exact ⟨fun _ => ⟨rfl, rfl⟩, fun h => absurd h (by decide)⟩
  | 17 => exact ⟨fun _ => ⟨rfl, rfl⟩, fun h => absurd h (by decide)⟩
  | 18 => exact ⟨fun _ => ⟨rfl, rfl⟩, fun h => absurd h (by decide)⟩
  | 19 => exact ⟨fun _ => ⟨rfl, rfl⟩, fun h => absurd h (by decide)⟩
  | 20 => exact ⟨fun _ => ⟨rfl, rfl⟩, fun h => absurd h (by decide)⟩
  | 21 => exact ⟨fun _ => ⟨rfl, rfl⟩, fun h => absurd h (by decide)⟩
  | 22 => exact ⟨fun _ => ⟨rfl, rfl⟩, fun h => absurd h (by decide)⟩
  | 23 => exact ⟨fun _ => ⟨rfl, rfl⟩, fun h => absurd h (by decide)⟩
  | 24 => exact ⟨fun _ => ⟨rfl, rfl⟩, fun h => absurd h (by decide)⟩
  | 25 => exact ⟨fun _ => ⟨rfl, rfl⟩, fun h => absurd h (by decide)⟩
  | 26 => exact ⟨fun _ => ⟨rfl, rfl⟩, fun h => absurd h (by decide)⟩
  | 27 => exact ⟨fun _ => ⟨rfl, rfl⟩, fun h => absurd h (by decide)⟩
  | 28 => exact ⟨fun _ => ⟨rfl, rfl⟩, fun h => absurd h (by decide)⟩
  | 29 => exact ⟨fun _ => ⟨rfl, rfl⟩, fun h => absurd h (by decide)⟩
  | 30 => exact ⟨fun _ => ⟨rfl, rfl⟩, fun h => absurd h (by decide)⟩
  | 31 => exact ⟨fun _ => ⟨rfl, rfl⟩, fun h => absurd h (by decide)⟩
  | 32 => exact ⟨fun _ => ⟨rfl, rfl⟩, fun h => absurd h (by decide)⟩
  | 33 => exact ⟨fun _ => ⟨rfl, rfl⟩, fun h => absurd h (by decide)⟩
  | 34 => exact ⟨fun _ => ⟨rfl, rfl⟩, fun h => absurd h (by decide)⟩
  | 35 => exact ⟨fun _ => ⟨rfl, rfl⟩, fun h => absurd h (by decide)⟩
  | 36 => exact ⟨fun _ => ⟨rfl, rfl⟩, fun h => absurd h (by decide)⟩
  | 37 => exact ⟨fun _ => ⟨rfl, rfl⟩, fun h => absurd h (by decide)⟩
  | 38 => exact ⟨fun _ => ⟨rfl, rfl⟩, fun h => absurd h (by decide)⟩
  | 39 => exact ⟨fun _ => ⟨rfl, rfl⟩, fun h => absurd h (by decide)⟩
  | 40 => exact ⟨fun _ => ⟨rfl, rfl⟩, fun h => absurd h (by decide)⟩
  | _ + 41 => exact ⟨fun _ => ⟨rfl, rfl⟩, fun h => absurd (show (0 : Nat) = 1 from h) (by decide)⟩
theorem f_law : 1 + (t_full - 1) ≤ (t_rm 0).cells ∧ pmSS 1 + (pmSS t_full - pmSS 1) ≤ (t_rm 0).slots := by decide
theorem f_ss : pmSS 1 ≤ pmSS t_full := by decide
/-! ## the pure machine is sound: what it says of a body, the model's run does -/
def pmRho (n0 scA : Nat) : Nat → Addr
  | 0 => scA
  | r + 1 => n0 + r
def cv (n0 scA : Nat) : Value → Value
  | .ref r => .ref (pmRho n0 scA r)
  | v => v
def cs (n0 scA : Nat) : Slot → Slot
  | .val v => .val (cv n0 scA v)
  | s => s
theorem cv_cat (n0 scA : Nat) (v : Value) : (cv n0 scA v).category = v.category := by cases v <;> rfl
def pmLR (n0 scA : Nat) (Ls : List Slot) (Lc : Array Slot) : Prop := Lc.size = Ls.length ∧ ∀ (i : Nat) (x : Slot), Ls[i]? = some x → x ≠ .unset → Lc[i]? = some (cs n0 scA x)
def pmWC (Lc : Array Slot) : Prop := (∀ i : Nat, Lc[i]? = some .second → ∃ j v, i = j + 1 ∧ Lc[j]? = some (.val v) ∧ v.category = 2) ∧ ∀ (i : Nat) (v : Value), Lc[i]? = some (.val v) → v.category = 2 → Lc[i + 1]? = some .second
theorem pmSet1 {Lc : Array Slot} {i : Nat} (h : i < Lc.size) (x : Slot) : setAt Lc i x = some (Lc.setIfInBounds i x) := by simp [setAt, h]
theorem pmGet (Lc : Array Slot) (i j : Nat) (x : Slot) (h : i < Lc.size) : (Lc.setIfInBounds i x)[j]? = if i = j then some x else Lc[j]? := by
  by_cases e : i = j
  · subst e; simp [h]
  · simp [e, Array.getElem?_setIfInBounds_ne]
theorem pmLt {Lc : Array Slot} {i : Nat} {x : Slot} (h : Lc[i]? = some x) : i < Lc.size := (Array.getElem?_eq_some_iff.mp h).1
theorem pmStoreDef (l : Array Slot) (i : Nat) (v : Value) : storeLocals l i v = (l[i]?).bind (fun x => match x with
  | .second => (setAt l (i - 1) .unset).bind fun l' => storeSelf l' i v
  | .val old => if old.category = 2 then (setAt l (i + 1) .unset).bind fun l' => storeSelf l' i v else storeSelf l i v
  | .unset => storeSelf l i v) := rfl
theorem pmSelfDef (l : Array Slot) (i : Nat) (v : Value) (h : v.category = 1) : storeSelf l i v = setAt l i (.val v) := by
  unfold storeSelf
  cases hs : setAt l i (.val v) with
  | none => rfl
  | some l' => simp [h]
/-- one word is stored -/
theorem pmStore1 {n0 scA : Nat} {Ls L' : List Slot} {Lc : Array Slot} {i : Nat} {v : Value} (hR : pmLR n0 scA Ls Lc) (hC : pmWC Lc) (hv : v.category = 1) (h : pmStl Ls i v = some L') :
    ∃ Lc', storeLocals Lc i (cv n0 scA v) = some Lc' ∧ pmLR n0 scA L' Lc' ∧ pmWC Lc' := by
  have hv' : (cv n0 scA v).category = 1 := by rw [cv_cat]; exact hv
  have hcs : cs n0 scA (.val v) = .val (cv n0 scA v) := rfl
  -- what stands at i
  cases hx : Ls[i]? with
  | none => simp [pmStl, hx] at h
  | some x =>
    have hi : i < Lc.size := by rw [hR.1]; exact (List.getElem?_eq_some_iff.mp hx).1
    obtain ⟨y, hy⟩ : ∃ y, Lc[i]? = some y := ⟨_, Array.getElem?_eq_getElem hi⟩
    -- the three shapes of y
    have key : ∀ (Lc1 : Array Slot), Lc1.size = Lc.size → storeLocals Lc i (cv n0 scA v) = some (Lc1.setIfInBounds i (.val (cv n0 scA v))) →
        (∀ j, j ≠ i → Lc1[j]? = Lc[j]? ∨ (Lc1[j]? = some .unset ∧ L'[j]? = some .unset) ∨ (Lc1[j]? = some .unset ∧ ∀ z, L'[j]? = some z → z = .unset)) →
        (∀ j, j ≠ i → Lc1[j]? = some .second → ∃ q w, j = q + 1 ∧ q ≠ i ∧ Lc1[q]? = some (.val w) ∧ w.category = 2) → (∀ j w, j ≠ i → Lc1[j]? = some (.val w) → w.category = 2 → j + 1 ≠ i ∧ Lc1[j + 1]? = some .second) →
        (∀ j z, j ≠ i → L'[j]? = some z → z ≠ .unset → Ls[j]? = some z) → L'[i]? = some (.val v) → L'.length = Ls.length →
        ∃ Lc', storeLocals Lc i (cv n0 scA v) = some Lc' ∧ pmLR n0 scA L' Lc' ∧ pmWC Lc' := by
      intro Lc1 hs hst ho hw1 hw2 hL hLi hlen
      refine ⟨_, hst, ⟨by simp [hs, hlen, hR.1], ?_⟩, ?_, ?_⟩
      · intro j z hz hne
        rw [pmGet _ _ _ _ (by rw [hs]; exact hi)]
        by_cases e : i = j
        · subst e; rw [if_pos rfl]; rw [hLi] at hz; cases hz; rfl
        · rw [if_neg e]
          have hz' := hL j z (Ne.symm e) hz hne
          rcases ho j (Ne.symm e) with q | ⟨q1, q2⟩ | ⟨q1, q2⟩
          · rw [q]; exact hR.2 j z hz' hne
          · rw [hz] at q2; cases q2; exact absurd rfl hne
          · exact absurd (q2 z hz) hne
      · intro j hj
        rw [pmGet _ _ _ _ (by rw [hs]; exact hi)] at hj
        by_cases e : i = j
        · rw [if_pos e] at hj; cases hj
        · rw [if_neg e] at hj
          obtain ⟨q, w, r1, r2, r3, r4⟩ := hw1 j (Ne.symm e) hj
          exact ⟨q, w, r1, by rw [pmGet _ _ _ _ (by rw [hs]; exact hi), if_neg (Ne.symm r2)]; exact r3, r4⟩
      · intro j w hj hw
        rw [pmGet _ _ _ _ (by rw [hs]; exact hi)] at hj
        by_cases e : i = j
        · rw [if_pos e] at hj; cases hj; rw [hv'] at hw; cases hw
        · rw [if_neg e] at hj
          obtain ⟨r1, r2⟩ := hw2 j w (Ne.symm e) hj hw
          rw [pmGet _ _ _ _ (by rw [hs]; exact hi), if_neg (Ne.symm r1)]; exact r2
    cases y with
    | second =>
      obtain ⟨j0, w0, e0, g0, c0⟩ := hC.1 i hy
      have hj0 : j0 < Lc.size := pmLt g0
      have hst : storeLocals Lc i (cv n0 scA v) = some ((Lc.setIfInBounds j0 .unset).setIfInBounds i (.val (cv n0 scA v))) := by
        have : i - 1 = j0 := by omega
        rw [pmStoreDef, hy]; simp [this, setAt, hj0, storeSelf, hv', hi]
      have hxu : x = .unset := by
        cases x with
        | unset => rfl
        | second => simp [pmStl, hx] at h
        | val z => have := hR.2 i _ hx (by simp); rw [hy] at this; cases this
      subst hxu
      have hL' : L' = Ls.set i (.val v) ∧ ∀ z, Ls[j0]? = some z → z = .unset := by
        have hj : i - 1 = j0 := by omega
        simp only [pmStl, hx, hj] at h
        refine ⟨?_, fun z hz => ?_⟩
        · split at h <;> first | (cases h; done) | (exact (Option.some.inj h).symm)
        · cases z with
          | unset => rfl
          | second => have := hR.2 j0 _ hz (by simp); rw [g0] at this; cases this
          | val z =>
            exfalso
            have q := hR.2 j0 _ hz (by simp); rw [g0] at q
            have q' : w0 = cv n0 scA z := by cases q; rfl
            have q2 : z.category = 2 := by rw [← cv_cat n0 scA z, ← q']; exact c0
            rw [hz] at h
            cases z <;> simp [Value.category] at q2 <;> simp at h
      obtain ⟨rfl, hj0u⟩ := hL'
      refine key (Lc.setIfInBounds j0 .unset) (by simp) hst ?_ ?_ ?_ ?_ ?_ ?_
      · intro j hj
        rw [pmGet _ _ _ _ hj0]
        by_cases e : j0 = j
        · rw [if_pos e]; subst e; exact Or.inr (Or.inr ⟨rfl, fun z hz => hj0u z (by rwa [List.getElem?_set_ne (Ne.symm hj)] at hz)⟩)
        · rw [if_neg e]; exact Or.inl rfl
      · intro j hj hj2
        rw [pmGet _ _ _ _ hj0] at hj2
        by_cases e : j0 = j
        · rw [if_pos e] at hj2; cases hj2
        · rw [if_neg e] at hj2
          obtain ⟨q, w, r1, r2, r3⟩ := hC.1 j hj2
          have qi : q ≠ i := fun z => by rw [z, hy] at r2; cases r2
          have qj : j0 ≠ q := fun z => by omega
          exact ⟨q, w, r1, qi, by rw [pmGet _ _ _ _ hj0, if_neg qj]; exact r2, r3⟩
      · intro j w hj hj2 hw
        rw [pmGet _ _ _ _ hj0] at hj2
        by_cases e : j0 = j
        · rw [if_pos e] at hj2; cases hj2
        · rw [if_neg e] at hj2
          have r := hC.2 j w hj2 hw
          exact ⟨by omega, by rw [pmGet _ _ _ _ hj0, if_neg (fun z => by rw [← z, g0] at r; cases r)]; exact r⟩
      · intro j z hj hz hne; rwa [List.getElem?_set_ne (Ne.symm hj)] at hz
      · simp [(List.getElem?_eq_some_iff.mp hx).1]
      · simp
    | unset =>
      have hst : storeLocals Lc i (cv n0 scA v) = some (Lc.setIfInBounds i (.val (cv n0 scA v))) := by rw [pmStoreDef, hy]; simp [setAt, storeSelf, hv', hi]
      have hxu : x = .unset := by
        cases x with
        | unset => rfl
        | second => simp [pmStl, hx] at h
        | val z => have := hR.2 i _ hx (by simp); rw [hy] at this; cases this
      subst hxu
      have hL' : L' = Ls.set i (.val v) := by
        simp only [pmStl, hx] at h
        split at h <;> first | (cases h; done) | (exact (Option.some.inj h).symm)
      subst hL'
      refine key Lc rfl hst (fun _ _ => Or.inl rfl) ?_ ?_ ?_ ?_ ?_
      · intro j hj hj2
        obtain ⟨q, w, r1, r2, r3⟩ := hC.1 j hj2
        exact ⟨q, w, r1, fun z => (by rw [z, hy] at r2; cases r2), r2, r3⟩
      · intro j w hj hj2 hw
        have r := hC.2 j w hj2 hw
        exact ⟨fun z => (by rw [z, hy] at r; cases r), r⟩
      · intro j z hj hz hne; rwa [List.getElem?_set_ne (Ne.symm hj)] at hz
      · simp [(List.getElem?_eq_some_iff.mp hx).1]
      · simp
    | val y =>
      by_cases hy2 : y.category = 2
      · have g1 := hC.2 i y hy hy2
        have hi1 : i + 1 < Lc.size := pmLt g1
        have hst : storeLocals Lc i (cv n0 scA v) = some ((Lc.setIfInBounds (i + 1) .unset).setIfInBounds i (.val (cv n0 scA v))) := by
          rw [pmStoreDef, hy]; simp [hy2, setAt, hi1, storeSelf, hv', hi]
        have hL' : L'.length = Ls.length ∧ L'[i]? = some (.val v) ∧ (∀ j, j ≠ i → j ≠ i + 1 → L'[j]? = Ls[j]?) ∧ ∀ z, L'[i + 1]? = some z → z = .unset := by
          have hil := (List.getElem?_eq_some_iff.mp hx).1
          cases x with
          | second => simp [pmStl, hx] at h
          | unset =>
            have hL2 : L' = Ls.set i (.val v) ∧ Ls[i + 1]? ≠ some .second := by
              simp only [pmStl, hx] at h
              refine ⟨?_, fun z => ?_⟩
              · split at h <;> first | (cases h; done) | (exact (Option.some.inj h).symm)
              · rw [z] at h
                split at h <;> first | (cases h; done) | (rename_i a b c; first | exact c rfl | exact absurd rfl (by assumption) | skip)
                all_goals simp_all
            obtain ⟨rfl, hn⟩ := hL2
            refine ⟨by simp, by simp [hil], fun j h1 h2 => List.getElem?_set_ne (Ne.symm h1), fun z hz => ?_⟩
            rw [List.getElem?_set_ne (by omega)] at hz
            cases z with
            | unset => rfl
            | second => exact absurd hz hn
            | val z => have := hR.2 (i + 1) _ hz (by simp); rw [g1] at this; cases this
          | val z =>
            have q := hR.2 i _ hx (by simp); rw [hy] at q
            have q' : y = cv n0 scA z := by cases q; rfl
            have q2 : z.category = 2 := by rw [← cv_cat n0 scA z, ← q']; exact hy2
            cases z <;> simp [Value.category] at q2
            · simp only [pmStl, hx] at h
              cases h
              have hl1 : i + 1 < Ls.length := by rw [← hR.1]; exact hi1
              refine ⟨by simp, by simp [hil], fun j h1 h2 => ?_, fun z hz => ?_⟩
              · rw [List.getElem?_set_ne (Ne.symm h1), List.getElem?_set_ne (Ne.symm h2)]
              · rw [List.getElem?_set_ne (by omega)] at hz; simp [hl1] at hz; exact hz.symm
            · simp [pmStl, hx] at h
        obtain ⟨a1, a2, a3, a4⟩ := hL'
        refine key (Lc.setIfInBounds (i + 1) .unset) (by simp) hst ?_ ?_ ?_ ?_ a2 a1
        · intro j hj
          rw [pmGet _ _ _ _ hi1]
          by_cases e : i + 1 = j
          · rw [if_pos e]; subst e; exact Or.inr (Or.inr ⟨rfl, a4⟩)
          · rw [if_neg e]; exact Or.inl rfl
        · intro j hj hj2
          rw [pmGet _ _ _ _ hi1] at hj2
          by_cases e : i + 1 = j
          · rw [if_pos e] at hj2; cases hj2
          · rw [if_neg e] at hj2
            obtain ⟨q, w, r1, r2, r3⟩ := hC.1 j hj2
            exact ⟨q, w, r1, fun z => by omega, by rw [pmGet _ _ _ _ hi1, if_neg (fun z => by rw [← z, g1] at r2; cases r2)]; exact r2, r3⟩
        · intro j w hj hj2 hw
          rw [pmGet _ _ _ _ hi1] at hj2
          by_cases e : i + 1 = j
          · rw [if_pos e] at hj2; cases hj2
          · rw [if_neg e] at hj2
            have r := hC.2 j w hj2 hw
            exact ⟨fun z => (by rw [z, hy] at r; cases r), by rw [pmGet _ _ _ _ hi1, if_neg (fun z => hj (by omega))]; exact r⟩
        · intro j z hj hz hne
          by_cases e : j = i + 1
          · subst e; exact absurd (a4 z hz) hne
          · rwa [a3 j hj e] at hz
      · have hst : storeLocals Lc i (cv n0 scA v) = some (Lc.setIfInBounds i (.val (cv n0 scA v))) := by rw [pmStoreDef, hy]; simp [hy2, setAt, storeSelf, hv', hi]
        have hL' : L' = Ls.set i (.val v) := by
          cases x with
          | second => simp [pmStl, hx] at h
          | unset =>
            simp only [pmStl, hx] at h
            split at h <;> first | (cases h; done) | (exact (Option.some.inj h).symm)
          | val z =>
            have q := hR.2 i _ hx (by simp); rw [hy] at q
            have q' : y = cv n0 scA z := by cases q; rfl
            have q2 : ¬ z.category = 2 := by rw [← cv_cat n0 scA z, ← q']; exact hy2
            cases z <;> first | (simp [Value.category] at q2; done) | (simp only [pmStl, hx] at h; exact (Option.some.inj h).symm)
        subst hL'
        refine key Lc rfl hst (fun _ _ => Or.inl rfl) ?_ ?_ ?_ ?_ ?_
        · intro j hj hj2
          obtain ⟨q, w, r1, r2, r3⟩ := hC.1 j hj2
          exact ⟨q, w, r1, fun z => (by rw [z, hy] at r2; cases r2; exact hy2 r3), r2, r3⟩
        · intro j w hj hj2 hw
          have r := hC.2 j w hj2 hw
          exact ⟨fun z => (by rw [z, hy] at r; cases r), r⟩
        · intro j z hj hz hne; rwa [List.getElem?_set_ne (Ne.symm hj)] at hz
        · simp [(List.getElem?_eq_some_iff.mp hx).1]
        · simp
def pmClean (Lc : Array Slot) (i : Nat) (y : Slot) : Array Slot :=
  match y with
  | .second => Lc.setIfInBounds (i - 1) .unset
  | .val w => if w.category = 2 then Lc.setIfInBounds (i + 1) .unset else Lc
  | .unset => Lc
theorem pmClean_size (Lc : Array Slot) (i : Nat) (y : Slot) : (pmClean Lc i y).size = Lc.size := by
  cases y with
  | second => simp [pmClean]
  | unset => rfl
  | val w => simp only [pmClean]; split <;> simp
theorem pmPh {Lc : Array Slot} {i : Nat} {y : Slot} (hC : pmWC Lc) (hy : Lc[i]? = some y) (v : Value) : storeLocals Lc i v = storeSelf (pmClean Lc i y) i v := by
  rw [pmStoreDef, hy]
  cases y with
  | second =>
    obtain ⟨j, w, e, g, -⟩ := hC.1 i hy
    have h1 : i - 1 < Lc.size := by have := pmLt g; omega
    simp [pmSet1 h1, pmClean]
  | unset => rfl
  | val w =>
    by_cases hw : w.category = 2
    · have h1 : i + 1 < Lc.size := pmLt (hC.2 i w hy hw)
      simp [pmSet1 h1, pmClean, hw]
    · simp [pmClean, hw]
theorem pmSelf1 {A : Array Slot} {i : Nat} {v : Value} (h : i < A.size) (hv : v.category = 1) : storeSelf A i v = some (A.setIfInBounds i (.val v)) := by rw [pmSelfDef _ _ _ hv, pmSet1 h]
theorem pmSelf2 {A : Array Slot} {i : Nat} {z : Int64} {y : Slot} (h : i < A.size) (hy : A[i + 1]? = some y) (h2 : ∀ w, y = .val w → w.category = 2 → i + 2 < A.size) (hn : y ≠ .second) :
    storeSelf A i (.long z) = some (((pmClean A (i + 1) y).setIfInBounds i (.val (.long z))).setIfInBounds (i + 1) .second) := by
  have h1 : i + 1 < A.size := pmLt hy
  have hy' : (A.setIfInBounds i (.val (.long z)))[i + 1]? = some y := by rw [pmGet _ _ _ _ h, if_neg (by omega)]; exact hy
  have ex : storeSelf A i (.long z) = (setAt A i (.val (.long z))).bind fun l => (l[i + 1]?).bind fun x => match x with
    | .val old => if old.category = 2 then (setAt l (i + 2) .unset).bind fun l' => setAt l' (i + 1) .second else setAt l (i + 1) .second
    | _ => setAt l (i + 1) .second := rfl
  rw [ex, pmSet1 h]
  simp only [Option.bind_some, hy']
  have s1 : i + 1 < (A.setIfInBounds i (.val (.long z))).size := by simpa using h1
  cases y with
  | second => exact absurd rfl hn
  | unset => simp [pmSet1 s1, pmClean]
  | val w =>
    by_cases hw : w.category = 2
    · have h3 := h2 w rfl hw
      have s2 : i + 2 < (A.setIfInBounds i (.val (.long z))).size := by simpa using h3
      have s3 : i + 1 < ((A.setIfInBounds i (.val (.long z))).setIfInBounds (i + 2) .unset).size := by simpa using h1
      simp only [hw, if_true, pmSet1 s2, Option.bind_some, pmSet1 s3, pmClean]
      congr 2
      apply Array.ext_getElem?
      intro j
      have h3' : i + 1 + 1 < A.size := h3
      rw [pmGet _ _ _ _ s2, pmGet _ _ _ _ h, pmGet _ _ _ _ (by simpa using h), pmGet _ _ _ _ h3']
      by_cases e1 : i + 2 = j
      · rw [if_pos e1, if_neg (by omega), if_pos (by omega)]
      · rw [if_neg e1]
        by_cases e2 : i = j
        · rw [if_pos e2, if_pos e2]
        · rw [if_neg e2, if_neg e2, if_neg (by omega)]
    · simp [hw, pmSet1 s1, pmClean]
theorem pmClean_set {A : Array Slot} {i : Nat} {y1 : Slot} (iA : i < A.size) (h3 : ∀ w, y1 = .val w → w.category = 2 → i + 2 < A.size) (ny1 : y1 ≠ .second) (x : Slot) {j : Nat} (hj : j ≠ i) : (pmClean (A.setIfInBounds i x) (i + 1) y1)[j]? = (pmClean A (i + 1) y1)[j]? := by
  cases y1 with
  | second => exact absurd rfl ny1
  | unset => simp only [pmClean]; rw [pmGet _ _ _ _ iA, if_neg (Ne.symm hj)]
  | val w =>
    by_cases hw : w.category = 2
    · have h3' : i + 1 + 1 < A.size := h3 w rfl hw
      have h4 : i + 1 + 1 < (A.setIfInBounds i x).size := by simpa using h3'
      simp only [pmClean, hw, if_true]
      rw [pmGet _ _ _ _ h4, pmGet _ _ _ _ iA, pmGet _ _ _ _ h3', if_neg (Ne.symm hj)]
    · simp only [pmClean, hw, if_false]; rw [pmGet _ _ _ _ iA, if_neg (Ne.symm hj)]
theorem pmStore2 {n0 scA : Nat} {Ls L' : List Slot} {Lc : Array Slot} {i : Nat} {z : Int64} (hR : pmLR n0 scA Ls Lc) (hC : pmWC Lc) (h : pmStlL Ls i (.long z) = some L') :
    ∃ Lc', storeLocals Lc i (.long z) = some Lc' ∧ pmLR n0 scA L' Lc' ∧ pmWC Lc' := by
  simp only [pmStlL] at h
  cases h1 : pmStl Ls i (.int 0) with
  | none => rw [h1] at h; cases h
  | some L1 =>
    rw [h1] at h
    dsimp only at h
    cases h2 : pmStl L1 (i + 1) (.int 0) with
    | none => rw [h2] at h; cases h
    | some L2 =>
      rw [h2] at h
      cases h
      obtain ⟨Lc1, e1, R1, C1⟩ := pmStore1 hR hC rfl h1
      obtain ⟨Lc2, e2, R2, C2⟩ := pmStore1 R1 C1 rfl h2
      change storeLocals Lc i (.int 0) = some Lc1 at e1
      change storeLocals Lc1 (i + 1) (.int 0) = some Lc2 at e2
      obtain ⟨y, hy⟩ : ∃ y, Lc[i]? = some y := by
        cases q : Lc[i]? with
        | none => rw [pmStoreDef, q] at e1; cases e1
        | some y => exact ⟨y, rfl⟩
      have hi : i < Lc.size := pmLt hy
      have iA : i < (pmClean Lc i y).size := by rw [pmClean_size]; exact hi
      rw [pmPh hC hy, pmSelf1 iA rfl] at e1
      have e1' : Lc1 = (pmClean Lc i y).setIfInBounds i (.val (.int 0)) := (Option.some.inj e1).symm
      obtain ⟨y1, hy1⟩ : ∃ y, Lc1[i + 1]? = some y := by
        cases q : Lc1[i + 1]? with
        | none => rw [pmStoreDef, q] at e2; cases e2
        | some y => exact ⟨y, rfl⟩
      have l2 : i + 1 < Lc1.size := pmLt hy1
      have iB : i + 1 < (pmClean Lc1 (i + 1) y1).size := by rw [pmClean_size]; exact l2
      rw [pmPh C1 hy1, pmSelf1 iB rfl] at e2
      have e2' : Lc2 = (pmClean Lc1 (i + 1) y1).setIfInBounds (i + 1) (.val (.int 0)) := (Option.some.inj e2).symm
      have g1 : Lc1[i]? = some (.val (.int 0)) := by rw [e1', pmGet _ _ _ _ iA, if_pos rfl]
      have ny1 : y1 ≠ .second := by
        rintro rfl
        obtain ⟨j, w, r1, r2, r3⟩ := C1.1 _ hy1
        have : j = i := by omega
        subst this; rw [g1] at r2; cases r2; simp [Value.category] at r3
      have hyA : (pmClean Lc i y)[i + 1]? = some y1 := by rw [e1', pmGet _ _ _ _ iA, if_neg (by omega)] at hy1; exact hy1
      have h3 : ∀ w, y1 = .val w → w.category = 2 → i + 2 < (pmClean Lc i y).size := by
        intro w hw hc
        subst hw
        have := pmLt (C1.2 _ _ hy1 hc)
        rw [e1'] at this; simpa using this
      have fin := pmSelf2 (z := z) iA hyA h3 ny1
      rw [← pmPh hC hy] at fin
      -- the same array, over the one with two ints
      have clc : ∀ j, j ≠ i → (pmClean Lc1 (i + 1) y1)[j]? = (pmClean (pmClean Lc i y) (i + 1) y1)[j]? := by
        intro j hj
        rw [e1']
        exact pmClean_set iA h3 ny1 _ hj
      have fin' : storeLocals Lc i (.long z) = some ((Lc2.setIfInBounds i (.val (.long z))).setIfInBounds (i + 1) .second) := by
        rw [fin]
        congr 1
        apply Array.ext_getElem?
        intro j
        have q1 : i < (pmClean (pmClean Lc i y) (i + 1) y1).size := by rw [pmClean_size]; exact iA
        have q2 : i + 1 < (pmClean (pmClean Lc i y) (i + 1) y1).size := by rw [pmClean_size]; exact pmLt hyA
        have q3 : i < Lc2.size := by rw [e2']; simp [pmClean_size]; omega
        have q4 : i + 1 < Lc2.size := by rw [e2']; simp [pmClean_size]; omega
        rw [pmGet _ _ _ _ (by simpa using q2), pmGet _ _ _ _ q1, pmGet _ _ _ _ (by simpa using q4), pmGet _ _ _ _ q3]
        by_cases z1 : i + 1 = j
        · rw [if_pos z1, if_pos z1]
        · rw [if_neg z1, if_neg z1]
          by_cases z2 : i = j
          · rw [if_pos z2, if_pos z2]
          · rw [if_neg z2, if_neg z2, e2', pmGet _ _ _ _ iB, if_neg z1]
            exact (clc j (Ne.symm z2)).symm
      have i2 : i < Lc2.size := by rw [e2']; simp [pmClean_size]; omega
      have i21 : i + 1 < Lc2.size := by rw [e2']; simp [pmClean_size]; omega
      have g2 : Lc2[i + 1]? = some (.val (.int 0)) := by rw [e2', pmGet _ _ _ _ iB, if_pos rfl]
      have g2i' : Lc2[i]? = some (.val (.int 0)) := by
        rw [e2', pmGet _ _ _ _ iB, if_neg (by omega)]
        cases y1 with
        | second => exact absurd rfl ny1
        | unset => exact g1
        | val w =>
          simp only [pmClean]
          split
          · rename_i hw
            rw [pmGet _ _ _ _ (pmLt (C1.2 _ _ hy1 hw)), if_neg (by omega)]; exact g1
          · exact g1
      have hget : ∀ j, ((Lc2.setIfInBounds i (.val (.long z))).setIfInBounds (i + 1) .second)[j]? = if i + 1 = j then some .second else if i = j then some (.val (.long z)) else Lc2[j]? := fun j => by
        rw [pmGet _ _ _ _ (by simpa using i21), pmGet _ _ _ _ i2]
      refine ⟨_, fin', ⟨by simp [R2.1], ?_⟩, ?_, ?_⟩
      · intro j x hx hne
        rw [hget]
        by_cases e : i + 1 = j
        · subst e
          rw [if_pos rfl]
          have : i + 1 < L2.length := by rw [← R2.1]; exact i21
          simp [this] at hx; subst hx; rfl
        · rw [if_neg e]
          rw [List.getElem?_set_ne e] at hx
          by_cases e' : i = j
          · subst e'
            rw [if_pos rfl]
            have : i < L2.length := by rw [← R2.1]; exact i2
            simp [this] at hx; subst hx; rfl
          · rw [if_neg e']
            rw [List.getElem?_set_ne e'] at hx
            exact R2.2 j x hx hne
      · intro j hj
        rw [hget] at hj
        by_cases e : i + 1 = j
        · exact ⟨i, .long z, e.symm, by rw [hget, if_neg (by omega), if_pos rfl], rfl⟩
        · rw [if_neg e] at hj
          by_cases e' : i = j
          · rw [if_pos e'] at hj; cases hj
          · rw [if_neg e'] at hj
            obtain ⟨q, w, r1, r2, r3⟩ := C2.1 j hj
            refine ⟨q, w, r1, ?_, r3⟩
            rw [hget, if_neg (fun u => by rw [← u, g2] at r2; cases r2; simp [Value.category] at r3), if_neg (fun u => by rw [← u, g2i'] at r2; cases r2; simp [Value.category] at r3)]
            exact r2
      · intro j w hj hw
        rw [hget] at hj
        by_cases e : i + 1 = j
        · rw [if_pos e] at hj; cases hj
        · rw [if_neg e] at hj
          by_cases e' : i = j
          · subst e'; rw [hget, if_pos rfl]
          · rw [if_neg e'] at hj
            have r := C2.2 j w hj hw
            rw [hget]
            by_cases e2 : i + 1 = j + 1
            · rw [if_pos e2]
            · rw [if_neg e2, if_neg (fun u => by rw [← u, g2i'] at r; cases r)]; exact r
def pmRel (Z : State) (n0 scA : Nat) (σ : Mem) (h : Heap) : Prop :=
  h.size = n0 + σ.1 ∧ σ.1 ≤ t_full ∧
  (t_sc = true → scA < n0 ∧ σ.2.1 < 2147483648 ∧ ∃ c : Cell, Arr Z h scA c .int ∧ c.slots.size = σ.2.1 ∧ ∀ i, i < σ.2.1 → c.slots[i]? = some (.int (σ.2.2.2 0 i))) ∧
  (1 ≤ σ.1 → Exa Z h n0 t_C ∧ σ.2.2.1.length = t_flds.length ∧ ∀ (q : Nat) (f : String × String × FieldType) (v : Value), t_flds[q]? = some f → σ.2.2.1[q]? = some v → Fld Z h n0 t_C f.1 f.2.1 (cv n0 scA v)) ∧
  ∀ (r : Nat) (q : FieldType × Nat), t_arrs[r]? = some q → (r + 2 ≤ σ.1 → ∃ c : Cell, Arr Z h (n0 + (r + 1)) c q.1 ∧ c.slots.size = q.2 ∧ ∀ i, i < q.2 → c.slots[i]? = some (.int (σ.2.2.2 (r + 2) i))) ∧ (σ.1 < r + 2 → ∀ i, i < q.2 → σ.2.2.2 (r + 2) i = 0)
def pmCtx (l : Launch) (Z : State) (n0 scA k : Nat) (σ : Mem) (p : Program) (e : Env) (s : State) (m : MethodId) (args : Array Value) (below : List Frame) (meth : Method) (c : Code) (T : State) (locs : List Loc) : Prop :=
  Stand p l e (t_rm k) s m args below meth c T locs (pmBC k σ.1) (pmBS k σ.1) ∧ p.tables.exec = Jvm.exec ∧ Z.Warmed39 s.vm ∧ c.code = t_bytes k ∧ c.maxLocals = t_ml k ∧ s.vm.findClass (t_nm k).cls = some m.cls ∧ meth.sig.returnType = t_rt k ∧ pmRel Z n0 scA σ T.heap ∧ Fr n0 locs ∧ s.heap.size + pmBC k σ.1 = n0 + σ.1
def pmROk (k a a' : Nat) : Prop := (t_mode k = 0 → a' = a) ∧ (t_mode k = 1 → a' = t_full)
def WM (l : Launch) (Z : State) (n0 scA : Nat) : WPr := fun k pc Ls S σ Q =>
  ∀ (p : Program) (e : Env) (s : State) (m : MethodId) (args : Array Value) (below : List Frame) (meth : Method) (c : Code) (T : State) (locs : List Loc) (Lc : Array Slot),
    pmCtx l Z n0 scA k σ p e s m args below meth c T locs → pmLR n0 scA Ls Lc → pmWC Lc → Ls.length = t_ml k →
    ∃ (v : Option Value) (σ' : Mem) (T' : State) (locs' : List Loc), pmCtx l Z n0 scA k σ' p e s m args below meth c T' locs' ∧ Q v σ' ∧ pmROk k σ.1 σ'.1 ∧ (t_rt k = none → v = none) ∧
      ∀ fs, (∀ (f : JFrame) (acts : List Action), f.method = m → f.locked = none → f.entered = [] → (doReturn e (T'.setTop f) acts (v.map (cv n0 scA))).1 = T'.setFrames fs) → Steps p.tables e below (T.setTop (mkF m pc Lc (S.map (cv n0 scA)))) (T'.setFrames fs)
section Sound
variable {l : Launch} {Z : State} {a0 : Array Value} {n0 scA : Nat}
/-- one step that goes from one point of the same body to another -/
theorem pmStep {k pc pc' : Nat} {Ls Ls' : List Slot} {S S' : List Value} {σ σ' : Mem} {Q : Pst} (h : WM l Z n0 scA k pc' Ls' S' σ' Q) (hlen : Ls'.length = Ls.length) (hro : ∀ a, pmROk k σ'.1 a → pmROk k σ.1 a)
    (st : ∀ (p : Program) (e : Env) (s : State) (m : MethodId) (args : Array Value) (below : List Frame) (meth : Method) (c : Code) (T : State) (locs : List Loc) (Lc : Array Slot), pmCtx l Z n0 scA k σ p e s m args below meth c T locs → pmLR n0 scA Ls Lc → pmWC Lc → Ls.length = t_ml k →
      ∃ (T' : State) (locs' : List Loc) (Lc' : Array Slot), pmCtx l Z n0 scA k σ' p e s m args below meth c T' locs' ∧ pmLR n0 scA Ls' Lc' ∧ pmWC Lc' ∧
        ∀ target, Steps p.tables e below (T'.setTop (mkF m pc' Lc' (S'.map (cv n0 scA)))) target → Steps p.tables e below (T.setTop (mkF m pc Lc (S.map (cv n0 scA)))) target) : WM l Z n0 scA k pc Ls S σ Q := by
  intro p e s m args below meth c T locs Lc hX hR hC hL
  obtain ⟨T1, locs1, Lc1, X1, R1, C1, s1⟩ := st p e s m args below meth c T locs Lc hX hR hC hL
  obtain ⟨v, σ2, T2, locs2, X2, q2, r2, n2, s2⟩ := h p e s m args below meth c T1 locs1 Lc1 X1 R1 C1 (hlen.trans hL)
  exact ⟨v, σ2, T2, locs2, X2, q2, hro _ r2, n2, fun fs hr => s1 _ (s2 fs hr)⟩
/-- a step that touches neither heap nor tables -/
theorem pmPure {k pc pc' : Nat} {Ls Ls' : List Slot} {S S' : List Value} {σ : Mem} {Q : Pst} (h : WM l Z n0 scA k pc' Ls' S' σ Q) (hlen : Ls'.length = Ls.length)
    (st : ∀ (p : Program) (e : Env) (m : MethodId) (below : List Frame) (c : Code) (T : State) (Lc : Array Slot), p.tables.exec = Jvm.exec → At T m c below → c.code = t_bytes k → pmLR n0 scA Ls Lc → pmWC Lc →
      ∃ (Lc' : Array Slot), pmLR n0 scA Ls' Lc' ∧ pmWC Lc' ∧ ∀ target, Steps p.tables e below (T.setTop (mkF m pc' Lc' (S'.map (cv n0 scA)))) target → Steps p.tables e below (T.setTop (mkF m pc Lc (S.map (cv n0 scA)))) target) : WM l Z n0 scA k pc Ls S σ Q :=
  pmStep h hlen (fun _ q => q) fun p e s m args below meth c T locs Lc hX hR hC hL => by
    obtain ⟨Lc', R1, C1, s1⟩ := st p e m below c T Lc hX.2.1 hX.1.here hX.2.2.2.1 hR hC
    exact ⟨T, locs, Lc', hX, R1, C1, s1⟩
/-- and leaves the locals as they are -/
theorem pmPure0 {k pc pc' : Nat} {Ls : List Slot} {S S' : List Value} {σ : Mem} {Q : Pst} (h : WM l Z n0 scA k pc' Ls S' σ Q)
    (st : ∀ (p : Program) (e : Env) (m : MethodId) (below : List Frame) (c : Code) (T : State) (Lc : Array Slot), p.tables.exec = Jvm.exec → At T m c below → c.code = t_bytes k → pmLR n0 scA Ls Lc →
      ∀ target, Steps p.tables e below (T.setTop (mkF m pc' Lc (S'.map (cv n0 scA)))) target → Steps p.tables e below (T.setTop (mkF m pc Lc (S.map (cv n0 scA)))) target) : WM l Z n0 scA k pc Ls S σ Q :=
  pmPure h rfl fun p e m below c T Lc hx hat hby hR hC => ⟨Lc, hR, hC, st p e m below c T Lc hx hat hby hR⟩
/-- a branch -/
theorem pmBranch {k pc : Nat} {Ls : List Slot} {S R : List Value} {σ : Mem} {Q : Pst} {cd : ClassFile.Cond} {x y : Int32} {o : Int} {T F : Prop} (h : pmBr cd x y T F) (hT : T → WM l Z n0 scA k (pmTgt pc o) Ls R σ Q) (hF : F → WM l Z n0 scA k (pc + 3) Ls R σ Q)
    (yes : ∀ (p : Program) (e : Env) (m : MethodId) (below : List Frame) (c : Code) (T : State) (Lc : Array Slot), p.tables.exec = Jvm.exec → At T m c below → c.code = t_bytes k → if_icmp.holds cd x y = true →
      ∀ target, Steps p.tables e below (T.setTop (mkF m (pmTgt pc o) Lc (R.map (cv n0 scA)))) target → Steps p.tables e below (T.setTop (mkF m pc Lc (S.map (cv n0 scA)))) target)
    (no : ∀ (p : Program) (e : Env) (m : MethodId) (below : List Frame) (c : Code) (T : State) (Lc : Array Slot), p.tables.exec = Jvm.exec → At T m c below → c.code = t_bytes k → if_icmp.holds cd x y = false →
      ∀ target, Steps p.tables e below (T.setTop (mkF m (pc + 3) Lc (R.map (cv n0 scA)))) target → Steps p.tables e below (T.setTop (mkF m pc Lc (S.map (cv n0 scA)))) target) : WM l Z n0 scA k pc Ls S σ Q := by
  have go : ∀ b, if_icmp.holds cd x y = b → (b = true → T) → (b = false → F) → WM l Z n0 scA k pc Ls S σ Q := by
    intro b hb h1 h2
    cases b with
    | true => exact pmPure0 (hT (h1 rfl)) fun p e m below c T Lc hx hat hby _ => yes p e m below c T Lc hx hat hby hb
    | false => exact pmPure0 (hF (h2 rfl)) fun p e m below c T Lc hx hat hby _ => no p e m below c T Lc hx hat hby hb
  cases cd
  · by_cases q : x = y
    · exact go true (teq q).1 (fun _ => h.1 q) (fun z => by cases z)
    · exact go false (feq q).1 (fun z => by cases z) (fun _ => h.2 q)
  · by_cases q : x = y
    · exact go false (teq q).2 (fun z => by cases z) (fun _ => h.1 q)
    · exact go true (feq q).2 (fun _ => h.2 q) (fun z => by cases z)
  · by_cases q : x.toInt < y.toInt
    · exact go true (tlt (Int32.lt_iff_toInt_lt.mpr q)).1 (fun _ => h.1 q) (fun z => by cases z)
    · exact go false (flt (fun z => q (Int32.lt_iff_toInt_lt.mp z))).1 (fun z => by cases z) (fun _ => h.2 q)
  · by_cases q : x.toInt < y.toInt
    · exact go false (tlt (Int32.lt_iff_toInt_lt.mpr q)).2.1 (fun z => by cases z) (fun _ => h.1 q)
    · exact go true (flt (fun z => q (Int32.lt_iff_toInt_lt.mp z))).2.1 (fun _ => h.2 q) (fun z => by cases z)
  · by_cases q : y.toInt < x.toInt
    · exact go true (tlt (Int32.lt_iff_toInt_lt.mpr q)).2.2.1 (fun _ => h.1 q) (fun z => by cases z)
    · exact go false (flt (fun z => q (Int32.lt_iff_toInt_lt.mp z))).2.2.1 (fun z => by cases z) (fun _ => h.2 q)
  · by_cases q : y.toInt < x.toInt
    · exact go false (tlt (Int32.lt_iff_toInt_lt.mpr q)).2.2.2 (fun z => by cases z) (fun _ => h.1 q)
    · exact go true (flt (fun z => q (Int32.lt_iff_toInt_lt.mp z))).2.2.2 (fun _ => h.2 q) (fun z => by cases z)
theorem pmStl_len {L L' : List Slot} {i : Nat} {v : Value} (h : pmStl L i v = some L') : L'.length = L.length := by
  unfold pmStl at h
  split at h <;> first | (cases h; done) | (cases h; simp; done) | (split at h <;> first | (cases h; done) | (cases h; simp; done))
theorem pmStlL_len {L L' : List Slot} {i : Nat} {v : Value} (h : pmStlL L i v = some L') : L'.length = L.length := by
  unfold pmStlL at h
  split at h
  · cases h
  · rename_i L1 h1
    split at h
    · cases h
    · rename_i L2 h2
      cases h
      simp [pmStl_len h2, pmStl_len h1]
theorem clampNeg (x : Int32) : x.toNatClampNeg = x.toInt.toNat := rfl
theorem pmInb {j : Int32} {n : Nat} {c : Cell} (hs : c.slots.size = n) (h : 0 ≤ j.toInt ∧ j.toInt < (n : Int)) : ¬ (j < 0 ∨ c.slots.size ≤ j.toNatClampNeg) := by
  rw [hs, clampNeg, Int32.lt_iff_toInt_lt]
  have e0 : (0 : Int32).toInt = 0 := rfl
  rw [e0]; omega
/-- an array as the memory says -/
theorem pmArr {σ : Mem} {h : Heap} {r : Nat} (R : pmRel Z n0 scA σ h) (ht : pmThere r σ.1 = true) : ∃ c : Cell, Arr Z h (pmRho n0 scA r) c (pmTy r) ∧ c.slots.size = pmLen r σ ∧ ∀ i, i < pmLen r σ → c.slots[i]? = some (.int (σ.2.2.2 r i)) := by
  match r, ht with
  | 0, ht =>
    obtain ⟨-, -, c, h1, h2, h3⟩ := R.2.2.1 ht
    exact ⟨c, h1, h2, h3⟩
  | r + 2, ht =>
    have ht' : r + 2 ≤ σ.1 := Nat.le_of_ble_eq_true ht
    have hr : r < t_arrs.length := by have := R.2.1; rw [f_full] at this; omega
    have hq : t_arrs[r]? = some t_arrs[r] := List.getElem?_eq_getElem hr
    obtain ⟨c, h1, h2, h3⟩ := (R.2.2.2.2 r _ hq).1 ht'
    have e1 : pmTy (r + 2) = t_arrs[r].1 := by simp only [pmTy, hq]
    have e2 : pmLen (r + 2) σ = t_arrs[r].2 := by simp only [pmLen, hq]
    rw [e1, e2]
    exact ⟨c, h1, h2, h3⟩
theorem pmROk_same {k : Nat} {σ σ' : Mem} (h : σ'.1 = σ.1) : ∀ a, pmROk k σ'.1 a → pmROk k σ.1 a := fun a q => h ▸ q
end Sound
section Sound
variable {l : Launch} {Z : State} {a0 : Array Value} {n0 scA : Nat}
theorem pmLaid (hw : ∀ d ∈ tables_1, d.before a0 Z = true) {q : Nat} {f : String × String × FieldType} (h : t_flds[q]? = some f) : (Jvm.Cond.lays t_C t_C f.1 f.2.1).before a0 Z = true ∧ parseFieldDescriptor f.2.1 = some f.2.2 :=
  ⟨hw _ (f_lays f (List.mem_of_getElem? h)).1, (f_lays f (List.mem_of_getElem? h)).2⟩
theorem pmSlotNe (hw : ∀ d ∈ tables_1, d.before a0 Z = true) {q q' : Nat} {f f' : String × String × FieldType} (h : t_flds[q]? = some f) (h' : t_flds[q']? = some f') (hne : q ≠ q') : Jvm.RoadKit.slotOf Z t_C f.1 f.2.1 ≠ Jvm.RoadKit.slotOf Z t_C f'.1 f'.2.1 := by
  have n := f_names q q' (List.getElem?_eq_some_iff.mp h).1 (List.getElem?_eq_some_iff.mp h').1 hne
  rw [h, h'] at n
  exact slot_ne (Or.inl (pmLaid hw h).1) (Or.inl (pmLaid hw h').1) (fun e => n (by simp [e])) (pmLaid hw h).2 (pmLaid hw h').2
theorem pmRel_put (hw : ∀ d ∈ tables_1, d.before a0 Z = true) {σ : Mem} {h h' : Heap} {q : Nat} {f : String × String × FieldType} {v : Value} (R : pmRel Z n0 scA σ h) (h1 : 1 ≤ σ.1) (hf : t_flds[q]? = some f) (W : Wr h h' n0 (Jvm.RoadKit.slotOf Z t_C f.1 f.2.1) (cv n0 scA v)) :
    pmRel Z n0 scA (σ.1, σ.2.1, σ.2.2.1.set q v, σ.2.2.2) h' := by
  obtain ⟨r1, r2, r3, r4, r5⟩ := R
  refine ⟨W.size.trans r1, r2, fun ht => ?_, fun h1' => ?_, fun r z hz => ⟨fun hr => ?_, (r5 r z hz).2⟩⟩
  · obtain ⟨a1, a2, c, A, a3⟩ := r3 ht
    exact ⟨a1, a2, c, A.other W (show (scA : Nat) ≠ n0 by omega), a3⟩
  · obtain ⟨E, hl, F⟩ := r4 h1
    refine ⟨E.wr W, by simpa using hl, fun q' f' v' hf' hv' => ?_⟩
    by_cases e : q = q'
    · subst e
      cases hf.symm.trans hf'
      have hq : q < σ.2.2.1.length := by rw [hl]; exact (List.getElem?_eq_some_iff.mp hf).1
      have e2 : v' = v := by simpa [hq] using hv'.symm
      subst e2
      exact Fld.same W (F q f _ hf (List.getElem?_eq_getElem hq))
    · have hv2 : σ.2.2.1[q']? = some v' := by simpa [List.getElem?_set_ne e] using hv'
      exact Fld.other W (F q' f' v' hf' hv2) (Or.inr (pmSlotNe hw hf' hf (Ne.symm e)))
  · obtain ⟨c, A, a3⟩ := (r5 r z hz).1 hr
    exact ⟨c, A.other W (show (n0 + (r + 1) : Nat) ≠ n0 by omega), a3⟩
theorem pmRel_set {σ : Mem} {h h' : Heap} {r i : Nat} {v : Int32} (R : pmRel Z n0 scA σ h) (hr : r + 2 ≤ σ.1) (hi : i < pmLen (r + 2) σ) (W : Wr h h' (n0 + (r + 1)) i (.int v)) :
    pmRel Z n0 scA (σ.1, σ.2.1, σ.2.2.1, pmSet σ.2.2.2 (r + 2) i v) h' := by
  obtain ⟨r1, r2, r3, r4, r5⟩ := R
  refine ⟨W.size.trans r1, r2, fun ht => ?_, fun h1 => ?_, fun r' z hz => ⟨fun hr' => ?_, fun hr' j hj => ?_⟩⟩
  · obtain ⟨a1, a2, c, A, a3, a4⟩ := r3 ht
    exact ⟨a1, a2, c, A.other W (show (scA : Nat) ≠ n0 + (r + 1) by omega), a3, fun j hj => by rw [a4 j hj]; simp [pmSet]⟩
  · obtain ⟨E, hl, F⟩ := r4 h1
    exact ⟨E.wr W, hl, fun q' f' v' hf' hv' => Fld.other W (F q' f' v' hf' hv') (Or.inl (show (n0 : Nat) ≠ n0 + (r + 1) by omega))⟩
  · obtain ⟨c, A, a3, a4⟩ := (r5 r' z hz).1 hr'
    by_cases e : r' = r
    · subst e
      have hi' : i < z.2 := by simpa only [pmLen, hz] using hi
      refine ⟨_, A.same W, by simp [Cell.setSlot, a3], fun j hj => ?_⟩
      by_cases e2 : i = j
      · subst e2; simp [Cell.setSlot, a3, hi', pmSet]
      · simp only [Cell.setSlot, Array.getElem?_setIfInBounds_ne e2]
        rw [a4 j hj]; simp [pmSet, Ne.symm e2]
    · refine ⟨c, A.other W (show (n0 + (r' + 1) : Nat) ≠ n0 + (r + 1) by omega), a3, fun j hj => ?_⟩
      rw [a4 j hj]
      simp [pmSet, e]
  · have e : ¬ r' = r := fun e => by subst e; simp only at hr'; omega
    have := (r5 r' z hz).2 hr' j hj
    simp [pmSet, e, this]
theorem pmRel_new (hw : ∀ d ∈ tables_1, d.before a0 Z = true) {n : Nat} {F : List Value} {A : Nat → Nat → Int32} {h h' : Heap} (R : pmRel Z n0 scA (0, n, F, A) h) (E : Ext h h') (hs : h'.size = h.size + 1) (X : Exa Z h' h.size t_C)
    (D : ∀ {O nm d : String} {ty : FieldType}, Laid Z a0 t_C O nm d → parseFieldDescriptor d = some ty → Fld Z h' h.size O nm d (defaultValue ty)) : pmRel Z n0 scA (1, n, t_flds.map (fun f => defaultValue f.2.2), A) h' := by
  obtain ⟨r1, r2, r3, r4, r5⟩ := R
  have r1' : h.size = n0 := r1
  refine ⟨by rw [hs, r1'], by rw [f_full]; simp, fun ht => ?_, fun _ => ⟨by rw [← r1']; exact X, by simp, fun q f v hf hv => ?_⟩, fun r z hz => ⟨fun hr => ?_, fun hr j hj => ?_⟩⟩
  · obtain ⟨a1, a2, c, A1, a3⟩ := r3 ht
    exact ⟨a1, a2, c, A1.ext E, a3⟩
  · have e : v = defaultValue f.2.2 := by simpa [hf] using hv.symm
    subst e
    have := D (Or.inl (pmLaid hw hf).1) (pmLaid hw hf).2
    rw [r1'] at this
    have e2 : cv n0 scA (defaultValue f.2.2) = defaultValue f.2.2 := by cases f.2.2 <;> rfl
    rw [e2]; exact this
  · simp only at hr; omega
  · exact (r5 r z hz).2 (by simp) j hj
theorem pmRel_arr {a n : Nat} {F : List Value} {A : Nat → Nat → Int32} {h h' : Heap} {z : FieldType × Nat} {cA : ClassId} {m : Int32} (R : pmRel Z n0 scA (a + 1, n, F, A) h) (E : Ext h h') (hs : h'.size = h.size + 1) (hz : t_arrs[a]? = some z) (hm : m = Int32.ofNat z.2) (hz2 : z.2 < 4096)
    (hd : defaultValue z.1 = .int 0) (B : Arr Z h' h.size (newA cA z.1 m) z.1) : pmRel Z n0 scA (a + 2, n, F, A) h' := by
  obtain ⟨r1, r2, r3, r4, r5⟩ := R
  have r1' : h.size = n0 + (a + 1) := r1
  have ha : a < t_arrs.length := (List.getElem?_eq_some_iff.mp hz).1
  have hm' : m.toNatClampNeg = z.2 := by
    subst hm
    rw [clampNeg]
    have : (Int32.ofNat z.2).toInt = (z.2 : Int) := Int32.toInt_ofNat_of_lt (by omega)
    rw [this]; simp
  refine ⟨by rw [hs, r1']; omega, by rw [f_full]; omega, fun ht => ?_, fun _ => ?_, fun r w hw => ⟨fun hr => ?_, fun hr j hj => ?_⟩⟩
  · obtain ⟨a1, a2, c, A1, a3⟩ := r3 ht
    exact ⟨a1, a2, c, A1.ext E, a3⟩
  · obtain ⟨X, hl, F1⟩ := r4 (by simp)
    exact ⟨X.ext E, hl, fun q f v hf hv => (F1 q f v hf hv).ext E⟩
  · by_cases e : r = a
    · subst e
      cases hz.symm.trans hw
      refine ⟨_, by rw [← r1']; exact B, by simp [newA, hm'], fun j hj => ?_⟩
      have z0 : A (r + 2) j = 0 := (r5 r z hz).2 (by simp) j hj
      show (newA cA z.1 m).slots[j]? = some (.int (A (r + 2) j))
      rw [z0]
      simp [newA, hm', hj, hd]
    · have hr' : r + 2 ≤ a + 2 := hr
      obtain ⟨c, A1, a3⟩ := (r5 r w hw).1 (show r + 2 ≤ a + 1 by omega)
      exact ⟨c, A1.ext E, a3⟩
  · exact (r5 r w hw).2 (show a + 1 < r + 2 by have : a + 2 < r + 2 := hr; omega) j hj
/-! entering a body -/
theorem pmSlots_loc (n0 scA : Nat) (as : List Value) (hnd : ∀ v ∈ as, ∀ b, v ≠ .double b) : ((as.map (cv n0 scA)).foldl (fun (acc : Array Slot) v => if v.category = 2 then (acc.push (.val v)).push .second else acc.push (.val v)) #[]).toList = (pmSlots as).map (cs n0 scA) := by
  have gen : ∀ (as : List Value) (acc : Array Slot), (∀ v ∈ as, ∀ b, v ≠ .double b) → ((as.map (cv n0 scA)).foldl (fun (acc : Array Slot) v => if v.category = 2 then (acc.push (.val v)).push .second else acc.push (.val v)) acc).toList = acc.toList ++ (pmSlots as).map (cs n0 scA) := by
    intro as
    induction as with
    | nil => intro acc _; simp [pmSlots]
    | cons v r ih =>
      intro acc hnd
      rw [List.map_cons, List.foldl_cons, ih _ (fun w hw => hnd w (List.mem_cons_of_mem _ hw))]
      cases v <;> first | (simp [pmSlots, cv, cs, Value.category]; done) | exact absurd rfl (hnd _ (List.mem_cons_self ..) _)
  simpa using gen as #[] hnd
theorem pmEntry_loc (n0 scA ml : Nat) (as : List Value) (hnd : ∀ v ∈ as, ∀ b, v ≠ .double b) : argsToLocals (as.map (cv n0 scA)).toArray ml = ((pmEntry ml as).map (cs n0 scA)).toArray := by
  have h := pmSlots_loc n0 scA as hnd
  apply Array.toList_inj.mp
  unfold argsToLocals
  simp only [List.foldl_toArray', Array.toList_append, Array.toList_replicate, List.toList_toArray]
  rw [pmEntry, List.map_append, h]
  congr 1
  have : (List.foldl (fun (acc : Array Slot) v => if v.category = 2 then (acc.push (.val v)).push .second else acc.push (.val v)) #[] (as.map (cv n0 scA))).size = (pmSlots as).length := by
    rw [← Array.length_toList, h, List.length_map]
  rw [this]
  simp [cs]
theorem pmSlots_wc (as : List Value) : (∀ i : Nat, (pmSlots as)[i]? = some .second → ∃ j v, i = j + 1 ∧ (pmSlots as)[j]? = some (.val v) ∧ v.category = 2) ∧ (∀ (i : Nat) (v : Value), (pmSlots as)[i]? = some (.val v) → v.category = 2 → (∀ b, v ≠ .double b) → (pmSlots as)[i + 1]? = some .second) := by
  induction as with
  | nil => exact ⟨fun i h => by simp [pmSlots] at h, fun i v h => by simp [pmSlots] at h⟩
  | cons v r ih =>
    have one : ∀ w : Value, w.category = 1 ∨ (∃ b, w = .double b) → ((∀ i : Nat, (.val w :: pmSlots r)[i]? = some .second → ∃ j v, i = j + 1 ∧ (.val w :: pmSlots r)[j]? = some (.val v) ∧ v.category = 2) ∧ (∀ (i : Nat) (v : Value), (.val w :: pmSlots r)[i]? = some (.val v) → v.category = 2 → (∀ b, v ≠ .double b) → (.val w :: pmSlots r)[i + 1]? = some .second)) := by
      intro w hw
      refine ⟨fun i h => ?_, fun i u h hc hd => ?_⟩
      · cases i with
        | zero => simp at h
        | succ i =>
          obtain ⟨j, u, e, g, q⟩ := ih.1 i (by simpa using h)
          exact ⟨j + 1, u, by omega, by simpa using g, q⟩
      · cases i with
        | zero =>
          have : u = w := by simpa using h.symm
          subst this
          rcases hw with hw | ⟨b, rfl⟩
          · rw [hw] at hc; cases hc
          · exact absurd rfl (hd b)
        | succ i => simpa using ih.2 i u (by simpa using h) hc hd
    cases v with
    | long z =>
      refine ⟨fun i h => ?_, fun i u h hc hd => ?_⟩
      · match i, h with
        | 0, h => simp [pmSlots] at h
        | 1, h => exact ⟨0, .long z, rfl, by simp [pmSlots], rfl⟩
        | i + 2, h =>
          obtain ⟨j, u, e, g, q⟩ := ih.1 i (by simpa [pmSlots] using h)
          exact ⟨j + 2, u, by omega, by simpa [pmSlots] using g, q⟩
      · match i, h with
        | 0, h => simp [pmSlots]
        | 1, h => simp [pmSlots] at h
        | i + 2, h => simpa [pmSlots] using ih.2 i u (by simpa [pmSlots] using h) hc hd
    | int z => exact one _ (Or.inl rfl)
    | float z => exact one _ (Or.inl rfl)
    | double z => exact one _ (Or.inr ⟨_, rfl⟩)
    | null => exact one _ (Or.inl rfl)
    | ref z => exact one _ (Or.inl rfl)
    | retAddr z => exact one _ (Or.inl rfl)
theorem pmEntry_ok (n0 scA ml : Nat) (as : List Value) (hnd : ∀ v ∈ as, ∀ b, v ≠ .double b) : pmLR n0 scA (pmEntry ml as) ((pmEntry ml as).map (cs n0 scA)).toArray ∧ pmWC ((pmEntry ml as).map (cs n0 scA)).toArray := by
  have nd : ∀ (i : Nat) (v : Value), (pmSlots as)[i]? = some (.val v) → ∀ b, v ≠ .double b := by
    intro i v h b e
    subst e
    have : ∀ (as : List Value), (∀ v ∈ as, ∀ b, v ≠ .double b) → Slot.val (.double b) ∉ pmSlots as := by
      intro as
      induction as with
      | nil => intro _ q; simp [pmSlots] at q
      | cons w r ih =>
        intro hn q
        have ih' := ih (fun w hw => hn w (List.mem_cons_of_mem _ hw))
        cases w with
        | double d => exact hn _ (List.mem_cons_self ..) _ rfl
        | _ => simp [pmSlots] at q; exact ih' q
    exact this as hnd (List.mem_of_getElem? h)
  have app : ∀ (i : Nat) (x : Slot), (pmEntry ml as)[i]? = some x → x ≠ .unset → (pmSlots as)[i]? = some x := by
    intro i x h hx
    unfold pmEntry at h
    by_cases q : i < (pmSlots as).length
    · rwa [List.getElem?_append_left q] at h
    · rw [List.getElem?_append_right (Nat.le_of_not_lt q), List.getElem?_replicate] at h
      split at h
      · cases h; exact absurd rfl hx
      · cases h
  have app' : ∀ (i : Nat) (x : Slot), (pmSlots as)[i]? = some x → (pmEntry ml as)[i]? = some x := by
    intro i x h
    unfold pmEntry
    rw [List.getElem?_append_left (List.getElem?_eq_some_iff.mp h).1]; exact h
  refine ⟨⟨by simp, fun i x h _ => by simp [h]⟩, fun i h => ?_, fun i v h hc => ?_⟩
  · have h' : (pmEntry ml as)[i]? = some .second := by
      simp only [List.getElem?_toArray, List.getElem?_map, Option.map_eq_some_iff] at h
      obtain ⟨x, h1, h2⟩ := h
      cases x <;> simp [cs] at h2
      exact h1
    obtain ⟨j, v, e, g, q⟩ := (pmSlots_wc as).1 i (app i _ h' (by simp))
    exact ⟨j, cv n0 scA v, e, by simp [app' j _ g, cs], by rw [cv_cat]; exact q⟩
  · simp only [List.getElem?_toArray, List.getElem?_map, Option.map_eq_some_iff] at h
    obtain ⟨x, h1, h2⟩ := h
    cases x with
    | unset => simp [cs] at h2
    | second => simp [cs] at h2
    | val w =>
      have e : cv n0 scA w = v := by simpa [cs] using h2
      subst e
      rw [cv_cat] at hc
      have g := app i _ h1 (by simp)
      have := (pmSlots_wc as).2 i w g hc (nd i w g)
      simp [app' _ _ this, cs]
end Sound
section Sound
variable {l : Launch} {Z : State} {a0 : Array Value} {n0 scA : Nat}
theorem pmWt_sum (n0 scA : Nat) (S : List Value) : ((S.map (cv n0 scA)).map fun v => v.category).sum = pmWt S := by
  induction S with
  | nil => rfl
  | cons v r ih =>
    rw [List.map_cons, List.map_cons, List.sum_cons, ih]
    cases v <;> rfl
theorem pmPop_spec {n : Nat} : ∀ {as S bs R : List Value}, pmPop n as S = some (bs, R) → bs.reverse ++ R = as.reverse ++ S ∧ bs.length = n + as.length := by
  induction n with
  | zero => intro as S bs R h; cases h; exact ⟨rfl, by simp⟩
  | succ n ih =>
    intro as S bs R h
    cases S with
    | nil => cases h
    | cons v S =>
      obtain ⟨h1, h2⟩ := ih (show pmPop n (v :: as) S = some (bs, R) from h)
      exact ⟨by rw [h1]; simp, by rw [h2]; simp; omega⟩
/-- what a body leaves -/
def pmLeft (Z : State) (n0 scA k : Nat) (a : Nat) (Q : Pst) (v : Option Value) (h : Heap) (L : List Loc) : Prop := ∃ (w : Option Value) (σ' : Mem), v = w.map (cv n0 scA) ∧ Q w σ' ∧ pmRel Z n0 scA σ' h ∧ Fr n0 L ∧ pmROk k a σ'.1
theorem pmMet (hw : ∀ d ∈ tables_1, d.before a0 Z = true) {k : Nat} {as : List Value} {σ : Mem} {Q : Pst} {h0 : Heap} (ws : List Jvm.Cond) (H : WM l Z n0 scA k 0 (pmEntry (t_ml k) as) [] σ Q) (R : pmRel Z n0 scA σ h0) (hpl : plainName (t_nm k).cls = true) (hnd : ∀ v ∈ as, ∀ b, v ≠ .double b)
    (hlen : (pmEntry (t_ml k) as).length = t_ml k) (hc : pmBC k σ.1 = 0) (hs : pmBS k σ.1 = 0) (cc ss : Nat) (hcc : ∀ a, pmROk k σ.1 a → a ≤ t_full → pmBC k a ≤ cc ∧ pmBS k a ≤ ss) :
    MetFree l (t_nm k) (head1 (Jvm.Cond.code (t_nm k) (t_bytes k) (t_ml k) (t_rt k) :: ws) (t_rm k)) (fun a U => a = (as.map (cv n0 scA)).toArray ∧ Z.Warmed39 U.vm ∧ U.heap = h0) (fun _ _ _ _ _ => True)
      (fun _ U o U' => ∃ v L, o = .returned v ∧ pmLeft Z n0 scA k σ.1 Q v U'.heap L ∧ FrameEnd U o U' L cc ss) := by
  refine MetFree.of_bodySF (plainFor_of_name hpl) hisR ?_
  intro p e s m args below meth c s₁ Bd hml0 hP hK
  obtain ⟨rfl, hZ, hh⟩ := hP
  have hx := Bd.exec
  have hby := Bd.bytes
  have hown : s.vm.findClass (t_nm k).cls = some m.cls := findClass_of_methodNamed Bd.named
  have X0 : Stand p l e (t_rm k) s m (as.map (cv n0 scA)).toArray below meth c s₁ [] 0 0 := Stand.of_body Bd
  have e0 : s₁.heap = h0 := by rw [← hh, Bd.state]; rfl
  obtain ⟨eR, eC⟩ := pmEntry_ok n0 scA (t_ml k) as hnd
  have X0' : pmCtx l Z n0 scA k σ p e s m (as.map (cv n0 scA)).toArray below meth c s₁ [] := ⟨by rw [hc, hs]; exact X0, hx, hZ, hby, hml0, hown, Bd.returns, by rw [e0]; exact R, Fr.nil n0, by rw [hc, hh, R.1]; rfl⟩
  obtain ⟨v, σ', T', locs', X', q', r', n', st⟩ := H p e s m _ below meth c s₁ [] _ X0' eR eC hlen
  have ef : entryFrame m (as.map (cv n0 scA)).toArray (t_ml k) = mkF m 0 ((pmEntry (t_ml k) as).map (cs n0 scA)).toArray [] := by
    rw [entryFrame, pmEntry_loc n0 scA _ as hnd]
  obtain ⟨fs, hr, hrun, hended, hW, hsame⟩ := X'.1.leave (v := v.map (cv n0 scA)) (fun h => by rw [Bd.returns] at h; rw [n' h]; rfl)
  obtain ⟨b1, b2⟩ := hcc σ'.1 r' X'.2.2.2.2.2.2.2.1.2.1
  refine ⟨_, _, castTop ef (st fs hr), hrun, hended, _, _, rfl, ⟨v, σ', rfl, q', ?_, X'.2.2.2.2.2.2.2.2.1, r'⟩, ⟨_, rfl⟩, hW, hsame.mono b1 b2⟩
  exact X'.2.2.2.2.2.2.2.1
theorem pmRm {k : Nat} : (t_mode k = 0 → (t_rm k).cells = 0 ∧ (t_rm k).slots = 0) ∧ (t_mode k = 1 → (t_rm k).cells = t_full - 1 ∧ (t_rm k).slots = pmSS t_full - pmSS 1) := f_rm k
/-- a call, whatever links it -/
theorem pmCallS (hw : ∀ d ∈ tables_1, d.before a0 Z = true) {k k' pc : Nat} {Ls : List Slot} {S as R : List Value} {σ : Mem} {Q : Pst} (hpop : pmPop (t_np k') [] S = some (as, R)) (hpl : plainName (t_nm k').cls = true)
    (hcode : (Jvm.Cond.code (t_nm k') (t_bytes k') (t_ml k') (t_rt k')) ∈ tables_1) (hinit : (Jvm.Cond.initialized (t_nm k').cls) ∈ tables_1)
    (h : pmCall (WM l Z n0 scA) k k' as R σ fun v σ' => WM l Z n0 scA k (pc + 3) Ls (pmPush v R) σ' Q)
    (link : ∀ (p : Program) (e : Env) (s : State) (m : MethodId) (args : Array Value) (below : List Frame) (meth : Method) (c : Code) (T : State) (locs : List Loc) (Lc : Array Slot) (Pre : Pt → Array Value → Prop) (Post : Pt → Array Value → Option Value → Pt → Prop),
      pmCtx l Z n0 scA k σ p e s m args below meth c T locs → Lc.size = c.maxLocals → Back l (t_rm k) p e below s args (t_nm k') 3 (pmWt R) Pre Post →
      (∀ vm₁, s.WarmedH vm₁ → Pre ⟨T.setVm vm₁, locs, pmBC k σ.1, pmBS k σ.1⟩ (as.map (cv n0 scA)).toArray) →
      ∃ (v : Option Value) (vm₁ : Vm) (B : Pt), s.WarmedH vm₁ ∧ Stand p l e (t_rm k) s m args below meth c B.U B.locs B.cells B.slots ∧ Post ⟨T.setVm vm₁, locs, pmBC k σ.1, pmBS k σ.1⟩ (as.map (cv n0 scA)).toArray v B ∧
        ∀ target, Steps p.tables e below (B.U.setTop (mkF m (pc + 3) Lc (v.toList ++ R.map (cv n0 scA)))) target → Steps p.tables e below (T.setTop (mkF m pc Lc (S.map (cv n0 scA)))) target) : WM l Z n0 scA k pc Ls S σ Q := by
  unfold pmCall at h
  cases hrf : (pmRoom k k' R σ.1 && pmFit k' as) with
  | false => rw [hrf] at h; exact h.elim
  | true =>
    rw [hrf] at h
    dsimp only at h
    obtain ⟨hr, hfit⟩ := Bool.and_eq_true_iff.mp hrf
    intro p e s m args below meth c T locs Lc hX hR hC hL
    obtain ⟨X, hx, hZ, hby, hml, hown, hret, hRel, hFr, hSz⟩ := id hX
    simp only [pmRoom, Bool.and_eq_true] at hr
    obtain ⟨⟨hf, hl⟩, hm⟩ := hr
    have hf' := Nat.le_of_ble_eq_true hf
    have hl' := Nat.le_of_ble_eq_true hl
    have hnd : ∀ v ∈ as, ∀ b, v ≠ .double b := by
      intro v hv b e
      subst e
      simp only [pmFit, Bool.and_eq_true, List.all_eq_true] at hfit
      exact Bool.noConfusion (hfit.2 _ hv)
    have hlen : (pmEntry (t_ml k') as).length = t_ml k' := by
      simp only [pmFit, Bool.and_eq_true] at hfit
      have := Nat.le_of_ble_eq_true hfit.1
      simp [pmEntry]; omega
    have facts : pmBC k' σ.1 = 0 ∧ pmBS k' σ.1 = 0 ∧ pmBC k σ.1 + (t_rm k').cells ≤ (t_rm k).cells ∧ pmBS k σ.1 + (t_rm k').slots ≤ (t_rm k).slots ∧ (∀ a, pmROk k' σ.1 a → a ≤ t_full → pmBC k' a ≤ (t_rm k').cells ∧ pmBS k' a ≤ (t_rm k').slots) ∧
        (∀ a, pmROk k' σ.1 a → pmBC k a = pmBC k σ.1 + (t_rm k').cells ∧ pmBS k a = pmBS k σ.1 + (t_rm k').slots ∧ (∀ b, pmROk k a b → pmROk k σ.1 b) ∧ (s.heap.size + pmBC k σ.1 = n0 + σ.1 → s.heap.size + pmBC k a = n0 + a)) := by
      rcases f_mode (k := k') with h0 | h0 | ⟨h0, -⟩
      · obtain ⟨c1, c2⟩ := pmRm.1 h0
        rw [h0] at hm
        simp only [Bool.and_eq_true] at hm
        have g1 := Nat.le_of_ble_eq_true hm.1
        have g2 := Nat.le_of_ble_eq_true hm.2
        refine ⟨by simp [pmBC, h0], by simp [pmBS, h0], by omega, by omega, fun a _ _ => ⟨by simp [pmBC, h0], by simp [pmBS, h0]⟩, fun a ha => ?_⟩
        rw [ha.1 h0, c1, c2]
        exact ⟨rfl, rfl, fun _ q => q, fun q => q⟩
      · obtain ⟨c1, c2⟩ := pmRm.2 h0
        rw [h0] at hm
        simp only [Bool.and_eq_true] at hm
        have g1 := Nat.eq_of_beq_eq_true hm.1
        have g2 := Nat.eq_of_beq_eq_true hm.2
        have k0 : k = 0 := by
          rcases f_mode (k := k) with q | q | q
          · omega
          · omega
          · exact q.2
        have q1 : pmBC k 1 = 1 := by simp [pmBC, g1]
        have q2 : pmBS k 1 = pmSS 1 := by simp [pmBS, g1]
        have q3 : 1 ≤ t_full := by rw [f_full]; omega
        refine ⟨by simp [pmBC, h0, g2], by simp [pmBS, h0, g2], ?_, ?_, fun a ha _ => ?_, fun a ha => ?_⟩
        · rw [g2, q1, c1, k0]; exact f_law.1
        · rw [g2, q2, c2, k0]; exact f_law.2
        · rw [ha.2 h0, c1, c2]; exact ⟨by simp [pmBC, h0], by simp [pmBS, h0]⟩
        · have := ha.2 h0
          subst this
          rw [g2, q1, q2, c1, c2]
          refine ⟨by simp only [pmBC, g1]; omega, ?_, fun b hb => ⟨fun z => by omega, fun z => by omega⟩, fun q => by simp only [pmBC, g1]; omega⟩
          have : pmSS 1 ≤ pmSS t_full := f_ss
          simp only [pmBS, g1]; omega
      · rw [h0] at hm; cases hm
    obtain ⟨d1, d2, d3, d4, d5, d6⟩ := facts
    have met := pmMet hw [] h hRel hpl hnd hlen d1 d2 (t_rm k').cells (t_rm k').slots d5
    have bk := backOf (W := pmWt R) (R := t_rm k) (p := p) (e := e) (below := below) (s := s) (args := args) (len := 3) met hZ (hw _ hcode) (hw _ hinit) hf' hl'
    obtain ⟨v, vm₁, ⟨T1, L1, c1, s1⟩, -, X1, ⟨Lc1, hQ, e1, e2, e3⟩, st⟩ := link p e s m args below meth c T locs Lc _ _ hX (by rw [hR.1, hL, hml]) bk (fun vm₁ _ => ⟨rfl, rfl, d3, d4⟩)
    dsimp only [Pt.U, Pt.locs, Pt.cells, Pt.slots] at X1 e1 e2 e3 hQ st
    obtain ⟨w, σ1, rfl, hK, hR1, hF1, hO1⟩ := hQ
    obtain ⟨g1, g2, g3, g4⟩ := d6 σ1.1 hO1
    subst e1 e2 e3
    have hctx : pmCtx l Z n0 scA k σ1 p e s m args below meth c T1 (locs ++ Lc1) := ⟨by rw [g1, g2]; exact X1, hx, hZ, hby, hml, hown, hret, hR1, Fr.app hFr hF1, g4 hSz⟩
    obtain ⟨v2, σ2, T2, locs2, X2, q2, r2, n2, st2⟩ := hK p e s m args below meth c T1 (locs ++ Lc1) Lc hctx hR hC hL
    refine ⟨v2, σ2, T2, locs2, X2, q2, g3 _ r2, n2, fun fs hr => st _ ?_⟩
    have := st2 fs hr
    cases w with
    | none => exact this
    | some w => exact this
theorem pmMono {k pc : Nat} {Ls : List Slot} {S : List Value} {σ : Mem} {Q Q' : Pst} (h : WM l Z n0 scA k pc Ls S σ Q) (hq : ∀ v σ', Q v σ' → Q' v σ') : WM l Z n0 scA k pc Ls S σ Q' := by
  intro p e s m args below meth c T locs Lc hX hR hC hL
  obtain ⟨v, σ2, T2, locs2, X2, q2, r⟩ := h p e s m args below meth c T locs Lc hX hR hC hL
  exact ⟨v, σ2, T2, locs2, X2, hq _ _ q2, r⟩
theorem pmCallMono {k k' : Nat} {as R : List Value} {σ : Mem} {K K' : Pst} (h : pmCall (WM l Z n0 scA) k k' as R σ K) (hk : ∀ v σ', K v σ' → K' v σ') : pmCall (WM l Z n0 scA) k k' as R σ K' := by
  unfold pmCall at h ⊢
  split at h
  · exact pmMono h hk
  · exact h.elim
theorem pmOwnC {k pc : Nat} {i : Instr × Nat × Nat} (h : t_ins k pc = some i) (hc : t_isC k = true) : (t_nm k).cls = t_C := by have := f_own h; rw [hc] at this; exact this
theorem pmFieldW (hw : ∀ d ∈ tables_1, d.before a0 Z = true) {k pc j q : Nat} {i : Instr × Nat × Nat} (hi : t_ins k pc = some i) (h : t_fl k j = some q) : ∃ f : String × String × FieldType, t_flds[q]? = some f ∧ (Jvm.Cond.fieldLink (t_nm k).cls j t_C f.1 f.2.1).before a0 Z = true := by
  unfold t_fl at h
  cases hc : t_isC k with
  | false => rw [hc] at h; cases h
  | true =>
    rw [hc] at h
    obtain ⟨n, d, ty, h1, h2⟩ := f_fls _ (pmLk_mem h)
    rw [pmOwnC hi hc]
    exact ⟨(n, d, ty), h1, hw _ h2⟩
theorem pmCallW {k pc j kd k' : Nat} {i : Instr × Nat × Nat} (hi : t_ins k pc = some i) (h : t_mk k j = some (kd, k')) : pmWords (t_nm k).cls j kd k' := by
  unfold t_mk at h
  have ho := f_own hi
  cases hc : t_isC k with
  | false => rw [hc] at h ho; rw [ho]; exact f_mkL _ (pmLk_mem h)
  | true => rw [hc] at h ho; rw [ho]; exact f_mkC _ (pmLk_mem h)
end Sound
section Sound
variable {l : Launch} {Z : State} {a0 : Array Value} {n0 scA : Nat}
theorem pmLook {Ls : List Slot} {Lc : Array Slot} {n : Nat} {v : Value} (hR : pmLR n0 scA Ls Lc) (h : Ls[n]? = some (.val v)) : Lc[n]? = some (.val (cv n0 scA v)) := hR.2 n _ h (by simp)
theorem pmStpI {k pc pc' n : Nat} {Ls : List Slot} {S : List Value} {σ : Mem} {Q : Pst} {nx : List Slot → List Value → Prop} (h : pmStI Ls n S nx) (hnx : ∀ L' R, nx L' R → WM l Z n0 scA k pc' L' R σ Q)
    (st : ∀ (p : Program) (e : Env) (m : MethodId) (below : List Frame) (c : Code) (T : State) (Lc Lc' : Array Slot) (x : Int32) (R : List Value), p.tables.exec = Jvm.exec → At T m c below → c.code = t_bytes k → storeLocals Lc n (.int x) = some Lc' → ∀ target, Steps p.tables e below (T.setTop (mkF m pc' Lc' R)) target → Steps p.tables e below (T.setTop (mkF m pc Lc (.int x :: R))) target) : WM l Z n0 scA k pc Ls S σ Q := by
  unfold pmStI at h
  split at h
  · rename_i x R
    split at h
    · rename_i L' hL
      rw [fcS_eq] at h
      refine pmPure (hnx _ _ h) (pmStl_len hL) fun p e m below c T Lc hx hat hby hR hC => ?_
      obtain ⟨Lc', e1, R1, C1⟩ := pmStore1 hR hC rfl hL
      exact ⟨Lc', R1, C1, st p e m below c T Lc Lc' x _ hx hat hby e1⟩
    · exact h.elim
  · exact h.elim
theorem pmStpR {k pc pc' n : Nat} {Ls : List Slot} {S : List Value} {σ : Mem} {Q : Pst} {nx : List Slot → List Value → Prop} (h : pmStR Ls n S nx) (hnx : ∀ L' R, nx L' R → WM l Z n0 scA k pc' L' R σ Q)
    (st : ∀ (p : Program) (e : Env) (m : MethodId) (below : List Frame) (c : Code) (T : State) (Lc Lc' : Array Slot) (x : Addr) (R : List Value), p.tables.exec = Jvm.exec → At T m c below → c.code = t_bytes k → storeLocals Lc n (.ref x) = some Lc' → ∀ target, Steps p.tables e below (T.setTop (mkF m pc' Lc' R)) target → Steps p.tables e below (T.setTop (mkF m pc Lc (.ref x :: R))) target) : WM l Z n0 scA k pc Ls S σ Q := by
  unfold pmStR at h
  split at h
  · rename_i x R
    split at h
    · rename_i L' hL
      rw [fcS_eq] at h
      refine pmPure (hnx _ _ h) (pmStl_len hL) fun p e m below c T Lc hx hat hby hR hC => ?_
      obtain ⟨Lc', e1, R1, C1⟩ := pmStore1 hR hC rfl hL
      exact ⟨Lc', R1, C1, st p e m below c T Lc Lc' _ _ hx hat hby e1⟩
    · exact h.elim
  · exact h.elim
theorem pmStpL {k pc pc' n : Nat} {Ls : List Slot} {S : List Value} {σ : Mem} {Q : Pst} {nx : List Slot → List Value → Prop} (h : pmStL Ls n S nx) (hnx : ∀ L' R, nx L' R → WM l Z n0 scA k pc' L' R σ Q)
    (st : ∀ (p : Program) (e : Env) (m : MethodId) (below : List Frame) (c : Code) (T : State) (Lc Lc' : Array Slot) (x : Int64) (R : List Value), p.tables.exec = Jvm.exec → At T m c below → c.code = t_bytes k → storeLocals Lc n (.long x) = some Lc' → ∀ target, Steps p.tables e below (T.setTop (mkF m pc' Lc' R)) target → Steps p.tables e below (T.setTop (mkF m pc Lc (.long x :: R))) target) : WM l Z n0 scA k pc Ls S σ Q := by
  unfold pmStL at h
  split at h
  · rename_i x R
    split at h
    · rename_i L' hL
      rw [fcS_eq] at h
      refine pmPure (hnx _ _ h) (pmStlL_len hL) fun p e m below c T Lc hx hat hby hR hC => ?_
      obtain ⟨Lc', e1, R1, C1⟩ := pmStore2 hR hC hL
      exact ⟨Lc', R1, C1, st p e m below c T Lc Lc' x _ hx hat hby e1⟩
    · exact h.elim
  · exact h.elim
theorem pmLdSt {k pc pc' : Nat} {ty : FieldType} {Ls : List Slot} {S : List Value} {σ : Mem} {Q : Pst} {nx : Int32 → List Value → Prop} (h : pmALd ty S σ nx) (hnx : ∀ x R, nx x R → WM l Z n0 scA k pc' Ls (.int x :: R) σ Q)
    (st : ∀ (p : Program) (e : Env) (s : State) (m : MethodId) (args : Array Value) (below : List Frame) (meth : Method) (c : Code) (T : State) (locs : List Loc) (Lc : Array Slot) (a : Addr) (cell : Cell) (j x : Int32) (R : List Value), pmCtx l Z n0 scA k σ p e s m args below meth c T locs → T.heap[a]? = some cell → s.isArrayOf cell ty → cell.vm ≠ .unknown → ¬ (j < 0 ∨ cell.slots.size ≤ j.toNatClampNeg) → cell.slots[j.toNatClampNeg]? = some (.int x) →
      ∀ target, Steps p.tables e below (T.setTop (mkF m pc' Lc (.int x :: R))) target → Steps p.tables e below (T.setTop (mkF m pc Lc (.int j :: .ref a :: R))) target) : WM l Z n0 scA k pc Ls S σ Q := by
  unfold pmALd at h
  split at h
  · rename_i i r R
    split at h
    · rename_i h1 h2
      obtain ⟨hb, hk⟩ := h
      have hty : pmTy r = ty := of_decide_eq_true h2
      refine pmStep (hnx _ _ hk) rfl (fun _ q => q) fun p e s m args below meth c T locs Lc hX hR hC hL => ⟨T, locs, Lc, hX, hR, hC, ?_⟩
      obtain ⟨cl, A, hs, hv⟩ := pmArr hX.2.2.2.2.2.2.2.1 h1
      rw [hty] at A
      exact st p e s m args below meth c T locs Lc _ cl i _ _ hX A.1 (State.isArrayOf_alike hX.2.2.1.alike A.2.1) A.2.2 (pmInb hs hb) (hv i.toInt.toNat (by omega))
    · exact h.elim
  · exact h.elim
theorem pmStSt {k pc pc' : Nat} {ty : FieldType} {Ls : List Slot} {S : List Value} {σ : Mem} {Q : Pst} {nx : Mem → List Value → Prop} (h : pmASt ty S σ nx) (hnx : ∀ σ' R, nx σ' R → WM l Z n0 scA k pc' Ls R σ' Q)
    (st : ∀ (p : Program) (e : Env) (s : State) (m : MethodId) (args : Array Value) (below : List Frame) (meth : Method) (c : Code) (T : State) (locs : List Loc) (Lc : Array Slot) (a : Addr) (cell : Cell) (j x : Int32) (R : List Value), pmCtx l Z n0 scA k σ p e s m args below meth c T locs → Arr Z T.heap a cell ty → ¬ (j < 0 ∨ cell.slots.size ≤ j.toNatClampNeg) →
      ∃ T' h', Stand p l e (t_rm k) s m args below meth c T' (locs ++ [⟨a, j.toNatClampNeg⟩]) (pmBC k σ.1) (pmBS k σ.1) ∧ T'.heap = h' ∧ Wr T.heap h' a j.toNatClampNeg (.int (nar ty x)) ∧ ∀ target, Steps p.tables e below (T'.setTop (mkF m pc' Lc R)) target → Steps p.tables e below (T.setTop (mkF m pc Lc (.int x :: .int j :: .ref a :: R))) target) : WM l Z n0 scA k pc Ls S σ Q := by
  unfold pmASt at h
  split at h
  · rename_i v i r R
    split at h
    · rename_i h1 h2
      obtain ⟨hb, hk⟩ := h
      obtain ⟨a', n', F', A'⟩ := σ
      dsimp only at hk
      have hty : pmTy (r + 2) = ty := of_decide_eq_true h2
      refine pmStep (hnx _ _ hk) rfl (fun _ q => q) fun p e s m args below meth c T locs Lc hX hR hC hL => ?_
      obtain ⟨X, hx, hZ, hby, hml, hown, hret, hRel, hFr, hSz⟩ := id hX
      obtain ⟨cl, A, hs, hv⟩ := pmArr hRel h1
      rw [hty] at A
      obtain ⟨T', h', X', e', W, s'⟩ := st p e s m args below meth c T locs Lc _ cl i v (R.map (cv n0 scA)) hX A (pmInb hs hb)
      subst e'
      exact ⟨T', _, Lc, ⟨X', hx, hZ, hby, hml, hown, hret, pmRel_set hRel (Nat.le_of_ble_eq_true h1) (by omega) W, Fr.snoc X' hFr (show n0 ≤ n0 + (r + 1) by omega), hSz⟩, hR, hC, s'⟩
    · exact h.elim
  · exact h.elim
theorem pmPut_spec {ty : FieldType} {v v' : Value} (h : pmPut ty v = some v') : narrow ty (cv n0 scA v) = cv n0 scA v' ∧ fits ty (cv n0 scA v') = true := by
  unfold pmPut at h
  split at h
  · cases h; exact ⟨rfl, rfl⟩
  · cases h; rename_i x; exact ⟨rfl, fits_nar_bool x⟩
  · cases h; exact ⟨rfl, rfl⟩
  · cases h
set_option maxHeartbeats 4000000 in
theorem pmSound (hw : ∀ d ∈ tables_1, d.before a0 Z = true) {k pc np tg : Nat} {Ls : List Slot} {S : List Value} {σ : Mem} {Q : Pst} {nx : Nat → List Slot → List Value → Mem → Prop} {i : Instr} (hi : t_ins k pc = some (i, np, tg)) (hnx : ∀ pc Ls S σ, nx pc Ls S σ → WM l Z n0 scA k pc Ls S σ Q)
    (h : stp (WM l Z n0 scA) k np tg Ls S σ Q nx i) : WM l Z n0 scA k pc Ls S σ Q := by
  obtain ⟨hd, hok⟩ := f_ins hi
  have hnp : np = pc + pmIL i ∧ (∀ c, i = .bipush c → (Int8.ofInt c).toInt32 = Int32.ofInt c) ∧ (∀ c, i = .sipush c → (Int16.ofInt c).toInt32 = Int32.ofInt c) ∧ (∀ o, (i = .goto o ∨ (∃ cd, i = .ifCond cd o) ∨ ∃ cd, i = .if_icmp cd o) → 0 ≤ (pc : Int) + o ∧ tg = pmTgt pc o) := by
    cases i
    case bipush c => simp only [pmOkI, Bool.and_eq_true, decide_eq_true_eq] at hok; exact ⟨hok.2, fun _ e => (by cases e; exact hok.1), fun _ e => (by cases e), fun _ e => (by rcases e with e | ⟨_, e⟩ | ⟨_, e⟩ <;> cases e)⟩
    case sipush c => simp only [pmOkI, Bool.and_eq_true, decide_eq_true_eq] at hok; exact ⟨hok.2, fun _ e => (by cases e), fun _ e => (by cases e; exact hok.1), fun _ e => (by rcases e with e | ⟨_, e⟩ | ⟨_, e⟩ <;> cases e)⟩
    case goto o => simp only [pmOkI, Bool.and_eq_true, decide_eq_true_eq] at hok; exact ⟨hok.2, fun _ e => (by cases e), fun _ e => (by cases e), fun _ e => (by rcases e with e | ⟨_, e⟩ | ⟨_, e⟩ <;> cases e; exact hok.1)⟩
    case ifCond cd o => simp only [pmOkI, Bool.and_eq_true, decide_eq_true_eq] at hok; exact ⟨hok.2, fun _ e => (by cases e), fun _ e => (by cases e), fun _ e => (by rcases e with e | ⟨_, e⟩ | ⟨_, e⟩ <;> cases e; exact hok.1)⟩
    case if_icmp cd o => simp only [pmOkI, Bool.and_eq_true, decide_eq_true_eq] at hok; exact ⟨hok.2, fun _ e => (by cases e), fun _ e => (by cases e), fun _ e => (by rcases e with e | ⟨_, e⟩ | ⟨_, e⟩ <;> cases e; exact hok.1)⟩
    all_goals exact ⟨of_decide_eq_true hok, fun _ e => (by cases e), fun _ e => (by cases e), fun _ e => (by rcases e with e | ⟨_, e⟩ | ⟨_, e⟩ <;> cases e)⟩
  obtain ⟨rfl, ok1, ok2, ok3⟩ := hnp
  cases i
  case iconst c => exact pmPure0 (hnx _ _ _ _ h) fun p e m below c T Lc hx hat hby _ target kt => XS.iconst hat hx rfl (hb hby hd) kt
  case bipush c =>
    have e1 : (Int8.ofInt c).toInt32 = Int32.ofInt c := ok1 _ rfl
    exact pmPure0 (hnx _ _ _ _ h) fun p e m below c T Lc hx hat hby _ target kt => XS.bipush hat hx rfl (hb hby hd) (by rw [e1]; exact kt)
  case sipush c =>
    have e1 : (Int16.ofInt c).toInt32 = Int32.ofInt c := ok2 _ rfl
    exact pmPure0 (hnx _ _ _ _ h) fun p e m below c T Lc hx hat hby _ target kt => XS.sipush hat hx rfl (hb hby hd) (by rw [e1]; exact kt)
  case lconst c => exact pmPure0 (hnx _ _ _ _ h) fun p e m below c T Lc hx hat hby _ target kt => Jvm.Free.XT.lconst hat hx rfl (hb hby hd) kt
  case ldc j =>
    simp only [stp, pmILdc] at h
    split at h
    · rename_i v hv
      refine pmStep (hnx _ _ _ _ h) rfl (fun _ q => q) fun p e s m args below meth c T locs Lc hX hR hC hL => ⟨T, locs, Lc, hX, hR, hC, fun target kt => ?_⟩
      have hwd : (Jvm.Cond.constant (t_nm k).cls j v).before a0 Z = true := by
        unfold t_ldc at hv
        have ho := f_own hi
        cases hc : t_isC k with
        | true => rw [hc] at hv; cases hv
        | false => rw [hc] at hv ho; rw [ho]; exact hw _ (f_ldcs _ (pmLk_mem hv))
      exact hX.1.ldcInt hX.2.1 hX.2.2.2.2.2.1 (mvT hX.2.2.1 hwd) (g := mkF m pc Lc (S.map (cv n0 scA))) rfl (hb hX.2.2.2.1 hd) _ kt
    · exact h.elim
  case ldc2_w j =>
    simp only [stp, pmILdc2] at h
    split at h
    · rename_i v hv
      refine pmStep (hnx _ _ _ _ h) rfl (fun _ q => q) fun p e s m args below meth c T locs Lc hX hR hC hL => ⟨T, locs, Lc, hX, hR, hC, fun target kt => ?_⟩
      have hwd : (Jvm.Cond.constantLong (t_nm k).cls j v).before a0 Z = true := by
        unfold t_ldc2 at hv
        have ho := f_own hi
        cases hc : t_isC k with
        | true => rw [hc] at hv; cases hv
        | false => rw [hc] at hv ho; rw [ho]; exact hw _ (f_ldc2s _ (pmLk_mem hv))
      exact hX.1.ldc2Long hX.2.1 hX.2.2.2.2.2.1 (mvT hX.2.2.1 hwd) (g := mkF m pc Lc (S.map (cv n0 scA))) rfl (hb hX.2.2.2.1 hd) _ kt
    · exact h.elim
  case iload n =>
    simp only [stp, pmLdI] at h
    split at h
    · rename_i x hx0
      exact pmPure0 (hnx _ _ _ _ h) fun p e m below c T Lc hx hat hby hR target kt => XS.iload hat hx rfl (hb hby hd) (pmLook hR hx0) kt
    · exact h.elim
  case iload_n n =>
    simp only [stp, pmLdI] at h
    split at h
    · rename_i x hx0
      exact pmPure0 (hnx _ _ _ _ h) fun p e m below c T Lc hx hat hby hR target kt => XS.iloadN hat hx rfl (hb hby hd) (pmLook hR hx0) kt
    · exact h.elim
  case lload n =>
    simp only [stp, pmLdL] at h
    split at h
    · rename_i x hx0
      exact pmPure0 (hnx _ _ _ _ h) fun p e m below c T Lc hx hat hby hR target kt => Jvm.Free.XT.lload hat hx rfl (hb hby hd) (pmLook hR hx0) kt
    · exact h.elim
  case lload_n n =>
    simp only [stp, pmLdL] at h
    split at h
    · rename_i x hx0
      exact pmPure0 (hnx _ _ _ _ h) fun p e m below c T Lc hx hat hby hR target kt => Jvm.Free.XT.lloadN hat hx rfl (hb hby hd) (pmLook hR hx0) kt
    · exact h.elim
  case aload n =>
    simp only [stp, pmLdR] at h
    split at h
    · rename_i x hx0
      exact pmPure0 (hnx _ _ _ _ h) fun p e m below c T Lc hx hat hby hR target kt => XS.aload hat hx rfl (hb hby hd) (pmLook hR hx0) rfl kt
    · exact h.elim
  case aload_n n =>
    simp only [stp, pmLdR] at h
    split at h
    · rename_i x hx0
      exact pmPure0 (hnx _ _ _ _ h) fun p e m below c T Lc hx hat hby hR target kt => XS.aloadN hat hx rfl (hb hby hd) (pmLook hR hx0) rfl kt
    · exact h.elim
  case istore n => exact pmStpI h (fun _ _ q => hnx _ _ _ _ q) fun p e m below c T Lc Lc' x R hx hat hby e1 target kt => XS.istore hat hx rfl (hb hby hd) rfl e1 kt
  case istore_n n => exact pmStpI h (fun _ _ q => hnx _ _ _ _ q) fun p e m below c T Lc Lc' x R hx hat hby e1 target kt => XS.istoreN hat hx rfl (hb hby hd) rfl e1 kt
  case lstore n => exact pmStpL h (fun _ _ q => hnx _ _ _ _ q) fun p e m below c T Lc Lc' x R hx hat hby e1 target kt => Jvm.Free.XT.lstore hat hx rfl (hb hby hd) rfl e1 kt
  case lstore_n n => exact pmStpL h (fun _ _ q => hnx _ _ _ _ q) fun p e m below c T Lc Lc' x R hx hat hby e1 target kt => Jvm.Free.XT.lstoreN hat hx rfl (hb hby hd) rfl e1 kt
  case astore n => exact pmStpR h (fun _ _ q => hnx _ _ _ _ q) fun p e m below c T Lc Lc' x R hx hat hby e1 target kt => XS.astore hat hx rfl (hb hby hd) rfl rfl e1 kt
  case astore_n n => exact pmStpR h (fun _ _ q => hnx _ _ _ _ q) fun p e m below c T Lc Lc' x R hx hat hby e1 target kt => XS.astoreN hat hx rfl (hb hby hd) rfl rfl e1 kt
  case iinc n c =>
    simp only [stp, pmLdI] at h
    split at h
    · rename_i x hx0
      have hS : pmStl Ls n (.int (x + Int32.ofInt c)) = some (Ls.set n (.val (.int (x + Int32.ofInt c)))) := by simp only [pmStl, hx0]
      rw [fcS_eq] at h
      refine pmPure (hnx _ _ _ _ h) (by simp) fun p e m below c T Lc hx hat hby hR hC => ?_
      obtain ⟨Lc', e1, R1, C1⟩ := pmStore1 hR hC rfl hS
      exact ⟨Lc', R1, C1, fun target kt => XS.iinc hat hx rfl (hb hby hd) (pmLook hR hx0) e1 kt⟩
    · exact h.elim
  case iadd =>
    simp only [stp, pmInt2] at h
    split at h
    · exact pmPure0 (hnx _ _ _ _ h) fun p e m below c T Lc hx hat hby hR target kt => XS.iadd hat hx rfl (hb hby hd) rfl kt
    · exact h.elim
  case isub =>
    simp only [stp, pmInt2] at h
    split at h
    · exact pmPure0 (hnx _ _ _ _ h) fun p e m below c T Lc hx hat hby hR target kt => XS.isub hat hx rfl (hb hby hd) rfl kt
    · exact h.elim
  case imul =>
    simp only [stp, pmInt2] at h
    split at h
    · exact pmPure0 (hnx _ _ _ _ h) fun p e m below c T Lc hx hat hby hR target kt => XS.imul hat hx rfl (hb hby hd) rfl kt
    · exact h.elim
  case idiv =>
    simp only [stp, pmInt2] at h
    split at h
    · exact pmPure0 (hnx _ _ _ _ h.2) fun p e m below c T Lc hx hat hby hR target kt => XS.idiv hat hx rfl (hb hby hd) rfl h.1 kt
    · exact h.elim
  case irem =>
    simp only [stp, pmInt2] at h
    split at h
    · refine pmStep (hnx _ _ _ _ h.2) rfl (fun _ q => q) fun p e s m args below meth c T locs Lc hX hR hC hL => ⟨T, locs, Lc, hX, hR, hC, fun target kt => ?_⟩
      exact iremM hX.1 hX.2.1 rfl (hb hX.2.2.2.1 hd) rfl h.1 kt
    · exact h.elim
  case iand =>
    simp only [stp, pmInt2] at h
    split at h
    · exact pmPure0 (hnx _ _ _ _ h) fun p e m below c T Lc hx hat hby hR target kt => XS.iand hat hx rfl (hb hby hd) rfl kt
    · exact h.elim
  case ior =>
    simp only [stp, pmInt2] at h
    split at h
    · exact pmPure0 (hnx _ _ _ _ h) fun p e m below c T Lc hx hat hby hR target kt => Jvm.Free.XT.ior hat hx rfl (hb hby hd) rfl kt
    · exact h.elim
  case ixor =>
    simp only [stp, pmInt2] at h
    split at h
    · exact pmPure0 (hnx _ _ _ _ h) fun p e m below c T Lc hx hat hby hR target kt => Jvm.Free.XT.ixor hat hx rfl (hb hby hd) rfl kt
    · exact h.elim
  case ishl =>
    simp only [stp, pmInt2] at h
    split at h
    · exact pmPure0 (hnx _ _ _ _ h) fun p e m below c T Lc hx hat hby hR target kt => Jvm.Free.XT.ishl hat hx rfl (hb hby hd) rfl kt
    · exact h.elim
  case ishr =>
    simp only [stp, pmInt2] at h
    split at h
    · exact pmPure0 (hnx _ _ _ _ h) fun p e m below c T Lc hx hat hby hR target kt => Jvm.Free.XT.ishr hat hx rfl (hb hby hd) rfl kt
    · exact h.elim
  case iushr =>
    simp only [stp, pmInt2] at h
    split at h
    · exact pmPure0 (hnx _ _ _ _ h) fun p e m below c T Lc hx hat hby hR target kt => Jvm.Free.XT.iushr hat hx rfl (hb hby hd) rfl kt
    · exact h.elim
  case land =>
    simp only [stp, pmLng2] at h
    split at h
    · exact pmPure0 (hnx _ _ _ _ h) fun p e m below c T Lc hx hat hby hR target kt => Jvm.Free.XT.land hat hx rfl (hb hby hd) rfl kt
    · exact h.elim
  case lor =>
    simp only [stp, pmLng2] at h
    split at h
    · exact pmPure0 (hnx _ _ _ _ h) fun p e m below c T Lc hx hat hby hR target kt => Jvm.Free.XT.lor hat hx rfl (hb hby hd) rfl kt
    · exact h.elim
  case lxor =>
    simp only [stp, pmLng2] at h
    split at h
    · exact pmPure0 (hnx _ _ _ _ h) fun p e m below c T Lc hx hat hby hR target kt => Jvm.Free.XT.lxor hat hx rfl (hb hby hd) rfl kt
    · exact h.elim
  case lcmp =>
    simp only [stp, pmLng2] at h
    split at h
    · exact pmPure0 (hnx _ _ _ _ h) fun p e m below c T Lc hx hat hby hR target kt => Jvm.Free.XT.lcmp hat hx rfl (hb hby hd) rfl kt
    · exact h.elim
  case lshl =>
    simp only [stp, pmLI] at h
    split at h
    · exact pmPure0 (hnx _ _ _ _ h) fun p e m below c T Lc hx hat hby hR target kt => Jvm.Free.XT.lshl hat hx rfl (hb hby hd) rfl kt
    · exact h.elim
  case lushr =>
    simp only [stp, pmLI] at h
    split at h
    · exact pmPure0 (hnx _ _ _ _ h) fun p e m below c T Lc hx hat hby hR target kt => Jvm.Free.XT.lushr hat hx rfl (hb hby hd) rfl kt
    · exact h.elim
  case i2b =>
    simp only [stp, pmInt] at h
    split at h
    · exact pmPure0 (hnx _ _ _ _ h) fun p e m below c T Lc hx hat hby hR target kt => Jvm.Free.XT.i2b hat hx rfl (hb hby hd) rfl kt
    · exact h.elim
  case i2l =>
    simp only [stp, pmInt] at h
    split at h
    · exact pmPure0 (hnx _ _ _ _ h) fun p e m below c T Lc hx hat hby hR target kt => Jvm.Free.XT.i2l hat hx rfl (hb hby hd) rfl kt
    · exact h.elim
  case l2i =>
    simp only [stp, pmIL2i] at h
    split at h
    · exact pmPure0 (hnx _ _ _ _ h) fun p e m below c T Lc hx hat hby hR target kt => Jvm.Free.XT.l2i hat hx rfl (hb hby hd) rfl kt
    · exact h.elim
  case pop =>
    simp only [stp, pmIPop] at h
    split at h
    · exact pmPure0 (hnx _ _ _ _ h) fun p e m below c T Lc hx hat hby hR target kt => Jvm.Free.XT.pop hat hx rfl (hb hby hd) rfl rfl kt
    · exact pmPure0 (hnx _ _ _ _ h) fun p e m below c T Lc hx hat hby hR target kt => Jvm.Free.XT.pop hat hx rfl (hb hby hd) rfl rfl kt
    · exact h.elim
  case dup =>
    simp only [stp, pmIDup] at h
    split at h
    · exact pmPure0 (hnx _ _ _ _ h) fun p e m below c T Lc hx hat hby hR target kt => XS.dup hat hx rfl (hb hby hd) rfl rfl kt
    · exact pmPure0 (hnx _ _ _ _ h) fun p e m below c T Lc hx hat hby hR target kt => XS.dup hat hx rfl (hb hby hd) rfl rfl kt
    · exact h.elim
  case goto o =>
    obtain ⟨e1, rfl⟩ := ok3 o (Or.inl rfl)
    exact pmPure0 (hnx _ _ _ _ h) fun p e m below c T Lc hx hat hby hR target kt => XS.goto hat hx rfl (pc0 := pc) (pc' := pmTgt pc o) rfl (hb hby hd) e1 rfl kt
  case ifCond cd o =>
    obtain ⟨e1, rfl⟩ := ok3 o (Or.inr (Or.inl ⟨_, rfl⟩))
    simp only [stp, pmInt] at h
    split at h
    · refine pmBranch h (fun q => hnx _ _ _ _ q) (fun q => hnx _ _ _ _ q) ?_ ?_
      · intro p e m below c T Lc hx hat hby hc target kt
        exact XS.ifYes hat hx rfl (pc0 := pc) (pc' := pmTgt pc o) rfl (hb hby hd) rfl ((if0 _ _).trans hc) e1 rfl kt
      · intro p e m below c T Lc hx hat hby hc target kt
        exact XS.ifNo hat hx rfl (hb hby hd) rfl ((if0 _ _).trans hc) kt
    · exact h.elim
  case if_icmp cd o =>
    obtain ⟨e1, rfl⟩ := ok3 o (Or.inr (Or.inr ⟨_, rfl⟩))
    simp only [stp, pmInt2] at h
    split at h
    · refine pmBranch h (fun q => hnx _ _ _ _ q) (fun q => hnx _ _ _ _ q) ?_ ?_
      · intro p e m below c T Lc hx hat hby hc target kt
        exact XS.icmpYes hat hx rfl (pc0 := pc) (pc' := pmTgt pc o) rfl (hb hby hd) rfl hc e1 rfl kt
      · intro p e m below c T Lc hx hat hby hc target kt
        exact XS.icmpNo hat hx rfl (hb hby hd) rfl hc kt
    · exact h.elim
  case arraylength =>
    simp only [stp, pmILen] at h
    split at h
    · rename_i r R
      split at h
      · rename_i ht
        refine pmStep (hnx _ _ _ _ h) rfl (fun _ q => q) fun p e s m args below meth c T locs Lc hX hR hC hL => ⟨T, locs, Lc, hX, hR, hC, fun target kt => ?_⟩
        obtain ⟨cl, A, hs, hv⟩ := pmArr hX.2.2.2.2.2.2.2.1 ht
        refine hX.1.arraylength hX.2.1 A.1 (State.isArrayOf_alike hX.2.2.1.alike A.2.1) (g := mkF m pc Lc _) rfl rfl (hb hX.2.2.2.1 hd) _ ?_
        rw [hs]; exact kt
      · exact h.elim
    · exact h.elim
  case iaload =>
    refine pmLdSt (nx := fun x R => nx (pc + 1) Ls (.int x :: R) σ) h (fun _ _ q => hnx _ _ _ _ q) ?_
    intro p e s m args below meth c T locs Lc a cell j x R hX hc ha hk hj hv target kt
    exact hX.1.iaload hX.2.1 hc ha hk hj hv (g := mkF m pc Lc _) rfl rfl (hb hX.2.2.2.1 hd) _ kt
  case baload =>
    simp only [stp, pmIBal] at h
    split at h
    · refine pmLdSt (nx := fun x R => nx (pc + 1) Ls (.int x :: R) σ) h (fun _ _ q => hnx _ _ _ _ q) ?_
      intro p e s m args below meth c T locs Lc a cell j x R hX hc ha hk hj hv target kt
      exact hX.1.baloadBytes hX.2.1 hc ha hk hj hv (g := mkF m pc Lc _) rfl rfl (hb hX.2.2.2.1 hd) _ kt
    · refine pmLdSt (nx := fun x R => nx (pc + 1) Ls (.int x :: R) σ) h (fun _ _ q => hnx _ _ _ _ q) ?_
      intro p e s m args below meth c T locs Lc a cell j x R hX hc ha hk hj hv target kt
      exact hX.1.baloadBooleans hX.2.1 hc ha hk hj hv (g := mkF m pc Lc _) rfl rfl (hb hX.2.2.2.1 hd) _ kt
    · exact h.elim
  case iastore =>
    refine pmStSt (nx := fun σ' R => nx (pc + 1) Ls R σ') h (fun _ _ q => hnx _ _ _ _ q) ?_
    intro p e s m args below meth c T locs Lc a cell j x R hX A hj
    exact Jvm.RoadKit.stI hX.1 hX.2.1 hX.2.2.1 rfl A hj (g := mkF m pc Lc _) rfl rfl (hb hX.2.2.2.1 hd)
  case bastore =>
    simp only [stp, pmIBas] at h
    split at h
    · refine pmStSt (nx := fun σ' R => nx (pc + 1) Ls R σ') h (fun _ _ q => hnx _ _ _ _ q) ?_
      intro p e s m args below meth c T locs Lc a cell j x R hX A hj
      exact stB hX.1 hX.2.1 hX.2.2.1 rfl A hj (g := mkF m pc Lc _) rfl rfl (hb hX.2.2.2.1 hd)
    · refine pmStSt (nx := fun σ' R => nx (pc + 1) Ls R σ') h (fun _ _ q => hnx _ _ _ _ q) ?_
      intro p e s m args below meth c T locs Lc a cell j x R hX A hj
      exact stZ hX.1 hX.2.1 hX.2.2.1 rfl A hj (g := mkF m pc Lc _) rfl rfl (hb hX.2.2.2.1 hd)
    · exact h.elim
  case getfield j =>
    simp only [stp, pmIGet] at h
    split at h
    · rename_i R q hq h1
      split at h
      · rename_i v hv
        refine pmStep (hnx _ _ _ _ h) rfl (fun _ q => q) fun p e s m args below meth c T locs Lc hX hR hC hL => ?_
        obtain ⟨X, hx, hZ, hby, hml, hown, hret, hRel, hFr, hSz⟩ := id hX
        obtain ⟨f, hf, wf⟩ := pmFieldW hw hi hq
        have Fq := (hRel.2.2.2.1 (Nat.le_of_ble_eq_true h1)).2.2 q f v hf hv
        obtain ⟨T', X', e', s'⟩ := getF X hx hZ hown (host := "") (Or.inl wf) Via.refl rfl Fq (g := mkF m pc Lc (.ref n0 :: R.map (cv n0 scA))) rfl rfl (hb hby hd)
        exact ⟨T', locs, Lc, ⟨X', hx, hZ, hby, hml, hown, hret, by rw [e']; exact hRel, hFr, hSz⟩, hR, hC, s'⟩
      · exact h.elim
    · exact h.elim
  case putfield j =>
    simp only [stp, pmIPut] at h
    split at h
    · rename_i v R q hq h1
      split at h
      · rename_i f hf
        split at h
        · rename_i v' hv'
          obtain ⟨a, n, F, A⟩ := σ
          dsimp only at h
          rw [fcV_eq] at h
          refine pmStep (hnx _ _ _ _ h) rfl (fun _ q => q) fun p e s m args below meth c T locs Lc hX hR hC hL => ?_
          obtain ⟨X, hx, hZ, hby, hml, hown, hret, hRel, hFr, hSz⟩ := id hX
          obtain ⟨f', hf', wf⟩ := pmFieldW hw hi hq
          cases hf.symm.trans hf'
          have h1' := Nat.le_of_ble_eq_true h1
          obtain ⟨E, hl0, F0⟩ := hRel.2.2.2.1 h1'
          have hql : q < F.length := by have hl1 : F.length = t_flds.length := hl0; rw [hl1]; exact (List.getElem?_eq_some_iff.mp hf).1
          have Fq := F0 q f _ hf (List.getElem?_eq_getElem hql)
          have hnar := pmPut_spec (n0 := n0) (scA := scA) hv'
          obtain ⟨T', h', X', e', W, s'⟩ := putFN X hx hZ hown wf Via.refl rfl Fq E (Or.inl (pmLaid hw hf).1) (hw _ f_inst) (ty := f.2.2) (v' := cv n0 scA v') (pmLaid hw hf).2 hnar.1 hnar.2 (g := mkF m pc Lc (cv n0 scA v :: .ref n0 :: R.map (cv n0 scA))) rfl rfl (hb hby hd)
          subst e'
          exact ⟨T', _, Lc, ⟨X', hx, hZ, hby, hml, hown, hret, pmRel_put hw hRel h1' hf W, Fr.snoc X' hFr (Nat.le_refl _), hSz⟩, hR, hC, s'⟩
        · exact h.elim
      · exact h.elim
    · exact h.elim
  case new j =>
    simp only [stp, pmINew] at h
    split at h
    · rename_i n F A hn hm
      obtain ⟨⟨b1, b2⟩, h⟩ := h
      rw [fcV_eq] at h
      refine pmStep (hnx _ _ _ _ h) rfl (fun a q => ⟨fun z => by omega, fun z => by omega⟩) fun p e s m args below meth c T locs Lc hX hR hC hL => ?_
      obtain ⟨X, hx, hZ, hby, hml, hown, hret, hRel, hFr, hSz⟩ := id hX
      have z1 : pmBC k 0 = 0 := by simp [pmBC, hm]
      have z2 : pmBS k 0 = 0 := by simp [pmBS, hm, pmSS]
      have z3 : pmBC k 1 = 0 + 1 := by simp [pmBC, hm]
      have z4 : pmBS k 1 = 0 + t_ns := by simp [pmBS, hm, pmSS]
      have X0 : Stand p l e (t_rm k) s m args below meth c T locs 0 0 := by have := X; simp only [z1, z2] at this; exact this
      obtain ⟨T', h', X', e', E, A1, D, -, s'⟩ := newO X0 hx hZ hown (hw _ (f_new hn)) (hw _ f_inst) (hw _ f_init) rfl (g := mkF m pc Lc (S.map (cv n0 scA))) rfl (hb hby hd) (by omega) (by omega)
      have hsz : h'.size = T.heap.size + 1 := by
        have q1 : T.heap.size < h'.size := A1.lt
        have q2 := X'.heapSize
        rw [e'] at q2
        have q3 : T.heap.size = n0 + 0 := hRel.1
        have q4 : s.heap.size + pmBC k 0 = n0 + 0 := hSz
        rw [z1] at q4
        omega
      subst e'
      have r1' : T.heap.size = n0 := hRel.1
      refine ⟨T', locs, Lc, ⟨by simp only [z3, z4]; exact X', hx, hZ, hby, hml, hown, hret, pmRel_new hw hRel E hsz A1 D, hFr, by have q4 : s.heap.size + pmBC k 0 = n0 + 0 := hSz; rw [z1] at q4; simp only [z3]; omega⟩, hR, hC, ?_⟩
      intro target kt
      refine s' target ?_
      rw [r1']
      exact kt
    · exact h.elim
  case newarray aty =>
    simp only [stp, pmINewA] at h
    split at h
    · rename_i n R a n' F A
      split at h
      · rename_i q hq
        obtain ⟨⟨b1, b2, b3, b4, b5, b6⟩, h⟩ := h
        have md : t_mode k = 1 ∨ t_mode k = 2 := by
          rcases f_mode (k := k) with z | z | z
          · exact absurd z b4
          · exact Or.inl z
          · exact Or.inr z.1
        have hss : pmSS (a + 2) = pmSS (a + 1) + q.2 := by
          have hl := (List.getElem?_eq_some_iff.mp hq)
          show t_ns + ((t_arrs.take (a + 1)).map (·.2)).sum = t_ns + ((t_arrs.take a).map (·.2)).sum + q.2
          rw [List.take_succ_eq_append_getElem hl.1, hl.2]
          simp; omega
        have hs1 : pmSS 1 ≤ pmSS (a + 1) := by
          show t_ns + ((t_arrs.take 0).map (·.2)).sum ≤ t_ns + ((t_arrs.take a).map (·.2)).sum
          simp
        have z3 : pmBC k (a + 2) = pmBC k (a + 1) + 1 := by
          rcases md with z | z
          · simp only [pmBC, z]; omega
          · simp only [pmBC, z]
        have z4 : pmBS k (a + 2) = pmBS k (a + 1) + q.2 := by
          rcases md with z | z
          · simp only [pmBS, z]; omega
          · simp only [pmBS, z]; exact hss
        have hro : ∀ b, pmROk k (a + 2) b → pmROk k (a + 1) b := fun b hb => ⟨fun z => absurd z b4, hb.2⟩
        refine pmStep (hnx _ _ _ _ h) rfl hro fun p e s m args below meth c T locs Lc hX hR hC hL => ?_
        obtain ⟨X, hx, hZ, hby, hml, hown, hret, hRel, hFr, hSz⟩ := id hX
        have hq' := f_arrs q (List.mem_of_getElem? hq)
        have ntoi : n.toInt = (q.2 : Int) := by rw [b1]; exact Int32.toInt_ofNat_of_lt (by omega)
        have hn0 : ¬ n < 0 := by
          rw [Int32.lt_iff_toInt_lt, ntoi]
          have e0 : (0 : Int32).toInt = 0 := rfl
          rw [e0]; omega
        have hcl : n.toNatClampNeg = q.2 := by rw [clampNeg, ntoi]; simp
        obtain ⟨T', h', cA, X', e', E, A1, s'⟩ := newP X hx hZ (aty := aty) (by rw [b2]; exact hw _ hq'.1) rfl (g := mkF m pc Lc (.int n :: R.map (cv n0 scA))) rfl (hb hby hd) rfl hn0 (cap := q.2) (Nat.le_of_eq hcl) (by omega) b5 b6
        have hsz : h'.size = T.heap.size + 1 := by
          have q1 : T.heap.size < h'.size := A1.lt
          have q2 := X'.heapSize
          rw [e'] at q2
          have q3 : T.heap.size = n0 + (a + 1) := hRel.1
          have q4 : s.heap.size + pmBC k (a + 1) = n0 + (a + 1) := hSz
          have q5 : pmBC k ((a + 1, n', F, A) : Mem).1 = pmBC k (a + 1) := rfl
          rw [q5] at q2
          omega
        subst e'
        rw [b2] at A1
        have r1' : T.heap.size = n0 + (a + 1) := hRel.1
        have hdv : defaultValue q.1 = .int 0 := by
          rcases hq'.2.1 with z | z | z <;> rw [z] <;> rfl
        refine ⟨T', locs, Lc, ⟨by show Stand p l e (t_rm k) s m args below meth c T' locs (pmBC k (a + 2)) (pmBS k (a + 2)); rw [z3, z4]; exact X', hx, hZ, hby, hml, hown, hret, pmRel_arr hRel E hsz hq b1 b3 hdv A1, hFr, ?_⟩, hR, hC, ?_⟩
        · have q4 : s.heap.size + pmBC k (a + 1) = n0 + (a + 1) := hSz
          show s.heap.size + pmBC k (a + 2) = n0 + (a + 2)
          rw [z3]; omega
        · intro target kt
          refine s' target ?_
          rw [r1']
          exact kt
      · exact h.elim
    · exact h.elim
  case invokestatic j =>
    simp only [stp, pmISta] at h
    split at h
    · rename_i k' hmk
      split at h
      · rename_i as R hpop
        have W := pmCallW hi hmk
        obtain ⟨wl, wc, wi, hpl, hne, ⟨ps, r, hp, hn⟩, ws⟩ := W
        obtain ⟨p1, p2⟩ := pmPop_spec hpop
        have hS : S = as.reverse ++ R := by simpa using p1.symm
        refine pmCallS hw hpop hpl wc wi (pmCallMono h fun v σ' q => hnx _ _ _ _ q) ?_
        intro p e s m args below meth c T locs Lc Pre Post hX hsz bk hpre
        obtain ⟨X, hx, hZ, hby, hml, hown, hret, hRel, hFr, hSz⟩ := id hX
        exact Jvm.LawKit.callS X hx (y := t_nm k') hown (mvT hZ (hw _ wl)) (mvT hZ (hw _ ws)) (mvT hZ (hw _ wi)) (mvT hZ (hw _ wc)) hne bk (g := mkF m pc Lc (S.map (cv n0 scA))) rfl hsz (argsL := as.map (cv n0 scA)) (rest := R.map (cv n0 scA)) (lenOf hp (by simp at p2 hn ⊢; omega)) (by rw [hS]; simp) (by show 2 * 0 + _ ≤ _; rw [pmWt_sum]; omega) (hb hby hd) hpre
      · exact h.elim
    · exact h.elim
  case invokevirtual j =>
    simp only [stp, pmIVir] at h
    split at h
    · rename_i k' hmk h1
      split at h
      · rename_i as R hpop
        have W := pmCallW hi hmk
        obtain ⟨wl, wc, wi, hpl, hne, ⟨ps, r, hp, hn⟩, wd, wsel, winst⟩ := W
        obtain ⟨p1, p2⟩ := pmPop_spec hpop
        have hS : S = (.ref 1 :: as).reverse ++ R := by simpa using p1.symm
        refine pmCallS hw hpop hpl wc wi (pmCallMono h fun v σ' q => hnx _ _ _ _ q) ?_
        intro p e s m args below meth c T locs Lc Pre Post hX hsz bk hpre
        obtain ⟨X, hx, hZ, hby, hml, hown, hret, hRel, hFr, hSz⟩ := id hX
        obtain ⟨E, -, -⟩ := hRel.2.2.2.1 (Nat.le_of_ble_eq_true h1)
        obtain ⟨cB, kB, qa, qb, qc⟩ := isOf hZ rfl E
        obtain ⟨v, vm₁, B, w1, w2, w3, w4⟩ := X.virtualBack hx (y := t_nm k') (z := t_nm k') hown (mvT hZ (hw _ wl)) (mvT hZ (hw _ wd)) (notFace_of_selects (args := #[]) (mvT hZ (hw _ wsel))) (mvT hZ (hw _ wsel)) (mvT hZ (hw _ winst)) hne bk qa qc (g := mkF m pc Lc (S.map (cv n0 scA))) rfl hsz (Steps.refl _) (argsL := as.map (cv n0 scA)) (rest := R.map (cv n0 scA)) (lenOf hp (by simp at p2 hn ⊢; omega)) (by rw [hS]; simp [cv, pmRho]) (by show 2 * 0 + _ ≤ _; rw [pmWt_sum]; omega) (hb hby hd) hpre
        exact ⟨v, vm₁, B, w1, w2, w3, fun target q => w4.trans q⟩
      · exact h.elim
    · rename_i k' hmk h1
      split at h
      · rename_i as R hpop
        have W := pmCallW hi hmk
        obtain ⟨wl, wc, wi, hpl, hne, ⟨ps, r, hp, hn⟩, winst, wpriv, wcls⟩ := W
        obtain ⟨p1, p2⟩ := pmPop_spec hpop
        have hS : S = (.ref 1 :: as).reverse ++ R := by simpa using p1.symm
        refine pmCallS hw hpop hpl wc wi (pmCallMono h fun v σ' q => hnx _ _ _ _ q) ?_
        intro p e s m args below meth c T locs Lc Pre Post hX hsz bk hpre
        obtain ⟨X, hx, hZ, hby, hml, hown, hret, hRel, hFr, hSz⟩ := id hX
        obtain ⟨E, -, -⟩ := hRel.2.2.2.1 (Nat.le_of_ble_eq_true h1)
        obtain ⟨cq, q1, q2⟩ := E.cell
        exact privBack X hx (kk := t_ns) (y := t_nm k') hown (mvT hZ (hw _ wl)) (mvT hZ (hw _ winst)) (by rw [wcls]; exact mvT hZ (hw _ f_inst)) (Cond.privateMethod_at (mvP hZ (hw _ wpriv) (args := #[]))) (mvT hZ (hw _ wc)) hne bk (g := mkF m pc Lc (S.map (cv n0 scA))) rfl hsz q1 q2 (argsL := as.map (cv n0 scA)) (rest := R.map (cv n0 scA)) (lenOf hp (by simp at p2 hn ⊢; omega)) (by rw [hS]; simp [cv, pmRho]) (by show 2 * 0 + _ ≤ _; rw [pmWt_sum]; omega) (hb hby hd) hpre
      · exact h.elim
    · exact h.elim
  case invokespecial j =>
    simp only [stp, pmISpe] at h
    split at h
    · rename_i k' hmk h1
      split at h
      · rename_i as R hpop
        have W := pmCallW hi hmk
        obtain ⟨wl, wc, wi, hpl, hne, ⟨ps, r, hp, hn⟩, winst, wnm, wrt⟩ := W
        obtain ⟨p1, p2⟩ := pmPop_spec hpop
        have hS : S = (.ref 1 :: as).reverse ++ R := by simpa using p1.symm
        refine pmCallS hw hpop hpl wc wi (pmCallMono h fun v σ' q => hnx _ _ _ _ q) ?_
        intro p e s m args below meth c T locs Lc Pre Post hX hsz bk hpre
        obtain ⟨X, hx, hZ, hby, hml, hown, hret, hRel, hFr, hSz⟩ := id hX
        rw [wrt] at wc
        obtain ⟨v, vm₁, B, w1, w2, w3, w4⟩ := X.specialBack hx (y := t_nm k') wnm hown (mvT hZ (hw _ wl)) (mvT hZ (hw _ winst)) (mvT hZ (hw _ wc)) hne bk (g := mkF m pc Lc (S.map (cv n0 scA))) rfl hsz (Steps.refl _) (a := n0) (argsL := as.map (cv n0 scA)) (rest := R.map (cv n0 scA)) (lenOf hp (by simp at p2 hn ⊢; omega)) (by rw [hS]; simp [cv, pmRho]) (by show 2 * 0 + _ ≤ _; rw [pmWt_sum]; omega) (hb hby hd) hpre
        exact ⟨v, vm₁, B, w1, w2, w3, fun target q => w4.trans q⟩
      · exact h.elim
    · rename_i k' hmk h1
      split at h
      · rename_i R
        have W := pmCallW hi hmk
        obtain ⟨w1, w2, w3⟩ := W
        obtain ⟨⟨b1, b2⟩, h⟩ := h
        refine pmStep (hnx _ _ _ _ h) rfl (fun _ q => q) fun p e s m args below meth c T locs Lc hX hR hC hL => ?_
        obtain ⟨X, hx, hZ, hby, hml, hown, hret, hRel, hFr, hSz⟩ := id hX
        obtain ⟨T', X', e', s'⟩ := initO X hx hZ hown (hw _ w1) (hw _ w2) (hw _ w3) rfl (g := mkF m pc Lc (.ref n0 :: R.map (cv n0 scA))) rfl (by show Lc.size = c.maxLocals; rw [hR.1, hL, hml]) rfl (hb hby hd) b1 (W := pmWt R) (by show 2 * 0 + _ ≤ _; rw [pmWt_sum]; omega) b2
        exact ⟨T', locs, Lc, ⟨X', hx, hZ, hby, hml, hown, hret, by rw [e']; exact hRel, hFr, hSz⟩, hR, hC, s'⟩
      · exact h.elim
    · exact h.elim
  case ireturn =>
    have ro : pmRet k σ.1 = true → pmROk k σ.1 σ.1 := fun q => ⟨fun _ => rfl, fun z => by simp only [pmRet, z] at q; exact Nat.eq_of_beq_eq_true q⟩
    simp only [stp, pmIRet] at h
    split at h
    · rename_i hrt hre
      simp only [pmInt] at h
      split at h
      · rename_i x R
        intro p e s m args below meth c T locs Lc hX hR hC hL
        refine ⟨_, σ, T, locs, hX, h, ro hre, fun z => (by rw [hrt] at z; cases z), fun fs hr => ?_⟩
        exact retI hX.1 hX.2.1 (hX.2.2.2.2.2.2.1.trans hrt) (hb hX.2.2.2.1 hd) hr
      · exact h.elim
    · rename_i hrt hre
      simp only [pmInt] at h
      split at h
      · rename_i x R
        intro p e s m args below meth c T locs Lc hX hR hC hL
        refine ⟨_, σ, T, locs, hX, h, ro hre, fun z => (by rw [hrt] at z; cases z), fun fs hr => ?_⟩
        exact retN hX.1 hX.2.1 (t := .boolean) (hX.2.2.2.2.2.2.1.trans hrt) (Or.inl rfl) (hb hX.2.2.2.1 hd) hr
      · exact h.elim
    · exact h.elim
  case lreturn =>
    have ro : pmRet k σ.1 = true → pmROk k σ.1 σ.1 := fun q => ⟨fun _ => rfl, fun z => by simp only [pmRet, z] at q; exact Nat.eq_of_beq_eq_true q⟩
    simp only [stp, pmIRtL] at h
    split at h
    · rename_i x R hrt hre
      intro p e s m args below meth c T locs Lc hX hR hC hL
      refine ⟨_, σ, T, locs, hX, h, ro hre, fun z => (by rw [hrt] at z; cases z), fun fs hr => ?_⟩
      exact retL hX.1 hX.2.1 (hX.2.2.2.2.2.2.1.trans hrt) (hb hX.2.2.2.1 hd) hr
    · exact h.elim
  case return_ =>
    have ro : pmRet k σ.1 = true → pmROk k σ.1 σ.1 := fun q => ⟨fun _ => rfl, fun z => by simp only [pmRet, z] at q; exact Nat.eq_of_beq_eq_true q⟩
    simp only [stp, pmIRtV] at h
    split at h
    · rename_i hrt hre
      intro p e s m args below meth c T locs Lc hX hR hC hL
      refine ⟨_, σ, T, locs, hX, h, ro hre, fun z => rfl, fun fs hr => ?_⟩
      exact retV hX.1 hX.2.1 (hX.2.2.2.2.2.2.1.trans hrt) (hb hX.2.2.2.1 hd) hr
    · exact h.elim
  all_goals exact False.elim h
theorem pmClosed (hw : ∀ d ∈ tables_1, d.before a0 Z = true) (cut : List Nat) (n : Nat) : ∀ (k pc : Nat) (Ls : List Slot) (S : List Value) (σ : Mem) (Q : Pst), wp (WM l Z n0 scA) cut n k pc Ls S σ Q → WM l Z n0 scA k pc Ls S σ Q := by
  induction n with
  | zero => intro k pc Ls S σ Q h; exact h.elim
  | succ n ih =>
    intro k pc Ls S σ Q h
    simp only [wp] at h
    split at h
    · exact h.elim
    · rename_i i hi
      refine pmSound hw hi ?_ h
      intro pc' Ls' S' σ' h'
      split at h'
      · exact h'
      · exact ih _ _ _ _ _ _ h'
theorem pmForget {k pc : Nat} {Ls Ls' : List Slot} {S : List Value} {σ : Mem} {Q : Pst} (hle : pmLe Ls' Ls) (h : WM l Z n0 scA k pc Ls' S σ Q) : WM l Z n0 scA k pc Ls S σ Q := by
  have key : ∀ (A B : List Slot), pmLe A B → A.length = B.length ∧ ∀ (i : Nat) (x : Slot), A[i]? = some x → x ≠ .unset → B[i]? = some x := by
    intro A
    induction A with
    | nil => intro B h; cases B with
      | nil => exact ⟨rfl, fun i x h => by simp at h⟩
      | cons _ _ => exact h.elim
    | cons a A ih => intro B h; cases B with
      | nil => exact h.elim
      | cons b B =>
        obtain ⟨h1, h2⟩ := ih B h.2
        refine ⟨by simp [h1], fun i x hx hne => ?_⟩
        cases i with
        | zero =>
          have : a = x := by simpa using hx
          subst this
          rcases h.1 with e | e
          · exact absurd e hne
          · simp [e]
        | succ i => simpa using h2 i x (by simpa using hx) hne
  obtain ⟨h1, h2⟩ := key _ _ hle
  exact pmStep h h1 (fun _ q => q) fun p e s m args below meth c T locs Lc hX hR hC hL => ⟨T, locs, Lc, hX, ⟨by rw [hR.1, h1], fun i x hx hne => hR.2 i x (h2 i x hx hne) hne⟩, hC, fun _ q => q⟩
end Sound
/-! ## FetchNegotiator in the pure machine -/
def Clo (W : WPr) : Prop := ∀ (cut : List Nat) (n k pc : Nat) (Ls : List Slot) (S : List Value) (σ : Mem) (Q : Pst), wp W cut n k pc Ls S σ Q → W k pc Ls S σ Q
def Fgt (W : WPr) : Prop := ∀ (k pc : Nat) (Ls Ls' : List Slot) (S : List Value) (σ : Mem) (Q : Pst), pmLe Ls' Ls → W k pc Ls' S σ Q → W k pc Ls S σ Q
def nst (n : Nat) (I : Nat → Int32) (A : Nat → Nat → Int32) : Mem :=
  (10, n, [.int (I 0), .int (I 1), .int (I 2), .int (I 3), .int (I 4), .int (I 5), .int (I 6), .int (I 7), .ref 2, .ref 3, .ref 4, .ref 5, .ref 6, .ref 7, .ref 8, .ref 9, .ref 10], A)
def fSt (I : Nat → Int32) (j : Nat) (v : Int32) : Nat → Int32 := fun i => if i = j then v else I i
theorem pmSet_eq (A : Nat → Nat → Int32) (r i : Nat) (v : Int32) : pmSet A r i v r i = v := by simp [pmSet]
theorem pmSet_ne (A : Nat → Nat → Int32) (r : Nat) (v : Int32) {i j : Nat} (h : ¬ j = i) : pmSet A r i v r j = A r j := by simp only [pmSet, if_true, if_neg h]
theorem pmSet_r (A : Nat → Nat → Int32) (i : Nat) (v : Int32) {r r' : Nat} (h : ¬ r' = r) : pmSet A r i v r' = A r' := by funext j; simp only [pmSet, if_neg h]
abbrev i32 (n : Nat) : Int32 := Int32.ofNat n
theorem i32_toInt {n : Nat} (h : n < 2147483648) : (i32 n).toInt = (n : Int) := Int32.toInt_ofNat_of_lt h
theorem i32_succ (n : Nat) : i32 n + Int32.ofInt 1 = i32 (n + 1) := by
  show Int32.ofNat n + 1 = Int32.ofNat (n + 1)
  rw [Int32.ofNat_add]; rfl
theorem i32_of {x : Int32} (h : 0 ≤ x.toInt) : x = i32 x.toInt.toNat := by
  apply Int32.toInt_inj.mp
  have := Int32.toInt_lt x
  rw [i32_toInt (by omega)]; omega
variable {W : WPr}
theorem n10 : ¬ (1 : Int32) = 0 := by decide
theorem inRange_ok (hW : Clo W) {n : Nat} {I : Nat → Int32} {A : Nat → Nat → Int32} {id : Int32} {Q : Pst}
    (h1 : 0 ≤ id.toInt → id.toInt < (I 3).toInt → id.toInt < 32 → Q (some (.int 1)) (nst n I A)) (h0 : ¬ (0 ≤ id.toInt ∧ id.toInt < (I 3).toInt ∧ id.toInt < 32) → Q (some (.int 0)) (nst n I A)) :
    W k_inRange 0 [.val (.ref 1), .val (.int id)] [] (nst n I A) Q := by
  have e0 : (0 : Int32).toInt = 0 := rfl
  have e32 : (Int32.ofInt 32).toInt = 32 := by decide
  refine hW [] 20 _ _ _ _ _ _ ?_
  refine ⟨fun q => ?_, fun q => ⟨fun q2 => ⟨fun q3 => ?_, fun q3 => ?_⟩, fun q2 => ?_⟩⟩
  · exact h0 (by omega)
  · exact h1 (by omega) q2 (by omega)
  · exact h0 (by omega)
  · exact h0 (by omega)
def clF (v lo hi : Int32) : Int32 := if v.toInt < lo.toInt then lo else if hi.toInt < v.toInt then hi else v
theorem clamp_ok (hW : Clo W) {σ : Mem} {v lo hi : Int32} {Q : Pst} (hq : Q (some (.int (clF v lo hi))) σ) : W k_clamp 0 [.val (.ref 1), .val (.int v), .val (.int lo), .val (.int hi)] [] σ Q := by
  refine hW [] 20 _ _ _ _ _ _ ?_
  unfold clF at hq
  refine ⟨fun q => ?_, fun q => ⟨fun q2 => ?_, fun q2 => ?_⟩⟩
  · rw [if_pos q] at hq; exact hq
  · rw [if_neg q, if_pos q2] at hq; exact hq
  · rw [if_neg q, if_neg q2] at hq; exact hq
def fI (c b r : Int32) : Nat → Int32
  | 0 => clF c (Int32.ofInt 8) (Int32.ofInt 32)
  | 1 => clF b (Int32.ofInt 1) (Int32.ofInt 8)
  | 2 => clF r (Int32.ofInt 1) (Int32.ofInt 16)
  | _ => 0
theorem init_ok (hW : Clo W) {n : Nat} {F : List Value} {A : Nat → Nat → Int32} {c b r : Int32} {Q : Pst} (hq : Q none (nst n (fI c b r) A)) : W k_init 0 [.val (.ref 1), .val (.int c), .val (.int b), .val (.int r)] [] (1, n, t_flds.map (fun f => defaultValue f.2.2), A) Q := by
  refine hW [] 100 _ _ _ _ _ _ ?_
  refine ⟨by decide, ⟨by decide, ⟨by decide, ⟨by decide, ⟨by decide, ⟨by decide, ⟨by decide, ⟨by decide, ⟨by decide, ⟨by decide, ?_⟩⟩⟩⟩⟩⟩⟩⟩⟩⟩
  refine clamp_ok hW ?_
  refine clamp_ok hW ?_
  refine clamp_ok hW ?_
  exact hq
theorem tI_add {x y : Int32} (h1 : -2147483648 ≤ x.toInt + y.toInt) (h2 : x.toInt + y.toInt < 2147483648) : (x + y).toInt = x.toInt + y.toInt := by
  rw [Int32.toInt_add]; exact Int.bmod_eq_of_le (by omega) (by omega)
theorem tI_sub {x y : Int32} (h1 : -2147483648 ≤ x.toInt - y.toInt) (h2 : x.toInt - y.toInt < 2147483648) : (x - y).toInt = x.toInt - y.toInt := by
  rw [Int32.toInt_sub]; exact Int.bmod_eq_of_le (by omega) (by omega)
theorem tI_mul {x y : Int32} (h1 : -2147483648 ≤ x.toInt * y.toInt) (h2 : x.toInt * y.toInt < 2147483648) : (x * y).toInt = x.toInt * y.toInt := by
  rw [Int32.toInt_mul]; exact Int.bmod_eq_of_le (by omega) (by omega)
theorem tI0 : (0 : Int32).toInt = 0 := rfl
theorem tI1 : (1 : Int32).toInt = 1 := rfl
theorem oI0 : (Int32.ofInt 0).toInt = 0 := by decide
theorem oI1 : (Int32.ofInt 1).toInt = 1 := by decide
theorem oI2 : (Int32.ofInt 2).toInt = 2 := by decide
theorem oI3 : (Int32.ofInt 3).toInt = 3 := by decide
theorem oI32 : (Int32.ofInt 32).toInt = 32 := by decide
theorem oIm1 : (Int32.ofInt (-1)).toInt = -1 := by decide
theorem tI_x3 {x : Int32} (h0 : 0 ≤ x.toInt) (h1 : x.toInt < 32) : (x * Int32.ofInt 3).toInt = 3 * x.toInt := by
  rw [tI_mul (by rw [oI3]; omega) (by rw [oI3]; omega), oI3]; omega
theorem tI_x3k {x y : Int32} (h0 : 0 ≤ x.toInt) (h1 : x.toInt < 32) (h2 : 0 ≤ y.toInt) (h3 : y.toInt < 3) : (x * Int32.ofInt 3 + y).toInt = 3 * x.toInt + y.toInt := by
  rw [tI_add (by rw [tI_x3 h0 h1]; omega) (by rw [tI_x3 h0 h1]; omega), tI_x3 h0 h1]
theorem norm_ok (hW : Clo W) {σ : Mem} {v : Int32} {Q : Pst} (hq : Q (some (.int (if v.toInt < 0 then Int32.ofInt (-1) else v))) σ) : W k_norm 0 [.val (.ref 1), .val (.int v)] [] σ Q := by
  refine hW [] 20 _ _ _ _ _ _ ?_
  refine ⟨fun q => ?_, fun q => ?_⟩
  · rw [if_pos (by rwa [tI0] at q)] at hq; exact hq
  · rw [if_neg (by rwa [tI0] at q)] at hq; exact hq
theorem validEntry_ok (hW : Clo W) {n : Nat} {I : Nat → Int32} {A : Nat → Nat → Int32} {e : Int32} {Q : Pst}
    (h1 : (e.toInt < 0 ∨ (0 ≤ e.toInt ∧ e.toInt < (I 3).toInt ∧ e.toInt < 32 ∧ ¬ A 2 e.toInt.toNat = 3)) → Q (some (.int 1)) (nst n I A)) (h0 : ¬ (e.toInt < 0 ∨ (0 ≤ e.toInt ∧ e.toInt < (I 3).toInt ∧ e.toInt < 32 ∧ ¬ A 2 e.toInt.toNat = 3)) → Q (some (.int 0)) (nst n I A)) :
    W k_validEntry 0 [.val (.ref 1), .val (.int e)] [] (nst n I A) Q := by
  refine hW [] 30 _ _ _ _ _ _ ?_
  refine ⟨fun q => ?_, fun q => ?_⟩
  · exact h1 (Or.inl (by rwa [tI0] at q))
  · rw [tI0] at q
    refine inRange_ok hW (fun a b c => ?_) (fun d => ?_)
    · refine ⟨fun z => absurd z n10, fun _ => ?_⟩
      refine ⟨⟨a, by show e.toInt < 32; exact c⟩, ⟨fun z => ?_, fun z => ?_⟩⟩
      · exact h0 (fun w => w.elim q (fun w => w.2.2.2 z))
      · exact h1 (Or.inr ⟨a, b, c, z⟩)
    · refine ⟨fun _ => ?_, fun z => absurd rfl z⟩
      exact h0 (fun w => w.elim q (fun w => d ⟨w.1, w.2.1, w.2.2.1⟩))
theorem validParent_ok (hW : Clo W) {n : Nat} {I : Nat → Int32} {A : Nat → Nat → Int32} {e : Int32} {Q : Pst}
    (h1 : (e.toInt < 0 ∨ (0 ≤ e.toInt ∧ e.toInt < (I 3).toInt ∧ e.toInt < 32 ∧ A 2 e.toInt.toNat = 3)) → Q (some (.int 1)) (nst n I A)) (h0 : ¬ (e.toInt < 0 ∨ (0 ≤ e.toInt ∧ e.toInt < (I 3).toInt ∧ e.toInt < 32 ∧ A 2 e.toInt.toNat = 3)) → Q (some (.int 0)) (nst n I A)) :
    W k_validParent 0 [.val (.ref 1), .val (.int e)] [] (nst n I A) Q := by
  refine hW [] 30 _ _ _ _ _ _ ?_
  refine ⟨fun q => ?_, fun q => ?_⟩
  · exact h1 (Or.inl (by rwa [tI0] at q))
  · rw [tI0] at q
    refine inRange_ok hW (fun a b c => ?_) (fun d => ?_)
    · refine ⟨fun z => absurd z n10, fun _ => ?_⟩
      refine ⟨⟨a, by show e.toInt < 32; exact c⟩, ⟨fun z => ?_, fun z => ?_⟩⟩
      · exact h1 (Or.inr ⟨a, b, c, z⟩)
      · exact h0 (fun w => w.elim q (fun w => z w.2.2.2))
    · refine ⟨fun _ => ?_, fun z => absurd rfl z⟩
      exact h0 (fun w => w.elim q (fun w => d ⟨w.1, w.2.1, w.2.2.1⟩))
def fb (x : Int32) : Int32 := x.toInt8.toInt32.toInt8.toInt32
def fDef (A : Nat → Nat → Int32) (c : Nat) (k t l0 l1 l2 : Int32) : Nat → Nat → Int32 :=
  pmSet (pmSet (pmSet (pmSet (pmSet (pmSet (pmSet (pmSet A 2 c (fb k)) 3 c t) 4 (3 * c) l0) 4 (3 * c + 1) l1) 4 (3 * c + 2) l2) 5 c 0) 5 (32 + c) 0) 6 c 0
theorem define_ok (hW : Clo W) {n : Nat} {I : Nat → Int32} {A : Nat → Nat → Int32} {k t l0 l1 l2 : Int32} {Q : Pst} (c0 : 0 ≤ (I 3).toInt) (c1 : (I 3).toInt < 32)
    (hq : Q (some (.int (I 3))) (nst n (fSt I 3 (I 3 + Int32.ofInt 1)) (fDef A (I 3).toInt.toNat k t l0 l1 l2))) :
    W k_define 0 [.val (.ref 1), .val (.int k), .val (.int t), .val (.int l0), .val (.int l1), .val (.int l2), .unset] [] (nst n I A) Q := by
  have m0 := tI_x3 c0 c1
  have m1 := tI_x3k (y := Int32.ofInt 1) c0 c1 (by decide) (by decide)
  have m2 := tI_x3k (y := Int32.ofInt 2) c0 c1 (by decide) (by decide)
  have m3 : (Int32.ofInt 32 + I 3).toInt = 32 + (I 3).toInt := by rw [tI_add (by rw [oI32]; omega) (by rw [oI32]; omega), oI32]
  rw [oI1] at m1
  rw [oI2] at m2
  refine hW [] 80 _ _ _ _ _ _ ?_
  refine ⟨fun q => ?_, fun _ => ⟨fun _ => ?_, fun q => ?_⟩⟩
  · rw [tI0] at q; omega
  · refine ⟨⟨c0, c1⟩, ⟨⟨c0, c1⟩, ⟨?_, ⟨?_, ⟨?_, ⟨?_, ⟨?_, ⟨?_, ?_⟩⟩⟩⟩⟩⟩⟩⟩
    · show 0 ≤ (I 3 * Int32.ofInt 3).toInt ∧ (I 3 * Int32.ofInt 3).toInt < 96; omega
    · show 0 ≤ (I 3 * Int32.ofInt 3 + Int32.ofInt 1).toInt ∧ (I 3 * Int32.ofInt 3 + Int32.ofInt 1).toInt < 96; omega
    · show 0 ≤ (I 3 * Int32.ofInt 3 + Int32.ofInt 2).toInt ∧ (I 3 * Int32.ofInt 3 + Int32.ofInt 2).toInt < 96; omega
    · show 0 ≤ (I 3).toInt ∧ (I 3).toInt < 64; omega
    · show 0 ≤ (Int32.ofInt 32 + I 3).toInt ∧ (Int32.ofInt 32 + I 3).toInt < 64; omega
    · show 0 ≤ (I 3).toInt ∧ (I 3).toInt < 32; omega
    · show Q (some (.int (I 3))) (nst n (fSt I 3 (I 3 + Int32.ofInt 1)) (pmSet (pmSet (pmSet (pmSet (pmSet (pmSet (pmSet (pmSet A 2 (I 3).toInt.toNat (fb k)) 3 (I 3).toInt.toNat t) 4 (I 3 * Int32.ofInt 3).toInt.toNat l0) 4 (I 3 * Int32.ofInt 3 + Int32.ofInt 1).toInt.toNat l1) 4 (I 3 * Int32.ofInt 3 + Int32.ofInt 2).toInt.toNat l2) 5 (I 3).toInt.toNat 0) 5 (Int32.ofInt 32 + I 3).toInt.toNat 0) 6 (I 3).toInt.toNat 0))
      have e0 : (I 3 * Int32.ofInt 3).toInt.toNat = 3 * (I 3).toInt.toNat := by omega
      have e1 : (I 3 * Int32.ofInt 3 + Int32.ofInt 1).toInt.toNat = 3 * (I 3).toInt.toNat + 1 := by omega
      have e2 : (I 3 * Int32.ofInt 3 + Int32.ofInt 2).toInt.toNat = 3 * (I 3).toInt.toNat + 2 := by omega
      have e3 : (Int32.ofInt 32 + I 3).toInt.toNat = 32 + (I 3).toInt.toNat := by omega
      rw [e0, e1, e2, e3]
      exact hq
  · exact absurd (show (I 3).toInt < (Int32.ofInt 32).toInt by rw [oI32]; exact c1) q
theorem addBlob_ok (hW : Clo W) {n : Nat} {I : Nat → Int32} {A : Nat → Nat → Int32} {Q : Pst} (c0 : 0 ≤ (I 3).toInt) (c1 : (I 0).toInt ≤ 32)
    (h1 : (I 3).toInt < (I 0).toInt → Q (some (.int (I 3))) (nst n (fSt I 3 (I 3 + Int32.ofInt 1)) (fDef A (I 3).toInt.toNat (Int32.ofInt 1) (Int32.ofInt 0) (Int32.ofInt (-1)) (Int32.ofInt (-1)) (Int32.ofInt (-1))))) (h0 : ¬ (I 3).toInt < (I 0).toInt → Q (some (.int (-1))) (nst n I A)) :
    W k_addBlob 0 [.val (.ref 1)] [] (nst n I A) Q := by
  refine hW [] 30 _ _ _ _ _ _ ?_
  refine ⟨fun q => ?_, fun q => h0 q⟩
  refine define_ok hW c0 (by have q' : (I 3).toInt < (I 0).toInt := q; omega) ?_
  exact h1 q
def vE (I : Nat → Int32) (A : Nat → Nat → Int32) (e : Int32) : Prop := e.toInt < 0 ∨ (0 ≤ e.toInt ∧ e.toInt < (I 3).toInt ∧ e.toInt < 32 ∧ ¬ A 2 e.toInt.toNat = 3)
def vP (I : Nat → Int32) (A : Nat → Nat → Int32) (e : Int32) : Prop := e.toInt < 0 ∨ (0 ≤ e.toInt ∧ e.toInt < (I 3).toInt ∧ e.toInt < 32 ∧ A 2 e.toInt.toNat = 3)
def nrm (v : Int32) : Int32 := if v.toInt < 0 then Int32.ofInt (-1) else v
theorem addTree_ok (hW : Clo W) {n : Nat} {I : Nat → Int32} {A : Nat → Nat → Int32} {e0 e1 e2 : Int32} {Q : Pst} (c0 : 0 ≤ (I 3).toInt) (c1 : (I 0).toInt ≤ 32)
    (h1 : (I 3).toInt < (I 0).toInt → vE I A e0 → vE I A e1 → vE I A e2 → Q (some (.int (I 3))) (nst n (fSt I 3 (I 3 + Int32.ofInt 1)) (fDef A (I 3).toInt.toNat (Int32.ofInt 2) (Int32.ofInt 0) (nrm e0) (nrm e1) (nrm e2))))
    (h0 : ¬ ((I 3).toInt < (I 0).toInt ∧ vE I A e0 ∧ vE I A e1 ∧ vE I A e2) → Q (some (.int (-1))) (nst n I A)) :
    W k_addTree 0 [.val (.ref 1), .val (.int e0), .val (.int e1), .val (.int e2), .unset, .unset, .unset] [] (nst n I A) Q := by
  refine hW [] 50 _ _ _ _ _ _ ?_
  refine ⟨fun q => ?_, fun q => h0 fun z => q z.1⟩
  have q' : (I 3).toInt < (I 0).toInt := q
  refine validEntry_ok hW (fun v0 => ?_) (fun v0 => ?_)
  · refine ⟨fun z => absurd z n10, fun _ => ?_⟩
    refine validEntry_ok hW (fun v1 => ?_) (fun v1 => ?_)
    · refine ⟨fun z => absurd z n10, fun _ => ?_⟩
      refine validEntry_ok hW (fun v2 => ?_) (fun v2 => ?_)
      · refine ⟨fun z => absurd z n10, fun _ => ?_⟩
        refine norm_ok hW ?_
        refine norm_ok hW ?_
        refine norm_ok hW ?_
        refine define_ok hW c0 (by omega) ?_
        exact h1 q v0 v1 v2
      · exact ⟨fun _ => h0 fun z => v2 z.2.2.2, fun z => absurd rfl z⟩
    · exact ⟨fun _ => h0 fun z => v1 z.2.2.1, fun z => absurd rfl z⟩
  · exact ⟨fun _ => h0 fun z => v0 z.2.1, fun z => absurd rfl z⟩
theorem addCommit_ok (hW : Clo W) {n : Nat} {I : Nat → Int32} {A : Nat → Nat → Int32} {t e0 e1 e2 : Int32} {Q : Pst} (c0 : 0 ≤ (I 3).toInt) (c1 : (I 0).toInt ≤ 32)
    (h1 : (I 3).toInt < (I 0).toInt → 0 ≤ e0.toInt → e0.toInt < (I 3).toInt → e0.toInt < 32 → A 2 e0.toInt.toNat = 2 → vP I A e1 → vP I A e2 → Q (some (.int (I 3))) (nst n (fSt I 3 (I 3 + Int32.ofInt 1)) (fDef A (I 3).toInt.toNat (Int32.ofInt 3) t e0 (nrm e1) (nrm e2))))
    (h0 : ¬ ((I 3).toInt < (I 0).toInt ∧ (0 ≤ e0.toInt ∧ e0.toInt < (I 3).toInt ∧ e0.toInt < 32) ∧ A 2 e0.toInt.toNat = 2 ∧ vP I A e1 ∧ vP I A e2) → Q (some (.int (-1))) (nst n I A)) :
    W k_addCommit 0 [.val (.ref 1), .val (.int t), .val (.int e0), .val (.int e1), .val (.int e2), .unset, .unset] [] (nst n I A) Q := by
  refine hW [] 60 _ _ _ _ _ _ ?_
  refine ⟨fun q => ?_, fun q => h0 fun z => q z.1⟩
  have q' : (I 3).toInt < (I 0).toInt := q
  refine inRange_ok hW (fun a b c => ?_) (fun d => ?_)
  · refine ⟨fun z => absurd z n10, fun _ => ?_⟩
    refine ⟨⟨a, by show e0.toInt < 32; exact c⟩, ⟨fun v0 => ?_, fun v0 => h0 fun z => v0 z.2.2.1⟩⟩
    refine validParent_ok hW (fun v1 => ?_) (fun v1 => ?_)
    · refine ⟨fun z => absurd z n10, fun _ => ?_⟩
      refine validParent_ok hW (fun v2 => ?_) (fun v2 => ?_)
      · refine ⟨fun z => absurd z n10, fun _ => ?_⟩
        refine norm_ok hW ?_
        refine norm_ok hW ?_
        refine define_ok hW c0 (by omega) ?_
        exact h1 q a b c v0 v1 v2
      · exact ⟨fun _ => h0 fun z => v2 z.2.2.2.2, fun z => absurd rfl z⟩
    · exact ⟨fun _ => h0 fun z => v1 z.2.2.2.1, fun z => absurd rfl z⟩
  · exact ⟨fun _ => h0 fun z => d z.2.1, fun z => absurd rfl z⟩
theorem kindOf_ok (hW : Clo W) {n : Nat} {I : Nat → Int32} {A : Nat → Nat → Int32} {id : Int32} {Q : Pst}
    (h1 : 0 ≤ id.toInt → id.toInt < (I 3).toInt → id.toInt < 32 → Q (some (.int (A 2 id.toInt.toNat))) (nst n I A)) (h0 : ¬ (0 ≤ id.toInt ∧ id.toInt < (I 3).toInt ∧ id.toInt < 32) → Q (some (.int 0)) (nst n I A)) :
    W k_kindOf 0 [.val (.ref 1), .val (.int id)] [] (nst n I A) Q := by
  refine hW [] 30 _ _ _ _ _ _ ?_
  refine inRange_ok hW (fun a b c => ?_) (fun d => ?_)
  · refine ⟨fun z => absurd z n10, fun _ => ?_⟩
    exact ⟨⟨a, by show id.toInt < 32; exact c⟩, h1 a b c⟩
  · exact ⟨fun _ => h0 d, fun z => absurd rfl z⟩
theorem link_ok (hW : Clo W) {n : Nat} {I : Nat → Int32} {A : Nat → Nat → Int32} {id k : Int32} {Q : Pst}
    (h1 : 0 ≤ id.toInt → id.toInt < (I 3).toInt → id.toInt < 32 → 0 ≤ k.toInt → k.toInt ≤ 2 → Q (some (.int (A 4 (3 * id.toInt.toNat + k.toInt.toNat)))) (nst n I A)) (h0 : ¬ ((0 ≤ id.toInt ∧ id.toInt < (I 3).toInt ∧ id.toInt < 32) ∧ 0 ≤ k.toInt ∧ k.toInt ≤ 2) → Q (some (.int (-1))) (nst n I A)) :
    W k_link 0 [.val (.ref 1), .val (.int id), .val (.int k)] [] (nst n I A) Q := by
  refine hW [] 40 _ _ _ _ _ _ ?_
  refine inRange_ok hW (fun a b c => ?_) (fun d => ?_)
  · refine ⟨fun z => absurd z n10, fun _ => ⟨fun q => h0 fun z => ?_, fun q => ⟨fun q2 => h0 fun z => ?_, fun q2 => ?_⟩⟩⟩
    · have q' : k.toInt < 0 := q
      omega
    · have q2' : (Int32.ofInt 2).toInt < k.toInt := q2
      rw [oI2] at q2'; omega
    · have q' : ¬ k.toInt < 0 := q
      have q2' : ¬ (Int32.ofInt 2).toInt < k.toInt := q2
      rw [oI2] at q2'
      have m := tI_x3k (y := k) a c (by omega) (by omega)
      refine ⟨?_, ?_⟩
      · show 0 ≤ (id * Int32.ofInt 3 + k).toInt ∧ (id * Int32.ofInt 3 + k).toInt < 96
        omega
      · show Q (some (.int (A 4 (id * Int32.ofInt 3 + k).toInt.toNat))) (nst n I A)
        have e : (id * Int32.ofInt 3 + k).toInt.toNat = 3 * id.toInt.toNat + k.toInt.toNat := by omega
        rw [e]
        exact h1 a b c (by omega) (by omega)
  · exact ⟨fun _ => h0 fun z => d z.1, fun z => absurd rfl z⟩
theorem tI_32k {x y : Int32} (h0 : 0 ≤ x.toInt) (h1 : x.toInt ≤ 1) (h2 : 0 ≤ y.toInt) (h3 : y.toInt < 32) : (x * Int32.ofInt 32 + y).toInt = 32 * x.toInt + y.toInt := by
  have m : (x * Int32.ofInt 32).toInt = 32 * x.toInt := by rw [tI_mul (by rw [oI32]; omega) (by rw [oI32]; omega), oI32]; omega
  rw [tI_add (by rw [m]; omega) (by rw [m]; omega), m]
theorem has_ok (hW : Clo W) {n : Nat} {I : Nat → Int32} {A : Nat → Nat → Int32} {s id : Int32} {Q : Pst}
    (h1 : (s = 0 ∨ s = 1) → 0 ≤ id.toInt → id.toInt < (I 3).toInt → id.toInt < 32 → Q (some (.int (A 5 (32 * s.toInt.toNat + id.toInt.toNat) &&& 1))) (nst n I A)) (h0 : ¬ ((s = 0 ∨ s = 1) ∧ 0 ≤ id.toInt ∧ id.toInt < (I 3).toInt ∧ id.toInt < 32) → Q (some (.int 0)) (nst n I A)) :
    W k_has 0 [.val (.ref 1), .val (.int s), .val (.int id)] [] (nst n I A) Q := by
  refine hW [] 40 _ _ _ _ _ _ ?_
  have main : (hs : s = 0 ∨ s = 1) → (0 ≤ id.toInt) → id.toInt < (I 3).toInt → id.toInt < 32 → (0 ≤ (s * Int32.ofInt 32 + id).toInt ∧ (s * Int32.ofInt 32 + id).toInt < 64) ∧ Q (some (.int (A 5 (s * Int32.ofInt 32 + id).toInt.toNat &&& 1))) (nst n I A) := by
    intro hs a b c
    have s0 : 0 ≤ s.toInt ∧ s.toInt ≤ 1 := by rcases hs with rfl | rfl <;> decide
    have m := tI_32k s0.1 s0.2 a c
    refine ⟨by omega, ?_⟩
    have e : (s * Int32.ofInt 32 + id).toInt.toNat = 32 * s.toInt.toNat + id.toInt.toNat := by omega
    rw [e]
    exact h1 hs a b c
  refine ⟨fun q => ?_, fun q => ⟨fun q2 => ?_, fun q2 => ?_⟩⟩
  · refine inRange_ok hW (fun a b c => ?_) (fun d => ?_)
    · exact ⟨fun z => absurd z n10, fun _ => main (Or.inl q) a b c⟩
    · exact ⟨fun _ => h0 fun z => d z.2, fun z => absurd rfl z⟩
  · refine inRange_ok hW (fun a b c => ?_) (fun d => ?_)
    · exact ⟨fun z => absurd z n10, fun _ => main (Or.inr q2) a b c⟩
    · exact ⟨fun _ => h0 fun z => d z.2, fun z => absurd rfl z⟩
  · exact h0 fun z => z.1.elim q q2
/-! marks -/
theorem clearMark_ok (hW : Clo W) {n : Nat} {I : Nat → Int32} {A : Nat → Nat → Int32} {Q : Pst} (hq : ∀ A' : Nat → Nat → Int32, (∀ i, i < 32 → A' 8 i = 0) → (∀ r, r ≠ 8 → A' r = A r) → Q none (nst n I A')) :
    W k_clearMark 0 [.val (.ref 1), .unset] [] (nst n I A) Q := by
  have loop : ∀ (m j : Nat) (B : Nat → Nat → Int32), j + m = 32 → (∀ i, i < j → B 8 i = 0) → (∀ r, r ≠ 8 → B r = A r) → W k_clearMark 2 [.val (.ref 1), .val (.int (i32 j))] [] (nst n I B) Q := by
    intro m
    induction m with
    | zero =>
      intro j B hj hB hr
      have ji : (i32 j).toInt = (j : Int) := i32_toInt (by omega)
      refine hW [] 20 _ _ _ _ _ _ ?_
      refine ⟨fun q => ?_, fun q => ?_⟩
      · have q' : (i32 j).toInt < (Int32.ofInt 32).toInt := q
        rw [ji, oI32] at q'; omega
      · exact hq B (fun i hi => hB i (by omega)) hr
    | succ m ih =>
      intro j B hj hB hr
      have ji : (i32 j).toInt = (j : Int) := i32_toInt (by omega)
      refine hW [2] 20 _ _ _ _ _ _ ?_
      refine ⟨fun q => ?_, fun q => ?_⟩
      · refine ⟨?_, ?_⟩
        · show 0 ≤ (i32 j).toInt ∧ (i32 j).toInt < 32
          rw [ji]; omega
        · show W k_clearMark 2 [.val (.ref 1), .val (.int (i32 j + Int32.ofInt 1))] [] (nst n I (pmSet B 8 (i32 j).toInt.toNat 0)) Q
          rw [i32_succ, ji]
          refine ih (j + 1) _ (by omega) (fun i hi => ?_) (fun r hr' => ?_)
          · by_cases e : i = j
            · simp [pmSet, e]
            · simp [pmSet, e]; exact hB i (by omega)
          · rw [← hr r hr']; funext i; simp [pmSet, hr']
      · have q' : ¬ (i32 j).toInt < (Int32.ofInt 32).toInt := q
        rw [ji, oI32] at q'; omega
  refine hW [2] 20 _ _ _ _ _ _ ?_
  exact loop 32 0 A rfl (fun i hi => by omega) (fun _ _ => rfl)
def mClo (lk : Nat → Int32) (lo d : Nat) (P : Nat → Prop) : Prop := ∀ i, lo ≤ i → i ≤ d → P i → ∀ k, k < 3 → 0 ≤ (lk (3 * i + k)).toInt → (lk (3 * i + k)).toInt < (i : Int) → P (lk (3 * i + k)).toInt.toNat
/-- between A and B: marks of d's reach have come, closed from lo on -/
def mInv (A B : Nat → Nat → Int32) (d lo : Nat) : Prop :=
  (∀ r, r ≠ 8 → B r = A r) ∧ (∀ i, i < 32 → ¬ A 8 i = 0 → ¬ B 8 i = 0) ∧ ¬ B 8 d = 0 ∧ mClo (A 4) lo d (fun i => ¬ B 8 i = 0) ∧
  (∀ P : Nat → Prop, (∀ i, i < 32 → ¬ A 8 i = 0 → P i) → P d → mClo (A 4) 0 d P → ∀ i, i < 32 → ¬ B 8 i = 0 → P i) ∧ (∀ i, i < 32 → B 8 i = A 8 i ∨ B 8 i = 1)
theorem mInv_set {A B : Nat → Nat → Int32} {d lo i k : Nat} (h : mInv A B d lo) (hd : d < 32) (hi : ¬ B 8 i = 0) (h1 : i < lo) (h2 : i ≤ d) (hk : k < 3) (h3 : 0 ≤ (A 4 (3 * i + k)).toInt) (h4 : (A 4 (3 * i + k)).toInt < (i : Int)) : mInv A (pmSet B 8 (A 4 (3 * i + k)).toInt.toNat 1) d lo := by
  obtain ⟨a1, a2, a3, a4, a5, a6⟩ := h
  have mono : ∀ j, ¬ B 8 j = 0 → ¬ pmSet B 8 (A 4 (3 * i + k)).toInt.toNat 1 8 j = 0 := by
    intro j hj
    simp only [pmSet, if_true]
    split
    · decide
    · exact hj
  refine ⟨fun r hr => ?_, fun j hj hm => mono j (a2 j hj hm), mono d a3, ?_, ?_, ?_⟩
  · rw [← a1 r hr]; funext j; simp [pmSet, hr]
  · intro j hj1 hj2 hm k' hk' q1 q2
    have hm' : ¬ B 8 j = 0 := by
      have : ¬ j = (A 4 (3 * i + k)).toInt.toNat := by omega
      rwa [pmSet_ne _ _ _ this] at hm
    exact mono _ (a4 j hj1 hj2 hm' k' hk' q1 q2)
  · intro P p1 p2 p3 j hj hm
    by_cases e : j = (A 4 (3 * i + k)).toInt.toNat
    · subst e
      exact p3 i (Nat.zero_le _) h2 (a5 P p1 p2 p3 i (by omega) hi) k hk h3 h4
    · exact a5 P p1 p2 p3 j hj (by rwa [pmSet_ne _ _ _ e] at hm)
  · intro j hj
    by_cases e : j = (A 4 (3 * i + k)).toInt.toNat
    · right; rw [e, pmSet_eq]
    · rw [pmSet_ne _ _ _ e]; exact a6 j hj
theorem mInv_lo {A B : Nat → Nat → Int32} {d i : Nat} (h : mInv A B d (i + 1)) (hc : ¬ B 8 i = 0 → ∀ k, k < 3 → 0 ≤ (A 4 (3 * i + k)).toInt → (A 4 (3 * i + k)).toInt < (i : Int) → ¬ B 8 (A 4 (3 * i + k)).toInt.toNat = 0) : mInv A B d i := by
  obtain ⟨a1, a2, a3, a4, a5, a6⟩ := h
  refine ⟨a1, a2, a3, fun j hj1 hj2 hm k hk q1 q2 => ?_, a5, a6⟩
  by_cases e : j = i
  · subst e; exact hc hm k hk q1 q2
  · exact a4 j (by omega) hj2 hm k hk q1 q2
theorem markReach_ok (hW : Clo W) (hF : Fgt W) {n : Nat} {I : Nat → Int32} {A : Nat → Nat → Int32} {id : Int32} {Q : Pst} (b0 : 0 ≤ id.toInt) (b1 : id.toInt < (I 3).toInt) (b2 : id.toInt < 32)
    (hq : ∀ B : Nat → Nat → Int32, mInv A B id.toInt.toNat 0 → Q none (nst n I B)) :
    W k_markReach 0 [.val (.ref 1), .val (.int id), .unset, .unset, .unset] [] (nst n I A) Q := by
  generalize hd : id.toInt.toNat = d at hq
  have hdi : id.toInt = (d : Int) := by omega
  have hd32 : d < 32 := by omega
  -- the outer loop
  have outer : ∀ (j : Nat) (x : Int32) (B : Nat → Nat → Int32), x.toInt = (j : Int) - 1 → j ≤ d + 1 → mInv A B d j → W k_markReach 18 [.val (.ref 1), .val (.int id), .val (.int x), .unset, .unset] [] (nst n I B) Q := by
    intro j
    induction j with
    | zero =>
      intro x B hx hj hB
      refine hW [] 20 _ _ _ _ _ _ ?_
      refine ⟨fun q => hq B hB, fun q => ?_⟩
      have q' : ¬ x.toInt < 0 := q
      omega
    | succ j ih =>
      intro x B hx hj hB
      have hxj : x.toInt = (j : Int) := by omega
      have xn : x.toInt.toNat = j := by omega
      -- behind the inner loop
      have back : ∀ B' : Nat → Nat → Int32, mInv A B' d j → W k_markReach 75 [.val (.ref 1), .val (.int id), .val (.int x), .unset, .unset] [] (nst n I B') Q := by
        intro B' hB'
        refine hW [18] 10 _ _ _ _ _ _ ?_
        refine ih (x + Int32.ofInt (-1)) B' ?_ (by omega) hB'
        rw [tI_add (by rw [oIm1]; omega) (by rw [oIm1]; omega), oIm1]; omega
      -- the inner loop
      have inner : ∀ (m kk : Nat) (B' : Nat → Nat → Int32), kk + m = 3 → mInv A B' d (j + 1) → ¬ B' 8 j = 0 → (∀ k, k < kk → 0 ≤ (A 4 (3 * j + k)).toInt → (A 4 (3 * j + k)).toInt < (j : Int) → ¬ B' 8 (A 4 (3 * j + k)).toInt.toNat = 0) →
          W k_markReach 33 [.val (.ref 1), .val (.int id), .val (.int x), .val (.int (i32 kk)), .unset] [] (nst n I B') Q := by
        intro m
        induction m with
        | zero =>
          intro kk B' hk hB' hm hc
          have ki : (i32 kk).toInt = (kk : Int) := i32_toInt (by omega)
          refine hW [75] 20 _ _ _ _ _ _ ?_
          refine ⟨fun q => ?_, fun q => ?_⟩
          · have q' : (i32 kk).toInt < (Int32.ofInt 3).toInt := q
            rw [ki, oI3] at q'; omega
          · refine hF _ _ _ [.val (.ref 1), .val (.int id), .val (.int x), .unset, .unset] _ _ _ ⟨Or.inr rfl, Or.inr rfl, Or.inr rfl, Or.inl rfl, Or.inl rfl, trivial⟩ ?_
            exact back B' (mInv_lo hB' fun _ k hk' => hc k (by omega))
        | succ m ihm =>
          intro kk B' hk hB' hm hc
          have ki : (i32 kk).toInt = (kk : Int) := i32_toInt (by omega)
          have idx := tI_x3k (x := x) (y := i32 kk) (by omega) (by omega) (by omega) (by omega)
          have idn : (x * Int32.ofInt 3 + i32 kk).toInt.toNat = 3 * j + kk := by omega
          have lk : B' 4 (x * Int32.ofInt 3 + i32 kk).toInt.toNat = A 4 (3 * j + kk) := by rw [idn, hB'.1 4 (by decide)]
          refine hW [33] 40 _ _ _ _ _ _ ?_
          refine ⟨fun q => ?_, fun q => ?_⟩
          · refine ⟨?_, ?_⟩
            · show 0 ≤ (x * Int32.ofInt 3 + i32 kk).toInt ∧ (x * Int32.ofInt 3 + i32 kk).toInt < 96
              omega
            · have next : ∀ (B2 : Nat → Nat → Int32) (t : Int32), mInv A B2 d (j + 1) → ¬ B2 8 j = 0 → (∀ k, k < kk + 1 → 0 ≤ (A 4 (3 * j + k)).toInt → (A 4 (3 * j + k)).toInt < (j : Int) → ¬ B2 8 (A 4 (3 * j + k)).toInt.toNat = 0) →
                  W k_markReach 33 [.val (.ref 1), .val (.int id), .val (.int x), .val (.int (i32 kk + Int32.ofInt 1)), .val (.int t)] [] (nst n I B2) Q := by
                intro B2 t g1 g2 g3
                refine hF _ _ _ [.val (.ref 1), .val (.int id), .val (.int x), .val (.int (i32 kk + Int32.ofInt 1)), .unset] _ _ _ ⟨Or.inr rfl, Or.inr rfl, Or.inr rfl, Or.inr rfl, Or.inl rfl, trivial⟩ ?_
                rw [i32_succ]
                exact ihm (kk + 1) B2 (by omega) g1 g2 g3
              refine ⟨fun q1 => ?_, fun q1 => ⟨fun q2 => ?_, fun q2 => ?_⟩⟩
              · have q1' : (B' 4 (x * Int32.ofInt 3 + i32 kk).toInt.toNat).toInt < 0 := q1
                rw [lk] at q1'
                refine next B' _ hB' hm (fun k hk' w1 w2 => ?_)
                by_cases e : k = kk
                · subst e; omega
                · exact hc k (by omega) w1 w2
              · have q1' : ¬ (B' 4 (x * Int32.ofInt 3 + i32 kk).toInt.toNat).toInt < 0 := q1
                have q2' : (B' 4 (x * Int32.ofInt 3 + i32 kk).toInt.toNat).toInt < x.toInt := q2
                rw [lk] at q1' q2'
                refine ⟨?_, ?_⟩
                · show 0 ≤ (B' 4 (x * Int32.ofInt 3 + i32 kk).toInt.toNat).toInt ∧ (B' 4 (x * Int32.ofInt 3 + i32 kk).toInt.toNat).toInt < 32
                  rw [lk]; omega
                · show W k_markReach 33 [.val (.ref 1), .val (.int id), .val (.int x), .val (.int (i32 kk + Int32.ofInt 1)), .val (.int (B' 4 (x * Int32.ofInt 3 + i32 kk).toInt.toNat))] [] (nst n I (pmSet B' 8 (B' 4 (x * Int32.ofInt 3 + i32 kk).toInt.toNat).toInt.toNat 1)) Q
                  rw [lk]
                  have sm := mInv_set hB' hd32 hm (Nat.lt_succ_self j) (by omega) (show kk < 3 by omega) (by omega) (by omega)
                  refine next _ _ sm ?_ (fun k hk' w1 w2 => ?_)
                  · simp only [pmSet, if_true]; split
                    · decide
                    · exact hm
                  · simp only [pmSet, if_true]; split
                    · decide
                    · rename_i ne
                      by_cases e : k = kk
                      · subst e; exact absurd rfl ne
                      · exact hc k (by omega) w1 w2
              · have q2' : ¬ (B' 4 (x * Int32.ofInt 3 + i32 kk).toInt.toNat).toInt < x.toInt := q2
                rw [lk] at q2'
                refine next B' _ hB' hm (fun k hk' w1 w2 => ?_)
                by_cases e : k = kk
                · subst e; omega
                · exact hc k (by omega) w1 w2
          · have q' : ¬ (i32 kk).toInt < (Int32.ofInt 3).toInt := q
            rw [ki, oI3] at q'; omega
      refine hW [33, 75] 30 _ _ _ _ _ _ ?_
      refine ⟨fun q => ?_, fun q => ⟨?_, ⟨fun z => ?_, fun z => ?_⟩⟩⟩
      · have q' : x.toInt < 0 := q
        omega
      · show 0 ≤ x.toInt ∧ x.toInt < 32
        omega
      · have z' : B 8 x.toInt.toNat = 0 := z
        rw [xn] at z'
        exact back B (mInv_lo hB fun w => absurd z' w)
      · have z' : ¬ B 8 x.toInt.toNat = 0 := z
        rw [xn] at z'
        exact inner 3 0 B rfl hB z' (fun k hk => by omega)
  refine hW [18] 40 _ _ _ _ _ _ ?_
  refine inRange_ok hW (fun _ _ _ => ?_) (fun w => absurd ⟨b0, b1, b2⟩ w)
  refine ⟨fun z => absurd z n10, fun _ => ⟨⟨b0, by show id.toInt < 32; exact b2⟩, ?_⟩⟩
  show W k_markReach 18 [.val (.ref 1), .val (.int id), .val (.int id), .unset, .unset] [] (nst n I (pmSet A 8 id.toInt.toNat 1)) Q
  rw [hd]
  refine outer (d + 1) id _ (by omega) (Nat.le_refl _) ⟨fun r hr => ?_, fun i _ hm => ?_, by simp [pmSet], fun i h1 h2 => by omega, fun P p1 p2 p3 i hi hm => ?_, fun i hi => ?_⟩
  · funext j; simp [pmSet, hr]
  · simp only [pmSet, if_true]; split
    · decide
    · exact hm
  · by_cases e : i = d
    · subst e; exact p2
    · exact p1 i hi (by simpa [pmSet, e] using hm)
  · by_cases e : i = d
    · right; simp [pmSet, e]
    · left; simp [pmSet, e]
def isR (lk : Nat → Int32) (d : Nat) (R : Nat → Prop) : Prop := R d ∧ mClo lk 0 d R ∧ ∀ P : Nat → Prop, P d → mClo lk 0 d P → ∀ i, i < 32 → R i → P i
def cntF (p : Nat → Bool) : Nat → Nat
  | 0 => 0
  | c + 1 => cntF p c + (if p c = true then 1 else 0)
theorem cntF_le (p : Nat → Bool) (c : Nat) : cntF p c ≤ c := by
  induction c with
  | zero => exact Nat.le_refl _
  | succ c ih => simp only [cntF]; split <;> omega
/-- the marks alone: cleared, then the reach of d -/
theorem reach_ok (hW : Clo W) (hF : Fgt W) {n : Nat} {I : Nat → Int32} {A : Nat → Nat → Int32} {id : Int32} {Q : Pst} (b0 : 0 ≤ id.toInt) (b1 : id.toInt < (I 3).toInt) (b2 : id.toInt < 32) (hA : ∀ i, i < 32 → A 8 i = 0)
    (hq : ∀ B : Nat → Nat → Int32, (∀ r, r ≠ 8 → B r = A r) → isR (A 4) id.toInt.toNat (fun i => ¬ B 8 i = 0) → (∀ i, i < 32 → B 8 i = 0 ∨ B 8 i = 1) → Q none (nst n I B)) :
    W k_markReach 0 [.val (.ref 1), .val (.int id), .unset, .unset, .unset] [] (nst n I A) Q := by
  refine markReach_ok hW hF b0 b1 b2 fun B hB => ?_
  obtain ⟨a1, a2, a3, a4, a5, a6⟩ := hB
  refine hq B a1 ⟨a3, a4, fun P p1 p2 i hi hm => a5 P (fun j hj w => absurd (hA j hj) w) p1 p2 i hi hm⟩ (fun i hi => ?_)
  rcases a6 i hi with w | w
  · left; rw [w, hA i hi]
  · right; exact w
theorem give_ok (hW : Clo W) (hF : Fgt W) {n : Nat} {I : Nat → Int32} {A : Nat → Nat → Int32} {s id : Int32} {Q : Pst} (c0 : 0 ≤ (I 3).toInt) (c1 : (I 3).toInt ≤ 32)
    (h0 : ¬ (I 6 = 0 ∧ (s = 0 ∨ s = 1) ∧ (0 ≤ id.toInt ∧ id.toInt < (I 3).toInt ∧ id.toInt < 32)) → Q (some (.int (-1))) (nst n I A))
    (h1 : I 6 = 0 → (s = 0 ∨ s = 1) → 0 ≤ id.toInt → id.toInt < (I 3).toInt → id.toInt < 32 → ∀ B : Nat → Nat → Int32, (∀ r, r ≠ 5 → r ≠ 8 → B r = A r) → isR (A 4) id.toInt.toNat (fun i => ¬ B 8 i = 0) →
      (∀ j, B 5 j = if (32 * s.toInt.toNat ≤ j ∧ j < 32 * s.toInt.toNat + (I 3).toInt.toNat ∧ ¬ B 8 (j - 32 * s.toInt.toNat) = 0 ∧ A 5 j = 0) then 1 else A 5 j) →
      Q (some (.int (i32 (cntF (fun i => decide (¬ B 8 i = 0) && decide (A 5 (32 * s.toInt.toNat + i) = 0)) (I 3).toInt.toNat)))) (nst n I B)) :
    W k_give 0 [.val (.ref 1), .val (.int s), .val (.int id), .unset, .unset, .unset] [] (nst n I A) Q := by
  have body : I 6 = 0 → (s = 0 ∨ s = 1) → W k_give 16 [.val (.ref 1), .val (.int s), .val (.int id), .unset, .unset, .unset] [] (nst n I A) Q := by
    intro hp hs
    have s0 : 0 ≤ s.toInt ∧ s.toInt ≤ 1 := by rcases hs with rfl | rfl <;> decide
    refine hW [46] 50 _ _ _ _ _ _ ?_
    refine inRange_ok hW (fun a b c => ?_) (fun d => ?_)
    · refine ⟨fun z => absurd z n10, fun _ => ?_⟩
      refine clearMark_ok hW fun A1 z1 z2 => ?_
      refine reach_ok hW hF a b c z1 fun B f1 f2 f3 => ?_
      have f1' : ∀ r, r ≠ 8 → B r = A r := fun r hr => (f1 r hr).trans (z2 r hr)
      have f2' : isR (A 4) id.toInt.toNat (fun i => ¬ B 8 i = 0) := by rw [← z2 4 (by decide)]; exact f2
      generalize hc : (I 3).toInt.toNat = cn at h1
      generalize hb : 32 * s.toInt.toNat = bs at h1
      have hci : (I 3).toInt = (cn : Int) := by omega
      have m32 : (s * Int32.ofInt 32).toInt = (bs : Int) := by rw [tI_mul (by rw [oI32]; omega) (by rw [oI32]; omega), oI32]; omega
      have loop : ∀ (m i : Nat) (B' : Nat → Nat → Int32), i + m = cn → (∀ r, r ≠ 5 → B' r = B r) → (∀ j, B' 5 j = if (bs ≤ j ∧ j < bs + i ∧ ¬ B 8 (j - bs) = 0 ∧ A 5 j = 0) then 1 else A 5 j) →
          W k_give 46 [.val (.ref 1), .val (.int s), .val (.int id), .val (.int (s * Int32.ofInt 32)), .val (.int (i32 (cntF (fun i => decide (¬ B 8 i = 0) && decide (A 5 (bs + i) = 0)) i))), .val (.int (i32 i))] [] (nst n I B') Q := by
        intro m
        induction m with
        | zero =>
          intro i B' hi g1 g2
          have ii : (i32 i).toInt = (i : Int) := i32_toInt (by omega)
          have fin : Q (some (.int (i32 (cntF (fun i => decide (¬ B 8 i = 0) && decide (A 5 (bs + i) = 0)) i)))) (nst n I B') := by
            have hi' : i = cn := by omega
            subst hi'
            have e8 : B' 8 = B 8 := g1 8 (by decide)
            have := h1 hp hs a b c B' (fun r r5 r8 => (g1 r r5).trans (f1' r r8)) (by rw [e8]; exact f2') (by rw [e8]; exact g2)
            rwa [e8] at this
          refine hW [] 20 _ _ _ _ _ _ ?_
          refine ⟨fun q => ?_, fun q => fin⟩
          have q' : (i32 i).toInt < (I 3).toInt := q
          omega
        | succ m ih =>
          intro i B' hi g1 g2
          have ii : (i32 i).toInt = (i : Int) := i32_toInt (by omega)
          have bi : (s * Int32.ofInt 32 + i32 i).toInt = (bs : Int) + i := by rw [tI_add (by omega) (by omega)]; omega
          have bn : (s * Int32.ofInt 32 + i32 i).toInt.toNat = bs + i := by omega
          have e8 : B' 8 = B 8 := g1 8 (by decide)
          have h5 : B' 5 (bs + i) = A 5 (bs + i) := by rw [g2, if_neg (by omega)]
          refine hW [46] 50 _ _ _ _ _ _ ?_
          refine ⟨fun q => ⟨fun q2 => ?_, fun q2 => ?_⟩, fun q => ?_⟩
          · refine ⟨?_, ⟨fun z => ?_, fun z => ⟨?_, ⟨fun z2 => ?_, fun z2 => ?_⟩⟩⟩⟩
            · show 0 ≤ (i32 i).toInt ∧ (i32 i).toInt < 32; omega
            · have z' : B' 8 (i32 i).toInt.toNat = 0 := z
              have in' : (i32 i).toInt.toNat = i := by omega
              rw [in', e8] at z'
              show W k_give 46 [.val (.ref 1), .val (.int s), .val (.int id), .val (.int (s * Int32.ofInt 32)), .val (.int (i32 (cntF (fun i => decide (¬ B 8 i = 0) && decide (A 5 (bs + i) = 0)) i))), .val (.int (i32 i + Int32.ofInt 1))] [] (nst n I B') Q
              have := ih (i + 1) B' (by omega) g1 (fun j => by
                rw [g2]
                by_cases w : bs ≤ j ∧ j < bs + i ∧ ¬ B 8 (j - bs) = 0 ∧ A 5 j = 0
                · rw [if_pos w, if_pos ⟨w.1, by omega, w.2.2⟩]
                · rw [if_neg w, if_neg]
                  rintro ⟨w1, w2, w3, w4⟩
                  have : j = bs + i := by
                    have : ¬ j < bs + i := fun w5 => w ⟨w1, w5, w3, w4⟩
                    omega
                  subst this
                  rw [Nat.add_sub_cancel_left] at w3
                  exact w3 z')
              rw [i32_succ]
              simpa [cntF, z'] using this
            · show 0 ≤ (s * Int32.ofInt 32 + i32 i).toInt ∧ (s * Int32.ofInt 32 + i32 i).toInt < 64; omega
            · have z' : ¬ B' 8 (i32 i).toInt.toNat = 0 := z
              have in' : (i32 i).toInt.toNat = i := by omega
              rw [in', e8] at z'
              have z2' : B' 5 (s * Int32.ofInt 32 + i32 i).toInt.toNat = 0 := z2
              rw [bn, h5] at z2'
              refine ⟨?_, ?_⟩
              · show 0 ≤ (s * Int32.ofInt 32 + i32 i).toInt ∧ (s * Int32.ofInt 32 + i32 i).toInt < 64; omega
              · show W k_give 46 [.val (.ref 1), .val (.int s), .val (.int id), .val (.int (s * Int32.ofInt 32)), .val (.int (i32 (cntF (fun i => decide (¬ B 8 i = 0) && decide (A 5 (bs + i) = 0)) i) + Int32.ofInt 1)), .val (.int (i32 i + Int32.ofInt 1))] [] (nst n I (pmSet B' 5 (s * Int32.ofInt 32 + i32 i).toInt.toNat 1)) Q
                rw [bn, i32_succ, i32_succ]
                have := ih (i + 1) (pmSet B' 5 (bs + i) 1) (by omega) (fun r hr => by rw [pmSet_r _ _ _ hr]; exact g1 r hr) (fun j => by
                  by_cases e : j = bs + i
                  · subst e
                    rw [pmSet_eq, if_pos ⟨by omega, by omega, by rw [Nat.add_sub_cancel_left]; exact z', z2'⟩]
                  · rw [pmSet_ne _ _ _ e, g2]
                    by_cases w : bs ≤ j ∧ j < bs + i ∧ ¬ B 8 (j - bs) = 0 ∧ A 5 j = 0
                    · rw [if_pos w, if_pos ⟨w.1, by omega, w.2.2⟩]
                    · rw [if_neg w, if_neg]
                      rintro ⟨w1, w2, w3, w4⟩
                      exact w ⟨w1, by omega, w3, w4⟩)
                simpa [cntF, z', z2'] using this
            · have z' : ¬ B' 8 (i32 i).toInt.toNat = 0 := z
              have z2' : ¬ B' 5 (s * Int32.ofInt 32 + i32 i).toInt.toNat = 0 := z2
              rw [bn, h5] at z2'
              show W k_give 46 [.val (.ref 1), .val (.int s), .val (.int id), .val (.int (s * Int32.ofInt 32)), .val (.int (i32 (cntF (fun i => decide (¬ B 8 i = 0) && decide (A 5 (bs + i) = 0)) i))), .val (.int (i32 i + Int32.ofInt 1))] [] (nst n I B') Q
              have := ih (i + 1) B' (by omega) g1 (fun j => by
                rw [g2]
                by_cases w : bs ≤ j ∧ j < bs + i ∧ ¬ B 8 (j - bs) = 0 ∧ A 5 j = 0
                · rw [if_pos w, if_pos ⟨w.1, by omega, w.2.2⟩]
                · rw [if_neg w, if_neg]
                  rintro ⟨w1, w2, w3, w4⟩
                  have : j = bs + i := by
                    have : ¬ j < bs + i := fun w5 => w ⟨w1, w5, w3, w4⟩
                    omega
                  subst this
                  exact z2' w4)
              rw [i32_succ]
              simpa [cntF, z2'] using this
          · have q' : (i32 i).toInt < (I 3).toInt := q
            have q2' : ¬ (i32 i).toInt < (Int32.ofInt 32).toInt := q2
            rw [oI32] at q2'; omega
          · have q' : ¬ (i32 i).toInt < (I 3).toInt := q
            omega
      exact loop cn 0 B (by omega) (fun _ _ => rfl) (fun j => by rw [if_neg (by omega), f1' 5 (by decide)])
    · exact ⟨fun _ => h0 fun z => d z.2.2, fun z => absurd rfl z⟩
  refine hW [16] 20 _ _ _ _ _ _ ?_
  refine ⟨fun p => ⟨fun q => ?_, fun q => ⟨fun q2 => ?_, fun q2 => ?_⟩⟩, fun p => ?_⟩
  · exact body p (Or.inl q)
  · exact body p (Or.inr q2)
  · exact h0 fun z => z.2.1.elim q q2
  · exact h0 fun z => p z.1
/-! ## flags, the choice of the next have, the batch -/
theorem hasFlag_ok (hW : Clo W) {n : Nat} {I : Nat → Int32} {A : Nat → Nat → Int32} {id f : Int32} {Q : Pst} (b0 : 0 ≤ id.toInt) (b1 : id.toInt < 32)
    (h1 : ¬ (A 6 id.toInt.toNat &&& f) = 0 → Q (some (.int 1)) (nst n I A)) (h0 : (A 6 id.toInt.toNat &&& f) = 0 → Q (some (.int 0)) (nst n I A)) :
    W k_hasFlag 0 [.val (.ref 1), .val (.int id), .val (.int f)] [] (nst n I A) Q := by
  refine hW [] 20 _ _ _ _ _ _ ?_
  exact ⟨⟨b0, b1⟩, ⟨fun q => h0 q, fun q => h1 q⟩⟩
theorem setFlag_ok (hW : Clo W) {n : Nat} {I : Nat → Int32} {A : Nat → Nat → Int32} {id f : Int32} {Q : Pst} (b0 : 0 ≤ id.toInt) (b1 : id.toInt < 32)
    (hq : Q none (nst n I (pmSet A 6 id.toInt.toNat (fb (A 6 id.toInt.toNat ||| f))))) :
    W k_setFlag 0 [.val (.ref 1), .val (.int id), .val (.int f)] [] (nst n I A) Q := by
  refine hW [] 20 _ _ _ _ _ _ ?_
  exact ⟨⟨b0, b1⟩, ⟨⟨b0, b1⟩, hq⟩⟩
theorem clearFlag_ok (hW : Clo W) {n : Nat} {I : Nat → Int32} {A : Nat → Nat → Int32} {id f : Int32} {Q : Pst} (b0 : 0 ≤ id.toInt) (b1 : id.toInt < 32)
    (hq : Q none (nst n I (pmSet A 6 id.toInt.toNat (fb (A 6 id.toInt.toNat &&& (f ^^^ Int32.ofInt (-1))))))) :
    W k_clearFlag 0 [.val (.ref 1), .val (.int id), .val (.int f)] [] (nst n I A) Q := by
  refine hW [] 20 _ _ _ _ _ _ ?_
  exact ⟨⟨b0, b1⟩, ⟨⟨b0, b1⟩, hq⟩⟩
theorem anyWanted_ok (hW : Clo W) {n cn : Nat} {I : Nat → Int32} {A : Nat → Nat → Int32} {Q : Pst} (hc : (I 3).toInt = (cn : Int)) (h32 : cn ≤ 32)
    (h1 : ∀ i, i < cn → ¬ (A 6 i &&& Int32.ofInt 1) = 0 → Q (some (.int 1)) (nst n I A)) (h0 : (∀ i, i < cn → (A 6 i &&& Int32.ofInt 1) = 0) → Q (some (.int 0)) (nst n I A)) :
    W k_anyWanted 0 [.val (.ref 1), .unset] [] (nst n I A) Q := by
  have loop : ∀ (m i : Nat), i + m = cn → (∀ j, j < i → (A 6 j &&& Int32.ofInt 1) = 0) → W k_anyWanted 2 [.val (.ref 1), .val (.int (i32 i))] [] (nst n I A) Q := by
    intro m
    induction m with
    | zero =>
      intro i hi hl
      have ii : (i32 i).toInt = (i : Int) := i32_toInt (by omega)
      refine hW [] 20 _ _ _ _ _ _ ?_
      refine ⟨fun q => ?_, fun q => h0 (fun j hj => hl j (by omega))⟩
      have q' : (i32 i).toInt < (I 3).toInt := q
      omega
    | succ m ih =>
      intro i hi hl
      have ii : (i32 i).toInt = (i : Int) := i32_toInt (by omega)
      have it : (i32 i).toInt.toNat = i := by omega
      refine hW [2] 30 _ _ _ _ _ _ ?_
      refine ⟨fun q => ⟨fun q2 => ?_, fun q2 => ?_⟩, fun q => ?_⟩
      · refine hasFlag_ok hW (by omega) (by omega) (fun w => ?_) (fun w => ?_)
        · rw [it] at w
          exact ⟨fun z => absurd z n10, fun _ => h1 i (by omega) w⟩
        · rw [it] at w
          refine ⟨fun _ => ?_, fun z => absurd rfl z⟩
          show W k_anyWanted 2 [.val (.ref 1), .val (.int (i32 i + Int32.ofInt 1))] [] (nst n I A) Q
          rw [i32_succ]
          refine ih (i + 1) (by omega) (fun j hj => ?_)
          by_cases e : j = i
          · rw [e]; exact w
          · exact hl j (by omega)
      · have q2' : ¬ (i32 i).toInt < (Int32.ofInt 32).toInt := q2
        rw [oI32] at q2'; omega
      · have q' : ¬ (i32 i).toInt < (I 3).toInt := q
        omega
  refine hW [2] 20 _ _ _ _ _ _ ?_
  exact loop cn 0 (by omega) (fun j hj => absurd hj (Nat.not_lt_zero _))
def el (A : Nat → Nat → Int32) (i : Nat) : Prop := A 2 i = Int32.ofInt 3 ∧ ¬ A 5 i = 0 ∧ (A 6 i &&& Int32.ofInt 2) = 0 ∧ (A 6 i &&& Int32.ofInt 8) = 0
theorem isEligible_ok (hW : Clo W) {n : Nat} {I : Nat → Int32} {A : Nat → Nat → Int32} {id : Int32} {Q : Pst} (b0 : 0 ≤ id.toInt) (b1 : id.toInt < 32)
    (h1 : el A id.toInt.toNat → Q (some (.int 1)) (nst n I A)) (h0 : ¬ el A id.toInt.toNat → Q (some (.int 0)) (nst n I A)) :
    W k_isEligible 0 [.val (.ref 1), .val (.int id)] [] (nst n I A) Q := by
  refine hW [] 40 _ _ _ _ _ _ ?_
  refine ⟨⟨b0, b1⟩, ⟨fun q1 => ⟨?_, ⟨fun q2 => ?_, fun q2 => ?_⟩⟩, fun q1 => ?_⟩⟩
  · show 0 ≤ id.toInt ∧ id.toInt < 64; omega
  · exact h0 fun w => w.2.1 q2
  · refine hasFlag_ok hW b0 b1 (fun w => ?_) (fun w => ?_)
    · exact ⟨fun z => absurd z n10, fun _ => h0 fun z => w z.2.2.1⟩
    · refine ⟨fun _ => ?_, fun z => absurd rfl z⟩
      refine hasFlag_ok hW b0 b1 (fun w2 => ?_) (fun w2 => ?_)
      · exact ⟨fun z => absurd z n10, fun _ => h0 fun z => w2 z.2.2.2⟩
      · exact ⟨fun _ => h1 ⟨q1, q2, w, w2⟩, fun z => absurd rfl z⟩
  · exact h0 fun w => q1 w.1
/-- b is the first one in have order -/
def isBest (A : Nat → Nat → Int32) (cn b : Nat) : Prop := b < cn ∧ el A b ∧ ∀ i, i < cn → el A i → (A 3 i).toInt ≤ (A 3 b).toInt ∧ (b < i → (A 3 i).toInt < (A 3 b).toInt)
theorem pickNext_ok (hW : Clo W) {n cn : Nat} {I : Nat → Int32} {A : Nat → Nat → Int32} {Q : Pst} (hc : (I 3).toInt = (cn : Int)) (h32 : cn ≤ 32)
    (h1 : ∀ b, isBest A cn b → Q (some (.int (i32 b))) (nst n I A)) (h0 : (∀ i, i < cn → ¬ el A i) → Q (some (.int (Int32.ofInt (-1)))) (nst n I A)) :
    W k_pickNext 0 [.val (.ref 1), .unset, .unset] [] (nst n I A) Q := by
  have loop : ∀ (m i : Nat) (x : Int32), i + m = cn → ((x = Int32.ofInt (-1) ∧ ∀ j, j < i → ¬ el A j) ∨ ∃ b, x = i32 b ∧ isBest A i b) → W k_pickNext 4 [.val (.ref 1), .val (.int x), .val (.int (i32 i))] [] (nst n I A) Q := by
    intro m
    induction m with
    | zero =>
      intro i x hi hx
      have ii : (i32 i).toInt = (i : Int) := i32_toInt (by omega)
      have hic : i = cn := by omega
      subst hic
      have fin : Q (some (.int x)) (nst n I A) := by
        rcases hx with ⟨e, w⟩ | ⟨b, e, w⟩
        · rw [e]; exact h0 w
        · rw [e]; exact h1 b w
      refine hW [] 20 _ _ _ _ _ _ ?_
      refine ⟨fun q => ?_, fun q => fin⟩
      have q' : (i32 i).toInt < (I 3).toInt := q
      omega
    | succ m ih =>
      intro i x hi hx
      have ii : (i32 i).toInt = (i : Int) := i32_toInt (by omega)
      have it : (i32 i).toInt.toNat = i := by omega
      refine hW [4] 30 _ _ _ _ _ _ ?_
      refine ⟨fun q => ⟨fun q2 => ?_, fun q2 => ?_⟩, fun q => ?_⟩
      · refine isEligible_ok hW (by omega) (by omega) (fun w => ?_) (fun w => ?_)
        · rw [it] at w
          refine ⟨fun z => absurd z n10, fun _ => ?_⟩
          have take : (∀ j, j < i → el A j → (A 3 j).toInt ≤ (A 3 i).toInt) → W k_pickNext 4 [.val (.ref 1), .val (.int (i32 i)), .val (.int (i32 i + Int32.ofInt 1))] [] (nst n I A) Q := by
            intro hj
            rw [i32_succ]
            refine ih (i + 1) _ (by omega) (Or.inr ⟨i, rfl, by omega, w, fun j h1 h2 => ?_⟩)
            by_cases e : j = i
            · subst e; exact ⟨Int.le_refl _, fun z => absurd z (Nat.lt_irrefl _)⟩
            · exact ⟨hj j (by omega) h2, fun z => by omega⟩
          refine ⟨fun q3 => take ?_, fun q3 => ?_⟩
          · rcases hx with ⟨e, w2⟩ | ⟨b, e, w2⟩
            · exact fun j h1 h2 => absurd h2 (w2 j h1)
            · have q3' : x.toInt < 0 := q3
              have := w2.1
              rw [e, i32_toInt (by omega)] at q3'; omega
          · rcases hx with ⟨e, w2⟩ | ⟨b, e, w2⟩
            · have q3' : ¬ x.toInt < 0 := q3
              rw [e, oIm1] at q3'; omega
            · have hb := w2.1
              have xi : x.toInt = (b : Int) := by rw [e, i32_toInt (by omega)]
              have xt : x.toInt.toNat = b := by omega
              refine ⟨?_, ⟨?_, ⟨fun q4 => ?_, fun q4 => take ?_⟩⟩⟩
              · show 0 ≤ (i32 i).toInt ∧ (i32 i).toInt < 32; omega
              · show 0 ≤ x.toInt ∧ x.toInt < 32; omega
              · have q4' : (A 3 (i32 i).toInt.toNat).toInt < (A 3 x.toInt.toNat).toInt := q4
                rw [it, xt] at q4'
                show W k_pickNext 4 [.val (.ref 1), .val (.int x), .val (.int (i32 i + Int32.ofInt 1))] [] (nst n I A) Q
                rw [i32_succ]
                refine ih (i + 1) _ (by omega) (Or.inr ⟨b, e, by omega, w2.2.1, fun j h1 h2 => ?_⟩)
                by_cases e : j = i
                · subst e; exact ⟨by omega, fun _ => q4'⟩
                · exact w2.2.2 j (by omega) h2
              · have q4' : ¬ (A 3 (i32 i).toInt.toNat).toInt < (A 3 x.toInt.toNat).toInt := q4
                rw [it, xt] at q4'
                intro j h1 h2
                have := (w2.2.2 j h1 h2).1
                omega
        · rw [it] at w
          refine ⟨fun _ => ?_, fun z => absurd rfl z⟩
          show W k_pickNext 4 [.val (.ref 1), .val (.int x), .val (.int (i32 i + Int32.ofInt 1))] [] (nst n I A) Q
          rw [i32_succ]
          refine ih (i + 1) _ (by omega) ?_
          rcases hx with ⟨e, w2⟩ | ⟨b, e, w2⟩
          · refine Or.inl ⟨e, fun j hj => ?_⟩
            by_cases e : j = i
            · rw [e]; exact w
            · exact w2 j (by omega)
          · refine Or.inr ⟨b, e, by have := w2.1; omega, w2.2.1, fun j h1 h2 => ?_⟩
            by_cases e : j = i
            · subst e; exact absurd h2 w
            · exact w2.2.2 j (by omega) h2
      · have q2' : ¬ (i32 i).toInt < (Int32.ofInt 32).toInt := q2
        rw [oI32] at q2'; omega
      · have q' : ¬ (i32 i).toInt < (I 3).toInt := q
        omega
  refine hW [4] 20 _ _ _ _ _ _ ?_
  exact loop cn 0 _ (by omega) (Or.inl ⟨rfl, fun j hj => absurd hj (Nat.not_lt_zero _)⟩)
/-- one have goes out -/
def fSend (B : Nat → Nat → Int32) (s b : Nat) : Nat → Nat → Int32 := pmSet (pmSet B 6 b (fb (B 6 b ||| Int32.ofInt 2))) 7 s (i32 b)
theorem pickBatch_ok (hW : Clo W) (hF : Fgt W) {n cn bc s0 : Nat} {I : Nat → Int32} {A : Nat → Nat → Int32} {Q : Pst} (hc : (I 3).toInt = (cn : Int)) (h32 : cn ≤ 32) (hb : (I 1).toInt = (bc : Int)) (hs : I 4 = i32 s0) (hs32 : s0 ≤ 32)
    (J : Nat → Nat → (Nat → Nat → Int32) → Prop) (j0 : J 0 s0 A)
    (step : ∀ t s B b, t < bc → s < 32 → J t s B → isBest B cn b → J (t + 1) (s + 1) (fSend B s b))
    (fin : ∀ t s B, s ≤ 32 → t ≤ bc → J t s B → (t = bc ∨ (∀ i, i < cn → ¬ el B i) ∨ s = 32) → Q none (nst n (fSt I 4 (i32 s)) B)) :
    W k_pickBatch 0 [.val (.ref 1), .unset, .unset] [] (nst n I A) Q := by
  have bc31 : bc < 2147483648 := by have := Int32.toInt_lt (I 1); omega
  have loop : ∀ (m t s : Nat) (B : Nat → Nat → Int32), t + m = bc → s ≤ 32 → J t s B → W k_pickBatch 2 [.val (.ref 1), .val (.int (i32 t)), .unset] [] (nst n (fSt I 4 (i32 s)) B) Q := by
    intro m
    induction m with
    | zero =>
      intro t s B ht hs' hJ
      have ti : (i32 t).toInt = (t : Int) := i32_toInt (by omega)
      refine hW [] 20 _ _ _ _ _ _ ?_
      refine ⟨fun q => ?_, fun q => fin t s B hs' (by omega) hJ (Or.inl (by omega))⟩
      have q' : (i32 t).toInt < (I 1).toInt := q
      omega
    | succ m ih =>
      intro t s B ht hs' hJ
      have ti : (i32 t).toInt = (t : Int) := i32_toInt (by omega)
      have si : (i32 s).toInt = (s : Int) := i32_toInt (by omega)
      have st : (i32 s).toInt.toNat = s := by omega
      refine hW [2] 40 _ _ _ _ _ _ ?_
      refine ⟨fun q => ?_, fun q => ?_⟩
      · refine pickNext_ok hW (cn := cn) hc h32 (fun b hbb => ?_) (fun w => ?_)
        · have b32 := hbb.1
          have bi : (i32 b).toInt = (b : Int) := i32_toInt (by omega)
          have bn : (i32 b).toInt.toNat = b := by omega
          refine ⟨fun z => ?_, fun _ => ⟨fun q2 => ?_, fun q2 => ?_⟩⟩
          · have z' : (i32 b).toInt < 0 := z
            omega
          · have q2' : (i32 s).toInt < (Int32.ofInt 32).toInt := q2
            rw [oI32] at q2'
            refine setFlag_ok hW (by omega) (by omega) ?_
            refine ⟨?_, ?_⟩
            · show 0 ≤ (i32 s).toInt ∧ (i32 s).toInt < 32; omega
            · show W k_pickBatch 2 [.val (.ref 1), .val (.int (i32 t + Int32.ofInt 1)), .val (.int (i32 b))] [] (nst n (fSt I 4 (i32 s + Int32.ofInt 1)) (pmSet (pmSet B 6 (i32 b).toInt.toNat (fb (B 6 (i32 b).toInt.toNat ||| Int32.ofInt 2))) 7 (i32 s).toInt.toNat (i32 b))) Q
              refine hF _ _ _ [.val (.ref 1), .val (.int (i32 t + Int32.ofInt 1)), .unset] _ _ _ ⟨Or.inr rfl, Or.inr rfl, Or.inl rfl, trivial⟩ ?_
              rw [i32_succ, i32_succ, bn, st]
              exact ih (t + 1) (s + 1) _ (by omega) (by omega) (step t s B b (by omega) (by omega) hJ hbb)
          · have q2' : ¬ (i32 s).toInt < (Int32.ofInt 32).toInt := q2
            rw [oI32] at q2'
            exact fin t s B hs' (by omega) hJ (Or.inr (Or.inr (by omega)))
        · refine ⟨fun _ => fin t s B hs' (by omega) hJ (Or.inr (Or.inl w)), fun z => ?_⟩
          have z' : ¬ (Int32.ofInt (-1)).toInt < 0 := z
          rw [oIm1] at z'; omega
      · have q' : ¬ (i32 t).toInt < (I 1).toInt := q
        omega
  refine hW [2] 20 _ _ _ _ _ _ ?_
  have := loop bc 0 s0 A (by omega) hs32 j0
  rw [← hs] at this
  exact this
/-! ## common commits, the server's answers, marks of flags, the pack -/
theorem markCommon_ok (hW : Clo W) (hF : Fgt W) {n cn : Nat} {I : Nat → Int32} {A : Nat → Nat → Int32} {id : Int32} {Q : Pst} (hc : (I 3).toInt = (cn : Int)) (h32 : cn ≤ 32) (b0 : 0 ≤ id.toInt) (b1 : id.toInt < (I 3).toInt)
    (hq : ∀ B : Nat → Nat → Int32, (∀ r, r ≠ 6 → r ≠ 8 → B r = A r) → isR (A 4) id.toInt.toNat (fun i => ¬ B 8 i = 0) → (∀ i, B 6 i = if (i < cn ∧ ¬ B 8 i = 0 ∧ A 2 i = Int32.ofInt 3) then fb (A 6 i ||| Int32.ofInt 8) else A 6 i) → Q none (nst n I B)) :
    W k_markCommon 0 [.val (.ref 1), .val (.int id), .unset] [] (nst n I A) Q := by
  refine hW [11] 30 _ _ _ _ _ _ ?_
  refine clearMark_ok hW fun A1 z1 z2 => ?_
  refine reach_ok hW hF b0 b1 (by omega) z1 fun B f1 f2 f3 => ?_
  have f1' : ∀ r, r ≠ 8 → B r = A r := fun r hr => (f1 r hr).trans (z2 r hr)
  have f2' : isR (A 4) id.toInt.toNat (fun i => ¬ B 8 i = 0) := by rw [← z2 4 (by decide)]; exact f2
  have loop : ∀ (m i : Nat) (B' : Nat → Nat → Int32), i + m = cn → (∀ r, r ≠ 6 → B' r = B r) → (∀ j, B' 6 j = if (j < i ∧ ¬ B 8 j = 0 ∧ A 2 j = Int32.ofInt 3) then fb (A 6 j ||| Int32.ofInt 8) else A 6 j) →
      W k_markCommon 11 [.val (.ref 1), .val (.int id), .val (.int (i32 i))] [] (nst n I B') Q := by
    intro m
    induction m with
    | zero =>
      intro i B' hi g1 g2
      have ii : (i32 i).toInt = (i : Int) := i32_toInt (by omega)
      have hic : i = cn := by omega
      subst hic
      have e8 : B' 8 = B 8 := g1 8 (by decide)
      refine hW [] 20 _ _ _ _ _ _ ?_
      refine ⟨fun q => ?_, fun q => hq B' (fun r r6 r8 => (g1 r r6).trans (f1' r r8)) (by rw [e8]; exact f2') (by rw [e8]; exact g2)⟩
      have q' : (i32 i).toInt < (I 3).toInt := q
      omega
    | succ m ih =>
      intro i B' hi g1 g2
      have ii : (i32 i).toInt = (i : Int) := i32_toInt (by omega)
      have it : (i32 i).toInt.toNat = i := by omega
      have e8 : B' 8 = B 8 := g1 8 (by decide)
      have e2 : B' 2 = A 2 := (g1 2 (by decide)).trans (f1' 2 (by decide))
      have h6 : B' 6 i = A 6 i := by rw [g2, if_neg (by omega)]
      have skip : ¬ (¬ B 8 i = 0 ∧ A 2 i = Int32.ofInt 3) → W k_markCommon 11 [.val (.ref 1), .val (.int id), .val (.int (i32 i + Int32.ofInt 1))] [] (nst n I B') Q := by
        intro hn
        rw [i32_succ]
        refine ih (i + 1) B' (by omega) g1 (fun j => ?_)
        rw [g2]
        by_cases w : j < i ∧ ¬ B 8 j = 0 ∧ A 2 j = Int32.ofInt 3
        · rw [if_pos w, if_pos ⟨by omega, w.2⟩]
        · rw [if_neg w, if_neg]
          rintro ⟨w1, w2⟩
          by_cases e : j = i
          · subst e; exact hn w2
          · exact w ⟨by omega, w2⟩
      refine hW [11] 40 _ _ _ _ _ _ ?_
      refine ⟨fun q => ⟨fun q2 => ⟨?_, ⟨fun z => skip ?_, fun z => ⟨?_, ⟨fun z2 => ?_, fun z2 => skip ?_⟩⟩⟩⟩, fun q2 => ?_⟩, fun q => ?_⟩
      · show 0 ≤ (i32 i).toInt ∧ (i32 i).toInt < 32; omega
      · have z' : B' 8 (i32 i).toInt.toNat = 0 := z
        rw [it, e8] at z'
        exact fun w => w.1 z'
      · show 0 ≤ (i32 i).toInt ∧ (i32 i).toInt < 32; omega
      · have z' : ¬ B' 8 (i32 i).toInt.toNat = 0 := z
        have z2' : B' 2 (i32 i).toInt.toNat = Int32.ofInt 3 := z2
        rw [it, e8] at z'
        rw [it, e2] at z2'
        refine setFlag_ok hW (by omega) (by omega) ?_
        show W k_markCommon 11 [.val (.ref 1), .val (.int id), .val (.int (i32 i + Int32.ofInt 1))] [] (nst n I (pmSet B' 6 (i32 i).toInt.toNat (fb (B' 6 (i32 i).toInt.toNat ||| Int32.ofInt 8)))) Q
        rw [it, i32_succ, h6]
        refine ih (i + 1) _ (by omega) (fun r hr => by rw [pmSet_r _ _ _ hr]; exact g1 r hr) (fun j => ?_)
        by_cases e : j = i
        · subst e
          rw [pmSet_eq, if_pos ⟨by omega, z', z2'⟩]
        · rw [pmSet_ne _ _ _ e, g2]
          by_cases w : j < i ∧ ¬ B 8 j = 0 ∧ A 2 j = Int32.ofInt 3
          · rw [if_pos w, if_pos ⟨by omega, w.2⟩]
          · rw [if_neg w, if_neg]
            rintro ⟨w1, w2⟩
            exact w ⟨by omega, w2⟩
      · have z2' : ¬ B' 2 (i32 i).toInt.toNat = Int32.ofInt 3 := z2
        rw [it, e2] at z2'
        exact fun w => z2' w.2
      · have q2' : ¬ (i32 i).toInt < (Int32.ofInt 32).toInt := q2
        rw [oI32] at q2'; omega
      · have q' : ¬ (i32 i).toInt < (I 3).toInt := q
        omega
  exact loop cn 0 B (by omega) (fun _ _ => rfl) (fun j => by rw [if_neg (by omega), f1' 6 (by decide)])
/-- from B the have c is acked: B' -/
def isAck (B B' : Nat → Nat → Int32) (cn c : Nat) : Prop :=
  (∀ r, r ≠ 6 → r ≠ 8 → B' r = B r) ∧ isR (B 4) c (fun i => ¬ B' 8 i = 0) ∧
  ∀ i, B' 6 i = if (i < cn ∧ ¬ B' 8 i = 0 ∧ B 2 i = Int32.ofInt 3) then fb (pmSet B 6 c (fb (B 6 c ||| Int32.ofInt 4)) 6 i ||| Int32.ofInt 8) else pmSet B 6 c (fb (B 6 c ||| Int32.ofInt 4)) 6 i
theorem answerBatch_ok (hW : Clo W) (hF : Fgt W) {n cn s0 s : Nat} {I : Nat → Int32} {A : Nat → Nat → Int32} {Q : Pst} (hc : (I 3).toInt = (cn : Int)) (h32 : cn ≤ 32) (hs : I 4 = i32 s) (hs0 : s0 ≤ s) (hs32 : s ≤ 32)
    (J : Nat → Nat → (Nat → Nat → Int32) → Prop) (j0 : J s0 0 A)
    (step : ∀ k a B, s0 ≤ k → k < s → J k a B →
      (∀ c, B 7 k = i32 c → c < cn → ¬ B 5 (32 + c) = 0 → ∀ B', isAck B B' cn c → J (k + 1) (a + 1) B') ∧ (¬ (0 ≤ (B 7 k).toInt ∧ (B 7 k).toInt < (cn : Int) ∧ ¬ B 5 (32 + (B 7 k).toInt.toNat) = 0) → J (k + 1) a B))
    (fin : ∀ a B, J s a B → Q (some (.int (i32 a))) (nst n I B)) :
    W k_answerBatch 0 [.val (.ref 1), .val (.int (i32 s0)), .unset, .unset, .unset] [] (nst n I A) Q := by
  have loop : ∀ (m k a : Nat) (B : Nat → Nat → Int32), k + m = s → s0 ≤ k → J k a B → W k_answerBatch 4 [.val (.ref 1), .val (.int (i32 s0)), .val (.int (i32 a)), .val (.int (i32 k)), .unset] [] (nst n I B) Q := by
    intro m
    have si : (i32 s).toInt = (s : Int) := i32_toInt (by omega)
    induction m with
    | zero =>
      intro k a B hk hk0 hJ
      have ki : (i32 k).toInt = (k : Int) := i32_toInt (by omega)
      have hks : k = s := by omega
      subst hks
      refine hW [] 20 _ _ _ _ _ _ ?_
      refine ⟨fun q => ?_, fun q => fin a B hJ⟩
      have q' : (i32 k).toInt < (I 4).toInt := q
      rw [hs] at q'; omega
    | succ m ih =>
      intro k a B hk hk0 hJ
      have ki : (i32 k).toInt = (k : Int) := i32_toInt (by omega)
      have kt : (i32 k).toInt.toNat = k := by omega
      obtain ⟨st1, st2⟩ := step k a B hk0 (by omega) hJ
      have skip : ∀ x : Int32, J (k + 1) a B → W k_answerBatch 4 [.val (.ref 1), .val (.int (i32 s0)), .val (.int (i32 a)), .val (.int (i32 k + Int32.ofInt 1)), .val (.int x)] [] (nst n I B) Q := by
        intro x h
        refine hF _ _ _ [.val (.ref 1), .val (.int (i32 s0)), .val (.int (i32 a)), .val (.int (i32 k + Int32.ofInt 1)), .unset] _ _ _ ⟨Or.inr rfl, Or.inr rfl, Or.inr rfl, Or.inr rfl, Or.inl rfl, trivial⟩ ?_
        rw [i32_succ]
        exact ih (k + 1) a B (by omega) (by omega) h
      refine hW [4] 60 _ _ _ _ _ _ ?_
      refine ⟨fun q => ⟨fun q2 => ⟨?_, ?_⟩, fun q2 => ?_⟩, fun q => ?_⟩
      · show 0 ≤ (i32 k).toInt ∧ (i32 k).toInt < 32; omega
      · rw [show (nst n I B).2.2.2 7 (i32 k).toInt.toNat = B 7 k from congrArg (B 7) kt]
        refine inRange_ok hW (fun u v w => ?_) (fun w => ?_)
        · refine ⟨fun z => absurd z n10, fun _ => ⟨?_, ⟨fun z => skip _ (st2 ?_), fun z => ?_⟩⟩⟩
          · show 0 ≤ (Int32.ofInt 32 + B 7 k).toInt ∧ (Int32.ofInt 32 + B 7 k).toInt < 64
            rw [tI_add (by rw [oI32]; omega) (by rw [oI32]; omega), oI32]; omega
          · have z' : B 5 (Int32.ofInt 32 + B 7 k).toInt.toNat = 0 := z
            rw [tI_add (by rw [oI32]; omega) (by rw [oI32]; omega), oI32] at z'
            have e : (32 + (B 7 k).toInt).toNat = 32 + (B 7 k).toInt.toNat := by omega
            rw [e] at z'
            exact fun y => y.2.2 z'
          · have z' : ¬ B 5 (Int32.ofInt 32 + B 7 k).toInt.toNat = 0 := z
            rw [tI_add (by rw [oI32]; omega) (by rw [oI32]; omega), oI32] at z'
            have e : (32 + (B 7 k).toInt).toNat = 32 + (B 7 k).toInt.toNat := by omega
            rw [e] at z'
            refine setFlag_ok hW u w ?_
            refine markCommon_ok hW hF (cn := cn) hc h32 u v fun B' g1 g2 g3 => ?_
            show W k_answerBatch 4 [.val (.ref 1), .val (.int (i32 s0)), .val (.int (i32 a + Int32.ofInt 1)), .val (.int (i32 k + Int32.ofInt 1)), .val (.int (B 7 k))] [] (nst n I B') Q
            refine hF _ _ _ [.val (.ref 1), .val (.int (i32 s0)), .val (.int (i32 a + Int32.ofInt 1)), .val (.int (i32 k + Int32.ofInt 1)), .unset] _ _ _ ⟨Or.inr rfl, Or.inr rfl, Or.inr rfl, Or.inr rfl, Or.inl rfl, trivial⟩ ?_
            rw [i32_succ, i32_succ]
            refine ih (k + 1) (a + 1) B' (by omega) (by omega) (st1 (B 7 k).toInt.toNat (i32_of u) (by omega) z' B' ⟨fun r r6 r8 => ?_, g2, g3⟩)
            rw [g1 r r6 r8, pmSet_r _ _ _ r6]
        · refine ⟨fun _ => skip _ (st2 fun y => w ⟨y.1, by omega, by omega⟩), fun z => absurd rfl z⟩
      · have q2' : ¬ (i32 k).toInt < (Int32.ofInt 32).toInt := q2
        rw [oI32] at q2'; omega
      · have q' : ¬ (i32 k).toInt < (I 4).toInt := q
        rw [hs] at q'; omega
  refine hW [4] 20 _ _ _ _ _ _ ?_
  exact loop (s - s0) s0 0 A (by omega) (by omega) j0
/-- R is what the ids of S reach -/
def isM (lk : Nat → Int32) (cn : Nat) (S R : Nat → Prop) : Prop :=
  (∀ i, i < cn → S i → R i) ∧ mClo lk 0 31 R ∧ ∀ P : Nat → Prop, (∀ i, i < cn → S i → P i) → mClo lk 0 31 P → ∀ i, i < 32 → R i → P i
theorem markFlagged_ok (hW : Clo W) (hF : Fgt W) {n cn : Nat} {I : Nat → Int32} {A : Nat → Nat → Int32} {f : Int32} {Q : Pst} (hc : (I 3).toInt = (cn : Int)) (h32 : cn ≤ 32)
    (hq : ∀ B : Nat → Nat → Int32, (∀ r, r ≠ 8 → B r = A r) → isM (A 4) cn (fun i => ¬ (A 6 i &&& f) = 0) (fun i => ¬ B 8 i = 0) → (∀ i, i < 32 → B 8 i = 0 ∨ B 8 i = 1) → Q none (nst n I B)) :
    W k_markFlagged 0 [.val (.ref 1), .val (.int f), .unset] [] (nst n I A) Q := by
  have loop : ∀ (m i : Nat) (B : Nat → Nat → Int32), i + m = cn → (∀ r, r ≠ 8 → B r = A r) → isM (A 4) i (fun i => ¬ (A 6 i &&& f) = 0) (fun i => ¬ B 8 i = 0) → (∀ i, i < 32 → B 8 i = 0 ∨ B 8 i = 1) →
      W k_markFlagged 6 [.val (.ref 1), .val (.int f), .val (.int (i32 i))] [] (nst n I B) Q := by
    intro m
    induction m with
    | zero =>
      intro i B hi g1 g2 g3
      have ii : (i32 i).toInt = (i : Int) := i32_toInt (by omega)
      have hic : i = cn := by omega
      subst hic
      refine hW [] 20 _ _ _ _ _ _ ?_
      refine ⟨fun q => ?_, fun q => hq B g1 g2 g3⟩
      have q' : (i32 i).toInt < (I 3).toInt := q
      omega
    | succ m ih =>
      intro i B hi g1 g2 g3
      have ii : (i32 i).toInt = (i : Int) := i32_toInt (by omega)
      have it : (i32 i).toInt.toNat = i := by omega
      have e6 : B 6 = A 6 := g1 6 (by decide)
      have e4 : B 4 = A 4 := g1 4 (by decide)
      refine hW [6] 40 _ _ _ _ _ _ ?_
      refine ⟨fun q => ⟨fun q2 => ?_, fun q2 => ?_⟩, fun q => ?_⟩
      · refine hasFlag_ok hW (by omega) (by omega) (fun w => ?_) (fun w => ?_)
        · rw [it, e6] at w
          refine ⟨fun z => absurd z n10, fun _ => ?_⟩
          refine markReach_ok hW hF (by omega) (by omega) (by omega) fun B' hB' => ?_
          rw [it] at hB'
          obtain ⟨a1, a2, a3, a4, a5, a6⟩ := hB'
          rw [e4] at a4 a5
          show W k_markFlagged 6 [.val (.ref 1), .val (.int f), .val (.int (i32 i + Int32.ofInt 1))] [] (nst n I B') Q
          rw [i32_succ]
          have up : ∀ j, j < 32 → i < j → ¬ B' 8 j = 0 → ¬ B 8 j = 0 := by
            intro j hj hij hm
            have := a5 (fun j => ¬ B 8 j = 0 ∨ j ≤ i) (fun j _ h => Or.inl h) (Or.inr (Nat.le_refl _)) (fun j' _ h1 _ k hk q1 q2 => Or.inr (by omega)) j hj hm
            exact this.resolve_right (by omega)
          refine ih (i + 1) B' (by omega) (fun r hr => (a1 r hr).trans (g1 r hr)) ⟨fun j hj hs => ?_, fun j h1 h2 hm k hk q1 q2 => ?_, fun P p1 p2 j hj hm => ?_⟩ (fun j hj => ?_)
          · by_cases e : j = i
            · rw [e]; exact a3
            · exact a2 j (by omega) (g2.1 j (by omega) hs)
          · by_cases e : j ≤ i
            · exact a4 j h1 e hm k hk q1 q2
            · exact a2 _ (by omega) (g2.2.1 j h1 h2 (up j (by omega) (by omega) hm) k hk q1 q2)
          · refine a5 P (fun j hj hb => g2.2.2 P (fun j hj hs => p1 j (by omega) hs) p2 j hj hb) (p1 i (by omega) w) (fun j h1 h2 => p2 j h1 (by omega)) j hj hm
          · rcases a6 j hj with e | e
            · rw [e]; exact g3 j hj
            · exact Or.inr e
        · rw [it, e6] at w
          refine ⟨fun _ => ?_, fun z => absurd rfl z⟩
          show W k_markFlagged 6 [.val (.ref 1), .val (.int f), .val (.int (i32 i + Int32.ofInt 1))] [] (nst n I B) Q
          rw [i32_succ]
          refine ih (i + 1) B (by omega) g1 ⟨fun j hj hs => ?_, g2.2.1, fun P p1 p2 => g2.2.2 P (fun j hj => p1 j (by omega)) p2⟩ g3
          by_cases e : j = i
          · subst e; exact absurd w hs
          · exact g2.1 j (by omega) hs
      · have q2' : ¬ (i32 i).toInt < (Int32.ofInt 32).toInt := q2
        rw [oI32] at q2'; omega
      · have q' : ¬ (i32 i).toInt < (I 3).toInt := q
        omega
  refine hW [6] 30 _ _ _ _ _ _ ?_
  refine clearMark_ok hW fun A1 z1 z2 => ?_
  exact loop cn 0 A1 (by omega) z2 ⟨fun i hi => absurd hi (Nat.not_lt_zero _), fun i h1 h2 hm => absurd (z1 i (by omega)) hm, fun P _ _ i hi hm => absurd (z1 i hi) hm⟩ (fun i hi => Or.inl (z1 i hi))
theorem clientHoldsMarked_ok (hW : Clo W) {n cn : Nat} {I : Nat → Int32} {A : Nat → Nat → Int32} {Q : Pst} (hc : (I 3).toInt = (cn : Int)) (h32 : cn ≤ 32)
    (h1 : (∀ i, i < cn → ¬ A 8 i = 0 → ¬ A 5 i = 0) → Q (some (.int 1)) (nst n I A)) (h0 : ∀ i, i < cn → ¬ A 8 i = 0 → A 5 i = 0 → Q (some (.int 0)) (nst n I A)) :
    W k_clientHoldsMarked 0 [.val (.ref 1), .unset] [] (nst n I A) Q := by
  have loop : ∀ (m i : Nat), i + m = cn → (∀ j, j < i → ¬ A 8 j = 0 → ¬ A 5 j = 0) → W k_clientHoldsMarked 2 [.val (.ref 1), .val (.int (i32 i))] [] (nst n I A) Q := by
    intro m
    induction m with
    | zero =>
      intro i hi hl
      have ii : (i32 i).toInt = (i : Int) := i32_toInt (by omega)
      refine hW [] 20 _ _ _ _ _ _ ?_
      refine ⟨fun q => ?_, fun q => h1 (fun j hj => hl j (by omega))⟩
      have q' : (i32 i).toInt < (I 3).toInt := q
      omega
    | succ m ih =>
      intro i hi hl
      have ii : (i32 i).toInt = (i : Int) := i32_toInt (by omega)
      have it : (i32 i).toInt.toNat = i := by omega
      have next : (¬ A 8 i = 0 → ¬ A 5 i = 0) → W k_clientHoldsMarked 2 [.val (.ref 1), .val (.int (i32 i + Int32.ofInt 1))] [] (nst n I A) Q := by
        intro w
        rw [i32_succ]
        refine ih (i + 1) (by omega) (fun j hj => ?_)
        by_cases e : j = i
        · rw [e]; exact w
        · exact hl j (by omega)
      refine hW [2] 30 _ _ _ _ _ _ ?_
      refine ⟨fun q => ⟨fun q2 => ⟨?_, ⟨fun z => next ?_, fun z => ⟨?_, ⟨fun z2 => ?_, fun z2 => next ?_⟩⟩⟩⟩, fun q2 => ?_⟩, fun q => ?_⟩
      · show 0 ≤ (i32 i).toInt ∧ (i32 i).toInt < 32; omega
      · have z' : A 8 (i32 i).toInt.toNat = 0 := z
        rw [it] at z'
        exact fun w => absurd z' w
      · show 0 ≤ (i32 i).toInt ∧ (i32 i).toInt < 64; omega
      · have z' : ¬ A 8 (i32 i).toInt.toNat = 0 := z
        have z2' : A 5 (i32 i).toInt.toNat = 0 := z2
        rw [it] at z' z2'
        exact h0 i (by omega) z' z2'
      · have z2' : ¬ A 5 (i32 i).toInt.toNat = 0 := z2
        rw [it] at z2'
        exact fun _ => z2'
      · have q2' : ¬ (i32 i).toInt < (Int32.ofInt 32).toInt := q2
        rw [oI32] at q2'; omega
      · have q' : ¬ (i32 i).toInt < (I 3).toInt := q
        omega
  refine hW [2] 20 _ _ _ _ _ _ ?_
  exact loop cn 0 (by omega) (fun j hj => absurd hj (Nat.not_lt_zero _))
/-! ## pack, want, round and the small readers -/
theorem isM_congr {lk : Nat → Int32} {cn : Nat} {S R R' : Nat → Prop} (h : ∀ i, i < 32 → (R i ↔ R' i)) (h32 : cn ≤ 32) (hM : isM lk cn S R) : isM lk cn S R' := by
  obtain ⟨a, b, c⟩ := hM
  refine ⟨fun i hi hs => (h i (by omega)).1 (a i hi hs), fun i h1 h2 hr k hk q1 q2 => (h _ (by omega)).1 (b i h1 h2 ((h i (by omega)).2 hr) k hk q1 q2), fun P p1 p2 i hi hr => c P p1 p2 i hi ((h i hi).2 hr)⟩
def packR (A B : Nat → Nat → Int32) (cn : Nat) : Prop :=
  (∀ r, r ≠ 5 → r ≠ 6 → r ≠ 8 → r ≠ 10 → B r = A r) ∧ isM (A 4) cn (fun i => ¬ (A 6 i &&& Int32.ofInt 4) = 0) (fun i => ¬ B 10 i = 0) ∧ isM (A 4) cn (fun i => ¬ (A 6 i &&& Int32.ofInt 1) = 0) (fun i => ¬ B 8 i = 0) ∧
  (∀ i, B 6 i = if i < cn then (if ¬ B 8 i = 0 ∧ B 10 i = 0 then fb (A 6 i ||| Int32.ofInt 16) else fb (A 6 i &&& (Int32.ofInt 16 ^^^ Int32.ofInt (-1)))) else A 6 i) ∧
  (∀ i, B 5 i = if (i < cn ∧ ¬ B 8 i = 0 ∧ B 10 i = 0) then 1 else A 5 i)
theorem pack_ok (hW : Clo W) (hF : Fgt W) {n cn : Nat} {I : Nat → Int32} {A : Nat → Nat → Int32} {Q : Pst} (hc : (I 3).toInt = (cn : Int)) (h32 : cn ≤ 32)
    (h0 : (I 6 = Int32.ofInt 3 ∨ ∀ i, i < cn → (A 6 i &&& Int32.ofInt 1) = 0) → Q (some (.int (Int32.ofInt (-1)))) (nst n I A))
    (h1 : ¬ I 6 = Int32.ofInt 3 → ∀ (B : Nat → Nat → Int32) (v : Int32), packR A B cn → ((v = 1 ∧ ∀ i, i < cn → ¬ B 8 i = 0 → ¬ B 5 i = 0) ∨ (v = 0 ∧ ∃ i, i < cn ∧ ¬ B 8 i = 0 ∧ B 5 i = 0)) →
      Q (some (.int (i32 (cntF (fun i => decide (¬ B 8 i = 0) && decide (B 10 i = 0)) cn)))) (nst n (fSt (fSt I 7 v) 6 (Int32.ofInt 3)) B)) :
    W k_pack 0 [.val (.ref 1), .unset, .unset] [] (nst n I A) Q := by
  have main : ¬ I 6 = Int32.ofInt 3 → W k_pack 17 [.val (.ref 1), .unset, .unset] [] (nst n I A) Q := by
    intro hp
    refine hW [24] 20 _ _ _ _ _ _ ?_
    refine markFlagged_ok hW hF (cn := cn) hc h32 fun A1 a1 a2 a3 => ?_
    -- the second half
    have second : ∀ A2 : Nat → Nat → Int32, (∀ r, r ≠ 10 → A2 r = A1 r) → (∀ i, i < 32 → A2 10 i = A1 8 i) → W k_pack 48 [.val (.ref 1), .unset, .unset] [] (nst n I A2) Q := by
      intro A2 b1 b2
      have c1 : ∀ r, r ≠ 8 → r ≠ 10 → A2 r = A r := fun r r8 r10 => (b1 r r10).trans (a1 r r8)
      have c2 : isM (A 4) cn (fun i => ¬ (A 6 i &&& Int32.ofInt 4) = 0) (fun i => ¬ A2 10 i = 0) := isM_congr (fun i hi => by rw [b2 i hi]) h32 a2
      refine hW [57] 20 _ _ _ _ _ _ ?_
      refine markFlagged_ok hW hF (cn := cn) hc h32 fun A3 d1 d2 d3 => ?_
      rw [c1 4 (by decide) (by decide), c1 6 (by decide) (by decide)] at d2
      have e1 : ∀ r, r ≠ 8 → r ≠ 10 → A3 r = A r := fun r r8 r10 => (d1 r r8).trans (c1 r r8 r10)
      have e10 : A3 10 = A2 10 := d1 10 (by decide)
      rw [← e10] at c2
      have loop : ∀ (m i : Nat) (B : Nat → Nat → Int32), i + m = cn → (∀ r, r ≠ 5 → r ≠ 6 → B r = A3 r) →
          (∀ j, B 6 j = if j < i then (if ¬ A3 8 j = 0 ∧ A3 10 j = 0 then fb (A 6 j ||| Int32.ofInt 16) else fb (A 6 j &&& (Int32.ofInt 16 ^^^ Int32.ofInt (-1)))) else A 6 j) →
          (∀ j, B 5 j = if (j < i ∧ ¬ A3 8 j = 0 ∧ A3 10 j = 0) then 1 else A 5 j) →
          W k_pack 57 [.val (.ref 1), .val (.int (i32 (cntF (fun i => decide (¬ A3 8 i = 0) && decide (A3 10 i = 0)) i))), .val (.int (i32 i))] [] (nst n I B) Q := by
        intro m
        induction m with
        | zero =>
          intro i B hi g1 g2 g3
          have ii : (i32 i).toInt = (i : Int) := i32_toInt (by omega)
          have hic : i = cn := by omega
          subst hic
          have g8 : B 8 = A3 8 := g1 8 (by decide) (by decide)
          have g10 : B 10 = A3 10 := g1 10 (by decide) (by decide)
          have hR : packR A B i := by
            refine ⟨fun r r5 r6 r8 r10 => (g1 r r5 r6).trans (e1 r r8 r10), ?_, ?_, ?_, ?_⟩
            · rw [g10]; exact c2
            · rw [g8]; exact d2
            · rw [g8, g10]; exact g2
            · rw [g8, g10]; exact g3
          refine hW [] 40 _ _ _ _ _ _ ?_
          refine ⟨fun q => ?_, fun q => ?_⟩
          · have q' : (i32 i).toInt < (I 3).toInt := q
            omega
          · refine clientHoldsMarked_ok hW (cn := i) hc h32 (fun w => ?_) (fun j hj w1 w2 => ?_)
            · have := h1 hp B 1 hR (Or.inl ⟨rfl, w⟩)
              rw [g8, g10] at this
              exact this
            · have := h1 hp B 0 hR (Or.inr ⟨rfl, j, hj, w1, w2⟩)
              rw [g8, g10] at this
              exact this
        | succ m ih =>
          intro i B hi g1 g2 g3
          have ii : (i32 i).toInt = (i : Int) := i32_toInt (by omega)
          have it : (i32 i).toInt.toNat = i := by omega
          have g8 : B 8 = A3 8 := g1 8 (by decide) (by decide)
          have g10 : B 10 = A3 10 := g1 10 (by decide) (by decide)
          have h6 : B 6 i = A 6 i := by rw [g2, if_neg (by omega)]
          have skip : ¬ (¬ A3 8 i = 0 ∧ A3 10 i = 0) → W k_pack 109 [.val (.ref 1), .val (.int (i32 (cntF (fun i => decide (¬ A3 8 i = 0) && decide (A3 10 i = 0)) i))), .val (.int (i32 i))] [] (nst n I B) Q := by
            intro hn
            refine hW [57] 30 _ _ _ _ _ _ ?_
            refine clearFlag_ok hW (by omega) (by omega) ?_
            show W k_pack 57 [.val (.ref 1), .val (.int (i32 (cntF (fun i => decide (¬ A3 8 i = 0) && decide (A3 10 i = 0)) i))), .val (.int (i32 i + Int32.ofInt 1))] [] (nst n I (pmSet B 6 (i32 i).toInt.toNat (fb (B 6 (i32 i).toInt.toNat &&& (Int32.ofInt 16 ^^^ Int32.ofInt (-1)))))) Q
            rw [it, h6, i32_succ]
            have hn' : (decide (¬ A3 8 i = 0) && decide (A3 10 i = 0)) = false := by
              rw [← Bool.decide_and]; exact decide_eq_false hn
            have cc : cntF (fun i => decide (¬ A3 8 i = 0) && decide (A3 10 i = 0)) (i + 1) = cntF (fun i => decide (¬ A3 8 i = 0) && decide (A3 10 i = 0)) i := by
              simp only [cntF, hn']; rfl
            rw [← cc]
            refine ih (i + 1) _ (by omega) (fun r r5 r6 => by rw [pmSet_r _ _ _ r6]; exact g1 r r5 r6) (fun j => ?_) (fun j => ?_)
            · by_cases e : j = i
              · subst e
                rw [pmSet_eq, if_pos (Nat.lt_succ_self _), if_neg hn]
              · rw [pmSet_ne _ _ _ e, g2]
                by_cases w : j < i
                · rw [if_pos w, if_pos (show j < i + 1 by omega)]
                · rw [if_neg w, if_neg (show ¬ j < i + 1 by omega)]
            · rw [pmSet_r _ _ _ (by decide), g3]
              by_cases w : j < i ∧ ¬ A3 8 j = 0 ∧ A3 10 j = 0
              · rw [if_pos w, if_pos ⟨by omega, w.2⟩]
              · rw [if_neg w, if_neg]
                rintro ⟨w1, w2⟩
                by_cases e : j = i
                · subst e; exact hn w2
                · exact w ⟨by omega, w2⟩
          refine hW [57, 109] 60 _ _ _ _ _ _ ?_
          refine ⟨fun q => ⟨fun q2 => ⟨?_, ⟨fun z => skip ?_, fun z => ⟨?_, ⟨fun z2 => ?_, fun z2 => skip ?_⟩⟩⟩⟩, fun q2 => ?_⟩, fun q => ?_⟩
          · show 0 ≤ (i32 i).toInt ∧ (i32 i).toInt < 32; omega
          · have z' : B 8 (i32 i).toInt.toNat = 0 := z
            rw [it, g8] at z'
            exact fun w => w.1 z'
          · show 0 ≤ (i32 i).toInt ∧ (i32 i).toInt < 32; omega
          · have z' : ¬ B 8 (i32 i).toInt.toNat = 0 := z
            have z2' : B 10 (i32 i).toInt.toNat = 0 := z2
            rw [it, g8] at z'
            rw [it, g10] at z2'
            refine setFlag_ok hW (by omega) (by omega) ?_
            refine ⟨?_, ?_⟩
            · show 0 ≤ (i32 i).toInt ∧ (i32 i).toInt < 64; omega
            · show W k_pack 57 [.val (.ref 1), .val (.int (i32 (cntF (fun i => decide (¬ A3 8 i = 0) && decide (A3 10 i = 0)) i) + Int32.ofInt 1)), .val (.int (i32 i + Int32.ofInt 1))] [] (nst n I (pmSet (pmSet B 6 (i32 i).toInt.toNat (fb (B 6 (i32 i).toInt.toNat ||| Int32.ofInt 16))) 5 (i32 i).toInt.toNat 1)) Q
              rw [it, h6, i32_succ, i32_succ]
              have cc : cntF (fun i => decide (¬ A3 8 i = 0) && decide (A3 10 i = 0)) (i + 1) = cntF (fun i => decide (¬ A3 8 i = 0) && decide (A3 10 i = 0)) i + 1 := by
                simp [cntF, z', z2']
              rw [← cc]
              refine ih (i + 1) _ (by omega) (fun r r5 r6 => by rw [pmSet_r _ _ _ r5, pmSet_r _ _ _ r6]; exact g1 r r5 r6) (fun j => ?_) (fun j => ?_)
              · rw [pmSet_r _ _ _ (by decide)]
                by_cases e : j = i
                · subst e
                  rw [pmSet_eq, if_pos (Nat.lt_succ_self _), if_pos ⟨z', z2'⟩]
                · rw [pmSet_ne _ _ _ e, g2]
                  by_cases w : j < i
                  · rw [if_pos w, if_pos (show j < i + 1 by omega)]
                  · rw [if_neg w, if_neg (show ¬ j < i + 1 by omega)]
              · by_cases e : j = i
                · subst e
                  rw [pmSet_eq, if_pos ⟨by omega, z', z2'⟩]
                · rw [pmSet_ne _ _ _ e, pmSet_r _ _ _ (by decide), g3]
                  by_cases w : j < i ∧ ¬ A3 8 j = 0 ∧ A3 10 j = 0
                  · rw [if_pos w, if_pos ⟨by omega, w.2⟩]
                  · rw [if_neg w, if_neg]
                    rintro ⟨w1, w2⟩
                    exact w ⟨by omega, w2⟩
          · have z2' : ¬ B 10 (i32 i).toInt.toNat = 0 := z2
            rw [it, g10] at z2'
            exact fun w => z2' w.2
          · have q2' : ¬ (i32 i).toInt < (Int32.ofInt 32).toInt := q2
            rw [oI32] at q2'; omega
          · have q' : ¬ (i32 i).toInt < (I 3).toInt := q
            omega
      exact loop cn 0 A3 (by omega) (fun _ _ _ => rfl) (fun j => by rw [if_neg (by omega), e1 6 (by decide) (by decide)]) (fun j => by rw [if_neg (by omega), e1 5 (by decide) (by decide)])
    -- the copy of the marks
    have copy : ∀ (m i : Nat) (B : Nat → Nat → Int32), i + m = 32 → (∀ r, r ≠ 10 → B r = A1 r) → (∀ j, j < i → B 10 j = A1 8 j) → W k_pack 24 [.val (.ref 1), .val (.int (i32 i)), .unset] [] (nst n I B) Q := by
      intro m
      induction m with
      | zero =>
        intro i B hi g1 g2
        have ii : (i32 i).toInt = (i : Int) := i32_toInt (by omega)
        refine hW [48] 20 _ _ _ _ _ _ ?_
        refine ⟨fun q => ?_, fun q => ?_⟩
        · have q' : (i32 i).toInt < (Int32.ofInt 32).toInt := q
          rw [oI32] at q'; omega
        · refine hF _ _ _ [.val (.ref 1), .unset, .unset] _ _ _ ⟨Or.inr rfl, Or.inl rfl, Or.inr rfl, trivial⟩ ?_
          exact second B g1 (fun j hj => g2 j (by omega))
      | succ m ih =>
        intro i B hi g1 g2
        have ii : (i32 i).toInt = (i : Int) := i32_toInt (by omega)
        have it : (i32 i).toInt.toNat = i := by omega
        refine hW [24] 30 _ _ _ _ _ _ ?_
        refine ⟨fun q => ⟨?_, ⟨?_, ?_⟩⟩, fun q => ?_⟩
        · show 0 ≤ (i32 i).toInt ∧ (i32 i).toInt < 32; omega
        · show 0 ≤ (i32 i).toInt ∧ (i32 i).toInt < 32; omega
        · show W k_pack 24 [.val (.ref 1), .val (.int (i32 i + Int32.ofInt 1)), .unset] [] (nst n I (pmSet B 10 (i32 i).toInt.toNat (B 8 (i32 i).toInt.toNat &&& 1))) Q
          rw [it, i32_succ]
          refine ih (i + 1) _ (by omega) (fun r hr => by rw [pmSet_r _ _ _ hr]; exact g1 r hr) (fun j hj => ?_)
          by_cases e : j = i
          · subst e
            rw [pmSet_eq, g1 8 (by decide)]
            rcases a3 j (by omega) with w | w <;> rw [w] <;> decide
          · rw [pmSet_ne _ _ _ e]; exact g2 j (by omega)
        · have q' : ¬ (i32 i).toInt < (Int32.ofInt 32).toInt := q
          rw [oI32] at q'; omega
    exact copy 32 0 A1 (by omega) (fun _ _ => rfl) (fun j hj => absurd hj (Nat.not_lt_zero _))
  refine hW [17] 30 _ _ _ _ _ _ ?_
  refine ⟨fun q => h0 (Or.inl q), fun q => ?_⟩
  refine anyWanted_ok hW (cn := cn) hc h32 (fun i hi w => ?_) (fun w => ?_)
  · exact ⟨fun z => absurd z n10, fun _ => main q⟩
  · exact ⟨fun _ => h0 (Or.inr w), fun z => absurd rfl z⟩
theorem want_ok (hW : Clo W) {n : Nat} {I : Nat → Int32} {A : Nat → Nat → Int32} {id : Int32} {Q : Pst}
    (h1 : I 6 = 0 → 0 ≤ id.toInt → id.toInt < (I 3).toInt → id.toInt < 32 → A 2 id.toInt.toNat = Int32.ofInt 3 → ¬ A 5 (32 + id.toInt.toNat) = 0 → (A 6 id.toInt.toNat &&& Int32.ofInt 1) = 0 → Q (some (.int 1)) (nst n I (pmSet A 6 id.toInt.toNat (fb (A 6 id.toInt.toNat ||| Int32.ofInt 1)))))
    (h0 : ¬ (I 6 = 0 ∧ (0 ≤ id.toInt ∧ id.toInt < (I 3).toInt ∧ id.toInt < 32) ∧ A 2 id.toInt.toNat = Int32.ofInt 3 ∧ ¬ A 5 (32 + id.toInt.toNat) = 0 ∧ (A 6 id.toInt.toNat &&& Int32.ofInt 1) = 0) → Q (some (.int 0)) (nst n I A)) :
    W k_want 0 [.val (.ref 1), .val (.int id)] [] (nst n I A) Q := by
  refine hW [] 60 _ _ _ _ _ _ ?_
  refine ⟨fun p => ?_, fun p => h0 fun w => p w.1⟩
  refine inRange_ok hW (fun a b c => ?_) (fun d => ?_)
  · refine ⟨fun z => absurd z n10, fun _ => ?_⟩
    have m : (Int32.ofInt 32 + id).toInt = 32 + id.toInt := by rw [tI_add (by rw [oI32]; omega) (by rw [oI32]; omega), oI32]
    have mt : (Int32.ofInt 32 + id).toInt.toNat = 32 + id.toInt.toNat := by omega
    refine ⟨⟨a, c⟩, ⟨fun q1 => ⟨?_, ⟨fun q2 => ?_, fun q2 => ?_⟩⟩, fun q1 => h0 fun w => q1 w.2.2.1⟩⟩
    · show 0 ≤ (Int32.ofInt 32 + id).toInt ∧ (Int32.ofInt 32 + id).toInt < 64; omega
    · have q2' : A 5 (Int32.ofInt 32 + id).toInt.toNat = 0 := q2
      rw [mt] at q2'
      exact h0 fun w => w.2.2.2.1 q2'
    · have q2' : ¬ A 5 (Int32.ofInt 32 + id).toInt.toNat = 0 := q2
      rw [mt] at q2'
      refine hasFlag_ok hW a c (fun w => ?_) (fun w => ?_)
      · exact ⟨fun z => absurd z n10, fun _ => h0 fun y => w y.2.2.2.2⟩
      · refine ⟨fun _ => ?_, fun z => absurd rfl z⟩
        refine setFlag_ok hW a c ?_
        exact h1 p a b c q1 q2' w
  · exact ⟨fun _ => h0 fun w => d w.2.1, fun z => absurd rfl z⟩
theorem round_ok (hW : Clo W) (hF : Fgt W) {n cn bc s0 : Nat} {I : Nat → Int32} {A : Nat → Nat → Int32} {Q : Pst} (hc : (I 3).toInt = (cn : Int)) (h32 : cn ≤ 32) (hb : (I 1).toInt = (bc : Int)) (hs : I 4 = i32 s0) (hs32 : s0 ≤ 32)
    (J1 : Nat → Nat → (Nat → Nat → Int32) → Prop) (J2 : Nat → Nat → Nat → (Nat → Nat → Int32) → Prop)
    (h0 : (¬ (I 6 = 0 ∨ I 6 = Int32.ofInt 1) ∨ (∀ i, i < cn → (A 6 i &&& Int32.ofInt 1) = 0)) → Q (some (.int (Int32.ofInt (-1)))) (nst n I A))
    (j1 : (I 6 = 0 ∨ I 6 = Int32.ofInt 1) → J1 0 s0 A)
    (step1 : ∀ t s B b, t < bc → s < 32 → J1 t s B → isBest B cn b → J1 (t + 1) (s + 1) (fSend B s b))
    (mid : ∀ t s B, s ≤ 32 → t ≤ bc → J1 t s B → (t = bc ∨ (∀ i, i < cn → ¬ el B i) ∨ s = 32) → s0 ≤ s ∧ J2 s s0 0 B)
    (step2 : ∀ s k a B, s0 ≤ k → k < s → s ≤ 32 → J2 s k a B →
      (∀ c, B 7 k = i32 c → c < cn → ¬ B 5 (32 + c) = 0 → ∀ B', isAck B B' cn c → J2 s (k + 1) (a + 1) B') ∧ (¬ (0 ≤ (B 7 k).toInt ∧ (B 7 k).toInt < (cn : Int) ∧ ¬ B 5 (32 + (B 7 k).toInt.toNat) = 0) → J2 s (k + 1) a B))
    (fin : (I 6 = 0 ∨ I 6 = Int32.ofInt 1) → ∀ s a B ph, s ≤ 32 → J2 s s a B → ((ph = Int32.ofInt 2 ∧ ((∀ i, i < cn → ¬ el B i) ∨ ¬ (I 5 + Int32.ofInt 1).toInt < (I 2).toInt)) ∨ (ph = Int32.ofInt 1 ∧ (∃ b, b < cn ∧ el B b) ∧ (I 5 + Int32.ofInt 1).toInt < (I 2).toInt)) →
      Q (some (.int (i32 a))) (nst n (fSt (fSt (fSt I 4 (i32 s)) 5 (I 5 + Int32.ofInt 1)) 6 ph) B)) :
    W k_round 0 [.val (.ref 1), .unset, .unset] [] (nst n I A) Q := by
  have main : (I 6 = 0 ∨ I 6 = Int32.ofInt 1) → W k_round 17 [.val (.ref 1), .unset, .unset] [] (nst n I A) Q := by
    intro hp
    refine hW [69] 60 _ _ _ _ _ _ ?_
    refine anyWanted_ok hW (cn := cn) hc h32 (fun i hi w => ?_) (fun w => ?_)
    · refine ⟨fun z => absurd z n10, fun _ => ?_⟩
      refine pickBatch_ok hW hF (cn := cn) (bc := bc) (s0 := s0) hc h32 hb hs hs32 J1 (j1 hp) step1 (fun t s B l1 l2 hJ hx => ?_)
      obtain ⟨l3, hJ2⟩ := mid t s B l1 l2 hJ hx
      show W k_answerBatch 0 [.val (.ref 1), .val (.int (I 4)), .unset, .unset, .unset] [] (nst n (fSt I 4 (i32 s)) B) _
      rw [hs]
      refine answerBatch_ok hW hF (cn := cn) (s0 := s0) (s := s) hc h32 rfl l3 l1 (J2 s) hJ2 (fun k a B q1 q2 => step2 s k a B q1 q2 l1) (fun a B' hJ' => ?_)
      show W k_pickNext 0 [.val (.ref 1), .unset, .unset] [] (nst n (fSt (fSt I 4 (i32 s)) 5 (I 5 + Int32.ofInt 1)) B') _
      have done : ((∀ i, i < cn → ¬ el B' i) ∨ ¬ (I 5 + Int32.ofInt 1).toInt < (I 2).toInt) → W k_round 69 [.val (.ref 1), .val (.int (i32 s0)), .val (.int (i32 a))] [] (nst n (fSt (fSt I 4 (i32 s)) 5 (I 5 + Int32.ofInt 1)) B') Q := by
        intro h
        refine hW [] 20 _ _ _ _ _ _ ?_
        exact fin hp s a B' _ l1 hJ' (Or.inl ⟨rfl, h⟩)
      refine pickNext_ok hW (cn := cn) hc h32 (fun b hbb => ?_) (fun w => ?_)
      · have b32 := hbb.1
        refine ⟨fun z => ?_, fun _ => ⟨fun q2 => ?_, fun q2 => ?_⟩⟩
        · have z' : (i32 b).toInt < 0 := z
          rw [i32_toInt (by omega)] at z'; omega
        · exact fin hp s a B' _ l1 hJ' (Or.inr ⟨rfl, ⟨b, hbb.1, hbb.2.1⟩, q2⟩)
        · exact hs ▸ done (Or.inr q2)
      · refine ⟨fun _ => hs ▸ done (Or.inl w), fun z => ?_⟩
        have z' : ¬ (Int32.ofInt (-1)).toInt < 0 := z
        rw [oIm1] at z'; omega
    · exact ⟨fun _ => h0 (Or.inr w), fun z => absurd rfl z⟩
  refine hW [17] 30 _ _ _ _ _ _ ?_
  refine ⟨fun q => main (Or.inl q), fun q => ⟨fun q2 => main (Or.inr q2), fun q2 => h0 (Or.inl fun w => w.elim q q2)⟩⟩
theorem status_ok (hW : Clo W) {n : Nat} {I : Nat → Int32} {A : Nat → Nat → Int32} {id : Int32} {Q : Pst}
    (h1 : 0 ≤ id.toInt → id.toInt < (I 3).toInt → id.toInt < 32 → Q (some (.int (A 6 id.toInt.toNat &&& Int32.ofInt 255))) (nst n I A)) (h0 : ¬ (0 ≤ id.toInt ∧ id.toInt < (I 3).toInt ∧ id.toInt < 32) → Q (some (.int 0)) (nst n I A)) :
    W k_status 0 [.val (.ref 1), .val (.int id)] [] (nst n I A) Q := by
  refine hW [] 30 _ _ _ _ _ _ ?_
  refine inRange_ok hW (fun a b c => ?_) (fun d => ?_)
  · exact ⟨fun z => absurd z n10, fun _ => ⟨⟨a, c⟩, h1 a b c⟩⟩
  · exact ⟨fun _ => h0 d, fun z => absurd rfl z⟩
theorem phase_ok (hW : Clo W) {n : Nat} {I : Nat → Int32} {A : Nat → Nat → Int32} {Q : Pst} (hq : Q (some (.int (I 6))) (nst n I A)) : W k_phase 0 [.val (.ref 1)] [] (nst n I A) Q := hW [] 10 _ _ _ _ _ _ hq
theorem connected_ok (hW : Clo W) {n : Nat} {I : Nat → Int32} {A : Nat → Nat → Int32} {Q : Pst} (hq : Q (some (.int (I 7 &&& 1))) (nst n I A)) : W k_connected 0 [.val (.ref 1)] [] (nst n I A) Q := hW [] 10 _ _ _ _ _ _ hq
theorem newFetch_ok (hW : Clo W) {n : Nat} {I : Nat → Int32} {A : Nat → Nat → Int32} {Q : Pst}
    (hq : ∀ B : Nat → Nat → Int32, (∀ r, r ≠ 6 → r ≠ 7 → B r = A r) → (∀ i, i < 32 → B 6 i = 0) → Q none (nst n (fSt (fSt (fSt (fSt I 4 0) 5 0) 7 0) 6 0) B)) :
    W k_newFetch 0 [.val (.ref 1), .unset] [] (nst n I A) Q := by
  have loop : ∀ (m i : Nat) (B : Nat → Nat → Int32), i + m = 32 → (∀ r, r ≠ 6 → r ≠ 7 → B r = A r) → (∀ j, j < i → B 6 j = 0) → W k_newFetch 2 [.val (.ref 1), .val (.int (i32 i))] [] (nst n I B) Q := by
    intro m
    induction m with
    | zero =>
      intro i B hi g1 g2
      have ii : (i32 i).toInt = (i : Int) := i32_toInt (by omega)
      refine hW [] 40 _ _ _ _ _ _ ?_
      refine ⟨fun q => ?_, fun q => hq B g1 (fun j hj => g2 j (by omega))⟩
      have q' : (i32 i).toInt < (Int32.ofInt 32).toInt := q
      rw [oI32] at q'; omega
    | succ m ih =>
      intro i B hi g1 g2
      have ii : (i32 i).toInt = (i : Int) := i32_toInt (by omega)
      have it : (i32 i).toInt.toNat = i := by omega
      refine hW [2] 30 _ _ _ _ _ _ ?_
      refine ⟨fun q => ⟨?_, ⟨?_, ?_⟩⟩, fun q => ?_⟩
      · show 0 ≤ (i32 i).toInt ∧ (i32 i).toInt < 32; omega
      · show 0 ≤ (i32 i).toInt ∧ (i32 i).toInt < 32; omega
      · show W k_newFetch 2 [.val (.ref 1), .val (.int (i32 i + Int32.ofInt 1))] [] (nst n I (pmSet (pmSet B 6 (i32 i).toInt.toNat 0) 7 (i32 i).toInt.toNat 0)) Q
        rw [it, i32_succ]
        refine ih (i + 1) _ (by omega) (fun r r6 r7 => by rw [pmSet_r _ _ _ r7, pmSet_r _ _ _ r6]; exact g1 r r6 r7) (fun j hj => ?_)
        rw [pmSet_r _ _ _ (by decide)]
        by_cases e : j = i
        · subst e; rw [pmSet_eq]
        · rw [pmSet_ne _ _ _ e]; exact g2 j (by omega)
      · have q' : ¬ (i32 i).toInt < (Int32.ofInt 32).toInt := q
        rw [oI32] at q'; omega
  refine hW [2] 20 _ _ _ _ _ _ ?_
  exact loop 32 0 A (by omega) (fun _ _ _ => rfl) (fun j hj => absurd hj (Nat.not_lt_zero _))
def lb (m : Int64) (i : Nat) : Bool := m.toBitVec.getLsbD i
theorem lb_or (a b : Int64) (i : Nat) : lb (a ||| b) i = (lb a i || lb b i) := by simp [lb]
theorem lb_0 (i : Nat) : lb 0 i = false := by simp [lb]
theorem one_shl : ∀ l, l < 32 → ∀ y, y < 32 → lb ((1 : Int64) <<< ((Int32.ofNat l).toInt64 &&& 63)) y = decide (y = l) := by decide
theorem lb_ext0 {m : Int64} : m = 0 ↔ ∀ i, i < 64 → lb m i = false := by
  constructor
  · rintro rfl i _; exact lb_0 i
  · intro h
    apply Int64.toBitVec_inj.mp
    apply BitVec.eq_of_getLsbD_eq
    intro i hi
    rw [show m.toBitVec.getLsbD i = lb m i from rfl, h i hi]; simp
theorem shr_amt : ∀ y, y < 32 → ((Int32.ofNat y).toInt64.toUInt64 &&& Int64.toUInt64 63) = UInt64.ofNat y := by decide
theorem lb_and1 (m : Int64) (i : Nat) : lb (m &&& 1) i = (decide (i = 0) && lb m 0) := by
  have : (1 : Int64).toBitVec.getLsbD i = decide (i = 0) := by
    show (1#64).getLsbD i = _
    rw [BitVec.getLsbD_one]; simp
  show (m.toBitVec &&& (1 : Int64).toBitVec).getLsbD i = _
  rw [BitVec.getLsbD_and, this]
  by_cases e : i = 0
  · subst e; simp [lb]
  · simp [e]
theorem lb_ushr (m : Int64) {y : Nat} (hy : y < 32) : lb (Jvm.Free.XT.ushrL m (Int32.ofNat y)) 0 = lb m y := by
  unfold Jvm.Free.XT.ushrL
  rw [shr_amt y hy]
  show (m.toBitVec >>> ((UInt64.ofNat y).toBitVec % 64)).getLsbD 0 = m.toBitVec.getLsbD y
  have e : ((UInt64.ofNat y).toBitVec % 64).toNat = y := by
    rw [BitVec.toNat_umod]; simp; omega
  rw [BitVec.ushiftRight_eq', BitVec.getLsbD_ushiftRight, e]; simp
theorem bit_at (m : Int64) {y : Nat} (hy : y < 32) : (Jvm.Free.XT.ushrL m (Int32.ofNat y) &&& 1) = 0 ↔ lb m y = false := by
  rw [lb_ext0]
  constructor
  · intro h
    have := h 0 (by decide)
    rw [lb_and1, lb_ushr m hy] at this
    simpa using this
  · intro h i _
    rw [lb_and1, lb_ushr m hy, h, Bool.and_false]
theorem lb_and (a b : Int64) (i : Nat) : lb (a &&& b) i = (lb a i && lb b i) := by simp [lb]
theorem one_shl' : ∀ l, l < 32 → ∀ y, y < 64 → lb ((1 : Int64) <<< ((Int32.ofNat l).toInt64 &&& 63)) y = decide (y = l) := by decide
theorem and_shl (m : Int64) {l : Nat} (hl : l < 32) : (m &&& ((1 : Int64) <<< ((Int32.ofNat l).toInt64 &&& 63))) = 0 ↔ lb m l = false := by
  rw [lb_ext0]
  constructor
  · intro h
    have := h l (by omega)
    rw [lb_and, one_shl' l hl l (by omega)] at this
    simpa using this
  · intro h i hi
    rw [lb_and, one_shl' l hl i hi]
    by_cases e : i = l
    · subst e; rw [h]; simp
    · simp [e]
theorem cmpL0 {m : Int64} : Jvm.Free.XT.cmpL m 0 = 0 ↔ m = 0 := by
  unfold Jvm.Free.XT.cmpL
  constructor
  · intro h
    by_cases w : (0 : Int64) < m
    · rw [if_pos w] at h; exact absurd h (by decide)
    · rw [if_neg w] at h
      by_cases e : m = 0
      · exact e
      · rw [if_neg e] at h; exact absurd h (by decide)
  · rintro rfl; decide
/-! ## g-0238x2-1: what is reached, and the law's own reach -/
def Rc (lk : Nat → Int32) (S : Nat → Prop) (i : Nat) : Prop :=
  ∀ P : Nat → Prop, (∀ i, S i → P i) → (∀ i k, P i → k < 3 → 0 ≤ (lk (3 * i + k)).toInt → (lk (3 * i + k)).toInt < (i : Int) → P (lk (3 * i + k)).toInt.toNat) → P i
theorem Rc.base {lk : Nat → Int32} {S : Nat → Prop} {i : Nat} (h : S i) : Rc lk S i := fun _ p1 _ => p1 i h
theorem Rc.step {lk : Nat → Int32} {S : Nat → Prop} {i k : Nat} (h : Rc lk S i) (hk : k < 3) (q1 : 0 ≤ (lk (3 * i + k)).toInt) (q2 : (lk (3 * i + k)).toInt < (i : Int)) : Rc lk S (lk (3 * i + k)).toInt.toNat := fun P p1 p2 => p2 i k (h P p1 p2) hk q1 q2
theorem isM_Rc {lk : Nat → Int32} {cn : Nat} {S R : Nat → Prop} (h32 : cn ≤ 32) (h : isM lk cn S R) : ∀ i, i < 32 → (R i ↔ Rc lk (fun i => i < cn ∧ S i) i) := by
  obtain ⟨a, b, c⟩ := h
  intro i hi
  refine ⟨fun hr => c _ (fun i h1 h2 => Rc.base ⟨h1, h2⟩) (fun i _ _ hp k hk q1 q2 => hp.step hk q1 q2) i hi hr, fun hr => ?_⟩
  exact (hr (fun i => i < 32 ∧ R i) (fun i hs => ⟨by omega, a i hs.1 hs.2⟩) (fun i k hp hk q1 q2 => ⟨by have := hp.1; omega, b i (Nat.zero_le _) (by have := hp.1; omega) hp.2 k hk q1 q2⟩)).2
theorem Rc_lt {lk : Nat → Int32} {S : Nat → Prop} {n i : Nat} (hS : ∀ i, S i → i < n) (h : Rc lk S i) : i < n :=
  h (fun i => i < n) hS fun i k hp hk q1 q2 => by have : i < n := hp; omega
theorem Rc_congr {lk lk' : Nat → Int32} {S S' : Nat → Prop} {n : Nat} (hl : ∀ i, i < n → ∀ k, k < 3 → lk' (3 * i + k) = lk (3 * i + k)) (hS : ∀ i, S i → i < n) (hS' : ∀ i, S' i ↔ S i) (i : Nat) : Rc lk' S' i ↔ Rc lk S i := by
  refine ⟨fun h => ?_, fun h => ?_⟩
  · exact (h (fun i => i < n ∧ Rc lk S i) (fun i hs => ⟨hS i ((hS' i).1 hs), Rc.base ((hS' i).1 hs)⟩) (fun i k hp hk q1 q2 => by
      rw [hl i hp.1 k hk] at q1 q2 ⊢
      exact ⟨by have := hp.1; omega, hp.2.step hk q1 q2⟩)).2
  · exact (h (fun i => i < n ∧ Rc lk' S' i) (fun i hs => ⟨hS i hs, Rc.base ((hS' i).2 hs)⟩) (fun i k hp hk q1 q2 => by
      refine ⟨by have := hp.1; omega, ?_⟩
      have e := hl i hp.1 k hk
      have := hp.2.step hk (by rw [e]; exact q1) (by rw [e]; exact q2)
      rwa [e] at this)).2
theorem Rc_or {lk : Nat → Int32} {S T : Nat → Prop} (i : Nat) : Rc lk (fun i => S i ∨ T i) i ↔ Rc lk S i ∨ Rc lk T i := by
  refine ⟨fun h => ?_, fun h => ?_⟩
  · refine h (fun i => Rc lk S i ∨ Rc lk T i) (fun i hs => hs.elim (fun w => Or.inl (Rc.base w)) (fun w => Or.inr (Rc.base w))) (fun i k hp hk q1 q2 => ?_)
    exact hp.elim (fun w => Or.inl (w.step hk q1 q2)) (fun w => Or.inr (w.step hk q1 q2))
  · rcases h with h | h
    · exact h _ (fun i hs => Rc.base (Or.inl hs)) (fun i k hp hk q1 q2 => hp.step hk q1 q2)
    · exact h _ (fun i hs => Rc.base (Or.inr hs)) (fun i k hp hk q1 q2 => hp.step hk q1 q2)
def lkOK (lk : Nat → Int32) (cn : Nat) : Prop := ∀ i, i < cn → ∀ k, k < 3 → (lk (3 * i + k)).toInt < (i : Int)
def clM (lk : Nat → Int32) (cn : Nat) (m : Int64) (lo : Nat) : Prop := ∀ i, lo ≤ i → i < cn → lb m i = true → ∀ k, k < 3 → 0 ≤ (lk (3 * i + k)).toInt → lb m (lk (3 * i + k)).toInt.toNat = true
theorem lb_set {m : Int64} {l y : Nat} (hl : l < 32) (hy : y < 32) : lb (m ||| ((1 : Int64) <<< ((Int32.ofNat l).toInt64 &&& 63))) y = true ↔ lb m y = true ∨ y = l := by
  rw [lb_or, one_shl' l hl y (by omega)]; simp
set_option maxHeartbeats 2000000 in
theorem reachJ_ok (hW : Clo W) (hF : Fgt W) {n cn x : Nat} {I : Nat → Int32} {A : Nat → Nat → Int32} {Q : Pst} (hc : (I 3).toInt = (cn : Int)) (h32 : cn ≤ 32) (hl : lkOK (A 4) cn) (hx : x < cn)
    (hq : ∀ m : Int64, (∀ y, y < 32 → (lb m y = true ↔ Rc (A 4) (fun i => i = x) y)) → Q (some (.long m)) (nst n I A)) :
    W k_reach 0 [.val (.ref 1), .val (.int (i32 x)), .val (.int (i32 cn)), .unset, .unset, .unset, .unset, .unset, .unset, .unset, .unset, .unset] [] (nst n I A) Q := by
  have cni : (i32 cn).toInt = (cn : Int) := i32_toInt (by omega)
  have pas : ∀ (t p : Nat) (m : Int64) (ch : Int32), p + t = cn + 1 → (lb m x = true ∧ ∀ y, y < 32 → lb m y = true → Rc (A 4) (fun i => i = x) y) → (p = 0 → ch = 1) → (1 ≤ p → clM (A 4) cn m 0) →
      W k_reach 10 [.val (.ref 1), .val (.int (i32 x)), .val (.int (i32 cn)), .val (.long m), .second, .val (.int ch), .val (.int (i32 p)), .unset, .unset, .unset, .unset, .unset] [] (nst n I A) Q := by
    intro t
    induction t with
    | zero =>
      intro p m ch hp hP hch hcl
      have pi : (i32 p).toInt = (p : Int) := i32_toInt (by omega)
      have fin : Q (some (.long m)) (nst n I A) := by
        refine hq m fun y hy => ⟨hP.2 y hy, fun hr => ?_⟩
        exact (hr (fun i => i < cn ∧ lb m i = true) (fun i e => by subst e; exact ⟨hx, hP.1⟩) (fun i k hp' hk q1 q2 => ⟨by have := hp'.1; omega, hcl (by omega) i (Nat.zero_le _) hp'.1 hp'.2 k hk q1⟩)).2
      refine hW [] 20 _ _ _ _ _ _ ?_
      refine ⟨fun q => fin, fun q => ?_⟩
      have q' : ¬ (i32 cn).toInt < (i32 p).toInt := q
      omega
    | succ t ih =>
      intro p m ch hp hP hch hcl
      have pi : (i32 p).toInt = (p : Int) := i32_toInt (by omega)
      -- the scan
      have scan : ∀ (j : Nat) (y : Int32) (m : Int64) (ch : Int32), j ≤ cn → y.toInt = (j : Int) - 1 → (lb m x = true ∧ ∀ y, y < 32 → lb m y = true → Rc (A 4) (fun i => i = x) y) → clM (A 4) cn m j →
          W k_reach 29 [.val (.ref 1), .val (.int (i32 x)), .val (.int (i32 cn)), .val (.long m), .second, .val (.int ch), .val (.int (i32 p)), .val (.int y), .unset, .unset, .unset, .unset] [] (nst n I A) Q := by
        intro j
        induction j with
        | zero =>
          intro y m ch hj hy hP hcl
          refine hW [10] 20 _ _ _ _ _ _ ?_
          refine ⟨fun q => ?_, fun q => ?_⟩
          · show W k_reach 10 [.val (.ref 1), .val (.int (i32 x)), .val (.int (i32 cn)), .val (.long m), .second, .val (.int ch), .val (.int (i32 p + Int32.ofInt 1)), .val (.int y), .unset, .unset, .unset, .unset] [] (nst n I A) Q
            refine hF _ _ _ [.val (.ref 1), .val (.int (i32 x)), .val (.int (i32 cn)), .val (.long m), .second, .val (.int ch), .val (.int (i32 p + Int32.ofInt 1)), .unset, .unset, .unset, .unset, .unset] _ _ _ ⟨Or.inr rfl, Or.inr rfl, Or.inr rfl, Or.inr rfl, Or.inr rfl, Or.inr rfl, Or.inr rfl, Or.inl rfl, Or.inr rfl, Or.inr rfl, Or.inr rfl, Or.inr rfl, trivial⟩ ?_
            rw [i32_succ]
            exact ih (p + 1) m ch (by omega) hP (fun w => by omega) (fun _ => hcl)
          · have q' : ¬ y.toInt < 0 := q
            omega
        | succ j ihj =>
          intro y m ch hj hy hP hcl
          have yj : y = i32 j := Int32.toInt_inj.mp (by rw [i32_toInt (by omega)]; omega)
          subst yj
          have ji : (i32 j).toInt = (j : Int) := i32_toInt (by omega)
          have jt : (i32 j).toInt.toNat = j := by omega
          have next : ∀ (m : Int64) (ch : Int32), (lb m x = true ∧ ∀ y, y < 32 → lb m y = true → Rc (A 4) (fun i => i = x) y) → clM (A 4) cn m j →
              W k_reach 104 [.val (.ref 1), .val (.int (i32 x)), .val (.int (i32 cn)), .val (.long m), .second, .val (.int ch), .val (.int (i32 p)), .val (.int (i32 j)), .unset, .unset, .unset, .unset] [] (nst n I A) Q := by
            intro m ch hP hcl
            refine hW [29] 10 _ _ _ _ _ _ ?_
            exact ihj _ m ch (by omega) (by rw [tI_add (by rw [oIm1]; omega) (by rw [oIm1]; omega), oIm1]; omega) hP hcl
          have inner : ∀ (u kk : Nat) (m : Int64) (ch : Int32), kk + u = 3 → (lb m x = true ∧ ∀ y, y < 32 → lb m y = true → Rc (A 4) (fun i => i = x) y) → clM (A 4) cn m (j + 1) → lb m j = true → (∀ k, k < kk → 0 ≤ (A 4 (3 * j + k)).toInt → lb m (A 4 (3 * j + k)).toInt.toNat = true) →
              W k_reach 48 [.val (.ref 1), .val (.int (i32 x)), .val (.int (i32 cn)), .val (.long m), .second, .val (.int ch), .val (.int (i32 p)), .val (.int (i32 j)), .val (.int (i32 kk)), .unset, .unset, .unset] [] (nst n I A) Q := by
            intro u
            induction u with
            | zero =>
              intro kk m ch hk hP hcl hj' hks
              have ki : (i32 kk).toInt = (kk : Int) := i32_toInt (by omega)
              refine hW [104] 10 _ _ _ _ _ _ ?_
              refine ⟨fun q => ?_, fun q => ?_⟩
              · have q' : (i32 kk).toInt < (Int32.ofInt 3).toInt := q
                rw [oI3] at q'; omega
              · refine hF _ _ _ [.val (.ref 1), .val (.int (i32 x)), .val (.int (i32 cn)), .val (.long m), .second, .val (.int ch), .val (.int (i32 p)), .val (.int (i32 j)), .unset, .unset, .unset, .unset] _ _ _ ⟨Or.inr rfl, Or.inr rfl, Or.inr rfl, Or.inr rfl, Or.inr rfl, Or.inr rfl, Or.inr rfl, Or.inr rfl, Or.inl rfl, Or.inr rfl, Or.inr rfl, Or.inr rfl, trivial⟩ ?_
                refine next m ch hP (fun i h1 h2 h3 k hk' q1 => ?_)
                by_cases e : i = j
                · subst e; exact hks k (by omega) q1
                · exact hcl i (by omega) h2 h3 k hk' q1
            | succ u ihu =>
              intro kk m ch hk hP hcl hj' hks
              have ki : (i32 kk).toInt = (kk : Int) := i32_toInt (by omega)
              have kt : (i32 kk).toInt.toNat = kk := by omega
              have low := hl j (by omega) kk (by omega)
              have cont : ∀ (m' : Int64) (ch' : Int32) (s9 s10 s11 : Slot), (lb m' x = true ∧ ∀ y, y < 32 → lb m' y = true → Rc (A 4) (fun i => i = x) y) → clM (A 4) cn m' (j + 1) → lb m' j = true → (∀ k, k < kk + 1 → 0 ≤ (A 4 (3 * j + k)).toInt → lb m' (A 4 (3 * j + k)).toInt.toNat = true) →
                  W k_reach 48 [.val (.ref 1), .val (.int (i32 x)), .val (.int (i32 cn)), .val (.long m'), .second, .val (.int ch'), .val (.int (i32 p)), .val (.int (i32 j)), .val (.int (i32 kk + Int32.ofInt 1)), s9, s10, s11] [] (nst n I A) Q := by
                intro m' ch' s9 s10 s11 h1 h2 h3 h4
                refine hF _ _ _ [.val (.ref 1), .val (.int (i32 x)), .val (.int (i32 cn)), .val (.long m'), .second, .val (.int ch'), .val (.int (i32 p)), .val (.int (i32 j)), .val (.int (i32 kk + Int32.ofInt 1)), .unset, .unset, .unset] _ _ _ ⟨Or.inr rfl, Or.inr rfl, Or.inr rfl, Or.inr rfl, Or.inr rfl, Or.inr rfl, Or.inr rfl, Or.inr rfl, Or.inr rfl, Or.inl rfl, Or.inl rfl, Or.inl rfl, trivial⟩ ?_
                rw [i32_succ]
                exact ihu (kk + 1) m' ch' (by omega) h1 h2 h3 h4
              refine hW [48] 60 _ _ _ _ _ _ ?_
              refine ⟨fun q => ?_, fun q => ?_⟩
              · refine link_ok hW (fun _ _ _ _ _ => ?_) (fun w => absurd ⟨⟨by omega, by omega, by omega⟩, by omega, by omega⟩ w)
                rw [jt, kt]
                refine ⟨fun q1 => ?_, fun q1 => ⟨fun q2 => ?_, fun q2 => ?_⟩⟩
                · have q1' : (A 4 (3 * j + kk)).toInt < 0 := q1
                  refine cont m ch _ _ _ hP hcl hj' (fun k hk' w => ?_)
                  by_cases e : k = kk
                  · subst e; omega
                  · exact hks k (by omega) w
                · have q1' : ¬ (A 4 (3 * j + kk)).toInt < 0 := q1
                  generalize hl0 : (A 4 (3 * j + kk)).toInt.toNat = l
                  have le : A 4 (3 * j + kk) = i32 l := by rw [← hl0]; exact i32_of (by omega)
                  have l32 : l < 32 := by omega
                  have lj : l < j := by omega
                  rw [le]
                  refine ⟨fun q3 => ?_, fun q3 => ?_⟩
                  · have q3' := cmpL0.1 q3
                    have q4 := (and_shl m l32).1 q3'
                    refine cont _ _ _ _ _ ⟨?_, fun y hy w => ?_⟩ (fun i h1 h2 h3 k hk' w1 => ?_) ?_ (fun k hk' w => ?_)
                    · exact (lb_set l32 (by omega)).2 (Or.inl hP.1)
                    · rcases (lb_set l32 hy).1 w with w | w
                      · exact hP.2 y hy w
                      · have st := (hP.2 j (by omega) hj').step (k := kk) (by omega) (by omega) low
                        rw [hl0] at st
                        rw [w]; exact st
                    · have hlow := hl i h2 k hk'
                      refine (lb_set l32 (by omega)).2 (Or.inl ?_)
                      rcases (lb_set l32 (by omega)).1 h3 with w | w
                      · exact hcl i h1 h2 w k hk' w1
                      · omega
                    · exact (lb_set l32 (by omega)).2 (Or.inl hj')
                    · have hlow := hl j (by omega) k (by omega)
                      refine (lb_set l32 (by omega)).2 ?_
                      by_cases e : k = kk
                      · subst e; right; exact hl0
                      · left; exact hks k (by omega) w
                  · have q4 : lb m l = true := by
                      cases w : lb m l with
                      | true => rfl
                      | false => exact absurd (cmpL0.2 ((and_shl m l32).2 w)) q3
                    refine cont m ch _ _ _ hP hcl hj' (fun k hk' w => ?_)
                    by_cases e : k = kk
                    · subst e; rw [hl0]; exact q4
                    · exact hks k (by omega) w
                · have q2' : ¬ (A 4 (3 * j + kk)).toInt < (i32 cn).toInt := q2
                  omega
              · have q' : ¬ (i32 kk).toInt < (Int32.ofInt 3).toInt := q
                rw [oI3] at q'; omega
          refine hW [48, 104] 30 _ _ _ _ _ _ ?_
          refine ⟨fun q => ?_, fun q => ⟨fun q2 => ?_, fun q2 => ?_⟩⟩
          · have q' : (i32 j).toInt < 0 := q
            omega
          · have q3 := (bit_at m (show j < 32 by omega)).1 (cmpL0.1 q2)
            refine next m ch hP (fun i h1 h2 h3 => ?_)
            by_cases e : i = j
            · subst e; rw [q3] at h3; exact absurd h3 (by decide)
            · exact hcl i (by omega) h2 h3
          · have q3 : lb m j = true := by
              cases w : lb m j with
              | true => rfl
              | false => exact absurd (cmpL0.2 ((bit_at m (show j < 32 by omega)).2 w)) q2
            exact inner 3 0 m ch (by omega) hP hcl q3 (fun k hk => absurd hk (Nat.not_lt_zero _))
      refine hW [29] 30 _ _ _ _ _ _ ?_
      refine ⟨fun q => ?_, fun q => ⟨fun q2 => ?_, fun q2 => ?_⟩⟩
      · have q' : (i32 cn).toInt < (i32 p).toInt := q
        omega
      · have q2' : ch = 0 := q2
        by_cases p0 : p = 0
        · have := hch p0
          rw [q2'] at this; exact absurd this (by decide)
        · refine hq m fun y hy => ⟨hP.2 y hy, fun hr => ?_⟩
          exact (hr (fun i => i < cn ∧ lb m i = true) (fun i e => by subst e; exact ⟨hx, hP.1⟩) (fun i k hp' hk q1 q2 => ⟨by have := hp'.1; omega, hcl (by omega) i (Nat.zero_le _) hp'.1 hp'.2 k hk q1⟩)).2
      · refine scan cn (i32 cn - Int32.ofInt 1) m _ (Nat.le_refl _) (by rw [tI_sub (by rw [oI1]; omega) (by rw [oI1]; omega), oI1]; omega) hP (fun i h1 h2 => by omega)
  refine hW [10] 20 _ _ _ _ _ _ ?_
  refine pas (cn + 1) 0 _ _ (by omega) ⟨?_, fun y hy w => ?_⟩ (fun _ => rfl) (fun w => by omega)
  · exact (one_shl' x (by omega) x (by omega)).trans (decide_eq_true rfl)
  · have := (one_shl' x (by omega) y (by omega)).symm.trans w
    rw [of_decide_eq_true this]; exact Rc.base rfl
theorem Rc_iff {lk : Nat → Int32} {S T : Nat → Prop} (h : ∀ i, S i ↔ T i) (i : Nat) : Rc lk S i ↔ Rc lk T i := by
  rw [show S = T from funext fun i => propext (h i)]
theorem Rc_none {lk : Nat → Int32} {S : Nat → Prop} (h : ∀ i, ¬ S i) (i : Nat) : ¬ Rc lk S i := fun w => w (fun _ => False) (fun i hs => h i hs) (fun _ _ hp _ _ _ => hp)
def fR (A : Nat → Nat → Int32) : Prop := ∀ i, i < 32 → 0 ≤ (A 6 i).toInt ∧ (A 6 i).toInt < 32
theorem st255 : ∀ k, k < 32 → (Int32.ofNat k &&& Int32.ofInt 255) = Int32.ofNat k := by decide
theorem fR_st {A : Nat → Nat → Int32} (h : fR A) {i : Nat} (hi : i < 32) : (A 6 i &&& Int32.ofInt 255) = A 6 i := by
  obtain ⟨h0, h1⟩ := h i hi
  have e := i32_of h0
  rw [e]
  exact st255 _ (by omega)
/-- the state that check accepts -/
def ckOK (I : Nat → Int32) (A : Nat → Nat → Int32) (cn : Nat) : Prop :=
  (∀ w, w < cn → ¬ (A 6 w &&& Int32.ofInt 4) = 0 → A 5 w = 1 ∧ A 5 (32 + w) = 1) ∧
  (∀ x, x < cn → (¬ (A 6 x &&& Int32.ofInt 16) = 0 ↔ (Rc (A 4) (fun i => i < cn ∧ ¬ (A 6 i &&& Int32.ofInt 1) = 0) x ∧ ¬ Rc (A 4) (fun i => i < cn ∧ ¬ (A 6 i &&& Int32.ofInt 4) = 0) x))) ∧
  (∀ x, x < cn → Rc (A 4) (fun i => i < cn ∧ ¬ (A 6 i &&& Int32.ofInt 1) = 0) x → A 5 x = 1) ∧ I 7 = 1
theorem Rc_grow {lk : Nat → Int32} {p : Nat → Prop} {w y : Nat} (hp : p w) : Rc lk (fun i => i < w + 1 ∧ p i) y ↔ Rc lk (fun i => i < w ∧ p i) y ∨ Rc lk (fun i => i = w) y := by
  rw [← Rc_or]
  refine Rc_iff (fun i => ⟨fun h => ?_, fun h => ?_⟩) y
  · by_cases e : i = w
    · exact Or.inr e
    · exact Or.inl ⟨by have := h.1; omega, h.2⟩
  · rcases h with h | h
    · exact ⟨by have := h.1; omega, h.2⟩
    · subst h; exact ⟨by omega, hp⟩
theorem Rc_stay {lk : Nat → Int32} {p : Nat → Prop} {w y : Nat} (hp : ¬ p w) : Rc lk (fun i => i < w + 1 ∧ p i) y ↔ Rc lk (fun i => i < w ∧ p i) y := by
  refine Rc_iff (fun i => ⟨fun h => ?_, fun h => ⟨by have := h.1; omega, h.2⟩⟩) y
  by_cases e : i = w
  · subst e; exact absurd h.2 hp
  · exact ⟨by have := h.1; omega, h.2⟩
theorem has_r (hW : Clo W) {n : Nat} {I : Nat → Int32} {A : Nat → Nat → Int32} {s k : Nat} {Q : Pst} (hs : s = 0 ∨ s = 1) (h1 : ((k : Nat) : Int) < (I 3).toInt) (h2 : k < 32) (hx : A 5 (32 * s + k) = 1) (hq : Q (some (.int 1)) (nst n I A)) :
    W k_has 0 [.val (.ref 1), .val (.int (i32 s)), .val (.int (i32 k))] [] (nst n I A) Q := by
  have ki : (i32 k).toInt = (k : Int) := i32_toInt (by omega)
  have kt : (i32 k).toInt.toNat = k := by omega
  refine has_ok hW (fun _ _ _ _ => ?_) (fun w => absurd ⟨?_, by omega, by omega, by omega⟩ w)
  · have st : (i32 s).toInt.toNat = s := by rcases hs with rfl | rfl <;> rfl
    rw [st, kt, hx]
    exact hq
  · rcases hs with rfl | rfl
    · exact Or.inl rfl
    · exact Or.inr rfl
set_option maxHeartbeats 2000000 in
theorem checkJ_ok (hW : Clo W) (hF : Fgt W) {n cn : Nat} {I : Nat → Int32} {A : Nat → Nat → Int32} {Q : Pst} (hc : (I 3).toInt = (cn : Int)) (h32 : cn ≤ 32) (hl : lkOK (A 4) cn) (hf : fR A) (hk : ckOK I A cn) (hq : Q (some (.int 1)) (nst n I A)) :
    W k_check 0 [.val (.ref 1), .val (.int (i32 cn)), .unset, .unset, .unset, .unset, .unset, .unset, .unset, .unset] [] (nst n I A) Q := by
  obtain ⟨k1, k2, k3, k4⟩ := hk
  have cni : (i32 cn).toInt = (cn : Int) := i32_toInt (by omega)
  -- the second loop
  have second : ∀ (t x : Nat) (wm am : Int64), x + t = cn → (∀ y, y < 32 → (lb wm y = true ↔ Rc (A 4) (fun i => i < cn ∧ ¬ (A 6 i &&& Int32.ofInt 1) = 0) y)) → (∀ y, y < 32 → (lb am y = true ↔ Rc (A 4) (fun i => i < cn ∧ ¬ (A 6 i &&& Int32.ofInt 4) = 0) y)) →
      W k_check 89 [.val (.ref 1), .val (.int (i32 cn)), .val (.long wm), .second, .val (.long am), .second, .val (.int (i32 x)), .unset, .unset, .unset] [] (nst n I A) Q := by
    intro t
    induction t with
    | zero =>
      intro x wm am hx hw ha
      have xi : (i32 x).toInt = (x : Int) := i32_toInt (by omega)
      refine hW [] 20 _ _ _ _ _ _ ?_
      refine ⟨fun q => ?_, fun q => ?_⟩
      · have q' : (i32 x).toInt < (i32 cn).toInt := q
        omega
      · refine connected_ok hW ?_
        rw [k4]; exact hq
    | succ t ih =>
      intro x wm am hx hw ha
      have xi : (i32 x).toInt = (x : Int) := i32_toInt (by omega)
      have xt : (i32 x).toInt.toNat = x := by omega
      have next : ∀ s7 s8 s9 : Slot, W k_check 89 [.val (.ref 1), .val (.int (i32 cn)), .val (.long wm), .second, .val (.long am), .second, .val (.int (i32 x + Int32.ofInt 1)), s7, s8, s9] [] (nst n I A) Q := by
        intro s7 s8 s9
        refine hF _ _ _ [.val (.ref 1), .val (.int (i32 cn)), .val (.long wm), .second, .val (.long am), .second, .val (.int (i32 x + Int32.ofInt 1)), .unset, .unset, .unset] _ _ _ ⟨Or.inr rfl, Or.inr rfl, Or.inr rfl, Or.inr rfl, Or.inr rfl, Or.inr rfl, Or.inr rfl, Or.inl rfl, Or.inl rfl, Or.inl rfl, trivial⟩ ?_
        rw [i32_succ]
        exact ih (x + 1) wm am (by omega) hw ha
      have e2 := k2 x (by omega)
      have w1 := hw x (by omega)
      have a1 := ha x (by omega)
      -- by what stands in the three bits
      have go : ∀ (p wv av : Int32), ((p = 1 ∧ wv = 1 ∧ av = 0) ∨ (p = 0 ∧ wv = 1 ∧ av = 1) ∨ (p = 0 ∧ wv = 0 ∧ (av = 0 ∨ av = 1))) → (wv = 1 → A 5 x = 1) →
          W k_check 151 [.val (.ref 1), .val (.int (i32 cn)), .val (.long wm), .second, .val (.long am), .second, .val (.int (i32 x)), .val (.int p), .val (.int wv), .val (.int av)] [] (nst n I A) Q := by
        intro p wv av h hh
        have last : ∀ (p wv av : Int32), (wv = 1 → A 5 x = 1) → (wv = 0 ∨ wv = 1) → W k_check 173 [.val (.ref 1), .val (.int (i32 cn)), .val (.long wm), .second, .val (.long am), .second, .val (.int (i32 x)), .val (.int p), .val (.int wv), .val (.int av)] [] (nst n I A) Q := by
          intro p wv av hh hv
          refine hW [89] 30 _ _ _ _ _ _ ?_
          rcases hv with rfl | rfl
          · exact ⟨fun _ => next _ _ _, fun q => absurd rfl q⟩
          · refine ⟨fun q => absurd q n10, fun _ => ?_⟩
            refine has_r hW (s := 0) (Or.inl rfl) (by omega) (by omega) (by rw [Nat.mul_zero, Nat.zero_add]; exact hh rfl) ?_
            exact ⟨fun q => absurd q n10, fun _ => next _ _ _⟩
        refine hW [173] 30 _ _ _ _ _ _ ?_
        rcases h with ⟨rfl, rfl, rfl⟩ | ⟨rfl, rfl, rfl⟩ | ⟨rfl, rfl, h⟩
        · exact ⟨fun q => absurd q n10, fun _ => ⟨fun _ => ⟨fun _ => last _ _ _ hh (Or.inr rfl), fun q => absurd rfl q⟩, fun q => absurd rfl q⟩⟩
        · exact ⟨fun q => absurd q n10, fun _ => ⟨fun q => absurd q n10, fun _ => ⟨fun _ => last _ _ _ hh (Or.inr rfl), fun q => absurd rfl q⟩⟩⟩
        · exact ⟨fun _ => ⟨fun _ => last _ _ _ hh (Or.inl rfl), fun q => absurd rfl q⟩, fun q => absurd rfl q⟩
      have third : ∀ p wv : Int32, ((p = 1 ↔ Rc (A 4) (fun i => i < cn ∧ ¬ (A 6 i &&& Int32.ofInt 1) = 0) x ∧ ¬ Rc (A 4) (fun i => i < cn ∧ ¬ (A 6 i &&& Int32.ofInt 4) = 0) x)) → (p = 0 ∨ p = 1) → (wv = 1 ↔ Rc (A 4) (fun i => i < cn ∧ ¬ (A 6 i &&& Int32.ofInt 1) = 0) x) → (wv = 0 ∨ wv = 1) →
          W k_check 132 [.val (.ref 1), .val (.int (i32 cn)), .val (.long wm), .second, .val (.long am), .second, .val (.int (i32 x)), .val (.int p), .val (.int wv), .unset] [] (nst n I A) Q := by
        intro p wv hp hp2 hwv hw2
        have wh : wv = 1 → A 5 x = 1 := fun e => k3 x (by omega) (hwv.1 e)
        refine hW [151] 30 _ _ _ _ _ _ ?_
        refine ⟨fun q => ?_, fun q => ?_⟩
        · have q3 := (bit_at am (show x < 32 by omega)).1 (cmpL0.1 q)
          have na : ¬ Rc (A 4) (fun i => i < cn ∧ ¬ (A 6 i &&& Int32.ofInt 4) = 0) x := fun z => by rw [a1.2 z] at q3; exact absurd q3 (by decide)
          refine go _ _ _ ?_ wh
          rcases hw2 with e | e
          · right; right
            refine ⟨hp2.resolve_right fun z => ?_, e, Or.inl rfl⟩
            have := hwv.2 (hp.1 z).1
            rw [e] at this; exact absurd this (by decide)
          · left
            exact ⟨hp.2 ⟨hwv.1 e, na⟩, e, rfl⟩
        · have q3 : lb am x = true := by
            cases w : lb am x with
            | true => rfl
            | false => exact absurd (cmpL0.2 ((bit_at am (show x < 32 by omega)).2 w)) q
          have na := a1.1 q3
          have p0 : p = 0 := hp2.resolve_right fun z => (hp.1 z).2 na
          refine go _ _ _ ?_ wh
          rcases hw2 with e | e
          · right; right; exact ⟨p0, e, Or.inr rfl⟩
          · right; left; exact ⟨p0, e, rfl⟩
      have snd : ∀ p : Int32, ((p = 1 ↔ Rc (A 4) (fun i => i < cn ∧ ¬ (A 6 i &&& Int32.ofInt 1) = 0) x ∧ ¬ Rc (A 4) (fun i => i < cn ∧ ¬ (A 6 i &&& Int32.ofInt 4) = 0) x)) → (p = 0 ∨ p = 1) →
          W k_check 114 [.val (.ref 1), .val (.int (i32 cn)), .val (.long wm), .second, .val (.long am), .second, .val (.int (i32 x)), .val (.int p), .unset, .unset] [] (nst n I A) Q := by
        intro p hp hp2
        refine hW [132] 30 _ _ _ _ _ _ ?_
        refine ⟨fun q => ?_, fun q => ?_⟩
        · have q3 := (bit_at wm (show x < 32 by omega)).1 (cmpL0.1 q)
          refine third p _ hp hp2 ⟨fun z => absurd z (by decide), fun z => ?_⟩ (Or.inl rfl)
          rw [w1.2 z] at q3; exact absurd q3 (by decide)
        · have q3 : lb wm x = true := by
            cases w : lb wm x with
            | true => rfl
            | false => exact absurd (cmpL0.2 ((bit_at wm (show x < 32 by omega)).2 w)) q
          exact third p _ hp hp2 ⟨fun _ => w1.1 q3, fun _ => rfl⟩ (Or.inr rfl)
      refine hW [114] 30 _ _ _ _ _ _ ?_
      refine ⟨fun q => ?_, fun q => ?_⟩
      · refine status_ok hW (fun _ _ _ => ?_) (fun w => absurd ⟨by omega, by omega, by omega⟩ w)
        rw [xt, fR_st hf (show x < 32 by omega)]
        refine ⟨fun q2 => ?_, fun q2 => ?_⟩
        · have q2' : (A 6 x &&& Int32.ofInt 16) = 0 := q2
          exact snd _ ⟨fun z => absurd z (by decide), fun z => absurd q2' (e2.2 z)⟩ (Or.inl rfl)
        · have q2' : ¬ (A 6 x &&& Int32.ofInt 16) = 0 := q2
          exact snd _ ⟨fun _ => e2.1 q2', fun _ => rfl⟩ (Or.inr rfl)
      · have q' : ¬ (i32 x).toInt < (i32 cn).toInt := q
        omega
  -- the first loop
  have first : ∀ (t w : Nat) (wm am : Int64), w + t = cn → (∀ y, y < 32 → (lb wm y = true ↔ Rc (A 4) (fun i => i < w ∧ ¬ (A 6 i &&& Int32.ofInt 1) = 0) y)) → (∀ y, y < 32 → (lb am y = true ↔ Rc (A 4) (fun i => i < w ∧ ¬ (A 6 i &&& Int32.ofInt 4) = 0) y)) →
      W k_check 8 [.val (.ref 1), .val (.int (i32 cn)), .val (.long wm), .second, .val (.long am), .second, .val (.int (i32 w)), .unset, .unset, .unset] [] (nst n I A) Q := by
    intro t
    induction t with
    | zero =>
      intro w wm am hx hw ha
      have xi : (i32 w).toInt = (w : Int) := i32_toInt (by omega)
      have e : w = cn := by omega
      subst e
      refine hW [89] 20 _ _ _ _ _ _ ?_
      refine ⟨fun q => ?_, fun q => ?_⟩
      · have q' : (i32 w).toInt < (i32 w).toInt := q
        omega
      · exact second w 0 wm am (by omega) hw ha
    | succ t ih =>
      intro w wm am hx hw ha
      have xi : (i32 w).toInt = (w : Int) := i32_toInt (by omega)
      have xt : (i32 w).toInt.toNat = w := by omega
      have next : ∀ (wm am : Int64) (s7 : Slot), (∀ y, y < 32 → (lb wm y = true ↔ Rc (A 4) (fun i => i < w + 1 ∧ ¬ (A 6 i &&& Int32.ofInt 1) = 0) y)) → (∀ y, y < 32 → (lb am y = true ↔ Rc (A 4) (fun i => i < w + 1 ∧ ¬ (A 6 i &&& Int32.ofInt 4) = 0) y)) →
          W k_check 80 [.val (.ref 1), .val (.int (i32 cn)), .val (.long wm), .second, .val (.long am), .second, .val (.int (i32 w)), s7, .unset, .unset] [] (nst n I A) Q := by
        intro wm am s7 h1 h2
        refine hF _ _ _ [.val (.ref 1), .val (.int (i32 cn)), .val (.long wm), .second, .val (.long am), .second, .val (.int (i32 w)), .unset, .unset, .unset] _ _ _ ⟨Or.inr rfl, Or.inr rfl, Or.inr rfl, Or.inr rfl, Or.inr rfl, Or.inr rfl, Or.inr rfl, Or.inl rfl, Or.inr rfl, Or.inr rfl, trivial⟩ ?_
        refine hW [8] 10 _ _ _ _ _ _ ?_
        show W k_check 8 [.val (.ref 1), .val (.int (i32 cn)), .val (.long wm), .second, .val (.long am), .second, .val (.int (i32 w + Int32.ofInt 1)), .unset, .unset, .unset] [] (nst n I A) Q
        rw [i32_succ]
        exact ih (w + 1) wm am (by omega) h1 h2
      have acks : ∀ wm : Int64, (∀ y, y < 32 → (lb wm y = true ↔ Rc (A 4) (fun i => i < w + 1 ∧ ¬ (A 6 i &&& Int32.ofInt 1) = 0) y)) →
          W k_check 39 [.val (.ref 1), .val (.int (i32 cn)), .val (.long wm), .second, .val (.long am), .second, .val (.int (i32 w)), .val (.int (A 6 w)), .unset, .unset] [] (nst n I A) Q := by
        intro wm h1
        refine hW [80] 40 _ _ _ _ _ _ ?_
        refine ⟨fun q => ?_, fun q => ?_⟩
        · have q' : (A 6 w &&& Int32.ofInt 4) = 0 := q
          exact next wm am _ h1 (fun y hy => (ha y hy).trans (Rc_stay (p := fun i => ¬ (A 6 i &&& Int32.ofInt 4) = 0) (fun z => z q')).symm)
        · have q' : ¬ (A 6 w &&& Int32.ofInt 4) = 0 := q
          obtain ⟨g1, g2⟩ := k1 w (by omega) q'
          refine reachJ_ok hW hF (cn := cn) (x := w) hc h32 hl (by omega) (fun m hm => ?_)
          refine has_r hW (s := 1) (Or.inr rfl) (by omega) (by omega) g2 ?_
          refine ⟨fun z => absurd z n10, fun _ => ?_⟩
          refine has_r hW (s := 0) (Or.inl rfl) (by omega) (by omega) (by rw [Nat.mul_zero, Nat.zero_add]; exact g1) ?_
          refine ⟨fun z => absurd z n10, fun _ => ?_⟩
          refine next wm (am ||| m) _ h1 (fun y hy => ?_)
          rw [lb_or, Bool.or_eq_true, ha y hy, hm y hy]
          exact (Rc_grow (p := fun i => ¬ (A 6 i &&& Int32.ofInt 4) = 0) q').symm
      refine hW [39] 40 _ _ _ _ _ _ ?_
      refine ⟨fun q => ?_, fun q => ?_⟩
      · refine status_ok hW (fun _ _ _ => ?_) (fun w => absurd ⟨by omega, by omega, by omega⟩ w)
        rw [xt, fR_st hf (show w < 32 by omega)]
        refine ⟨fun q2 => ?_, fun q2 => ?_⟩
        · have q2' : (A 6 w &&& Int32.ofInt 1) = 0 := q2
          exact acks wm (fun y hy => (hw y hy).trans (Rc_stay (p := fun i => ¬ (A 6 i &&& Int32.ofInt 1) = 0) (fun z => z q2')).symm)
        · have q2' : ¬ (A 6 w &&& Int32.ofInt 1) = 0 := q2
          refine reachJ_ok hW hF (cn := cn) (x := w) hc h32 hl (by omega) (fun m hm => ?_)
          refine acks (wm ||| m) (fun y hy => ?_)
          rw [lb_or, Bool.or_eq_true, hw y hy, hm y hy]
          exact (Rc_grow (p := fun i => ¬ (A 6 i &&& Int32.ofInt 1) = 0) q2').symm
      · have q' : ¬ (i32 w).toInt < (i32 cn).toInt := q
        omega
  refine hW [8] 20 _ _ _ _ _ _ ?_
  exact first cn 0 0 0 (by omega) (fun y _ => ⟨fun z => by rw [lb_0] at z; exact absurd z (by decide), fun z => absurd z (Rc_none (fun i hi => by have := hi.1; omega) y)⟩) (fun y _ => ⟨fun z => by rw [lb_0] at z; exact absurd z (by decide), fun z => absurd z (Rc_none (fun i hi => by have := hi.1; omega) y)⟩)
/-! ## g-0238x2-1: what stays true -/
theorem isR_isM {lk : Nat → Int32} {d cn : Nat} {R : Nat → Prop} (hd : d < cn) (h32 : cn ≤ 32) (h : isR lk d R) : isM lk cn (fun i => i = d) R := by
  obtain ⟨a, b, c⟩ := h
  have up : ∀ i, i < 32 → R i → i ≤ d := fun i hi hr => c (fun i => i ≤ d) (Nat.le_refl _) (fun i _ h1 _ k _ q1 q2 => by show (lk (3 * i + k)).toInt.toNat ≤ d; omega) i hi hr
  refine ⟨fun i _ e => ?_, fun i h1 h2 hr k hk q1 q2 => ?_, fun P p1 p2 i hi hr => ?_⟩
  · subst e; exact a
  · exact b i h1 (up i (by omega) hr) hr k hk q1 q2
  · exact c P (p1 d hd rfl) (fun i h1 h2 => p2 i h1 (by omega)) i hi hr
def x2V (I : Nat → Int32) (A : Nat → Nat → Int32) (cn : Nat) : Prop :=
  (I 3 = i32 cn ∧ (cn : Int) ≤ (I 0).toInt ∧ (I 0).toInt ≤ 32 ∧ 0 ≤ (I 1).toInt ∧ ∃ s, s ≤ 32 ∧ I 4 = i32 s) ∧ lkOK (A 4) cn ∧ fR A ∧ (∀ j, j < 64 → A 5 j = 0 ∨ A 5 j = 1) ∧ (∀ i, cn ≤ i → i < 32 → A 5 i = 0) ∧
  mClo (A 4) 0 31 (fun i => ¬ A 5 i = 0) ∧ (∀ w, w < cn → ¬ (A 6 w &&& Int32.ofInt 4) = 0 → A 5 w = 1 ∧ A 5 (32 + w) = 1) ∧ (I 6 = Int32.ofInt 3 → ckOK I A cn)
theorem x2V_32 {I : Nat → Int32} {A : Nat → Nat → Int32} {cn : Nat} (h : x2V I A cn) : cn ≤ 32 ∧ (I 3).toInt = (cn : Int) := by
  obtain ⟨⟨h1, h2, h3, _⟩, _⟩ := h
  have : cn ≤ 32 := by omega
  exact ⟨this, by rw [h1, i32_toInt (by omega)]⟩
theorem fDef_4lt {A : Nat → Nat → Int32} {c : Nat} {k t l0 l1 l2 : Int32} {j : Nat} (h : j < 3 * c) : fDef A c k t l0 l1 l2 4 j = A 4 j := by
  simp only [fDef]
  rw [pmSet_r _ _ _ (by decide), pmSet_r _ _ _ (by decide), pmSet_r _ _ _ (by decide), pmSet_ne _ _ _ (by omega), pmSet_ne _ _ _ (by omega), pmSet_ne _ _ _ (by omega), pmSet_r _ _ _ (by decide), pmSet_r _ _ _ (by decide)]
theorem fDef_40 {A : Nat → Nat → Int32} {c : Nat} {k t l0 l1 l2 : Int32} : fDef A c k t l0 l1 l2 4 (3 * c + 0) = l0 := by
  simp only [fDef]
  rw [pmSet_r _ _ _ (by decide), pmSet_r _ _ _ (by decide), pmSet_r _ _ _ (by decide), pmSet_ne _ _ _ (by omega), pmSet_ne _ _ _ (by omega), Nat.add_zero, pmSet_eq]
theorem fDef_41 {A : Nat → Nat → Int32} {c : Nat} {k t l0 l1 l2 : Int32} : fDef A c k t l0 l1 l2 4 (3 * c + 1) = l1 := by
  simp only [fDef]
  rw [pmSet_r _ _ _ (by decide), pmSet_r _ _ _ (by decide), pmSet_r _ _ _ (by decide), pmSet_ne _ _ _ (by omega), pmSet_eq]
theorem fDef_42 {A : Nat → Nat → Int32} {c : Nat} {k t l0 l1 l2 : Int32} : fDef A c k t l0 l1 l2 4 (3 * c + 2) = l2 := by
  simp only [fDef]
  rw [pmSet_r _ _ _ (by decide), pmSet_r _ _ _ (by decide), pmSet_r _ _ _ (by decide), pmSet_eq]
theorem fDef_5e {A : Nat → Nat → Int32} {c : Nat} {k t l0 l1 l2 : Int32} {j : Nat} : fDef A c k t l0 l1 l2 5 j = if (j = c ∨ j = 32 + c) then 0 else A 5 j := by
  simp only [fDef]
  rw [pmSet_r _ _ _ (by decide)]
  by_cases e : j = 32 + c
  · rw [e, pmSet_eq, if_pos (Or.inr rfl)]
  · rw [pmSet_ne _ _ _ e]
    by_cases e2 : j = c
    · rw [e2, pmSet_eq, if_pos (Or.inl rfl)]
    · rw [pmSet_ne _ _ _ e2, if_neg (by omega), pmSet_r _ _ _ (by decide), pmSet_r _ _ _ (by decide), pmSet_r _ _ _ (by decide), pmSet_r _ _ _ (by decide), pmSet_r _ _ _ (by decide)]
theorem fDef_6e {A : Nat → Nat → Int32} {c : Nat} {k t l0 l1 l2 : Int32} {j : Nat} : fDef A c k t l0 l1 l2 6 j = if j = c then 0 else A 6 j := by
  simp only [fDef]
  by_cases e : j = c
  · rw [e, pmSet_eq, if_pos rfl]
  · rw [pmSet_ne _ _ _ e, if_neg e, pmSet_r _ _ _ (by decide), pmSet_r _ _ _ (by decide), pmSet_r _ _ _ (by decide), pmSet_r _ _ _ (by decide), pmSet_r _ _ _ (by decide), pmSet_r _ _ _ (by decide), pmSet_r _ _ _ (by decide)]
theorem x2def {I : Nat → Int32} {A : Nat → Nat → Int32} {cn : Nat} {k t l0 l1 l2 : Int32} (h : x2V I A cn) (hlt : (I 3).toInt < (I 0).toInt) (g0 : l0.toInt < (cn : Int)) (g1 : l1.toInt < (cn : Int)) (g2 : l2.toInt < (cn : Int)) :
    x2V (fSt I 3 (I 3 + Int32.ofInt 1)) (fDef A cn k t l0 l1 l2) (cn + 1) := by
  obtain ⟨h32, hc⟩ := x2V_32 h
  obtain ⟨⟨a1, a2, a3, a4, a5⟩, b, c, d, e, f, g, p⟩ := h
  have lo : ∀ i, i < cn → ∀ k', k' < 3 → fDef A cn k t l0 l1 l2 4 (3 * i + k') = A 4 (3 * i + k') := fun i hi k' hk => fDef_4lt (by omega)
  have s6 : ∀ i, i < cn → fDef A cn k t l0 l1 l2 6 i = A 6 i := fun i hi => by rw [fDef_6e, if_neg (by omega)]
  have n6 : fDef A cn k t l0 l1 l2 6 cn = 0 := by rw [fDef_6e, if_pos rfl]
  have gg : ∀ w, w < cn + 1 → ¬ (fDef A cn k t l0 l1 l2 6 w &&& Int32.ofInt 4) = 0 → fDef A cn k t l0 l1 l2 5 w = 1 ∧ fDef A cn k t l0 l1 l2 5 (32 + w) = 1 := by
    intro w hw hn
    by_cases ew : w = cn
    · subst ew; rw [n6] at hn; exact absurd (by decide) hn
    · rw [s6 w (by omega)] at hn
      rw [fDef_5e, fDef_5e, if_neg (by omega), if_neg (by omega)]
      exact g w (by omega) hn
  refine ⟨⟨?_, ?_, a3, a4, a5⟩, fun i hi k' hk => ?_, fun i hi => ?_, fun j hj => ?_, fun i h1 h2 => ?_, fun i h1 h2 h3 k' hk q1 q2 => ?_, gg, fun ph => ?_⟩
  · show I 3 + Int32.ofInt 1 = _
    rw [a1, i32_succ]
  · show ((cn + 1 : Nat) : Int) ≤ (I 0).toInt
    omega
  · by_cases ei : i = cn
    · subst ei
      have : k' = 0 ∨ k' = 1 ∨ k' = 2 := by omega
      rcases this with rfl | rfl | rfl
      · rw [fDef_40]; exact g0
      · rw [fDef_41]; exact g1
      · rw [fDef_42]; exact g2
    · rw [lo i (by omega) k' hk]; exact b i (by omega) k' hk
  · rw [fDef_6e]
    by_cases ei : i = cn
    · rw [if_pos ei]; decide
    · rw [if_neg ei]; exact c i hi
  · rw [fDef_5e]
    by_cases ej : j = cn ∨ j = 32 + cn
    · rw [if_pos ej]; exact Or.inl rfl
    · rw [if_neg ej]; exact d j hj
  · rw [fDef_5e, if_neg (by omega)]; exact e i (by omega) h2
  · have h3' : ¬ fDef A cn k t l0 l1 l2 5 i = 0 := h3
    rw [fDef_5e] at h3'
    by_cases ei : i = cn ∨ i = 32 + cn
    · rw [if_pos ei] at h3'; exact absurd rfl h3'
    · rw [if_neg ei] at h3'
      have il : i < cn := by
        refine Classical.byContradiction fun z => h3' (e i (by omega) (by omega))
      rw [lo i il k' hk] at q1 q2 ⊢
      show ¬ fDef A cn k t l0 l1 l2 5 (A 4 (3 * i + k')).toInt.toNat = 0
      rw [fDef_5e, if_neg (by omega)]
      exact f i h1 h2 h3' k' hk q1 q2
  · obtain ⟨k1, k2, k3, k4⟩ := p ph
    have rc : ∀ (m : Int32), (0 &&& m) = 0 → ∀ i, Rc (fDef A cn k t l0 l1 l2 4) (fun i => i < cn + 1 ∧ ¬ (fDef A cn k t l0 l1 l2 6 i &&& m) = 0) i ↔ Rc (A 4) (fun i => i < cn ∧ ¬ (A 6 i &&& m) = 0) i := by
      intro m hm i
      refine Rc_congr (n := cn) lo (fun i hi => hi.1) (fun i => ⟨fun z => ?_, fun z => ⟨by have := z.1; omega, by rw [s6 i z.1]; exact z.2⟩⟩) i
      by_cases ei : i = cn
      · subst ei
        have := z.2
        rw [n6] at this; exact absurd hm this
      · have il : i < cn := by have := z.1; omega
        refine ⟨il, ?_⟩
        have := z.2
        rwa [s6 i il] at this
    refine ⟨gg, fun x hx => ?_, fun x hx hr => ?_, k4⟩
    · rw [rc _ (by decide), rc _ (by decide)]
      by_cases ex : x = cn
      · subst ex
        rw [n6]
        exact ⟨fun z => absurd (by decide) z, fun z => absurd (Rc_lt (fun i hi => hi.1) z.1) (Nat.lt_irrefl _)⟩
      · rw [s6 x (by omega)]; exact k2 x (by omega)
    · rw [rc _ (by decide)] at hr
      have hx' : x < cn := Rc_lt (fun i hi => hi.1) hr
      rw [fDef_5e, if_neg (by omega)]
      exact k3 x hx' hr
/-- marks and their like aside -/
theorem x2V_congr {I : Nat → Int32} {A B : Nat → Nat → Int32} {cn : Nat} (h : x2V I A cn) (h4 : B 4 = A 4) (h5 : B 5 = A 5) (h6 : B 6 = A 6) : x2V I B cn := by
  unfold x2V ckOK fR at *
  rw [h4, h5, h6]; exact h
theorem x2give {I : Nat → Int32} {A B : Nat → Nat → Int32} {cn s d : Nat} (h : x2V I A cn) (hp : I 6 = 0) (hs : s = 0 ∨ s = 1) (hd : d < cn) (b1 : ∀ r, r ≠ 5 → r ≠ 8 → B r = A r) (b2 : isR (A 4) d (fun i => ¬ B 8 i = 0))
    (b3 : ∀ j, B 5 j = if (32 * s ≤ j ∧ j < 32 * s + cn ∧ ¬ B 8 (j - 32 * s) = 0 ∧ A 5 j = 0) then 1 else A 5 j) : x2V I B cn := by
  obtain ⟨h32, hc⟩ := x2V_32 h
  obtain ⟨a, b, c, dd, e, f, g, p⟩ := h
  have e4 : B 4 = A 4 := b1 4 (by decide) (by decide)
  have e6 : B 6 = A 6 := b1 6 (by decide) (by decide)
  obtain ⟨m1, m2, m3⟩ := isR_isM (cn := cn) hd h32 b2
  have mR := isM_Rc h32 (isR_isM (cn := cn) hd h32 b2)
  have up : ∀ j, A 5 j = 1 → B 5 j = 1 := fun j hj => by
    rw [b3]
    by_cases w : 32 * s ≤ j ∧ j < 32 * s + cn ∧ ¬ B 8 (j - 32 * s) = 0 ∧ A 5 j = 0
    · rw [if_pos w]
    · rw [if_neg w]; exact hj
  have upn : ∀ j, ¬ A 5 j = 0 → ¬ B 5 j = 0 := fun j hj => by
    rw [b3]
    by_cases w : 32 * s ≤ j ∧ j < 32 * s + cn ∧ ¬ B 8 (j - 32 * s) = 0 ∧ A 5 j = 0
    · rw [if_pos w]; decide
    · rw [if_neg w]; exact hj
  refine ⟨a, by rw [e4]; exact b, by unfold fR; rw [e6]; exact c, fun j hj => ?_, fun i h1 h2 => ?_, ?_, fun w hw => ?_, fun ph => ?_⟩
  · rw [b3]
    by_cases w : 32 * s ≤ j ∧ j < 32 * s + cn ∧ ¬ B 8 (j - 32 * s) = 0 ∧ A 5 j = 0
    · rw [if_pos w]; exact Or.inr rfl
    · rw [if_neg w]; exact dd j hj
  · rw [b3, if_neg]
    · exact e i h1 h2
    · rintro ⟨w1, w2, _⟩
      rcases hs with rfl | rfl <;> omega
  · rw [e4]
    intro i h1 h2 h3 k hk q1 q2
    have h3' : ¬ B 5 i = 0 := h3
    show ¬ B 5 (A 4 (3 * i + k)).toInt.toNat = 0
    by_cases old : A 5 i = 0
    · rw [b3] at h3'
      by_cases w : 32 * s ≤ i ∧ i < 32 * s + cn ∧ ¬ B 8 (i - 32 * s) = 0 ∧ A 5 i = 0
      · have s0 : s = 0 := by rcases hs with r | r <;> omega
        subst s0
        rw [Nat.mul_zero, Nat.sub_zero] at w
        have := m2 i h1 h2 w.2.2.1 k hk q1 q2
        by_cases o2 : A 5 (A 4 (3 * i + k)).toInt.toNat = 0
        · rw [b3, if_pos ⟨by omega, by omega, by rw [Nat.mul_zero, Nat.sub_zero]; exact this, o2⟩]; decide
        · exact upn _ o2
      · rw [if_neg w] at h3'; exact absurd old h3'
    · exact upn _ (f i h1 h2 old k hk q1 q2)
  · rw [e6]
    intro hn
    exact ⟨up _ (g w hw hn).1, up _ (g w hw hn).2⟩
  · rw [hp] at ph; exact absurd ph (by decide)
theorem or1 : ∀ k, k < 32 → (0 ≤ (fb (Int32.ofNat k ||| Int32.ofInt 1)).toInt ∧ (fb (Int32.ofNat k ||| Int32.ofInt 1)).toInt < 32) ∧ (fb (Int32.ofNat k ||| Int32.ofInt 1) &&& Int32.ofInt 4) = (Int32.ofNat k &&& Int32.ofInt 4) := by decide
theorem or2 : ∀ k, k < 32 → (0 ≤ (fb (Int32.ofNat k ||| Int32.ofInt 2)).toInt ∧ (fb (Int32.ofNat k ||| Int32.ofInt 2)).toInt < 32) ∧ (fb (Int32.ofNat k ||| Int32.ofInt 2) &&& Int32.ofInt 4) = (Int32.ofNat k &&& Int32.ofInt 4) := by decide
theorem or4 : ∀ k, k < 32 → 0 ≤ (fb (Int32.ofNat k ||| Int32.ofInt 4)).toInt ∧ (fb (Int32.ofNat k ||| Int32.ofInt 4)).toInt < 32 := by decide
theorem or8 : ∀ k, k < 32 → (0 ≤ (fb (Int32.ofNat k ||| Int32.ofInt 8)).toInt ∧ (fb (Int32.ofNat k ||| Int32.ofInt 8)).toInt < 32) ∧ (fb (Int32.ofNat k ||| Int32.ofInt 8) &&& Int32.ofInt 4) = (Int32.ofNat k &&& Int32.ofInt 4) := by decide
theorem or16 : ∀ k, k < 32 → (0 ≤ (fb (Int32.ofNat k ||| Int32.ofInt 16)).toInt ∧ (fb (Int32.ofNat k ||| Int32.ofInt 16)).toInt < 32) ∧ (fb (Int32.ofNat k ||| Int32.ofInt 16) &&& Int32.ofInt 4) = (Int32.ofNat k &&& Int32.ofInt 4) ∧ (fb (Int32.ofNat k ||| Int32.ofInt 16) &&& Int32.ofInt 1) = (Int32.ofNat k &&& Int32.ofInt 1) ∧ ¬ (fb (Int32.ofNat k ||| Int32.ofInt 16) &&& Int32.ofInt 16) = 0 := by decide
theorem an16 : ∀ k, k < 32 → (0 ≤ (fb (Int32.ofNat k &&& (Int32.ofInt 16 ^^^ Int32.ofInt (-1)))).toInt ∧ (fb (Int32.ofNat k &&& (Int32.ofInt 16 ^^^ Int32.ofInt (-1)))).toInt < 32) ∧ (fb (Int32.ofNat k &&& (Int32.ofInt 16 ^^^ Int32.ofInt (-1))) &&& Int32.ofInt 4) = (Int32.ofNat k &&& Int32.ofInt 4) ∧ (fb (Int32.ofNat k &&& (Int32.ofInt 16 ^^^ Int32.ofInt (-1))) &&& Int32.ofInt 1) = (Int32.ofNat k &&& Int32.ofInt 1) ∧ (fb (Int32.ofNat k &&& (Int32.ofInt 16 ^^^ Int32.ofInt (-1))) &&& Int32.ofInt 16) = 0 := by decide
/-- a fact of all flag values, at a flag value -/
theorem fl {p : Int32 → Prop} (h : ∀ k, k < 32 → p (Int32.ofNat k)) {x : Int32} (h0 : 0 ≤ x.toInt) (h1 : x.toInt < 32) : p x := by
  rw [i32_of h0]; exact h _ (by omega)
/-! ## g-0238x2-1: the operations keep what stays true -/
theorem x2set {I : Nat → Int32} {A B : Nat → Nat → Int32} {cn : Nat} (h : x2V I A cn) (hp : ¬ I 6 = Int32.ofInt 3) (h4 : B 4 = A 4) (h5 : B 5 = A 5) (h6 : fR B) (ha : ∀ w, w < cn → ¬ (B 6 w &&& Int32.ofInt 4) = 0 → A 5 w = 1 ∧ A 5 (32 + w) = 1) : x2V I B cn := by
  obtain ⟨a, b, c, d, e, f, g, p⟩ := h
  unfold x2V
  rw [h4, h5]
  exact ⟨a, b, h6, d, e, f, ha, fun z => absurd z hp⟩
theorem x2want (hW : Clo W) {n cn : Nat} {I : Nat → Int32} {A : Nat → Nat → Int32} {id : Int32} {Q : Pst} (h : x2V I A cn) (hq : ∀ v B, x2V I B cn → Q (some (.int v)) (nst n I B)) : W k_want 0 [.val (.ref 1), .val (.int id)] [] (nst n I A) Q := by
  refine want_ok hW (fun p a b c _ _ _ => hq _ _ ?_) (fun _ => hq _ _ h)
  have h32 := (x2V_32 h).1
  have h0 := h
  obtain ⟨-, -, c', -, -, -, g, -⟩ := h
  refine x2set h0 (by rw [p]; decide) (pmSet_r _ _ _ (by decide)) (pmSet_r _ _ _ (by decide)) (fun i hi => ?_) (fun w hw => ?_)
  · by_cases e : i = id.toInt.toNat
    · subst e; rw [pmSet_eq]; exact fl (p := fun x => 0 ≤ (fb (x ||| Int32.ofInt 1)).toInt ∧ (fb (x ||| Int32.ofInt 1)).toInt < 32) (fun k hk => (or1 k hk).1) (c' _ hi).1 (c' _ hi).2
    · rw [pmSet_ne _ _ _ e]; exact c' i hi
  · by_cases e : w = id.toInt.toNat
    · subst e
      rw [pmSet_eq, fl (p := fun x => (fb (x ||| Int32.ofInt 1) &&& Int32.ofInt 4) = (x &&& Int32.ofInt 4)) (fun k hk => (or1 k hk).2) (c' _ (by omega)).1 (c' _ (by omega)).2]
      exact g _ hw
    · rw [pmSet_ne _ _ _ e]; exact g w hw
theorem x2round (hW : Clo W) (hF : Fgt W) {n cn : Nat} {I : Nat → Int32} {A : Nat → Nat → Int32} {Q : Pst} (h : x2V I A cn) (hq : ∀ v I' B, x2V I' B cn → Q (some (.int v)) (nst n I' B)) : W k_round 0 [.val (.ref 1), .unset, .unset] [] (nst n I A) Q := by
  obtain ⟨h32, hc⟩ := x2V_32 h
  obtain ⟨⟨i3, i0, i0', i1, s0, hs, i4⟩, l, c, d, e, f, g, p⟩ := id h
  refine round_ok hW hF (cn := cn) (bc := (I 1).toInt.toNat) (s0 := s0) hc h32 (by omega) i4 hs
    (fun t s B => (∀ r, r ≠ 6 → r ≠ 7 → B r = A r) ∧ fR B ∧ (∀ i, i < 32 → (B 6 i &&& Int32.ofInt 4) = (A 6 i &&& Int32.ofInt 4)) ∧ s0 ≤ s ∧ (∀ k, s0 ≤ k → k < s → ∃ b, b < cn ∧ B 7 k = i32 b ∧ ¬ A 5 b = 0))
    (fun s k a B => (∀ r, r ≠ 6 → r ≠ 7 → r ≠ 8 → B r = A r) ∧ fR B ∧ (∀ w, w < cn → ¬ (B 6 w &&& Int32.ofInt 4) = 0 → A 5 w = 1 ∧ A 5 (32 + w) = 1) ∧ (∀ k, s0 ≤ k → k < s → ∃ b, b < cn ∧ B 7 k = i32 b ∧ ¬ A 5 b = 0))
    (fun _ => hq _ _ _ h) (fun _ => ⟨fun _ _ _ => rfl, c, fun _ _ => rfl, Nat.le_refl _, fun k h1 h2 => by omega⟩) (fun t s B b _ hs32 hJ hb => ?_) (fun t s B _ _ hJ _ => ?_) (fun s k a B k1 k2 _ hJ => ⟨fun b g1 g2 g3 B' g4 => ?_, fun _ => hJ⟩) (fun hp s a B ph hs32 hJ hph => ?_)
  · obtain ⟨j1, j2, j3, j4, j5⟩ := hJ
    have b32 : b < 32 := by have := hb.1; omega
    have r6 : fSend B s b 6 = pmSet B 6 b (fb (B 6 b ||| Int32.ofInt 2)) 6 := by unfold fSend; rw [pmSet_r _ _ _ (by decide)]
    refine ⟨fun r h6 h7 => ?_, fun i hi => ?_, fun i hi => ?_, by omega, fun k k1 k2 => ?_⟩
    · unfold fSend; rw [pmSet_r _ _ _ h7, pmSet_r _ _ _ h6]; exact j1 r h6 h7
    · rw [r6]
      by_cases ei : i = b
      · subst ei; rw [pmSet_eq]; exact fl (p := fun x => 0 ≤ (fb (x ||| Int32.ofInt 2)).toInt ∧ (fb (x ||| Int32.ofInt 2)).toInt < 32) (fun k hk => (or2 k hk).1) (j2 _ hi).1 (j2 _ hi).2
      · rw [pmSet_ne _ _ _ ei]; exact j2 i hi
    · rw [r6]
      by_cases ei : i = b
      · subst ei
        rw [pmSet_eq, fl (p := fun x => (fb (x ||| Int32.ofInt 2) &&& Int32.ofInt 4) = (x &&& Int32.ofInt 4)) (fun k hk => (or2 k hk).2) (j2 _ hi).1 (j2 _ hi).2]
        exact j3 i hi
      · rw [pmSet_ne _ _ _ ei]; exact j3 i hi
    · unfold fSend
      by_cases ek : k = s
      · subst ek
        refine ⟨b, hb.1, pmSet_eq _ _ _ _, ?_⟩
        have := hb.2.1.2.1
        rwa [j1 5 (by decide) (by decide)] at this
      · rw [pmSet_ne _ _ _ ek, pmSet_r _ _ _ (by decide)]
        exact j5 k k1 (by omega)
  · obtain ⟨j1, j2, j3, j4, j5⟩ := hJ
    refine ⟨j4, fun r h6 h7 _ => j1 r h6 h7, j2, fun w hw hn => ?_, j5⟩
    rw [j3 w (by omega)] at hn
    exact g w hw hn
  · obtain ⟨j1, j2, j3, j4⟩ := hJ
    obtain ⟨q1, q2, q3⟩ := g4
    have b32 : b < 32 := by omega
    have held : A 5 b = 1 ∧ A 5 (32 + b) = 1 := by
      obtain ⟨b', hb1, hb2, hb3⟩ := j4 k k1 k2
      have eb : b = b' := by
        have := congrArg Int32.toInt (g1.symm.trans hb2)
        rw [i32_toInt (by omega), i32_toInt (by omega)] at this
        omega
      subst eb
      rw [j1 5 (by decide) (by decide) (by decide)] at g3
      exact ⟨(d b (by omega)).resolve_left hb3, (d (32 + b) (by omega)).resolve_left g3⟩
    have r1 : ∀ i, i < 32 → (0 ≤ (pmSet B 6 b (fb (B 6 b ||| Int32.ofInt 4)) 6 i).toInt ∧ (pmSet B 6 b (fb (B 6 b ||| Int32.ofInt 4)) 6 i).toInt < 32) := by
      intro i hi
      by_cases ei : i = b
      · subst ei; rw [pmSet_eq]; exact fl (p := fun x => 0 ≤ (fb (x ||| Int32.ofInt 4)).toInt ∧ (fb (x ||| Int32.ofInt 4)).toInt < 32) or4 (j2 _ hi).1 (j2 _ hi).2
      · rw [pmSet_ne _ _ _ ei]; exact j2 i hi
    have r4 : ∀ w, w < cn → ¬ (pmSet B 6 b (fb (B 6 b ||| Int32.ofInt 4)) 6 w &&& Int32.ofInt 4) = 0 → A 5 w = 1 ∧ A 5 (32 + w) = 1 := by
      intro w hw hn
      by_cases ei : w = b
      · subst ei; exact held
      · rw [pmSet_ne _ _ _ ei] at hn; exact j3 w hw hn
    refine ⟨fun r h6 h7 h8 => (q1 r h6 h8).trans (j1 r h6 h7 h8), fun i hi => ?_, fun w hw hn => ?_, fun k' k1' k2' => ?_⟩
    · rw [q3 i]
      by_cases w : i < cn ∧ ¬ B' 8 i = 0 ∧ B 2 i = Int32.ofInt 3
      · rw [if_pos w]; exact fl (p := fun x => 0 ≤ (fb (x ||| Int32.ofInt 8)).toInt ∧ (fb (x ||| Int32.ofInt 8)).toInt < 32) (fun k hk => (or8 k hk).1) (r1 i hi).1 (r1 i hi).2
      · rw [if_neg w]; exact r1 i hi
    · rw [q3 w] at hn
      by_cases z : w < cn ∧ ¬ B' 8 w = 0 ∧ B 2 w = Int32.ofInt 3
      · rw [if_pos z, fl (p := fun x => (fb (x ||| Int32.ofInt 8) &&& Int32.ofInt 4) = (x &&& Int32.ofInt 4)) (fun k hk => (or8 k hk).2) (r1 w (by omega)).1 (r1 w (by omega)).2] at hn
        exact r4 w hw hn
      · rw [if_neg z] at hn; exact r4 w hw hn
    · rw [q1 7 (by decide) (by decide)]; exact j4 k' k1' k2'
  · obtain ⟨j1, j2, j3, j4⟩ := hJ
    refine hq _ _ _ ⟨⟨i3, i0, i0', i1, s, hs32, rfl⟩, ?_, j2, ?_, ?_, ?_, ?_, fun z => ?_⟩
    · rw [j1 4 (by decide) (by decide) (by decide)]; exact l
    · rw [j1 5 (by decide) (by decide) (by decide)]; exact d
    · rw [j1 5 (by decide) (by decide) (by decide)]; exact e
    · rw [j1 5 (by decide) (by decide) (by decide), j1 4 (by decide) (by decide) (by decide)]; exact f
    · rw [j1 5 (by decide) (by decide) (by decide)]; exact j3
    · have z' : ph = Int32.ofInt 3 := z
      rcases hph with w | w
      · rw [w.1] at z'; exact absurd z' (by decide)
      · rw [w.1] at z'; exact absurd z' (by decide)
theorem x2pack (hW : Clo W) (hF : Fgt W) {n cn : Nat} {I : Nat → Int32} {A : Nat → Nat → Int32} {Q : Pst} (h : x2V I A cn) (hq : ∀ v I' B, x2V I' B cn → Q (some (.int v)) (nst n I' B)) : W k_pack 0 [.val (.ref 1), .unset, .unset] [] (nst n I A) Q := by
  obtain ⟨h32, hc⟩ := x2V_32 h
  obtain ⟨⟨i3, i0, i0', i1, s0, hs, i4⟩, l, c, d, e, f, g, p⟩ := id h
  refine pack_ok hW hF (cn := cn) hc h32 (fun _ => hq _ _ _ h) (fun _ B v hR hv => hq _ _ _ ?_)
  obtain ⟨r1, r2, r3, r4, r5⟩ := hR
  have e4 : B 4 = A 4 := r1 4 (by decide) (by decide) (by decide) (by decide)
  have mA := isM_Rc h32 r2
  have mW := isM_Rc h32 r3
  have b6 : ∀ i, i < 32 → (0 ≤ (B 6 i).toInt ∧ (B 6 i).toInt < 32) ∧ (B 6 i &&& Int32.ofInt 4) = (A 6 i &&& Int32.ofInt 4) ∧ (B 6 i &&& Int32.ofInt 1) = (A 6 i &&& Int32.ofInt 1) := by
    intro i hi
    rw [r4 i]
    by_cases w : i < cn
    · rw [if_pos w]
      by_cases z : ¬ B 8 i = 0 ∧ B 10 i = 0
      · rw [if_pos z]
        have := fl (p := fun x => (0 ≤ (fb (x ||| Int32.ofInt 16)).toInt ∧ (fb (x ||| Int32.ofInt 16)).toInt < 32) ∧ (fb (x ||| Int32.ofInt 16) &&& Int32.ofInt 4) = (x &&& Int32.ofInt 4) ∧ (fb (x ||| Int32.ofInt 16) &&& Int32.ofInt 1) = (x &&& Int32.ofInt 1) ∧ ¬ (fb (x ||| Int32.ofInt 16) &&& Int32.ofInt 16) = 0) or16 (c i hi).1 (c i hi).2
        exact ⟨this.1, this.2.1, this.2.2.1⟩
      · rw [if_neg z]
        have := fl (p := fun x => (0 ≤ (fb (x &&& (Int32.ofInt 16 ^^^ Int32.ofInt (-1)))).toInt ∧ (fb (x &&& (Int32.ofInt 16 ^^^ Int32.ofInt (-1)))).toInt < 32) ∧ (fb (x &&& (Int32.ofInt 16 ^^^ Int32.ofInt (-1))) &&& Int32.ofInt 4) = (x &&& Int32.ofInt 4) ∧ (fb (x &&& (Int32.ofInt 16 ^^^ Int32.ofInt (-1))) &&& Int32.ofInt 1) = (x &&& Int32.ofInt 1) ∧ (fb (x &&& (Int32.ofInt 16 ^^^ Int32.ofInt (-1))) &&& Int32.ofInt 16) = 0) an16 (c i hi).1 (c i hi).2
        exact ⟨this.1, this.2.1, this.2.2.1⟩
    · rw [if_neg w]; exact ⟨c i hi, rfl, rfl⟩
  have b16 : ∀ i, i < cn → (¬ (B 6 i &&& Int32.ofInt 16) = 0 ↔ (¬ B 8 i = 0 ∧ B 10 i = 0)) := by
    intro i hi
    rw [r4 i, if_pos hi]
    by_cases z : ¬ B 8 i = 0 ∧ B 10 i = 0
    · rw [if_pos z]
      have := fl (p := fun x => (0 ≤ (fb (x ||| Int32.ofInt 16)).toInt ∧ (fb (x ||| Int32.ofInt 16)).toInt < 32) ∧ (fb (x ||| Int32.ofInt 16) &&& Int32.ofInt 4) = (x &&& Int32.ofInt 4) ∧ (fb (x ||| Int32.ofInt 16) &&& Int32.ofInt 1) = (x &&& Int32.ofInt 1) ∧ ¬ (fb (x ||| Int32.ofInt 16) &&& Int32.ofInt 16) = 0) or16 (c i (by omega)).1 (c i (by omega)).2
      exact ⟨fun _ => z, fun _ => this.2.2.2⟩
    · rw [if_neg z]
      have := fl (p := fun x => (0 ≤ (fb (x &&& (Int32.ofInt 16 ^^^ Int32.ofInt (-1)))).toInt ∧ (fb (x &&& (Int32.ofInt 16 ^^^ Int32.ofInt (-1)))).toInt < 32) ∧ (fb (x &&& (Int32.ofInt 16 ^^^ Int32.ofInt (-1))) &&& Int32.ofInt 4) = (x &&& Int32.ofInt 4) ∧ (fb (x &&& (Int32.ofInt 16 ^^^ Int32.ofInt (-1))) &&& Int32.ofInt 1) = (x &&& Int32.ofInt 1) ∧ (fb (x &&& (Int32.ofInt 16 ^^^ Int32.ofInt (-1))) &&& Int32.ofInt 16) = 0) an16 (c i (by omega)).1 (c i (by omega)).2
      exact ⟨fun w => absurd this.2.2.2 w, fun w => absurd w z⟩
  -- what the acked reach, the client holds
  have heldA : ∀ i, i < 32 → ¬ B 10 i = 0 → ¬ A 5 i = 0 := by
    intro i hi hb
    refine (((mA i hi).1 hb) (fun i => i < 32 ∧ ¬ A 5 i = 0) (fun i hs => ⟨by have := hs.1; omega, ?_⟩) (fun i k hp hk q1 q2 => ⟨by have := hp.1; omega, f i (Nat.zero_le _) (by have := hp.1; omega) hp.2 k hk q1 q2⟩)).2
    rw [(g i hs.1 hs.2).1]; decide
  have upn : ∀ j, ¬ A 5 j = 0 → ¬ B 5 j = 0 := fun j hj => by
    rw [r5 j]
    by_cases w : j < cn ∧ ¬ B 8 j = 0 ∧ B 10 j = 0
    · rw [if_pos w]; decide
    · rw [if_neg w]; exact hj
  have b5 : ∀ j, j < 64 → B 5 j = 0 ∨ B 5 j = 1 := fun j hj => by
    rw [r5 j]
    by_cases w : j < cn ∧ ¬ B 8 j = 0 ∧ B 10 j = 0
    · rw [if_pos w]; exact Or.inr rfl
    · rw [if_neg w]; exact d j hj
  have one : ∀ j, j < 64 → ¬ B 5 j = 0 → B 5 j = 1 := fun j hj w => (b5 j hj).resolve_left w
  have ltcn : ∀ i, i < 32 → ¬ B 8 i = 0 → i < cn := fun i hi hb => Rc_lt (fun i hs => hs.1) ((mW i hi).1 hb)
  have marked : ∀ i, i < 32 → ¬ B 8 i = 0 → ¬ B 5 i = 0 := by
    intro i hi hb
    by_cases w : B 10 i = 0
    · rw [r5 i, if_pos ⟨ltcn i hi hb, hb, w⟩]; decide
    · exact upn i (heldA i hi w)
  have v1 : v = 1 := by
    rcases hv with w | ⟨_, i, q1, q2, q3⟩
    · exact w.1
    · exact absurd q3 (marked i (by omega) q2)
  subst v1
  have gg : ∀ w, w < cn → ¬ (B 6 w &&& Int32.ofInt 4) = 0 → B 5 w = 1 ∧ B 5 (32 + w) = 1 := by
    intro w hw hn
    rw [(b6 w (by omega)).2.1] at hn
    obtain ⟨g1, g2⟩ := g w hw hn
    exact ⟨one w (by omega) (upn w (by rw [g1]; decide)), one _ (by omega) (upn _ (by rw [g2]; decide))⟩
  have cW : ∀ i, Rc (A 4) (fun i => i < cn ∧ ¬ (B 6 i &&& Int32.ofInt 1) = 0) i ↔ Rc (A 4) (fun i => i < cn ∧ ¬ (A 6 i &&& Int32.ofInt 1) = 0) i := fun i => Rc_iff (fun i => ⟨fun z => ⟨z.1, by have := z.2; rwa [(b6 i (by have := z.1; omega)).2.2] at this⟩, fun z => ⟨z.1, by rw [(b6 i (by have := z.1; omega)).2.2]; exact z.2⟩⟩) i
  have cA : ∀ i, Rc (A 4) (fun i => i < cn ∧ ¬ (B 6 i &&& Int32.ofInt 4) = 0) i ↔ Rc (A 4) (fun i => i < cn ∧ ¬ (A 6 i &&& Int32.ofInt 4) = 0) i := fun i => Rc_iff (fun i => ⟨fun z => ⟨z.1, by have := z.2; rwa [(b6 i (by have := z.1; omega)).2.1] at this⟩, fun z => ⟨z.1, by rw [(b6 i (by have := z.1; omega)).2.1]; exact z.2⟩⟩) i
  refine ⟨⟨i3, i0, i0', i1, s0, hs, i4⟩, by rw [e4]; exact l, fun i hi => (b6 i hi).1, b5, fun i h1 h2 => ?_, ?_, gg, fun _ => ⟨gg, fun x hx => ?_, fun x hx hr => ?_, rfl⟩⟩
  · rw [r5 i, if_neg (by omega)]; exact e i h1 h2
  · rw [e4]
    intro i h1 h2 h3 k hk q1 q2
    have h3' : ¬ B 5 i = 0 := h3
    show ¬ B 5 (A 4 (3 * i + k)).toInt.toNat = 0
    by_cases w : i < cn ∧ ¬ B 8 i = 0 ∧ B 10 i = 0
    · exact marked _ (by omega) (r3.2.1 i h1 h2 w.2.1 k hk q1 q2)
    · rw [r5 i, if_neg w] at h3'
      exact upn _ (f i h1 h2 h3' k hk q1 q2)
  · rw [b16 x hx, e4, cW, cA, ← mW x (by omega), ← mA x (by omega)]
    exact ⟨fun z => ⟨z.1, fun w => w z.2⟩, fun z => ⟨z.1, Classical.byContradiction fun w => z.2 w⟩⟩
  · rw [e4, cW, ← mW x (by omega)] at hr
    exact one x (by omega) (marked x (by omega) hr)
theorem x2new (hW : Clo W) {n cn : Nat} {I : Nat → Int32} {A : Nat → Nat → Int32} {Q : Pst} (h : x2V I A cn) (hq : ∀ I' B, x2V I' B cn → Q none (nst n I' B)) : W k_newFetch 0 [.val (.ref 1), .unset] [] (nst n I A) Q := by
  obtain ⟨h32, hc⟩ := x2V_32 h
  obtain ⟨⟨i3, i0, i0', i1, s0, hs, i4⟩, l, c, d, e, f, g, p⟩ := id h
  refine newFetch_ok hW (fun B b1 b2 => hq _ _ ?_)
  refine ⟨⟨i3, i0, i0', i1, 0, by decide, rfl⟩, ?_, fun i hi => ?_, ?_, ?_, ?_, fun w hw hn => ?_, fun z => ?_⟩
  · rw [b1 4 (by decide) (by decide)]; exact l
  · rw [b2 i hi]; decide
  · rw [b1 5 (by decide) (by decide)]; exact d
  · rw [b1 5 (by decide) (by decide)]; exact e
  · rw [b1 5 (by decide) (by decide), b1 4 (by decide) (by decide)]; exact f
  · rw [b2 w (by omega)] at hn; exact absurd (by decide) hn
  · exact absurd (show (0 : Int32) = Int32.ofInt 3 from z) (by decide)
/-! ## g-0238x2-1: the law's own helpers and its walk -/
theorem rem_r {x y : Int32} (hx : 0 ≤ x.toInt) (hy : 0 < y.toInt) : 0 ≤ (x % y).toInt ∧ (x % y).toInt < y.toInt := by
  rw [Int32.toInt_mod]
  exact ⟨Int.tmod_nonneg _ hx, Int.tmod_lt_of_pos _ hy⟩
theorem nat_r (v : Int32) : 0 ≤ (v &&& 2147483647).toInt := by
  show 0 ≤ (v.toBitVec &&& 2147483647#32).toInt
  rw [BitVec.toInt_eq_msb_cond, BitVec.msb_and, show (2147483647#32).msb = false from rfl, Bool.and_false]
  simp
theorem cell_ok (hW : Clo W) {σ : Mem} {k : Int32} {Q : Pst} (hk : 0 ≤ k.toInt) (hn : σ.2.1 ≤ 260) (hq : ∀ v, Q (some (.int v)) σ) : W k_cell 0 [.val (.ref 0), .val (.int k)] [] σ Q := by
  obtain ⟨a, n, F, A⟩ := σ
  have ni : (Int32.ofNat n).toInt = (n : Int) := i32_toInt (by have : n ≤ 260 := hn; omega)
  refine hW [] 20 _ _ _ _ _ _ ?_
  refine ⟨fun q => ⟨⟨hk, ?_⟩, hq _⟩, fun q => hq _⟩
  have q' : k.toInt < (Int32.ofNat n).toInt := q
  show k.toInt < (n : Int)
  omega
theorem nat_ok (hW : Clo W) {σ : Mem} {k : Int32} {Q : Pst} (hq : ∀ v : Int32, 0 ≤ v.toInt → Q (some (.int v)) σ) : W k_nat 0 [.val (.int k)] [] σ Q := by
  refine hW [] 20 _ _ _ _ _ _ ?_
  exact hq _ (nat_r k)
theorem pickKind_ok (hW : Clo W) {n : Nat} {I : Nat → Int32} {A : Nat → Nat → Int32} {s kd : Int32} {Q : Pst} (hs : -1 ≤ s.toInt) (hq : ∀ v, Q (some (.int v)) (nst n I A)) : W k_pickKind 0 [.val (.ref 1), .val (.int s), .val (.int kd), .unset] [] (nst n I A) Q := by
  have loop : ∀ (j : Nat) (y : Int32), y.toInt = (j : Int) - 1 → W k_pickKind 2 [.val (.ref 1), .val (.int s), .val (.int kd), .val (.int y)] [] (nst n I A) Q := by
    intro j
    induction j with
    | zero =>
      intro y hy
      refine hW [] 20 _ _ _ _ _ _ ?_
      refine ⟨fun _ => hq _, fun q => ?_⟩
      have q' : ¬ y.toInt < 0 := q
      omega
    | succ j ih =>
      intro y hy
      have hb := Int32.toInt_lt y
      have back : W k_pickKind 17 [.val (.ref 1), .val (.int s), .val (.int kd), .val (.int y)] [] (nst n I A) Q := by
        refine hW [2] 10 _ _ _ _ _ _ ?_
        refine ih (y + Int32.ofInt (-1)) ?_
        rw [tI_add (by rw [oIm1]; omega) (by rw [oIm1]; omega), oIm1]; omega
      refine hW [17] 20 _ _ _ _ _ _ ?_
      refine ⟨fun _ => hq _, fun q => ?_⟩
      refine kindOf_ok hW (fun _ _ _ => ?_) (fun _ => ?_)
      · exact ⟨fun _ => hq _, fun _ => back⟩
      · exact ⟨fun _ => hq _, fun _ => back⟩
  refine hW [2] 10 _ _ _ _ _ _ ?_
  exact loop (s.toInt + 1).toNat s (by omega)
theorem pickWantable_ok (hW : Clo W) {n : Nat} {I : Nat → Int32} {A : Nat → Nat → Int32} {s : Int32} {Q : Pst} (hs : -1 ≤ s.toInt) (hq : ∀ v, Q (some (.int v)) (nst n I A)) : W k_pickWantable 0 [.val (.ref 1), .val (.int s), .unset] [] (nst n I A) Q := by
  have loop : ∀ (j : Nat) (y : Int32), y.toInt = (j : Int) - 1 → W k_pickWantable 2 [.val (.ref 1), .val (.int s), .val (.int y)] [] (nst n I A) Q := by
    intro j
    induction j with
    | zero =>
      intro y hy
      refine hW [] 20 _ _ _ _ _ _ ?_
      refine ⟨fun _ => hq _, fun q => ?_⟩
      have q' : ¬ y.toInt < 0 := q
      omega
    | succ j ih =>
      intro y hy
      have hb := Int32.toInt_lt y
      have back : W k_pickWantable 26 [.val (.ref 1), .val (.int s), .val (.int y)] [] (nst n I A) Q := by
        refine hW [2] 10 _ _ _ _ _ _ ?_
        refine ih (y + Int32.ofInt (-1)) ?_
        rw [tI_add (by rw [oIm1]; omega) (by rw [oIm1]; omega), oIm1]; omega
      have more : W k_pickWantable 15 [.val (.ref 1), .val (.int s), .val (.int y)] [] (nst n I A) Q := by
        refine hW [26] 20 _ _ _ _ _ _ ?_
        refine has_ok hW (fun _ _ _ _ => ?_) (fun _ => ?_)
        · exact ⟨fun _ => back, fun _ => hq _⟩
        · exact ⟨fun _ => back, fun _ => hq _⟩
      refine hW [15, 26] 20 _ _ _ _ _ _ ?_
      refine ⟨fun _ => hq _, fun q => ?_⟩
      refine kindOf_ok hW (fun _ _ _ => ?_) (fun _ => ?_)
      · exact ⟨fun _ => more, fun _ => back⟩
      · exact ⟨fun _ => more, fun _ => back⟩
  refine hW [2] 10 _ _ _ _ _ _ ?_
  exact loop (s.toInt + 1).toNat s (by omega)
/-- the adds, as the law sees them -/
theorem x2blob (hW : Clo W) {n cn : Nat} {I : Nat → Int32} {A : Nat → Nat → Int32} {Q : Pst} (h : x2V I A cn) (h1 : ∀ I' B, cn < 32 → x2V I' B (cn + 1) → Q (some (.int (i32 cn))) (nst n I' B)) (h0 : Q (some (.int (-1))) (nst n I A)) : W k_addBlob 0 [.val (.ref 1)] [] (nst n I A) Q := by
  obtain ⟨h32, hc⟩ := x2V_32 h
  have ct : (I 3).toInt.toNat = cn := by omega
  refine addBlob_ok hW (by omega) h.1.2.2.1 (fun q => ?_) (fun _ => h0)
  have := x2def (k := Int32.ofInt 1) (t := Int32.ofInt 0) (l0 := Int32.ofInt (-1)) (l1 := Int32.ofInt (-1)) (l2 := Int32.ofInt (-1)) h q (by rw [oIm1]; omega) (by rw [oIm1]; omega) (by rw [oIm1]; omega)
  rw [ct]
  have hq := h1 _ _ (by have := h.1.2.2.1; omega) this
  rw [← h.1.1] at hq
  exact hq
theorem nrm_lt {I : Nat → Int32} {e : Int32} {cn : Nat} (hc : (I 3).toInt = (cn : Int)) (h : e.toInt < 0 ∨ e.toInt < (I 3).toInt) : (nrm e).toInt < (cn : Int) := by
  unfold nrm
  by_cases w : e.toInt < 0
  · rw [if_pos w, oIm1]; omega
  · rw [if_neg w]; omega
theorem x2tree (hW : Clo W) {n cn : Nat} {I : Nat → Int32} {A : Nat → Nat → Int32} {e0 e1 e2 : Int32} {Q : Pst} (h : x2V I A cn) (h1 : ∀ I' B, cn < 32 → x2V I' B (cn + 1) → Q (some (.int (i32 cn))) (nst n I' B)) (h0 : Q (some (.int (-1))) (nst n I A)) :
    W k_addTree 0 [.val (.ref 1), .val (.int e0), .val (.int e1), .val (.int e2), .unset, .unset, .unset] [] (nst n I A) Q := by
  obtain ⟨h32, hc⟩ := x2V_32 h
  have ct : (I 3).toInt.toNat = cn := by omega
  have v : ∀ e, vE I A e → e.toInt < 0 ∨ e.toInt < (I 3).toInt := fun e w => w.elim Or.inl (fun w => Or.inr w.2.1)
  refine addTree_ok hW (by omega) h.1.2.2.1 (fun q a b c => ?_) (fun _ => h0)
  have := x2def (k := Int32.ofInt 2) (t := Int32.ofInt 0) h q (nrm_lt hc (v _ a)) (nrm_lt hc (v _ b)) (nrm_lt hc (v _ c))
  rw [ct]
  have hq := h1 _ _ (by have := h.1.2.2.1; omega) this
  rw [← h.1.1] at hq
  exact hq
theorem x2commit (hW : Clo W) {n cn : Nat} {I : Nat → Int32} {A : Nat → Nat → Int32} {t e0 e1 e2 : Int32} {Q : Pst} (h : x2V I A cn) (h1 : ∀ I' B, cn < 32 → x2V I' B (cn + 1) → Q (some (.int (i32 cn))) (nst n I' B)) (h0 : Q (some (.int (-1))) (nst n I A)) :
    W k_addCommit 0 [.val (.ref 1), .val (.int t), .val (.int e0), .val (.int e1), .val (.int e2), .unset, .unset] [] (nst n I A) Q := by
  obtain ⟨h32, hc⟩ := x2V_32 h
  have ct : (I 3).toInt.toNat = cn := by omega
  have v : ∀ e, vP I A e → e.toInt < 0 ∨ e.toInt < (I 3).toInt := fun e w => w.elim Or.inl (fun w => Or.inr w.2.1)
  refine addCommit_ok hW (by omega) h.1.2.2.1 (fun q a b _ _ c d => ?_) (fun _ => h0)
  have := x2def (k := Int32.ofInt 3) (t := t) (l0 := e0) h q (by omega) (nrm_lt hc (v _ c)) (nrm_lt hc (v _ d))
  rw [ct]
  have hq := h1 _ _ (by have := h.1.2.2.1; omega) this
  rw [← h.1.1] at hq
  exact hq
theorem x2giveW (hW : Clo W) (hF : Fgt W) {n cn : Nat} {I : Nat → Int32} {A : Nat → Nat → Int32} {s id : Int32} {Q : Pst} (h : x2V I A cn) (hq : ∀ v B, x2V I B cn → Q (some (.int v)) (nst n I B)) :
    W k_give 0 [.val (.ref 1), .val (.int s), .val (.int id), .unset, .unset, .unset] [] (nst n I A) Q := by
  obtain ⟨h32, hc⟩ := x2V_32 h
  have ct : (I 3).toInt.toNat = cn := by omega
  refine give_ok hW hF (by omega) (by omega) (fun _ => hq _ _ h) (fun p hs a b c B b1 b2 b3 => hq _ _ ?_)
  rw [ct] at b3
  have st : s.toInt.toNat = 0 ∨ s.toInt.toNat = 1 := by
    rcases hs with rfl | rfl
    · exact Or.inl rfl
    · exact Or.inr rfl
  exact x2give h p st (by omega) b1 b2 b3
def x2L (cn : Nat) (cap i : Int32) (s5 s6 s7 s8 s9 s10 s11 s12 s13 s14 s15 s16 : Slot) : List Slot := [.val (.ref 0), .val (.int cap), .val (.ref 1), .val (.int (i32 cn)), .val (.int i), s5, s6, s7, s8, s9, s10, s11, s12, s13, s14, s15, s16]
set_option maxHeartbeats 8000000 in
theorem x2loop (hW : Clo W) (hF : Fgt W) {n : Nat} (hn : n ≤ 260) {cap : Int32} : ∀ (t i cn : Nat) (I : Nat → Int32) (A : Nat → Nat → Int32), n ≤ i + t → i ≤ 265 → x2V I A cn →
    W 0 55 (x2L cn cap (i32 i) .unset .unset .unset .unset .unset .unset .unset .unset .unset .unset .unset .unset) [] (nst n I A) (fun v _ => v = some (.int 1)) := by
  intro t
  have ni : (Int32.ofNat n).toInt = (n : Int) := i32_toInt (by omega)
  induction t with
  | zero =>
    intro i cn I A hi hi2 hV
    have ii : (i32 i).toInt = (i : Int) := i32_toInt (by omega)
    refine hW [] 20 _ _ _ _ _ _ ?_
    refine ⟨fun q => ?_, fun _ => rfl⟩
    have q' : (i32 i).toInt < (Int32.ofNat n).toInt := q
    omega
  | succ t ih =>
    intro i cn I A hi hi2 hV
    obtain ⟨h32, hc⟩ := x2V_32 hV
    have ii : (i32 i).toInt = (i : Int) := i32_toInt (by omega)
    have cni : (i32 cn).toInt = (cn : Int) := i32_toInt (by omega)
    by_cases hin : n ≤ i
    · refine hW [] 20 _ _ _ _ _ _ ?_
      refine ⟨fun q => ?_, fun _ => rfl⟩
      have q' : (i32 i).toInt < (Int32.ofNat n).toInt := q
      omega
    -- the end of a turn
    have tail : ∀ (cn' : Nat) (I' : Nat → Int32) (B : Nat → Nat → Int32) (r : Int32), x2V I' B cn' → W 0 490 (x2L cn' cap (i32 i) .unset .unset .unset .unset .unset (.val (.int r)) .unset .unset .unset .unset .unset .unset) [] (nst n I' B) (fun v _ => v = some (.int 1)) := by
      intro cn' I' B r hV'
      obtain ⟨h32', hc'⟩ := x2V_32 hV'
      have back : W 0 508 (x2L cn' cap (i32 i) .unset .unset .unset .unset .unset (.val (.int r)) .unset .unset .unset .unset .unset .unset) [] (nst n I' B) (fun v _ => v = some (.int 1)) := by
        refine hF _ _ _ (x2L cn' cap (i32 i) .unset .unset .unset .unset .unset .unset .unset .unset .unset .unset .unset .unset) _ _ _ ⟨Or.inr rfl, Or.inr rfl, Or.inr rfl, Or.inr rfl, Or.inr rfl, Or.inr rfl, Or.inr rfl, Or.inr rfl, Or.inr rfl, Or.inr rfl, Or.inl rfl, Or.inr rfl, Or.inr rfl, Or.inr rfl, Or.inr rfl, Or.inr rfl, Or.inr rfl, trivial⟩ ?_
        refine hW [55] 10 _ _ _ _ _ _ ?_
        have e : i32 i + Int32.ofInt 5 = i32 (i + 5) := by
          apply Int32.toInt_inj.mp
          have o5 : (Int32.ofInt 5).toInt = 5 := by decide
          have i5 : (i32 (i + 5)).toInt = ((i + 5 : Nat) : Int) := i32_toInt (by omega)
          rw [tI_add (by rw [o5]; omega) (by rw [o5]; omega), o5, i5]; omega
        have := ih (i + 5) cn' I' B (by omega) (by omega) hV'
        rw [← e] at this
        exact this
      refine hW [508] 30 _ _ _ _ _ _ ?_
      refine phase_ok hW ?_
      refine ⟨fun q => ?_, fun _ => back⟩
      refine checkJ_ok hW hF (cn := cn') hc' h32' hV'.2.1 hV'.2.2.1 (hV'.2.2.2.2.2.2.2 q) ?_
      exact ⟨fun z => absurd z n10, fun _ => back⟩
    have join : ∀ (cn' : Nat) (I' : Nat → Int32) (B : Nat → Nat → Int32) (r : Int32) (s5 s6 s7 s8 s9 s11 s12 s13 s14 s15 s16 : Slot), x2V I' B cn' → ((r = -1 ∧ cn' = cn) ∨ (r = i32 cn ∧ cn' = cn + 1 ∧ cn < 32)) →
        W 0 476 (x2L cn cap (i32 i) s5 s6 s7 s8 s9 (.val (.int r)) s11 s12 s13 s14 s15 s16) [] (nst n I' B) (fun v _ => v = some (.int 1)) := by
      intro cn' I' B r s5 s6 s7 s8 s9 s11 s12 s13 s14 s15 s16 hV' hr
      refine hF _ _ _ (x2L cn cap (i32 i) .unset .unset .unset .unset .unset (.val (.int r)) .unset .unset .unset .unset .unset .unset) _ _ _ ⟨Or.inr rfl, Or.inr rfl, Or.inr rfl, Or.inr rfl, Or.inr rfl, Or.inl rfl, Or.inl rfl, Or.inl rfl, Or.inl rfl, Or.inl rfl, Or.inr rfl, Or.inl rfl, Or.inl rfl, Or.inl rfl, Or.inl rfl, Or.inl rfl, Or.inl rfl, trivial⟩ ?_
      refine hW [490] 20 _ _ _ _ _ _ ?_
      rcases hr with ⟨rfl, rfl⟩ | ⟨rfl, rfl, hlt⟩
      · exact ⟨fun _ => tail _ _ _ _ hV', fun q => absurd (by decide) q⟩
      · refine ⟨fun q => ?_, fun _ => ⟨fun q => ?_, fun q => ?_⟩⟩
        · have q' : (i32 cn).toInt < 0 := q
          omega
        · show W 0 490 [.val (.ref 0), .val (.int cap), .val (.ref 1), .val (.int (i32 cn + Int32.ofInt 1)), .val (.int (i32 i)), .unset, .unset, .unset, .unset, .unset, .val (.int (i32 cn)), .unset, .unset, .unset, .unset, .unset, .unset] [] (nst n I' B) (fun v _ => v = some (.int 1))
          rw [i32_succ]
          exact tail _ _ _ _ hV'
        · have q' : ¬ (i32 cn).toInt < (Int32.ofInt 32).toInt := q
          rw [oI32] at q'; omega
    -- the body
    have n1 : (i32 cn + Int32.ofInt 1).toInt = (cn : Int) + 1 := by rw [tI_add (by rw [oI1]; omega) (by rw [oI1]; omega), oI1]; omega
    have nz : ¬ i32 cn + Int32.ofInt 1 = 0 := fun z => by rw [z, tI0] at n1; omega
    have srange : ∀ x : Int32, 0 ≤ x.toInt → -1 ≤ (x % (i32 cn + Int32.ofInt 1) - Int32.ofInt 1).toInt := by
      intro x hx
      have := rem_r (y := i32 cn + Int32.ofInt 1) hx (by omega)
      rw [tI_sub (by rw [oI1]; omega) (by rw [oI1]; omega), oI1]; omega
    have body : ∀ (op a b c d : Int32), 0 ≤ a.toInt → 0 ≤ b.toInt → 0 ≤ c.toInt → 0 ≤ d.toInt →
        W 0 131 (x2L cn cap (i32 i) (.val (.int op)) (.val (.int a)) (.val (.int b)) (.val (.int c)) (.val (.int d)) (.val (.int (Int32.ofInt (-1)))) .unset .unset .unset .unset .unset .unset) [] (nst n I A) (fun v _ => v = some (.int 1)) := by
      intro op a b c d ha hb hcc hd
      -- a tree
      have t3 : ∀ s11 s12 s13 e0 e1 e2 : Int32, W 0 269 (x2L cn cap (i32 i) (.val (.int op)) (.val (.int a)) (.val (.int b)) (.val (.int c)) (.val (.int d)) (.val (.int (Int32.ofInt (-1)))) (.val (.int s11)) (.val (.int s12)) (.val (.int s13)) (.val (.int e0)) (.val (.int e1)) (.val (.int e2))) [] (nst n I A) (fun v _ => v = some (.int 1)) := by
        intro s11 s12 s13 e0 e1 e2
        refine hW [476] 30 _ _ _ _ _ _ ?_
        refine x2tree hW hV (fun I' B hlt hV' => ?_) ?_
        · exact join _ I' B (i32 cn) _ _ _ _ _ _ _ _ _ _ _ hV' (Or.inr ⟨rfl, rfl, hlt⟩)
        · exact join _ I A (-1) _ _ _ _ _ _ _ _ _ _ _ hV (Or.inl ⟨rfl, rfl⟩)
      have t2 : ∀ s11 s12 s13 e0 e1 : Int32, -1 ≤ s13.toInt → W 0 240 (x2L cn cap (i32 i) (.val (.int op)) (.val (.int a)) (.val (.int b)) (.val (.int c)) (.val (.int d)) (.val (.int (Int32.ofInt (-1)))) (.val (.int s11)) (.val (.int s12)) (.val (.int s13)) (.val (.int e0)) (.val (.int e1)) .unset) [] (nst n I A) (fun v _ => v = some (.int 1)) := by
        intro s11 s12 s13 e0 e1 h13
        refine hW [269] 30 _ _ _ _ _ _ ?_
        refine ⟨fun _ => t3 _ _ _ _ _ _, fun _ => ⟨fun _ => ?_, fun _ => ?_⟩⟩
        · exact pickKind_ok hW h13 (fun v => t3 _ _ _ _ _ _)
        · exact pickKind_ok hW h13 (fun v => t3 _ _ _ _ _ _)
      have t1 : ∀ s11 s12 s13 e0 : Int32, -1 ≤ s12.toInt → -1 ≤ s13.toInt → W 0 211 (x2L cn cap (i32 i) (.val (.int op)) (.val (.int a)) (.val (.int b)) (.val (.int c)) (.val (.int d)) (.val (.int (Int32.ofInt (-1)))) (.val (.int s11)) (.val (.int s12)) (.val (.int s13)) (.val (.int e0)) .unset .unset) [] (nst n I A) (fun v _ => v = some (.int 1)) := by
        intro s11 s12 s13 e0 h12 h13
        refine hW [240] 30 _ _ _ _ _ _ ?_
        refine ⟨fun _ => t2 _ _ _ _ _ h13, fun _ => ⟨fun _ => ?_, fun _ => ?_⟩⟩
        · exact pickKind_ok hW h12 (fun v => t2 _ _ _ _ _ h13)
        · exact pickKind_ok hW h12 (fun v => t2 _ _ _ _ _ h13)
      have t0 : W 0 152 (x2L cn cap (i32 i) (.val (.int op)) (.val (.int a)) (.val (.int b)) (.val (.int c)) (.val (.int d)) (.val (.int (Int32.ofInt (-1)))) .unset .unset .unset .unset .unset .unset) [] (nst n I A) (fun v _ => v = some (.int 1)) := by
        refine hW [211] 60 _ _ _ _ _ _ ?_
        refine ⟨nz, ⟨nz, ⟨nz, ?_⟩⟩⟩
        refine ⟨fun _ => t1 _ _ _ _ (srange b hb) (srange c hcc), fun _ => ⟨fun _ => ?_, fun _ => ?_⟩⟩
        · exact pickKind_ok hW (srange a ha) (fun v => t1 _ _ _ _ (srange b hb) (srange c hcc))
        · exact pickKind_ok hW (srange a ha) (fun v => t1 _ _ _ _ (srange b hb) (srange c hcc))
      -- a commit
      have c3 : ∀ s11 s12 s13 p1 p2 : Int32, W 0 366 (x2L cn cap (i32 i) (.val (.int op)) (.val (.int a)) (.val (.int b)) (.val (.int c)) (.val (.int d)) (.val (.int (Int32.ofInt (-1)))) (.val (.int s11)) (.val (.int s12)) (.val (.int s13)) (.val (.int p1)) (.val (.int p2)) .unset) [] (nst n I A) (fun v _ => v = some (.int 1)) := by
        intro s11 s12 s13 p1 p2
        refine hW [476] 30 _ _ _ _ _ _ ?_
        refine ⟨by decide, ?_⟩
        refine x2commit hW hV (fun I' B hlt hV' => ?_) ?_
        · exact join _ I' B (i32 cn) _ _ _ _ _ _ _ _ _ _ _ hV' (Or.inr ⟨rfl, rfl, hlt⟩)
        · exact join _ I A (-1) _ _ _ _ _ _ _ _ _ _ _ hV (Or.inl ⟨rfl, rfl⟩)
      have c2 : ∀ s11 s12 s13 p1 : Int32, -1 ≤ s13.toInt → W 0 348 (x2L cn cap (i32 i) (.val (.int op)) (.val (.int a)) (.val (.int b)) (.val (.int c)) (.val (.int d)) (.val (.int (Int32.ofInt (-1)))) (.val (.int s11)) (.val (.int s12)) (.val (.int s13)) (.val (.int p1)) .unset .unset) [] (nst n I A) (fun v _ => v = some (.int 1)) := by
        intro s11 s12 s13 p1 h13
        refine hW [366] 30 _ _ _ _ _ _ ?_
        refine ⟨fun _ => c3 _ _ _ _ _, fun _ => ?_⟩
        exact pickKind_ok hW h13 (fun v => c3 _ _ _ _ _)
      have c1 : ∀ s11 : Int32, W 0 310 (x2L cn cap (i32 i) (.val (.int op)) (.val (.int a)) (.val (.int b)) (.val (.int c)) (.val (.int d)) (.val (.int (Int32.ofInt (-1)))) (.val (.int s11)) .unset .unset .unset .unset .unset) [] (nst n I A) (fun v _ => v = some (.int 1)) := by
        intro s11
        refine hW [348] 60 _ _ _ _ _ _ ?_
        refine ⟨nz, ⟨nz, ?_⟩⟩
        refine ⟨fun _ => c2 _ _ _ _ (srange d hd), fun _ => ?_⟩
        exact pickKind_ok hW (srange c hcc) (fun v => c2 _ _ _ _ (srange d hd))
      have c0 : W 0 291 (x2L cn cap (i32 i) (.val (.int op)) (.val (.int a)) (.val (.int b)) (.val (.int c)) (.val (.int d)) (.val (.int (Int32.ofInt (-1)))) .unset .unset .unset .unset .unset .unset) [] (nst n I A) (fun v _ => v = some (.int 1)) := by
        refine hW [310] 30 _ _ _ _ _ _ ?_
        refine ⟨fun _ => c1 _, fun q => ⟨q, ?_⟩⟩
        have q' : ¬ i32 cn = 0 := q
        have : 0 < (i32 cn).toInt := by
          refine Classical.byContradiction fun z => q' (Int32.toInt_inj.mp (by rw [tI0]; omega))
        have := rem_r (y := i32 cn) hb this
        exact pickKind_ok hW (by omega) (fun v => c1 _)
      have stay : ∀ (I' : Nat → Int32) (B : Nat → Nat → Int32), x2V I' B cn → W 0 476 (x2L cn cap (i32 i) (.val (.int op)) (.val (.int a)) (.val (.int b)) (.val (.int c)) (.val (.int d)) (.val (.int (Int32.ofInt (-1)))) .unset .unset .unset .unset .unset .unset) [] (nst n I' B) (fun v _ => v = some (.int 1)) := fun I' B hV' => join _ I' B (-1) _ _ _ _ _ _ _ _ _ _ _ hV' (Or.inl ⟨rfl, rfl⟩)
      have pos : ∀ {x : Int32}, (0 : Int32).toInt < (i32 cn).toInt → 0 ≤ x.toInt → ¬ i32 cn = 0 ∧ -1 ≤ (x % i32 cn).toInt := by
        intro x q hx
        rw [tI0] at q
        exact ⟨fun z => by rw [z, tI0] at q; omega, by have := rem_r (y := i32 cn) hx q; omega⟩
      refine hW [152, 291, 476] 60 _ _ _ _ _ _ ?_
      refine ⟨fun _ => ⟨fun _ => ⟨fun _ => ⟨fun _ => ⟨fun _ => ?_, fun _ => ⟨fun _ => ⟨fun _ => ?_, fun _ => ?_⟩, fun _ => ?_⟩⟩, fun _ => ?_⟩, fun _ => c0⟩, fun _ => t0⟩, fun _ => ?_⟩
      · -- want
        refine ⟨fun q => ⟨(pos (x := a) q ha).1, ?_⟩, fun _ => stay I A hV⟩
        refine pickWantable_ok hW (pos (x := a) q ha).2 (fun v => ?_)
        exact x2want hW hV (fun v B hV' => stay I B hV')
      · exact x2pack hW hF hV (fun v I' B hV' => stay I' B hV')
      · exact x2new hW hV (fun I' B hV' => stay I' B hV')
      · exact x2round hW hF hV (fun v I' B hV' => stay I' B hV')
      · -- give
        refine ⟨fun q => ⟨(pos (x := b) q hb).1, ?_⟩, fun _ => stay I A hV⟩
        exact x2giveW hW hF hV (fun v B hV' => stay I B hV')
      · refine x2blob hW hV (fun I' B hlt hV' => ?_) ?_
        · exact join _ I' B (i32 cn) _ _ _ _ _ _ _ _ _ _ _ hV' (Or.inr ⟨rfl, rfl, hlt⟩)
        · exact join _ I A (-1) _ _ _ _ _ _ _ _ _ _ _ hV (Or.inl ⟨rfl, rfl⟩)
    have off : ∀ c : Nat, c < 5 → 0 ≤ (i32 i + Int32.ofInt c).toInt := by
      intro c hc5
      have : (Int32.ofInt (c : Int)).toInt = (c : Int) := Int32.toInt_ofInt_of_le (by omega) (by omega)
      rw [tI_add (by omega) (by omega)]; omega
    refine hW [131] 80 _ _ _ _ _ _ ?_
    refine ⟨fun _ => ?_, fun _ => rfl⟩
    refine cell_ok hW (by omega) hn (fun v0 => ?_)
    refine nat_ok hW (fun o _ => ?_)
    refine ⟨by decide, ?_⟩
    refine cell_ok hW (off 1 (by decide)) hn (fun v1 => ?_)
    refine nat_ok hW (fun a ha => ?_)
    refine cell_ok hW (off 2 (by decide)) hn (fun v2 => ?_)
    refine nat_ok hW (fun b hb => ?_)
    refine cell_ok hW (off 3 (by decide)) hn (fun v3 => ?_)
    refine nat_ok hW (fun c hcc => ?_)
    refine cell_ok hW (off 4 (by decide)) hn (fun v4 => ?_)
    refine nat_ok hW (fun d hd => ?_)
    exact body _ a b c d ha hb hcc hd
theorem clF_r {b lo hi : Int32} (h : lo.toInt ≤ hi.toInt) : lo.toInt ≤ (clF b lo hi).toInt ∧ (clF b lo hi).toInt ≤ hi.toInt := by
  unfold clF
  by_cases w : b.toInt < lo.toInt
  · rw [if_pos w]; omega
  · rw [if_neg w]
    by_cases w2 : hi.toInt < b.toInt
    · rw [if_pos w2]; omega
    · rw [if_neg w2]; omega
set_option maxHeartbeats 8000000 in
theorem law_ok (hW : Clo W) (hF : Fgt W) (n : Nat) (hn : n ≤ 260) (sc : Nat → Int32) : W 0 0 (pmEntry (t_ml 0) [.ref 0]) [] (0, n, [], fun r i => if r = 0 then sc i else 0) (fun v _ => v = some (.int 1)) := by
  refine hW [55] 100 _ _ _ _ _ _ ?_
  refine cell_ok hW (by decide) hn (fun v0 => ?_)
  refine nat_ok hW (fun a ha => ?_)
  refine ⟨by decide, ?_⟩
  refine ⟨by decide, ?_⟩
  refine cell_ok hW (by decide) hn (fun v0 => ?_)
  refine nat_ok hW (fun b hb => ?_)
  refine ⟨by decide, ?_⟩
  refine cell_ok hW (by decide) hn (fun v0 => ?_)
  refine nat_ok hW (fun c hc => ?_)
  refine ⟨by decide, ?_⟩
  refine init_ok hW (F := []) ?_
  refine x2loop hW hF hn n 3 0 _ _ (by omega) (by decide) ?_
  have o8 : (Int32.ofInt 8).toInt = 8 := by decide
  refine ⟨⟨rfl, ?_, ?_, ?_, 0, by decide, rfl⟩, fun i hi => absurd hi (Nat.not_lt_zero _), fun i hi => ?_, fun j hj => Or.inl rfl, fun i _ _ => rfl, fun i _ _ h => absurd rfl h, fun w hw => absurd hw (Nat.not_lt_zero _), fun z => absurd (show (0 : Int32) = Int32.ofInt 3 from z) (by decide)⟩
  · have := (clF_r (b := Int32.ofInt 8 + a % Int32.ofInt 25) (lo := Int32.ofInt 8) (hi := Int32.ofInt 32) (by decide)).1
    rw [o8] at this
    show ((0 : Nat) : Int) ≤ (clF (Int32.ofInt 8 + a % Int32.ofInt 25) (Int32.ofInt 8) (Int32.ofInt 32)).toInt
    omega
  · have := (clF_r (b := Int32.ofInt 8 + a % Int32.ofInt 25) (lo := Int32.ofInt 8) (hi := Int32.ofInt 32) (by decide)).2
    rw [oI32] at this
    exact this
  · have := (clF_r (b := Int32.ofInt 1 + b % Int32.ofInt 8) (lo := Int32.ofInt 1) (hi := Int32.ofInt 8) (by decide)).1
    rw [oI1] at this
    show 0 ≤ (clF (Int32.ofInt 1 + b % Int32.ofInt 8) (Int32.ofInt 1) (Int32.ofInt 8)).toInt
    omega
  · show 0 ≤ (0 : Int32).toInt ∧ (0 : Int32).toInt < 32
    decide
theorem pmEnd0 : ∀ a, pmROk 0 0 a → a ≤ t_full → pmBC 0 a ≤ 32 ∧ pmBS 0 a ≤ 1088 := by
  have h : ∀ a : Fin (t_full + 1), pmBC 0 a.1 ≤ 32 ∧ pmBS 0 a.1 ≤ 1088 := by decide +kernel
  exact fun a _ ha => h ⟨a, Nat.lt_succ_of_le ha⟩
theorem own_script {s : State} {w : Value} (hfit : Fit s) (hn : narrow_1.value #[w] s none s [] = some true) : ∃ (a : Addr) (c : Cell), w = .ref a ∧ Arr s s.heap a c .int ∧ c.slots.size ≤ 260 ∧ ∀ i, i < c.slots.size → c.slots[i]? = some (.int (atv c (Int32.ofNat i))) := by
  obtain ⟨hn1, hn2⟩ := and_e hn
  obtain ⟨a, rfl⟩ : ∃ a, w = .ref a := by
    cases w with
    | ref a => exact ⟨a, rfl⟩
    | _ => exfalso; simp [Cond.value, Term.eval] at hn1
  obtain ⟨c, A⟩ := Arr.start (a := a) (ty := .int) (t := Jvm.Term.arg 0) rfl hn1
  have ha := Arr.fin (Vm.Alike.refl _) A
  by_cases hl : c.slots.size < 2 ^ 31
  · have e := len_f (t := Jvm.Term.arg 0) (args := #[.ref a]) (first := s) (o := none) (idx := []) (x := a) rfl ha hl
    have e1 := len_toInt hl
    have h260 : c.slots.size ≤ 260 := by
      have q : decide (c.slots.size.toInt32 ≤ (260 : Int32)) = true := by
        have hl' : c.slots.size < 2147483648 := by omega
        simpa [Cond.value, Term.eval, ha, hl'] using hn2
      have q' := Int32.le_iff_toInt_le.mp (of_decide_eq_true q)
      rw [e1] at q'
      have : (260 : Int32).toInt = 260 := by decide
      omega
    refine ⟨a, c, rfl, A, h260, fun i hi => ?_⟩
    obtain ⟨n, -, S⟩ := Scr.start hfit A hl
    have ti : (Int32.ofNat i).toInt = (i : Int) := Int32.toInt_ofNat_of_lt (by omega)
    have tn : (Int32.ofNat i).toNatClampNeg = i := by simp only [Int32.toNatClampNeg, ti]; rfl
    have := S.2.2.2 (Int32.ofNat i) (by
      rintro (h | h)
      · rw [Int32.lt_iff_toInt_lt, ti] at h
        have : (0 : Int32).toInt = 0 := rfl
        omega
      · omega)
    rwa [tn] at this
  · exfalso; simp [Cond.value, Term.eval, ha, hl] at hn2
set_option maxRecDepth 65536 in
set_option maxHeartbeats 4000000 in
theorem comes_1 {Post : Tables → Env → Array Value → State → Outcome → State → Prop} (hpost : ∀ tb e args s v u, (limb_1_1.after args s (.returned v) u = true ∧ limb_1_2.after args s (.returned v) u = true ∧ True) → FrameEnd s (.returned v) u (Jvm.fieldLocs frame_1_writes args s ++ Jvm.arrayLocs frame_1_arrays args s ++ Jvm.staticLocs frame_1_statics s) 32 1088 → Post tb e args s (.returned v) u) :
    ArmFor flags0 classFile x code maxLocals ret World_1 tables_1 room_1 Calls_1 rest_1 Pre_1 Post := by
  intro l hfl _ _ p e ha hc hk s m args below hf hA hF happ hP
  obtain ⟨hcalls, hrest, hpre⟩ := hP
  obtain ⟨-, -, -, hnamed, -, -, -, hat⟩ := (Spec.applies_iff hf).mp happ
  obtain ⟨hg, hn⟩ := and_e (Cond.before_iff.mp (show (Jvm.Cond.and given_1 narrow_1).before args s = true from hpre))
  obtain ⟨hcnt, g0⟩ := and_e hg
  obtain ⟨w0, rfl⟩ : ∃ w0 : Value, args = #[w0] := by
    have hs : args.size = 1 := by simpa [Cond.value, given_1] using hcnt
    obtain ⟨L⟩ := args
    match L, hs with
    | [w0], _ => exact ⟨w0, rfl⟩
  have hw := fun d (hd : d ∈ tables_1) => atoms_spec (ws := Jvm.Cond.code x code maxLocals ret :: tables_1) hat d (List.mem_cons_of_mem _ hd)
  have hfit : Fit s := fun {y c} hc i hi => by
    obtain ⟨ha, rfl⟩ := Array.getElem?_eq_some_iff.mp hc
    have q := List.all_eq_true.mp ((Array.all_eq_true_iff_forall_mem.mp hF) _ (Array.getElem_mem ha)) i (List.mem_range.mpr hi)
    simpa [Array.getElem?_eq_getElem hi] using q
  obtain ⟨a, c, rfl, A, h260, hsl⟩ := own_script hfit hn
  have hR : pmRel s s.heap.size a (0, c.slots.size, [], fun r i => if r = 0 then atv c (Int32.ofNat i) else 0) s.heap := ⟨rfl, Nat.zero_le _, fun _ => ⟨A.lt, by show c.slots.size < 2147483648; omega, c, A, rfl, fun i hi => hsl i hi⟩, fun h => absurd (show 1 ≤ 0 from h) (by decide), fun r q hq => ⟨fun h => absurd (show r + 2 ≤ 0 from h) (by omega), fun _ _ _ => by simp⟩⟩
  have H : WM l s s.heap.size a 0 0 (pmEntry (t_ml 0) [.ref 0]) [] (0, c.slots.size, [], fun r i => if r = 0 then atv c (Int32.ofNat i) else 0) (fun v _ => v = some (.int 1)) := law_ok (fun cut n k pc Ls S σ Q h => pmClosed hw cut n k pc Ls S σ Q h) (fun k pc Ls Ls' S σ Q h1 h2 => pmForget h1 h2) c.slots.size h260 (fun i => atv c (Int32.ofNat i))
  have M := pmMet (l := l) hw (k := 0) tables_1 H hR pn_L (by intro v hv b e; subst e; simp at hv) rfl rfl rfl 32 1088 pmEnd0
  obtain ⟨n, o, h1, h2, h3, v, L, rfl, ⟨w, σ', rfl, rfl, -, N, -⟩, hq⟩ := M p e ha hc hk s m _ below hf ((Spec.applies_iff_loose hf).mp happ).1 ⟨rfl, State.Warmed39.refl s, rfl⟩ trivial
  refine ⟨n, _, h1, h2, h3, hpost _ _ _ _ _ _ ⟨Cond.after_iff.mpr rfl, Cond.after_iff.mpr (eq_i res_at (Term.int_eval (1)) rfl), trivial⟩ ⟨hq.1, hq.2.1, (hq.2.2.sift fun y hy => Or.inr (N y hy)).mono (by decide) (by decide)⟩⟩
theorem main_1_1 : Claimed_1_1 := comes_1 fun _ _ _ _ _ _ h hF => ⟨h.1, hF⟩
theorem main_1_2 : Claimed_1_2 := comes_1 fun _ _ _ _ _ _ h hF => ⟨h.2.1, hF⟩
end Jvm.Pilot.@@N@@
namespace Jvm.Pilot.@@N@@
open Jvm Jvm.ClassFile Sem Op Lib Jvm.Free Jvm.Stand Jvm.Pilot.@@N@@.Jvm.D
/-! MADE BY PROGRAM (witnessworld.py) out of the Statement's table words and the real class files: 11 classes; the members and pool entries that the words name. The judged class is class 1, her method 7. -/
namespace start1
open Jvm.ClassFile
def u (s : String) : CpInfo := .utf8 (stringToUtf16 s)
/-- a pool by its gaps: so many unusable entries, then the entry; so many at the end -/
def gap : Nat → List CpInfo → List CpInfo
  | 0, r => r
  | n + 1, r => .unusable :: gap n r
def poolList (es : List (Nat × CpInfo)) (last : Nat) : List CpInfo := es.foldr (fun e r => gap e.1 (e.2 :: r)) (gap last [])
def pool (es : List (Nat × CpInfo)) (last : Nat) : Array CpInfo := ⟨poolList es last⟩
def fileOf (pool : Array CpInfo) (this : Nat) (attrs : Array Attribute := #[]) (ms : Array MethodInfo := #[]) (fl : Nat := 33) (sup : Nat := 0) (ifs : Array Nat := #[]) (fds : Array FieldInfo := #[]) : ClassFile where
  minorVersion := 0
  majorVersion := 65
  constantPool := pool
  accessFlags := fl
  thisClass := this
  superClass := sup
  interfaces := ifs
  fields := fds
  methods := ms
  attributes := attrs
def plain (name : String) (sup : Option ClassId) : Class where
  name := name
  kind := .ordinary
  loader := none
  accessFlags := 33
  super := sup
  interfaces := #[]
  cf := none
  fields := #[]
  methods := #[]
  instanceTypes := #[]
  staticTypes := #[]
  resolved := #[]
  callSites := []
  init := .initialized
  statics := none
  mirror := none

def pool0 : Array CpInfo := pool [(5, u "<init>"), (0, u "()V"), (1, .class_ 10), (1, u "java/lang/Object")] 113

def k0c0 : Code := { maxStack := 0, maxLocals := 1, code := object_method_1_code, exceptionTable := #[], attributes := #[] }
def k0m0 : Method := { name := "<init>", desc := "()V", sig := { parameters := [], returnType := none }, accessFlags := 1, code := some k0c0 }
/-- java/lang/Object -/
def k0 : Class := { plain "java/lang/Object" none with
  accessFlags := 33
  interfaces := #[]
  cf := some (fileOf pool0 8 #[] #[{ accessFlags := 1, nameIndex := 5, descriptorIndex := 6, attributes := #[] }] 33 0 #[] #[])
  fields := #[]
  methods := #[k0m0]
  instanceTypes := #[]
  staticTypes := #[]
  resolved := Array.replicate 124 none
  statics := none }

def pool1 : Array CpInfo := pool [(2, .class_ 4), (1, u "java/lang/Object"), (0, u "<init>"), (0, u "()V"), (0, .integer 2147483647), (0, .methodref 9 10), (0, .class_ 11), (0, .nameAndType 12 13), (0, u "FetchNegotiator"), (0, u "kindOf"), (0, u "(I)I"), (0, .methodref 9 15), (0, .nameAndType 16 17), (0, u "has"), (0, u "(II)Z"), (0, .methodref 9 19), (0, .nameAndType 20 21), (0, u "link"), (0, u "(II)I"), (0, .methodref 9 23), (0, .nameAndType 24 13), (0, u "status"), (0, .methodref 26 27), (0, .class_ 28), (0, .nameAndType 29 30), (0, u "FetchNegotiatorOwnLaw"), (0, u "reach"), (0, u "(LFetchNegotiator;II)J"), (0, .methodref 9 32), (0, .nameAndType 33 34), (0, u "connected"), (0, u "()Z"), (0, .methodref 26 36), (0, .nameAndType 37 38), (0, u "cell"), (0, u "([II)I"), (0, .methodref 26 40), (0, .nameAndType 41 13), (0, u "nat"), (0, .methodref 9 43), (0, .nameAndType 5 44), (0, u "(III)V"), (0, .methodref 9 46), (0, .nameAndType 47 48), (0, u "addBlob"), (0, u "()I"), (0, .methodref 26 50), (0, .nameAndType 51 52), (0, u "pickKind"), (0, u "(LFetchNegotiator;II)I"), (0, .methodref 9 54), (0, .nameAndType 55 56), (0, u "addTree"), (0, u "(III)I"), (0, .methodref 9 58), (0, .nameAndType 59 60), (0, u "addCommit"), (0, u "(IIII)I"), (0, .methodref 9 62), (0, .nameAndType 63 21), (0, u "give"), (0, .methodref 26 65), (0, .nameAndType 66 67), (0, u "pickWantable"), (0, u "(LFetchNegotiator;I)I"), (0, .methodref 9 69), (0, .nameAndType 70 71), (0, u "want"), (0, u "(I)Z"), (0, .methodref 9 73), (0, .nameAndType 74 48), (0, u "round"), (0, .methodref 9 76), (0, .nameAndType 77 48), (0, u "pack"), (0, .methodref 9 79), (0, .nameAndType 80 6), (0, u "newFetch"), (0, .methodref 9 82), (0, .nameAndType 83 48), (0, u "phase"), (0, .methodref 26 85), (0, .nameAndType 86 87), (0, u "check"), (0, u "(LFetchNegotiator;I)Z"), (3, u "law"), (0, u "([I)Z")] 4

def k1m0 : Method := { name := "<init>", desc := "()V", sig := { parameters := [], returnType := none }, accessFlags := 1, code := none }
def k1c1 : Code := { maxStack := 2, maxLocals := 2, code := method_2_code, exceptionTable := #[], attributes := #[] }
def k1m1 : Method := { name := "cell", desc := "([II)I", sig := { parameters := [(.array .int), .int], returnType := some .int }, accessFlags := 10, code := some k1c1 }
def k1c2 : Code := { maxStack := 2, maxLocals := 1, code := method_3_code, exceptionTable := #[], attributes := #[] }
def k1m2 : Method := { name := "nat", desc := "(I)I", sig := { parameters := [.int], returnType := some .int }, accessFlags := 10, code := some k1c2 }
def k1c3 : Code := { maxStack := 2, maxLocals := 4, code := method_4_code, exceptionTable := #[], attributes := #[] }
def k1m3 : Method := { name := "pickKind", desc := "(LFetchNegotiator;II)I", sig := { parameters := [(.object "FetchNegotiator"), .int, .int], returnType := some .int }, accessFlags := 10, code := some k1c3 }
def k1c4 : Code := { maxStack := 3, maxLocals := 3, code := method_5_code, exceptionTable := #[], attributes := #[] }
def k1m4 : Method := { name := "pickWantable", desc := "(LFetchNegotiator;I)I", sig := { parameters := [(.object "FetchNegotiator"), .int], returnType := some .int }, accessFlags := 10, code := some k1c4 }
def k1c5 : Code := { maxStack := 4, maxLocals := 12, code := method_6_code, exceptionTable := #[], attributes := #[] }
def k1m5 : Method := { name := "reach", desc := "(LFetchNegotiator;II)J", sig := { parameters := [(.object "FetchNegotiator"), .int, .int], returnType := some .long }, accessFlags := 10, code := some k1c5 }
def k1c6 : Code := { maxStack := 5, maxLocals := 10, code := method_7_code, exceptionTable := #[], attributes := #[] }
def k1m6 : Method := { name := "check", desc := "(LFetchNegotiator;I)Z", sig := { parameters := [(.object "FetchNegotiator"), .int], returnType := some .boolean }, accessFlags := 10, code := some k1c6 }
def k1c7 : Code := { maxStack := 7, maxLocals := 17, code := code, exceptionTable := #[], attributes := #[] }
def k1m7 : Method := { name := "law", desc := "([I)Z", sig := { parameters := [(.array .int)], returnType := some .boolean }, accessFlags := 9, code := some k1c7 }
/-- FetchNegotiatorOwnLaw -/
def k1 : Class := { plain "FetchNegotiatorOwnLaw" (some 0) with
  accessFlags := 33
  interfaces := #[]
  cf := some (fileOf pool1 26 #[] #[{ accessFlags := 1, nameIndex := 5, descriptorIndex := 6, attributes := #[] }, { accessFlags := 10, nameIndex := 37, descriptorIndex := 38, attributes := #[] }, { accessFlags := 10, nameIndex := 41, descriptorIndex := 13, attributes := #[] }, { accessFlags := 10, nameIndex := 51, descriptorIndex := 52, attributes := #[] }, { accessFlags := 10, nameIndex := 66, descriptorIndex := 67, attributes := #[] }, { accessFlags := 10, nameIndex := 29, descriptorIndex := 30, attributes := #[] }, { accessFlags := 10, nameIndex := 86, descriptorIndex := 87, attributes := #[] }, { accessFlags := 9, nameIndex := 91, descriptorIndex := 92, attributes := #[] }] 33 2 #[] #[])
  fields := #[]
  methods := #[k1m0, k1m1, k1m2, k1m3, k1m4, k1m5, k1m6, k1m7]
  instanceTypes := #[]
  staticTypes := #[]
  resolved := Array.replicate 97 none
  statics := none }

def pool2 : Array CpInfo := pool [(1, .methodref 2 3), (0, .class_ 4), (0, .nameAndType 5 6), (0, u "java/lang/Object"), (0, u "<init>"), (0, u "()V"), (0, .fieldref 8 9), (0, .class_ 10), (0, .nameAndType 11 12), (0, u "FetchNegotiator"), (0, u "kind"), (0, u "[B"), (0, .fieldref 8 14), (0, .nameAndType 15 16), (0, u "time"), (0, u "[I"), (0, .fieldref 8 18), (0, .nameAndType 19 16), (0, u "link"), (0, .fieldref 8 21), (0, .nameAndType 22 23), (0, u "held"), (0, u "[Z"), (0, .fieldref 8 25), (0, .nameAndType 26 12), (0, u "flags"), (0, .fieldref 8 28), (0, .nameAndType 29 16), (0, u "sentList"), (0, .fieldref 8 31), (0, .nameAndType 32 23), (0, u "mark"), (0, .fieldref 8 34), (0, .nameAndType 35 16), (0, u "stack"), (0, .fieldref 8 37), (0, .nameAndType 38 23), (0, u "ackMark"), (0, .methodref 8 40), (0, .nameAndType 41 42), (0, u "clamp"), (0, u "(III)I"), (0, .fieldref 8 44), (0, .nameAndType 45 46), (0, u "cap"), (0, u "I"), (0, .fieldref 8 48), (0, .nameAndType 49 46), (0, u "batch"), (0, .fieldref 8 51), (0, .nameAndType 52 46), (0, u "maxRounds"), (0, .fieldref 8 54), (0, .nameAndType 55 46), (0, u "count"), (0, .fieldref 8 57), (0, .nameAndType 58 46), (0, u "sentCount"), (0, .fieldref 8 60), (0, .nameAndType 61 46), (0, u "roundsDone"), (0, .fieldref 8 63), (0, .nameAndType 64 46), (0, u "phaseNow"), (0, .fieldref 8 66), (0, .nameAndType 67 68), (0, u "lastConnected"), (0, u "Z"), (0, .methodref 8 70), (0, .nameAndType 71 72), (0, u "define"), (0, u "(IIIII)I"), (0, .methodref 8 74), (0, .nameAndType 75 76), (0, u "validEntry"), (0, u "(I)Z"), (0, .methodref 8 78), (0, .nameAndType 79 80), (0, u "norm"), (0, u "(I)I"), (0, .methodref 8 82), (0, .nameAndType 83 76), (0, u "inRange"), (0, .methodref 8 85), (0, .nameAndType 86 76), (0, u "validParent"), (0, .methodref 8 88), (0, .nameAndType 89 6), (0, u "clearMark"), (0, .methodref 8 91), (0, .nameAndType 92 93), (0, u "markReach"), (0, u "(I)V"), (0, .methodref 8 95), (0, .nameAndType 96 97), (0, u "hasFlag"), (0, u "(II)Z"), (0, .methodref 8 99), (0, .nameAndType 100 101), (0, u "setFlag"), (0, u "(II)V"), (0, .methodref 8 103), (0, .nameAndType 104 105), (0, u "anyWanted"), (0, u "()Z"), (0, .methodref 8 107), (0, .nameAndType 108 6), (0, u "pickBatch"), (0, .methodref 8 110), (0, .nameAndType 111 80), (0, u "answerBatch"), (0, .methodref 8 113), (0, .nameAndType 114 115), (0, u "pickNext"), (0, u "()I"), (0, .methodref 8 117), (0, .nameAndType 118 93), (0, u "markFlagged"), (0, .methodref 8 120), (0, .nameAndType 121 101), (0, u "clearFlag"), (0, .methodref 8 123), (0, .nameAndType 124 105), (0, u "clientHoldsMarked"), (0, .methodref 8 126), (0, .nameAndType 127 76), (0, u "isEligible"), (0, .methodref 8 129), (0, .nameAndType 130 93), (0, u "markCommon"), (0, u "NONE"), (2, u "BLOB"), (1, u "TREE"), (1, u "COMMIT"), (1, u "CLIENT"), (0, u "SERVER"), (0, u "WANTED"), (0, u "SENT"), (0, u "ACKED"), (1, u "COMMON"), (1, u "IN_PACK"), (1, u "IDLE"), (0, u "NEGOTIATING"), (0, u "DONE"), (0, u "PACKED"), (0, u "(III)V"), (2, u "addBlob"), (1, u "addTree"), (0, u "addCommit"), (0, u "(IIII)I"), (0, u "give"), (0, u "(II)I"), (0, u "want"), (0, u "round"), (0, u "pack"), (0, u "newFetch"), (0, u "phase"), (0, u "kindOf"), (0, u "has"), (0, u "status"), (2, u "connected")] 2

def k2c0 : Code := { maxStack := 5, maxLocals := 4, code := prog_1_method_1_code, exceptionTable := #[], attributes := #[] }
def k2m0 : Method := { name := "<init>", desc := "(III)V", sig := { parameters := [.int, .int, .int], returnType := none }, accessFlags := 1, code := some k2c0 }
def k2c1 : Code := { maxStack := 6, maxLocals := 1, code := prog_1_method_2_code, exceptionTable := #[], attributes := #[] }
def k2m1 : Method := { name := "addBlob", desc := "()I", sig := { parameters := [], returnType := some .int }, accessFlags := 1, code := some k2c1 }
def k2c2 : Code := { maxStack := 6, maxLocals := 7, code := prog_1_method_3_code, exceptionTable := #[], attributes := #[] }
def k2m2 : Method := { name := "addTree", desc := "(III)I", sig := { parameters := [.int, .int, .int], returnType := some .int }, accessFlags := 1, code := some k2c2 }
def k2c3 : Code := { maxStack := 6, maxLocals := 7, code := prog_1_method_4_code, exceptionTable := #[], attributes := #[] }
def k2m3 : Method := { name := "addCommit", desc := "(IIII)I", sig := { parameters := [.int, .int, .int, .int], returnType := some .int }, accessFlags := 1, code := some k2c3 }
def k2c4 : Code := { maxStack := 3, maxLocals := 6, code := prog_1_method_5_code, exceptionTable := #[], attributes := #[] }
def k2m4 : Method := { name := "give", desc := "(II)I", sig := { parameters := [.int, .int], returnType := some .int }, accessFlags := 1, code := some k2c4 }
def k2c5 : Code := { maxStack := 3, maxLocals := 2, code := prog_1_method_6_code, exceptionTable := #[], attributes := #[] }
def k2m5 : Method := { name := "want", desc := "(I)Z", sig := { parameters := [.int], returnType := some .boolean }, accessFlags := 1, code := some k2c5 }
def k2c6 : Code := { maxStack := 3, maxLocals := 3, code := prog_1_method_7_code, exceptionTable := #[], attributes := #[] }
def k2m6 : Method := { name := "round", desc := "()I", sig := { parameters := [], returnType := some .int }, accessFlags := 1, code := some k2c6 }
def k2c7 : Code := { maxStack := 4, maxLocals := 3, code := prog_1_method_8_code, exceptionTable := #[], attributes := #[] }
def k2m7 : Method := { name := "pack", desc := "()I", sig := { parameters := [], returnType := some .int }, accessFlags := 1, code := some k2c7 }
def k2c8 : Code := { maxStack := 3, maxLocals := 2, code := prog_1_method_9_code, exceptionTable := #[], attributes := #[] }
def k2m8 : Method := { name := "newFetch", desc := "()V", sig := { parameters := [], returnType := none }, accessFlags := 1, code := some k2c8 }
def k2c9 : Code := { maxStack := 1, maxLocals := 1, code := prog_1_method_10_code, exceptionTable := #[], attributes := #[] }
def k2m9 : Method := { name := "phase", desc := "()I", sig := { parameters := [], returnType := some .int }, accessFlags := 1, code := some k2c9 }
def k2c10 : Code := { maxStack := 2, maxLocals := 2, code := prog_1_method_11_code, exceptionTable := #[], attributes := #[] }
def k2m10 : Method := { name := "kindOf", desc := "(I)I", sig := { parameters := [.int], returnType := some .int }, accessFlags := 1, code := some k2c10 }
def k2c11 : Code := { maxStack := 3, maxLocals := 3, code := prog_1_method_12_code, exceptionTable := #[], attributes := #[] }
def k2m11 : Method := { name := "link", desc := "(II)I", sig := { parameters := [.int, .int], returnType := some .int }, accessFlags := 1, code := some k2c11 }
def k2c12 : Code := { maxStack := 3, maxLocals := 3, code := prog_1_method_13_code, exceptionTable := #[], attributes := #[] }
def k2m12 : Method := { name := "has", desc := "(II)Z", sig := { parameters := [.int, .int], returnType := some .boolean }, accessFlags := 1, code := some k2c12 }
def k2c13 : Code := { maxStack := 2, maxLocals := 2, code := prog_1_method_14_code, exceptionTable := #[], attributes := #[] }
def k2m13 : Method := { name := "status", desc := "(I)I", sig := { parameters := [.int], returnType := some .int }, accessFlags := 1, code := some k2c13 }
def k2c14 : Code := { maxStack := 1, maxLocals := 1, code := prog_1_method_17_code, exceptionTable := #[], attributes := #[] }
def k2m14 : Method := { name := "connected", desc := "()Z", sig := { parameters := [], returnType := some .boolean }, accessFlags := 1, code := some k2c14 }
def k2c15 : Code := { maxStack := 2, maxLocals := 4, code := prog_1_method_18_code, exceptionTable := #[], attributes := #[] }
def k2m15 : Method := { name := "clamp", desc := "(III)I", sig := { parameters := [.int, .int, .int], returnType := some .int }, accessFlags := 2, code := some k2c15 }
def k2c16 : Code := { maxStack := 2, maxLocals := 2, code := prog_1_method_19_code, exceptionTable := #[], attributes := #[] }
def k2m16 : Method := { name := "inRange", desc := "(I)Z", sig := { parameters := [.int], returnType := some .boolean }, accessFlags := 2, code := some k2c16 }
def k2c17 : Code := { maxStack := 1, maxLocals := 2, code := prog_1_method_20_code, exceptionTable := #[], attributes := #[] }
def k2m17 : Method := { name := "norm", desc := "(I)I", sig := { parameters := [.int], returnType := some .int }, accessFlags := 2, code := some k2c17 }
def k2c18 : Code := { maxStack := 2, maxLocals := 2, code := prog_1_method_21_code, exceptionTable := #[], attributes := #[] }
def k2m18 : Method := { name := "validEntry", desc := "(I)Z", sig := { parameters := [.int], returnType := some .boolean }, accessFlags := 2, code := some k2c18 }
def k2c19 : Code := { maxStack := 2, maxLocals := 2, code := prog_1_method_22_code, exceptionTable := #[], attributes := #[] }
def k2m19 : Method := { name := "validParent", desc := "(I)Z", sig := { parameters := [.int], returnType := some .boolean }, accessFlags := 2, code := some k2c19 }
def k2c20 : Code := { maxStack := 3, maxLocals := 7, code := prog_1_method_23_code, exceptionTable := #[], attributes := #[] }
def k2m20 : Method := { name := "define", desc := "(IIIII)I", sig := { parameters := [.int, .int, .int, .int, .int], returnType := some .int }, accessFlags := 2, code := some k2c20 }
def k2c21 : Code := { maxStack := 2, maxLocals := 3, code := prog_1_method_24_code, exceptionTable := #[], attributes := #[] }
def k2m21 : Method := { name := "hasFlag", desc := "(II)Z", sig := { parameters := [.int, .int], returnType := some .boolean }, accessFlags := 2, code := some k2c21 }
def k2c22 : Code := { maxStack := 4, maxLocals := 3, code := prog_1_method_25_code, exceptionTable := #[], attributes := #[] }
def k2m22 : Method := { name := "setFlag", desc := "(II)V", sig := { parameters := [.int, .int], returnType := none }, accessFlags := 2, code := some k2c22 }
def k2c23 : Code := { maxStack := 5, maxLocals := 3, code := prog_1_method_26_code, exceptionTable := #[], attributes := #[] }
def k2m23 : Method := { name := "clearFlag", desc := "(II)V", sig := { parameters := [.int, .int], returnType := none }, accessFlags := 2, code := some k2c23 }
def k2c24 : Code := { maxStack := 3, maxLocals := 2, code := prog_1_method_27_code, exceptionTable := #[], attributes := #[] }
def k2m24 : Method := { name := "clearMark", desc := "()V", sig := { parameters := [], returnType := none }, accessFlags := 2, code := some k2c24 }
def k2c25 : Code := { maxStack := 3, maxLocals := 5, code := prog_1_method_28_code, exceptionTable := #[], attributes := #[] }
def k2m25 : Method := { name := "markReach", desc := "(I)V", sig := { parameters := [.int], returnType := none }, accessFlags := 2, code := some k2c25 }
def k2c26 : Code := { maxStack := 3, maxLocals := 3, code := prog_1_method_29_code, exceptionTable := #[], attributes := #[] }
def k2m26 : Method := { name := "markFlagged", desc := "(I)V", sig := { parameters := [.int], returnType := none }, accessFlags := 2, code := some k2c26 }
def k2c27 : Code := { maxStack := 2, maxLocals := 2, code := prog_1_method_30_code, exceptionTable := #[], attributes := #[] }
def k2m27 : Method := { name := "clientHoldsMarked", desc := "()Z", sig := { parameters := [], returnType := some .boolean }, accessFlags := 2, code := some k2c27 }
def k2c28 : Code := { maxStack := 3, maxLocals := 2, code := prog_1_method_31_code, exceptionTable := #[], attributes := #[] }
def k2m28 : Method := { name := "anyWanted", desc := "()Z", sig := { parameters := [], returnType := some .boolean }, accessFlags := 2, code := some k2c28 }
def k2c29 : Code := { maxStack := 3, maxLocals := 2, code := prog_1_method_32_code, exceptionTable := #[], attributes := #[] }
def k2m29 : Method := { name := "isEligible", desc := "(I)Z", sig := { parameters := [.int], returnType := some .boolean }, accessFlags := 2, code := some k2c29 }
def k2c30 : Code := { maxStack := 3, maxLocals := 3, code := prog_1_method_33_code, exceptionTable := #[], attributes := #[] }
def k2m30 : Method := { name := "pickNext", desc := "()I", sig := { parameters := [], returnType := some .int }, accessFlags := 2, code := some k2c30 }
def k2c31 : Code := { maxStack := 3, maxLocals := 3, code := prog_1_method_34_code, exceptionTable := #[], attributes := #[] }
def k2m31 : Method := { name := "pickBatch", desc := "()V", sig := { parameters := [], returnType := none }, accessFlags := 2, code := some k2c31 }
def k2c32 : Code := { maxStack := 3, maxLocals := 5, code := prog_1_method_35_code, exceptionTable := #[], attributes := #[] }
def k2m32 : Method := { name := "answerBatch", desc := "(I)I", sig := { parameters := [.int], returnType := some .int }, accessFlags := 2, code := some k2c32 }
def k2c33 : Code := { maxStack := 3, maxLocals := 3, code := prog_1_method_36_code, exceptionTable := #[], attributes := #[] }
def k2m33 : Method := { name := "markCommon", desc := "(I)V", sig := { parameters := [.int], returnType := none }, accessFlags := 2, code := some k2c33 }
/-- FetchNegotiator -/
def k2 : Class := { plain "FetchNegotiator" (some 0) with
  accessFlags := 49
  interfaces := #[]
  cf := some (fileOf pool2 8 #[] #[{ accessFlags := 1, nameIndex := 5, descriptorIndex := 154, attributes := #[] }, { accessFlags := 1, nameIndex := 157, descriptorIndex := 115, attributes := #[] }, { accessFlags := 1, nameIndex := 159, descriptorIndex := 42, attributes := #[] }, { accessFlags := 1, nameIndex := 160, descriptorIndex := 161, attributes := #[] }, { accessFlags := 1, nameIndex := 162, descriptorIndex := 163, attributes := #[] }, { accessFlags := 1, nameIndex := 164, descriptorIndex := 76, attributes := #[] }, { accessFlags := 1, nameIndex := 165, descriptorIndex := 115, attributes := #[] }, { accessFlags := 1, nameIndex := 166, descriptorIndex := 115, attributes := #[] }, { accessFlags := 1, nameIndex := 167, descriptorIndex := 6, attributes := #[] }, { accessFlags := 1, nameIndex := 168, descriptorIndex := 115, attributes := #[] }, { accessFlags := 1, nameIndex := 169, descriptorIndex := 80, attributes := #[] }, { accessFlags := 1, nameIndex := 19, descriptorIndex := 163, attributes := #[] }, { accessFlags := 1, nameIndex := 170, descriptorIndex := 97, attributes := #[] }, { accessFlags := 1, nameIndex := 171, descriptorIndex := 80, attributes := #[] }, { accessFlags := 1, nameIndex := 174, descriptorIndex := 105, attributes := #[] }, { accessFlags := 2, nameIndex := 41, descriptorIndex := 42, attributes := #[] }, { accessFlags := 2, nameIndex := 83, descriptorIndex := 76, attributes := #[] }, { accessFlags := 2, nameIndex := 79, descriptorIndex := 80, attributes := #[] }, { accessFlags := 2, nameIndex := 75, descriptorIndex := 76, attributes := #[] }, { accessFlags := 2, nameIndex := 86, descriptorIndex := 76, attributes := #[] }, { accessFlags := 2, nameIndex := 71, descriptorIndex := 72, attributes := #[] }, { accessFlags := 2, nameIndex := 96, descriptorIndex := 97, attributes := #[] }, { accessFlags := 2, nameIndex := 100, descriptorIndex := 101, attributes := #[] }, { accessFlags := 2, nameIndex := 121, descriptorIndex := 101, attributes := #[] }, { accessFlags := 2, nameIndex := 89, descriptorIndex := 6, attributes := #[] }, { accessFlags := 2, nameIndex := 92, descriptorIndex := 93, attributes := #[] }, { accessFlags := 2, nameIndex := 118, descriptorIndex := 93, attributes := #[] }, { accessFlags := 2, nameIndex := 124, descriptorIndex := 105, attributes := #[] }, { accessFlags := 2, nameIndex := 104, descriptorIndex := 105, attributes := #[] }, { accessFlags := 2, nameIndex := 127, descriptorIndex := 76, attributes := #[] }, { accessFlags := 2, nameIndex := 114, descriptorIndex := 115, attributes := #[] }, { accessFlags := 2, nameIndex := 108, descriptorIndex := 6, attributes := #[] }, { accessFlags := 2, nameIndex := 111, descriptorIndex := 80, attributes := #[] }, { accessFlags := 2, nameIndex := 130, descriptorIndex := 93, attributes := #[] }] 49 2 #[] #[{ accessFlags := 25, nameIndex := 131, descriptorIndex := 46, attributes := #[] }, { accessFlags := 25, nameIndex := 134, descriptorIndex := 46, attributes := #[] }, { accessFlags := 25, nameIndex := 136, descriptorIndex := 46, attributes := #[] }, { accessFlags := 25, nameIndex := 138, descriptorIndex := 46, attributes := #[] }, { accessFlags := 25, nameIndex := 140, descriptorIndex := 46, attributes := #[] }, { accessFlags := 25, nameIndex := 141, descriptorIndex := 46, attributes := #[] }, { accessFlags := 25, nameIndex := 142, descriptorIndex := 46, attributes := #[] }, { accessFlags := 25, nameIndex := 143, descriptorIndex := 46, attributes := #[] }, { accessFlags := 25, nameIndex := 144, descriptorIndex := 46, attributes := #[] }, { accessFlags := 25, nameIndex := 146, descriptorIndex := 46, attributes := #[] }, { accessFlags := 25, nameIndex := 148, descriptorIndex := 46, attributes := #[] }, { accessFlags := 25, nameIndex := 150, descriptorIndex := 46, attributes := #[] }, { accessFlags := 25, nameIndex := 151, descriptorIndex := 46, attributes := #[] }, { accessFlags := 25, nameIndex := 152, descriptorIndex := 46, attributes := #[] }, { accessFlags := 25, nameIndex := 153, descriptorIndex := 46, attributes := #[] }, { accessFlags := 2, nameIndex := 45, descriptorIndex := 46, attributes := #[] }, { accessFlags := 2, nameIndex := 49, descriptorIndex := 46, attributes := #[] }, { accessFlags := 2, nameIndex := 52, descriptorIndex := 46, attributes := #[] }, { accessFlags := 2, nameIndex := 55, descriptorIndex := 46, attributes := #[] }, { accessFlags := 2, nameIndex := 58, descriptorIndex := 46, attributes := #[] }, { accessFlags := 2, nameIndex := 61, descriptorIndex := 46, attributes := #[] }, { accessFlags := 2, nameIndex := 64, descriptorIndex := 46, attributes := #[] }, { accessFlags := 2, nameIndex := 67, descriptorIndex := 68, attributes := #[] }, { accessFlags := 2, nameIndex := 11, descriptorIndex := 12, attributes := #[] }, { accessFlags := 2, nameIndex := 15, descriptorIndex := 16, attributes := #[] }, { accessFlags := 2, nameIndex := 19, descriptorIndex := 16, attributes := #[] }, { accessFlags := 2, nameIndex := 22, descriptorIndex := 23, attributes := #[] }, { accessFlags := 2, nameIndex := 26, descriptorIndex := 12, attributes := #[] }, { accessFlags := 2, nameIndex := 29, descriptorIndex := 16, attributes := #[] }, { accessFlags := 2, nameIndex := 32, descriptorIndex := 23, attributes := #[] }, { accessFlags := 2, nameIndex := 35, descriptorIndex := 16, attributes := #[] }, { accessFlags := 2, nameIndex := 38, descriptorIndex := 23, attributes := #[] }])
  fields := #[{ name := "NONE", type := .int, accessFlags := 25, slot := 0, constantValue := 0 }, { name := "BLOB", type := .int, accessFlags := 25, slot := 1, constantValue := 0 }, { name := "TREE", type := .int, accessFlags := 25, slot := 2, constantValue := 0 }, { name := "COMMIT", type := .int, accessFlags := 25, slot := 3, constantValue := 0 }, { name := "CLIENT", type := .int, accessFlags := 25, slot := 4, constantValue := 0 }, { name := "SERVER", type := .int, accessFlags := 25, slot := 5, constantValue := 0 }, { name := "WANTED", type := .int, accessFlags := 25, slot := 6, constantValue := 0 }, { name := "SENT", type := .int, accessFlags := 25, slot := 7, constantValue := 0 }, { name := "ACKED", type := .int, accessFlags := 25, slot := 8, constantValue := 0 }, { name := "COMMON", type := .int, accessFlags := 25, slot := 9, constantValue := 0 }, { name := "IN_PACK", type := .int, accessFlags := 25, slot := 10, constantValue := 0 }, { name := "IDLE", type := .int, accessFlags := 25, slot := 11, constantValue := 0 }, { name := "NEGOTIATING", type := .int, accessFlags := 25, slot := 12, constantValue := 0 }, { name := "DONE", type := .int, accessFlags := 25, slot := 13, constantValue := 0 }, { name := "PACKED", type := .int, accessFlags := 25, slot := 14, constantValue := 0 }, { name := "cap", type := .int, accessFlags := 2, slot := 0, constantValue := 0 }, { name := "batch", type := .int, accessFlags := 2, slot := 1, constantValue := 0 }, { name := "maxRounds", type := .int, accessFlags := 2, slot := 2, constantValue := 0 }, { name := "count", type := .int, accessFlags := 2, slot := 3, constantValue := 0 }, { name := "sentCount", type := .int, accessFlags := 2, slot := 4, constantValue := 0 }, { name := "roundsDone", type := .int, accessFlags := 2, slot := 5, constantValue := 0 }, { name := "phaseNow", type := .int, accessFlags := 2, slot := 6, constantValue := 0 }, { name := "lastConnected", type := .boolean, accessFlags := 2, slot := 7, constantValue := 0 }, { name := "kind", type := (.array .byte), accessFlags := 2, slot := 8, constantValue := 0 }, { name := "time", type := (.array .int), accessFlags := 2, slot := 9, constantValue := 0 }, { name := "link", type := (.array .int), accessFlags := 2, slot := 10, constantValue := 0 }, { name := "held", type := (.array .boolean), accessFlags := 2, slot := 11, constantValue := 0 }, { name := "flags", type := (.array .byte), accessFlags := 2, slot := 12, constantValue := 0 }, { name := "sentList", type := (.array .int), accessFlags := 2, slot := 13, constantValue := 0 }, { name := "mark", type := (.array .boolean), accessFlags := 2, slot := 14, constantValue := 0 }, { name := "stack", type := (.array .int), accessFlags := 2, slot := 15, constantValue := 0 }, { name := "ackMark", type := (.array .boolean), accessFlags := 2, slot := 16, constantValue := 0 }]
  methods := #[k2m0, k2m1, k2m2, k2m3, k2m4, k2m5, k2m6, k2m7, k2m8, k2m9, k2m10, k2m11, k2m12, k2m13, k2m14, k2m15, k2m16, k2m17, k2m18, k2m19, k2m20, k2m21, k2m22, k2m23, k2m24, k2m25, k2m26, k2m27, k2m28, k2m29, k2m30, k2m31, k2m32, k2m33]
  instanceTypes := #[.int, .int, .int, .int, .int, .int, .int, .boolean, (.array .byte), (.array .int), (.array .int), (.array .boolean), (.array .byte), (.array .int), (.array .boolean), (.array .int), (.array .boolean)]
  staticTypes := #[.int, .int, .int, .int, .int, .int, .int, .int, .int, .int, .int, .int, .int, .int, .int]
  resolved := Array.replicate 177 none
  statics := none }

def pool3 : Array CpInfo := pool [(1, u "java/lang/Cloneable"), (0, .class_ 1), (0, u "java/lang/Object"), (0, .class_ 3)] 3

/-- java/lang/Cloneable -/
def k3 : Class := { plain "java/lang/Cloneable" (some 0) with
  accessFlags := 1537
  interfaces := #[]
  cf := some (fileOf pool3 2 #[] #[] 1537 4 #[] #[])
  fields := #[]
  methods := #[]
  instanceTypes := #[]
  staticTypes := #[]
  resolved := Array.replicate 8 none
  statics := none }

def pool4 : Array CpInfo := pool [(1, u "java/io/Serializable"), (0, .class_ 1), (0, u "java/lang/Object"), (0, .class_ 3)] 3

/-- java/io/Serializable -/
def k4 : Class := { plain "java/io/Serializable" (some 0) with
  accessFlags := 1537
  interfaces := #[]
  cf := some (fileOf pool4 2 #[] #[] 1537 4 #[] #[])
  fields := #[]
  methods := #[]
  instanceTypes := #[]
  staticTypes := #[]
  resolved := Array.replicate 8 none
  statics := none }

/-- the primitive boolean -/
def k5 : Class := { plain "boolean" none with kind := .primitive 'Z', accessFlags := 0x411 }
/-- [Z -/
def k6 : Class := { plain "[Z" (some 0) with kind := .array 5 .boolean, interfaces := #[3, 4], accessFlags := 1041 }

/-- the primitive byte -/
def k7 : Class := { plain "byte" none with kind := .primitive 'B', accessFlags := 0x411 }
/-- [B -/
def k8 : Class := { plain "[B" (some 0) with kind := .array 7 .byte, interfaces := #[3, 4], accessFlags := 1041 }

/-- the primitive int -/
def k9 : Class := { plain "int" none with kind := .primitive 'I', accessFlags := 0x411 }
/-- [I -/
def k10 : Class := { plain "[I" (some 0) with kind := .array 9 .int, interfaces := #[3, 4], accessFlags := 1041 }

def heap : Heap := #[{ cls := 10, slots := #[.int 0, .int 3], vm := .none }]
def classes : Array Class := #[k0, k1, k2, k3, k4, k5, k6, k7, k8, k9, k10]
def interned : List (Array UInt16 × Addr) := []
def slotsUsed : Nat := 2
def theMethod : MethodId := ⟨1, 7⟩
def args0 : Array Value := #[.ref 0]
def aboutOver (below : List Frame) : State where
  vm := { classes := classes, interned := interned.toArray }
  heap := heap
  slotsUsed := slotsUsed
  threads := #[{ frames := .invoking theMethod args0 :: below }]
def below0 : List Frame := [.native { method := ⟨0, 0⟩, args := #[] }]
def about1 : State := aboutOver below0
def p0 : Program := .bare "" "" ""
def e0 : Env := launch0.env 0 0 0
theorem w_frames : about1.frames = Frame.invoking theMethod args0 :: below0 := rfl
set_option maxRecDepth 65536 in
theorem w_args : argsFit about1.vm theMethod args0 = true := by decide +kernel
set_option maxRecDepth 65536 in
theorem w_heap : heapFits about1 = true := by decide +kernel
set_option maxRecDepth 65536 in
theorem w_runnable : about1.curStatus? = some .runnable := by decide +kernel
set_option maxRecDepth 65536 in
theorem w_alone : about1.alone = true := by decide +kernel
set_option maxRecDepth 65536 in
theorem w_named : about1.methodNamed? x = some theMethod := by decide +kernel
set_option maxRecDepth 65536 in
theorem w_hears : about1.hears theMethod below0 = true := by decide +kernel
set_option maxRecDepth 65536 in
theorem w_ripe : about1.ripe theMethod args0 below0 = true := by decide +kernel
theorem w_running : about1.status = .running := rfl
set_option maxRecDepth 65536 in
theorem w_room : about1.hasRoom e0.platform room_1 = true :=
  launch0.hasRoom_least _ room_1 (by decide +kernel) (by decide +kernel) (by decide +kernel) (by decide +kernel) (by decide +kernel) (by decide +kernel)
theorem allAtoms_all (ts : List Jvm.Cond) (a : Array Jvm.Value) (st : Jvm.State) : (allAtoms ts).before a st = ts.all (fun c => c.before a st) := by
  induction ts with
  | nil => rfl
  | cons c t ih =>
    show (Jvm.Cond.and c (allAtoms t)).before a st = _
    rw [Jvm.Cond.before_and, ih, List.all_cons]
def words1 : List Jvm.Cond := Jvm.Cond.code x code maxLocals ret :: tables_1
/-- a 'code' word, met by the world's own term for the bytes: nothing is compared byte by byte -/
theorem code_word {y : MethodName} {bytes : ByteArray} {mx : Nat} {rt : Option FieldType} {a : Array Value} {s : State} {m : MethodId} {meth : Method} {c : Code} (h1 : s.methodNamed? y = some m) (h2 : s.vm.method? m = some meth) (h3 : meth.code = some c) (h4 : c.code = bytes)
    (h5 : (c.maxLocals == mx && c.exceptionTable.isEmpty && decide (c.maxStack ≤ mostOperands) && decide (meth.sig.returnType = rt) && !meth.locks && decide (parseMethodDescriptor y.desc = some meth.sig)) = true) : (Jvm.Cond.code y bytes mx rt).before a s = true := by
  simp only [Bool.and_eq_true, beq_iff_eq, Bool.not_eq_true', decide_eq_true_eq] at h5
  obtain ⟨⟨⟨⟨⟨g1, g2⟩, g3⟩, g4⟩, g5⟩, g6⟩ := h5
  simp [Cond.before, Cond.holds, Cond.value, h1, h2, h3, h4, g1, g2, g3, g4, g5, g6]
def isCode : Jvm.Cond → Bool
  | .code _ _ _ _ => true
  | _ => false
theorem all_split {L : List Jvm.Cond} {P : Jvm.Cond → Bool} (h1 : L.all (fun c => isCode c || P c) = true) (h2 : ∀ c ∈ L.filter isCode, P c = true) : L.all P = true := by
  refine List.all_eq_true.mpr fun c hc => ?_
  have h := List.all_eq_true.mp h1 c hc
  rcases Bool.eq_false_or_eq_true (isCode c) with hi | hi
  · exact h2 c (List.mem_filter.mpr ⟨hc, hi⟩)
  · simpa [hi] using h
set_option maxRecDepth 65536 in
theorem w_c0 : (Jvm.Cond.code x code maxLocals ret).before args0 about1 = true := code_word (m := ⟨1, 7⟩) (meth := k1m7) (c := k1c7) (by decide +kernel) rfl rfl rfl (by decide +kernel)
set_option maxRecDepth 65536 in
theorem w_c1 : (Jvm.Cond.code ({ cls := "FetchNegotiatorOwnLaw", name := "cell", desc := "([II)I" } : Jvm.MethodName) method_2_code (2 : Nat) (Option.some Jvm.ClassFile.FieldType.int)).before args0 about1 = true := code_word (m := ⟨1, 1⟩) (meth := k1m1) (c := k1c1) (by decide +kernel) rfl rfl rfl (by decide +kernel)
set_option maxRecDepth 65536 in
theorem w_c2 : (Jvm.Cond.code ({ cls := "FetchNegotiatorOwnLaw", name := "nat", desc := "(I)I" } : Jvm.MethodName) method_3_code (1 : Nat) (Option.some Jvm.ClassFile.FieldType.int)).before args0 about1 = true := code_word (m := ⟨1, 2⟩) (meth := k1m2) (c := k1c2) (by decide +kernel) rfl rfl rfl (by decide +kernel)
set_option maxRecDepth 65536 in
theorem w_c3 : (Jvm.Cond.code ({ cls := "FetchNegotiator", name := "<init>", desc := "(III)V" } : Jvm.MethodName) prog_1_method_1_code (4 : Nat) (Option.none : Option Jvm.ClassFile.FieldType)).before args0 about1 = true := code_word (m := ⟨2, 0⟩) (meth := k2m0) (c := k2c0) (by decide +kernel) rfl rfl rfl (by decide +kernel)
set_option maxRecDepth 65536 in
theorem w_c4 : (Jvm.Cond.code ({ cls := "java/lang/Object", name := "<init>", desc := "()V" } : Jvm.MethodName) object_method_1_code (1 : Nat) (Option.none : Option Jvm.ClassFile.FieldType)).before args0 about1 = true := code_word (m := ⟨0, 0⟩) (meth := k0m0) (c := k0c0) (by decide +kernel) rfl rfl rfl (by decide +kernel)
set_option maxRecDepth 65536 in
theorem w_c5 : (Jvm.Cond.code ({ cls := "FetchNegotiator", name := "clamp", desc := "(III)I" } : Jvm.MethodName) prog_1_method_18_code (4 : Nat) (Option.some Jvm.ClassFile.FieldType.int)).before args0 about1 = true := code_word (m := ⟨2, 15⟩) (meth := k2m15) (c := k2c15) (by decide +kernel) rfl rfl rfl (by decide +kernel)
set_option maxRecDepth 65536 in
theorem w_c6 : (Jvm.Cond.code ({ cls := "FetchNegotiator", name := "addBlob", desc := "()I" } : Jvm.MethodName) prog_1_method_2_code (1 : Nat) (Option.some Jvm.ClassFile.FieldType.int)).before args0 about1 = true := code_word (m := ⟨2, 1⟩) (meth := k2m1) (c := k2c1) (by decide +kernel) rfl rfl rfl (by decide +kernel)
set_option maxRecDepth 65536 in
theorem w_c7 : (Jvm.Cond.code ({ cls := "FetchNegotiator", name := "define", desc := "(IIIII)I" } : Jvm.MethodName) prog_1_method_23_code (7 : Nat) (Option.some Jvm.ClassFile.FieldType.int)).before args0 about1 = true := code_word (m := ⟨2, 20⟩) (meth := k2m20) (c := k2c20) (by decide +kernel) rfl rfl rfl (by decide +kernel)
set_option maxRecDepth 65536 in
theorem w_c8 : (Jvm.Cond.code ({ cls := "FetchNegotiator", name := "phase", desc := "()I" } : Jvm.MethodName) prog_1_method_10_code (1 : Nat) (Option.some Jvm.ClassFile.FieldType.int)).before args0 about1 = true := code_word (m := ⟨2, 9⟩) (meth := k2m9) (c := k2c9) (by decide +kernel) rfl rfl rfl (by decide +kernel)
set_option maxRecDepth 65536 in
theorem w_c9 : (Jvm.Cond.code ({ cls := "FetchNegotiatorOwnLaw", name := "pickKind", desc := "(LFetchNegotiator;II)I" } : Jvm.MethodName) method_4_code (4 : Nat) (Option.some Jvm.ClassFile.FieldType.int)).before args0 about1 = true := code_word (m := ⟨1, 3⟩) (meth := k1m3) (c := k1c3) (by decide +kernel) rfl rfl rfl (by decide +kernel)
set_option maxRecDepth 65536 in
theorem w_c10 : (Jvm.Cond.code ({ cls := "FetchNegotiator", name := "kindOf", desc := "(I)I" } : Jvm.MethodName) prog_1_method_11_code (2 : Nat) (Option.some Jvm.ClassFile.FieldType.int)).before args0 about1 = true := code_word (m := ⟨2, 10⟩) (meth := k2m10) (c := k2c10) (by decide +kernel) rfl rfl rfl (by decide +kernel)
set_option maxRecDepth 65536 in
theorem w_c11 : (Jvm.Cond.code ({ cls := "FetchNegotiator", name := "inRange", desc := "(I)Z" } : Jvm.MethodName) prog_1_method_19_code (2 : Nat) (Option.some Jvm.ClassFile.FieldType.boolean)).before args0 about1 = true := code_word (m := ⟨2, 16⟩) (meth := k2m16) (c := k2c16) (by decide +kernel) rfl rfl rfl (by decide +kernel)
set_option maxRecDepth 65536 in
theorem w_c12 : (Jvm.Cond.code ({ cls := "FetchNegotiator", name := "addTree", desc := "(III)I" } : Jvm.MethodName) prog_1_method_3_code (7 : Nat) (Option.some Jvm.ClassFile.FieldType.int)).before args0 about1 = true := code_word (m := ⟨2, 2⟩) (meth := k2m2) (c := k2c2) (by decide +kernel) rfl rfl rfl (by decide +kernel)
set_option maxRecDepth 65536 in
theorem w_c13 : (Jvm.Cond.code ({ cls := "FetchNegotiator", name := "validEntry", desc := "(I)Z" } : Jvm.MethodName) prog_1_method_21_code (2 : Nat) (Option.some Jvm.ClassFile.FieldType.boolean)).before args0 about1 = true := code_word (m := ⟨2, 18⟩) (meth := k2m18) (c := k2c18) (by decide +kernel) rfl rfl rfl (by decide +kernel)
set_option maxRecDepth 65536 in
theorem w_c14 : (Jvm.Cond.code ({ cls := "FetchNegotiator", name := "norm", desc := "(I)I" } : Jvm.MethodName) prog_1_method_20_code (2 : Nat) (Option.some Jvm.ClassFile.FieldType.int)).before args0 about1 = true := code_word (m := ⟨2, 17⟩) (meth := k2m17) (c := k2c17) (by decide +kernel) rfl rfl rfl (by decide +kernel)
set_option maxRecDepth 65536 in
theorem w_c15 : (Jvm.Cond.code ({ cls := "FetchNegotiator", name := "round", desc := "()I" } : Jvm.MethodName) prog_1_method_7_code (3 : Nat) (Option.some Jvm.ClassFile.FieldType.int)).before args0 about1 = true := code_word (m := ⟨2, 6⟩) (meth := k2m6) (c := k2c6) (by decide +kernel) rfl rfl rfl (by decide +kernel)
set_option maxRecDepth 65536 in
theorem w_c16 : (Jvm.Cond.code ({ cls := "FetchNegotiator", name := "anyWanted", desc := "()Z" } : Jvm.MethodName) prog_1_method_31_code (2 : Nat) (Option.some Jvm.ClassFile.FieldType.boolean)).before args0 about1 = true := code_word (m := ⟨2, 28⟩) (meth := k2m28) (c := k2c28) (by decide +kernel) rfl rfl rfl (by decide +kernel)
set_option maxRecDepth 65536 in
theorem w_c17 : (Jvm.Cond.code ({ cls := "FetchNegotiator", name := "hasFlag", desc := "(II)Z" } : Jvm.MethodName) prog_1_method_24_code (3 : Nat) (Option.some Jvm.ClassFile.FieldType.boolean)).before args0 about1 = true := code_word (m := ⟨2, 21⟩) (meth := k2m21) (c := k2c21) (by decide +kernel) rfl rfl rfl (by decide +kernel)
set_option maxRecDepth 65536 in
theorem w_c18 : (Jvm.Cond.code ({ cls := "FetchNegotiator", name := "addCommit", desc := "(IIII)I" } : Jvm.MethodName) prog_1_method_4_code (7 : Nat) (Option.some Jvm.ClassFile.FieldType.int)).before args0 about1 = true := code_word (m := ⟨2, 3⟩) (meth := k2m3) (c := k2c3) (by decide +kernel) rfl rfl rfl (by decide +kernel)
set_option maxRecDepth 65536 in
theorem w_c19 : (Jvm.Cond.code ({ cls := "FetchNegotiator", name := "validParent", desc := "(I)Z" } : Jvm.MethodName) prog_1_method_22_code (2 : Nat) (Option.some Jvm.ClassFile.FieldType.boolean)).before args0 about1 = true := code_word (m := ⟨2, 19⟩) (meth := k2m19) (c := k2c19) (by decide +kernel) rfl rfl rfl (by decide +kernel)
set_option maxRecDepth 65536 in
theorem w_c20 : (Jvm.Cond.code ({ cls := "FetchNegotiator", name := "give", desc := "(II)I" } : Jvm.MethodName) prog_1_method_5_code (6 : Nat) (Option.some Jvm.ClassFile.FieldType.int)).before args0 about1 = true := code_word (m := ⟨2, 4⟩) (meth := k2m4) (c := k2c4) (by decide +kernel) rfl rfl rfl (by decide +kernel)
set_option maxRecDepth 65536 in
theorem w_c21 : (Jvm.Cond.code ({ cls := "FetchNegotiator", name := "clearMark", desc := "()V" } : Jvm.MethodName) prog_1_method_27_code (2 : Nat) (Option.none : Option Jvm.ClassFile.FieldType)).before args0 about1 = true := code_word (m := ⟨2, 24⟩) (meth := k2m24) (c := k2c24) (by decide +kernel) rfl rfl rfl (by decide +kernel)
set_option maxRecDepth 65536 in
theorem w_c22 : (Jvm.Cond.code ({ cls := "FetchNegotiator", name := "markReach", desc := "(I)V" } : Jvm.MethodName) prog_1_method_28_code (5 : Nat) (Option.none : Option Jvm.ClassFile.FieldType)).before args0 about1 = true := code_word (m := ⟨2, 25⟩) (meth := k2m25) (c := k2c25) (by decide +kernel) rfl rfl rfl (by decide +kernel)
set_option maxRecDepth 65536 in
theorem w_c23 : (Jvm.Cond.code ({ cls := "FetchNegotiator", name := "newFetch", desc := "()V" } : Jvm.MethodName) prog_1_method_9_code (2 : Nat) (Option.none : Option Jvm.ClassFile.FieldType)).before args0 about1 = true := code_word (m := ⟨2, 8⟩) (meth := k2m8) (c := k2c8) (by decide +kernel) rfl rfl rfl (by decide +kernel)
set_option maxRecDepth 65536 in
theorem w_c24 : (Jvm.Cond.code ({ cls := "FetchNegotiator", name := "pack", desc := "()I" } : Jvm.MethodName) prog_1_method_8_code (3 : Nat) (Option.some Jvm.ClassFile.FieldType.int)).before args0 about1 = true := code_word (m := ⟨2, 7⟩) (meth := k2m7) (c := k2c7) (by decide +kernel) rfl rfl rfl (by decide +kernel)
set_option maxRecDepth 65536 in
theorem w_c25 : (Jvm.Cond.code ({ cls := "FetchNegotiatorOwnLaw", name := "pickWantable", desc := "(LFetchNegotiator;I)I" } : Jvm.MethodName) method_5_code (3 : Nat) (Option.some Jvm.ClassFile.FieldType.int)).before args0 about1 = true := code_word (m := ⟨1, 4⟩) (meth := k1m4) (c := k1c4) (by decide +kernel) rfl rfl rfl (by decide +kernel)
set_option maxRecDepth 65536 in
theorem w_c26 : (Jvm.Cond.code ({ cls := "FetchNegotiator", name := "want", desc := "(I)Z" } : Jvm.MethodName) prog_1_method_6_code (2 : Nat) (Option.some Jvm.ClassFile.FieldType.boolean)).before args0 about1 = true := code_word (m := ⟨2, 5⟩) (meth := k2m5) (c := k2c5) (by decide +kernel) rfl rfl rfl (by decide +kernel)
set_option maxRecDepth 65536 in
theorem w_c27 : (Jvm.Cond.code ({ cls := "FetchNegotiator", name := "has", desc := "(II)Z" } : Jvm.MethodName) prog_1_method_13_code (3 : Nat) (Option.some Jvm.ClassFile.FieldType.boolean)).before args0 about1 = true := code_word (m := ⟨2, 12⟩) (meth := k2m12) (c := k2c12) (by decide +kernel) rfl rfl rfl (by decide +kernel)
set_option maxRecDepth 65536 in
theorem w_c28 : (Jvm.Cond.code ({ cls := "FetchNegotiator", name := "setFlag", desc := "(II)V" } : Jvm.MethodName) prog_1_method_25_code (3 : Nat) (Option.none : Option Jvm.ClassFile.FieldType)).before args0 about1 = true := code_word (m := ⟨2, 22⟩) (meth := k2m22) (c := k2c22) (by decide +kernel) rfl rfl rfl (by decide +kernel)
set_option maxRecDepth 65536 in
theorem w_c29 : (Jvm.Cond.code ({ cls := "FetchNegotiator", name := "pickBatch", desc := "()V" } : Jvm.MethodName) prog_1_method_34_code (3 : Nat) (Option.none : Option Jvm.ClassFile.FieldType)).before args0 about1 = true := code_word (m := ⟨2, 31⟩) (meth := k2m31) (c := k2c31) (by decide +kernel) rfl rfl rfl (by decide +kernel)
set_option maxRecDepth 65536 in
theorem w_c30 : (Jvm.Cond.code ({ cls := "FetchNegotiator", name := "pickNext", desc := "()I" } : Jvm.MethodName) prog_1_method_33_code (3 : Nat) (Option.some Jvm.ClassFile.FieldType.int)).before args0 about1 = true := code_word (m := ⟨2, 30⟩) (meth := k2m30) (c := k2c30) (by decide +kernel) rfl rfl rfl (by decide +kernel)
set_option maxRecDepth 65536 in
theorem w_c31 : (Jvm.Cond.code ({ cls := "FetchNegotiator", name := "isEligible", desc := "(I)Z" } : Jvm.MethodName) prog_1_method_32_code (2 : Nat) (Option.some Jvm.ClassFile.FieldType.boolean)).before args0 about1 = true := code_word (m := ⟨2, 29⟩) (meth := k2m29) (c := k2c29) (by decide +kernel) rfl rfl rfl (by decide +kernel)
set_option maxRecDepth 65536 in
theorem w_c32 : (Jvm.Cond.code ({ cls := "FetchNegotiator", name := "answerBatch", desc := "(I)I" } : Jvm.MethodName) prog_1_method_35_code (5 : Nat) (Option.some Jvm.ClassFile.FieldType.int)).before args0 about1 = true := code_word (m := ⟨2, 32⟩) (meth := k2m32) (c := k2c32) (by decide +kernel) rfl rfl rfl (by decide +kernel)
set_option maxRecDepth 65536 in
theorem w_c33 : (Jvm.Cond.code ({ cls := "FetchNegotiator", name := "markFlagged", desc := "(I)V" } : Jvm.MethodName) prog_1_method_29_code (3 : Nat) (Option.none : Option Jvm.ClassFile.FieldType)).before args0 about1 = true := code_word (m := ⟨2, 26⟩) (meth := k2m26) (c := k2c26) (by decide +kernel) rfl rfl rfl (by decide +kernel)
set_option maxRecDepth 65536 in
theorem w_c34 : (Jvm.Cond.code ({ cls := "FetchNegotiator", name := "clearFlag", desc := "(II)V" } : Jvm.MethodName) prog_1_method_26_code (3 : Nat) (Option.none : Option Jvm.ClassFile.FieldType)).before args0 about1 = true := code_word (m := ⟨2, 23⟩) (meth := k2m23) (c := k2c23) (by decide +kernel) rfl rfl rfl (by decide +kernel)
set_option maxRecDepth 65536 in
theorem w_c35 : (Jvm.Cond.code ({ cls := "FetchNegotiator", name := "clientHoldsMarked", desc := "()Z" } : Jvm.MethodName) prog_1_method_30_code (2 : Nat) (Option.some Jvm.ClassFile.FieldType.boolean)).before args0 about1 = true := code_word (m := ⟨2, 27⟩) (meth := k2m27) (c := k2c27) (by decide +kernel) rfl rfl rfl (by decide +kernel)
set_option maxRecDepth 65536 in
theorem w_c36 : (Jvm.Cond.code ({ cls := "FetchNegotiatorOwnLaw", name := "check", desc := "(LFetchNegotiator;I)Z" } : Jvm.MethodName) method_7_code (10 : Nat) (Option.some Jvm.ClassFile.FieldType.boolean)).before args0 about1 = true := code_word (m := ⟨1, 6⟩) (meth := k1m6) (c := k1c6) (by decide +kernel) rfl rfl rfl (by decide +kernel)
set_option maxRecDepth 65536 in
theorem w_c37 : (Jvm.Cond.code ({ cls := "FetchNegotiator", name := "status", desc := "(I)I" } : Jvm.MethodName) prog_1_method_14_code (2 : Nat) (Option.some Jvm.ClassFile.FieldType.int)).before args0 about1 = true := code_word (m := ⟨2, 13⟩) (meth := k2m13) (c := k2c13) (by decide +kernel) rfl rfl rfl (by decide +kernel)
set_option maxRecDepth 65536 in
theorem w_c38 : (Jvm.Cond.code ({ cls := "FetchNegotiatorOwnLaw", name := "reach", desc := "(LFetchNegotiator;II)J" } : Jvm.MethodName) method_6_code (12 : Nat) (Option.some Jvm.ClassFile.FieldType.long)).before args0 about1 = true := code_word (m := ⟨1, 5⟩) (meth := k1m5) (c := k1c5) (by decide +kernel) rfl rfl rfl (by decide +kernel)
set_option maxRecDepth 65536 in
theorem w_c39 : (Jvm.Cond.code ({ cls := "FetchNegotiator", name := "link", desc := "(II)I" } : Jvm.MethodName) prog_1_method_12_code (3 : Nat) (Option.some Jvm.ClassFile.FieldType.int)).before args0 about1 = true := code_word (m := ⟨2, 11⟩) (meth := k2m11) (c := k2c11) (by decide +kernel) rfl rfl rfl (by decide +kernel)
set_option maxRecDepth 65536 in
theorem w_c40 : (Jvm.Cond.code ({ cls := "FetchNegotiator", name := "connected", desc := "()Z" } : Jvm.MethodName) prog_1_method_17_code (1 : Nat) (Option.some Jvm.ClassFile.FieldType.boolean)).before args0 about1 = true := code_word (m := ⟨2, 14⟩) (meth := k2m14) (c := k2c14) (by decide +kernel) rfl rfl rfl (by decide +kernel)
set_option maxRecDepth 65536 in
theorem w_c41 : (Jvm.Cond.code ({ cls := "FetchNegotiator", name := "markCommon", desc := "(I)V" } : Jvm.MethodName) prog_1_method_36_code (3 : Nat) (Option.none : Option Jvm.ClassFile.FieldType)).before args0 about1 = true := code_word (m := ⟨2, 33⟩) (meth := k2m33) (c := k2c33) (by decide +kernel) rfl rfl rfl (by decide +kernel)
def codes1 : List Jvm.Cond := [Jvm.Cond.code x code maxLocals ret, Jvm.Cond.code ({ cls := "FetchNegotiatorOwnLaw", name := "cell", desc := "([II)I" } : Jvm.MethodName) method_2_code (2 : Nat) (Option.some Jvm.ClassFile.FieldType.int), Jvm.Cond.code ({ cls := "FetchNegotiatorOwnLaw", name := "nat", desc := "(I)I" } : Jvm.MethodName) method_3_code (1 : Nat) (Option.some Jvm.ClassFile.FieldType.int), Jvm.Cond.code ({ cls := "FetchNegotiator", name := "<init>", desc := "(III)V" } : Jvm.MethodName) prog_1_method_1_code (4 : Nat) (Option.none : Option Jvm.ClassFile.FieldType), Jvm.Cond.code ({ cls := "java/lang/Object", name := "<init>", desc := "()V" } : Jvm.MethodName) object_method_1_code (1 : Nat) (Option.none : Option Jvm.ClassFile.FieldType), Jvm.Cond.code ({ cls := "FetchNegotiator", name := "clamp", desc := "(III)I" } : Jvm.MethodName) prog_1_method_18_code (4 : Nat) (Option.some Jvm.ClassFile.FieldType.int), Jvm.Cond.code ({ cls := "FetchNegotiator", name := "addBlob", desc := "()I" } : Jvm.MethodName) prog_1_method_2_code (1 : Nat) (Option.some Jvm.ClassFile.FieldType.int), Jvm.Cond.code ({ cls := "FetchNegotiator", name := "define", desc := "(IIIII)I" } : Jvm.MethodName) prog_1_method_23_code (7 : Nat) (Option.some Jvm.ClassFile.FieldType.int), Jvm.Cond.code ({ cls := "FetchNegotiator", name := "phase", desc := "()I" } : Jvm.MethodName) prog_1_method_10_code (1 : Nat) (Option.some Jvm.ClassFile.FieldType.int), Jvm.Cond.code ({ cls := "FetchNegotiatorOwnLaw", name := "pickKind", desc := "(LFetchNegotiator;II)I" } : Jvm.MethodName) method_4_code (4 : Nat) (Option.some Jvm.ClassFile.FieldType.int), Jvm.Cond.code ({ cls := "FetchNegotiator", name := "kindOf", desc := "(I)I" } : Jvm.MethodName) prog_1_method_11_code (2 : Nat) (Option.some Jvm.ClassFile.FieldType.int), Jvm.Cond.code ({ cls := "FetchNegotiator", name := "inRange", desc := "(I)Z" } : Jvm.MethodName) prog_1_method_19_code (2 : Nat) (Option.some Jvm.ClassFile.FieldType.boolean), Jvm.Cond.code ({ cls := "FetchNegotiator", name := "addTree", desc := "(III)I" } : Jvm.MethodName) prog_1_method_3_code (7 : Nat) (Option.some Jvm.ClassFile.FieldType.int), Jvm.Cond.code ({ cls := "FetchNegotiator", name := "validEntry", desc := "(I)Z" } : Jvm.MethodName) prog_1_method_21_code (2 : Nat) (Option.some Jvm.ClassFile.FieldType.boolean), Jvm.Cond.code ({ cls := "FetchNegotiator", name := "norm", desc := "(I)I" } : Jvm.MethodName) prog_1_method_20_code (2 : Nat) (Option.some Jvm.ClassFile.FieldType.int), Jvm.Cond.code ({ cls := "FetchNegotiator", name := "round", desc := "()I" } : Jvm.MethodName) prog_1_method_7_code (3 : Nat) (Option.some Jvm.ClassFile.FieldType.int), Jvm.Cond.code ({ cls := "FetchNegotiator", name := "anyWanted", desc := "()Z" } : Jvm.MethodName) prog_1_method_31_code (2 : Nat) (Option.some Jvm.ClassFile.FieldType.boolean), Jvm.Cond.code ({ cls := "FetchNegotiator", name := "hasFlag", desc := "(II)Z" } : Jvm.MethodName) prog_1_method_24_code (3 : Nat) (Option.some Jvm.ClassFile.FieldType.boolean), Jvm.Cond.code ({ cls := "FetchNegotiator", name := "addCommit", desc := "(IIII)I" } : Jvm.MethodName) prog_1_method_4_code (7 : Nat) (Option.some Jvm.ClassFile.FieldType.int), Jvm.Cond.code ({ cls := "FetchNegotiator", name := "validParent", desc := "(I)Z" } : Jvm.MethodName) prog_1_method_22_code (2 : Nat) (Option.some Jvm.ClassFile.FieldType.boolean), Jvm.Cond.code ({ cls := "FetchNegotiator", name := "give", desc := "(II)I" } : Jvm.MethodName) prog_1_method_5_code (6 : Nat) (Option.some Jvm.ClassFile.FieldType.int), Jvm.Cond.code ({ cls := "FetchNegotiator", name := "clearMark", desc := "()V" } : Jvm.MethodName) prog_1_method_27_code (2 : Nat) (Option.none : Option Jvm.ClassFile.FieldType), Jvm.Cond.code ({ cls := "FetchNegotiator", name := "markReach", desc := "(I)V" } : Jvm.MethodName) prog_1_method_28_code (5 : Nat) (Option.none : Option Jvm.ClassFile.FieldType), Jvm.Cond.code ({ cls := "FetchNegotiator", name := "newFetch", desc := "()V" } : Jvm.MethodName) prog_1_method_9_code (2 : Nat) (Option.none : Option Jvm.ClassFile.FieldType), Jvm.Cond.code ({ cls := "FetchNegotiator", name := "pack", desc := "()I" } : Jvm.MethodName) prog_1_method_8_code (3 : Nat) (Option.some Jvm.ClassFile.FieldType.int), Jvm.Cond.code ({ cls := "FetchNegotiatorOwnLaw", name := "pickWantable", desc := "(LFetchNegotiator;I)I" } : Jvm.MethodName) method_5_code (3 : Nat) (Option.some Jvm.ClassFile.FieldType.int), Jvm.Cond.code ({ cls := "FetchNegotiator", name := "want", desc := "(I)Z" } : Jvm.MethodName) prog_1_method_6_code (2 : Nat) (Option.some Jvm.ClassFile.FieldType.boolean), Jvm.Cond.code ({ cls := "FetchNegotiator", name := "has", desc := "(II)Z" } : Jvm.MethodName) prog_1_method_13_code (3 : Nat) (Option.some Jvm.ClassFile.FieldType.boolean), Jvm.Cond.code ({ cls := "FetchNegotiator", name := "setFlag", desc := "(II)V" } : Jvm.MethodName) prog_1_method_25_code (3 : Nat) (Option.none : Option Jvm.ClassFile.FieldType), Jvm.Cond.code ({ cls := "FetchNegotiator", name := "pickBatch", desc := "()V" } : Jvm.MethodName) prog_1_method_34_code (3 : Nat) (Option.none : Option Jvm.ClassFile.FieldType), Jvm.Cond.code ({ cls := "FetchNegotiator", name := "pickNext", desc := "()I" } : Jvm.MethodName) prog_1_method_33_code (3 : Nat) (Option.some Jvm.ClassFile.FieldType.int), Jvm.Cond.code ({ cls := "FetchNegotiator", name := "isEligible", desc := "(I)Z" } : Jvm.MethodName) prog_1_method_32_code (2 : Nat) (Option.some Jvm.ClassFile.FieldType.boolean), Jvm.Cond.code ({ cls := "FetchNegotiator", name := "answerBatch", desc := "(I)I" } : Jvm.MethodName) prog_1_method_35_code (5 : Nat) (Option.some Jvm.ClassFile.FieldType.int), Jvm.Cond.code ({ cls := "FetchNegotiator", name := "markFlagged", desc := "(I)V" } : Jvm.MethodName) prog_1_method_29_code (3 : Nat) (Option.none : Option Jvm.ClassFile.FieldType), Jvm.Cond.code ({ cls := "FetchNegotiator", name := "clearFlag", desc := "(II)V" } : Jvm.MethodName) prog_1_method_26_code (3 : Nat) (Option.none : Option Jvm.ClassFile.FieldType), Jvm.Cond.code ({ cls := "FetchNegotiator", name := "clientHoldsMarked", desc := "()Z" } : Jvm.MethodName) prog_1_method_30_code (2 : Nat) (Option.some Jvm.ClassFile.FieldType.boolean), Jvm.Cond.code ({ cls := "FetchNegotiatorOwnLaw", name := "check", desc := "(LFetchNegotiator;I)Z" } : Jvm.MethodName) method_7_code (10 : Nat) (Option.some Jvm.ClassFile.FieldType.boolean), Jvm.Cond.code ({ cls := "FetchNegotiator", name := "status", desc := "(I)I" } : Jvm.MethodName) prog_1_method_14_code (2 : Nat) (Option.some Jvm.ClassFile.FieldType.int), Jvm.Cond.code ({ cls := "FetchNegotiatorOwnLaw", name := "reach", desc := "(LFetchNegotiator;II)J" } : Jvm.MethodName) method_6_code (12 : Nat) (Option.some Jvm.ClassFile.FieldType.long), Jvm.Cond.code ({ cls := "FetchNegotiator", name := "link", desc := "(II)I" } : Jvm.MethodName) prog_1_method_12_code (3 : Nat) (Option.some Jvm.ClassFile.FieldType.int), Jvm.Cond.code ({ cls := "FetchNegotiator", name := "connected", desc := "()Z" } : Jvm.MethodName) prog_1_method_17_code (1 : Nat) (Option.some Jvm.ClassFile.FieldType.boolean), Jvm.Cond.code ({ cls := "FetchNegotiator", name := "markCommon", desc := "(I)V" } : Jvm.MethodName) prog_1_method_36_code (3 : Nat) (Option.none : Option Jvm.ClassFile.FieldType)]
set_option maxRecDepth 65536 in
theorem codes_eq : words1.filter isCode = codes1 := rfl
theorem w_codes : ∀ c ∈ words1.filter isCode, c.before args0 about1 = true := by
  rw [codes_eq]
  intro c hc
  simp only [codes1, List.mem_cons, List.not_mem_nil, or_false] at hc
  rcases hc with rfl | rfl | rfl | rfl | rfl | rfl | rfl | rfl | rfl | rfl | rfl | rfl | rfl | rfl | rfl | rfl | rfl | rfl | rfl | rfl | rfl | rfl | rfl | rfl | rfl | rfl | rfl | rfl | rfl | rfl | rfl | rfl | rfl | rfl | rfl | rfl | rfl | rfl | rfl | rfl | rfl | rfl
  · exact w_c0
  · exact w_c1
  · exact w_c2
  · exact w_c3
  · exact w_c4
  · exact w_c5
  · exact w_c6
  · exact w_c7
  · exact w_c8
  · exact w_c9
  · exact w_c10
  · exact w_c11
  · exact w_c12
  · exact w_c13
  · exact w_c14
  · exact w_c15
  · exact w_c16
  · exact w_c17
  · exact w_c18
  · exact w_c19
  · exact w_c20
  · exact w_c21
  · exact w_c22
  · exact w_c23
  · exact w_c24
  · exact w_c25
  · exact w_c26
  · exact w_c27
  · exact w_c28
  · exact w_c29
  · exact w_c30
  · exact w_c31
  · exact w_c32
  · exact w_c33
  · exact w_c34
  · exact w_c35
  · exact w_c36
  · exact w_c37
  · exact w_c38
  · exact w_c39
  · exact w_c40
  · exact w_c41
set_option maxRecDepth 65536 in
theorem w_t1 : (words1.take 24).all (fun c => isCode c || c.before args0 about1) = true := by decide +kernel
set_option maxRecDepth 65536 in
theorem w_t2 : ((words1.drop 24).take 24).all (fun c => isCode c || c.before args0 about1) = true := by decide +kernel
set_option maxRecDepth 65536 in
theorem w_t3 : (((words1.drop 24).drop 24).take 24).all (fun c => isCode c || c.before args0 about1) = true := by decide +kernel
set_option maxRecDepth 65536 in
theorem w_t4 : ((((words1.drop 24).drop 24).drop 24).take 24).all (fun c => isCode c || c.before args0 about1) = true := by decide +kernel
set_option maxRecDepth 65536 in
theorem w_t5 : (((((words1.drop 24).drop 24).drop 24).drop 24).take 24).all (fun c => isCode c || c.before args0 about1) = true := by decide +kernel
set_option maxRecDepth 65536 in
theorem w_t6 : ((((((words1.drop 24).drop 24).drop 24).drop 24).drop 24).take 24).all (fun c => isCode c || c.before args0 about1) = true := by decide +kernel
set_option maxRecDepth 65536 in
theorem w_t7 : (((((((words1.drop 24).drop 24).drop 24).drop 24).drop 24).drop 24).take 24).all (fun c => isCode c || c.before args0 about1) = true := by decide +kernel
set_option maxRecDepth 65536 in
theorem w_t8 : ((((((((words1.drop 24).drop 24).drop 24).drop 24).drop 24).drop 24).drop 24).take 24).all (fun c => isCode c || c.before args0 about1) = true := by decide +kernel
set_option maxRecDepth 65536 in
theorem w_t9 : ((((((((words1.drop 24).drop 24).drop 24).drop 24).drop 24).drop 24).drop 24).drop 24).all (fun c => isCode c || c.before args0 about1) = true := by decide +kernel
theorem w_tables : (allAtoms (Jvm.Cond.code x code maxLocals ret :: tables_1)).before args0 about1 = true := by
  rw [allAtoms_all]
  show words1.all (fun c => c.before args0 about1) = true
  refine all_split ?_ w_codes
  rw [← List.take_append_drop 24 words1, List.all_append, w_t1, ← List.take_append_drop 24 (words1.drop 24), List.all_append, w_t2, ← List.take_append_drop 24 ((words1.drop 24).drop 24), List.all_append, w_t3, ← List.take_append_drop 24 (((words1.drop 24).drop 24).drop 24), List.all_append, w_t4, ← List.take_append_drop 24 ((((words1.drop 24).drop 24).drop 24).drop 24), List.all_append, w_t5, ← List.take_append_drop 24 (((((words1.drop 24).drop 24).drop 24).drop 24).drop 24), List.all_append, w_t6, ← List.take_append_drop 24 ((((((words1.drop 24).drop 24).drop 24).drop 24).drop 24).drop 24), List.all_append, w_t7, ← List.take_append_drop 24 (((((((words1.drop 24).drop 24).drop 24).drop 24).drop 24).drop 24).drop 24), List.all_append, w_t8, w_t9]
  rfl
set_option maxRecDepth 65536 in
theorem w_rest : rest_1_c.before args0 about1 = true := by decide +kernel
set_option maxRecDepth 65536 in
theorem w_case : (Jvm.Cond.and given_1 narrow_1).before args0 about1 = true := by decide +kernel
theorem w_applies : (headSpec (Jvm.Cond.code x code maxLocals ret :: tables_1) room_1).applies x e0.platform about1 = true :=
  (Spec.applies_iff w_frames).mpr ⟨w_running, w_runnable, w_alone, w_named, w_hears, w_ripe, w_room, w_tables⟩
theorem atStart : AtStart classFile x code maxLocals ret World_1 tables_1 room_1 Calls_1 rest_1 Pre_1 launch0 p0 e0 about1 theMethod args0 below0 :=
  ⟨lists_1, trivial, launch0.admits_env _ _ _, launch0.least_env, fairChoices_fair.cas, fairChoices_fair.clock, w_frames, w_args, w_heap, w_applies, trivial, w_rest, w_case⟩
end start1
theorem witness_1 : WitnessClaimed_1 := ⟨start1.p0, start1.e0, start1.about1, start1.theMethod, start1.args0, start1.below0, start1.atStart⟩
end Jvm.Pilot.@@N@@
