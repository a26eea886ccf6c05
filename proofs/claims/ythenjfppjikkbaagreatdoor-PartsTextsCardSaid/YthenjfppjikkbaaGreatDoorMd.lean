/- The abstract machine, part 4 of 4: an evaluator for calls, quick in the kernel, and the proof that what it answers the program answers, in every world. -/
import Derived.Test.YthenjfppjikkbaaGreatDoorMc
import GoSem.ClaimFn
import GoSem.ClaimOpen
import GoSem.ClaimStop
import GoSem.ClaimGoes
import GoSem.ClaimJoined
import Derived.ChangeArms
import Derived.ChangeReads
namespace Go.Abs
noncomputable section
variable {P : Program}
/-- what each function names -/
def leadsL (P : Program) : List (List FuncId) := P.funcs.toList.map P.leadsTo
def nthL : List (List FuncId) → Nat → List FuncId
  | [], _ => []
  | a :: _, 0 => a
  | _ :: l, n + 1 => nthL l n
/-- the seen ones are looked up in a tree; what is named is looked up in a tree -/
def viaK (t : T (List FuncId)) (n : Nat) : List FuncId → List FuncId → T Unit → List FuncId :=
  Nat.rec (motive := fun _ => List FuncId → List FuncId → T Unit → List FuncId)
    (fun _ seen _ => seen.reverse)
    (fun _ ih todo seen m => List.rec (motive := fun _ => List FuncId) seen.reverse (fun f todo _ =>
      Option.rec (motive := fun _ => List FuncId)
        (T.setK (pathOf f) m (some ()) fun m => Option.rec (motive := fun _ => List FuncId) (ih todo (f :: seen) m) (fun l => ih (l ++ todo) (f :: seen) m) (t.get f))
        (fun _ => ih todo seen m) (m.get f)) todo) n
theorem closureVia_nil (n : Nat) (seen : List FuncId) : P.closureVia n [] seen = seen.reverse := by cases n <;> rfl
theorem viaK_eq (t : T (List FuncId)) (ht : ∀ f, t.get f = (P.funcs[f]?).map P.leadsTo) : ∀ (n : Nat) (todo seen : List FuncId) (m : T Unit), (∀ f, (m.get f).isSome = seen.contains f) → viaK t n todo seen m = P.closureVia n todo seen
  | 0, todo, seen, m, _ => by cases todo <;> rfl
  | n + 1, [], seen, m, _ => rfl
  | n + 1, f :: todo, seen, m, hm => by
    have e : viaK t (n + 1) (f :: todo) seen m = match m.get f with
        | none => T.setK (pathOf f) m (some ()) fun m => match t.get f with
          | none => viaK t n todo (f :: seen) m
          | some l => viaK t n (l ++ todo) (f :: seen) m
        | some _ => viaK t n todo seen m := by
      show Option.rec (motive := fun _ => List FuncId) (T.setK (pathOf f) m (some ()) fun m => Option.rec (motive := fun _ => List FuncId) (viaK t n todo (f :: seen) m) (fun l => viaK t n (l ++ todo) (f :: seen) m) (t.get f)) (fun _ => viaK t n todo seen m) (m.get f) = _
      cases m.get f with
      | none =>
        simp only
        congr 1
        funext m'
        cases t.get f <;> rfl
      | some _ => rfl
    rw [e]
    have hf := hm f
    show _ = if seen.contains f then P.closureVia n todo seen else P.closureVia n ((P.funcs[f]?).elim [] P.leadsTo ++ todo) (f :: seen)
    cases hg : m.get f with
    | some u =>
      rw [hg] at hf
      rw [← hf]
      exact viaK_eq t ht n todo seen m hm
    | none =>
      rw [hg] at hf
      rw [← hf]
      simp only [Option.isSome_none, Bool.false_eq_true, if_false]
      rw [T.setK_eq]
      have hm' : ∀ g, ((m.set (pathOf f) (some ())).get g).isSome = (f :: seen).contains g := fun g => by
        rw [T.get_set, List.contains_cons]
        by_cases e : g = f
        · subst e; simp
        · rw [if_neg e, hm g]
          have : (g == f) = false := by rw [beq_eq_false_iff_ne]; exact e
          rw [this]; rfl
      rw [ht f]
      cases hfn : P.funcs[f]? with
      | none => exact viaK_eq t ht n todo (f :: seen) _ hm'
      | some fn => exact viaK_eq t ht n (P.leadsTo fn ++ todo) (f :: seen) _ hm'
/-- a list's lists, by their numbers -/
theorem ofList_get (l : List (List FuncId)) (n : Nat) : (T.ofList l).get n = l[n]? := by
  unfold T.ofList
  rw [T.fillK_eq, id, T.get_fill]
  split
  · simp
  · rename_i h
    rw [T.get_leaf]
    symm
    rw [List.getElem?_eq_none_iff]
    omega
def fuelL (l : List (List FuncId)) : Nat := 1 + (l.map fun x => x.length + 1).sum
theorem closure_eq {L : List (List FuncId)} (hL : leadsL P = L) (f : FuncId) : P.closure f = viaK (T.ofList L) (fuelL L) [f] [] .leaf := by
  rw [viaK_eq (P := P)]
  · unfold Program.closure fuelL
    rw [← hL]
    unfold leadsL
    rw [List.map_map]
    rfl
  · intro g
    rw [ofList_get, ← hL]
    unfold leadsL
    rw [List.getElem?_map, Array.getElem?_toList]
  · intro g
    rw [T.get_leaf]
    rfl
/-! a look at all numbers below one, in pieces -/
theorem all_zero (p : Nat → Bool) : (List.range 0).all p = true := rfl
theorem all_step {p : Nat → Bool} {a b : Nat} (h0 : (List.range a).all p = true) (h1 : (List.range' a b).all p = true) : (List.range (a + b)).all p = true := by
  rw [List.all_eq_true] at h0 h1 ⊢
  intro x hx
  rw [List.mem_range] at hx
  by_cases h : x < a
  · exact h0 x (List.mem_range.2 h)
  · refine h1 x ?_
    rw [List.mem_range'_1]
    omega
theorem all_size {p : Nat → Bool} {n m : Nat} (hn : n = m) (h : (List.range m).all p = true) : (List.range n).all p = true := by rw [hn]; exact h
end
end Go.Abs
namespace Go.Abs
noncomputable section
variable {P : Program}
theorem ofListG_get {α : Type} (l : List α) (n : Nat) : (T.ofList l).get n = l[n]? := by
  unfold T.ofList
  rw [T.fillK_eq, id, T.get_fill]
  split
  · simp
  · rename_i h
    rw [T.get_leaf]
    symm
    rw [List.getElem?_eq_none_iff]
    omega
theorem funcs_get {α : Type} (h : Func → α) {L : List α} (hL : P.funcs.toList.map h = L) (g : Nat) : (P.funcs[g]?).map h = (T.ofList L).get g := by
  rw [ofListG_get, ← hL, List.getElem?_map, Array.getElem?_toList]
def inH (fn : Func) : Option String := if fn.ours || fn.body.isNone || fn.name == "runtime.NumGoroutine" then some fn.name else none
def glH (fn : Func) : List Nat := fn.body.elim [] Code.globalsNamed
def erH (fn : Func) : Option String := if fn.body.isNone then entryReads.lookup fn.name else none
def atO {α : Type} (t : T (Option α)) (g : Nat) : Option α :=
  match t.get g with
  | some x => x
  | none => none
def atL {α : Type} (t : T (List α)) (g : Nat) : List α :=
  match t.get g with
  | some x => x
  | none => []
theorem inPlace_eq {f : FuncId} {C : List FuncId} {L : List (Option String)} (hc : P.closure f = C) (hL : P.funcs.toList.map inH = L) : P.inPlace f = C.filterMap (atO (T.ofList L)) := by
  unfold Program.inPlace
  rw [hc]
  congr 1
  funext g
  unfold atO
  rw [← funcs_get inH hL g]
  cases P.funcs[g]? <;> rfl
theorem varsNamed_eq {f : FuncId} {C : List FuncId} {L : List (List Nat)} {R : List (Option String)} (hc : P.closure f = C) (hL : P.funcs.toList.map glH = L) (hR : P.funcs.toList.map erH = R) :
    P.varsNamed f = (((C.flatMap (atL (T.ofList L))).eraseDups).filterMap (fun g => (P.globals[g]?).map (·.name)) ++ C.filterMap (atO (T.ofList R))).eraseDups := by
  unfold Program.varsNamed
  rw [hc]
  have e1 : (fun g => ((P.funcs[g]?).bind (·.body)).elim [] Code.globalsNamed) = atL (T.ofList L) := by
    funext g
    unfold atL
    rw [← funcs_get glH hL g]
    cases P.funcs[g]? <;> rfl
  have e2 : (fun g => (P.funcs[g]?).bind fun fn => if fn.body.isNone then entryReads.lookup fn.name else none) = atO (T.ofList R) := by
    funext g
    unfold atO
    rw [← funcs_get erH hR g]
    cases P.funcs[g]? <;> rfl
  rw [e1, e2]
theorem stopsHeard_eq (h : P.funcs.toList.all (fun fn => (Stop.rowOf fn).isNone || !fn.norace) = true) : P.stopsHeard = true := by
  unfold Program.stopsHeard
  rw [← Array.all_toList]; exact h
theorem laysLater_eq (h : P.funcs.toList.any (fun fn => fn.body.isNone && (fn.name == "runtime.SetFinalizer" || fn.name == "runtime.AddCleanup" || fn.origin == "runtime.AddCleanup")) = false) : P.laysLater = false := by
  unfold Program.laysLater
  rw [← Array.any_toList]; exact h
def atB (t : T Bool) (g : Nat) : Bool :=
  match t.get g with
  | some b => b
  | none => false
def oneOf : List Nat → Option Nat
  | [i] => some i
  | _ => none
theorem funcNamed_eq {name : String} {L : List Bool} (hL : P.funcs.toList.map (fun fn => fn.name == name) = L) : P.funcNamed name = oneOf ((List.range L.length).filter (atB (T.ofList L))) := by
  have hn : L.length = P.funcs.size := by rw [← hL, List.length_map, Array.length_toList]
  have e : (fun i => (P.funcs[i]?).any (·.name == name)) = atB (T.ofList L) := by
    funext i
    unfold atB
    rw [← funcs_get (fun fn => fn.name == name) hL i]
    cases P.funcs[i]? <;> rfl
  unfold Program.funcNamed
  rw [hn, e]
  unfold oneOf
  split <;> simp_all
theorem goes_no (h : P.funcs.toList.any Func.goes = false) (f : FuncId) : P.goes f = false := by
  have hg : ∀ g : FuncId, (P.funcs[g]?).any Func.goes = false := fun g => by
    cases hf : P.funcs[g]? with
    | none => rfl
    | some fn =>
      rw [List.any_eq_false] at h
      have hm : fn ∈ P.funcs.toList := by
        rw [Array.mem_toList_iff]
        exact Array.mem_of_getElem? hf
      simpa using h fn hm
  have h2 : P.funcs.any Func.goes = false := by rw [← Array.any_toList]; exact h
  unfold Program.goes
  rw [h2, Bool.and_false, Bool.or_false, List.any_eq_false]
  intro g _
  rw [hg g]
  simp
theorem goesBy_no {c : OpenClaim} (h : P.funcs.toList.any Func.goes = false) (hs : c.start = .entering) : false = c.goesBy P := by
  unfold OpenClaim.goesBy Program.goesAt Program.goesFrom
  rw [hs]
  cases P.funcNamed c.func with
  | none => rfl
  | some f =>
    show false = (P.goes f || false)
    rw [goes_no h f]
    rfl
theorem beq_of {α : Type} [BEq α] [ReflBEq α] {a b c : α} (h : b = c) (h2 : (a == c) = true) : (a == b) = true := by rw [h]; exact h2
end
end Go.Abs
namespace Go.Abs
noncomputable section
variable {P : Program} {E : Env} {w : World}
/-! rows that are only read from -/
structure LRow where
  nm : Nat
  l : List AV
def LRow.obj (r : LRow) : AObj := rowOf1 r.l 0 false true
def laidHeap (rs : List LRow) : Heap := heapOf (rs.map fun r => (r.nm, r.obj))
theorem heapOf_get : ∀ {l : List (Nat × AObj)} {n : Nat} {a : AObj}, (heapOf l).get n = some a → (n, a) ∈ l
  | [], n, a, h => by
    have : (T.leaf : Heap).get n = some a := h
    rw [T.get_leaf] at this; cases this
  | x :: l, n, a, h => by
    unfold heapOf at h
    rw [T.setK_eq, T.get_set] at h
    split at h
    · rename_i e
      injection h with h
      rw [e, ← h]; exact List.mem_cons_self
    · exact List.mem_cons_of_mem _ (heapOf_get h)
theorem laidHeap_get {rs : List LRow} {n : Nat} {a : AObj} (h : (laidHeap rs).get n = some a) : ∃ r ∈ rs, r.nm = n ∧ a = r.obj := by
  obtain ⟨r, h1, h2⟩ := List.mem_map.1 (heapOf_get h)
  injection h2 with h2 h3
  exact ⟨r, h1, h2, h3.symm⟩
theorem ofList_getA {α : Type} (l : List α) (q : Nat) : (T.ofList l).get q = l[q]? := by
  unfold T.ofList
  rw [T.fillK_eq]
  show (T.fill l 0 .leaf).get q = _
  rw [T.get_fill]
  split
  · rw [Nat.sub_zero]
  · rw [T.get_leaf, List.getElem?_eq_none]; omega
/-- the heap in which a run begins that reads variables -/
theorem HR.startL {rows : List LRow} {nx0 : Nat} {ρ0 : Rho} (h1 : ∀ r ∈ rows, r.nm < nx0) (h2 : ∀ nm, nx0 ≤ nm → ρ0 nm = Option.none) (h3 : ∀ nm b, ρ0 nm = some b → b < w.heap.size) (h4 : ∀ b, ρ0.cap b = Option.none)
    (h5 : ∀ nm, ρ0.sh nm ≠ 0 → ∃ b, ρ0 nm = some b)
    (h6 : ∀ r ∈ rows, ∀ b, ρ0 r.nm = some b → ∃ arr ty fz, w.heap[b]? = some (.cells arr ty fz) ∧ r.l.length + ρ0.sh r.nm ≤ arr.size ∧ r.l.all AV.one = true ∧ ∀ (j : Nat) a, r.l[j]? = some a → ∃ v, arr[j + ρ0.sh r.nm]? = some v ∧ VR ρ0 a v) :
    HR w.heap.size w ρ0 (laidHeap rows) nx0 w := by
  have hget : ∀ {n a}, (laidHeap rows).get n = some a → ∃ r ∈ rows, r.nm = n ∧ a = r.obj := fun hg => laidHeap_get hg
  refine ⟨fun nm a b hg hb => ?_, fun nm _ _ _ b _ _ hb _ hBb => absurd (h3 nm b hb) (by omega), fun nm a b hg _ _ => ?_, fun nm hl => ⟨?_, h2 nm hl⟩, fun _ _ => rfl, Nat.le_refl _, h3, (fun b k hb => by rw [h4] at hb; cases hb),
    (fun _ _ _ _ _ _ _ b _ _ _ _ _ hb => by rw [h4 b] at hb; cases hb), WS.refl w, fun nm hn => ?_⟩
  · obtain ⟨r, hr, rfl, rfl⟩ := hget hg
    obtain ⟨arr, ty, fz, g1, g2, g3, g4⟩ := h6 r hr b hb
    refine ⟨_, g1, arr, ty, fz, rfl, (fun h => by rcases h with h | h <;> cases h), by omega, (fun h => by cases h), (fun h => by cases h), fun q l hq => ?_⟩
    rw [ofList_getA, singles_get] at hq
    cases ha : r.l[q]? with
    | none => rw [ha] at hq; cases hq
    | some a =>
      rw [ha] at hq
      injection hq with hq; subst hq
      have hlt := (List.getElem?_eq_some_iff.1 ha).1
      have hone : a.one = true := List.all_eq_true.1 g3 a (List.mem_of_getElem? ha)
      refine ⟨hlt, rfl, by simp [hone], fun j x hx => ?_⟩
      cases j with
      | succ j => simp at hx
      | zero =>
        simp at hx; subst hx
        obtain ⟨v, k1, k2⟩ := g4 q a ha
        refine ⟨v, ?_, k2⟩
        rw [← k1]; congr 1; omega
  · obtain ⟨r, _, rfl, rfl⟩ := hget hg
    rfl
  · cases hg : (laidHeap rows).get nm with
    | none => rfl
    | some a =>
      obtain ⟨r, hr, rfl, _⟩ := hget hg
      have := h1 r hr; omega
  · obtain ⟨b, hb⟩ := h5 nm hn
    exact ⟨b, hb, h3 nm b hb⟩
/-! what is told where variables are as they were laid -/
def LaidAt (G : Nat) (h0 : Heap) (nx0 : Nat) (w : World) : Prop := ∃ ρ0, HR w.heap.size w ρ0 h0 nx0 w ∧ ∀ g, g < G → ρ0 g = some g ∧ ρ0.sh g = 0
def ToldIn (P : Program) (G : Nat) (h0 : Heap) (nx0 : Nat) (f : FuncId) (as : List AV) (v : AV) : Prop := ∀ w : World, LaidAt G h0 nx0 w → Told P w.heap.size w f as v
theorem FactR.allIn {G : Nat} {h0 : Heap} {nx0 : Nat} (hE : EOk2 P E) (hmix : P.follows .mixedOrders = true) (hK : ∀ w : World, LaidAt G h0 nx0 w → KnownOk P E w.heap.size w) (hg : E.glob = G) {f : FuncId} {as : List AV} {v : AV} (hf : FactR P E h0 nx0 f as v) : ToldIn P G h0 nx0 f as v := fun w hw => by
  obtain ⟨ρ0, H, hG⟩ := hw
  exact hf.told hE (hK w ⟨ρ0, H, hG⟩) hmix H rfl (fun g hg' => hG g (by rw [← hg]; exact hg'))
theorem ToldIn.calls {G : Nat} {h0 : Heap} {nx0 : Nat} {f : FuncId} {b : Bool} (h : ToldIn P G h0 nx0 f [] (.bool b)) {w : World} (hw : LaidAt G h0 nx0 w) : Calls P f #[] w (fun e w' => e = .returned (.bool b) ∧ WS w w' ∧ w.heap.size ≤ w'.heap.size ∧ ∀ i, i < w.heap.size → w'.heap[i]? = w.heap[i]?) := by
  refine ((h w hw).2 w (Nat.le_refl _) (fun _ _ => rfl) rho0 #[] VRs.nil).mono fun e w' ⟨cv, he, hv, h0, h1, h2⟩ => ?_
  simp only [VR] at hv
  subst hv
  exact ⟨he, h0, h1, h2⟩
/-! what is told of pointers into rows -/
def liesB (P : Program) (x : TypeId × Nat × Nat × TypeId) : Bool := liesAt P P.depth x.1 (x.2.1 / P.cellsOf x.1) x.2.2.1 x.2.2.2 1
def lieIn (e n off u : Nat) : List (TypeId × Nat × Nat × TypeId) → Bool
  | [] => false
  | x :: l => (Nat.beq x.1 e && (Nat.beq x.2.1 n && (Nat.beq x.2.2.1 off && Nat.beq x.2.2.2 u))) || lieIn e n off u l
theorem lieIn_mem {e n off u : Nat} : ∀ {l : List (TypeId × Nat × Nat × TypeId)}, lieIn e n off u l = true → (e, n, off, u) ∈ l
  | [], h => by cases h
  | x :: l, h => by
    unfold lieIn at h
    rw [Bool.or_eq_true] at h
    rcases h with h | h
    · simp only [Bool.and_eq_true, Nat.beq_eq] at h
      obtain ⟨a, b, c, d⟩ := x
      obtain ⟨rfl, rfl, rfl, rfl⟩ := h
      exact List.mem_cons_self
    · exact List.mem_cons_of_mem _ (lieIn_mem h)
def envLies (l : List (TypeId × Nat × Nat × TypeId)) (E : Env) : Env := { E with lies := fun a n b c => lieIn a n b c l }
theorem envLies_ok {l : List (TypeId × Nat × Nat × TypeId)} (hE : EOk2 P E) (h : l.all (liesB P) = true) : EOk2 P (envLies l E) :=
  { plain := hE.plain, lies := fun _ _ _ _ hl => List.all_eq_true.1 h _ (lieIn_mem hl), idx := hE.idx, same := hE.same, method := hE.method, count := hE.count, atom := hE.atom }
/-! how laid variables read -/
section
variable {H : Type} {enc : TypeId × Value → H} {base : Nat} {spare : Nat → Bool} {held : Bool} {fuel m : Nat} {t e : TypeId} {cs : List Value} {x : DataW H × List MemPlace}
theorem trod_array {n : Nat} (ht : P.underlying t = some (.array n e)) (h : DataW.trod enc P w base spare held fuel t cs = some x) :
    ∃ (xs : List (DataW H × List MemPlace)) (m : Nat), fuel = m + 1 ∧ x = (.agg (xs.map (·.1)), xs.flatMap (·.2)) ∧ cs.length = P.cellsOf t ∧ xs.length = n ∧
      ∀ (i : Nat), i < n → DataW.trod enc P w base spare held m e ((cs.drop (i * P.cellsOf e)).take (P.cellsOf e)) = xs[i]? := by
  cases fuel with
  | zero => simp [DataW.trod] at h
  | succ n =>
    unfold DataW.trod at h
    rw [ht] at h
    split at h <;> simp_all
    obtain ⟨hl, xs, hp, hd⟩ := h
    exact ⟨xs, hd.symm, by simpa using mapM_some_length hp, fun i hi => mapM_some_get hp i i (by simp [hi])⟩
end
theorem laid_get : ∀ {l : List (String × DataW Unit)} {ps : List MemPlace} {n : String} {d : DataW Unit}, DataW.LaidVars P w l ps → (n, d) ∈ l →
    ∃ g t cs fuel p, P.globalNamed n = some g ∧ (P.globals[g]?).map (·.type) = some t ∧ w.var? P n = some cs ∧ DataW.trod (fun _ => ()) P w 0 (fun _ => true) false fuel t cs.toList = some (d, p)
  | (n0, d0) :: l, ps, n, d, h, hm => by
    obtain ⟨g, t, cs, fuel, p, q, h1, h2, h3, h4, h5, _⟩ := h
    rcases List.mem_cons.1 hm with e | hm
    · injection e with e1 e2
      subst e1 e2
      exact ⟨g, t, cs, fuel, p, h1, h2, h3, h4⟩
    · exact laid_get h5 hm
def strA (s : List UInt8) : AV := .str s.length (bytesNat s)
theorem strA_ok {ρ : Rho} {s : ByteArray} {l : List UInt8} (h : s.data.toList = l) : VR ρ (strA l) (.string s) := by
  subst h
  simp only [strA, VR]
  exact ⟨s, rfl, rfl⟩
/-- strings that stand in a row -/
def StrsAt (w : World) (b σ : Nat) (ss : List (List UInt8)) : Prop :=
  ∃ arr ty fz, w.heap[b]? = some (.cells arr ty fz) ∧ ss.length + σ ≤ arr.size ∧ ∀ (j : Nat) s, ss[j]? = some s → ∃ bs : ByteArray, arr[j + σ]? = some (.string bs) ∧ bs.data.toList = s
/-- an array of strings -/
theorem laid_arr {laid : List (String × DataW Unit)} {n : String} {ss : List (List UInt8)} {g k : Nat} {t e : TypeId} (hl : laidMet P laid w) (hm : (n, .agg (ss.map fun s => .lit (.string s))) ∈ laid)
    (hg : P.globalNamed n = some g) (ht : (P.globals[g]?).map (·.type) = some t) (hu : P.underlying t = some (.array k e)) (he : P.underlying e = some .string) (hc : P.cellsOf e = 1) : StrsAt w g 0 ss := by
  obtain ⟨ps, hl, _⟩ := hl
  obtain ⟨g', t', cs, fuel, p, h1, h2, h3, h4⟩ := laid_get hl hm
  rw [hg] at h1; injection h1 with h1; subst h1
  rw [ht] at h2; injection h2 with h2; subst h2
  obtain ⟨xs, m, rfl, hx, hlen, hxl, hel⟩ := trod_array hu h4
  injection hx with hx hp
  injection hx with hx
  unfold World.var? at h3
  rw [hg] at h3
  simp only [Option.bind_some] at h3
  split at h3
  · rename_i cs' ty fz hb
    injection h3 with h3; subst h3
    have hss : ss.length = xs.length := by rw [← List.length_map (f := fun s => (DataW.lit (Lit.string s) : DataW Unit)), hx, List.length_map]
    have key : ∀ (j : Nat) s, ss[j]? = some s → ∃ bs : ByteArray, cs'[j]? = some (.string bs) ∧ bs.data.toList = s := fun j s hj => by
      have hjl : j < ss.length := (List.getElem?_eq_some_iff.1 hj).1
      have h5 := hel j (by omega)
      rw [hc, Nat.mul_one] at h5
      have hxj : ∃ y, xs[j]? = some y := ⟨xs[j]'(by omega), List.getElem?_eq_getElem _⟩
      obtain ⟨y, hy⟩ := hxj
      rw [hy] at h5
      obtain ⟨bs, h6, h7, _⟩ := DataW.trod_string he h5
      refine ⟨bs, ?_, ?_⟩
      · have h8 : ((cs'.toList.drop j).take 1)[0]? = some (.string bs) := by rw [h6]; rfl
        rw [List.getElem?_take_of_lt (by omega), List.getElem?_drop, Array.getElem?_toList] at h8
        exact h8
      · have h9 : (ss.map fun s => (DataW.lit (Lit.string s) : DataW Unit))[j]? = (xs.map (·.1))[j]? := by rw [hx]
        rw [List.getElem?_map, List.getElem?_map, hj, hy] at h9
        simp only [Option.map_some, Option.some.injEq] at h9
        rw [h7] at h9
        injection h9 with h9
        injection h9 with h9
        exact h9.symm
    refine ⟨cs', ty, fz, hb, ?_, fun j s hj => by rw [Nat.add_zero]; exact key j s hj⟩
    rcases Nat.eq_zero_or_pos ss.length with h0 | h0
    · omega
    · obtain ⟨bs, k1, _⟩ := key (ss.length - 1) (ss[ss.length - 1]'(by omega)) (List.getElem?_eq_getElem _)
      have := (Array.getElem?_eq_some_iff.1 k1).1
      omega
  · cases h3
/-- a slice of strings -/
theorem laid_slc {laid : List (String × DataW Unit)} {n : String} {ss : List (List UInt8)} {g : Nat} {t e : TypeId} (hl : laidMet P laid w) (hm : (n, .slice (ss.map fun s => .lit (.string s)) []) ∈ laid)
    (hg : P.globalNamed n = some g) (ht : (P.globals[g]?).map (·.type) = some t) (hu : P.underlying t = some (.slice e)) (he : P.underlying e = some .string) (hc : P.cellsOf e = 1) (h0 : 0 < ss.length) :
    ∃ b σ ty fz, w.heap[g]? = some (.cells #[.slice (some ⟨b, σ, none⟩) ss.length ss.length] ty fz) ∧ StrsAt w b σ ss := by
  obtain ⟨ps, hl, _⟩ := hl
  obtain ⟨g', t', cs, fuel, p, h1, h2, h3, h4⟩ := laid_get hl hm
  rw [hg] at h1; injection h1 with h1; subst h1
  rw [ht] at h2; injection h2 with h2; subst h2
  rcases DataW.trod_slice hu h4 with ⟨_, hx⟩ | ⟨a, len, cap, elems, rest, m, rfl, hcs, hx, _, hle, _, hel, hat, hsp, _⟩
  · injection hx with hx; cases hx
  · injection hx with hx hp
    injection hx with hx hr
    have hrest : rest = [] := by
      cases rest with
      | nil => rfl
      | cons a l => cases hr
    have hss : ss.length = len := by rw [← hel, ← List.length_map (f := fun s => (DataW.lit (Lit.string s) : DataW Unit)), hx, List.length_map]
    have hcap : cap = len := by
      have := (hsp rfl).1
      rw [hrest] at this
      simp at this; omega
    subst hcap
    unfold World.var? at h3
    rw [hg] at h3
    simp only [Option.bind_some] at h3
    split at h3
    · rename_i cs' ty fz hb
      injection h3 with h3; subst h3
      have hcs' : cs' = #[.slice (some a) cap cap] := by
        apply Array.toList_inj.1
        rw [hcs]
      have key : ∀ (j : Nat) s, ss[j]? = some s → ∃ bs : ByteArray, w.cell? (a.add j) = some (.string bs) ∧ bs.data.toList = s := fun j s hj => by
        have hjl : j < ss.length := (List.getElem?_eq_some_iff.1 hj).1
        have h5 := hat j (by omega)
        rw [hc, Nat.mul_one] at h5
        have hxj : ∃ y, elems[j]? = some y := ⟨elems[j]'(by omega), List.getElem?_eq_getElem _⟩
        obtain ⟨y, hy⟩ := hxj
        rw [hy] at h5
        simp only [Option.bind_eq_some_iff] at h5
        obtain ⟨cj, h6, h7⟩ := h5
        obtain ⟨bs, h8, h9, _⟩ := DataW.trod_string he h7
        refine ⟨bs, ?_, ?_⟩
        · unfold World.cells? at h6
          rw [if_pos (Nat.zero_le _)] at h6
          have h10 := mapM_some_get h6 0 0 rfl
          rw [h8] at h10
          simpa [Addr.add] using h10
        · have h9' : (ss.map fun s => (DataW.lit (Lit.string s) : DataW Unit))[j]? = (elems.map (·.1))[j]? := by rw [hx]
          rw [List.getElem?_map, List.getElem?_map, hj, hy] at h9'
          simp only [Option.map_some, Option.some.injEq] at h9'
          rw [h9] at h9'
          injection h9' with h9'
          injection h9' with h9'
          exact h9'.symm
      obtain ⟨bs0, k0, _⟩ := key 0 (ss[0]'h0) (List.getElem?_eq_getElem _)
      obtain ⟨b, σ, spot⟩ := a
      have hcell : ∃ arr ty' fz', w.heap[b]? = some (.cells arr ty' fz') ∧ spot = none := by
        unfold World.cell? at k0
        split at k0
        · rename_i c _ _ hb'
          split at k0
          · cases k0
          · rename_i hs
            refine ⟨_, _, _, hb', ?_⟩
            cases spot with
            | none => rfl
            | some y => exact absurd rfl hs
        · cases k0
      obtain ⟨arr, ty', fz', hb', rfl⟩ := hcell
      refine ⟨b, σ, ty, fz, by rw [hb, hcs', hss], arr, ty', fz', hb', ?_, ?_⟩
      · have key2 : ∀ (j : Nat) s, ss[j]? = some s → ∃ bs : ByteArray, arr[j + σ]? = some (.string bs) ∧ bs.data.toList = s := fun j s hj => by
          obtain ⟨bs, k1, k2⟩ := key j s hj
          refine ⟨bs, ?_, k2⟩
          rw [addrAdd] at k1
          unfold World.cell? at k1
          simp only [hb'] at k1
          rw [Nat.add_comm]
          simpa using k1
        obtain ⟨bs, k1, _⟩ := key2 (ss.length - 1) (ss[ss.length - 1]'(by omega)) (List.getElem?_eq_getElem _)
        have := (Array.getElem?_eq_some_iff.1 k1).1
        omega
      · intro j s hj
        obtain ⟨bs, k1, k2⟩ := key j s hj
        refine ⟨bs, ?_, k2⟩
        rw [addrAdd] at k1
        unfold World.cell? at k1
        simp only [hb'] at k1
        rw [Nat.add_comm]
        simpa using k1
    · cases h3
/-! variables that are arrays of strings, and at most one slice of strings -/
def LRow.strs (x : Nat × List (List UInt8)) : LRow := ⟨x.1, x.2.map strA⟩
theorem strs_row {ρ0 : Rho} {b σ : Nat} {ss : List (List UInt8)} (h : StrsAt w b σ ss) : ∃ arr ty fz, w.heap[b]? = some (.cells arr ty fz) ∧ (ss.map strA).length + σ ≤ arr.size ∧ (ss.map strA).all AV.one = true ∧ ∀ (j : Nat) a, (ss.map strA)[j]? = some a → ∃ v, arr[j + σ]? = some v ∧ VR ρ0 a v := by
  obtain ⟨arr, ty, fz, h1, h2, h3⟩ := h
  refine ⟨arr, ty, fz, h1, by rw [List.length_map]; exact h2, ?_, fun j a ha => ?_⟩
  · rw [List.all_map]
    exact List.all_eq_true.2 fun _ _ => rfl
  · rw [List.getElem?_map] at ha
    cases hs : ss[j]? with
    | none => rw [hs] at ha; cases ha
    | some s =>
      rw [hs] at ha
      injection ha with ha; subst ha
      obtain ⟨bs, k1, k2⟩ := h3 j s hs
      exact ⟨_, k1, strA_ok k2⟩
theorem StrsAt.lt {b σ : Nat} {ss : List (List UInt8)} (h : StrsAt w b σ ss) : b < w.heap.size := by
  obtain ⟨arr, ty, fz, h1, _⟩ := h
  exact (Array.getElem?_eq_some_iff.1 h1).1
theorem LaidAt.arrs {arrs : List (Nat × List (List UInt8))} {G : Nat} (hG : G ≤ w.heap.size) (h : ∀ x ∈ arrs, x.1 < G ∧ StrsAt w x.1 0 x.2) : LaidAt G (laidHeap (arrs.map LRow.strs)) G w := by
  refine ⟨⟨fun n => if n < G then some n else Option.none, fun _ => Option.none, fun _ => 0⟩, HR.startL (fun r hr => ?_) (fun nm hl => ?_) (fun nm b hb => ?_) (fun _ => rfl) (fun _ hn => absurd rfl hn) (fun r hr b hb => ?_), fun g hg => ⟨?_, rfl⟩⟩
  · obtain ⟨x, hx, rfl⟩ := List.mem_map.1 hr
    exact (h x hx).1
  · show (if nm < G then some nm else Option.none) = Option.none
    rw [if_neg (by omega)]
  · have hb' : (if nm < G then some nm else Option.none) = some b := hb
    split at hb'
    · injection hb' with hb'; omega
    · cases hb'
  · obtain ⟨x, hx, rfl⟩ := List.mem_map.1 hr
    have hb' : (if x.1 < G then some x.1 else Option.none) = some b := hb
    rw [if_pos (h x hx).1] at hb'
    injection hb' with hb'; subst hb'
    exact strs_row (h x hx).2
  · show (if g < G then some g else Option.none) = some g
    rw [if_pos hg]
theorem LaidAt.slc {arrs : List (Nat × List (List UInt8))} {G g : Nat} {ss : List (List UInt8)} (hG : G ≤ w.heap.size) (hg : g < G) (h : ∀ x ∈ arrs, x.1 < G ∧ StrsAt w x.1 0 x.2)
    (hs : ∃ b σ ty fz, w.heap[g]? = some (.cells #[.slice (some ⟨b, σ, none⟩) ss.length ss.length] ty fz) ∧ StrsAt w b σ ss) :
    LaidAt G (laidHeap (⟨g, [.slc G 0 ss.length (some ss.length)]⟩ :: LRow.strs (G, ss) :: arrs.map LRow.strs)) (G + 1) w := by
  obtain ⟨bb, σ, ty, fz, hgb, hss⟩ := hs
  have fG : ∀ {n : Nat}, n < G → (if n < G then some n else if n = G then some bb else Option.none) = some n := fun hn => by rw [if_pos hn]
  have fS : (if G < G then some G else if G = G then some bb else Option.none) = some bb := by rw [if_neg (by omega), if_pos rfl]
  have sG : ∀ {n : Nat}, n < G → (if n = G then σ else 0) = 0 := fun hn => by rw [if_neg (by omega)]
  have sS : (if G = G then σ else 0) = σ := by rw [if_pos rfl]
  refine ⟨⟨fun n => if n < G then some n else if n = G then some bb else Option.none, fun _ => Option.none, fun n => if n = G then σ else 0⟩, HR.startL (fun r hr => ?_) (fun nm hl => ?_) (fun nm b hb => ?_) (fun _ => rfl) (fun nm hn => ?_) (fun r hr b hb => ?_), fun g hg => ⟨fG hg, sG hg⟩⟩
  · rcases List.mem_cons.1 hr with rfl | hr
    · show g < G + 1; omega
    rcases List.mem_cons.1 hr with rfl | hr
    · show G < G + 1; omega
    · obtain ⟨x, hx, rfl⟩ := List.mem_map.1 hr
      have := (h x hx).1
      show x.1 < G + 1; omega
  · show (if nm < G then some nm else if nm = G then some bb else Option.none) = Option.none
    rw [if_neg (by omega), if_neg (by omega)]
  · have hb' : (if nm < G then some nm else if nm = G then some bb else Option.none) = some b := hb
    split at hb'
    · injection hb' with hb'; omega
    · split at hb'
      · injection hb' with hb'; subst hb'; exact hss.lt
      · cases hb'
  · have hn' : (if nm = G then σ else 0) ≠ 0 := hn
    split at hn'
    · rename_i e
      subst e
      exact ⟨bb, fS⟩
    · exact absurd rfl hn'
  · rcases List.mem_cons.1 hr with rfl | hr
    · have hb' : (if g < G then some g else if g = G then some bb else Option.none) = some b := hb
      rw [fG hg] at hb'
      injection hb' with hb'; subst hb'
      refine ⟨_, ty, fz, hgb, ?_, rfl, fun j a ha => ?_⟩
      · show 1 + (if g = G then σ else 0) ≤ 1
        rw [sG hg]; exact Nat.le_refl _
      · cases j with
        | succ j => simp at ha
        | zero =>
          simp at ha; subst ha
          refine ⟨.slice (some ⟨bb, σ, none⟩) ss.length ss.length, ?_, ?_⟩
          · show (#[Value.slice (some ⟨bb, σ, none⟩) ss.length ss.length])[0 + (if g = G then σ else 0)]? = _
            rw [sG hg]; rfl
          · rw [VR]
            refine ⟨bb, ss.length, fS, ?_, rfl⟩
            show _ = Value.slice (some ⟨bb, 0 + (if G = G then σ else 0), none⟩) ss.length ss.length
            rw [sS, Nat.zero_add]
    rcases List.mem_cons.1 hr with rfl | hr
    · have hb' : (if G < G then some G else if G = G then some bb else Option.none) = some b := hb
      rw [fS] at hb'
      injection hb' with hb'; subst hb'
      have := strs_row (ρ0 := ⟨fun n => if n < G then some n else if n = G then some bb else Option.none, fun _ => Option.none, fun n => if n = G then σ else 0⟩) hss
      show ∃ arr ty fz, w.heap[bb]? = some (.cells arr ty fz) ∧ (ss.map strA).length + (if G = G then σ else 0) ≤ arr.size ∧ (ss.map strA).all AV.one = true ∧ ∀ (j : Nat) a, (ss.map strA)[j]? = some a → ∃ v, arr[j + (if G = G then σ else 0)]? = some v ∧ VR _ a v
      rw [sS]
      exact this
    · obtain ⟨x, hx, rfl⟩ := List.mem_map.1 hr
      obtain ⟨h1, h2⟩ := h x hx
      have hb' : (if x.1 < G then some x.1 else if x.1 = G then some bb else Option.none) = some b := hb
      rw [fG h1] at hb'
      injection hb' with hb'; subst hb'
      have := strs_row (ρ0 := ⟨fun n => if n < G then some n else if n = G then some bb else Option.none, fun _ => Option.none, fun n => if n = G then σ else 0⟩) h2
      show ∃ arr ty fz, w.heap[x.1]? = some (.cells arr ty fz) ∧ (x.2.map strA).length + (if x.1 = G then σ else 0) ≤ arr.size ∧ (x.2.map strA).all AV.one = true ∧ ∀ (j : Nat) a, (x.2.map strA)[j]? = some a → ∃ v, arr[j + (if x.1 = G then σ else 0)]? = some v ∧ VR _ a v
      rw [sG h1]
      exact this
end
end Go.Abs
namespace Go.Abs
noncomputable section
variable {P : Program} {E : Env}
def atomOf (f : FuncId) : List (FuncId × AExt) → Option AExt
  | [] => none
  | x :: l => match Nat.beq f x.1 with
    | true => some x.2
    | false => atomOf f l
theorem atomOf_mem {f : FuncId} {a : AExt} : ∀ {l : List (FuncId × AExt)}, atomOf f l = some a → (f, a) ∈ l
  | [], h => by cases h
  | x :: l, h => by
    unfold atomOf at h
    split at h
    · rename_i hb
      injection h with h
      obtain ⟨g, b⟩ := x
      have : f = g := Nat.eq_of_beq_eq_true hb
      subst this
      rw [← h]
      exact List.mem_cons_self
    · exact List.mem_cons_of_mem _ (atomOf_mem h)
def AtomFn (P : Program) (f : FuncId) (x : AExt) : Prop :=
  x.atom = true ∧ ∃ fn g, P.funcs[f]? = some fn ∧ (fn.name == "runtime.NumGoroutine") = false ∧ fn.body.isNone = true ∧ Extern.findNext fn = none ∧ Extern.find fn = some g ∧ AtomR x g
def envAtoms (l : List (FuncId × AExt)) (E : Env) : Env :=
  { E with ext := fun f => match atomOf f l with
      | some x => some x
      | none => E.ext f }
theorem envAtoms_ext {l : List (FuncId × AExt)} (h : ∀ x ∈ l, AtomFn P x.1 x.2) {f : FuncId} {a : AExt} (ha : (envAtoms l E).ext f = some a) : (a.atom = true ∧ AtomFn P f a) ∨ E.ext f = some a := by
  simp only [envAtoms] at ha
  split at ha
  · rename_i x hx
    injection ha with ha
    subst ha
    have := h _ (atomOf_mem hx)
    exact .inl ⟨this.1, this⟩
  · exact .inr ha
theorem envAtoms_ok {l : List (FuncId × AExt)} (hE : EOk2 P E) (h : ∀ x ∈ l, AtomFn P x.1 x.2) : EOk2 P (envAtoms l E) :=
  { plain := hE.plain, lies := hE.lies, method := hE.method, count := hE.count
    idx := fun f hf => by
      rcases envAtoms_ext h hf with ⟨h1, _⟩ | h1
      · cases h1
      · exact hE.idx f h1
    same := fun f hf => by
      rcases envAtoms_ext h hf with ⟨h1, _⟩ | h1
      · cases h1
      · exact hE.same f h1
    atom := fun f x hf hx => by
      rcases envAtoms_ext h hf with ⟨_, _, h1⟩ | h1
      · exact h1
      · exact hE.atom f x h1 hx }
/-- a function that hands back its argument -/
theorem same_ok {f : FuncId} {fn : Func} (hf : P.funcs[f]? = some fn) (hname : (fn.name == "runtime.NumGoroutine") = false) (hb : fn.body.isNone = true) (hn : Extern.findNext fn = none) (he : Extern.find fn = some Extern.AbiNoEscape.same) : SameFn P f :=
  fun x w => ⟨w, by rw [run_callFunc_extern hf hname hb hn he]; rfl, rfl, rfl, rfl⟩
/-! methods of pointers -/
def methB (P : Program) (x : TypeId × String × FuncId) : Bool :=
  match P.info? x.1 with
  | some i => match i.methods.find? (·.name == x.2.1) with
    | some m => m.path.isEmpty && (match m.func, P.underlying x.1 with
      | some (f, true), some (.pointer _) => f == x.2.2
      | _, _ => false)
    | none => false
  | none => false
theorem meth_ok {t : TypeId} {name : String} {f : FuncId} (h : methB P (t, name, f) = true) (n : Nat) (v : Value) (w : World) : (Go.method (n + 1) t v name).run P w = .ok (f, v) w := by
  unfold methB at h
  split at h
  · rename_i i hi
    split at h
    · rename_i m hm
      rw [Bool.and_eq_true] at h
      obtain ⟨hp, h⟩ := h
      split at h
      · rename_i f' e hf hu
        have hff : f' = f := by simpa using h
        subst hff
        have hpath : m.path.toList = [] := by
          have : m.path = #[] := by simpa using hp
          rw [this]
        have hti : (typeInfo t).run P w = .ok i w := by simp [typeInfo, hi]
        simp only [Go.method, Sem.run_bind, hti, Result.andThen_ok, hm, hpath, follow, Sem.run_pure, hf, receiverAt, run_underlying hu, Place.get]
      · cases h
    · cases h
  · cases h
def methOf (t : TypeId) (name : String) : List (TypeId × String × FuncId) → Option FuncId
  | [] => none
  | x :: l => match Nat.beq t x.1 && name == x.2.1 with
    | true => some x.2.2
    | false => methOf t name l
theorem methOf_mem {t : TypeId} {name : String} {f : FuncId} : ∀ {l : List (TypeId × String × FuncId)}, methOf t name l = some f → (t, name, f) ∈ l
  | [], h => by cases h
  | x :: l, h => by
    unfold methOf at h
    split at h
    · rename_i hb
      rw [Bool.and_eq_true] at hb
      obtain ⟨h1, h2⟩ := hb
      obtain ⟨a, b, c⟩ := x
      have e1 : t = a := Nat.eq_of_beq_eq_true h1
      have e2 : name = b := by simpa using h2
      injection h with h
      subst e1 e2 h
      exact List.mem_cons_self
    · exact List.mem_cons_of_mem _ (methOf_mem h)
def envMeth (l : List (TypeId × String × FuncId)) (E : Env) : Env := { E with method := fun t name => methOf t name l }
theorem envMeth_ok {l : List (TypeId × String × FuncId)} (hE : EOk2 P E) (h : l.all (methB P) = true) : EOk2 P (envMeth l E) :=
  { plain := hE.plain, lies := hE.lies, idx := hE.idx, same := hE.same, count := hE.count, atom := hE.atom
    method := fun t name f v w hm => by
      have := List.all_eq_true.1 h _ (methOf_mem hm)
      have hd : 0 < Made.depth := by decide
      obtain ⟨n, hn⟩ : ∃ n, P.types.size + Made.depth = n + 1 := ⟨P.types.size + Made.depth - 1, by omega⟩
      rw [hn]
      exact meth_ok this n v w }
end
end Go.Abs
namespace Go.Abs
noncomputable section
variable {P : Program} {E : Env} {w : World}
def litA : Lit → Option AV
  | .bool b => some (.bool b)
  | .int k n => some (.int (ktag k) n)
  | .float k b => some (.flt k b)
  | .string s => some (strA s)
  | .nil => none
mutual
def flatD : DataW Unit → Option (List AV)
  | .lit l => (litA l).map fun a => [a]
  | .agg ds => flatDs ds
  | _ => none
def flatDs : List (DataW Unit) → Option (List AV)
  | [] => some []
  | d :: ds => match flatD d, flatDs ds with
    | some l, some m => some (l ++ m)
    | _, _ => none
end
def tilesF (P : Program) (B : TypeId → Bool) : List Field → Nat → Nat → Bool
  | [], at_, n => Nat.beq at_ n
  | f :: fs, at_, n => Nat.beq f.offset at_ && (B f.type && tilesF P B fs (at_ + P.cellsOf f.type) n)
/-- values of the type stand without a gap -/
def tileB (P : Program) : Nat → TypeId → Bool
  | 0, _ => false
  | f + 1, t => match P.underlying t with
    | some .bool | some (.int _) | some (.float _) | some .string => true
    | some (.array n e) => Nat.beq (P.cellsOf t) (n * P.cellsOf e) && tileB P f e
    | some (.struct fs) => tilesF P (tileB P f) fs.toList 0 (P.cellsOf t)
    | _ => false
/-- a value of one cell, by any names -/
def LitR (a : AV) (v : Value) : Prop := a.one = true ∧ ∀ ρ : Rho, VR ρ a v
theorem All2.append {α β : Type} {R : α → β → Prop} : ∀ {l : List α} {m : List β} {l' : List α} {m' : List β}, All2 R l m → All2 R l' m' → All2 R (l ++ l') (m ++ m')
  | [], m, _, _, h, h' => by
    have : m = [] := h
    subst this
    exact h'
  | a :: l, m, _, _, h, h' => by
    obtain ⟨b, m2, rfl, h1, h2⟩ := h
    exact ⟨b, _, rfl, h1, h2.append h'⟩
theorem All2.get {α β : Type} {R : α → β → Prop} : ∀ {l : List α} {m : List β}, All2 R l m → ∀ (j : Nat) a, l[j]? = some a → ∃ b, m[j]? = some b ∧ R a b
  | [], _, _, j, a, h => by simp at h
  | x :: l, m, h0, j, a, h => by
    obtain ⟨b, m2, rfl, h1, h2⟩ := h0
    cases j with
    | zero =>
      simp at h; subst h
      exact ⟨b, rfl, h1⟩
    | succ j =>
      simp at h
      obtain ⟨c, h3, h4⟩ := h2.get j a h
      exact ⟨c, by simpa using h3, h4⟩
theorem flatDs_cons {d : DataW Unit} {ds : List (DataW Unit)} {l : List AV} (h : flatDs (d :: ds) = some l) : ∃ l1 l2, flatD d = some l1 ∧ flatDs ds = some l2 ∧ l = l1 ++ l2 := by
  unfold flatDs at h
  split at h
  · rename_i l1 l2 h1 h2
    injection h with h
    exact ⟨l1, l2, h1, h2, h.symm⟩
  · cases h
theorem take_drop_split {α : Type} (cs : List α) (a n m : Nat) : (cs.drop a).take (n + m) = (cs.drop a).take n ++ (cs.drop (a + n)).take m := by
  rw [List.take_add, List.drop_drop]
section
variable {enc : TypeId × Value → Unit} {base : Nat} {spare : Nat → Bool} {held : Bool}
/-- the elements of an array, one behind the other -/
theorem chunks_ok {c : Nat} {cs : List Value} {f : List Value → Option (DataW Unit × List MemPlace)} (hf : ∀ ds d p l, f ds = some (d, p) → flatD d = some l → All2 LitR l ds) :
    ∀ (xs : List (DataW Unit × List MemPlace)) (a : Nat) {l : List AV}, (∀ i, i < xs.length → f ((cs.drop ((a + i) * c)).take c) = xs[i]?) → flatDs (xs.map (·.1)) = some l → All2 LitR l ((cs.drop (a * c)).take (xs.length * c))
  | [], a, l, _, hl => by
    injection hl with hl
    subst hl
    simp [All2]
  | x :: xs, a, l, h, hl => by
    obtain ⟨l1, l2, h1, h2, rfl⟩ := flatDs_cons hl
    have h0 := h 0 (by simp)
    rw [Nat.add_zero] at h0
    have hx : f ((cs.drop (a * c)).take c) = some (x.1, x.2) := by rw [h0]; rfl
    have hr := chunks_ok hf xs (a + 1) (l := l2) (fun i hi => by
      have := h (i + 1) (by simp; omega)
      rw [show a + 1 + i = a + (i + 1) by omega, this]
      simp) h2
    rw [List.length_cons, show (xs.length + 1) * c = c + xs.length * c by rw [Nat.succ_mul, Nat.add_comm], take_drop_split]
    refine (hf _ _ _ _ hx h1).append ?_
    rw [show a * c + c = (a + 1) * c by rw [Nat.succ_mul]]
    exact hr
theorem fields_ok {B : TypeId → Bool} {cs : List Value} {tr : TypeId → List Value → Option (DataW Unit × List MemPlace)} (hf : ∀ t ds d p l, B t = true → tr t ds = some (d, p) → flatD d = some l → All2 LitR l ds) :
    ∀ (fs : List Field) (xs : List (DataW Unit × List MemPlace)) (at_ n : Nat) {l : List AV}, tilesF P B fs at_ n = true → fs.mapM (fun f => tr f.type ((cs.drop f.offset).take (P.cellsOf f.type))) = some xs → flatDs (xs.map (·.1)) = some l →
      at_ ≤ n ∧ All2 LitR l ((cs.drop at_).take (n - at_))
  | [], xs, at_, n, l, ht, hm, hl => by
    have hm' : (some [] : Option (List (DataW Unit × List MemPlace))) = some xs := by simpa using hm
    injection hm' with hm'
    subst hm'
    injection hl with hl
    subst hl
    unfold tilesF at ht
    rw [Nat.beq_eq] at ht
    subst ht
    exact ⟨Nat.le_refl _, by simp [All2]⟩
  | f :: fs, xs, at_, n, l, ht, hm, hl => by
    unfold tilesF at ht
    rw [Bool.and_eq_true, Bool.and_eq_true, Nat.beq_eq] at ht
    obtain ⟨ho, hB, ht⟩ := ht
    rw [List.mapM_cons] at hm
    simp only [Option.bind_eq_bind, Option.bind_eq_some_iff] at hm
    obtain ⟨x, hx, ys, hys, e⟩ := hm
    injection e with e
    subst e
    obtain ⟨l1, l2, h1, h2, rfl⟩ := flatDs_cons hl
    obtain ⟨hle, hr⟩ := fields_ok hf fs ys _ n ht hys h2
    rw [ho] at hx
    have h3 := hf _ _ _ _ _ hB (show tr f.type ((cs.drop at_).take (P.cellsOf f.type)) = some (x.1, x.2) from hx) h1
    refine ⟨by omega, ?_⟩
    rw [show n - at_ = P.cellsOf f.type + (n - (at_ + P.cellsOf f.type)) by omega, take_drop_split]
    exact h3.append hr
theorem trod_float {k : FloatKind} {t : TypeId} {cs : List Value} {fuel : Nat} {x : DataW Unit × List MemPlace} (ht : P.underlying t = some (.float k)) (h : DataW.trod enc P w base spare held fuel t cs = some x) : ∃ b, cs = [.float k b] ∧ x = (.lit (.float k b), []) := by
  cases fuel with
  | zero => simp [DataW.trod] at h
  | succ n =>
    unfold DataW.trod at h
    rw [ht] at h
    split at h <;> simp_all
theorem one_lit {a : AV} {v : Value} (h1 : a.one = true) (h2 : ∀ ρ : Rho, VR ρ a v) : All2 LitR [a] [v] := ⟨v, [], rfl, ⟨h1, h2⟩, rfl⟩
theorem trod_flat : ∀ (f : Nat) {fuel : Nat} {t : TypeId} {cs : List Value} {d : DataW Unit} {p : List MemPlace} {l : List AV}, tileB P f t = true → DataW.trod enc P w base spare held fuel t cs = some (d, p) → flatD d = some l → All2 LitR l cs
  | 0, _, _, _, _, _, _, h, _, _ => by cases h
  | f + 1, fuel, t, cs, d, p, l, h, htr, hl => by
    unfold tileB at h
    split at h
    · rename_i hu
      obtain ⟨b, rfl, e⟩ := DataW.trod_bool hu htr
      injection e with e1 _
      subst e1
      have hl' : some [AV.bool b] = some l := hl
      injection hl' with hl'
      subst hl'
      exact one_lit rfl fun _ => vBool
    · rename_i k hu
      obtain ⟨n, rfl, e, _⟩ := DataW.trod_int hu htr
      injection e with e1 _
      subst e1
      have hl' : some [AV.int (ktag k) n] = some l := hl
      injection hl' with hl'
      subst hl'
      exact one_lit rfl fun _ => vInt k
    · rename_i k hu
      obtain ⟨b, rfl, e⟩ := trod_float hu htr
      injection e with e1 _
      subst e1
      have hl' : some [AV.flt k b] = some l := hl
      injection hl' with hl'
      subst hl'
      exact one_lit rfl fun _ => by simp only [VR]
    · rename_i hu
      obtain ⟨s, rfl, e, _⟩ := DataW.trod_string hu htr
      injection e with e1 _
      subst e1
      have hl' : some [strA s.data.toList] = some l := hl
      injection hl' with hl'
      subst hl'
      exact one_lit rfl fun _ => strA_ok rfl
    · rename_i n e hu
      rw [Bool.and_eq_true, Nat.beq_eq] at h
      obtain ⟨xs, m, rfl, hx, hlen, hxl, hel⟩ := trod_array hu htr
      injection hx with hx _
      subst hx
      have hl' : flatDs (xs.map (·.1)) = some l := hl
      have := chunks_ok (c := P.cellsOf e) (cs := cs) (f := DataW.trod enc P w base spare held m e) (fun ds d p l h1 h2 => trod_flat f h.2 h1 h2) xs 0 (fun i hi => by rw [Nat.zero_add]; exact hel i (by omega)) hl'
      rw [Nat.zero_mul, List.drop_zero, hxl, ← h.1, ← hlen, List.take_length] at this
      exact this
    · rename_i fs hu
      cases fuel with
      | zero => simp [DataW.trod] at htr
      | succ m =>
        unfold DataW.trod at htr
        rw [hu] at htr
        have key : (cs.length = P.cellsOf t ∧ ∃ xs : List (DataW Unit × List MemPlace), fs.toList.mapM (fun f => DataW.trod enc P w base spare held m f.type ((cs.drop f.offset).take (P.cellsOf f.type))) = some xs ∧ d = .agg (xs.map (·.1))) := by
          split at htr <;> simp_all
          obtain ⟨h1, xs, h2, h3, _⟩ := htr
          exact ⟨xs, h2, h3.symm⟩
        obtain ⟨hlen, xs, hxs, rfl⟩ := key
        have hl' : flatDs (xs.map (·.1)) = some l := hl
        have := (fields_ok (P := P) (B := tileB P f) (cs := cs) (tr := fun t ds => DataW.trod enc P w base spare held m t ds) (fun t ds d p l hB h1 h2 => trod_flat f hB h1 h2) fs.toList xs 0 _ h hxs hl').2
        rw [List.drop_zero, Nat.sub_zero, ← hlen, List.take_length] at this
        exact this
    · cases h
end
/-- values that stand in a row -/
def RowAt (w : World) (b σ : Nat) (l : List AV) : Prop :=
  ∃ arr ty fz, w.heap[b]? = some (.cells arr ty fz) ∧ l.length + σ ≤ arr.size ∧ l.all AV.one = true ∧ ∀ (j : Nat) a, l[j]? = some a → ∃ v, arr[j + σ]? = some v ∧ ∀ ρ : Rho, VR ρ a v
theorem All2.ones : ∀ {l : List AV} {m : List Value}, All2 LitR l m → l.all AV.one = true
  | [], _, _ => rfl
  | a :: l, _, h => by
    obtain ⟨b, m, rfl, h1, h2⟩ := h
    rw [List.all_cons, h1.1, h2.ones]
    rfl
theorem laid_flat {laid : List (String × DataW Unit)} {n : String} {d : DataW Unit} {l : List AV} {g : Nat} {t : TypeId} (f : Nat) (hl : laidMet P laid w) (hm : (n, d) ∈ laid)
    (hg : P.globalNamed n = some g) (ht : (P.globals[g]?).map (·.type) = some t) (htile : tileB P f t = true) (hd : flatD d = some l) : RowAt w g 0 l := by
  obtain ⟨ps, hl, _⟩ := hl
  obtain ⟨g', t', cs, fuel, p, h1, h2, h3, h4⟩ := laid_get hl hm
  rw [hg] at h1; injection h1 with h1; subst h1
  rw [ht] at h2; injection h2 with h2; subst h2
  have hx := trod_flat f htile h4 hd
  unfold World.var? at h3
  rw [hg] at h3
  simp only [Option.bind_some] at h3
  split at h3
  · rename_i cs' ty fz hb
    injection h3 with h3; subst h3
    refine ⟨cs', ty, fz, hb, ?_, hx.ones, fun j a ha => ?_⟩
    · have h7 : l.length = cs'.size := by rw [← Array.length_toList]; exact hx.length
      omega
    · obtain ⟨v, h5, h6⟩ := hx.get j a ha
      rw [Array.getElem?_toList] at h5
      exact ⟨v, h5, h6.2⟩
  · cases h3
theorem StrsAt.row {b σ : Nat} {ss : List (List UInt8)} (h : StrsAt w b σ ss) : RowAt w b σ (ss.map strA) := by
  obtain ⟨arr, ty, fz, h1, h2, h3⟩ := h
  refine ⟨arr, ty, fz, h1, by rw [List.length_map]; exact h2, ?_, fun j a ha => ?_⟩
  · rw [List.all_map]
    exact List.all_eq_true.2 fun _ _ => rfl
  · rw [List.getElem?_map] at ha
    cases hs : ss[j]? with
    | none => rw [hs] at ha; cases ha
    | some s =>
      rw [hs] at ha
      injection ha with ha; subst ha
      obtain ⟨bs, k1, k2⟩ := h3 j s hs
      exact ⟨_, k1, fun _ => strA_ok k2⟩
theorem RowAt.lt {b σ : Nat} {l : List AV} (h : RowAt w b σ l) : b < w.heap.size := by
  obtain ⟨arr, ty, fz, h1, _⟩ := h
  exact (Array.getElem?_eq_some_iff.1 h1).1
theorem RowAt.of {ρ0 : Rho} {b σ : Nat} {l : List AV} (h : RowAt w b σ l) : ∃ arr ty fz, w.heap[b]? = some (.cells arr ty fz) ∧ l.length + σ ≤ arr.size ∧ l.all AV.one = true ∧ ∀ (j : Nat) a, l[j]? = some a → ∃ v, arr[j + σ]? = some v ∧ VR ρ0 a v := by
  obtain ⟨arr, ty, fz, h1, h2, h3, h4⟩ := h
  exact ⟨arr, ty, fz, h1, h2, h3, fun j a ha => by
    obtain ⟨v, h5, h6⟩ := h4 j a ha
    exact ⟨v, h5, h6 ρ0⟩⟩
def LRow.any (x : Nat × List AV) : LRow := ⟨x.1, x.2⟩
theorem LaidAt.rows {rows : List (Nat × List AV)} {G : Nat} (hG : G ≤ w.heap.size) (h : ∀ x ∈ rows, x.1 < G ∧ RowAt w x.1 0 x.2) : LaidAt G (laidHeap (rows.map LRow.any)) G w := by
  refine ⟨⟨fun n => if n < G then some n else Option.none, fun _ => Option.none, fun _ => 0⟩, HR.startL (fun r hr => ?_) (fun nm hl => ?_) (fun nm b hb => ?_) (fun _ => rfl) (fun _ hn => absurd rfl hn) (fun r hr b hb => ?_), fun g hg => ⟨?_, rfl⟩⟩
  · obtain ⟨x, hx, rfl⟩ := List.mem_map.1 hr
    exact (h x hx).1
  · show (if nm < G then some nm else Option.none) = Option.none
    rw [if_neg (by omega)]
  · have hb' : (if nm < G then some nm else Option.none) = some b := hb
    split at hb'
    · injection hb' with hb'; omega
    · cases hb'
  · obtain ⟨x, hx, rfl⟩ := List.mem_map.1 hr
    have hb' : (if x.1 < G then some x.1 else Option.none) = some b := hb
    rw [if_pos (h x hx).1] at hb'
    injection hb' with hb'; subst hb'
    exact (h x hx).2.of
  · show (if g < G then some g else Option.none) = some g
    rw [if_pos hg]
theorem LaidAt.rowsSlc {rows : List (Nat × List AV)} {G g : Nat} {ss : List (List UInt8)} (hG : G ≤ w.heap.size) (hg : g < G) (h : ∀ x ∈ rows, x.1 < G ∧ RowAt w x.1 0 x.2)
    (hs : ∃ b σ ty fz, w.heap[g]? = some (.cells #[.slice (some ⟨b, σ, none⟩) ss.length ss.length] ty fz) ∧ StrsAt w b σ ss) :
    LaidAt G (laidHeap (⟨g, [.slc G 0 ss.length (some ss.length)]⟩ :: LRow.strs (G, ss) :: rows.map LRow.any)) (G + 1) w := by
  obtain ⟨bb, σ, ty, fz, hgb, hss⟩ := hs
  have fG : ∀ {n : Nat}, n < G → (if n < G then some n else if n = G then some bb else Option.none) = some n := fun hn => by rw [if_pos hn]
  have fS : (if G < G then some G else if G = G then some bb else Option.none) = some bb := by rw [if_neg (by omega), if_pos rfl]
  have sG : ∀ {n : Nat}, n < G → (if n = G then σ else 0) = 0 := fun hn => by rw [if_neg (by omega)]
  have sS : (if G = G then σ else 0) = σ := by rw [if_pos rfl]
  refine ⟨⟨fun n => if n < G then some n else if n = G then some bb else Option.none, fun _ => Option.none, fun n => if n = G then σ else 0⟩, HR.startL (fun r hr => ?_) (fun nm hl => ?_) (fun nm b hb => ?_) (fun _ => rfl) (fun nm hn => ?_) (fun r hr b hb => ?_), fun g hg => ⟨fG hg, sG hg⟩⟩
  · rcases List.mem_cons.1 hr with rfl | hr
    · show g < G + 1; omega
    rcases List.mem_cons.1 hr with rfl | hr
    · show G < G + 1; omega
    · obtain ⟨x, hx, rfl⟩ := List.mem_map.1 hr
      have := (h x hx).1
      show x.1 < G + 1; omega
  · show (if nm < G then some nm else if nm = G then some bb else Option.none) = Option.none
    rw [if_neg (by omega), if_neg (by omega)]
  · have hb' : (if nm < G then some nm else if nm = G then some bb else Option.none) = some b := hb
    split at hb'
    · injection hb' with hb'; omega
    · split at hb'
      · injection hb' with hb'; subst hb'; exact hss.lt
      · cases hb'
  · have hn' : (if nm = G then σ else 0) ≠ 0 := hn
    split at hn'
    · rename_i e
      subst e
      exact ⟨bb, fS⟩
    · exact absurd rfl hn'
  · rcases List.mem_cons.1 hr with rfl | hr
    · have hb' : (if g < G then some g else if g = G then some bb else Option.none) = some b := hb
      rw [fG hg] at hb'
      injection hb' with hb'; subst hb'
      refine ⟨_, ty, fz, hgb, ?_, rfl, fun j a ha => ?_⟩
      · show 1 + (if g = G then σ else 0) ≤ 1
        rw [sG hg]; exact Nat.le_refl _
      · cases j with
        | succ j => simp at ha
        | zero =>
          simp at ha; subst ha
          refine ⟨.slice (some ⟨bb, σ, none⟩) ss.length ss.length, ?_, ?_⟩
          · show (#[Value.slice (some ⟨bb, σ, none⟩) ss.length ss.length])[0 + (if g = G then σ else 0)]? = _
            rw [sG hg]; rfl
          · rw [VR]
            refine ⟨bb, ss.length, fS, ?_, rfl⟩
            show _ = Value.slice (some ⟨bb, 0 + (if G = G then σ else 0), none⟩) ss.length ss.length
            rw [sS, Nat.zero_add]
    rcases List.mem_cons.1 hr with rfl | hr
    · have hb' : (if G < G then some G else if G = G then some bb else Option.none) = some b := hb
      rw [fS] at hb'
      injection hb' with hb'; subst hb'
      have := strs_row (ρ0 := ⟨fun n => if n < G then some n else if n = G then some bb else Option.none, fun _ => Option.none, fun n => if n = G then σ else 0⟩) hss
      show ∃ arr ty fz, w.heap[bb]? = some (.cells arr ty fz) ∧ (ss.map strA).length + (if G = G then σ else 0) ≤ arr.size ∧ (ss.map strA).all AV.one = true ∧ ∀ (j : Nat) a, (ss.map strA)[j]? = some a → ∃ v, arr[j + (if G = G then σ else 0)]? = some v ∧ VR _ a v
      rw [sS]
      exact this
    · obtain ⟨x, hx, rfl⟩ := List.mem_map.1 hr
      obtain ⟨h1, h2⟩ := h x hx
      have hb' : (if x.1 < G then some x.1 else if x.1 = G then some bb else Option.none) = some b := hb
      rw [fG h1] at hb'
      injection hb' with hb'; subst hb'
      have := h2.of (ρ0 := ⟨fun n => if n < G then some n else if n = G then some bb else Option.none, fun _ => Option.none, fun n => if n = G then σ else 0⟩)
      show ∃ arr ty fz, w.heap[x.1]? = some (.cells arr ty fz) ∧ x.2.length + (if x.1 = G then σ else 0) ≤ arr.size ∧ x.2.all AV.one = true ∧ ∀ (j : Nat) a, x.2[j]? = some a → ∃ v, arr[j + (if x.1 = G then σ else 0)]? = some v ∧ VR _ a v
      rw [sG h1]
      exact this
end
end Go.Abs
namespace Go.Abs
open Go
variable {w w' : World}
/-- what was laid lies in every later world, too -/
theorem LaidAt.later {G : Nat} {h0 : Heap} {nx0 : Nat} (h : LaidAt G h0 nx0 w) (hs : w.heap.size ≤ w'.heap.size) (hb : ∀ i, i < w.heap.size → w'.heap[i]? = w.heap[i]?) : LaidAt G h0 nx0 w' := by
  obtain ⟨ρ0, H, hG⟩ := h
  exact ⟨ρ0, ⟨fun nm a b hg hr => by obtain ⟨o, h1, h2⟩ := H.obj nm a b hg hr; exact ⟨o, (hb b (H.blk nm b hr)).trans h1, h2⟩, fun nm nm' a a' b _ _ hr _ hB => absurd (H.blk nm b hr) (by omega),
    fun nm a b hg hr _ => H.own nm a b hg hr (H.blk nm b hr), H.new, fun _ _ => rfl, Nat.le_refl _, fun nm b hr => Nat.lt_of_lt_of_le (H.blk nm b hr) hs, fun b k hk => Nat.lt_of_lt_of_le (H.capb b k hk) hs,
    fun nm c cnt es e wh ro b k arr fz h1 h2 h3 h4 => H.cap nm c cnt es e wh ro b k arr fz h1 h2 h3 ((hb b (H.blk nm b h2)).symm.trans h4), WS.refl _, fun nm hn => by obtain ⟨b, h1, h2⟩ := H.sh nm hn; exact ⟨b, h1, Nat.lt_of_lt_of_le h2 hs⟩⟩, hG⟩
end Go.Abs
