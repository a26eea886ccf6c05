/- The abstract machine, part 3 of 4: an evaluator for calls, quick in the kernel, and the proof that what it answers the program answers, in every world. -/
import Derived.Test.YthenjfppjikkbaaGreatDoorMb
import Derived.Laws.Externs
import Derived.Laws.LoneSync
import Derived.Lib.Bytealg
import Derived.Control
import Derived.Eval
import Derived.Below
namespace Go.Abs
noncomputable section
variable {P : Program} {E : Env} {B : Nat} {w0 : World} {ρ ρ' : Rho} {h : Heap} {nx : Nat} {w w' : World}
theorem lies_self {u : TypeId} {cnt off n : Nat} (hu : sizeT P u = some 1) (h : off + n ≤ cnt) : liesAt P P.depth u cnt off u n = true := by
  have hc : P.cellsOf u = 1 := by
    unfold sizeT at hu
    unfold Program.cellsOf
    rw [hu]; rfl
  have hd : ∃ d, P.depth = d + 1 := ⟨_, rfl⟩
  obtain ⟨d, hd⟩ := hd
  rw [hd]
  unfold liesAt
  rw [hd]
  unfold rowAt
  simp only [hc]
  simp [h, sameLayout, Nat.mod_one]
theorem run_bytesN : ∀ (ns : List Nat) (b off : Nat) (acc : ByteArray), (∀ (j : Nat) v, (ns.map fun b : Nat => Value.int .u8 (Int.ofNat b))[j]? = some v → w.cell? ⟨b, off + j, none⟩ = some v) →
    (loadBytes ⟨b, off, none⟩ acc ns.length).run P w = .ok ((ns.map fun b : Nat => (Int.ofNat b)).foldl (fun r n => r.push (UInt8.ofNat n.toNat)) acc) w
  | [], _, _, _, _ => rfl
  | n :: ns, b, off, acc, h => by
    have h0 : w.cell? ⟨b, off, none⟩ = some (.int .u8 (Int.ofNat n)) := by have := h 0 _ rfl; rwa [Nat.add_zero] at this
    have ih := run_bytesN ns b (off + 1) (acc.push (UInt8.ofNat n)) (fun j v hj => by
      have := h (j + 1) v (by simpa using hj)
      rw [← this]; congr 2; omega)
    simp only [List.length_cons, loadBytes, Sem.run_bind, run_load, h0, Result.andThen_ok, addr_add]
    exact ih
theorem freeze_cells {b off n : Nat} {arr : Array Value} {e : TypeId} {fz : Nat × Nat} (hb : w.heap[b]? = some (.cells arr e fz)) (hn : n ≠ 0) :
    (∃ fz', (w.freeze ⟨b, off, none⟩ n).heap[b]? = some (.cells arr e fz')) ∧ (∀ b', b' ≠ b → (w.freeze ⟨b, off, none⟩ n).heap[b']? = w.heap[b']?) ∧ (w.freeze ⟨b, off, none⟩ n).heap.size = w.heap.size ∧ WS w (w.freeze ⟨b, off, none⟩ n) := by
  unfold World.freeze
  rw [if_neg hn]
  refine ⟨?_, fun b' hne => ?_, ?_⟩
  · obtain ⟨lo, hi⟩ := fz
    exact ⟨_, by simp only [Array.getElem?_modify, hb]; simp; rfl⟩
  · simp [Array.getElem?_modify, Ne.symm hne]
  · exact ⟨by simp, rfl, rfl⟩
theorem unsafeString_eq (ats : Array TypeId) (ty : TypeId) (p : Option Addr) (l : Value) : Builtin.unsafeString_ ats ty #[.pointer p, l] = (do
    let n ← asInt l
    let some pt := ats[0]? | stuck "unsafe.String: no argument types"
    if n < 0 then runtimePanic (.error "unsafe.String: len out of range")
    if n > IntKind.i64.max then unsupported (.unsafePointer "String: a length above the largest int")
    match p with
    | none =>
      if n = 0 then pure (.string .empty)
      else runtimePanic (.error "unsafe.String: ptr is nil and len is not zero")
    | some a =>
      if n = 0 then pure (.string .empty)
      else if ← variablesAt a (← elemOf pt) n.toNat then do
        let s ← loadBytes a .empty n.toNat
        freeze a n.toNat
        pure (.string s)
      else unsupported (.unsafePointer "String: not so many bytes at ptr")) := rfl
theorem ust_ok (H : HR B w0 ρ h nx w) {t u : TypeId} {ats : List TypeId} {ty : TypeId} {p l : AV} {cp cl : Value} (hu : P.underlying t = some (.pointer u)) (hn : sizeT P u = some 1) (hp : VR ρ p cp) (hl : VR ρ l cl) {c0 : Nat} {K : ANext → Heap → Nat → SRes} :
    Leads (ustK u p l h (.fail c0) fun n h => K n h nx) K (Post P B w0 ρ h nx w (do pure (.value (← Builtin.unsafeString_ ⟨t :: ats⟩ ty #[cp, cl])))) := by
  unfold ustK
  split
  · rename_i k
    simp only [VR] at hp hl
    subst hp
    obtain ⟨kk, rfl, _⟩ := hl
    refine Leads.to (post_val H (cv := .string .empty) ?_ ?_)
    · simp [unsafeString_eq, asInt, asIntOf, IntKind.max, IntKind.signed, IntKind.bits]
    · simp only [VR]; exact ⟨_, rfl, rfl⟩
  · rename_i nm off k n
    unfold ust1
    split
    · rename_i c cnt es e wh hg
      split
      · rename_i hc
        rw [Bool.and_eq_true, Bool.and_eq_true, Bool.and_eq_true, Nat.beq_eq, Nat.beq_eq, Nat.ble_eq, Nat.ble_eq] at hc
        obtain ⟨⟨⟨rfl, rfl⟩, h3⟩, h4⟩ := hc
        split
        · rename_i ls he
          cases hN : bytesOfElems ls with
          | none => exact Leads.fail
          | some N =>
            simp only [ust2, putAt, T.setK_eq]
            simp only [VR] at hp hl
            obtain ⟨b, hb, rfl⟩ := hp
            obtain ⟨kk, rfl, _⟩ := hl
            obtain ⟨hs0, arr, fz, hbk, R⟩ := H.rowW hg hb
            rw [hs0, show (off + 0 : Nat) = off from rfl]
            obtain ⟨hlen, hels⟩ := elemsOf_ok R he
            obtain ⟨ns, rfl, rfl⟩ := bytesOf_spec hN
            have hnl : ns.length = n + 1 := by simpa using hlen
            have hcells := bytes_cells (off := off) hbk hels
            have hrun := run_bytesN (P := P) (w := w) ns b off .empty (fun j v hj => by have := hcells j v hj; rw [addr_add] at this; exact this)
            rw [hnl] at hrun
            obtain ⟨⟨fz', f1⟩, f2, f3⟩ := freeze_cells (off := off) (n := n + 1) hbk (by omega)
            have hsz := R.size
            have hvar : (variablesAt ⟨b, off, none⟩ e (n + 1)).run P w = .ok true w := by
              have hc1 : P.cellsOf e = 1 := by
                unfold sizeT at hn
                unfold Program.cellsOf
                rw [hn]; rfl
              simp [variablesAt, World.shape?, hbk, hc1, lies_self hn (show off + (n + 1) ≤ arr.size by omega)]
            refine Leads.to (post_put (w' := w.freeze ⟨b, off, none⟩ (n + 1)) hb (H.put (a' := .cells c cnt 1 e wh true) hg hb (.inr rfl) f1 f2 f3 ⟨arr, _, fz', rfl, fun _ => rfl, ⟨R.size, R.whole, (fun h => by cases h), R.elem⟩⟩ ?_) (c := .value (.string ((ns.map fun b : Nat => (Int.ofNat b)).foldl (fun r n => r.push (UInt8.ofNat n.toNat)) .empty))) ?_ (.inl ⟨_, rfl, ?_⟩))
            · intro kk' c' cnt' es' e' wh' ro' arr' fz2 hk ha' hob
              injection ha' with _ _ e3 e4
              injection hob with e5
              subst e3 e4
              rw [← e5]
              exact H.cap nm c cnt _ _ wh false b kk' arr fz hg hb hk hbk
            · have hneg : ¬ ((Int.ofNat (n + 1)) < 0) := by simp only [Int.ofNat_eq_natCast]; omega
              have hmax : ¬ ((Int.ofNat (n + 1)) > IntKind.i64.max) := by
                have : IntKind.i64.max = 9223372036854775807 := rfl
                rw [this]; simp only [Int.ofNat_eq_natCast]; omega
              have hne : ¬ ((Int.ofNat (n + 1)) = 0) := by simp only [Int.ofNat_eq_natCast]; omega
              have hto : (Int.ofNat (n + 1)).toNat = n + 1 := rfl
              have helem : (elemOf t).run P w = .ok e w := by simp [elemOf, run_underlying hu]
              simp only [unsafeString_eq, Sem.run_bind, asInt, asIntOf, Sem.run_pure, Result.andThen_ok, List.getElem?_toArray, List.getElem?_cons_zero, hneg, if_false, hmax, hne, hto, helem, hvar, if_true, hrun, run_freeze]
            · simp only [VR]
              refine ⟨_, rfl, ?_⟩
              unfold strOf
              rw [foldl_push_bytes, show (ByteArray.empty).data.toList = [] from rfl, List.nil_append, List.length_map, hnl]
        · exact Leads.fail
      · exact Leads.fail
    · exact Leads.fail
  · exact Leads.fail
/-! calls -/
/-- what a function of package sync/atomic does -/
def AtomR : AExt → (Array Value → Sem Value) → Prop
  | .aload k, g => ∃ kk, ktag kk = k ∧ g = Extern.Atomic.loadT (.int kk)
  | .astore, g => g = Extern.Atomic.storeT
  | .acas k, g => ∃ kk, ktag kk = k ∧ g = Extern.Atomic.casT (.int kk)
  | .countByte, g => g = Extern.BytealgCount.count
  | .fbits, g => g = Extern.MathFloatBits.float64bits
  | .ffrom, g => g = Extern.MathFloatBits.float64frombits
  | .mark0, g => ∃ m, g = fun _ => do mark m; pure Extern.Race.none_
  | .mark1, g => ∃ m, g = Extern.Race.marked m
  | .aadd k, g => ∃ kk, ktag kk = k ∧ g = Extern.Atomic.update (Op.intArith .add) kk true
  | _, _ => False
def AExt.atom : AExt → Bool
  | .indexByte => false
  | .same => false
  | _ => true
structure EOk2 (P : Program) (E : Env) : Prop extends EOk P E where
  atom : ∀ f x, E.ext f = some x → x.atom = true → ∃ fn g, P.funcs[f]? = some fn ∧ (fn.name == "runtime.NumGoroutine") = false ∧ fn.body.isNone = true ∧ Extern.findNext fn = none ∧ Extern.find fn = some g ∧ AtomR x g
  idx : ∀ f, E.ext f = some .indexByte → ∀ (s : ByteArray) (c : Nat) (w : World), ∃ w', (callFunc f #[.string s, .int .u8 (Int.ofNat c)]).run P w = .ok (.value (.int .i64 (findByte s.size (bytesNat s.data.toList) (Nat.mod c 256) 0))) w' ∧ HE w' w w.heap
  same : ∀ f, E.ext f = some .same → ∀ (x : Value) (w : World), ∃ w', (callFunc f #[x]).run P w = .ok (.value x) w' ∧ HE w' w w.heap
  method : ∀ t name f v (w : World), E.method t name = some f → (Go.method (P.types.size + Made.depth) t v name).run P w = .ok (f, v) w
  count : ∀ (f : FuncId) (fn : Func), P.funcs[f]? = some fn → (fn.name == "runtime.NumGoroutine") = false
theorem VRs.one {a : AV} {m : List Value} (h : VRs ρ [a] m) : ∃ v, m = [v] ∧ VR ρ a v := by
  simp only [VRs] at h
  obtain ⟨v, m', rfl, h1, rfl⟩ := h
  exact ⟨v, rfl, h1⟩
theorem VRs.two {a b : AV} {m : List Value} (h : VRs ρ [a, b] m) : ∃ v x, m = [v, x] ∧ VR ρ a v ∧ VR ρ b x := by
  simp only [VRs] at h
  obtain ⟨v, m', rfl, h1, x, m'', rfl, h2, rfl⟩ := h
  exact ⟨v, x, rfl, h1, h2⟩
theorem VRs.three {a b c : AV} {m : List Value} (h : VRs ρ [a, b, c] m) : ∃ v x y, m = [v, x, y] ∧ VR ρ a v ∧ VR ρ b x ∧ VR ρ c y := by
  simp only [VRs] at h
  obtain ⟨v, m', rfl, h1, x, m'', rfl, h2, y, m3, rfl, h3, rfl⟩ := h
  exact ⟨v, x, y, rfl, h1, h2, h3⟩
/-! whole numbers in cells that goroutines may share -/
theorem numAt_ok (H : HR B w0 ρ h nx w) {nm off k b : Nat} (hb : ρ nm = some b) {fail : SRes} {K : Int → SRes} :
    numAt h nm off k fail K = fail ∨ ∃ n kk, ktag kk = k ∧ w.cell? ⟨b, off + ρ.sh nm, none⟩ = some (.int kk n) ∧ numAt h nm off k fail K = K n := by
  unfold numAt
  split
  · rename_i k' n hr
    split
    · rename_i hk
      right
      obtain ⟨c, cnt, es, e, wh, ro, l, hg, hl, hv⟩ := rd1Cell_ok hr
      obtain ⟨arr, e', fz, hbk, _, R⟩ := H.row hg hb
      obtain ⟨hq, hlen, h1, hc⟩ := R.elem _ _ hl
      rw [List.head?_drop] at hv
      obtain ⟨cv, hv1, hv2⟩ := hc _ _ hv
      have hdm := Nat.div_add_mod off es
      have hoff : off / es * es + off % es = off := by rw [Nat.mul_comm]; exact hdm
      simp only [VR] at hv2
      obtain ⟨kk, rfl, hkk⟩ := hv2
      exact ⟨n, kk, by rw [hkk]; exact (Nat.eq_of_beq_eq_true hk).symm, cell_of hbk (by rw [← hv1]; congr 1; rw [hoff]), rfl⟩
    · exact .inl rfl
  · exact .inl rfl
theorem stoOne_ok (H : HR B w0 ρ h nx w) {nm off b : Nat} {v : AV} {cv : Value} (hb : ρ nm = some b) (hv : VR ρ v cv) (h1 : v.one = true) {fail : SRes} {K : Heap → SRes} :
    stoK 1 h nm off [v] fail K = fail ∨ (ρ.sh nm = 0 ∧ ∃ a' x, stoK 1 h nm off [v] fail K = K (h.set (pathOf nm) (some a')) ∧ w.cell? ⟨b, off, none⟩ = some x ∧ w.frozen? ⟨b, off, none⟩ = false ∧
      HR B w0 ρ (h.set (pathOf nm) (some a')) nx (w.setCell ⟨b, off, none⟩ cv)) := by
  unfold stoK
  split
  · rename_i c cnt es e wh hg
    split
    · rename_i old hold
      unfold stoK.sto1
      split
      · rename_i hc
        rw [Bool.and_eq_true, Bool.and_eq_true, Nat.beq_eq, Nat.ble_eq, Nat.ble_eq] at hc
        obtain ⟨⟨_, h2⟩, h3⟩ := hc
        obtain ⟨hs0, arr, fz, hbk, R⟩ := H.rowW hg hb
        right
        rw [T.setK_eq]
        unfold putAt
        rw [T.setK_eq]
        obtain ⟨g1, g2, _, _⟩ := R.elem _ _ hold
        have hdm := Nat.div_add_mod off es
        have hoff : off / es * es + off % es = off := by rw [Nat.mul_comm]; exact hdm
        have h2' : off % es + 1 ≤ old.length := h2
        have hsz := R.size
        have hqs : (off / es + 1) * es ≤ cnt * es := Nat.mul_le_mul_right _ g1
        rw [Nat.add_mul, Nat.one_mul] at hqs
        have hlt : off < arr.size := by omega
        refine ⟨hs0, _, arr[off], rfl, by simp [World.cell?, hbk, hlt], ?_, H.put hg hb (.inr rfl) (obj := .cells (layC off 0 [cv] arr) e fz) ?_ (fun b' hne => ?_) ⟨by simp [World.setCell], rfl, rfl⟩
          ⟨_, _, fz, rfl, fun _ => rfl, R.store hold (by simpa using h2') (VRs.cons hv VRs.nil) (by simp [h1])⟩ ?_⟩
        · have := R.free rfl off hlt
          simp only [World.frozen?, hbk]
          obtain ⟨lo, hi⟩ := fz
          simp only [Bool.and_eq_false_iff, decide_eq_false_iff_not]
          simp only at this
          omega
        · simp [World.setCell, Array.getElem?_modify, hbk, layC]
        · simp [World.setCell, Array.getElem?_modify, Ne.symm hne]
        · intro kk c' cnt' es' e' wh' ro' arr' fz' hk ha' hob
          injection ha' with _ _ e3 e4
          injection hob with e5
          subst e3 e4
          rw [← e5, layC_size]
          exact H.cap nm c cnt es e wh false b kk arr fz hg hb hk hbk
      · exact .inl rfl
    · exact .inl rfl
  · exact .inl rfl
theorem ext_ptr {nm off : Nat} {v : Value} (h : VR ρ (.ptr nm off) v) : ∃ b, ρ nm = some b ∧ v = .pointer (some ⟨b, off + ρ.sh nm, none⟩) := by
  simp only [VR] at h
  obtain ⟨b, hb, e⟩ := h
  exact ⟨b, hb, e⟩
theorem ext_int {k : Nat} {n : Int} {v : Value} (h : VR ρ (.int k n) v) : ∃ kk, v = .int kk n ∧ ktag kk = k := by
  simp only [VR] at h
  exact h
theorem countN_eq : ∀ (l : List UInt8) (c : Nat), countN l.length (bytesNat l) (Nat.mod c 256) = Lib.countByte l (UInt8.ofNat c)
  | [], c => rfl
  | b :: l, c => by
    have hb := UInt8.toNat_lt b
    have h1 : Nat.mod (bytesNat (b :: l)) 256 = b.toNat := by
      rw [bytesNat_cons]
      show (b.toNat + 256 * bytesNat l) % 256 = _
      omega
    have h2 : Nat.div (bytesNat (b :: l)) 256 = bytesNat l := by
      rw [bytesNat_cons]
      show (b.toNat + 256 * bytesNat l) / 256 = _
      omega
    have ih := countN_eq l c
    unfold Lib.countByte at ih ⊢
    rw [List.length_cons, countN, h1, h2, List.count_cons]
    have hq : (b == UInt8.ofNat c) = Nat.beq b.toNat (Nat.mod c 256) := by
      rw [Bool.eq_iff_iff, beq_iff_eq, Nat.beq_eq, ← UInt8.toNat_inj, UInt8.toNat_ofNat']
      rfl
    rw [hq]
    cases Nat.beq b.toNat (Nat.mod c 256) with
    | true => simp [ih]
    | false => simp [ih]
theorem VR_unit : VR ρ undefA (.tuple #[]) := by
  unfold undefA
  simp only [VR]
  exact ⟨#[], rfl, VRs.nil⟩
theorem callK_ok (hE : EOk2 P E) (H : HR B w0 ρ h nx w) {f : FuncId} {args : List AV} {cargs : Array Value} (ha : VRs ρ args cargs.toList) {c0 : Nat} {K : ANext → Heap → Nat → SRes} :
    Leads (callK P E f args h (.fail c0) fun n h => K n h nx) K (Post P B w0 ρ h nx w (callFunc f cargs)) := by
  unfold callK
  split
  · rename_i fn hf
    split
    · rename_i body hb
      refine Leads.to ⟨ρ, Rho.le_refl ρ, Keeps.refl _ _, Nat.le_refl _, ?_⟩
      simp only [callFunc, Sem.run_bind, run_program, Result.andThen_ok, hf, hE.count f fn hf, Bool.false_eq_true, if_false, hb, Option.isNone_some, Sem.run_pure]
      exact ⟨⟨cargs, rfl, ha⟩, H⟩
    · unfold extK
      obtain ⟨cl⟩ := cargs
      split
      · rename_i x he
        obtain ⟨v, rfl, hv⟩ := VRs.one ha
        obtain ⟨w', r1, r2⟩ := hE.same f he v w
        refine Leads.to ⟨ρ, Rho.le_refl ρ, Keeps.refl _ _, Nat.le_refl _, ?_⟩
        rw [r1]
        exact ⟨.inl ⟨v, rfl, hv⟩, H.world r2⟩
      · rename_i l n c he
        obtain ⟨v, x, rfl, hv, hx⟩ := VRs.two ha
        simp only [VR] at hv hx
        obtain ⟨s, rfl, hs⟩ := hv
        obtain ⟨kk, rfl, hk⟩ := hx
        have : kk = .u8 := ktag_inj (j := kk) (k := .u8) (by rw [hk]; rfl)
        subst this
        obtain ⟨h1, h2⟩ := strOf_inj' hs
        obtain ⟨w', r1, r2⟩ := hE.idx f he s c w
        refine Leads.to ⟨ρ, Rho.le_refl ρ, Keeps.refl _ _, Nat.le_refl _, ?_⟩
        rw [r1, h1, h2]
        exact ⟨.inl ⟨_, rfl, vInt .i64⟩, H.world r2⟩
      · -- a load
        rename_i k nm off he
        obtain ⟨v, rfl, hv⟩ := VRs.one ha
        obtain ⟨b, hb, rfl⟩ := ext_ptr hv
        obtain ⟨fn', g, hf', hname, hbn, hn, hg, kk', hk, rfl⟩ := hE.atom f _ he rfl
        rcases numAt_ok (k := k) (off := off) (K := fun n => K (.val (.int k n)) h nx) (fail := SRes.fail c0) H hb with e | ⟨n, kk, hkk, hcell, e⟩
        · rw [e]; exact Leads.fail
        · rw [e]
          obtain rfl : kk = kk' := ktag_inj (by rw [hkk, hk])
          refine Leads.to (post_val H (cv := .int kk n) ?_ (by simp only [VR]; exact ⟨kk, rfl, hkk⟩))
          exact run_call_load hf' hname hbn hn kk hg hcell
      · -- bytes are counted
        rename_i l n c he
        obtain ⟨v, x, rfl, hv, hx⟩ := VRs.two ha
        simp only [VR] at hv hx
        obtain ⟨s, rfl, hs⟩ := hv
        obtain ⟨kk, rfl, hk⟩ := hx
        have : kk = .u8 := ktag_inj (j := kk) (k := .u8) (by rw [hk]; rfl)
        subst this
        obtain ⟨h1, h2⟩ := strOf_inj' hs
        obtain ⟨fn', g, hf', hname, hbn, hn, hg, rfl⟩ := hE.atom f _ he rfl
        refine Leads.to (post_val H (cv := .int .i64 (.ofNat (countN l n (Nat.mod c 256)))) ?_ (vInt .i64))
        have hl : s.data.toList.length = s.size := Array.length_toList
        rw [run_callFunc_extern hf' hname hbn hn hg, Lib.run_countString, ← h1, ← h2, ← hl, countN_eq]
        rfl
      · -- a float's bits
        rename_i b he
        obtain ⟨v, rfl, hv⟩ := VRs.one ha
        simp only [VR] at hv
        subst hv
        obtain ⟨fn', g, hf', hname, hbn, hn, hg, rfl⟩ := hE.atom f _ he rfl
        refine Leads.to (post_val H (cv := .int .u64 (.ofNat b)) ?_ (vInt .u64))
        rw [run_callFunc_extern hf' hname hbn hn hg]
        rfl
      · rename_i n he
        obtain ⟨v, rfl, hv⟩ := VRs.one ha
        obtain ⟨kk, rfl, hk⟩ := ext_int hv
        have : kk = .u64 := ktag_inj (j := kk) (k := .u64) (by rw [hk]; rfl)
        subst this
        obtain ⟨fn', g, hf', hname, hbn, hn, hg, rfl⟩ := hE.atom f _ he rfl
        refine Leads.to (post_val H (cv := .float .f64 n) ?_ (by simp only [VR]))
        rw [run_callFunc_extern hf' hname hbn hn hg]
        rfl
      · -- a mark
        rename_i he
        simp only [VRs] at ha
        subst ha
        obtain ⟨fn', g, hf', hname, hbn, hn, hg, m, rfl⟩ := hE.atom f _ he rfl
        exact Leads.to (post_val H (run_call_mark0 hf' hname hbn hn m hg w) VR_unit)
      · rename_i nm off he
        obtain ⟨v, rfl, hv⟩ := VRs.one ha
        obtain ⟨b, hb, rfl⟩ := ext_ptr hv
        obtain ⟨fn', g, hf', hname, hbn, hn, hg, m, rfl⟩ := hE.atom f _ he rfl
        exact Leads.to (post_val H (run_call_marked hf' hname hbn hn m hg _ w) VR_unit)
      · -- a store
        rename_i nm off k n he
        obtain ⟨v, x, rfl, hv, hx⟩ := VRs.two ha
        obtain ⟨b, hb, rfl⟩ := ext_ptr hv
        obtain ⟨kk, rfl, hkk⟩ := ext_int hx
        obtain ⟨fn', g, hf', hname, hbn, hn, hg, rfl⟩ := hE.atom f _ he rfl
        rcases stoOne_ok (v := .int k n) (cv := .int kk n) (off := off) (K := fun h => K (.val undefA) h nx) (fail := SRes.fail c0) H hb hx rfl with e | ⟨hs0, a', x, e, hcell, hfr, H'⟩
        · rw [e]; exact Leads.fail
        · rw [e, hs0]
          exact Leads.to (post_put hb H' (run_call_store hf' hname hbn hn hg hcell hfr) (.inl ⟨_, rfl, VR_unit⟩))
      · -- compare and swap
        rename_i k nm off k1 old k2 new he
        obtain ⟨v, x, y, rfl, hv, hx, hy⟩ := VRs.three ha
        obtain ⟨b, hb, rfl⟩ := ext_ptr hv
        obtain ⟨k1', rfl, hk1⟩ := ext_int hx
        obtain ⟨k2', rfl, hk2⟩ := ext_int hy
        obtain ⟨fn', g, hf', hname, hbn, hn, hg, kk', hk, rfl⟩ := hE.atom f _ he rfl
        split
        · rename_i hkk0
          rw [Bool.and_eq_true, Nat.beq_eq, Nat.beq_eq] at hkk0
          obtain ⟨rfl, rfl⟩ := hkk0
          rcases numAt_ok (k := k) (off := off) (K := fun n => casK h nm off k new (SRes.fail c0) (fun n h => K n h nx) (decide (n = old))) (fail := SRes.fail c0) H hb with e | ⟨n, kk, hkk, hcell, e⟩
          · rw [e]; exact Leads.fail
          · rw [e]
            obtain rfl : kk = kk' := ktag_inj (by rw [hkk, hk])
            obtain rfl : kk = k1' := ktag_inj (by rw [hkk, hk1])
            obtain rfl : kk = k2' := ktag_inj (by rw [hkk, hk2])
            unfold casK
            split
            · rename_i hdec
              have hno : n = old := of_decide_eq_true hdec
              rcases stoOne_ok (v := .int k new) (cv := .int kk new) (off := off) (K := fun h => K (.val (.bool true)) h nx) (fail := SRes.fail c0) H hb hy rfl with e | ⟨hs0, a', x, e, hcell2, hfr, H'⟩
              · rw [e]; exact Leads.fail
              · rw [e]
                rw [hs0] at hcell ⊢
                subst hno
                exact Leads.to (post_put hb H' (run_call_cas_hit hf' hname hbn hn kk hg hcell hfr) (.inl ⟨_, rfl, vBool⟩))
            · rename_i hdec
              have hno : ¬ n = old := of_decide_eq_false hdec
              split
              · rename_i c cnt es e wh hgc
                obtain ⟨hs0, arr, fz, hbk, R⟩ := H.rowW hgc hb
                rw [hs0] at hcell ⊢
                have hlt : off < arr.size := by
                  unfold World.cell? at hcell
                  simp only [hbk] at hcell
                  exact (Array.getElem?_eq_some_iff.1 hcell).1
                have hfr : w.frozen? ⟨b, off, none⟩ = false := by
                  have := R.free rfl off hlt
                  simp only [World.frozen?, hbk]
                  obtain ⟨lo, hi⟩ := fz
                  simp only [Bool.and_eq_false_iff, decide_eq_false_iff_not]
                  simp only at this
                  omega
                exact Leads.to (post_val H (run_call_cas_miss hf' hname hbn hn kk hg hcell hfr hno) vBool)
              · exact Leads.fail
        · exact Leads.fail
      · -- an addition
        rename_i k nm off k1 y he
        obtain ⟨v, x, rfl, hv, hx⟩ := VRs.two ha
        obtain ⟨b, hb, rfl⟩ := ext_ptr hv
        obtain ⟨k1', rfl, hk1⟩ := ext_int hx
        obtain ⟨fn', g, hf', hname, hbn, hn, hg, kk', hk, rfl⟩ := hE.atom f _ he rfl
        split
        · rename_i hkk0
          rw [Nat.beq_eq] at hkk0
          subst hkk0
          rcases numAt_ok (k := k) (off := off) (K := fun n => addK h nm off k ((kindAt k).wrap (n + y)) (SRes.fail c0) (fun n h => K n h nx)) (fail := SRes.fail c0) H hb with e | ⟨n, kk, hkk, hcell, e⟩
          · rw [e]; exact Leads.fail
          · rw [e]
            obtain rfl : kk = kk' := ktag_inj (by rw [hkk, hk])
            obtain rfl : kk = k1' := ktag_inj (by rw [hkk, hk1])
            unfold addK
            have hz : VR ρ (.int k ((kindAt k).wrap (n + y))) (.int kk (kk.wrap (n + y))) := by
              simp only [VR]
              exact ⟨kk, by rw [← hkk, kindAt_ktag], hkk⟩
            rcases stoOne_ok (v := .int k ((kindAt k).wrap (n + y))) (off := off) (K := fun h => K (.val (.int k ((kindAt k).wrap (n + y)))) h nx) (fail := SRes.fail c0) H hb hz rfl with e | ⟨hs0, a', x, e, hcell2, hfr, H'⟩
            · rw [e]; exact Leads.fail
            · rw [e]
              rw [hs0] at hcell ⊢
              exact Leads.to (post_put hb H' (run_call_add hf' hname hbn hn kk hg hcell hfr (by simp [Op.intArith])) (.inl ⟨_, rfl, hz⟩))
        · exact Leads.fail
      · exact Leads.fail
  · exact Leads.fail
theorem TmR.set {tm : Tm} {ct : Array Value} (h : TmR ρ tm ct) {t : Tmp} {v : AV} {cv : Value} (hv : VR ρ v cv) (hs : ct.size ≤ 512) (ht : t < ct.size) : TmR ρ (Tm.put (slotOf t) tm v) (ct.setIfInBounds t cv) := by
  intro t' ht'
  rw [at_put_slot ht' (Nat.lt_of_lt_of_le ht hs)]
  have e : (ct.setIfInBounds t cv).getD t' undef = if t' = t then cv else ct.getD t' undef := by
    rw [Array.getD_eq_getD_getElem?, Array.getD_eq_getD_getElem?, Array.getElem?_setIfInBounds]
    by_cases hh : t = t'
    · subst hh; simp [ht]
    · rw [if_neg hh, if_neg (Ne.symm hh)]
  rw [e]
  split
  · exact hv
  · exact h t' ht'
theorem zipSet_ok {β : Type} {K : Tm → β} {fail : β} {nt : Nat} (hnt : nt ≤ 512) : ∀ {ts : List Tmp} {vs : List AV} {cvs : List Value} {tm : Tm} {ct : Array Value}, VRs ρ vs cvs → TmR ρ tm ct → ct.size = nt →
    zipSet ts vs tm nt K fail = fail ∨ (ts.length = cvs.length ∧ ∃ tm', zipSet ts vs tm nt K fail = K tm' ∧ TmR ρ tm' ((ts.zip cvs).foldl (fun tmps (t, a) => tmps.setIfInBounds t a) ct) ∧ ((ts.zip cvs).foldl (fun tmps (t, a) => tmps.setIfInBounds t a) ct).size = nt)
  | [], [], cvs, tm, ct, hv, ht, hs => by
    simp only [VRs] at hv; subst hv
    exact .inr ⟨rfl, tm, rfl, ht, hs⟩
  | [], _ :: _, _, _, _, _, _, _ => .inl rfl
  | _ :: _, [], _, _, _, _, _, _ => .inl rfl
  | t :: ts, v :: vs, cvs, tm, ct, hv, ht, hs => by
    simp only [VRs] at hv
    obtain ⟨cv, cvs', rfl, h1, h2⟩ := hv
    unfold zipSet
    split
    · rename_i hle
      rw [Nat.ble_eq] at hle
      rcases zipSet_ok (K := K) (fail := fail) hnt (ts := ts) h2 (ht.set (t := t) h1 (by omega) (by rw [hs]; exact hle)) (by rw [Array.size_setIfInBounds]; exact hs) with h | ⟨h3, tm', h4, h5, h6⟩
      · exact .inl h
      · exact .inr ⟨by simp [h3], tm', h4, h5, h6⟩
    · exact .inl rfl
theorem yieldK_ok (H : HR B w0 ρ h nx w) {l b : Nat} {args : List AV} {cargs : Array Value} (hb : ρ l = some b) (ha : VRs ρ args cargs.toList) {c0 : Nat} {K : ANext → Heap → Nat → SRes} :
    Leads (yieldK l args h (.fail c0) fun n => K n h nx) K (Post P B w0 ρ h nx w (Instr.yield b cargs)) := by
  unfold yieldK
  split
  · rename_i r hg
    obtain ⟨o, hbk, ho⟩ := H.obj l _ b hg hb
    obtain ⟨cl, rfl, L⟩ := ho
    have hget : (Instr.getLoop b).run P w = .ok cl w := by simp [Instr.getLoop, getObj, Sem.run, hbk]
    rcases zipSet_ok (ρ := ρ) (K := fun tm => K (.round l r.fn tm r.nt r.assign r.body) h nx) (fail := SRes.fail c0) L.nt (ts := r.params) ha L.tmps L.size with h1 | ⟨h1, tm', h2, h3, h4⟩
    · rw [h1]; exact Leads.fail
    · rw [h2]
      refine Leads.to ⟨ρ, Rho.le_refl ρ, Keeps.refl _ _, Nat.le_refl _, ?_⟩
      have hp : cl.params.toList = r.params := L.params
      have hsz : ¬ cargs.size ≠ cl.params.size := by
        rw [← Array.length_toList, ← Array.length_toList, hp, h1]; simp
      have hz : (cl.params.zip cargs).foldl (fun tmps (x : Tmp × Value) => tmps.setIfInBounds x.1 x.2) cl.tmps = (r.params.zip cargs.toList).foldl (fun tmps (x : Tmp × Value) => tmps.setIfInBounds x.1 x.2) cl.tmps := by
        rw [← Array.foldl_toList, Array.toList_zip, hp]
      simp only [Instr.yield, Sem.run_bind, hget, Result.andThen_ok, if_neg hsz, Sem.run_pure]
      refine ⟨⟨b, _, hb, ?_, h4, L.nt, h3⟩, H⟩
      rw [hz, L.fn, L.assign, L.body]
  · exact Leads.fail
end
end Go.Abs
namespace Go.Abs
noncomputable section
variable {P : Program} {E : Env} {B : Nat} {w0 : World} {ρ ρ' : Rho} {h : Heap} {nx : Nat} {w w' : World}
theorem Post.of_run {s s' : Sem Next} (e : s.run P w = s'.run P w) {n : ANext} {h' : Heap} {nx' : Nat} (hp : Post P B w0 ρ h nx w s n h' nx') : Post P B w0 ρ h nx w s' n h' nx' := by
  obtain ⟨ρ', h1, h2, h3, h4⟩ := hp
  exact ⟨ρ', h1, h2, h3, by rw [← e]; exact h4⟩
theorem Leads.mono {r : SRes} {K : ANext → Heap → Nat → SRes} {Q Q' : ANext → Heap → Nat → Prop} (hl : Leads r K Q) (hq : ∀ n h nx, Q n h nx → Q' n h nx) : Leads r K Q' := by
  rcases hl with h | ⟨n, h', nx', e, h⟩
  · exact .inl h
  · exact .inr ⟨n, h', nx', e, hq _ _ _ h⟩
/-- an entry of the known calls is used -/
def KnownQ (E : Env) (ρ : Rho) (h : Heap) (nx : Nat) (ev : Operand → Value) (o : Oper) (n : ANext) (h' : Heap) (nx' : Nat) : Prop :=
  ∃ f cargs ats as v, o.op = .call ⟨.value (.func f), cargs, ats⟩ ∧ (as, v) ∈ E.known f ∧ VRs ρ as (cargs.map ev).toList ∧ n = .val v ∧ h' = h ∧ nx' = nx
theorem dynK_ok (hE : EOk2 P E) (H : HR B w0 ρ h nx w) {f : AV} {args : List AV} {cf : Value} {cargs : Array Value} (hf : VR ρ f cf) (ha : VRs ρ args cargs.toList) {c0 : Nat} {K : ANext → Heap → Nat → SRes} :
    Leads (dynK P E f args h (.fail c0) fun n h => K n h nx) K (Post P B w0 ρ h nx w (do let d ← Deferred.ofValue cf cargs; invoke d.target d.args)) := by
  unfold dynK
  split
  · rename_i g first captured
    simp only [VR] at hf
    obtain ⟨g', fi, cap, rfl, ⟨rfl, _⟩, h2, h3⟩ := hf
    have := callK_ok (P := P) (E := E) (w := w) hE H (f := g) (args := first ++ args ++ captured) (cargs := fi ++ cargs ++ cap) (by
      rw [Array.toList_append, Array.toList_append]
      exact (h2.append ha).append h3) (c0 := c0) (K := K)
    exact this.mono fun n h' nx' hp => hp.of_run (by simp only [Deferred.ofValue, Sem.run_bind, Sem.run_pure, Result.andThen_ok, invoke])
  · rename_i l first cap'
    simp only [VR] at hf
    obtain ⟨g', fi, cap, rfl, ⟨b, hb, rfl⟩, h2, h3⟩ := hf
    have := yieldK_ok (P := P) (w := w) H (args := first ++ args) (cargs := fi ++ cargs) hb (by
      rw [Array.toList_append]
      exact h2.append ha) (c0 := c0) (K := K)
    exact this.mono fun n h' nx' hp => hp.of_run (by simp only [Deferred.ofValue, Sem.run_bind, Sem.run_pure, Result.andThen_ok, invoke])
  · exact Leads.fail
theorem extract_one {α : Type} (y : α) (cargs : Array α) : (#[y] ++ cargs).extract 1 (#[y] ++ cargs).size = cargs := by
  apply Array.ext_getElem?
  intro i
  rw [Array.getElem?_extract]
  simp
  split
  · rw [Array.getElem?_append_right (by simp)]
    simp
  · rename_i h
    rw [Array.getElem?_eq_none (by omega)]
theorem invK_ok (hE : EOk2 P E) (H : HR B w0 ρ h nx w) {r : AV} {name : String} {args : List AV} {cr : Value} {cargs : Array Value} (hr : VR ρ r cr) (ha : VRs ρ args cargs.toList) {c0 : Nat} {K : ANext → Heap → Nat → SRes} :
    Leads (invK P E r name args h (.fail c0) fun n h => K n h nx) K (Post P B w0 ρ h nx w (invoke (.fn (.method name) #[]) (#[cr] ++ cargs))) := by
  unfold invK
  split
  · rename_i t v
    split
    · rename_i f hm
      simp only [VR] at hr
      obtain ⟨y, rfl, hy⟩ := hr
      have := callK_ok (P := P) (E := E) (w := w) hE H (f := f) (args := v :: args) (cargs := #[y] ++ cargs) (by
        rw [Array.toList_append]
        exact VRs.cons hy ha) (c0 := c0) (K := K)
      refine this.mono fun n h' nx' hp => hp.of_run ?_
      have he : (#[Value.iface t y] ++ cargs)[0]? = some (.iface t y) := by
        rw [Array.getElem?_append_left (by simp)]
        rfl
      have hx := extract_one (Value.iface t y) cargs
      simp only [invoke, he, hx, callMethod, Sem.run_bind, run_program, Result.andThen_ok, hE.method t name f y _ hm]
    · exact Leads.fail
  · exact Leads.fail
theorem knownK_ok (hE : EOk2 P E) (H : HR B w0 ρ h nx w) {f : FuncId} {args : List AV} {cargs : Array Value} (ha : VRs ρ args cargs.toList) {c0 : Nat} {K : ANext → Heap → Nat → SRes} : ∀ (l : List (List AV × AV)), (∀ x ∈ l, x ∈ E.known f) →
    Leads (knownK P E f args h (.fail c0) (fun n h => K n h nx) l) K (fun n h' nx' => Post P B w0 ρ h nx w (callFunc f cargs) n h' nx' ∨ (∃ as v, (as, v) ∈ E.known f ∧ VRs ρ as cargs.toList ∧ n = .val v ∧ h' = h ∧ nx' = nx))
  | [], _ => (callK_ok hE H ha).mono fun _ _ _ hp => .inl hp
  | (as, v) :: l, hl => by
    unfold knownK
    split
    · rename_i hq
      have := AV.beqs_eq hq
      subst this
      exact Leads.to (.inr ⟨as, v, hl _ (by simp), ha, rfl, rfl, rfl⟩)
    · exact knownK_ok hE H ha l (fun x hx => hl x (by simp [hx]))
theorem chainK_eq (tm : Tm) (h : Heap) (nx : Nat) (fail : SRes) (K : KC SRes) (o : CHOp) : chainK P E tm h nx fail K o = runC tm h nx fail K (cloC P E o) := rfl
theorem exec_call (ev : Operand → Value) (w : World) (c : Call) (dst : Option Tmp) (type : TypeId) (pos : String) (after : Array Edge) (guard : Option (Nat × Bool)) :
    (execOp ev { dst := dst, op := .call c, type := type, pos := pos, after := after, guard := guard }).run P w = (do let d ← resolve ev c type; invoke d.target d.args : Sem Next).run P w := rfl
/-- all the operations of the chain -/
theorem chain_ok (hE : EOk2 P E) (H : HR B w0 ρ h nx w) {tm : Tm} {ev : Operand → Value} {o : Oper} {q : CHOp} (hc : comp P E o = .c q) (hs : ∀ x ∈ o.op.operands.toList, Sees ρ tm ev x) {c0 : Nat} {K : ANext → Heap → Nat → SRes} :
    Leads (chainK P E tm h nx (.fail c0) K q) K (fun n h' nx' => Post P B w0 ρ h nx w (execOp ev o) n h' nx' ∨ KnownQ E ρ h nx ev o n h' nx') := by
  obtain ⟨dst, op, type, pos, after, guard⟩ := o
  have sees : ∀ {x : Operand} {y : Opd}, x ∈ op.operands → opd x = some y → VR ρ (ov tm y) (ev x) := fun hx hy => hs _ (by simpa using hx) _ hy
  have inl : ∀ {r : SRes} {s : Sem Next}, Leads r K (Post P B w0 ρ h nx w s) → s.run P w = (execOp ev { dst := dst, op := op, type := type, pos := pos, after := after, guard := guard }).run P w →
      Leads r K (fun n h' nx' => Post P B w0 ρ h nx w (execOp ev { dst := dst, op := op, type := type, pos := pos, after := after, guard := guard }) n h' nx' ∨ KnownQ E ρ h nx ev { dst := dst, op := op, type := type, pos := pos, after := after, guard := guard } n h' nx') :=
    fun hl e => hl.mono fun _ _ _ hp => .inl (hp.of_run e)
  cases op <;> simp only [comp] at hc
  case assign x =>
    obtain ⟨y, hy, e⟩ := ofO_p hc c_ne
    injection e with e; subst e
    simp only [chainK_eq, cloC, runC, cAsg]
    have hx := sees (x := x) (by simp [Op.operands]) hy
    have : ovK y tm (fun v => K (.val v) h nx) = K (.val (ov tm y)) h nx := by
      cases y with
      | slot s => exact getA_eq s tm _
      | val v => rfl
    rw [this]
    exact inl (s := pure (.value (ev x))) (Leads.to (post_val H rfl hx)) rfl
  case insert t m k x =>
    split at hc
    · rename_i kt el hu
      obtain ⟨m', k', x', h1, h2, h3, e⟩ := o3_p hc c_ne
      injection e with e; subst e
      exact inl (mup_ok hE.toEOk H hu (sees (by simp [Op.operands]) h1) (sees (by simp [Op.operands]) h2) (sees (by simp [Op.operands]) h3)) rfl
    · cases hc
  case mapUpdate t m k x =>
    split at hc
    · rename_i kt el hu
      obtain ⟨m', k', x', h1, h2, h3, e⟩ := o3_p hc c_ne
      injection e with e; subst e
      exact inl (mup_ok hE.toEOk H hu (sees (by simp [Op.operands]) h1) (sees (by simp [Op.operands]) h2) (sees (by simp [Op.operands]) h3)) rfl
    · cases hc
  case mapEntry t m k =>
    split at hc
    · rename_i kt el hu
      obtain ⟨z, m', k', hz, h1, h2, e⟩ := o3_p hc c_ne
      injection e with e; subst e
      exact inl (men_ok hE.toEOk H hu hz (sees (by simp [Op.operands]) h1) (sees (by simp [Op.operands]) h2)) rfl
    · cases hc
  case entryStore t m s x =>
    obtain ⟨m', s', x', h1, h2, h3, e⟩ := o3_p hc c_ne
    injection e with e; subst e
    exact inl (mst_ok (t := t) H (sees (by simp [Op.operands]) h1) (sees (by simp [Op.operands]) h2) (sees (by simp [Op.operands]) h3)) rfl
  case store t a x =>
    split at hc
    · rename_i n hn
      obtain ⟨a', x', h1, h2, e⟩ := o2_p hc c_ne
      injection e with e; subst e
      exact inl (sto_ok H hn (sees (by simp [Op.operands]) h1) (sees (by simp [Op.operands]) h2)) rfl
    · cases hc
  case range t x =>
    split at hc
    · rename_i hu
      obtain ⟨y, hy, e⟩ := ofO_p hc c_ne
      injection e with e; subst e
      have hx := sees (x := x) (by simp [Op.operands]) hy
      exact inl (s := do pure (.value (← Instr.range t (ev x)))) (mkl_ok (tm := tm) (q := .rng y) H fun v ob hv w' hw => by
        have hn := (H.new nx (Nat.le_refl _)).2
        have hcn : ρ.cap w'.heap.size = none := by
          rw [hw.1]
          cases hc : ρ.cap w.heap.size with
          | none => rfl
          | some x => have := H.capb _ _ hc; omega
        exact rng_ok hu hx hv) rfl
    · rename_i kt el hu
      obtain ⟨y, hy, e⟩ := ofO_p hc c_ne
      injection e with e; subst e
      exact inl (rnm_ok H hu (sees (x := x) (by simp [Op.operands]) hy)) rfl
    · cases hc
  case next it s =>
    cases s
    · obtain ⟨y, hy, e⟩ := ofO_p (show ofO (fun x => COp.c (.nxm x)) .bad (opd it) = .c q from hc) c_ne
      injection e with e; subst e
      exact inl (nxm_ok (ty := type) H (sees (x := it) (by simp [Op.operands]) hy)) rfl
    · obtain ⟨y, hy, e⟩ := ofO_p (show ofO (fun x => COp.c (.nxt x)) .bad (opd it) = .c q from hc) c_ne
      injection e with e; subst e
      exact inl (nxt_ok (ty := type) H (sees (x := it) (by simp [Op.operands]) hy)) rfl
  case entry it =>
    obtain ⟨y, hy, e⟩ := ofO_p hc c_ne
    injection e with e; subst e
    exact inl (ent_ok H (sees (x := it) (by simp [Op.operands]) hy)) rfl
  case typeAssert x xt t ok =>
    unfold compAssert at hc
    split at hc
    · cases hc
    · rename_i d hni hu
      obtain ⟨z, y, hz, hy, e⟩ := o2_p hc c_ne
      injection e with e; subst e
      exact inl (tas_ok (xt := xt) H ⟨d, hu, fun ms e => hni ms e⟩ hz (sees (x := x) (by simp [Op.operands]) hy)) rfl
    · cases hc
  case panic x =>
    obtain ⟨y, hy, e⟩ := ofO_p hc c_ne
    injection e with e; subst e
    exact inl (pan_ok H (sees (x := x) (by simp [Op.operands]) hy)) rfl
  case defer c =>
    unfold compDefer at hc
    obtain ⟨callee, args, ats⟩ := c
    simp only at hc
    split at hc
    · rename_i f
      obtain ⟨f', as, h1, h2, e⟩ := o2_p hc c_ne
      injection e with e; subst e
      have ha := opds_sees h2 (fun x hx => hs x (by simp only [Op.operands, Call.operands]; simp; exact .inr (by simpa using hx)))
      refine inl (dfr_ok H (sees (x := f) (by simp [Op.operands, Call.operands]) h1) (cargs := args.map ev) (by rw [Array.toList_map]; exact ha)) ?_
      simp only [execOp, resolve, Sem.run_bind]
    · cases hc
  case call c =>
    unfold compCall at hc
    obtain ⟨callee, args, ats⟩ := c
    simp only at hc
    have hargs : ∀ x ∈ args.toList, Sees ρ tm ev x := fun x hx => hs x (by simp only [Op.operands, Call.operands]; simp; exact .inr (by simpa using hx))
    split at hc
    · rename_i b
      obtain ⟨args⟩ := args
      obtain ⟨ats⟩ := ats
      replace hc : compBuiltin P b args ats = .c q := hc
      obtain ⟨consts, hx⟩ := exec_builtin (P := P) ev w b args ⟨ats⟩ dst type pos after guard
      unfold compBuiltin at hc
      split at hc
      · rename_i x t
        unfold compLen at hc
        (repeat' split at hc) <;> cases hc
      · split at hc
        · obtain ⟨_, _, e⟩ := ofO_p hc c_ne; cases e
        · cases hc
      · obtain ⟨_, _, _, _, e⟩ := o2_p hc c_ne; cases e
      · obtain ⟨_, _, _, _, e⟩ := o2_p hc c_ne; cases e
      · rename_i s x t u
        split at hc
        · cases hc
        · rename_i e' d hni ht hu
          split at hc
          · rename_i n b z hn hb hz
            split at hc
            · rename_i hcond
              rw [Bool.and_eq_true, Nat.ble_eq, Nat.beq_eq] at hcond
              obtain ⟨s', x', h1, h2, e⟩ := o2_p hc c_ne
              injection e with e; subst e
              exact inl (app_ok (t := t) (u := u) (ty := type) H ⟨ht, ⟨_, hu, fun k e => hni k e⟩, hn, hb, hcond.1, hz, hcond.2⟩ (sees (x := s) (by simp [Op.operands, Call.operands]) h1) (sees (x := x) (by simp [Op.operands, Call.operands]) h2)) hx.symm
            · cases hc
          · cases hc
        · cases hc
      · rename_i d s t ts
        split at hc
        · rename_i e' hu
          split at hc
          · rename_i n hn
            obtain ⟨d', s', h1, h2, e⟩ := o2_p hc c_ne
            injection e with e; subst e
            exact inl (cpy_ok (t := t) (ats := ts) (ty := type) H hu hn (sees (x := d) (by simp [Op.operands, Call.operands]) h1) (sees (x := s) (by simp [Op.operands, Call.operands]) h2)) hx.symm
          · cases hc
        · cases hc
      · injection hc with hc; subst hc
        refine inl (s := pure .recover) (Leads.to ⟨ρ, Rho.le_refl ρ, Keeps.refl _ _, Nat.le_refl _, ?_⟩) hx.symm
        exact ⟨rfl, H⟩
      · obtain ⟨_, _, e⟩ := ofO_p hc c_ne; cases e
      · rename_i p l t ts
        split at hc
        · rename_i u hu
          split at hc
          · rename_i hn
            obtain ⟨p', l', h1, h2, e⟩ := o2_p hc c_ne
            injection e with e; subst e
            exact inl (ust_ok (t := t) (ats := ts) (ty := type) H hu hn (sees (x := p) (by simp [Op.operands, Call.operands]) h1) (sees (x := l) (by simp [Op.operands, Call.operands]) h2)) hx.symm
          · cases hc
        · cases hc
      · cases hc
    · rename_i f
      obtain ⟨as, h1, e⟩ := ofO_p hc c_ne
      injection e with e; subst e
      have ha := opds_sees h1 hargs
      have hf := sees (x := .func f) (y := .val (.fn (.func f) [] [])) (by simp [Op.operands, Call.operands]) rfl
      simp only [ov, VR, VRs] at hf
      obtain ⟨g, fi, cap, hev, ⟨rfl, _⟩, h2, h3⟩ := hf
      have e2 : fi = #[] := by obtain ⟨l⟩ := fi; simp at h2; subst h2; rfl
      have e3 : cap = #[] := by obtain ⟨l⟩ := cap; simp at h3; subst h3; rfl
      subst e2 e3
      have hrun : (callFunc f (args.map ev)).run P w = (execOp ev { dst := dst, op := .call { callee := .value (.func f), args := args, argTypes := ats }, type := type, pos := pos, after := after, guard := guard }).run P w := by
        simp only [execOp, resolve, hev, Deferred.ofValue, Sem.run_bind, Sem.run_pure, Result.andThen_ok, invoke, Array.append_empty, Array.empty_append]
      refine (knownK_ok (f := f) (args := ovs tm as) (cargs := args.map ev) hE H (by rw [Array.toList_map]; exact ha) (E.known f) (fun _ hx => hx)).mono fun n h' nx' hp => ?_
      rcases hp with hp | ⟨as', v, g1, g2, g3, g4, g5⟩
      · exact .inl (hp.of_run hrun)
      · exact .inr ⟨f, args, ats, as', v, rfl, g1, g2, g3, g4, g5⟩
    · rename_i f hnf
      obtain ⟨f', as, h1, h2, e⟩ := o2_p hc c_ne
      injection e with e; subst e
      have ha := opds_sees h2 hargs
      refine inl (dynK_ok hE H (sees (x := f) (by simp [Op.operands, Call.operands]) h1) (cargs := args.map ev) (by rw [Array.toList_map]; exact ha)) ?_
      simp only [execOp, resolve]
    · rename_i r name
      obtain ⟨r', as, h1, h2, e⟩ := o2_p hc c_ne
      injection e with e; subst e
      have ha := opds_sees h2 hargs
      refine inl (invK_ok hE H (sees (x := r) (by simp [Op.operands, Call.operands]) h1) (cargs := args.map ev) (by rw [Array.toList_map]; exact ha)) ?_
      simp only [execOp, resolve, Sem.run_bind, Sem.run_pure, Result.andThen_ok]
  all_goals
    try unfold compBuild at hc
    try unfold compBuildSlice at hc
    try unfold compBin at hc
    try unfold compConvert at hc
    try unfold compSlice at hc
    try unfold compIndexAddr at hc
    try unfold compIndex at hc
    try unfold compField at hc
    try unfold compFieldAddr at hc
    try unfold compMk at hc
  all_goals (repeat' split at hc)
  all_goals first
    | (cases hc; done)
    | (obtain ⟨_, _, e⟩ := ofO_p hc c_ne; cases e; done)
    | (obtain ⟨_, _, _, _, e⟩ := o2_p hc c_ne; cases e; done)
    | (obtain ⟨_, _, _, _, _, _, e⟩ := o3_p hc c_ne; cases e; done)
end
end Go.Abs
namespace Go.Abs
noncomputable section
variable {P : Program} {E : Env}
/-- goes on with a value, or fails -/
def Goes (r : SRes) (K : KV) (v : Option AV) : Prop := (∃ c, r = .fail c) ∨ ∃ x, v = some x ∧ r = K x
theorem Goes.fail {c : Nat} {K : KV} {v : Option AV} : Goes (.fail c) K v := .inl ⟨c, rfl⟩
theorem Goes.to {K : KV} {x : AV} : Goes (K x) K (some x) := .inr ⟨x, rfl, rfl⟩
theorem ovK_eq (x : Opd) (tm : Tm) (K : KV) : ovK x tm K = K (ov tm x) := by
  cases x with
  | slot s => exact getA_eq s tm K
  | val v => rfl
theorem optK_goes (K : KV) (o : Option AV) : Goes (optK K o) K o := by
  cases o with
  | none => exact .inl ⟨_, rfl⟩
  | some v => exact .inr ⟨v, rfl, AV.force_eq v K⟩
theorem bK_eq (K : KV) (b : Bool) : bK K b = K (.bool b) := by cases b <;> rfl
theorem forceInt_eq {β : Type} (n : Int) (K : Int → β) : forceInt n K = K n := by
  cases n with
  | ofNat m => cases m <;> rfl
  | negSucc m => cases m <;> rfl
theorem wrapS_eq (k : Nat) (K : KV) (n : Int) : wrapS k K n = K (.int k (awrap k n)) := forceInt_eq (awrap k n) fun n => K (.int k n)
theorem limR_eq (k : Nat) : limR k = lim k := by cases k <;> rfl
theorem wrapK_eq (k : Nat) (K : KV) (n : Int) : wrapK k K n = K (.int k (awrap k n)) := by
  cases n with
  | negSucc m => exact wrapS_eq k K _
  | ofNat m =>
    have e : wrapK k K (.ofNat m) = match Nat.ble (lim k) m with | false => K (.int k (.ofNat m)) | true => wrapS k K (.ofNat m) := by
      rw [← limR_eq]
      show Bool.rec (motive := fun _ => SRes) (Nat.rec (motive := fun _ => SRes) (K (.int k (.ofNat 0))) (fun m _ => K (.int k (.ofNat (Nat.succ m)))) m) (wrapS k K (.ofNat m)) (Nat.ble (limR k) m) = _
      generalize Nat.ble (limR k) m = b
      cases b <;> cases m <;> rfl
    rw [e]
    split
    · rename_i h
      simp only [awrap, h]
    · exact wrapS_eq k K _
theorem intR_cases (v : AV) (K : Nat → Int → SRes) : (∃ c, intR v K = .fail c) ∨ ∃ k n, v = .int k n ∧ intR v K = K k n := by
  cases v <;> first
    | exact .inr ⟨_, _, rfl, rfl⟩
    | exact .inl ⟨_, rfl⟩
theorem boolR_cases (v : AV) (a b : SRes) : (∃ c, boolR v a b = .fail c) ∨ (v = .bool true ∧ boolR v a b = a) ∨ (v = .bool false ∧ boolR v a b = b) := by
  cases v with
  | bool x => cases x <;> first | exact .inr (.inl ⟨rfl, rfl⟩) | exact .inr (.inr ⟨rfl, rfl⟩)
  | _ => exact .inl ⟨_, rfl⟩
theorem hInt_goes {op : BinOp} {g : Nat → Int → Int → KV → SRes} {f : Nat → Int → Int → AV} (hop : isShift op = false) (hg : ∀ k x y K, g k x y K = K (f k x y)) (hf : ∀ k x y, intOp op k x y = some (f k x y)) (a b : AV) (K : KV) : Goes (hInt g a b K) K (binA op a b) := by
  unfold hInt
  rcases intR_cases a (fun k x => intR b fun j y => kCh (g k x y K) (Nat.beq k j)) with ⟨c, h⟩ | ⟨k, x, rfl, h⟩
  · exact .inl ⟨c, h⟩
  · rw [h]
    rcases intR_cases b (fun j y => kCh (g k x y K) (Nat.beq k j)) with ⟨c, h⟩ | ⟨j, y, rfl, h⟩
    · exact .inl ⟨c, h⟩
    · rw [h]
      cases hq : Nat.beq k j with
      | false => exact .inl ⟨_, rfl⟩
      | true =>
        refine .inr ⟨f k x y, ?_, ?_⟩
        · simp only [binA, hq, hop, Bool.or_false]
          exact hf k x y
        · show g k x y K = _
          exact hg k x y K
theorem runB_goes (op : BinOp) (a b : AV) (K : KV) : Goes (runB a b K (cloB op)) K (binA op a b) := by
  cases op
  case add => exact hInt_goes (f := fun k x y => .int k (awrap k (Int.add x y))) rfl (fun k x y K => wrapK_eq _ _ _) (fun _ _ _ => rfl) a b K
  case sub => exact hInt_goes (f := fun k x y => .int k (awrap k (Int.sub x y))) rfl (fun k x y K => wrapK_eq _ _ _) (fun _ _ _ => rfl) a b K
  case eql => exact hInt_goes (f := fun k x y => .bool (ieq x y)) rfl (fun k x y K => bK_eq _ _) (fun _ _ _ => rfl) a b K
  case neq => exact hInt_goes (f := fun k x y => .bool (!ieq x y)) rfl (fun k x y K => bK_eq _ _) (fun _ _ _ => rfl) a b K
  case lss => exact hInt_goes (f := fun k x y => .bool (!ile y x)) rfl (fun k x y K => bK_eq _ _) (fun _ _ _ => rfl) a b K
  case leq => exact hInt_goes (f := fun k x y => .bool (ile x y)) rfl (fun k x y K => bK_eq _ _) (fun _ _ _ => rfl) a b K
  case gtr => exact hInt_goes (f := fun k x y => .bool (!ile x y)) rfl (fun k x y K => bK_eq _ _) (fun _ _ _ => rfl) a b K
  case geq => exact hInt_goes (f := fun k x y => .bool (ile y x)) rfl (fun k x y K => bK_eq _ _) (fun _ _ _ => rfl) a b K
  all_goals exact optK_goes K _
def runPF (tm : Tm) (K : KV) : PF → SRes
  | .mk f => f tm K
theorem h1_goes (g : AV → Option AV) (x : Opd) (tm : Tm) (K : KV) : Goes (h1 g x tm K) K (g (ov tm x)) := by
  unfold h1; rw [ovK_eq]; exact optK_goes K _
theorem h2_goes (g : AV → AV → Option AV) (x y : Opd) (tm : Tm) (K : KV) : Goes (h2 g x y tm K) K (g (ov tm x) (ov tm y)) := by
  unfold h2; rw [ovK_eq, ovK_eq]; exact optK_goes K _
theorem cloP_goes (q : POp) (tm : Tm) (K : KV) : Goes (runPF tm K (cloP P E q)) K (pureV P E tm q) := by
  cases q
  case val x => simp only [cloP, runPF, hVal, ovK_eq, pureV]; exact Goes.to
  case pick c a b =>
    simp only [cloP, runPF, hPick, ovK_eq, pureV]
    rcases boolR_cases (ov tm c) (K (ov tm a)) (K (ov tm b)) with ⟨c, h⟩ | ⟨h1, h2⟩ | ⟨h1, h2⟩
    · exact .inl ⟨c, h⟩
    · exact .inr ⟨_, by rw [h1]; rfl, h2⟩
    · exact .inr ⟨_, by rw [h1]; rfl, h2⟩
  case bin op x y => simp only [cloP, runPF, hBin, ovK_eq, pureV]; exact runB_goes op _ _ K
  case mki t x => simp only [cloP, runPF, hMki, ovK_eq, pureV]; exact .inr ⟨_, rfl, rfl⟩
  case mkf f l m => simp only [cloP, runPF, hMkf, pureV]; exact .inr ⟨_, rfl, rfl⟩
  case bld z ps => exact optK_goes K _
  case sls x lo hi => exact optK_goes K _
  case sll n x lo hi mx => exact optK_goes K _
  case sla n s x lo hi mx => exact optK_goes K _
  all_goals first
    | exact h1_goes _ _ tm K
    | exact h2_goes _ _ _ tm K
/-! where a value goes -/
/-- the slots behind -/
def Put (nt : Nat) (dst : Option Tmp) (v : AV) (tm tm' : Tm) : Prop :=
  match dst with
  | none => tm' = tm
  | some d => d < nt ∧ d < 512 ∧ tm' = Tm.put (slotOf d) tm v
theorem putD_cases (nt : Nat) (dst : Option Tmp) (v : AV) (tm : Tm) (K : Tm → SRes) : (∃ c, putD (dstOf nt dst) v tm K = .fail c) ∨ ∃ tm', Put nt dst v tm tm' ∧ putD (dstOf nt dst) v tm K = K tm' := by
  cases dst with
  | none => exact .inr ⟨tm, rfl, rfl⟩
  | some d =>
    simp only [dstOf]
    split
    · rename_i hc
      rw [Bool.and_eq_true, Nat.ble_eq, Nat.ble_eq] at hc
      exact .inr ⟨_, ⟨hc.1, hc.2, rfl⟩, setA_eq (slotOf d) tm v K⟩
    · exact .inl ⟨_, rfl⟩
theorem setTmp_cases (fi : FI) (hnt : fi.nt ≤ 512) (dst : Option Tmp) (v : AV) (tm : Tm) (K : Tm → SRes) : (∃ c, setTmp fi dst v tm K = .fail c) ∨ ∃ tm', Put fi.nt dst v tm tm' ∧ setTmp fi dst v tm K = K tm' := by
  cases dst with
  | none => exact .inr ⟨tm, rfl, rfl⟩
  | some d =>
    simp only [setTmp]
    split
    · rename_i hc
      rw [Nat.ble_eq] at hc
      rw [AV.force_eq]
      exact .inr ⟨_, ⟨hc, Nat.lt_of_lt_of_le hc hnt, rfl⟩, setA_eq (slotOf d) tm v K⟩
    · exact .inl ⟨_, rfl⟩
end
end Go.Abs
namespace Go.Abs
noncomputable section
variable {P : Program} {E : Env}
/-- what an operation of an ordered region comes to -/
def ActQ (P : Program) (E : Env) (nt : Nat) (ops : Array Oper) (o : Oper) (rest : List Oper) (k : List AItem) (c : Ctx) (K : KR) (h : Heap) (nx : Nat) (tm : Tm) (r : SRes) : Prop :=
  (∃ e, r = .fail e) ∨
  (wantedA o ops tm = false ∧ ∃ tm', Put nt o.dst undefA tm tm' ∧ r = K h nx tm') ∨
  (wantedA o ops tm = true ∧
    ((∃ q v tm', compG P E o = .p q ∧ pureV P E tm q = some v ∧ Put nt o.dst v tm tm' ∧ r = K h nx tm') ∨
     (∃ q v tm', compG P E o = .r q ∧ readX P E tm h q = some v ∧ Put nt o.dst v tm tm' ∧ r = K h nx tm') ∨
     (∃ q v ob tm', compG P E o = .l q ∧ allocV tm nx q = some (v, ob) ∧ Put nt o.dst v tm tm' ∧ r = K (h.set (pathOf nx) (some ob)) (nx + 1) tm') ∨
     (∃ q e, compG P E o = .c q ∧ r = chainK P E tm h nx (.fail e) (opV P c (dstOf nt o.dst) tm (.rg ops (o :: rest) :: k) K) q) ∨
     r = goK c h nx tm (.rg ops (o :: rest) :: k)))
/-- the same without the guard -/
def ActG (P : Program) (E : Env) (nt : Nat) (ops : Array Oper) (o : Oper) (rest : List Oper) (k : List AItem) (c : Ctx) (K : KR) (h : Heap) (nx : Nat) (tm : Tm) (r : SRes) : Prop :=
  (∃ e, r = .fail e) ∨
    ((∃ q v tm', compG P E o = .p q ∧ pureV P E tm q = some v ∧ Put nt o.dst v tm tm' ∧ r = K h nx tm') ∨
     (∃ q v tm', compG P E o = .r q ∧ readX P E tm h q = some v ∧ Put nt o.dst v tm tm' ∧ r = K h nx tm') ∨
     (∃ q v ob tm', compG P E o = .l q ∧ allocV tm nx q = some (v, ob) ∧ Put nt o.dst v tm tm' ∧ r = K (h.set (pathOf nx) (some ob)) (nx + 1) tm') ∨
     (∃ q e, compG P E o = .c q ∧ r = chainK P E tm h nx (.fail e) (opV P c (dstOf nt o.dst) tm (.rg ops (o :: rest) :: k) K) q) ∨
     r = goK c h nx tm (.rg ops (o :: rest) :: k))
theorem actR_mk (rest : List Oper) (k : List AItem) (c : Ctx) (K : KR) (h : Heap) (nx : Nat) (tm : Tm) (f : FA) : actR rest k c K h nx tm (.mk f) = f rest k c K h nx tm := rfl
theorem actP_eq (rest : List Oper) (k : List AItem) (c : Ctx) (K : KR) (h : Heap) (nx : Nat) (tm : Tm) (d : DA) (f : PF) : actR rest k c K h nx tm (actP d f) = runPF tm (fun v => putD d v tm (K h nx)) f := by
  obtain ⟨f⟩ := f
  cases d <;> rfl
theorem actO_ok (nt : Nat) (ops : Array Oper) (o : Oper) (rest : List Oper) (k : List AItem) (c : Ctx) (K : KR) (h : Heap) (nx : Nat) (tm : Tm) :
    ActG P E nt ops o rest k c K h nx tm (actR rest k c K h nx tm (actO P E ops o (dstOf nt o.dst) (compG P E o))) := by
  cases hq : compG P E o with
  | p q =>
    simp only [actO, actP_eq]
    rcases cloP_goes (P := P) (E := E) q tm (fun v => putD (dstOf nt o.dst) v tm (K h nx)) with h1 | ⟨v, h1, h2⟩
    · exact .inl h1
    · rw [h2]
      rcases putD_cases nt o.dst v tm (K h nx) with h3 | ⟨tm', h3, h4⟩
      · exact .inl h3
      · exact .inr (.inl ⟨q, v, tm', hq, h1, h3, h4⟩)
  | r q =>
    simp only [actO, actR_mk, aR]
    rcases optK_goes (fun v => putD (dstOf nt o.dst) v tm (K h nx)) (readX P E tm h q) with h1 | ⟨v, h1, h2⟩
    · exact .inl h1
    · rw [h2]
      rcases putD_cases nt o.dst v tm (K h nx) with h3 | ⟨tm', h3, h4⟩
      · exact .inl h3
      · exact .inr (.inr (.inl ⟨q, v, tm', hq, h1, h3, h4⟩))
  | l q =>
    simp only [actO, actR_mk, aL, allocK_eq]
    cases hv : allocV tm nx q with
    | none => exact .inl ⟨_, rfl⟩
    | some vo =>
      obtain ⟨v, ob⟩ := vo
      simp only [putAt, T.setK_eq]
      rcases putD_cases nt o.dst v tm (K (h.set (pathOf nx) (some ob)) (nx + 1)) with h3 | ⟨tm', h3, h4⟩
      · exact .inl h3
      · exact .inr (.inr (.inr (.inl ⟨q, v, ob, tm', hq, hv, h3, h4⟩)))
  | c q =>
    by_cases hst : ∃ it, q = .nxm it ∧ stopsO (mapIt h (ov tm it)) = true
    · obtain ⟨it, rfl, hst⟩ := hst
      refine .inr (.inr (.inr (.inr (.inr ?_))))
      simp only [actO, actC, actR_mk, aN, hst]
    refine .inr (.inr (.inr (.inr (.inl ⟨q, 23, hq, ?_⟩))))
    cases q <;> first
      | (rename_i it
         have hf : stopsO (mapIt h (ov tm it)) = false := by
           cases hx : stopsO (mapIt h (ov tm it)) with
           | false => rfl
           | true => exact absurd ⟨it, rfl, hx⟩ hst
         simp only [actO, actC, actR_mk, aN, hf]
         rfl)
      | rfl
      | (rename_i x
         simp only [actO, actC, actP_eq, runPF, hVal, ovK_eq, chainK_eq, cloC, runC, cAsg, opV, AV.force_eq]
         done)
  | bad => exact .inl ⟨_, rfl⟩
theorem actOf_ok (nt : Nat) (ops : Array Oper) (o : Oper) (rest : List Oper) (k : List AItem) (c : Ctx) (K : KR) (h : Heap) (nx : Nat) (tm : Tm) :
    ActQ P E nt ops o rest k c K h nx tm (actR rest k c K h nx tm (actOf P E nt ops o)) := by
  have skip : ∀ r, wantedA o ops tm = false → r = putD (dstOf nt o.dst) undefA tm (K h nx) → ActQ P E nt ops o rest k c K h nx tm r := by
    intro r hw hr
    rcases putD_cases nt o.dst undefA tm (K h nx) with h3 | ⟨tm', h3, h4⟩
    · exact .inl (by rw [hr]; exact h3)
    · exact .inr (.inl ⟨hw, tm', h3, by rw [hr]; exact h4⟩)
  have go := actO_ok (P := P) (E := E) nt ops o rest k c K h nx tm
  cases hg : o.guard with
  | none =>
    have hw : wantedA o ops tm = true := by simp [wantedA, hg]
    have e : actOf P E nt ops o = actO P E ops o (dstOf nt o.dst) (compG P E o) := by simp [actOf, hg]
    rw [e]
    rcases go with h1 | h1
    · exact .inl h1
    · exact .inr (.inr ⟨hw, h1⟩)
  | some jw =>
    obtain ⟨j, want⟩ := jw
    have e : actOf P E nt ops o = actGd (dstOf nt o.dst) want (actO P E ops o (dstOf nt o.dst) (compG P E o)) (gdst ops j) := by simp [actOf, hg]
    rw [e]
    cases hd : gdst ops j with
    | none => exact skip _ (by simp [wantedA, hg, hd]) rfl
    | some d =>
      simp only [actGd]
      split
      · rename_i hle
        have hw : wantedA o ops tm = isB want (Tm.at (slotOf d) tm) := by simp [wantedA, hg, hd, hle]
        rw [actR_mk]
        unfold aG
        rw [getA_eq]
        cases hb : isB want (Tm.at (slotOf d) tm) with
        | true =>
          simp only [actG]
          rcases go with h1 | h1
          · exact .inl h1
          · exact .inr (.inr ⟨by rw [hw, hb], h1⟩)
        | false =>
          simp only [actG]
          exact skip _ (by rw [hw, hb]) rfl
      · exact .inl ⟨_, rfl⟩
theorem rgK_nil (nt : Nat) (ops : Array Oper) (k : List AItem) (c : Ctx) (h : Heap) (nx : Nat) (tm : Tm) : rgK P E nt ops k c [] h nx tm = goK c h nx tm k := rfl
theorem rgK_cons (nt : Nat) (ops : Array Oper) (k : List AItem) (c : Ctx) (o : Oper) (rest : List Oper) (h : Heap) (nx : Nat) (tm : Tm) :
    rgK P E nt ops k c (o :: rest) h nx tm = actR rest k c (rgK P E nt ops k c rest) h nx tm (actOf P E nt ops o) := rfl
theorem rgGo_eq (ops : Array Oper) (k : List AItem) (c : Ctx) (rest : List Oper) (h : Heap) (nx : Nat) (tm : Tm) : rgGo P E ops k c rest h nx tm = rgK P E c.fi.nt ops k c rest h nx tm := by
  obtain ⟨⟨fn, nt, kind, ro⟩, dfs, cs⟩ := c
  rfl
theorem goK_eq (c : Ctx) (h : Heap) (nx : Nat) (tm : Tm) (k : List AItem) : goK c h nx tm k = .next (.mk ⟨c.fi, tm, k, c.dfs, .run⟩ c.cs h nx) := by
  obtain ⟨fi, dfs, cs⟩ := c
  rfl
end
end Go.Abs
namespace Go.Abs
noncomputable section
variable {P : Program} {fn : FuncId} {tmps : Array Value} {k : List Item} {ds : List Deferred} {kind : CallKind} {ro : Option Nat} {cs : List Frame} {w w' : World}
/-- a frame that runs -/
abbrev runF (fn : FuncId) (tmps : Array Value) (todo : List Item) (ds : List Deferred) (kind : CallKind) (ro : Option Nat) : Frame := ⟨fn, tmps, todo, ds, .run, kind, ro⟩
theorem st_skip : Go.step P (lone (runF fn tmps (.code .skip :: k) ds kind ro) cs w) = .next (lone (runF fn tmps k ds kind ro) cs w) := step_lone_go (by simp [stepG, stepG.exec])
theorem st_label {l : Nat} : Go.step P (lone (runF fn tmps (.code (.label l) :: k) ds kind ro) cs w) = .next (lone (runF fn tmps k ds kind ro) cs w) := step_lone_go (by simp [stepG, stepG.exec])
theorem st_inBlock {id : Nat} : Go.step P (lone (runF fn tmps (.inBlock id :: k) ds kind ro) cs w) = .next (lone (runF fn tmps k ds kind ro) cs w) := step_lone_go (by simp [stepG, stepG.exec])
theorem st_inScope {c : Code} : Go.step P (lone (runF fn tmps (.inScope c :: k) ds kind ro) cs w) = .next (lone (runF fn tmps k ds kind ro) cs w) := step_lone_go (by simp [stepG, stepG.exec])
theorem st_seq {a b : Code} : Go.step P (lone (runF fn tmps (.code (.seq a b) :: k) ds kind ro) cs w) = .next (lone (runF fn tmps (.code a :: .code b :: k) ds kind ro) cs w) := step_lone_go (by simp [stepG, stepG.exec])
theorem st_cond {c : Operand} {x y : Code} {t : Bool} (h : ∀ todo, (runF fn tmps todo ds kind ro).eval c = .bool t) : Go.step P (lone (runF fn tmps (.code (.cond c x y) :: k) ds kind ro) cs w) = .next (lone (runF fn tmps (.code (if t then x else y) :: k) ds kind ro) cs w) :=
  step_lone_go (by
    have := h (.code (.cond c x y) :: k)
    simp [stepG, stepG.exec, this])
theorem st_block {id : Nat} {c : Code} : Go.step P (lone (runF fn tmps (.code (.block id c) :: k) ds kind ro) cs w) = .next (lone (runF fn tmps (.code c :: .inBlock id :: k) ds kind ro) cs w) := step_lone_go (by simp [stepG, stepG.exec])
theorem st_loop {c : Code} : Go.step P (lone (runF fn tmps (.code (.loop c) :: k) ds kind ro) cs w) = .next (lone (runF fn tmps (.code c :: .inLoop c :: k) ds kind ro) cs w) := step_lone_go (by simp [stepG, stepG.exec])
theorem st_inLoop {c : Code} : Go.step P (lone (runF fn tmps (.inLoop c :: k) ds kind ro) cs w) = .next (lone (runF fn tmps (.code c :: .inLoop c :: k) ds kind ro) cs w) := step_lone_go (by simp [stepG, stepG.exec])
theorem st_scope {c : Code} : Go.step P (lone (runF fn tmps (.code (.scope c) :: k) ds kind ro) cs w) = .next (lone (runF fn tmps (.code c :: .inScope c :: k) ds kind ro) cs w) := step_lone_go (by simp [stepG, stepG.exec])
theorem st_exit {id : Nat} {k' : List Item} (h : exitTo id k = some k') : Go.step P (lone (runF fn tmps (.code (.exit id) :: k) ds kind ro) cs w) = .next (lone (runF fn tmps k' ds kind ro) cs w) := step_lone_go (by simp [stepG, stepG.exec, h])
theorem st_goto {l : Nat} {k' : List Item} (h : gotoIn l k = some k') : Go.step P (lone (runF fn tmps (.code (.goto l) :: k) ds kind ro) cs w) = .next (lone (runF fn tmps k' ds kind ro) cs w) := step_lone_go (by simp [stepG, stepG.exec, h])
theorem st_region {id : Nat} {ops : Array Oper} : Go.step P (lone (runF fn tmps (.code (.region id ops false) :: k) ds kind ro) cs w) = .next (lone (runF fn tmps (.inRegion ops (List.range ops.size) :: k) ds kind ro) cs w) := step_lone_go (by simp [stepG, stepG.exec])
theorem st_regionEnd {ops : Array Oper} : Go.step P (lone (runF fn tmps (.inRegion ops [] :: k) ds kind ro) cs w) = .next (lone (runF fn tmps k ds kind ro) cs w) := step_lone_go (by simp [stepG, stepG.exec])
theorem st_draw {id : Nat} {ops : Array Oper} : ∃ t w', HE w' w w.heap ∧ Go.step P (lone (runF fn tmps (.code (.region id ops true) :: k) ds kind ro) cs w) = .next (lone (runF fn tmps (.inRegion ops (Region.schedule (P.follows .mixedOrders) ops t) :: k) ds kind ro) cs w') := by
  refine ⟨(Question.order fn id).cut (w.tape w.drawn (.order fn id)), { w with drawn := w.drawn + 1 }, ⟨rfl, rfl, rfl⟩, step_lone_go ?_⟩
  simp [stepG, stepG.exec, Question.forced]
theorem st_skipped {ops : Array Oper} {i : Nat} {rest : List Nat} {o : Oper} (ho : ops[i]? = some o) (hw : Region.wanted o (yielded ops tmps) = false) :
    Go.step P (lone (runF fn tmps (.inRegion ops (i :: rest) :: k) ds kind ro) cs w) = .next (lone ((runF fn tmps (.inRegion ops (i :: rest) :: k) ds kind ro).finish undef) cs w) :=
  step_lone_go (by simp [stepG, stepG.exec, ho, hw])
theorem st_ret (hro : ro = none) : Go.step P (lone (runF fn tmps (.code .ret :: k) ds kind ro) cs w) = .next (lone ⟨fn, tmps, .code .ret :: k, ds, .returning, kind, ro⟩ cs w) := by
  subst hro; exact step_lone_go (by simp [stepG, stepG.exec])
theorem st_end (hro : ro = none) : Go.step P (lone (runF fn tmps [] ds kind ro) cs w) = .next (lone ⟨fn, tmps, [], ds, .returning, kind, ro⟩ cs w) := by
  subst hro; exact step_lone_go (by simp [stepG, stepG.exec])
end
end Go.Abs
namespace Go.Abs
noncomputable section
variable {P : Program} {fn : FuncId} {tmps : Array Value} {k : List Item} {ds : List Deferred} {kind : CallKind} {ro : Option Nat} {cs : List Frame} {w w' : World}
/-- a frame at an operation -/
abbrev opF (fn : FuncId) (tmps : Array Value) (ops : Array Oper) (i : Nat) (rest : List Nat) (k : List Item) (ds : List Deferred) (kind : CallKind) (ro : Option Nat) : Frame := runF fn tmps (.inRegion ops (i :: rest) :: k) ds kind ro
theorem st_oper {ops : Array Oper} {i : Nat} {rest : List Nat} {o : Oper} (ho : ops[i]? = some o) (hw : Region.wanted o (yielded ops tmps) = true) (hd : ro = none ∨ ∀ c, o.op ≠ .defer c) :
    stepG P true { frame := opF fn tmps ops i rest k ds kind ro, callers := cs, status := .running, dying := none } w = stepG.apply P true (opF fn tmps ops i rest k ds kind ro) cs none (execOp (opF fn tmps ops i rest k ds kind ro).eval o) w := by
  simp only [stepG, stepG.exec, ho, hw, Option.map_some, Option.getD_some, if_true, stepG.oper, Frame.oper?]
  rcases hd with rfl | hd
  · rfl
  · cases ro with
    | none => rfl
    | some l =>
      split
      · rename_i hop; exact absurd hop (hd _)
      · rfl
section outcomes
variable {ops : Array Oper} {i : Nat} {rest : List Nat} {o : Oper} (ho : ops[i]? = some o) (hw : Region.wanted o (yielded ops tmps) = true) (hd : ro = none ∨ ∀ c, o.op ≠ .defer c)
include ho hw hd
theorem st_value {v : Value} (hr : (execOp (opF fn tmps ops i rest k ds kind ro).eval o).run P w = .ok (.value v) w') : Go.step P (lone (opF fn tmps ops i rest k ds kind ro) cs w) = .next (lone ((opF fn tmps ops i rest k ds kind ro).finish v) cs w') :=
  step_lone_go (by rw [st_oper ho hw hd]; simp [stepG.apply, hr])
theorem st_skipN (hr : (execOp (opF fn tmps ops i rest k ds kind ro).eval o).run P w = .ok .skip w') : Go.step P (lone (opF fn tmps ops i rest k ds kind ro) cs w) = .next (lone ((opF fn tmps ops i rest k ds kind ro).finish undef) cs w') :=
  step_lone_go (by rw [st_oper ho hw hd]; simp [stepG.apply, hr])
theorem st_enter {f : FuncId} {args : Array Value} (hr : (execOp (opF fn tmps ops i rest k ds kind ro).eval o).run P w = .ok (.enter f args) w') : Go.step P (lone (opF fn tmps ops i rest k ds kind ro) cs w) = .next (lone (Frame.enter P f args .normal) (opF fn tmps ops i rest k ds kind ro :: cs) w') :=
  step_lone_go (by rw [st_oper ho hw hd]; simp [stepG.apply, hr])
theorem st_round {l : Nat} {f : FuncId} {ct : Array Value} {a b : Code} (hr : (execOp (opF fn tmps ops i rest k ds kind ro).eval o).run P w = .ok (.round l f ct a b) w') : Go.step P (lone (opF fn tmps ops i rest k ds kind ro) cs w) = .next (lone (Frame.round l f ct a b .normal) (opF fn tmps ops i rest k ds kind ro :: cs) w') :=
  step_lone_go (by rw [st_oper ho hw hd]; simp [stepG.apply, hr])
theorem st_panic {v : Value} (hr : (execOp (opF fn tmps ops i rest k ds kind ro).eval o).run P w = .halt (.panic v) w') : Go.step P (lone (opF fn tmps ops i rest k ds kind ro) cs w) = .next (lone ((opF fn tmps ops i rest k ds kind ro).raise [{ v, recovered := false }]) cs w') :=
  step_lone_go (by rw [st_oper ho hw hd]; simp [stepG.apply, hr])
end outcomes
end
end Go.Abs
namespace Go.Abs
noncomputable section
variable {P : Program} {fn : FuncId} {tmps : Array Value} {k : List Item} {ds : List Deferred} {kind : CallKind} {ro : Option Nat} {cs : List Frame} {w w' : World}
theorem st_defer {ops : Array Oper} {i : Nat} {rest : List Nat} {o : Oper} {d : Deferred} (ho : ops[i]? = some o) (hw : Region.wanted o (yielded ops tmps) = true)
    (hr : (execOp (opF fn tmps ops i rest k ds kind none).eval o).run P w = .ok (.defer d) w') : Go.step P (lone (opF fn tmps ops i rest k ds kind none) cs w) = .next (lone ((opF fn tmps ops i rest k (d :: ds) kind none).finish undef) cs w') :=
  step_lone_go (by rw [st_oper ho hw (.inl rfl)]; simp [stepG.apply, hr])
theorem st_recover_some {ops : Array Oper} {i : Nat} {rest : List Nat} {o : Oper} {v : Value} {cs' : List Frame} (ho : ops[i]? = some o) (hw : Region.wanted o (yielded ops tmps) = true)
    (hr : (execOp (opF fn tmps ops i rest k ds kind none).eval o).run P w = .ok .recover w') (ht : tryRecover (opF fn tmps ops i rest k ds kind none) cs = some (v, cs')) :
    Go.step P (lone (opF fn tmps ops i rest k ds kind none) cs w) = .next (lone ((opF fn tmps ops i rest k ds kind none).finish v) cs' w') :=
  step_lone_go (by rw [st_oper ho hw (.inl rfl)]; simp [stepG.apply, hr, ht])
theorem st_recover_none {ops : Array Oper} {i : Nat} {rest : List Nat} {o : Oper} (ho : ops[i]? = some o) (hw : Region.wanted o (yielded ops tmps) = true)
    (hr : (execOp (opF fn tmps ops i rest k ds kind none).eval o).run P w = .ok .recover w') (ht : tryRecover (opF fn tmps ops i rest k ds kind none) cs = none) :
    Go.step P (lone (opF fn tmps ops i rest k ds kind none) cs w) = .next (lone ((opF fn tmps ops i rest k ds kind none).finish .nilIface) cs w') :=
  step_lone_go (by rw [st_oper ho hw (.inl rfl)]; simp [stepG.apply, hr, ht])
/-- what becomes of a frame whose deferred call has come back -/
def settleF (c : Frame) : Frame :=
  match c.mode with
  | .panicking ({ recovered := true, .. } :: older) =>
    match older.dropWhile (!·.goexit) with
    | [] => { c with mode := .returning }
    | rest => { c with mode := .panicking rest }
  | _ => c
theorem st_return {f : Func} {v : Value} {todo : List Item} {c : Frame} (hf : P.funcs[fn]? = some f) (hr : (results f tmps).run P w = .ok v w') :
    Go.step P (lone ⟨fn, tmps, todo, [], .returning, .normal, ro⟩ (c :: cs) w) = .next (lone (c.finish v) cs w') :=
  step_lone_go (by simp [stepG, unwind, hf, hr, Go.doReturn])
theorem st_returnD {f : Func} {v : Value} {todo : List Item} {c : Frame} (hf : P.funcs[fn]? = some f) (hr : (results f tmps).run P w = .ok v w') :
    Go.step P (lone ⟨fn, tmps, todo, [], .returning, .deferred, ro⟩ (c :: cs) w) = .next (lone (settleF c) cs w') :=
  step_lone_go (by
    simp only [stepG, unwind, hf, GStep.bare_after, Sem.runT_fst, hr]
    simp [Go.doReturn]
    rfl)
theorem st_deferred {m : FrameMode} {todo : List Item} {g : Fn} {cap args : Array Value} {f : FuncId} {as : Array Value} (hm : m ≠ .run) (hr : (invoke (.fn g cap) args).run P w = .ok (.enter f as) w') :
    Go.step P (lone ⟨fn, tmps, todo, ⟨.fn g cap, args⟩ :: ds, m, kind, ro⟩ cs w) = .next (lone (Frame.enter P f as .deferred) (⟨fn, tmps, todo, ds, m, kind, ro⟩ :: cs) w') :=
  step_lone_go (by
    cases m with
    | run => exact absurd rfl hm
    | returning => simp [stepG, unwind, callDeferred, hr]
    | panicking c => simp [stepG, unwind, callDeferred, hr])
theorem st_collected {m : FrameMode} {todo : List Item} {b : Nat} {args : Array Value} {calls : List Deferred} (hm : m ≠ .run) (hr : (Instr.takeDeferred b).run P w = .ok calls w') :
    Go.step P (lone ⟨fn, tmps, todo, ⟨.collected b, args⟩ :: ds, m, kind, ro⟩ cs w) = .next (lone ⟨fn, tmps, todo, calls ++ ds, m, kind, ro⟩ cs w') :=
  step_lone_go (by
    cases m with
    | run => exact absurd rfl hm
    | returning => simp [stepG, unwind, hr]
    | panicking c => simp [stepG, unwind, hr])
theorem st_raise {chain : List PanicEntry} {todo : List Item} {c : Frame} (hf : (P.funcs[fn]?).isSome = true) :
    Go.step P (lone ⟨fn, tmps, todo, [], .panicking chain, kind, ro⟩ (c :: cs) w) = .next (lone (c.raise chain) cs w) :=
  step_lone_go (by
    have hc : Frame.catches P ⟨fn, tmps, todo, [], .panicking chain, kind, ro⟩ = false := by
      unfold Frame.catches
      cases hx : P.funcs[fn]? with
      | none => rw [hx] at hf; cases hf
      | some f => rfl
    simp [stepG, unwind, hc])
/-- rounds of a loop over a function: the body is through, or jumps out -/
theorem st_endRound {todo : List Item} {l : Nat} {jump : Option Code} {v : Value} {c : Frame} (ht : (todo = [] ∧ jump = none) ∨ (∃ k, todo = .code .ret :: k ∧ jump = some .ret))
    (hr : (Instr.endRound l jump).run P w = .ok v w') : Go.step P (lone (runF fn tmps todo ds .normal (some l)) (c :: cs) w) = .next (lone (c.finish v) cs w') :=
  step_lone_go (by
    rcases ht with ⟨rfl, rfl⟩ | ⟨k, rfl, rfl⟩
    · simp [stepG, stepG.exec, hr, Go.doReturn]
    · simp [stepG, stepG.exec, hr, Go.doReturn])
theorem st_endExit {id l : Nat} {v : Value} {c : Frame} (he : exitTo id k = none) (hr : (Instr.endRound l (some (.exit id))).run P w = .ok v w') :
    Go.step P (lone (runF fn tmps (.code (.exit id) :: k) ds .normal (some l)) (c :: cs) w) = .next (lone (c.finish v) cs w') :=
  step_lone_go (by simp [stepG, stepG.exec, he, hr, Go.doReturn])
theorem st_endGoto {lb l : Nat} {v : Value} {c : Frame} (he : gotoIn lb k = none) (hr : (Instr.endRound l (some (.goto lb))).run P w = .ok v w') :
    Go.step P (lone (runF fn tmps (.code (.goto lb) :: k) ds .normal (some l)) (c :: cs) w) = .next (lone (c.finish v) cs w') :=
  step_lone_go (by simp [stepG, stepG.exec, he, hr, Go.doReturn])
theorem st_endLoop {l : Nat} {jump : Option Code} (hr : (Instr.endLoop l).run P w = .ok jump w') : Go.step P (lone (runF fn tmps (.endRangeFunc l :: k) ds kind ro) cs w) = .next (lone (runF fn tmps ((jump.map Item.code).toList ++ k) ds kind ro) cs w') :=
  step_lone_go (by simp [stepG, stepG.exec, hr])
theorem st_begin {l : Nat} (hr : (Instr.beginRound l).run P w = .ok () w') : Go.step P (lone (runF fn tmps (.beginRound :: k) ds kind (some l)) cs w) = .next (lone (runF fn tmps k ds kind (some l)) cs w') :=
  step_lone_go (by simp [stepG, stepG.exec, stepG.apply, hr, Frame.finish])
theorem st_rangeFunc {f : Operand} {ps : Array Tmp} {a b : Code} {l : Nat} {mark : List Deferred} {g : FuncId} {as : Array Value} {w1 : World} (hl : (Instr.enterLoop fn tmps ps a b ro).run P w = .ok (l, mark) w1)
    (hr : (do let d ← Deferred.ofValue ((runF fn tmps (.inRangeFunc l :: k) (mark ++ ds) kind ro).eval f) #[.func (.yield l) #[] #[]]; invoke d.target d.args : Sem Next).run P w1 = .ok (.enter g as) w') :
    Go.step P (lone (runF fn tmps (.code (.rangeFunc f ps a b) :: k) ds kind ro) cs w) = .next (lone (Frame.enter P g as .normal) (runF fn tmps (.inRangeFunc l :: k) (mark ++ ds) kind ro :: cs) w') :=
  step_lone_go (by
    simp only [Sem.run_bind] at hr
    simp [stepG, stepG.exec, hl, stepG.apply, resolve, Frame.eval] at hr ⊢
    simp [hr])
end
end Go.Abs
namespace Go.Abs
noncomputable section
variable {P : Program} {E : Env} {ρ ρ' : Rho}
def KindR : AKind → CallKind → Prop
  | .normal, .normal => True
  | .deferred, .deferred => True
  | _, _ => False
def PanR (ρ : Rho) (a : APanic) (p : PanicEntry) : Prop := VR ρ a.v p.v ∧ p.recovered = a.recovered ∧ p.goexit = false
def ModeR (ρ : Rho) : AMode → FrameMode → Prop
  | .run, .run => True
  | .returning, .returning => True
  | .panicking c, .panicking c' => All2 (PanR ρ) c c'
  | _, _ => False
/-- items that are no drawn regions -/
def PlainR (ρ : Rho) : AItem → Item → Prop
  | .code c, .code c' => c' = c
  | .inBlock i, .inBlock i' => i' = i
  | .inLoop c, .inLoop c' => c' = c
  | .inScope c, .inScope c' => c' = c
  | .rg ops rest, .inRegion ops' is => ops' = ops ∧ All2 (fun o i => ops[i]? = some o) rest is
  | .inRF nm, .inRangeFunc b => ρ nm = some b
  | .endRF nm, .endRangeFunc b => ρ nm = some b
  | .beginRound, .beginRound => True
  | _, _ => False
theorem PanR.mono (hr : ρ.le ρ') {a : APanic} {p : PanicEntry} (h : PanR ρ a p) : PanR ρ' a p := ⟨h.1.mono hr, h.2⟩
theorem ModeR.mono (hr : ρ.le ρ') {m : AMode} {cm : FrameMode} (h : ModeR ρ m cm) : ModeR ρ' m cm := by
  cases m <;> cases cm <;> first
    | exact h
    | exact All2.mono (fun _ _ => PanR.mono hr) h
theorem PlainR.mono (hr : ρ.le ρ') {a : AItem} {i : Item} (h : PlainR ρ a i) : PlainR ρ' a i := by
  cases a <;> cases i <;> first
    | exact h
    | exact hr.1 _ _ h
theorem exitTo_ok {id : Nat} : ∀ {k : List AItem} {ck : List Item}, All2 (PlainR ρ) k ck → (match exitToA id k with
    | none => exitTo id ck = none
    | some k' => ∃ ck', exitTo id ck = some ck' ∧ All2 (PlainR ρ) k' ck')
  | [], ck, h => by simp only [All2] at h; subst h; rfl
  | x :: k, ck, h => by
    simp only [All2] at h
    obtain ⟨i, ck', rfl, h1, h2⟩ := h
    have ih := exitTo_ok (id := id) h2
    cases x <;> cases i <;> first
      | exact ih
      | (simp only [PlainR] at h1; done)
      | skip
    case inBlock.inBlock i i' =>
      simp only [PlainR] at h1
      subst h1
      simp only [exitToA, exitTo]
      cases hq : Nat.beq i' id with
      | true =>
        have : i' = id := Nat.eq_of_beq_eq_true hq
        simp only [this, beq_self_eq_true, if_true]
        exact ⟨_, rfl, h2⟩
      | false =>
        have : (i' == id) = false := by
          rw [beq_eq_false_iff_ne]
          intro e; subst e; simp at hq
        simp only [this, Bool.false_eq_true, if_false]
        exact ih
theorem gotoIn_ok {l : Nat} : ∀ {k : List AItem} {ck : List Item}, All2 (PlainR ρ) k ck → (match gotoInA l k with
    | none => gotoIn l ck = none
    | some k' => ∃ ck', gotoIn l ck = some ck' ∧ All2 (PlainR ρ) k' ck')
  | [], ck, h => by simp only [All2] at h; subst h; rfl
  | x :: k, ck, h => by
    simp only [All2] at h
    obtain ⟨i, ck', rfl, h1, h2⟩ := h
    have ih := gotoIn_ok (l := l) h2
    cases x <;> cases i <;> first
      | exact ih
      | (simp only [PlainR] at h1; done)
      | skip
    case inScope.inScope c c' =>
      simp only [PlainR] at h1
      subst h1
      simp only [gotoInA, gotoIn]
      cases hq : findLabel c' l with
      | some rest => exact ⟨_, rfl, _, _, rfl, rfl, _, _, rfl, rfl, h2⟩
      | none => exact ih
end
end Go.Abs
namespace Go.Abs
noncomputable section
/-- what operation number 'i' waits for -/
def depsAt (ops : Array Oper) (i : Nat) : List Nat :=
  match ops[i]? with
  | some o => depsOf o
  | none => []
/-- whatever stands in the list stands behind all that it waits for -/
def Closed (D : Nat → List Nat) (L : List Nat) : Prop := ∀ C x R, L = C ++ x :: R → ∀ d ∈ D x, d ∈ C
theorem Closed.nil {D : Nat → List Nat} : Closed D [] := by
  intro C x R e; cases C <;> cases e
theorem Closed.snoc {D : Nat → List Nat} {L : List Nat} {x : Nat} (h : Closed D L) (hx : ∀ d ∈ D x, d ∈ L) : Closed D (L ++ [x]) := by
  intro C y R e d hd
  rcases List.append_eq_append_iff.1 e with ⟨a, h1, h2⟩ | ⟨a, h1, h2⟩
  · cases a with
    | nil =>
      simp only [List.nil_append] at h2
      injection h2 with h3 h4
      subst h3
      rw [h1, List.append_nil]
      exact hx d hd
    | cons z a =>
      simp only [List.cons_append] at h2
      injection h2 with h3 h4
      cases a <;> cases h4
  · cases a with
    | nil =>
      simp only [List.nil_append] at h2
      injection h2 with h3 h4
      subst h3
      rw [List.append_nil] at h1
      rw [← h1]
      exact hx d hd
    | cons z a =>
      simp only [List.cons_append] at h2
      injection h2 with h3 h4
      subst h3
      exact h C y a h1 d hd
/-- the first one that is not there yet -/
theorem first_not (acc : List Nat) : ∀ (W : List Nat), (∃ i ∈ W, i ∉ acc) → ∃ C x R, W = C ++ x :: R ∧ x ∉ acc ∧ ∀ c ∈ C, c ∈ acc
  | [], h => by obtain ⟨i, hi, _⟩ := h; cases hi
  | a :: W, h => by
    by_cases ha : a ∈ acc
    · obtain ⟨i, hi, hn⟩ := h
      cases hi with
      | head => exact absurd ha hn
      | tail _ hi =>
        obtain ⟨C, x, R, h1, h2, h3⟩ := first_not acc W ⟨i, hi, hn⟩
        refine ⟨a :: C, x, R, by rw [h1]; rfl, h2, fun c hc => ?_⟩
        cases hc with
        | head => exact ha
        | tail _ hc => exact h3 c hc
    · exact ⟨[], a, W, rfl, ha, fun c hc => by cases hc⟩
/-- a list without repetition of numbers below n that is shorter than n lacks one -/
theorem lacks {n : Nat} {acc : List Nat} (hl : acc.length < n) : ∃ i, i < n ∧ i ∉ acc := by
  apply Classical.byContradiction
  intro h
  have hs : List.range n ⊆ acc := fun i hi => by
    rw [List.mem_range] at hi
    exact Classical.byContradiction fun hn => h ⟨i, hi, hn⟩
  have := List.nodup_range.length_le_of_subset hs
  rw [List.length_range] at this
  omega
theorem nodup_snoc {L : List Nat} {x : Nat} (h : L.Nodup) (hx : x ∉ L) : (L ++ [x]).Nodup := by
  rw [List.nodup_append]
  refine ⟨h, by simp, fun a ha b hb => ?_⟩
  simp at hb
  subst hb
  intro e; subst e; exact hx ha
theorem go_ok {ops : Array Oper} {W : List Nat} (hW : ∀ i, i < ops.size → i ∈ W) (hC : Closed (depsAt ops) W) (hB : ∀ i ∈ W, i < ops.size) : ∀ (fuel t : Nat) (listed : Array Bool) (acc : List Nat), listed.size = ops.size → (∀ i, i < ops.size → listed.getD i true = decide (i ∈ acc)) → (∀ i, listed.getD i false = true → i ∈ acc) →
    acc.reverse.Nodup → (∀ i ∈ acc, i < ops.size) → Closed (depsAt ops) acc.reverse → fuel + acc.length = ops.size →
    (Region.linearise.go .any ops fuel t listed acc).Nodup ∧ (∀ i, i ∈ Region.linearise.go .any ops fuel t listed acc ↔ i < ops.size) ∧ Closed (depsAt ops) (Region.linearise.go .any ops fuel t listed acc) := by
  intro fuel
  induction fuel with
  | zero =>
    intro t listed acc hsz hl hf hn hb hcl hlen
    simp only [Region.linearise.go]
    refine ⟨hn, fun i => ?_, hcl⟩
    rw [List.mem_reverse]
    refine ⟨hb i, fun hi => ?_⟩
    have hs : acc.reverse ⊆ List.range ops.size := fun j hj => by rw [List.mem_range]; exact hb j (List.mem_reverse.1 hj)
    apply Classical.byContradiction
    intro hni
    have h2 : (i :: acc.reverse).Nodup := List.nodup_cons.2 ⟨fun hx => hni (List.mem_reverse.1 hx), hn⟩
    have h3 : (i :: acc.reverse) ⊆ List.range ops.size := fun j hj => by
      cases hj with
      | head => rw [List.mem_range]; exact hi
      | tail _ hj => exact hs hj
    have := h2.length_le_of_subset h3
    simp at this
    omega
  | succ fuel ih =>
    intro t listed acc hsz hl hf hn hb hcl hlen
    simp only [Region.linearise.go]
    generalize hrs : (List.range ops.size).filter _ = rs
    have hready : ∀ i, i ∈ rs ↔ i < ops.size ∧ i ∉ acc ∧ ∀ d ∈ depsAt ops i, d ∈ acc := by
      intro i
      rw [← hrs, List.mem_filter, List.mem_range]
      constructor
      · rintro ⟨h1, h2⟩
        rw [Bool.and_eq_true, hl i h1] at h2
        refine ⟨h1, by simpa using h2.1, fun d hd => ?_⟩
        obtain ⟨h3, h4⟩ := h2
        have ho : ops[i]? = some ops[i] := Array.getElem?_eq_getElem h1
        simp only [depsAt, ho, depsOf, List.mem_map, List.mem_filter] at hd
        obtain ⟨e, ⟨he1, he2⟩, rfl⟩ := hd
        rw [ho] at h4
        simp only [Option.map_some, Option.getD_some, Array.all_eq_true'] at h4
        have := h4 e (by simpa using he1)
        rw [he2] at this
        exact hf _ (by simpa using this)
      · rintro ⟨h1, h2, h3⟩
        refine ⟨h1, ?_⟩
        have ho : ops[i]? = some ops[i] := Array.getElem?_eq_getElem h1
        rw [Bool.and_eq_true, hl i h1]
        refine ⟨by simpa using h2, ?_⟩
        rw [ho]
        simp only [Option.map_some, Option.getD_some, Array.all_eq_true']
        intro e he
        cases hbd : Region.binds .any e with
        | false => rfl
        | true =>
          have hd := h3 e.on (by
            simp only [depsAt, ho, depsOf, List.mem_map, List.mem_filter]
            exact ⟨e, ⟨by simpa using he, hbd⟩, rfl⟩)
          have hlt := hb _ hd
          have h5 := hl e.on hlt
          have h6 : listed.getD e.on false = true := by
            rw [Array.getD_eq_getD_getElem?] at h5 ⊢
            rw [Array.getElem?_eq_getElem (by omega)] at h5 ⊢
            simp only [Option.getD_some] at h5 ⊢
            rw [h5]; simpa using hd
          simp [h6]
    have hne : rs ≠ [] := by
      obtain ⟨i, hi, hni⟩ := lacks (n := ops.size) (acc := acc) (by omega)
      obtain ⟨C, x, R, h1, h2, h3⟩ := first_not acc W ⟨i, hW i hi, hni⟩
      intro e
      have hx : x ∈ rs := (hready x).2 ⟨hB x (by rw [h1]; simp), h2, fun d hd => h3 d (hC C x R h1 d hd)⟩
      rw [e] at hx; cases hx
    have hpos : 0 < rs.length := List.length_pos_iff.2 hne
    have hget : rs[t % rs.length]? = some (rs[t % rs.length]'(Nat.mod_lt _ hpos)) := List.getElem?_eq_getElem _
    have hmem : rs[t % rs.length]'(Nat.mod_lt _ hpos) ∈ rs := List.getElem_mem _
    rw [hget]
    generalize rs[t % rs.length]'(Nat.mod_lt _ hpos) = x at hmem
    obtain ⟨hx1, hx2, hx3⟩ := (hready x).1 hmem
    refine ih (t / rs.length) (listed.setIfInBounds x true) (x :: acc) (by rw [Array.size_setIfInBounds]; exact hsz) (fun i hi => ?_) (fun i hi => ?_) ?_ (fun i hi => ?_) ?_ (by simp only [List.length_cons]; omega)
    · rw [Array.getD_eq_getD_getElem?, Array.getElem?_setIfInBounds]
      by_cases e : x = i
      · subst e; simp [hsz, hx1]
      · rw [if_neg e, ← Array.getD_eq_getD_getElem?, hl i hi]
        simp [Ne.symm e]
    · rw [Array.getD_eq_getD_getElem?, Array.getElem?_setIfInBounds] at hi
      by_cases e : x = i
      · subst e; simp
      · rw [if_neg e, ← Array.getD_eq_getD_getElem?] at hi
        exact List.mem_cons_of_mem _ (hf i hi)
    · rw [List.reverse_cons]; exact nodup_snoc hn (by rw [List.mem_reverse]; exact hx2)
    · cases hi with
      | head => exact hx1
      | tail _ hi => exact hb i hi
    · rw [List.reverse_cons]; exact hcl.snoc fun d hd => List.mem_reverse.2 (hx3 d hd)
theorem linearise_ok {ops : Array Oper} {W : List Nat} (hW : ∀ i, i < ops.size → i ∈ W) (hC : Closed (depsAt ops) W) (hB : ∀ i ∈ W, i < ops.size) (t : Nat) :
    (Region.linearise .any ops t).Nodup ∧ (∀ i, i ∈ Region.linearise .any ops t ↔ i < ops.size) ∧ Closed (depsAt ops) (Region.linearise .any ops t) := by
  unfold Region.linearise
  refine go_ok hW hC hB _ _ _ _ (by simp) (fun i hi => ?_) (fun i hi => ?_) (by simp) (fun i hi => by cases hi) Closed.nil (by simp)
  · rw [Array.getD_eq_getD_getElem?, Array.getElem?_replicate, if_pos hi]; simp
  · rw [Array.getD_eq_getD_getElem?, Array.getElem?_replicate] at hi
    split at hi <;> simp at hi
end
end Go.Abs
namespace Go.Abs
noncomputable section
variable {P : Program} {E : Env}
theorem memN_iff (i : Nat) : ∀ (l : List Nat), memN i l = true ↔ i ∈ l
  | [] => by simp [memN]
  | a :: l => by
    unfold memN
    cases h : Nat.beq i a with
    | true =>
      have : i = a := Nat.eq_of_beq_eq_true h
      simp [this]
    | false =>
      have : i ≠ a := fun e => by subst e; simp at h
      simp only [List.mem_cons, this, false_or]
      exact memN_iff i l
theorem insN_mem {a i : Nat} {l : List Nat} : a ∈ insN i l ↔ a = i ∨ a ∈ l := by
  unfold insN
  cases h : memN i l with
  | true =>
    have := (memN_iff i l).1 h
    simp only
    constructor
    · exact .inr
    · rintro (rfl | h) <;> assumption
  | false => simp
theorem unionN_mem {a : Nat} : ∀ {l m : List Nat}, a ∈ unionN l m ↔ a ∈ l ∨ a ∈ m
  | [], m => by simp [unionN]
  | b :: l, m => by
    unfold unionN
    rw [unionN_mem, insN_mem, List.mem_cons]
    constructor
    · rintro (h | h | h)
      · exact .inl (.inr h)
      · exact .inl (.inl h)
      · exact .inr h
    · rintro ((h | h) | h)
      · exact .inr (.inl h)
      · exact .inl h
      · exact .inr (.inr h)
theorem ancOf_mem {es : List PEnt} {a : Nat} : ∀ {ds : List Nat}, a ∈ ancOf es ds → ∃ d ∈ ds, a = d ∨ ∃ e ∈ es, e.i = d ∧ a ∈ e.anc
  | [], h => by cases h
  | d :: ds, h => by
    unfold ancOf at h
    split at h
    · rename_i e he
      rw [insN_mem, unionN_mem] at h
      rcases h with h | h | h
      · exact ⟨d, by simp, .inl h⟩
      · have h1 := List.find?_some he
        exact ⟨d, by simp, .inr ⟨e, List.mem_of_find?_eq_some he, Nat.eq_of_beq_eq_true h1, h⟩⟩
      · obtain ⟨d', h1, h2⟩ := ancOf_mem h
        exact ⟨d', by simp [h1], h2⟩
    · rw [insN_mem] at h
      rcases h with h | h
      · exact ⟨d, by simp, .inl h⟩
      · obtain ⟨d', h1, h2⟩ := ancOf_mem h
        exact ⟨d', by simp [h1], h2⟩
structure EntOk (P : Program) (E : Env) (ops : Array Oper) (e : PEnt) : Prop where
  op : ops[e.i]? = some e.o
  ch : e.ch = isChain P E e.o
  deps : e.deps = depsOf e.o
  nm : e.nm = namesOf ops e.o
  anc : ∀ L, Closed (depsAt ops) L → ∀ C R, L = C ++ e.i :: R → ∀ a ∈ e.anc, a ∈ C
theorem entsGo_ok {ops : Array Oper} : ∀ (l : List Oper) (i : Nat) (acc : List PEnt), (∀ k, l[k]? = ops[i + k]?) → (∀ e ∈ acc, EntOk P E ops e) →
    (∀ e ∈ entsGo P E ops l i acc, EntOk P E ops e) ∧ (∀ j, ((∃ e ∈ acc, e.i = j) ∨ (i ≤ j ∧ j < i + l.length)) → ∃ e ∈ entsGo P E ops l i acc, e.i = j)
  | [], i, acc, hl, ha => by
    refine ⟨ha, fun j hj => ?_⟩
    rcases hj with hj | hj
    · exact hj
    · simp at hj; omega
  | o :: l, i, acc, hl, ha => by
    unfold entsGo
    have ho : ops[i]? = some o := by have := hl 0; simpa using this.symm
    have h1 := entsGo_ok (ops := ops) l (i + 1) (⟨i, o, isChain P E o, depsOf o, ancOf acc (depsOf o), namesOf ops o⟩ :: acc) (fun k => by
      have := hl (k + 1)
      rw [List.getElem?_cons_succ] at this
      rw [this]; congr 1; omega) (fun e he => by
      cases he with
      | tail _ he => exact ha e he
      | head =>
        refine ⟨ho, rfl, rfl, rfl, fun L hL C R hCR a haa => ?_⟩
        obtain ⟨d, hd, h⟩ := ancOf_mem haa
        have hdC : d ∈ C := hL C i R hCR d (by simp only [depsAt, ho]; exact hd)
        rcases h with rfl | ⟨e, he, rfl, hae⟩
        · exact hdC
        · obtain ⟨C1, C2, rfl⟩ := List.append_of_mem hdC
          have := (ha e he).anc L hL C1 (C2 ++ i :: R) (by rw [hCR]; simp) a hae
          simp [this])
    refine ⟨h1.1, fun j hj => h1.2 j ?_⟩
    rcases hj with ⟨e, he, hj⟩ | hj
    · exact .inl ⟨e, by simp [he], hj⟩
    · simp only [List.length_cons] at hj
      by_cases e : j = i
      · exact .inl ⟨_, List.mem_cons_self, e.symm⟩
      · exact .inr (by omega)
theorem pickReady_mem {flt : Bool} {dn : List Nat} : ∀ {l acc : List PEnt} {x : PEnt} {l' : List PEnt}, pickReady flt dn l acc = some (x, l') → ∀ z, (z ∈ acc ∨ z ∈ l) ↔ (z = x ∨ z ∈ l')
  | [], acc, x, l', h => by cases h
  | e :: l, acc, x, l', h => by
    unfold pickReady at h
    split at h
    · injection h with h
      injection h with h1 h2
      subst h1 h2
      intro z
      simp only [List.mem_cons, List.mem_append, List.mem_reverse]
      constructor
      · rintro (h | h | h)
        · exact .inr (.inl h)
        · exact .inl h
        · exact .inr (.inr h)
      · rintro (h | h | h)
        · exact .inr (.inl h)
        · exact .inl h
        · exact .inr (.inr h)
    · intro z
      rw [← pickReady_mem h z]
      simp only [List.mem_cons]
      constructor
      · rintro (h | h | h)
        · exact .inl (.inr h)
        · exact .inl (.inl h)
        · exact .inr h
      · rintro ((h | h) | h)
        · exact .inr (.inl h)
        · exact .inl h
        · exact .inr (.inr h)
theorem planGo_mem : ∀ {f : Nat} {dn : List Nat} {l acc r : List PEnt}, planGo f dn l acc = some r → ∀ z, z ∈ r ↔ (z ∈ acc ∨ z ∈ l)
  | f, dn, [], acc, r, h => by
    have : r = acc.reverse := by cases f <;> (injection h with h; exact h.symm)
    subst this
    intro z; simp
  | 0, dn, e :: l, acc, r, h => by cases h
  | f + 1, dn, e :: l, acc, r, h => by
    have key : ∀ {flt : Bool} {x : PEnt} {l' : List PEnt}, pickReady flt dn (e :: l) [] = some (x, l') → planGo f (x.i :: dn) l' (x :: acc) = some r → ∀ z, z ∈ r ↔ (z ∈ acc ∨ z ∈ e :: l) := by
      intro flt x l' h1 h2 z
      rw [planGo_mem h2 z]
      have := pickReady_mem h1 z
      simp only [List.not_mem_nil, false_or] at this
      rw [this, List.mem_cons]
      constructor
      · rintro ((h | h) | h)
        · exact .inr (.inl h)
        · exact .inl h
        · exact .inr (.inr h)
      · rintro (h | h | h)
        · exact .inl (.inr h)
        · exact .inl (.inl h)
        · exact .inr h
    unfold planGo at h
    split at h
    · rename_i x l' h1; exact key h1 h
    · split at h
      · rename_i x l' h1; exact key h1 h
      · cases h
theorem orderOk_closed {ops : Array Oper} : ∀ {l : List PEnt} {dn : List Nat}, orderOk dn l = true → (∀ e ∈ l, EntOk P E ops e) → Closed (depsAt ops) dn.reverse → dn.reverse.Nodup →
    Closed (depsAt ops) (dn.reverse ++ l.map (·.i)) ∧ (dn.reverse ++ l.map (·.i)).Nodup
  | [], dn, h, _, hc, hn => by simpa using ⟨hc, hn⟩
  | e :: l, dn, h, he, hc, hn => by
    unfold orderOk at h
    simp only [Bool.and_eq_true] at h
    obtain ⟨⟨⟨h1, h2⟩, h3⟩, h4⟩ := h
    have hni : e.i ∉ dn := fun hx => by rw [(memN_iff e.i dn).2 hx] at h1; cases h1
    have := orderOk_closed (l := l) (dn := e.i :: dn) h4 (fun x hx => he x (by simp [hx])) (by
      rw [List.reverse_cons]
      refine hc.snoc fun d hd => ?_
      have hE := he e (by simp)
      simp only [depsAt, hE.op] at hd
      rw [← hE.deps] at hd
      rw [List.all_eq_true] at h2
      exact List.mem_reverse.2 ((memN_iff d dn).1 (h2 d hd))) (by
      rw [List.reverse_cons]
      exact nodup_snoc hn (by rw [List.mem_reverse]; exact hni))
    simpa using this
theorem orderOk_chain : ∀ {l : List PEnt} {dn : List Nat}, orderOk dn l = true → ∀ A e R, l = A ++ e :: R → e.ch = true → ∀ x ∈ R, e.i ∈ x.anc
  | [], dn, h, A, e, R, hl, hc, x, hx => by cases A <;> cases hl
  | a :: l, dn, h, A, e, R, hl, hc, x, hx => by
    unfold orderOk at h
    simp only [Bool.and_eq_true] at h
    obtain ⟨⟨⟨h1, h2⟩, h3⟩, h4⟩ := h
    cases A with
    | nil =>
      injection hl with e1 e2
      subst e1 e2
      rw [hc] at h3
      simp only [Bool.not_true, Bool.false_or, List.all_eq_true] at h3
      exact (memN_iff _ _).1 (h3 x hx)
    | cons b A =>
      injection hl with e1 e2
      exact orderOk_chain h4 A e R e2 hc x hx
/-- what is known of a drawn region, its plan and an order of it -/
structure Reg (P : Program) (E : Env) (ops : Array Oper) (p0 : List (Nat × Oper)) (L0 : List Nat) : Prop where
  opP : ∀ x ∈ p0, ops[x.1]? = some x.2
  memP : ∀ i, i < ops.size → i ∈ p0.map (·.1)
  ndP : (p0.map (·.1)).Nodup
  ndL : L0.Nodup
  memL : ∀ i, i ∈ L0 ↔ i < ops.size
  chain : ∀ A x R, p0 = A ++ x :: R → isChain P E x.2 = true → ∀ y ∈ R, ∀ C D, L0 = C ++ y.1 :: D → x.1 ∈ C
  clash : ∀ x ∈ p0, ∀ y ∈ p0, x.1 ≠ y.1 → ∀ d, x.2.dst = some d → d ∈ namesOf ops y.2 →
    ((∀ C D, L0 = C ++ y.1 :: D → x.1 ∈ C) ∧ ∀ A R, p0 = A ++ y :: R → x.1 ∈ A.map (·.1)) ∨ (isChain P E x.2 = true ∧ ∀ C D, L0 = C ++ x.1 :: D → y.1 ∈ C)
  own : ∀ x ∈ p0, isChain P E x.2 = false → ∀ d, x.2.dst = some d → d ∉ inputsOf ops x.2
  closed : Closed (depsAt ops) L0
theorem plan_reg {ops : Array Oper} {plan : List (Nat × Oper)} (h : planOf P E ops = some plan) (t : Nat) : Reg P E ops plan (Region.linearise .any ops t) := by
  unfold planOf at h
  split at h
  · unfold outPlan at h
    split at h
    · rename_i l hl
      split at h
      · rename_i hok
        injection h with h
        subst h
        rw [Bool.and_eq_true] at hok
        obtain ⟨hok, hlen⟩ := hok
        unfold planOk at hok
        simp only [Bool.and_eq_true, List.all_eq_true] at hok
        obtain ⟨⟨ho, hcl⟩, hown⟩ := hok
        have hents := entsGo_ok (P := P) (E := E) (ops := ops) ops.toList 0 [] (fun k => by simp) (fun e he => by cases he)
        have hmem : ∀ z, z ∈ l ↔ z ∈ entsOf P E ops := fun z => by
          have := planGo_mem hl z
          simpa using this
        have hE : ∀ e ∈ l, EntOk P E ops e := fun e he => hents.1 e (by
          have := (hmem e).1 he
          unfold entsOf at this
          simpa using this)
        have hall : ∀ i, i < ops.size → i ∈ l.map (·.i) := fun i hi => by
          obtain ⟨e, h1, h2⟩ := hents.2 i (.inr ⟨Nat.zero_le _, by simpa using hi⟩)
          rw [List.mem_map]
          exact ⟨e, (hmem e).2 (by unfold entsOf; simpa using h1), h2⟩
        obtain ⟨hC, hN⟩ := orderOk_closed (P := P) (E := E) (ops := ops) ho hE Closed.nil (by simp)
        simp only [List.reverse_nil, List.nil_append] at hC hN
        have hB : ∀ i ∈ l.map (·.i), i < ops.size := fun i hi => by
          obtain ⟨e, h1, rfl⟩ := List.mem_map.1 hi
          exact (Array.getElem?_eq_some_iff.1 (hE e h1).op).1
        obtain ⟨hLn, hLm, hLc⟩ := linearise_ok hall hC hB t
        have hmap : (l.map fun e => (e.i, e.o)).map (·.1) = l.map (·.i) := by simp
        refine ⟨fun x hx => ?_, fun i hi => by rw [hmap]; exact hall i hi, by rw [hmap]; exact hN, hLn, hLm, fun A x R hx hch y hy C D hL => ?_, fun x hx y hy hne d hd hdn => ?_, fun x hx hch d hd => ?_, hLc⟩
        · obtain ⟨e, h1, rfl⟩ := List.mem_map.1 hx
          exact (hE e h1).op
        · obtain ⟨A', B', rfl, rfl, hB'⟩ := List.map_eq_append_iff.1 hx
          obtain ⟨e, R', rfl, rfl, rfl⟩ := List.map_eq_cons_iff.1 hB'
          obtain ⟨z, hz, rfl⟩ := List.mem_map.1 hy
          have hce : e.ch = true := by rw [(hE e (by simp)).ch]; exact hch
          exact (hE z (by simp [hz])).anc _ hLc C D hL _ (orderOk_chain ho A' e R' rfl hce z hz)
        · obtain ⟨e, h1, rfl⟩ := List.mem_map.1 hx
          obtain ⟨z, h2, rfl⟩ := List.mem_map.1 hy
          have hc := hcl e h1 z h2
          unfold clash1 at hc
          simp only [Bool.or_eq_true, Bool.and_eq_true] at hc
          have hd' : e.o.dst = some d := hd
          rcases hc with ((h3 | h3) | h3) | h3
          · exact absurd (Nat.eq_of_beq_eq_true h3) hne
          · rw [hd', (hE z h2).nm] at h3
            simp only [(memN_iff d _).2 hdn] at h3
            cases h3
          · have ha := (memN_iff _ _).1 h3
            refine .inl ⟨fun C D hL => (hE z h2).anc _ hLc C D hL _ ha, fun A R hA => ?_⟩
            obtain ⟨A', B', rfl, rfl, hB'⟩ := List.map_eq_append_iff.1 hA
            obtain ⟨z', R', rfl, hz', rfl⟩ := List.map_eq_cons_iff.1 hB'
            injection hz' with hz1 hz2
            have := (hE z h2).anc _ hC (A'.map (·.i)) (R'.map (·.i)) (by rw [List.map_append, List.map_cons, hz1]) _ ha
            simpa using this
          · refine .inr ⟨by rw [← (hE e h1).ch]; exact h3.1, fun C D hL => ?_⟩
            exact (hE e h1).anc _ hLc C D hL _ ((memN_iff _ _).1 h3.2)
        · obtain ⟨e, h1, rfl⟩ := List.mem_map.1 hx
          have ho' := hown e h1
          unfold ownOk at ho'
          have hch' : e.ch = false := by rw [(hE e h1).ch]; exact hch
          have hd' : e.o.dst = some d := hd
          rw [hch', hd'] at ho'
          simp only [Bool.false_or] at ho'
          intro hin
          rw [(memN_iff _ _).2 hin] at ho'
          cases ho'
      · cases h
    · cases h
  · cases h
end
end Go.Abs
namespace Go.Abs
noncomputable section
variable {P : Program} {E : Env} {ρ ρ' : Rho} {h h' : Heap}
theorem compG_some {o : Oper} {c : COp} (hc : compG P E o = c) (hb : c ≠ .bad) : comp P E o = c ∧ globIn E.glob o.op.operands.toList = true := by
  unfold compG at hc
  split at hc
  · rename_i hg; exact ⟨hc, hg⟩
  · exact absurd hc.symm hb
theorem globIn_ok {n : Nat} : ∀ {l : List Operand}, globIn n l = true → ∀ g, .global g ∈ l → g < n
  | [], _, g, hg => by cases hg
  | x :: l, hl, g, hg => by
    unfold globIn at hl
    cases hg with
    | head =>
      simp only at hl
      split at hl
      · rename_i hle
        rw [Nat.ble_eq] at hle
        exact hle
      · cases hl
    | tail _ hg =>
      cases x with
      | global g' =>
        simp only at hl
        split at hl
        · exact globIn_ok hl g hg
        · cases hl
      | _ => exact globIn_ok hl g hg
def GlobR (E : Env) (ρ : Rho) : Prop := ∀ g, g < E.glob → ρ g = some g ∧ ρ.sh g = 0
theorem GlobR.mono (hr : ρ.le ρ') (h : GlobR E ρ) : GlobR E ρ' := fun g hg => ⟨hr.1 _ _ (h g hg).1, by rw [hr.2.2 _ _ (h g hg).1]; exact (h g hg).2⟩
/-- the slots that an operand names -/
theorem tmpsIn_mem {t : Nat} : ∀ {l : List Operand}, .tmp t ∈ l → t ∈ tmpsIn l
  | [], h => by cases h
  | x :: l, h => by
    unfold tmpsIn
    cases h with
    | head => simp
    | tail _ h =>
      have := tmpsIn_mem h
      cases x <;> simp_all
/-- what the operands come to -/
theorem sees_all {o : Oper} {c : COp} (hc : compG P E o = c) (hb : c ≠ .bad) (hg : GlobR E ρ) {ops : Array Oper} {tm : Tm} {ev : Operand → Value} {ct : Array Value} (ht : ∀ t, t < 512 → t ∈ inputsOf ops o → VR ρ (Tm.at (slotOf t) tm) (ct.getD t undef))
    (e1 : ∀ t, ev (.tmp t) = ct.getD t undef) (e2 : ∀ v, ev (.const v) = v) (e3 : ∀ g, ev (.global g) = .pointer (some ⟨g, 0, none⟩)) (e4 : ∀ f, ev (.func f) = .func (.func f) #[] #[]) : ∀ x ∈ o.op.operands.toList, Sees ρ tm ev x := by
  intro x hx y hy
  obtain ⟨_, hgl⟩ := compG_some hc hb
  cases x with
  | tmp t =>
    simp only [opd] at hy
    split at hy
    · rename_i hle
      rw [Nat.ble_eq] at hle
      injection hy with hy
      subst hy
      rw [e1]
      exact ht t hle (by unfold inputsOf; exact List.mem_append_right _ (tmpsIn_mem hx))
    · cases hy
  | const v =>
    simp only [opd] at hy
    cases hv : toAV v with
    | none => rw [hv] at hy; cases hy
    | some a =>
      rw [hv] at hy
      injection hy with hy
      subst hy
      rw [e2]
      exact toAV_ok ρ v hv
  | global g =>
    simp only [opd] at hy
    injection hy with hy
    subst hy
    rw [e3]
    simp only [ov, VR]
    exact ⟨g, (hg g (globIn_ok hgl g hx)).1, by rw [(hg g (globIn_ok hgl g hx)).2]⟩
  | func f =>
    simp only [opd] at hy
    injection hy with hy
    subst hy
    rw [e4]
    simp only [ov, VR]
    exact ⟨_, #[], #[], rfl, ⟨rfl, fun _ e => Fn.noConfusion e⟩, VRs.nil, VRs.nil⟩
/-! pending operations of a drawn region -/
def PendV (P : Program) (E : Env) (ρ : Rho) (h : Heap) (pend : List (Nat × Oper)) (fresh : Bool) (N : Nat → Option Nat) (ops : Array Oper) (x : Nat × Oper) (tm0 : Tm) (v : AV) : Prop :=
  (wantedA x.2 ops tm0 = false ∧ v = undefA) ∨
  (wantedA x.2 ops tm0 = true ∧
    ((∃ q, compG P E x.2 = .p q ∧ pureV P E tm0 q = some v) ∨
     (∃ q, compG P E x.2 = .r q ∧ x ∈ pend ∧ (fresh = true → readX P E tm0 h q = some v)) ∨
     (∃ q nm ob, compG P E x.2 = .l q ∧ N x.1 = some nm ∧ allocV tm0 nm q = some (v, ob) ∧ h.get nm = some ob ∧ ρ nm = none)))
/-- what is still to be done of a drawn region, and what of that is done already by the abstract machine -/
structure DrawnR (P : Program) (E : Env) (ρ : Rho) (h : Heap) (lo hi : Nat) (fresh : Bool) (ops : Array Oper) (p0 A plan pend : List (Nat × Oper)) (L0 C L : List Nat) (N : Nat → Option Nat) (tm : Tm) (ct : Array Value) : Prop where
  reg : Reg P E ops p0 L0
  hp : p0 = A ++ plan
  hL : L0 = C ++ L
  sub : ∀ i ∈ C, i ∈ A.map (·.1)
  slots : ∀ t, t < 512 → (∀ x ∈ A, x.1 ∈ L → x.2.dst ≠ some t) → VR ρ (Tm.at (slotOf t) tm) (ct.getD t undef)
  inj : ∀ i j nm, N i = some nm → N j = some nm → i = j
  bnd : ∀ i nm, N i = some nm → lo ≤ nm ∧ nm < hi
  pend : ∀ x ∈ A, x.1 ∈ L → isChain P E x.2 = false ∧ ∃ tm0 v, (∀ t, t < 512 → t ∈ inputsOf ops x.2 → Tm.at (slotOf t) tm = Tm.at (slotOf t) tm0) ∧ (∀ d, d < 512 → x.2.dst = some d → Tm.at (slotOf d) tm = v) ∧ PendV P E ρ h pend fresh N ops x tm0 v
  dst : ∀ x ∈ A, ∀ d, x.2.dst = some d → d < ct.size
def DrawR (P : Program) (E : Env) (ρ : Rho) (h : Heap) (lo hi : Nat) (fresh : Bool) (ops : Array Oper) (plan pend : List (Nat × Oper)) (L : List Nat) (tm : Tm) (ct : Array Value) : Prop :=
  ∃ p0 A L0 C N, DrawnR P E ρ h lo hi fresh ops p0 A plan pend L0 C L N tm ct
def TodoR (P : Program) (E : Env) (ρ : Rho) (h : Heap) (lo hi : Nat) (top : Bool) (todo : List AItem) (tm : Tm) (ctodo : List Item) (ct : Array Value) : Prop :=
  match todo with
  | .dr ops plan pend :: k => match top with
    | true => ∃ L ck, ctodo = .inRegion ops L :: ck ∧ All2 (PlainR ρ) k ck ∧ DrawR P E ρ h lo hi true ops plan pend L tm ct
    | false => ∃ i o plan' R ck, plan = (i, o) :: plan' ∧ isChain P E o = true ∧ ctodo = .inRegion ops (i :: R) :: ck ∧ All2 (PlainR ρ) k ck ∧ DrawR P E ρ h lo hi false ops plan pend (i :: R) tm ct
  | .dv ops plan pend :: k => ∃ L ck, ctodo = .inRegion ops L :: ck ∧ All2 (PlainR ρ) k ck ∧ DrawR P E ρ h lo hi false ops plan pend L tm ct
  | k => All2 (PlainR ρ) k ctodo ∧ TmR ρ tm ct
def RoR (ρ : Rho) (a : Option Nat) (b : Option Nat) : Prop :=
  match a with
  | none => b = none
  | some nm => ∃ l, ρ nm = some l ∧ b = some l
/-- the frame's own part -/
structure FrB (ρ : Rho) (fr : AFrame) (cf : Frame) : Prop where
  fn : cf.fn = fr.fi.fn
  size : cf.tmps.size = fr.fi.nt
  nt : fr.fi.nt ≤ 512
  kind : KindR fr.fi.kind cf.kind
  ro : RoR ρ fr.fi.ro cf.roundOf
  dfs : All2 (DefR ρ) fr.dfs cf.defers
  mode : ModeR ρ fr.mode cf.mode
def BodyR (P : Program) (E : Env) (ρ : Rho) (h : Heap) (lo hi : Nat) (top : Bool) (fr : AFrame) (cf : Frame) : Prop :=
  match fr.mode with
  | .run => TodoR P E ρ h lo hi top fr.todo fr.tm cf.todo cf.tmps
  | .returning => TmR ρ fr.tm cf.tmps
  | .panicking _ => (top = true ∧ fr.dfs = []) ∨ TmR ρ fr.tm cf.tmps
def FrR (P : Program) (E : Env) (ρ : Rho) (h : Heap) (lo hi : Nat) (top : Bool) (fr : AFrame) (cf : Frame) : Prop := FrB ρ fr cf ∧ BodyR P E ρ h lo hi top fr cf
def isRun : AMode → Bool
  | .run => true
  | _ => false
/-- the frames below a frame of this kind -/
def FrsR (P : Program) (E : Env) (ρ : Rho) (h : Heap) : Nat → AKind → List AFrame → List Frame → Prop
  | _, _, [], ccs => ccs = []
  | hi, kd, fr :: cs, ccs => ∃ cf ccs' lo, ccs = cf :: ccs' ∧ lo ≤ hi ∧ isRun fr.mode = isNormal kd ∧ FrR P E ρ h lo hi false fr cf ∧ FrsR P E ρ h lo fr.fi.kind cs ccs'
/-- names of blocks to come stay, below a mark -/
def KeepsTo (hi : Nat) (ρ ρ' : Rho) (h h' : Heap) : Prop := ∀ nm ob, nm < hi → h.get nm = some ob → ρ nm = none → ρ' nm = none ∧ h'.get nm = some ob
theorem KeepsTo.refl (hi : Nat) (ρ : Rho) (h : Heap) : KeepsTo hi ρ ρ h h := fun _ _ _ h1 h2 => ⟨h2, h1⟩
theorem KeepsTo.trans {hi : Nat} {a b c : Rho} {h h' h'' : Heap} (x : KeepsTo hi a b h h') (y : KeepsTo hi b c h' h'') : KeepsTo hi a c h h'' := fun nm ob hl h1 h2 => by
  obtain ⟨h3, h4⟩ := x nm ob hl h1 h2
  exact y nm ob hl h4 h3
theorem Keeps.to (hi : Nat) (x : Keeps ρ ρ' h h') : KeepsTo hi ρ ρ' h h' := fun nm ob _ h1 h2 => x nm ob h1 h2
theorem KeepsTo.less {lo hi : Nat} (hl : lo ≤ hi) (x : KeepsTo hi ρ ρ' h h') : KeepsTo lo ρ ρ' h h' := fun nm ob hn h1 h2 => x nm ob (by omega) h1 h2
theorem DrawR.mono {lo hi hi' : Nat} (hr : ρ.le ρ') (hk : KeepsTo hi ρ ρ' h h') (hh : hi ≤ hi') {top : Bool} {ops : Array Oper} {plan pend : List (Nat × Oper)} {L : List Nat} {tm : Tm} {ct : Array Value} (hf : top = true → h' = h)
    (H : DrawR P E ρ h lo hi top ops plan pend L tm ct) : DrawR P E ρ' h' lo hi' top ops plan pend L tm ct := by
  obtain ⟨p0, A, L0, C, N, D⟩ := H
  refine ⟨p0, A, L0, C, N, D.reg, D.hp, D.hL, D.sub, fun t ht hx => (D.slots t ht hx).mono hr, D.inj, fun i nm hn => ?_, fun x hx hxL => ?_, D.dst⟩
  · have := D.bnd i nm hn
    omega
  · obtain ⟨h1, tm0, v, h2, h3, h4⟩ := D.pend x hx hxL
    refine ⟨h1, tm0, v, h2, h3, ?_⟩
    rcases h4 with h4 | ⟨hw, h4⟩
    · exact .inl h4
    · refine .inr ⟨hw, ?_⟩
      rcases h4 with h4 | ⟨q, g1, g2, g3⟩ | ⟨q, nm, ob, g1, g2, g3, g4, g5⟩
      · exact .inl h4
      · exact .inr (.inl ⟨q, g1, g2, fun e => by rw [hf e]; exact g3 e⟩)
      · obtain ⟨k1, k2⟩ := hk nm ob (D.bnd _ _ g2).2 g4 g5
        exact .inr (.inr ⟨q, nm, ob, g1, g2, g3, k2, k1⟩)
theorem RoR.mono (hr : ρ.le ρ') {a b : Option Nat} (h : RoR ρ a b) : RoR ρ' a b := by
  cases a with
  | none => exact h
  | some nm => obtain ⟨l, h1, h2⟩ := h; exact ⟨l, hr.1 _ _ h1, h2⟩
theorem FrB.mono (hr : ρ.le ρ') {fr : AFrame} {cf : Frame} (H : FrB ρ fr cf) : FrB ρ' fr cf :=
  ⟨H.fn, H.size, H.nt, H.kind, H.ro.mono hr, H.dfs.mono fun _ _ => DefR.mono hr, H.mode.mono hr⟩
theorem TodoR.plain {lo hi : Nat} {top : Bool} {todo : List AItem} {tm : Tm} {ctodo : List Item} {ct : Array Value} (h0 : isDrawn todo = false) : TodoR P E ρ h lo hi top todo tm ctodo ct ↔ (All2 (PlainR ρ) todo ctodo ∧ TmR ρ tm ct) := by
  cases todo with
  | nil => exact Iff.rfl
  | cons x k => cases x <;> first | exact Iff.rfl | (cases h0; done)
theorem TodoR.mono {lo hi hi' : Nat} (hr : ρ.le ρ') (hk : KeepsTo hi ρ ρ' h h') (hh : hi ≤ hi') {todo : List AItem} {tm : Tm} {ctodo : List Item} {ct : Array Value}
    (H : TodoR P E ρ h lo hi false todo tm ctodo ct) : TodoR P E ρ' h' lo hi' false todo tm ctodo ct := by
  have pl : All2 (PlainR ρ) todo ctodo ∧ TmR ρ tm ct → All2 (PlainR ρ') todo ctodo ∧ TmR ρ' tm ct := fun ⟨h1, h2⟩ => ⟨h1.mono fun _ _ => PlainR.mono hr, h2.mono hr⟩
  have dr : ∀ {ops : Array Oper} {plan pend : List (Nat × Oper)} {k : List AItem}, (∃ L ck, ctodo = .inRegion ops L :: ck ∧ All2 (PlainR ρ) k ck ∧ DrawR P E ρ h lo hi false ops plan pend L tm ct) →
      ∃ L ck, ctodo = .inRegion ops L :: ck ∧ All2 (PlainR ρ') k ck ∧ DrawR P E ρ' h' lo hi' false ops plan pend L tm ct := by
    rintro ops plan pend k ⟨L, ck, h1, h2, h3⟩
    exact ⟨L, ck, h1, h2.mono fun _ _ => PlainR.mono hr, h3.mono hr hk hh (fun e => by cases e)⟩
  cases todo with
  | nil => exact pl H
  | cons x k =>
    cases x <;> first
      | exact dr H
      | exact pl H
      | (obtain ⟨i, o, plan', R, ck, h0, h00, h1, h2, h3⟩ := H
         exact ⟨i, o, plan', R, ck, h0, h00, h1, h2.mono fun _ _ => PlainR.mono hr, h3.mono hr hk hh (fun e => by cases e)⟩)
theorem FrR.mono {lo hi hi' : Nat} (hr : ρ.le ρ') (hk : KeepsTo hi ρ ρ' h h') (hh : hi ≤ hi') {fr : AFrame} {cf : Frame} (H : FrR P E ρ h lo hi false fr cf) : FrR P E ρ' h' lo hi' false fr cf := by
  obtain ⟨h1, h2⟩ := H
  refine ⟨h1.mono hr, ?_⟩
  unfold BodyR at h2 ⊢
  split at h2
  · exact h2.mono hr hk hh
  · exact h2.mono hr
  · rcases h2 with ⟨e, _⟩ | h2
    · cases e
    · exact .inr (h2.mono hr)
theorem FrsR.mono (hr : ρ.le ρ') : ∀ {cs : List AFrame} {ccs : List Frame} {hi hi' : Nat} {kd : AKind}, KeepsTo hi ρ ρ' h h' → hi ≤ hi' → FrsR P E ρ h hi kd cs ccs → FrsR P E ρ' h' hi' kd cs ccs
  | [], _, _, _, _, _, _, H => H
  | fr :: cs, ccs, hi, hi', kd, hk, hh, H => by
    obtain ⟨cf, ccs', lo, h1, h2, h3, h4, h5⟩ := H
    exact ⟨cf, ccs', lo, h1, by omega, h3, h4.mono hr hk hh, h5.mono hr (hk.less h2) (Nat.le_refl _)⟩
end
end Go.Abs
namespace Go.Abs
noncomputable section
variable {P : Program} {E : Env} {B : Nat} {w0 : World} {ρ ρ' : Rho} {h h' : Heap} {nx : Nat} {w w' : World}
variable {fn : FuncId} {ds : List Deferred} {kind : CallKind} {ro : Option Nat} {cs : List Frame}
def putC (dst : Option Tmp) (v : Value) (ct : Array Value) : Array Value :=
  match dst with
  | some d => ct.setIfInBounds d v
  | none => ct
theorem putC_size {dst : Option Tmp} {v : Value} {ct : Array Value} : (putC dst v ct).size = ct.size := by
  cases dst with
  | none => rfl
  | some d => exact Array.size_setIfInBounds
theorem putC_get {dst : Option Tmp} {v : Value} {ct : Array Value} {t : Nat} : (putC dst v ct).getD t undef = if dst = some t ∧ t < ct.size then v else ct.getD t undef := by
  cases dst with
  | none => simp [putC]
  | some d =>
    simp only [putC]
    rw [Array.getD_eq_getD_getElem?, Array.getElem?_setIfInBounds]
    by_cases e : d = t
    · subst e
      by_cases hl : d < ct.size
      · simp [hl]
      · simp [hl, Array.getD_eq_getD_getElem?]
    · rw [if_neg e, if_neg (by rintro ⟨h1, _⟩; injection h1 with h1; exact e h1), ← Array.getD_eq_getD_getElem?]
theorem finish_op {ops : Array Oper} {i : Nat} {rest : List Nat} {o : Oper} {ct : Array Value} {k : List Item} {v : Value} (ho : ops[i]? = some o) : (runF fn ct (.inRegion ops (i :: rest) :: k) ds kind ro).finish v = runF fn (putC o.dst v ct) (.inRegion ops rest :: k) ds kind ro := by
  simp only [Frame.finish, ho, Option.bind_some]
  cases o.dst <;> rfl
theorem VR_undef : VR ρ undefA undef := by
  simp only [undefA, VR]
  exact ⟨#[], rfl, VRs.nil⟩
/-- a boolean on one side is one on the other -/
theorem VR_bool {a : AV} {v : Value} (hv : VR ρ a v) (b : Bool) : a = .bool b ↔ v = .bool b := by
  cases a <;> simp only [VR] at hv <;> constructor <;> intro e <;> first
    | (cases e; exact hv)
    | (rw [hv] at e; injection e with e; rw [e])
    | (cases e; done)
    | (rw [hv] at e; cases e; done)
    | (obtain ⟨_, rfl, _⟩ := hv; cases e; done)
    | (obtain ⟨_, _, rfl⟩ := hv; cases e; done)
    | (obtain ⟨_, _, _, rfl, _⟩ := hv; cases e; done)
theorem isB_iff {want : Bool} {a : AV} : isB want a = true ↔ a = .bool want := by
  cases a with
  | bool b => simp [isB]
  | _ => simp [isB]
theorem wanted_ok {o : Oper} {ops : Array Oper} {tm : Tm} {ct : Array Value} (hs : ct.size ≤ 512) (ht : ∀ t, t < 512 → t ∈ inputsOf ops o → VR ρ (Tm.at (slotOf t) tm) (ct.getD t undef)) : Region.wanted o (yielded ops ct) = wantedA o ops tm := by
  unfold Region.wanted wantedA
  cases hg : o.guard with
  | none => rfl
  | some jw =>
    obtain ⟨j, want⟩ := jw
    simp only
    have hgd : (ops[j]?).bind (·.dst) = gdst ops j := by unfold gdst; cases ops[j]? <;> rfl
    unfold yielded
    rw [hgd]
    cases hd : gdst ops j with
    | none => rfl
    | some d =>
      simp only [Option.bind_some]
      by_cases hlt : d < 512
      · have hle : Nat.ble (d + 1) 512 = true := by rw [Nat.ble_eq]; exact hlt
        rw [hle]
        simp only
        have hv := ht d hlt (by unfold inputsOf; rw [hg]; simp [hd])
        have hb := VR_bool hv want
        rw [Bool.eq_iff_iff, isB_iff, hb]
        rw [Array.getD_eq_getD_getElem?]
        cases hx : ct[d]? with
        | none => simp [undef]
        | some x =>
          simp only [Option.getD_some]
          cases x <;> simp
      · have hle : Nat.ble (d + 1) 512 = false := by
          cases hb : Nat.ble (d + 1) 512 with
          | false => rfl
          | true => exact absurd (Nat.le_of_ble_eq_true hb) hlt
        rw [hle]
        have hx : ct[d]? = none := by rw [Array.getElem?_eq_none_iff]; exact Nat.le_trans hs (Nat.le_of_not_lt hlt)
        rw [hx]
        rfl
theorem not_defer {o : Oper} {c : COp} (hc : comp P E o = c) (hn : ∀ q, c ≠ .c q) (hb : c ≠ .bad) : ∀ d, o.op ≠ .defer d := by
  intro d hd
  unfold comp at hc
  rw [hd] at hc
  simp only at hc
  unfold compDefer at hc
  split at hc
  · rename_i f _
    cases h1 : opd f with
    | none => rw [h1] at hc; exact hb hc.symm
    | some x =>
      rw [h1] at hc
      cases h2 : opds d.args.toList with
      | none => rw [h2] at hc; exact hb hc.symm
      | some y => rw [h2] at hc; exact hn _ hc.symm
  · exact hb hc.symm
theorem chain_of_c {o : Oper} {q : CHOp} (hc : compG P E o = .c q) : isChain P E o = true := by unfold isChain; rw [hc]
theorem nochain_cases {o : Oper} (hc : isChain P E o = false) : (∃ q, compG P E o = .p q) ∨ (∃ q, compG P E o = .r q) ∨ ∃ q, compG P E o = .l q := by
  unfold isChain at hc
  cases h : compG P E o with
  | p q => exact .inl ⟨q, rfl⟩
  | r q => exact .inr (.inl ⟨q, rfl⟩)
  | l q => exact .inr (.inr ⟨q, rfl⟩)
  | c q => rw [h] at hc; cases hc
  | bad => rw [h] at hc; cases hc
theorem key_inj {α : Type} {l : List (Nat × α)} (hn : (l.map (·.1)).Nodup) {x y : Nat × α} (hx : x ∈ l) (hy : y ∈ l) (e : x.1 = y.1) : x = y := by
  induction l with
  | nil => cases hx
  | cons a l ih =>
    simp only [List.map_cons, List.nodup_cons] at hn
    cases hx with
    | head =>
      cases hy with
      | head => rfl
      | tail _ hy => exact absurd (List.mem_map.2 ⟨y, hy, e.symm⟩) hn.1
    | tail _ hx =>
      cases hy with
      | head => exact absurd (List.mem_map.2 ⟨x, hx, e⟩) hn.1
      | tail _ hy => exact ih hn.2 hx hy
theorem nodup_app {α : Type} {C L : List α} (hn : (C ++ L).Nodup) {x : α} (h1 : x ∈ C) (h2 : x ∈ L) : False := (List.nodup_append.1 hn).2.2 x h1 x h2 rfl
section
variable {lo : Nat} {ops : Array Oper} {p0 A plan pend : List (Nat × Oper)} {L0 C L : List Nat} {N : Nat → Option Nat} {tm : Tm} {ct : Array Value} {fresh : Bool}
theorem DrawnR.memA (D : DrawnR P E ρ h lo nx fresh ops p0 A plan pend L0 C L N tm ct) {x : Nat × Oper} (hx : x ∈ A) : x ∈ p0 := by rw [D.hp]; exact List.mem_append_left _ hx
/-- what the next operation reads is there -/
theorem DrawnR.ready (D : DrawnR P E ρ h lo nx fresh ops p0 A plan pend L0 C L N tm ct) {x : Nat × Oper} {R : List Nat} (hL : L = x.1 :: R) (hx : x ∈ p0) (hown : ∀ d, x.2.dst = some d → x.1 ∈ A.map (·.1) → d ∉ inputsOf ops x.2) :
    ∀ t, t < 512 → t ∈ inputsOf ops x.2 → VR ρ (Tm.at (slotOf t) tm) (ct.getD t undef) := by
  intro t ht hin
  refine D.slots t ht fun y hy hyL hd => ?_
  by_cases e : y.1 = x.1
  · have := key_inj D.reg.ndP (D.memA hy) hx e
    subst this
    exact hown t hd (List.mem_map.2 ⟨y, hy, rfl⟩) hin
  · rcases D.reg.clash y (D.memA hy) x hx e t hd (by
      unfold namesOf
      unfold inputsOf at hin
      exact List.mem_append_right _ hin) with ⟨h1, _⟩ | ⟨h1, _⟩
    · have hC := h1 C R (by rw [D.hL, hL])
      have hn := D.reg.ndL
      rw [D.hL] at hn
      exact nodup_app hn hC hyL
    · rw [(D.pend y hy hyL).1] at h1; cases h1
/-- one operation that was put off is done -/
theorem flush1 (hE : EOk2 P E) (hG : GlobR E ρ) (H : HR B w0 ρ h nx w) {i : Nat} {R : List Nat} {ck : List Item} (D : DrawnR P E ρ h lo nx true ops p0 A plan pend L0 C (i :: R) N tm ct) (hs : ct.size ≤ 512) (hi : i ∈ A.map (·.1)) :
    ∃ ct' w' ρ', Go.step P (lone (runF fn ct (.inRegion ops (i :: R) :: ck) ds kind ro) cs w) = .next (lone (runF fn ct' (.inRegion ops R :: ck) ds kind ro) cs w') ∧ ρ.le ρ' ∧ HR B w0 ρ' h nx w' ∧ KeepsTo lo ρ ρ' h h ∧
      DrawnR P E ρ' h lo nx true ops p0 A plan pend L0 (C ++ [i]) R N tm ct' ∧ ct'.size = ct.size := by
  obtain ⟨x, hxA, rfl⟩ := List.mem_map.1 hi
  have hx := D.memA hxA
  have ho := D.reg.opP x hx
  obtain ⟨hch, tm0, v, hin, hdst, hpv⟩ := D.pend x hxA (by simp)
  have hrd := D.ready rfl hx (fun d hd _ => D.reg.own x hx hch d hd)
  have hrd0 : ∀ t, t < 512 → t ∈ inputsOf ops x.2 → VR ρ (Tm.at (slotOf t) tm0) (ct.getD t undef) := fun t ht hti => by
    rw [← hin t ht hti]; exact hrd t ht hti
  have hwant := wanted_ok (o := x.2) (ops := ops) (tm := tm0) hs hrd0
  have hnL : (C ++ x.1 :: R).Nodup := by rw [← D.hL]; exact D.reg.ndL
  -- what is left behind
  have after : ∀ {ρ' : Rho} {cv : Value}, ρ.le ρ' → VR ρ' v cv → (∀ y ∈ A, y.1 ∈ R → ∀ nm ob, N y.1 = some nm → h.get nm = some ob → ρ nm = none → ρ' nm = none) → DrawnR P E ρ' h lo nx true ops p0 A plan pend L0 (C ++ [x.1]) R N tm (putC x.2.dst cv ct) := by
    intro ρ' cv hle hcv hkeep
    refine ⟨D.reg, D.hp, by rw [D.hL]; simp, fun j hj => ?_, fun t ht hy => ?_, D.inj, D.bnd, fun y hy hyR => ?_, fun y hy d hd => by rw [putC_size]; exact D.dst y hy d hd⟩
    · rw [List.mem_append] at hj
      rcases hj with hj | hj
      · exact D.sub j hj
      · simp at hj; subst hj; exact List.mem_map.2 ⟨x, hxA, rfl⟩
    · rw [putC_get]
      by_cases e : x.2.dst = some t
      · rw [if_pos ⟨e, D.dst x hxA t e⟩, hdst t ht e]; exact hcv
      · rw [if_neg (fun hh => e hh.1)]
        refine (D.slots t ht fun y hyA hyL => ?_).mono hle
        rcases List.mem_cons.1 hyL with hyx | hyL
        · have := key_inj D.reg.ndP (D.memA hyA) hx hyx
          subst this
          exact e
        · exact hy y hyA hyL
    · obtain ⟨g1, tm1, v1, g2, g3, g4⟩ := D.pend y hy (List.mem_cons_of_mem _ hyR)
      refine ⟨g1, tm1, v1, g2, g3, ?_⟩
      rcases g4 with g4 | ⟨gw, g4⟩
      · exact .inl g4
      · refine .inr ⟨gw, ?_⟩
        rcases g4 with g4 | g4 | ⟨q, nm, ob, k1, k2, k3, k4, k5⟩
        · exact .inl g4
        · exact .inr (.inl g4)
        · exact .inr (.inr ⟨q, nm, ob, k1, k2, k3, k4, hkeep y hy hyR nm ob k2 k4 k5⟩)
  have same : ∀ y ∈ A, y.1 ∈ R → ∀ nm ob, N y.1 = some nm → h.get nm = some ob → ρ nm = none → ρ nm = none := fun _ _ _ _ _ _ _ hh => hh
  rcases hpv with ⟨hw, rfl⟩ | ⟨hw, hpv⟩
  · refine ⟨putC x.2.dst undef ct, w, ρ, ?_, Rho.le_refl ρ, H, KeepsTo.refl _ _ _, after (Rho.le_refl ρ) VR_undef same, putC_size⟩
    rw [st_skipped ho (by rw [hwant]; exact hw), finish_op ho]
  · have ev : ∀ {c : COp}, compG P E x.2 = c → c ≠ .bad → ∀ y ∈ x.2.op.operands.toList, Sees ρ tm0 (opF fn ct ops x.1 R ck ds kind ro).eval y := fun hc hb =>
      sees_all (ops := ops) hc hb hG hrd0 (fun t => rfl) (fun _ => rfl) (fun _ => rfl) (fun _ => rfl)
    rw [hw] at hwant
    rcases hpv with ⟨q, hq, hv⟩ | ⟨q, hq, _, hv⟩ | ⟨q, nm, ob, hq, hN, hv, hg, hn⟩
    · have hc := compG_some hq (by intro e; cases e)
      obtain ⟨cv, hr, hcv⟩ := pure_ok (w := w) hE.toEOk hc.1 (ev hq (by intro e; cases e)) hv
      refine ⟨putC x.2.dst cv ct, w, ρ, ?_, Rho.le_refl ρ, H, KeepsTo.refl _ _ _, after (Rho.le_refl ρ) hcv same, putC_size⟩
      rw [st_value ho hwant (.inr (not_defer hc.1 (fun q e => by cases e) (by intro e; cases e))) hr, finish_op ho]
    · have hc := compG_some hq (by intro e; cases e)
      obtain ⟨cv, hr, hcv⟩ := read_ok hE.toEOk H hc.1 (ev hq (by intro e; cases e)) (hv rfl)
      refine ⟨putC x.2.dst cv ct, w, ρ, ?_, Rho.le_refl ρ, H, KeepsTo.refl _ _ _, after (Rho.le_refl ρ) hcv same, putC_size⟩
      rw [st_value ho hwant (.inr (not_defer hc.1 (fun q e => by cases e) (by intro e; cases e))) hr, finish_op ho]
    · have hc := compG_some hq (by intro e; cases e)
      have hcn : ρ.cap w.heap.size = none := by
        cases hcc : ρ.cap w.heap.size with
        | none => rfl
        | some x => have := H.capb _ _ hcc; omega
      obtain ⟨cv, w', obj, k, hr, hh, hcv, hob, hk⟩ := alloc_ok hn hcn hc.1 (ev hq (by intro e; cases e)) hv
      obtain ⟨hle, H'⟩ := H.mat hg hn hh hob hk
      refine ⟨putC x.2.dst cv ct, w', ρ.ext nm w.heap.size k, ?_, hle, H', fun nm' ob' hl hg' hn' => ⟨?_, hg'⟩, after hle hcv fun y hy hyR nm' ob' hN' hg' hn' => ?_, putC_size⟩
      · rw [st_value ho hwant (.inr (not_defer hc.1 (fun q e => by cases e) (by intro e; cases e))) hr, finish_op ho]
      · show (if nm' = nm then some w.heap.size else ρ nm') = none
        rw [if_neg]
        · exact hn'
        · have := D.bnd _ _ hN; omega
      · show (if nm' = nm then some w.heap.size else ρ nm') = none
        rw [if_neg]
        · exact hn'
        · intro e
          subst e
          have := D.inj _ _ _ hN hN'
          rw [← this] at hyR
          exact nodup_app (C := C ++ [x.1]) (L := R) (by simpa using hnL) (by simp) hyR
/-- some operations that were put off are done -/
theorem flush (hE : EOk2 P E) {R : List Nat} {ck : List Item} : ∀ (M : List Nat) {C : List Nat} {ρ : Rho} {w : World} {ct : Array Value}, GlobR E ρ → HR B w0 ρ h nx w → DrawnR P E ρ h lo nx true ops p0 A plan pend L0 C (M ++ R) N tm ct → ct.size ≤ 512 → (∀ i ∈ M, i ∈ A.map (·.1)) →
    ∃ ct' w' ρ', Steps P (lone (runF fn ct (.inRegion ops (M ++ R) :: ck) ds kind ro) cs w) (lone (runF fn ct' (.inRegion ops R :: ck) ds kind ro) cs w') ∧ ρ.le ρ' ∧ HR B w0 ρ' h nx w' ∧ KeepsTo lo ρ ρ' h h ∧
      DrawnR P E ρ' h lo nx true ops p0 A plan pend L0 (C ++ M) R N tm ct' ∧ ct'.size = ct.size
  | [], C, ρ, w, ct, _, H, D, _, _ => ⟨ct, w, ρ, .refl P _, Rho.le_refl ρ, H, KeepsTo.refl _ _ _, by simpa using D, rfl⟩
  | i :: M, C, ρ, w, ct, hG, H, D, hs, hM => by
    obtain ⟨ct1, w1, ρ1, s1, l1, H1, k1, D1, z1⟩ := flush1 (fn := fn) (ds := ds) (kind := kind) (ro := ro) (cs := cs) (ck := ck) hE hG H D hs (hM i (by simp))
    obtain ⟨ct2, w2, ρ2, s2, l2, H2, k2, D2, z2⟩ := flush hE M (hG.mono l1) H1 D1 (by rw [z1]; exact hs) (fun j hj => hM j (by simp [hj]))
    exact ⟨ct2, w2, ρ2, .head s1 s2, Rho.le_trans l1 l2, H2, k1.trans k2, by simpa using D2, by rw [z2, z1]⟩
end
end
end Go.Abs
namespace Go.Abs
noncomputable section
variable {P : Program} {E : Env} {B : Nat} {w0 : World} {ρ ρ' : Rho} {h h' : Heap} {nx nx' : Nat} {w w' : World} {cs0 : List Frame} {f0 : FuncId}
/-- the function of the frame at the bottom -/
def botFn : AFrame → List AFrame → FuncId
  | fr, [] => fr.fi.fn
  | _, c :: cs => botFn c cs
theorem botFn_congr {fr fr' : AFrame} (e : fr'.fi.fn = fr.fi.fn) (cs : List AFrame) : botFn fr' cs = botFn fr cs := by
  cases cs with
  | nil => exact e
  | cons c cs => rfl
/-- abstract and concrete states -/
def StR (P : Program) (E : Env) (B : Nat) (w0 : World) (cs0 : List Frame) (f0 : FuncId) (s : ASt) (m : Machine) : Prop :=
  match s with
  | .mk fr cs h nx => ∃ ρ lo cf ccs w, m = lone cf (ccs ++ cs0) w ∧ HR B w0 ρ h nx w ∧ GlobR E ρ ∧ lo ≤ nx ∧ FrR P E ρ h lo nx true fr cf ∧ FrsR P E ρ h lo fr.fi.kind cs ccs ∧ botFn fr cs = f0
/-- what a step of the abstract machine comes to -/
def ResS (P : Program) (E : Env) (B : Nat) (w0 : World) (cs0 : List Frame) (f0 : FuncId) (m : Machine) (r : SRes) : Prop :=
  match r with
  | .next s => ∃ m', Steps P m m' ∧ StR P E B w0 cs0 f0 s m'
  | .done v h => ∃ cf w ρ cv nx, Steps P m (lone cf cs0 w) ∧ cf.fn = f0 ∧ cf.leaving P w (.returned cv) ∧ VR ρ v cv ∧ HR B w0 ρ h nx w
  | .fail _ => True
theorem ResS.steps {m m' : Machine} {r : SRes} (hs : Steps P m m') (hr : ResS P E B w0 cs0 f0 m' r) : ResS P E B w0 cs0 f0 m r := by
  cases r with
  | next s =>
    obtain ⟨m1, h1, h2⟩ := hr
    exact ⟨m1, hs.trans h1, h2⟩
  | done v h =>
    obtain ⟨cf, w, ρ, cv, nx, h1, h2⟩ := hr
    exact ⟨cf, w, ρ, cv, nx, hs.trans h1, h2⟩
  | fail c => trivial
theorem ResS.fail {m : Machine} {r : SRes} (h : ∃ c, r = .fail c) : ResS P E B w0 cs0 f0 m r := by
  obtain ⟨c, rfl⟩ := h
  trivial
/-- a frame that runs -/
theorem frame_runF (cf : Frame) (hm : cf.mode = .run) : cf = runF cf.fn cf.tmps cf.todo cf.defers cf.kind cf.roundOf := by
  obtain ⟨fn, tmps, todo, ds, mode, kind, ro⟩ := cf
  simp only at hm
  subst hm
  rfl
theorem ModeR.run {m : FrameMode} (h : ModeR ρ .run m) : m = .run := by
  cases m <;> first | rfl | (cases h; done)
/-- a value arrives at the slot where it goes -/
theorem Put.tmR {nt : Nat} {dst : Option Tmp} {v : AV} {tm tm' : Tm} {ct : Array Value} {cv : Value} (hp : Put nt dst v tm tm') (hv : VR ρ v cv) (ht : TmR ρ tm ct) (hs : ct.size = nt) (hn : nt ≤ 512) : TmR ρ tm' (putC dst cv ct) := by
  cases dst with
  | none =>
    have : tm' = tm := hp
    subst this
    exact ht
  | some d =>
    obtain ⟨h1, h2, rfl⟩ := hp
    exact ht.set hv (by omega) (by rw [hs]; exact h1)
theorem Put.at {nt : Nat} {dst : Option Tmp} {v : AV} {tm tm' : Tm} (hp : Put nt dst v tm tm') {t : Nat} (ht : t < 512) : Tm.at (slotOf t) tm' = if dst = some t then v else Tm.at (slotOf t) tm := by
  cases dst with
  | none =>
    have : tm' = tm := hp
    subst this
    simp
  | some d =>
    obtain ⟨h1, h2, rfl⟩ := hp
    rw [at_put_slot ht h2]
    by_cases e : t = d
    · subst e; simp
    · rw [if_neg e, if_neg (fun h => by injection h with h; exact e h.symm)]
section
variable {lo : Nat} {ops : Array Oper} {p0 A plan pend : List (Nat × Oper)} {L0 C L R : List Nat} {N : Nat → Option Nat} {tm tm' : Tm} {ct : Array Value}
/-- the plan's next operation is no pending one's slot -/
theorem DrawnR.apart {fresh : Bool} {x : Nat × Oper} (D : DrawnR P E ρ h lo nx fresh ops p0 A (x :: plan) pend L0 C L N tm ct) (hh : isChain P E x.2 = true → ∃ R, L = x.1 :: R) {y : Nat × Oper} (hy : y ∈ A) (hyL : y.1 ∈ L) :
    x.1 ≠ y.1 ∧ ∀ d, x.2.dst = some d → d ∉ namesOf ops y.2 := by
  have hnP := D.reg.ndP
  rw [D.hp, List.map_append, List.map_cons] at hnP
  have hxA : x.1 ∉ A.map (·.1) := fun h1 => nodup_app hnP h1 (by simp)
  have hne : x.1 ≠ y.1 := fun e => hxA (List.mem_map.2 ⟨y, hy, e.symm⟩)
  refine ⟨hne, fun d hd hin => ?_⟩
  have hx0 : x ∈ p0 := by rw [D.hp]; simp
  rcases D.reg.clash x hx0 y (D.memA hy) hne d hd hin with ⟨_, h2⟩ | ⟨h1, h2⟩
  · obtain ⟨A1, A2, e⟩ := List.append_of_mem hy
    have := h2 A1 (A2 ++ x :: plan) (by rw [D.hp, e]; simp)
    exact hxA (by rw [e]; simp only [List.map_append, List.mem_append]; exact .inl this)
  · obtain ⟨R, hR⟩ := hh h1
    have := h2 C R (by rw [D.hL, hR])
    have hnL := D.reg.ndL
    rw [D.hL] at hnL
    exact nodup_app hnL this hyL
/-- an operation of the chain is through -/
theorem DrawnR.chain_done {fresh : Bool} {i : Nat} {o : Oper} (D : DrawnR P E ρ h lo nx fresh ops p0 A ((i, o) :: plan) pend L0 C (i :: R) N tm ct) {nt : Nat} {v : AV} {cv : Value} (hp : Put nt o.dst v tm tm') (hv : VR ρ v cv) (hs : ct.size = nt) (_hn : nt ≤ 512) :
    DrawnR P E ρ h lo nx fresh ops p0 (A ++ [(i, o)]) plan pend L0 (C ++ [i]) R N tm' (putC o.dst cv ct) := by
  have hnL := D.reg.ndL
  rw [D.hL] at hnL
  have hiR : i ∉ R := by
    have := (List.nodup_append.1 hnL).2.1
    exact (List.nodup_cons.1 this).1
  have inA : ∀ {y : Nat × Oper}, y ∈ A ++ [(i, o)] → y.1 ∈ R → y ∈ A := fun {y} hy hyR => by
    rcases List.mem_append.1 hy with hy | hy
    · exact hy
    · simp at hy; subst hy; exact absurd hyR hiR
  refine ⟨D.reg, by rw [D.hp]; simp, by rw [D.hL]; simp, fun j hj => ?_, fun t ht hy => ?_, D.inj, D.bnd, fun y hy hyR => ?_, fun y hy d hd => ?_⟩
  · rw [List.mem_append] at hj
    rw [List.map_append, List.mem_append]
    rcases hj with hj | hj
    · exact .inl (D.sub j hj)
    · simp at hj; subst hj; exact .inr (by simp)
  · rw [hp.at ht, putC_get]
    by_cases e : o.dst = some t
    · rw [if_pos e, if_pos]
      · exact hv
      · refine ⟨e, ?_⟩
        rw [e] at hp
        have := hp.1
        rw [hs]; exact this
    · rw [if_neg e, if_neg (fun hh => e hh.1)]
      refine D.slots t ht fun y hyA hyL => ?_
      rcases List.mem_cons.1 hyL with hyi | hyR
      · exfalso
        have hnP := D.reg.ndP
        rw [D.hp, List.map_append, List.map_cons] at hnP
        exact nodup_app hnP (List.mem_map.2 ⟨y, hyA, hyi⟩) (by simp)
      · exact hy y (List.mem_append_left _ hyA) hyR
  · have hyA := inA hy hyR
    obtain ⟨g1, tm0, v0, g2, g3, g4⟩ := D.pend y hyA (List.mem_cons_of_mem _ hyR)
    have hap := (D.apart (fun _ => ⟨R, rfl⟩) hyA (List.mem_cons_of_mem _ hyR)).2
    refine ⟨g1, tm0, v0, fun t ht hin => ?_, fun d hd hdd => ?_, g4⟩
    · rw [hp.at ht, if_neg]
      · exact g2 t ht hin
      · intro e
        exact hap t e (by unfold namesOf; unfold inputsOf at hin; exact List.mem_append_right _ hin)
    · rw [hp.at hd, if_neg]
      · exact g3 d hd hdd
      · intro e
        exact hap d e (by unfold namesOf; rw [hdd]; simp)
  · rw [putC_size]
    rcases List.mem_append.1 hy with hy | hy
    · exact D.dst y hy d hd
    · simp at hy
      subst hy
      have hd' : o.dst = some d := hd
      rw [hd'] at hp
      rw [hs]; exact hp.1
end
theorem All2.cons {α β : Type} {R : α → β → Prop} {a : α} {b : β} {l : List α} {m : List β} (h : R a b) (h' : All2 R l m) : All2 R (a :: l) (b :: m) := ⟨b, m, rfl, h, h'⟩
/-- a value comes back to a frame -/
theorem finish_ok {lo : Nat} {fr : AFrame} {cf : Frame} {v : AV} {cv : Value} (hm : isRun fr.mode = true) (F : FrR P E ρ h lo nx false fr cf) (hv : VR ρ v cv) (K : AFrame → SRes) :
    (∃ c, finish fr v K = .fail c) ∨ ∃ fr', finish fr v K = K fr' ∧ FrR P E ρ h lo nx true fr' (cf.finish cv) ∧ fr'.fi = fr.fi ∧ fr'.dfs = fr.dfs := by
  obtain ⟨fi, tm, todo, dfs, mode⟩ := fr
  cases mode with
  | returning => cases hm
  | panicking c => cases hm
  | run =>
    obtain ⟨FB, FT⟩ := F
    have hcm : cf.mode = .run := FB.mode.run
    have hfr := frame_runF cf hcm
    generalize cf.fn = fn at *
    obtain ⟨fn', ct, ctodo, ds, cmode, kind, ro⟩ := cf
    simp only at hcm
    subst hcm
    replace FT : TodoR P E ρ h lo nx false todo tm ctodo ct := FT
    have hsz : ct.size = fi.nt := FB.size
    have hnt : fi.nt ≤ 512 := FB.nt
    have mk : ∀ {tm' : Tm} {todo' : List AItem} {ct' : Array Value} {ctodo' : List Item}, ct'.size = fi.nt → TodoR P E ρ h lo nx true todo' tm' ctodo' ct' →
        FrR P E ρ h lo nx true ⟨fi, tm', todo', dfs, .run⟩ (runF fn' ct' ctodo' ds kind ro) := fun h1 h2 =>
      ⟨⟨FB.fn, h1, FB.nt, FB.kind, FB.ro, FB.dfs, FB.mode⟩, h2⟩
    cases todo with
    | nil => exact .inl ⟨_, rfl⟩
    | cons x k =>
      cases x with
      | rg ops rest =>
        cases rest with
        | nil => exact .inl ⟨_, rfl⟩
        | cons o rest =>
          obtain ⟨⟨ci, ck, rfl, hpl, hk⟩, htm⟩ := FT
          cases ci <;> simp only [PlainR] at hpl
          rename_i ops' is
          obtain ⟨rfl, i, is', rfl, ho, his⟩ := hpl
          rw [show (finish ⟨fi, tm, .rg ops' (o :: rest) :: k, dfs, .run⟩ v K) = setTmp fi o.dst v tm (fun tm => K ⟨fi, tm, .rg ops' rest :: k, dfs, .run⟩) from rfl]
          rcases setTmp_cases fi hnt o.dst v tm (fun tm => K ⟨fi, tm, .rg ops' rest :: k, dfs, .run⟩) with h1 | ⟨tm', h1, h2⟩
          · exact .inl h1
          · refine .inr ⟨_, h2, ?_, rfl, rfl⟩
            have := finish_op (fn := fn') (ds := ds) (kind := kind) (ro := ro) (ct := ct) (k := ck) (rest := is') (v := cv) ho
            rw [show (Frame.finish ⟨fn', ct, .inRegion ops' (i :: is') :: ck, ds, .run, kind, ro⟩ cv) = _ from this]
            exact mk (by rw [putC_size]; exact hsz) ⟨All2.cons ⟨rfl, his⟩ hk, h1.tmR hv htm hsz hnt⟩
      | dr ops pl pend =>
        obtain ⟨i, o, plan', R, ck, rfl, hch, rfl, hk, p0, A, L0, C, N, D⟩ := FT
        rw [show (finish ⟨fi, tm, .dr ops ((i, o) :: plan') pend :: k, dfs, .run⟩ v K) = setTmp fi o.dst v tm (fun tm => K ⟨fi, tm, .dv ops plan' pend :: k, dfs, .run⟩) from rfl]
        rcases setTmp_cases fi hnt o.dst v tm (fun tm => K ⟨fi, tm, .dv ops plan' pend :: k, dfs, .run⟩) with h1 | ⟨tm', h1, h2⟩
        · exact .inl h1
        · refine .inr ⟨_, h2, ?_, rfl, rfl⟩
          have ho : ops[i]? = some o := D.reg.opP (i, o) (by rw [D.hp]; simp)
          have := finish_op (fn := fn') (ds := ds) (kind := kind) (ro := ro) (ct := ct) (k := ck) (rest := R) (v := cv) ho
          rw [show (Frame.finish ⟨fn', ct, .inRegion ops (i :: R) :: ck, ds, .run, kind, ro⟩ cv) = _ from this]
          exact mk (by rw [putC_size]; exact hsz) ⟨R, ck, rfl, hk, p0, _, L0, _, N, D.chain_done h1 hv hsz hnt⟩
      | inRF l =>
        obtain ⟨⟨ci, ck, rfl, hpl, hk⟩, htm⟩ := FT
        cases ci <;> simp only [PlainR] at hpl
        refine .inr ⟨_, rfl, ?_, rfl, rfl⟩
        exact mk hsz ⟨All2.cons hpl hk, htm⟩
      | code c => exact .inl ⟨_, rfl⟩
      | inBlock c => exact .inl ⟨_, rfl⟩
      | inLoop c => exact .inl ⟨_, rfl⟩
      | inScope c => exact .inl ⟨_, rfl⟩
      | dv _ _ _ => exact .inl ⟨_, rfl⟩
      | endRF _ => exact .inl ⟨_, rfl⟩
      | beginRound => exact .inl ⟨_, rfl⟩
end
end Go.Abs
namespace Go.Abs
noncomputable section
variable {P : Program} {E : Env} {B : Nat} {w0 : World} {ρ ρ' : Rho} {h h' : Heap} {nx nx' : Nat} {w w' : World} {cs0 : List Frame} {f0 : FuncId}
theorem at_empty (s : Slot) : Tm.at s Tm.empty = undefA := by
  obtain ⟨a, b, c, d⟩ := s
  cases a <;> cases b <;> cases c <;> cases d <;> rfl
theorem setArgs_ok : ∀ (l : List AV) (i : Nat) (tm : Tm), i + l.length ≤ 512 → ∃ tm', (∀ K, setArgs l i tm K = K tm') ∧ ∀ t, t < 512 → Tm.at (slotOf t) tm' = if i ≤ t ∧ t < i + l.length then l.getD (t - i) undefA else Tm.at (slotOf t) tm
  | [], i, tm, _ => ⟨tm, fun _ => rfl, fun t _ => by rw [if_neg (by simp only [List.length_nil]; omega)]⟩
  | v :: l, i, tm, hl => by
    simp only [List.length_cons] at hl
    obtain ⟨tm', h1, h2⟩ := setArgs_ok l (i + 1) (Tm.put (slotOf i) tm v) (by omega)
    refine ⟨tm', fun K => ?_, fun t ht => ?_⟩
    · simp only [setArgs, AV.force_eq]
      rw [setA_eq]; exact h1 K
    · rw [h2 t ht, at_put_slot ht (by omega)]
      simp only [List.length_cons]
      by_cases e : t = i
      · subst e
        rw [if_neg (by omega), if_pos rfl, if_pos (by omega), Nat.sub_self]
        rfl
      · by_cases hc : i + 1 ≤ t ∧ t < i + 1 + l.length
        · rw [if_pos hc, if_pos (by omega)]
          have : t - i = (t - (i + 1)) + 1 := by omega
          rw [this, List.getD_cons_succ]
        · rw [if_neg hc, if_neg e, if_neg (by omega)]
theorem VRs.getD {l : List AV} {m : List Value} (h : VRs ρ l m) (i : Nat) : VR ρ (l.getD i undefA) (m.getD i undef) := by
  rw [List.getD_eq_getElem?_getD, List.getD_eq_getElem?_getD]
  cases hl : l[i]? with
  | some a =>
    obtain ⟨v, h1, h2⟩ := h.get i hl
    rw [h1]; exact h2
  | none =>
    have : m[i]? = none := by
      rw [List.getElem?_eq_none_iff] at hl ⊢
      rw [← h.length]; exact hl
    rw [this]
    exact VR_undef
/-- the slots at a function's entry -/
theorem entry_tm {args : List AV} {cargs : Array Value} {n : Nat} (ha : VRs ρ args cargs.toList) (h1 : args.length ≤ n) (h2 : n ≤ 512) : ∃ tm, (∀ K, setArgs args 0 Tm.empty K = K tm) ∧ TmR ρ tm (cargs ++ Array.replicate (n - cargs.size) undef) ∧ (cargs ++ Array.replicate (n - cargs.size) undef).size = n := by
  have hl : args.length = cargs.size := by rw [ha.length, Array.length_toList]
  obtain ⟨tm, g1, g2⟩ := setArgs_ok args 0 Tm.empty (by omega)
  refine ⟨tm, g1, fun t ht => ?_, by rw [Array.size_append, Array.size_replicate]; omega⟩
  rw [g2 t ht, at_empty]
  rw [Array.getD_eq_getD_getElem?, Array.getElem?_append]
  by_cases hc : t < cargs.size
  · rw [if_pos (by omega), if_pos hc]
    have := ha.getD t
    rw [List.getD_eq_getElem?_getD, List.getD_eq_getElem?_getD] at this
    rw [List.getD_eq_getElem?_getD]
    simpa using this
  · rw [if_neg (by omega), if_neg hc, Array.getElem?_replicate]
    split <;> exact VR_undef
/-- a function is entered -/
theorem enter_ok (H : HR B w0 ρ h nx w) (hG : GlobR E ρ) {f : FuncId} {args : List AV} {cargs : Array Value} (ha : VRs ρ args cargs.toList) {kd : AKind} {ck : CallKind} (hk : KindR kd ck) {acs : List AFrame} {accs : List Frame}
    (hF : FrsR P E ρ h nx kd acs accs) (hb : ∀ fr : AFrame, fr.fi.fn = f → botFn fr acs = f0) : ResS P E B w0 cs0 f0 (lone (Frame.enter P f cargs ck) (accs ++ cs0) w) (enter P f args kd (goNext acs h nx)) := by
  unfold enter
  split
  · rename_i fn hf
    split
    · rename_i c hc
      split
      · rename_i hcond
        rw [Bool.and_eq_true, Nat.ble_eq, Nat.ble_eq] at hcond
        obtain ⟨tm, h1, h2, h3⟩ := entry_tm ha hcond.1 hcond.2
        rw [h1]
        refine ⟨_, .refl P _, ρ, nx, _, accs, w, rfl, H, hG, Nat.le_refl _, ⟨⟨rfl, ?_, hcond.2, hk, rfl, rfl, trivial⟩, ?_⟩, hF, hb _ rfl⟩
        · simp only [Frame.enter, hf, Option.map_some, Option.getD_some]; exact h3
        · show TodoR P E ρ h nx nx true [.code c] tm _ _
          simp only [Frame.enter, hf, Option.map_some, Option.getD_some, Option.bind_some, hc]
          exact ⟨All2.cons rfl rfl, h2⟩
      · trivial
    · trivial
  · trivial
/-- a frame is raised -/
theorem raise_ok (H : HR B w0 ρ h nx w) (hG : GlobR E ρ) {lo : Nat} (hlo : lo ≤ nx) {fr : AFrame} {cf : Frame} (F : FrR P E ρ h lo nx false fr cf) {cs : List AFrame} {ccs : List Frame} (hF : FrsR P E ρ h lo fr.fi.kind cs ccs) (hb : botFn fr cs = f0)
    {l : List APanic} {cl : List PanicEntry} (hl : All2 (PanR ρ) l cl) : ResS P E B w0 cs0 f0 (lone (cf.raise cl) (ccs ++ cs0) w) (raiseS fr l cs h nx) := by
  unfold raiseS
  split
  · rename_i hok
    obtain ⟨fi, tm, todo, dfs, mode⟩ := fr
    obtain ⟨FB, FT⟩ := F
    obtain ⟨fn, ct, ctodo, ds, cmode, kind, ro⟩ := cf
    refine ⟨_, .refl P _, ρ, lo, _, ccs, w, rfl, H, hG, hlo, ?_, hF, by rw [← hb]; exact botFn_congr (fr := ⟨fi, tm, todo, dfs, mode⟩) (fr' := raiseA ⟨fi, tm, todo, dfs, mode⟩ l) rfl cs⟩
    have hm := FB.mode
    simp only at hm
    have mk : ∀ {m : AMode} {m' : FrameMode}, ModeR ρ m m' → (∃ c, m = .panicking c) → ((dfs = []) ∨ TmR ρ tm ct) → FrR P E ρ h lo nx true ⟨fi, tm, todo, dfs, m⟩ ⟨fn, ct, ctodo, ds, m', kind, ro⟩ := by
      intro m m' h1 h2 h3
      obtain ⟨c, rfl⟩ := h2
      refine ⟨⟨FB.fn, FB.size, FB.nt, FB.kind, FB.ro, FB.dfs, h1⟩, ?_⟩
      rcases h3 with h3 | h3
      · exact .inl ⟨rfl, h3⟩
      · exact .inr h3
    cases mode with
    | run =>
      cases cmode <;> simp only [ModeR] at hm
      refine mk (m := .panicking l) (m' := .panicking cl) hl ⟨_, rfl⟩ ?_
      unfold raiseOk at hok
      cases dfs with
      | nil => exact .inl rfl
      | cons d dfs =>
        simp only at hok
        have hd : isDrawn todo = false := by
          cases hh : isDrawn todo with
          | false => rfl
          | true => rw [hh] at hok; cases hok
        have FT' : TodoR P E ρ h lo nx false todo tm ctodo ct := FT
        exact .inr ((TodoR.plain hd).1 FT').2
    | returning =>
      cases cmode <;> simp only [ModeR] at hm
      exact mk (m := .panicking l) (m' := .panicking cl) hl ⟨_, rfl⟩ (.inr FT)
    | panicking old =>
      cases cmode <;> simp only [ModeR] at hm
      rename_i cold
      refine mk (m := .panicking (l ++ old)) (m' := .panicking (cl ++ cold)) ?_ ⟨_, rfl⟩ ?_
      · have app : ∀ {l : List APanic} {cl : List PanicEntry}, All2 (PanR ρ) l cl → All2 (PanR ρ) (l ++ old) (cl ++ cold) := by
          intro l
          induction l with
          | nil => intro cl h0; simp only [All2] at h0; subst h0; exact hm
          | cons a l ih =>
            intro cl h0
            obtain ⟨b, m', rfl, h1, h2⟩ := h0
            exact All2.cons h1 (ih h2)
        exact app hl
      · rcases FT with ⟨e, _⟩ | FT
        · cases e
        · exact .inr FT
  · trivial
theorem defer_only {ev : Operand → Value} {o : Oper} {c : Call} (hd : o.op = .defer c) {n : ANext} {Q : World → Prop} (hr : ResR ρ n ((execOp ev o).run P w) Q) : ∃ d, n = .defer d := by
  have e : (execOp ev o) = (do pure (.defer (← resolve ev c o.type))) := by unfold execOp; rw [hd]
  rw [e] at hr
  have go : ∀ {d : Deferred} {w' : World}, NextR ρ n (.defer d) → ∃ d, n = .defer d := by
    intro d w' hn
    cases n with
    | val v => rcases hn with ⟨_, h1, _⟩ | ⟨h1, _⟩ <;> cases h1
    | enter f args => obtain ⟨_, h1, _⟩ := hn; cases h1
    | defer d => exact ⟨d, rfl⟩
    | recover => cases hn
    | round l f tm nt a b => obtain ⟨_, _, _, h1, _⟩ := hn; cases h1
    | panic v => cases hn
  simp only [Sem.run_bind, resolve] at hr
  split at hr
  · simp only [Sem.run_pure, Result.andThen_ok] at hr
    exact go (w' := w) hr.1
  · simp only [Sem.run_pure, Result.andThen_ok] at hr
    exact go (w' := w) hr.1
  · unfold Deferred.ofValue at hr
    split at hr
    · simp only [Sem.run_pure, Result.andThen_ok] at hr
      exact go (w' := w) hr.1
    · simp only [Sem.run_pure, Result.andThen_ok] at hr
      exact go (w' := w) hr.1
    · exact absurd hr (by simp [ResR, stuck])
theorem VR_ifcN : VR ρ .ifcN .nilIface := by simp only [VR]
/-- what an operation's outcome does -/
theorem apply_ok (hG : GlobR E ρ) {lo : Nat} (hlo : lo ≤ nx) {fr : AFrame} {fn : FuncId} {ct : Array Value} {ops : Array Oper} {i : Nat} {rest : List Nat} {ck : List Item} {ds : List Deferred} {kind : CallKind} {ro : Option Nat} {o : Oper}
    (hm : isRun fr.mode = true) (F : FrR P E ρ h lo nx false fr (opF fn ct ops i rest ck ds kind ro)) (ho : ops[i]? = some o) (hw : Region.wanted o (yielded ops ct) = true)
    {cs : List AFrame} {ccs : List Frame} (hF : FrsR P E ρ h lo fr.fi.kind cs ccs) (hb : botFn fr cs = f0) {n : ANext} (hp : Post P B w0 ρ h nx w (execOp (opF fn ct ops i rest ck ds kind ro).eval o) n h' nx') :
    ResS P E B w0 cs0 f0 (lone (opF fn ct ops i rest ck ds kind ro) (ccs ++ cs0) w) (apply P fr cs n h' nx') := by
  obtain ⟨ρ', hle, hkp, hnx, hres⟩ := hp
  have F' := F.mono hle (hkp.to nx) hnx
  have hF' := hF.mono hle (hkp.to lo) (Nat.le_refl _)
  have hG' := hG.mono hle
  have hd : (∃ d, n = .defer d) ∨ ∀ c, o.op ≠ .defer c := by
    cases hop : o.op
    case defer c => exact .inl (defer_only hop hres)
    all_goals exact .inr (fun c e => by cases e)
  have key : ∀ {v : AV} {cv : Value} {w' : World}, VR ρ' v cv → HR B w0 ρ' h' nx' w' → Go.step P (lone (opF fn ct ops i rest ck ds kind ro) (ccs ++ cs0) w) = .next (lone ((opF fn ct ops i rest ck ds kind ro).finish cv) (ccs ++ cs0) w') →
      ResS P E B w0 cs0 f0 (lone (opF fn ct ops i rest ck ds kind ro) (ccs ++ cs0) w) (finish fr v (goNext cs h' nx')) := by
    intro v cv w' hv H' hst
    rcases finish_ok hm F' hv (goNext cs h' nx') with h1 | ⟨fr', h1, h2, h3, _⟩
    · exact ResS.fail h1
    · rw [h1]
      exact ⟨_, .one hst, ρ', lo, _, ccs, w', rfl, H', hG', by omega, h2, by rw [h3]; exact hF', by rw [← hb]; exact botFn_congr (by rw [h3]) cs⟩
  generalize hrun : (execOp (opF fn ct ops i rest ck ds kind ro).eval o).run P w = r at hres
  cases r with
  | halt hh w' =>
    cases hh <;> try (exact absurd hres id)
    rename_i cv
    obtain ⟨⟨v, rfl, hv⟩, H'⟩ := hres
    have hd' : ∀ c, o.op ≠ .defer c := by
      rcases hd with ⟨d, e⟩ | hd
      · cases e
      · exact hd
    refine ResS.steps (.one (st_panic ho hw (.inr hd') hrun)) ?_
    exact raise_ok H' hG' (by omega) F' hF' hb (All2.cons ⟨hv, rfl, rfl⟩ rfl)
  | ok c w' =>
    obtain ⟨hn, H'⟩ := hres
    cases n with
    | val v =>
      have hd' : ∀ c, o.op ≠ .defer c := by
        rcases hd with ⟨d, e⟩ | hd
        · cases e
        · exact hd
      rcases hn with ⟨cv, rfl, hv⟩ | ⟨rfl, rfl⟩
      · exact key hv H' (st_value ho hw (.inr hd') hrun)
      · exact key VR_undef H' (st_skipN ho hw (.inr hd') hrun)
    | enter f args =>
      have hd' : ∀ c, o.op ≠ .defer c := by
        rcases hd with ⟨d, e⟩ | hd
        · cases e
        · exact hd
      obtain ⟨cargs, rfl, ha⟩ := hn
      refine ResS.steps (.one (st_enter ho hw (.inr hd') hrun)) ?_
      exact enter_ok (kd := .normal) (ck := .normal) (accs := opF fn ct ops i rest ck ds kind ro :: ccs) H' hG' ha trivial
        ⟨_, ccs, lo, rfl, by omega, by rw [hm]; rfl, F', hF'⟩ (fun fr' e => hb)
    | defer d =>
      obtain ⟨cd, rfl, hdr⟩ := hn
      show ResS P E B w0 cs0 f0 _ (deferA fr d cs h' nx')
      obtain ⟨fi, tm, todo, dfs, mode⟩ := fr
      unfold deferA
      split
      · rename_i hro
        have hro' : ro = none := by
          have := F.1.ro
          rw [hro] at this
          exact this
        subst hro'
        have Fd : FrR P E ρ' h' lo nx' false (addDefer ⟨fi, tm, todo, dfs, mode⟩ d) (opF fn ct ops i rest ck (cd :: ds) kind none) := by
          obtain ⟨FB, FT⟩ := F'
          refine ⟨⟨FB.fn, FB.size, FB.nt, FB.kind, FB.ro, All2.cons hdr FB.dfs, FB.mode⟩, ?_⟩
          cases mode with
          | run => exact FT
          | returning => cases hm
          | panicking c => cases hm
        rcases finish_ok (v := undefA) (cv := undef) (by exact hm) Fd VR_undef (goNext cs h' nx') with h1 | ⟨fr', h1, h2, h3, _⟩
        · exact ResS.fail h1
        · rw [h1]
          exact ⟨_, .one (st_defer ho hw hrun), ρ', lo, _, ccs, w', rfl, H', hG', by omega, h2, by rw [h3]; exact hF', by rw [← hb]; exact botFn_congr (by rw [h3]; rfl) cs⟩
      · trivial
    | recover =>
      cases hn
      show ResS P E B w0 cs0 f0 _ (recoverA fr cs h' nx')
      unfold recoverA
      split
      · rename_i c cs' hro hkn
        have hro' : ro = none := by
          have := F.1.ro
          rw [hro] at this
          exact this
        subst hro'
        have hkd : kind = .deferred := by
          have := F.1.kind
          cases hk : fr.fi.kind with
          | normal => rw [hk] at hkn; cases hkn
          | deferred =>
            rw [hk] at this
            cases kind <;> simp only [KindR] at this
            rfl
        subst hkd
        obtain ⟨ccf, ccs', lo', rfl, hlo', hcm, hC, hCs⟩ := hF'
        obtain ⟨fi', tm', todo', dfs', mode'⟩ := c
        unfold recover1
        simp only
        have hmode := hC.1.mode
        simp only at hmode
        split
        · rename_i v older
          obtain ⟨cfn, cct, cctodo, cds, cmode, ckind, cro⟩ := ccf
          simp only at hmode
          cases cmode <;> simp only [ModeR] at hmode
          rename_i chain
          obtain ⟨pe, chain', rfl, ⟨hv, hrec, hgo⟩, hold⟩ := hmode
          obtain ⟨pv, prec, pgo⟩ := pe
          simp only at hrec hgo hv
          subst hrec hgo
          rcases finish_ok (v := v) (cv := pv) hm F' hv (goNext (⟨fi', tm', todo', dfs', .panicking (⟨v, true⟩ :: older)⟩ :: cs') h' nx') with h1 | ⟨fr', h1, h2, h3, _⟩
          · exact ResS.fail h1
          · rw [h1]
            refine ⟨_, .one (st_recover_some (cs' := (⟨cfn, cct, cctodo, cds, .panicking (⟨pv, true, false⟩ :: chain'), ckind, cro⟩ : Frame) :: (ccs' ++ cs0)) ho hw hrun rfl), ρ', lo, _, _ :: ccs', w', rfl, H', hG', by omega, h2, ?_, by rw [← hb]; cases cs' <;> rfl⟩
            rw [h3]
            refine ⟨_, ccs', lo', rfl, hlo', ?_, ⟨⟨hC.1.fn, hC.1.size, hC.1.nt, hC.1.kind, hC.1.ro, hC.1.dfs, ?_⟩, ?_⟩, hCs⟩
            · rw [← hcm]; rfl
            · exact All2.cons ⟨hv, rfl, rfl⟩ hold
            · exact hC.2
        · rename_i hnp
          refine key VR_ifcN H' (st_recover_none ho hw hrun ?_)
          simp only [tryRecover, List.cons_append]
          split
          · rename_i pv older hcmode
            exfalso
            rw [hcmode] at hmode
            cases mode' with
            | run => cases hmode
            | returning => cases hmode
            | panicking ch =>
              simp only [ModeR] at hmode
              cases ch with
              | nil => cases hmode
              | cons a ch =>
                obtain ⟨pe, chain', e, ⟨hv, hrec, hgo⟩, hold⟩ := hmode
                injection e with e1 e2
                subst e1
                obtain ⟨av, ar⟩ := a
                simp only at hrec
                subst hrec
                exact hnp _ _ rfl
          · rfl
      · trivial
    | round l f tm nt assign body =>
      have hd' : ∀ c, o.op ≠ .defer c := by
        rcases hd with ⟨d, e⟩ | hd
        · cases e
        · exact hd
      obtain ⟨b, rct, hl, rfl, hsz, hnt, htm⟩ := hn
      refine ResS.steps (.one (st_round ho hw (.inr hd') hrun)) ?_
      show ResS P E B w0 cs0 f0 _ (.next _)
      refine ⟨_, .refl P _, ρ', nx', Frame.round b f rct assign body .normal, opF fn ct ops i rest ck ds kind ro :: ccs, w', rfl, H', hG', Nat.le_refl _, ⟨⟨rfl, hsz, hnt, trivial, ⟨b, hl, rfl⟩, rfl, trivial⟩, ?_⟩, ⟨_, ccs, lo, rfl, by omega, by rw [hm]; rfl, F', hF'⟩, hb⟩
      · exact ⟨All2.cons rfl (All2.cons trivial (All2.cons rfl rfl)), htm⟩
    | panic v => cases hn
end
end Go.Abs
namespace Go.Abs
noncomputable section
variable {P : Program} {E : Env} {B : Nat} {w0 : World} {ρ ρ' : Rho} {h h' : Heap} {nx nx' : Nat} {w w' : World} {cs0 : List Frame} {f0 : FuncId}
/-- what is told of known calls holds wherever the old blocks are as they were -/
structure KnownOk (P : Program) (E : Env) (B : Nat) (w0 : World) : Prop where
  body : ∀ f as v, (as, v) ∈ E.known f → ∃ fn c, P.funcs[f]? = some fn ∧ fn.body = some c
  run : ∀ f as v, (as, v) ∈ E.known f → ∀ (w : World), B ≤ w.heap.size → (∀ b, b < B → w.heap[b]? = w0.heap[b]?) → ∀ (ρ : Rho) (cargs : Array Value), VRs ρ as cargs.toList →
    Calls P f cargs w (fun e w' => ∃ cv, e = .returned cv ∧ VR ρ v cv ∧ WS w w' ∧ w.heap.size ≤ w'.heap.size ∧ ∀ b, b < w.heap.size → w'.heap[b]? = w.heap[b]?)
theorem HR.grow (H : HR B w0 ρ h nx w) (hws : WS w w') (hs : w.heap.size ≤ w'.heap.size) (hh : ∀ b, b < w.heap.size → w'.heap[b]? = w.heap[b]?) : HR B w0 ρ h nx w' := by
  refine ⟨fun nm a b hg hb => ?_, H.inj, H.own, H.new, fun b hb => ?_, Nat.le_trans H.size hs, fun nm b hb => Nat.lt_of_lt_of_le (H.blk nm b hb) hs, fun b k hb => Nat.lt_of_lt_of_le (H.capb b k hb) hs, fun nm c cnt es e wh ro b k arr fz hg hb hk ho => ?_, H.ws.trans hws, H.sh⟩
  · obtain ⟨o, h1, h2⟩ := H.obj nm a b hg hb
    exact ⟨o, by rw [hh b (H.blk nm b hb)]; exact h1, h2⟩
  · rw [hh b (Nat.lt_of_lt_of_le hb H.size)]; exact H.old b hb
  · rw [hh b (H.blk nm b hb)] at ho
    exact H.cap nm c cnt es e wh ro b k arr fz hg hb hk ho
/-- an operation has given a value -/
def ValStep (P : Program) (B : Nat) (w0 : World) (ρ : Rho) (h : Heap) (nx : Nat) (fr : Frame) (cs : List Frame) (w : World) (v : AV) (h' : Heap) (nx' : Nat) : Prop :=
  ∃ ρ' cv w', Steps P (lone fr cs w) (lone (fr.finish cv) cs w') ∧ ρ.le ρ' ∧ Keeps ρ ρ' h h' ∧ nx ≤ nx' ∧ HR B w0 ρ' h' nx' w' ∧ VR ρ' v cv
section
variable {fn : FuncId} {ct : Array Value} {ops : Array Oper} {i : Nat} {rest : List Nat} {ck : List Item} {ds : List Deferred} {kind : CallKind} {ro : Option Nat} {cs : List Frame} {o : Oper} {tm : Tm}
theorem val_post (ho : ops[i]? = some o) (hw : Region.wanted o (yielded ops ct) = true) {v : AV} (hp : Post P B w0 ρ h nx w (execOp (opF fn ct ops i rest ck ds kind ro).eval o) (.val v) h' nx') :
    ValStep P B w0 ρ h nx (opF fn ct ops i rest ck ds kind ro) cs w v h' nx' := by
  obtain ⟨ρ', hle, hkp, hnx, hres⟩ := hp
  have hd : ∀ c, o.op ≠ .defer c := by
    intro c hop
    obtain ⟨d, e⟩ := defer_only hop hres
    cases e
  generalize hrun : (execOp (opF fn ct ops i rest ck ds kind ro).eval o).run P w = r at hres
  cases r with
  | halt hh w' =>
    cases hh <;> try (exact absurd hres id)
    obtain ⟨⟨v, e, hv⟩, H'⟩ := hres
    cases e
  | ok c w' =>
    obtain ⟨hn, H'⟩ := hres
    rcases hn with ⟨cv, rfl, hv⟩ | ⟨rfl, rfl⟩
    · exact ⟨ρ', cv, w', .one (st_value ho hw (.inr hd) hrun), hle, hkp, hnx, H', hv⟩
    · exact ⟨ρ', undef, w', .one (st_skipN ho hw (.inr hd) hrun), hle, hkp, hnx, H', VR_undef⟩
theorem val_known (hE : EOk2 P E) (hK : KnownOk P E B w0) (H : HR B w0 ρ h nx w) (ho : ops[i]? = some o) (hw : Region.wanted o (yielded ops ct) = true) {n : ANext} (hq : KnownQ E ρ h nx (opF fn ct ops i rest ck ds kind ro).eval o n h' nx') :
    ∃ v, n = .val v ∧ ValStep P B w0 ρ h nx (opF fn ct ops i rest ck ds kind ro) cs w v h' nx' := by
  obtain ⟨f, cargs, ats, as, v, hop, hmem, has, rfl, rfl, rfl⟩ := hq
  refine ⟨v, rfl, ?_⟩
  obtain ⟨fn', c, hf, hb⟩ := hK.body f as v hmem
  have hrun : (execOp (opF fn ct ops i rest ck ds kind ro).eval o).run P w = .ok (.enter f (cargs.map (opF fn ct ops i rest ck ds kind ro).eval)) w := by
    unfold execOp
    rw [hop]
    simp only [resolve, Frame.eval, Deferred.ofValue, Sem.run_bind, Sem.run_pure, Result.andThen_ok, invoke, Array.append_empty, Array.empty_append, callFunc, run_program, hf, hE.count f fn' hf, Bool.false_eq_true, if_false, hb, Option.isNone_some]
  have hd : ∀ c, o.op ≠ .defer c := fun c e => by rw [hop] at e; cases e
  obtain ⟨e, w', fr, ⟨cv, rfl, hv, hws, hs, hh⟩, hcomes, _, hleave⟩ := hK.run f as v hmem w H.size H.old ρ _ has (opF fn ct ops i rest ck ds kind ro :: cs)
  refine ⟨ρ, cv, w', ?_, Rho.le_refl ρ, Keeps.refl _ _, Nat.le_refl _, H.grow hws hs hh, hv⟩
  exact Steps.head (st_enter ho hw (.inr hd) hrun) (Steps.trans hcomes (.one (step_leave_returned hleave)))
/-- an operation of the chain at a frame's head -/
theorem chain_step (hE : EOk2 P E) (hK : KnownOk P E B w0) (hG : GlobR E ρ) (H : HR B w0 ρ h nx w) {q : CHOp} (hc : compG P E o = .c q) (ht : ∀ t, t < 512 → t ∈ inputsOf ops o → VR ρ (Tm.at (slotOf t) tm) (ct.getD t undef)) (hs : ct.size ≤ 512)
    (ho : ops[i]? = some o) (hwa : wantedA o ops tm = true) {c0 : Nat} {K : ANext → Heap → Nat → SRes} :
    Leads (chainK P E tm h nx (.fail c0) K q) K (fun n h' nx' => (∃ v, n = .val v ∧ ValStep P B w0 ρ h nx (opF fn ct ops i rest ck ds kind ro) cs w v h' nx') ∨ ((∀ v, n ≠ .val v) ∧ Post P B w0 ρ h nx w (execOp (opF fn ct ops i rest ck ds kind ro).eval o) n h' nx')) := by
  have hw := wanted_ok hs ht
  rw [hwa] at hw
  have hcc := compG_some hc (by intro e; cases e)
  refine (chain_ok (w := w) (ev := (opF fn ct ops i rest ck ds kind ro).eval) hE H hcc.1 (sees_all (ops := ops) hc (by intro e; cases e) hG ht (fun _ => rfl) (fun _ => rfl) (fun _ => rfl) (fun _ => rfl)) (c0 := c0) (K := K)).mono fun n h' nx' hq => ?_
  rcases hq with hq | hq
  · by_cases hv : ∃ v, n = .val v
    · obtain ⟨v, rfl⟩ := hv
      exact .inl ⟨v, rfl, val_post ho hw hq⟩
    · exact .inr ⟨fun v e => hv ⟨v, e⟩, hq⟩
  · exact .inl (val_known hE hK H ho hw hq)
end
/-- a running frame's part that stays, and the frames below -/
structure CtxR (P : Program) (E : Env) (ρ : Rho) (h : Heap) (lo nx : Nat) (f0 : FuncId) (c : Ctx) (fn : FuncId) (ds : List Deferred) (kind : CallKind) (ro : Option Nat) (ccs : List Frame) : Prop where
  fn : fn = c.fi.fn
  nt : c.fi.nt ≤ 512
  kind : KindR c.fi.kind kind
  ro : RoR ρ c.fi.ro ro
  dfs : All2 (DefR ρ) c.dfs ds
  le : lo ≤ nx
  frs : FrsR P E ρ h lo c.fi.kind c.cs ccs
  bot : ∀ fr : AFrame, fr.fi = c.fi → botFn fr c.cs = f0
theorem CtxR.mono {lo : Nat} {c : Ctx} {fn : FuncId} {ds : List Deferred} {kind : CallKind} {ro : Option Nat} {ccs : List Frame} (C : CtxR P E ρ h lo nx f0 c fn ds kind ro ccs) (hr : ρ.le ρ') (hk : KeepsTo lo ρ ρ' h h') (hn : nx ≤ nx') : CtxR P E ρ' h' lo nx' f0 c fn ds kind ro ccs :=
  ⟨C.fn, C.nt, C.kind, C.ro.mono hr, C.dfs.mono fun _ _ => DefR.mono hr, Nat.le_trans C.le hn, C.frs.mono hr hk (Nat.le_refl _), C.bot⟩
theorem CtxR.frame {lo : Nat} {c : Ctx} {fn : FuncId} {ds : List Deferred} {kind : CallKind} {ro : Option Nat} {ccs : List Frame} (C : CtxR P E ρ h lo nx f0 c fn ds kind ro ccs) {ct : Array Value} (hs : ct.size = c.fi.nt) {top : Bool} {todo : List AItem} {ctodo : List Item} {tm : Tm}
    (ht : TodoR P E ρ h lo nx top todo tm ctodo ct) : FrR P E ρ h lo nx top ⟨c.fi, tm, todo, c.dfs, .run⟩ (runF fn ct ctodo ds kind ro) :=
  ⟨⟨C.fn, hs, C.nt, C.kind, C.ro, C.dfs, trivial⟩, ht⟩
theorem plain_not_drawn {k : List AItem} {ck : List Item} (hk : All2 (PlainR ρ) k ck) : isDrawn k = false := by
  cases k with
  | nil => rfl
  | cons x k =>
    obtain ⟨i, ck', rfl, h1, _⟩ := hk
    cases x <;> first | rfl | (cases i <;> cases h1)
theorem CtxR.go {lo : Nat} {c : Ctx} {fn : FuncId} {ds : List Deferred} {kind : CallKind} {ro : Option Nat} {ccs : List Frame} (C : CtxR P E ρ h lo nx f0 c fn ds kind ro ccs) (H : HR B w0 ρ h nx w) (hG : GlobR E ρ) {ct : Array Value} (hs : ct.size = c.fi.nt) {k : List AItem} {ck : List Item} {tm : Tm}
    (hk : TodoR P E ρ h lo nx true k tm ck ct) : ResS P E B w0 cs0 f0 (lone (runF fn ct ck ds kind ro) (ccs ++ cs0) w) (goK c h nx tm k) := by
  rw [goK_eq]
  exact ⟨_, .refl P _, ρ, lo, _, ccs, w, rfl, H, hG, C.le, C.frame hs hk, C.frs, C.bot _ rfl⟩
theorem TmR.ready {tm : Tm} {ct : Array Value} (ht : TmR ρ tm ct) (ops : Array Oper) (o : Oper) : ∀ t, t < 512 → t ∈ inputsOf ops o → VR ρ (Tm.at (slotOf t) tm) (ct.getD t undef) := fun t h1 _ => ht t h1
theorem HR.capnone (H : HR B w0 ρ h nx w) : ρ.cap w.heap.size = none := by
  cases hcc : ρ.cap w.heap.size with
  | none => rfl
  | some x => have := H.capb _ _ hcc; omega
theorem keeps_ext (H : HR B w0 ρ h nx w) (ob : AObj) (b : Nat) (k : Option Nat) : Keeps ρ (ρ.ext nx b k) h (h.set (pathOf nx) (some ob)) := by
  intro n x h1 h2
  have := H.ltg h1
  refine ⟨?_, ?_⟩
  · show (if n = nx then some b else ρ n) = none
    rw [if_neg (by omega)]; exact h2
  · rw [T.get_set, if_neg (by omega)]; exact h1
/-- an ordered region -/
theorem rgK_ok (hE : EOk2 P E) (hK : KnownOk P E B w0) {ops : Array Oper} {k : List AItem} {c : Ctx} {fn : FuncId} {ds : List Deferred} {kind : CallKind} {ro : Option Nat} {ccs : List Frame} {lo : Nat} {ck : List Item} :
    ∀ {rest : List Oper} {is : List Nat} {ρ : Rho} {h : Heap} {nx : Nat} {w : World} {tm : Tm} {ct : Array Value}, All2 (fun o i => ops[i]? = some o) rest is → CtxR P E ρ h lo nx f0 c fn ds kind ro ccs → HR B w0 ρ h nx w → GlobR E ρ → TmR ρ tm ct → ct.size = c.fi.nt → All2 (PlainR ρ) k ck →
      ResS P E B w0 cs0 f0 (lone (runF fn ct (.inRegion ops is :: ck) ds kind ro) (ccs ++ cs0) w) (rgK P E c.fi.nt ops k c rest h nx tm) := by
  intro rest
  induction rest with
  | nil =>
    intro is ρ h nx w tm ct ha C H hG ht hs hk
    have : is = [] := ha
    subst this
    rw [rgK_nil]
    exact ResS.steps (.one st_regionEnd) (C.go H hG hs ((TodoR.plain (plain_not_drawn hk)).2 ⟨hk, ht⟩))
  | cons o rest ih =>
    intro is ρ h nx w tm ct ha C H hG ht hs hk
    obtain ⟨i, is', rfl, ho, ha'⟩ := ha
    have hs5 : ct.size ≤ 512 := by rw [hs]; exact C.nt
    rw [rgK_cons]
    have hwant := wanted_ok hs5 (ht.ready ops o)
    have sees : ∀ {q : COp}, compG P E o = q → q ≠ .bad → ∀ x ∈ o.op.operands.toList, Sees ρ tm (opF fn ct ops i is' ck ds kind ro).eval x := fun hc hb =>
      sees_all (ops := ops) hc hb hG (ht.ready ops o) (fun _ => rfl) (fun _ => rfl) (fun _ => rfl) (fun _ => rfl)
    have next : ∀ {ρ' : Rho} {h' : Heap} {nx' : Nat} {w' : World} {tm' : Tm} {v : AV} {cv : Value}, Steps P (lone (opF fn ct ops i is' ck ds kind ro) (ccs ++ cs0) w) (lone ((opF fn ct ops i is' ck ds kind ro).finish cv) (ccs ++ cs0) w') → ρ.le ρ' → KeepsTo lo ρ ρ' h h' → nx ≤ nx' →
        HR B w0 ρ' h' nx' w' → VR ρ' v cv → Put c.fi.nt o.dst v tm tm' → ResS P E B w0 cs0 f0 (lone (opF fn ct ops i is' ck ds kind ro) (ccs ++ cs0) w) (rgK P E c.fi.nt ops k c rest h' nx' tm') := by
      intro ρ' h' nx' w' tm' v cv hst hle hkp hnx H' hv hp
      refine ResS.steps hst ?_
      rw [finish_op ho]
      exact ih ha' (C.mono hle hkp hnx) H' (hG.mono hle) (hp.tmR hv (ht.mono hle) hs C.nt) (by rw [putC_size]; exact hs) (hk.mono fun _ _ => PlainR.mono hle)
    rcases actOf_ok (P := P) (E := E) c.fi.nt ops o rest k c (rgK P E c.fi.nt ops k c rest) h nx tm with h1 | ⟨hwa, tm', hp, e⟩ | ⟨hwa, h1⟩
    · exact ResS.fail h1
    · rw [e]
      exact next (v := undefA) (.one (st_skipped ho (by rw [hwant]; exact hwa))) (Rho.le_refl ρ) (KeepsTo.refl _ _ _) (Nat.le_refl _) H VR_undef hp
    · have hwant' := hwant
      rw [hwa] at hwant'
      rcases h1 with ⟨q, v, tm', hq, hv, hp, e⟩ | ⟨q, v, tm', hq, hv, hp, e⟩ | ⟨q, v, ob, tm', hq, hv, hp, e⟩ | ⟨q, c0, hq, e⟩ | e
      · rw [e]
        have hc := compG_some hq (by intro e; cases e)
        obtain ⟨cv, hr, hcv⟩ := pure_ok (w := w) hE.toEOk hc.1 (sees hq (by intro e; cases e)) hv
        exact next (.one (st_value ho hwant' (.inr (not_defer hc.1 (fun q e => by cases e) (by intro e; cases e))) hr)) (Rho.le_refl ρ) (KeepsTo.refl _ _ _) (Nat.le_refl _) H hcv hp
      · rw [e]
        have hc := compG_some hq (by intro e; cases e)
        obtain ⟨cv, hr, hcv⟩ := read_ok hE.toEOk H hc.1 (sees hq (by intro e; cases e)) hv
        exact next (.one (st_value ho hwant' (.inr (not_defer hc.1 (fun q e => by cases e) (by intro e; cases e))) hr)) (Rho.le_refl ρ) (KeepsTo.refl _ _ _) (Nat.le_refl _) H hcv hp
      · rw [e]
        have hc := compG_some hq (by intro e; cases e)
        have hn := (H.new nx (Nat.le_refl _)).2
        obtain ⟨cv, w', obj, kk, hr, hh, hcv, hob, hkk⟩ := alloc_ok hn H.capnone hc.1 (sees hq (by intro e; cases e)) hv
        have H1 := H.reserve ob
        obtain ⟨hle, H2⟩ := H1.mat (nm := nx) (k := kk) (w' := w') (by rw [T.get_set, if_pos rfl]) hn hh hob hkk
        exact next (.one (st_value ho hwant' (.inr (not_defer hc.1 (fun q e => by cases e) (by intro e; cases e))) hr)) hle ((keeps_ext H ob _ _).to lo) (Nat.le_succ _) H2 hcv hp
      · rw [e]
        rcases chain_step (cs := ccs ++ cs0) (fn := fn) (rest := is') (ck := ck) (ds := ds) (kind := kind) (ro := ro) hE hK hG H hq (ht.ready ops o) hs5 ho hwa (c0 := c0) (K := opV P c (dstOf c.fi.nt o.dst) tm (.rg ops (o :: rest) :: k) (rgK P E c.fi.nt ops k c rest)) with h1 | ⟨n, h', nx', e1, h1⟩
        · exact ResS.fail h1
        · rw [e1]
          rcases h1 with ⟨v, rfl, ρ', cv, w', hst, hle, hkp, hnx, H', hv⟩ | ⟨hnv, hpost⟩
          · simp only [opV, AV.force_eq]
            rcases putD_cases c.fi.nt o.dst v tm (rgK P E c.fi.nt ops k c rest h' nx') with h3 | ⟨tm', h3, h4⟩
            · exact ResS.fail h3
            · rw [h4]
              exact next hst hle (hkp.to lo) hnx H' hv h3
          · have e2 : opV P c (dstOf c.fi.nt o.dst) tm (.rg ops (o :: rest) :: k) (rgK P E c.fi.nt ops k c rest) n h' nx' = apply P ⟨c.fi, tm, .rg ops (o :: rest) :: k, c.dfs, .run⟩ c.cs n h' nx' := by
              obtain ⟨fi, dfs, cs⟩ := c
              cases n with
              | val v => exact absurd rfl (hnv v)
              | _ => rfl
            rw [e2]
            have pr : PlainR ρ (.rg ops (o :: rest)) (.inRegion ops (i :: is')) := ⟨rfl, All2.cons ho ha'⟩
            have tr : TodoR P E ρ h lo nx false (.rg ops (o :: rest) :: k) tm (.inRegion ops (i :: is') :: ck) ct := ⟨All2.cons pr hk, ht⟩
            exact apply_ok hG C.le rfl (C.frame hs tr) ho hwant' C.frs (C.bot _ rfl) hpost
      · rw [e]
        have pr : PlainR ρ (.rg ops (o :: rest)) (.inRegion ops (i :: is')) := ⟨rfl, All2.cons ho ha'⟩
        exact C.go H hG hs ((TodoR.plain rfl).2 ⟨All2.cons pr hk, ht⟩)
end
end Go.Abs
namespace Go.Abs
noncomputable section
variable {P : Program} {E : Env} {B : Nat} {w0 : World} {ρ ρ' : Rho} {h h' : Heap} {nx nx' : Nat} {w w' : World} {cs0 : List Frame} {f0 : FuncId}
/-- a read stays as it is where no block is lost or changed -/
theorem readX_more {tm : Tm} {q : ROp} {v : AV} (hh : ∀ n ob, h.get n = some ob → h'.get n = some ob) (hv : readX P E tm h q = some v) : readX P E tm h' q = some v := by
  have ent : ∀ {m : AV} {es : List AEntry}, entriesA h m = some es → entriesA h' m = some es := by
    intro m es he
    unfold entriesA at he ⊢
    split at he
    · exact he
    · split at he
      · rename_i hg
        rw [hh _ _ hg]; exact he
      · cases he
    · cases he
  cases q with
  | ld1 x =>
    simp only [readX] at hv ⊢
    unfold ld1A at hv ⊢
    split at hv
    · rename_i nm off hx
      cases hg : h.get nm with
      | none => rw [hg] at hv; cases hv
      | some ob => rw [hh _ _ hg, ← hg]; exact hv
    · cases hv
  | ldn n x =>
    simp only [readX] at hv ⊢
    unfold ldnA at hv ⊢
    split at hv
    · rename_i nm off hx
      cases hg : h.get nm with
      | none => rw [hg] at hv; cases hv
      | some ob => rw [hh _ _ hg, ← hg]; exact hv
    · cases hv
  | lkp kt ok z m k =>
    simp only [readX] at hv ⊢
    unfold lkpA at hv ⊢
    split at hv
    · rename_i es he
      rw [ent he]; exact hv
    · cases hv
  | b2s x =>
    simp only [readX] at hv ⊢
    unfold b2sA at hv ⊢
    split at hv
    · exact hv
    · rename_i nm off len cap hx
      cases hg : h.get nm with
      | none => rw [hg] at hv; cases hv
      | some ob => rw [hh _ _ hg, ← hg]; exact hv
    · cases hv
  | p2u x =>
    simp only [readX] at hv ⊢
    unfold p2uA at hv ⊢
    split at hv
    · rename_i nm off hx
      cases hg : h.get nm with
      | none => rw [hg] at hv; cases hv
      | some ob => rw [hh _ _ hg, ← hg]; exact hv
    · exact hv
    · cases hv
  | u2p u x =>
    simp only [readX] at hv ⊢
    unfold u2pA at hv ⊢
    split at hv
    · rename_i nm off hx
      cases hg : h.get nm with
      | none => rw [hg] at hv; cases hv
      | some ob => rw [hh _ _ hg, ← hg]; exact hv
    · exact hv
    · cases hv
  | lenm x =>
    simp only [readX] at hv ⊢
    unfold lenmA at hv ⊢
    split at hv
    · rename_i es he
      rw [ent he]; exact hv
    · cases hv
theorem wantedA_congr {o : Oper} {ops : Array Oper} {tm tm' : Tm} (ht : ∀ t, t < 512 → t ∈ inputsOf ops o → Tm.at (slotOf t) tm = Tm.at (slotOf t) tm') : wantedA o ops tm = wantedA o ops tm' := by
  unfold wantedA
  cases hg : o.guard with
  | none => rfl
  | some jw =>
    obtain ⟨j, want⟩ := jw
    simp only
    cases hd : gdst ops j with
    | none => rfl
    | some d =>
      simp only
      split
      · rename_i hle
        rw [ht d (Nat.le_of_ble_eq_true hle) (by unfold inputsOf; rw [hg]; simp [hd])]
      · rfl
theorem stillPend_mem {o : Oper} {y : Nat × Oper} (hd : depOn o y.1 = false) : ∀ {l : List (Nat × Oper)}, y ∈ l → y ∈ stillPend o l
  | [], h => by cases h
  | x :: l, h => by
    unfold stillPend
    cases h with
    | head =>
      rw [hd]
      exact List.mem_cons_self
    | tail _ h =>
      split
      · exact stillPend_mem hd h
      · exact List.mem_cons_of_mem _ (stillPend_mem hd h)
theorem revalid_mem {ops : Array Oper} {tm : Tm} : ∀ {l : List (Nat × Oper)}, revalid P E ops tm h l = true → ∀ x ∈ l, revalid1 P E ops tm h x.2 = true
  | [], _, x, hx => by cases hx
  | y :: l, hr, x, hx => by
    unfold revalid at hr
    split at hr
    · rename_i h1
      cases hx with
      | head => exact h1
      | tail _ hx => exact revalid_mem hr x hx
    · cases hr
section
variable {lo : Nat} {ops : Array Oper} {p0 A plan pend pend' : List (Nat × Oper)} {L0 C L R : List Nat} {N N' : Nat → Option Nat} {tm tm' : Tm} {ct : Array Value}
/-- an operation is put off -/
theorem DrawnR.add {x : Nat × Oper} (D : DrawnR P E ρ h lo nx true ops p0 A (x :: plan) pend L0 C L N tm ct) {nt : Nat} {v : AV} (hp : Put nt x.2.dst v tm tm') (hs : ct.size = nt) (hch : isChain P E x.2 = false) (hN : ∀ y ∈ A, y.1 ∈ L → N' y.1 = N y.1)
    (inj : ∀ i j nm, N' i = some nm → N' j = some nm → i = j) (bnd : ∀ i nm, N' i = some nm → lo ≤ nm ∧ nm < nx') (hpd : ∀ y ∈ pend, y ∈ pend') (hget : ∀ nm ob, h.get nm = some ob → h'.get nm = some ob) (hv : PendV P E ρ h' pend' true N' ops x tm v) :
    DrawnR P E ρ h' lo nx' true ops p0 (A ++ [x]) plan pend' L0 C L N' tm' ct := by
  have hnP := D.reg.ndP
  rw [D.hp, List.map_append, List.map_cons] at hnP
  refine ⟨D.reg, by rw [D.hp]; simp, D.hL, fun j hj => ?_, fun t ht hy => ?_, inj, bnd, fun y hy hyL => ?_, fun y hy d hd => ?_⟩
  · rw [List.map_append, List.mem_append]; exact .inl (D.sub j hj)
  · have hxL : x.1 ∈ L := by
      have hx0 : x ∈ p0 := by rw [D.hp]; simp
      have h1 : x.1 ∈ L0 := (D.reg.memL _).2 (Array.getElem?_eq_some_iff.1 (D.reg.opP x hx0)).1
      rw [D.hL] at h1
      rcases List.mem_append.1 h1 with h1 | h1
      · exact absurd (D.sub _ h1) (fun h2 => nodup_app hnP h2 (by simp))
      · exact h1
    rw [hp.at ht, if_neg (hy x (by simp) hxL)]
    exact D.slots t ht fun y hyA hyL => hy y (List.mem_append_left _ hyA) hyL
  · rcases List.mem_append.1 hy with hyA | hyx
    · obtain ⟨g1, tm0, v0, g2, g3, g4⟩ := D.pend y hyA hyL
      have hap := (D.apart (fun e => by rw [hch] at e; cases e) hyA hyL).2
      refine ⟨g1, tm0, v0, fun t ht hin => ?_, fun d hd hdd => ?_, ?_⟩
      · rw [hp.at ht, if_neg]
        · exact g2 t ht hin
        · intro e
          exact hap t e (by unfold namesOf; unfold inputsOf at hin; exact List.mem_append_right _ hin)
      · rw [hp.at hd, if_neg]
        · exact g3 d hd hdd
        · intro e
          exact hap d e (by unfold namesOf; rw [hdd]; simp)
      · rcases g4 with g4 | ⟨gw, g4⟩
        · exact .inl g4
        · refine .inr ⟨gw, ?_⟩
          rcases g4 with g4 | ⟨q, k1, k2, k3⟩ | ⟨q, nm, ob, k1, k2, k3, k4, k5⟩
          · exact .inl g4
          · exact .inr (.inl ⟨q, k1, hpd y k2, fun e => readX_more hget (k3 e)⟩)
          · exact .inr (.inr ⟨q, nm, ob, k1, by rw [hN y hyA hyL]; exact k2, k3, hget _ _ k4, k5⟩)
    · simp only [List.mem_singleton] at hyx
      subst hyx
      refine ⟨hch, tm, v, fun t ht hin => ?_, fun d hd hdd => ?_, hv⟩
      · rw [hp.at ht, if_neg]
        intro e
        exact D.reg.own y (by rw [D.hp]; simp) hch t e hin
      · rw [hp.at hd, if_pos hdd]
  · rcases List.mem_append.1 hy with hy | hy
    · exact D.dst y hy d hd
    · simp only [List.mem_singleton] at hy
      subst hy
      rw [hd] at hp
      rw [hs]; exact hp.1
/-- what stands before an operation of the chain that is next in the plan is done or put off -/
theorem DrawnR.ahead {fresh : Bool} {x : Nat × Oper} {M : List Nat} (D : DrawnR P E ρ h lo nx fresh ops p0 A (x :: plan) pend L0 C (M ++ x.1 :: R) N tm ct) (hch : isChain P E x.2 = true) : ∀ i ∈ M, i ∈ A.map (·.1) := by
  intro i hi
  have hnL := D.reg.ndL
  rw [D.hL] at hnL
  have hi0 : i < ops.size := (D.reg.memL i).1 (by rw [D.hL]; simp [hi])
  obtain ⟨y, hy, rfl⟩ := List.mem_map.1 (D.reg.memP i hi0)
  rw [D.hp] at hy
  rcases List.mem_append.1 hy with hy | hy
  · exact List.mem_map.2 ⟨y, hy, rfl⟩
  · exfalso
    have hne : y.1 ≠ x.1 := by
      intro e
      have h1 := (List.nodup_append.1 hnL).2.1
      rw [e] at hi
      exact nodup_app h1 hi (by simp)
    rcases List.mem_cons.1 hy with rfl | hyp
    · exact hne rfl
    · obtain ⟨M1, M2, e⟩ := List.append_of_mem hi
      have := D.reg.chain A x plan D.hp hch y hyp (C ++ M1) (M2 ++ x.1 :: R) (by rw [D.hL, e]; simp)
      rw [e] at hnL
      rw [show C ++ ((M1 ++ y.1 :: M2) ++ x.1 :: R) = (C ++ M1) ++ (y.1 :: M2 ++ x.1 :: R) by simp] at hnL
      exact nodup_app hnL this (by simp)
/-- at an operation of the chain -/
theorem DrawnR.atOp {x : Nat × Oper} (D : DrawnR P E ρ h lo nx true ops p0 A (x :: plan) pend L0 C (x.1 :: R) N tm ct) : DrawnR P E ρ h lo nx false ops p0 A (x :: plan) (stillPend x.2 pend) L0 C (x.1 :: R) N tm ct := by
  have hnL := D.reg.ndL
  rw [D.hL] at hnL
  refine ⟨D.reg, D.hp, D.hL, D.sub, D.slots, D.inj, D.bnd, fun y hy hyL => ?_, D.dst⟩
  obtain ⟨g1, tm0, v0, g2, g3, g4⟩ := D.pend y hy hyL
  refine ⟨g1, tm0, v0, g2, g3, ?_⟩
  rcases g4 with g4 | ⟨gw, g4⟩
  · exact .inl g4
  · refine .inr ⟨gw, ?_⟩
    rcases g4 with g4 | ⟨q, k1, k2, k3⟩ | g4
    · exact .inl g4
    · refine .inr (.inl ⟨q, k1, stillPend_mem ?_ k2, fun e => by cases e⟩)
      cases hd : depOn x.2 y.1 with
      | false => rfl
      | true =>
        exfalso
        have hx0 : x ∈ p0 := by rw [D.hp]; simp
        have := D.reg.closed C x.1 R D.hL y.1 (by simp only [depsAt, D.reg.opP x hx0]; exact (memN_iff _ _).1 hd)
        exact nodup_app hnL this hyL
    · exact .inr (.inr g4)
/-- the reads were looked at again -/
theorem DrawnR.again (D : DrawnR P E ρ h lo nx false ops p0 A plan pend L0 C L N tm ct) (hr : revalid P E ops tm h pend = true) : DrawnR P E ρ h lo nx true ops p0 A plan pend L0 C L N tm ct := by
  refine ⟨D.reg, D.hp, D.hL, D.sub, D.slots, D.inj, D.bnd, fun y hy hyL => ?_, D.dst⟩
  obtain ⟨g1, tm0, v0, g2, g3, g4⟩ := D.pend y hy hyL
  rcases g4 with g4 | ⟨gw, g4⟩
  · exact ⟨g1, tm0, v0, g2, g3, .inl g4⟩
  · rcases g4 with g4 | ⟨q, k1, k2, k3⟩ | g4
    · exact ⟨g1, tm0, v0, g2, g3, .inr ⟨gw, .inl g4⟩⟩
    · have h1 := revalid_mem hr y k2
      have hw : wantedA y.2 ops tm = true := by rw [wantedA_congr g2]; exact gw
      unfold revalid1 at h1
      rw [hw, k1] at h1
      simp only at h1
      cases hv : readX P E tm h q with
      | none => rw [hv] at h1; cases h1
      | some v =>
        rw [hv] at h1
        refine ⟨g1, tm, v, fun _ _ _ => rfl, fun d hd hdd => ?_, .inr ⟨hw, .inr (.inl ⟨q, k1, k2, fun _ => hv⟩)⟩⟩
        unfold sameAt at h1
        rw [hdd] at h1
        exact AV.beq_eq h1
    · exact ⟨g1, tm0, v0, g2, g3, .inr ⟨gw, .inr (.inr g4)⟩⟩
end
section
variable {k : List AItem} {c : Ctx} {fn : FuncId} {ds : List Deferred} {kind : CallKind} {ro : Option Nat} {ccs : List Frame} {lo : Nat} {ck : List Item} {ops : Array Oper} {p0 A plan pend : List (Nat × Oper)} {L0 C L : List Nat} {N : Nat → Option Nat} {tm : Tm} {ct : Array Value}
theorem setC_eq (c : Ctx) (dst : Option Tmp) (v : AV) (tm : Tm) (K : Tm → SRes) : setC c dst v tm K = setTmp c.fi dst v tm K := by
  obtain ⟨fi, dfs, cs⟩ := c
  rfl
/-- the end of a drawn region -/
theorem dr_nil (hE : EOk2 P E) (X : CtxR P E ρ h lo nx f0 c fn ds kind ro ccs) (H : HR B w0 ρ h nx w) (hG : GlobR E ρ) (hs : ct.size = c.fi.nt) (hk : All2 (PlainR ρ) k ck) (D : DrawnR P E ρ h lo nx true ops p0 A [] pend L0 C L N tm ct) :
    ResS P E B w0 cs0 f0 (lone (runF fn ct (.inRegion ops L :: ck) ds kind ro) (ccs ++ cs0) w) (goK c h nx tm k) := by
  have hp : p0 = A := by rw [D.hp]; simp
  have hall : ∀ i ∈ L, i ∈ A.map (·.1) := fun i hi => by
    have := D.reg.memP i ((D.reg.memL i).1 (by rw [D.hL]; simp [hi]))
    rw [hp] at this; exact this
  have D' : DrawnR P E ρ h lo nx true ops p0 A [] pend L0 C (L ++ []) N tm ct := by simpa using D
  obtain ⟨ct1, w1, ρ1, s1, l1, H1, k1, D1, z1⟩ := flush (fn := fn) (ds := ds) (kind := kind) (ro := ro) (cs := ccs ++ cs0) (ck := ck) hE L hG H D' (by rw [hs]; exact X.nt) hall
  rw [List.append_nil] at s1
  refine ResS.steps (s1.trans (.one st_regionEnd)) ?_
  have hk' : All2 (PlainR ρ1) k ck := hk.mono fun _ _ => PlainR.mono l1
  refine (X.mono l1 k1 (Nat.le_refl _)).go H1 (hG.mono l1) (by rw [z1]; exact hs) ((TodoR.plain (plain_not_drawn hk')).2 ⟨hk', fun t ht => D1.slots t ht fun y _ hy => by cases hy⟩)
/-- one step in a drawn region -/
theorem dr_ok (hE : EOk2 P E) (hK : KnownOk P E B w0) (X : CtxR P E ρ h lo nx f0 c fn ds kind ro ccs) (H : HR B w0 ρ h nx w) (hG : GlobR E ρ) (hs : ct.size = c.fi.nt) (hk : All2 (PlainR ρ) k ck) (D : DrawnR P E ρ h lo nx true ops p0 A plan pend L0 C L N tm ct) :
    ResS P E B w0 cs0 f0 (lone (runF fn ct (.inRegion ops L :: ck) ds kind ro) (ccs ++ cs0) w) (stDr P E ops plan pend k c h nx tm) := by
  cases plan with
  | nil => exact dr_nil hE X H hG hs hk D
  | cons x plan =>
    show ResS P E B w0 cs0 f0 _ (drW P E ops x.1 x.2 plan pend k c h nx tm (wantedA x.2 ops tm))
    have hx0 : x ∈ p0 := by rw [D.hp]; simp
    have ho := D.reg.opP x hx0
    have hnP := D.reg.ndP
    rw [D.hp, List.map_append, List.map_cons] at hnP
    have hxA : x.1 ∉ A.map (·.1) := fun h1 => nodup_app hnP h1 (by simp)
    -- put off
    have put : ∀ {h' : Heap} {nx' : Nat} {v : AV} {N' : Nat → Option Nat} {pend' : List (Nat × Oper)}, isChain P E x.2 = false → (∀ y ∈ A, y.1 ∈ L → N' y.1 = N y.1) → (∀ i j nm, N' i = some nm → N' j = some nm → i = j) → (∀ i nm, N' i = some nm → lo ≤ nm ∧ nm < nx') →
        (∀ y ∈ pend, y ∈ pend') → (∀ nm ob, h.get nm = some ob → h'.get nm = some ob) → PendV P E ρ h' pend' true N' ops x tm v → HR B w0 ρ h' nx' w → nx ≤ nx' →
        ResS P E B w0 cs0 f0 (lone (runF fn ct (.inRegion ops L :: ck) ds kind ro) (ccs ++ cs0) w) (setC c x.2.dst v tm fun tm => goK c h' nx' tm (.dr ops plan pend' :: k)) := by
      intro h' nx' v N' pend' hch h1 h2 h3 h4 h5 h6 H' hnx
      rw [setC_eq]
      rcases setTmp_cases c.fi X.nt x.2.dst v tm (fun tm => goK c h' nx' tm (.dr ops plan pend' :: k)) with e | ⟨tm', hp, e⟩
      · exact ResS.fail e
      · rw [e]
        have D' := D.add (nx' := nx') hp hs hch h1 h2 h3 h4 h5 h6
        have tr : TodoR P E ρ h' lo nx' true (.dr ops plan pend' :: k) tm' (.inRegion ops L :: ck) ct := ⟨L, ck, rfl, hk, p0, _, L0, C, N', D'⟩
        exact (X.mono (Rho.le_refl ρ) (fun nm ob _ g1 g2 => ⟨g2, h5 nm ob g1⟩) hnx).go H' hG hs tr
    have same : ∀ nm ob, h.get nm = some ob → h.get nm = some ob := fun _ _ e => e
    cases hch : isChain P E x.2 with
    | false =>
      cases hw : wantedA x.2 ops tm with
      | false => exact put hch (fun _ _ _ => rfl) D.inj D.bnd (fun _ e => e) same (.inl ⟨hw, rfl⟩) H (Nat.le_refl _)
      | true =>
        show ResS P E B w0 cs0 f0 _ (drOp P E ops x.1 x.2 plan pend k c h nx tm (compG P E x.2))
        rcases nochain_cases hch with ⟨q, hq⟩ | ⟨q, hq⟩ | ⟨q, hq⟩
        · rw [hq]
          simp only [drOp]
          cases hv : pureV P E tm q with
          | none => trivial
          | some v => exact put hch (fun _ _ _ => rfl) D.inj D.bnd (fun _ e => e) same (.inr ⟨hw, .inl ⟨q, hq, hv⟩⟩) H (Nat.le_refl _)
        · rw [hq]
          simp only [drOp]
          cases hv : readX P E tm h q with
          | none => trivial
          | some v => exact put hch (fun _ _ _ => rfl) D.inj D.bnd (fun _ e => List.mem_cons_of_mem _ e) same (.inr ⟨hw, .inr (.inl ⟨q, hq, List.mem_cons_self, fun _ => hv⟩)⟩) H (Nat.le_refl _)
        · rw [hq]
          simp only [drOp]
          unfold opL
          rw [allocK_eq]
          cases hv : allocV tm nx q with
          | none => trivial
          | some vo =>
            obtain ⟨v, ob⟩ := vo
            simp only [putAt, T.setK_eq]
            have hn := (H.new nx (Nat.le_refl _))
            have get : ∀ nm ob', h.get nm = some ob' → (h.set (pathOf nx) (some ob)).get nm = some ob' := fun nm ob' hg => by
              rw [T.get_set, if_neg]
              · exact hg
              · have := H.ltg hg; omega
            refine put (N' := fun i => if i = x.1 then some nx else if i ∈ A.map (·.1) then N i else none) hch (fun y hy _ => ?_) (fun i j nm h1 h2 => ?_) (fun i nm h1 => ?_) (fun _ e => e) get (.inr ⟨hw, .inr (.inr ⟨q, nx, ob, hq, by simp, hv, by rw [T.get_set, if_pos rfl], hn.2⟩)⟩) (H.reserve ob) (Nat.le_succ _)
            · have hyA : y.1 ∈ A.map (·.1) := List.mem_map.2 ⟨y, hy, rfl⟩
              have hne : y.1 ≠ x.1 := fun e => hxA (by rw [← e]; exact hyA)
              show (if y.1 = x.1 then some nx else if y.1 ∈ A.map (·.1) then N y.1 else none) = N y.1
              rw [if_neg hne, if_pos hyA]
            · try simp only at h1 h2
              by_cases e1 : i = x.1
              · by_cases e2 : j = x.1
                · rw [e1, e2]
                · rw [if_pos e1] at h1; rw [if_neg e2] at h2
                  injection h1 with h1
                  split at h2
                  · have := D.bnd _ _ h2; omega
                  · cases h2
              · rw [if_neg e1] at h1
                by_cases e2 : j = x.1
                · rw [if_pos e2] at h2
                  injection h2 with h2
                  split at h1
                  · have := D.bnd _ _ h1; omega
                  · cases h1
                · rw [if_neg e2] at h2
                  split at h1
                  · split at h2
                    · exact D.inj _ _ _ h1 h2
                    · cases h2
                  · cases h1
            · try simp only at h1
              have := X.le
              split at h1
              · injection h1 with h1; omega
              · split at h1
                · have := D.bnd _ _ h1; omega
                · cases h1
    | true =>
      -- what stands before it is done
      have hxL : x.1 ∈ L := by
        have h1 : x.1 ∈ L0 := (D.reg.memL _).2 (Array.getElem?_eq_some_iff.1 ho).1
        rw [D.hL] at h1
        rcases List.mem_append.1 h1 with h1 | h1
        · exact absurd (D.sub _ h1) hxA
        · exact h1
      obtain ⟨M, R, rfl⟩ := List.append_of_mem hxL
      obtain ⟨ct1, w1, ρ1, s1, l1, H1, k1, D1, z1⟩ := flush (fn := fn) (ds := ds) (kind := kind) (ro := ro) (cs := ccs ++ cs0) (ck := ck) hE M hG H D (by rw [hs]; exact X.nt) (D.ahead hch)
      refine ResS.steps s1 ?_
      have X1 := X.mono l1 k1 (Nat.le_refl nx)
      have hG1 := hG.mono l1
      have hs1 : ct1.size = c.fi.nt := by rw [z1]; exact hs
      have hs5 : ct1.size ≤ 512 := by rw [hs1]; exact X.nt
      have hk1 : All2 (PlainR ρ1) k ck := hk.mono fun _ _ => PlainR.mono l1
      have hrd := D1.ready rfl hx0 (fun d _ hin => absurd hin hxA)
      have hwant := wanted_ok hs5 hrd
      cases hw : wantedA x.2 ops tm with
      | false =>
        show ResS P E B w0 cs0 f0 _ (setC c x.2.dst undefA tm fun tm => goK c h nx tm (.dr ops plan pend :: k))
        rw [setC_eq]
        rcases setTmp_cases c.fi X.nt x.2.dst undefA tm (fun tm => goK c h nx tm (.dr ops plan pend :: k)) with e | ⟨tm', hp, e⟩
        · exact ResS.fail e
        · rw [e]
          refine ResS.steps (.one (st_skipped ho (by rw [hwant]; exact hw))) ?_
          rw [finish_op ho]
          have D2 := D1.chain_done (i := x.1) (o := x.2) hp VR_undef hs1 X.nt
          have tr : TodoR P E ρ1 h lo nx true (.dr ops plan pend :: k) tm' (.inRegion ops R :: ck) (putC x.2.dst undef ct1) := ⟨R, ck, rfl, hk1, p0, _, L0, _, N, D2⟩
          exact X1.go H1 hG1 (by rw [putC_size]; exact hs1) tr
      | true =>
        show ResS P E B w0 cs0 f0 _ (drOp P E ops x.1 x.2 plan pend k c h nx tm (compG P E x.2))
        cases hq : compG P E x.2 with
        | p q => unfold isChain at hch; rw [hq] at hch; cases hch
        | r q => unfold isChain at hch; rw [hq] at hch; cases hch
        | l q => unfold isChain at hch; rw [hq] at hch; cases hch
        | bad => trivial
        | c q =>
          show ResS P E B w0 cs0 f0 _ (chainK P E tm h nx (.fail 33) (applyC P c tm (.dr ops (x :: plan) (stillPend x.2 pend) :: k)) q)
          have tr : TodoR P E ρ1 h lo nx false (.dr ops (x :: plan) (stillPend x.2 pend) :: k) tm (.inRegion ops (x.1 :: R) :: ck) ct1 := ⟨x.1, x.2, plan, R, ck, rfl, hch, rfl, hk1, p0, A, L0, _, N, D1.atOp⟩
          have F := X1.frame hs1 tr
          have hwc := hwant
          rw [hw] at hwc
          rcases chain_step (cs := ccs ++ cs0) (fn := fn) (rest := R) (ck := ck) (ds := ds) (kind := kind) (ro := ro) hE hK hG1 H1 hq hrd hs5 ho hw (c0 := 33) (K := applyC P c tm (.dr ops (x :: plan) (stillPend x.2 pend) :: k)) with h1 | ⟨n, h', nx', e1, h1⟩
          · exact ResS.fail h1
          · rw [e1]
            have e2 : applyC P c tm (.dr ops (x :: plan) (stillPend x.2 pend) :: k) n h' nx' = apply P ⟨c.fi, tm, .dr ops (x :: plan) (stillPend x.2 pend) :: k, c.dfs, .run⟩ c.cs n h' nx' := by
              obtain ⟨fi, dfs, cs⟩ := c
              rfl
            rw [e2]
            rcases h1 with ⟨v, rfl, ρ', cv, w', hst, hle, hkp, hnx, H', hv⟩ | ⟨hnv, hpost⟩
            · have F' := F.mono hle (hkp.to nx) hnx
              refine ResS.steps hst ?_
              simp only [apply]
              rcases finish_ok rfl F' hv (goNext c.cs h' nx') with h2 | ⟨fr', h2, h3, h4, _⟩
              · exact ResS.fail h2
              · rw [h2]
                have X2 := X1.mono hle (hkp.to lo) hnx
                exact ⟨_, .refl P _, ρ', lo, _, ccs, w', rfl, H', hG1.mono hle, X2.le, h3, by rw [h4]; exact X2.frs, X2.bot _ h4⟩
            · exact apply_ok hG1 X1.le rfl F ho hwc X1.frs (X1.bot _ rfl) hpost
/-- behind an operation of the chain -/
theorem dv_ok (X : CtxR P E ρ h lo nx f0 c fn ds kind ro ccs) (H : HR B w0 ρ h nx w) (hG : GlobR E ρ) (hs : ct.size = c.fi.nt) (hk : All2 (PlainR ρ) k ck) (D : DrawR P E ρ h lo nx false ops plan pend L tm ct) :
    ResS P E B w0 cs0 f0 (lone (runF fn ct (.inRegion ops L :: ck) ds kind ro) (ccs ++ cs0) w) (stDv P E ops plan pend k c h nx tm) := by
  unfold stDv
  split
  · rename_i hr
    obtain ⟨p0, A, L0, C, N, D⟩ := D
    have tr : TodoR P E ρ h lo nx true (.dr ops plan pend :: k) tm (.inRegion ops L :: ck) ct := ⟨L, ck, rfl, hk, p0, A, L0, C, N, D.again hr⟩
    exact X.go H hG hs tr
  · trivial
/-- a region is drawn -/
theorem draw_ok (hmix : P.follows .mixedOrders = true) {id : Nat} (X : CtxR P E ρ h lo nx f0 c fn ds kind ro ccs) (H : HR B w0 ρ h nx w) (hG : GlobR E ρ) (hs : ct.size = c.fi.nt) (hk : All2 (PlainR ρ) k ck) (ht : TmR ρ tm ct) :
    ResS P E B w0 cs0 f0 (lone (runF fn ct (.code (.region id ops true) :: ck) ds kind ro) (ccs ++ cs0) w) (stDraw c h nx tm k ops (planOf P E ops)) := by
  cases hp : planOf P E ops with
  | none => trivial
  | some plan =>
    obtain ⟨t, w1, hw1, hst⟩ := st_draw (P := P) (fn := fn) (tmps := ct) (k := ck) (ds := ds) (kind := kind) (ro := ro) (cs := ccs ++ cs0) (w := w) (id := id) (ops := ops)
    refine ResS.steps (.one hst) ?_
    have e : Region.schedule (P.follows .mixedOrders) ops t = Region.linearise .any ops t := by
      unfold Region.schedule
      rw [hmix]
      rfl
    rw [e]
    have R := plan_reg hp t
    have D : DrawnR P E ρ h lo nx true ops plan [] plan [] (Region.linearise .any ops t) [] (Region.linearise .any ops t) (fun _ => none) tm ct :=
      ⟨R, rfl, rfl, (fun i hi => by cases hi), fun t' ht' _ => ht t' ht', (fun i j nm h1 => by cases h1), (fun i nm h1 => by cases h1), (fun y hy => by cases hy), (fun y hy => by cases hy)⟩
    have tr : TodoR P E ρ h lo nx true (.dr ops plan [] :: k) tm (.inRegion ops (Region.linearise .any ops t) :: ck) ct := ⟨_, ck, rfl, hk, _, _, _, _, _, D⟩
    exact X.go (H.world hw1) hG hs tr
end
end
end Go.Abs
namespace Go.Abs
noncomputable section
variable {P : Program} {E : Env} {B : Nat} {w0 : World} {ρ ρ' : Rho} {h h' : Heap} {nx nx' : Nat} {w w' : World} {cs0 : List Frame} {f0 : FuncId}
theorem run_setLoop (o : Obj) {r : Nat} {l : Loop} (hb : w.heap[r]? = some (.loop l)) : (setObj r o).run P w = .ok () { w with heap := w.heap.setIfInBounds r o } := by simp [setObj, Sem.run, hb]
theorem run_setDfr (o : Obj) {r : Nat} {l : Option (List Deferred)} (hb : w.heap[r]? = some (.deferred l)) : (setObj r o).run P w = .ok () { w with heap := w.heap.setIfInBounds r o } := by simp [setObj, Sem.run, hb]
theorem run_getDfr {r : Nat} {l : Option (List Deferred)} (hb : w.heap[r]? = some (.deferred l)) : (getObj r).run P w = .ok (.deferred l) w := by simp [getObj, Sem.run, hb]
theorem run_getLoop' {l : Nat} {r : Loop} (hb : w.heap[l]? = some (.loop r)) : (Instr.getLoop l).run P w = .ok r w := by simp [Instr.getLoop, getObj, Sem.run, hb]
/-- a block that is no row gets another content -/
theorem HR.putObj (H : HR B w0 ρ h nx w) {nm b : Nat} {a a' : AObj} {obj : Obj} (hg : h.get nm = some a) (hb : ρ nm = some b) (hro : a.ro = false) (hh0 : HE w' w (w.heap.setIfInBounds b obj)) (ho : OR ρ 0 a' obj) (hc : ∀ c cnt es e wh ro, a' ≠ .cells c cnt es e wh ro) :
    HR B w0 ρ (h.set (pathOf nm) (some a')) nx w' := by
  obtain ⟨hh, hws⟩ := hh0
  have hlt := H.blk _ _ hb
  refine H.put hg hb (.inr hro) (obj := obj) ?_ (fun b' hne => ?_) ?_ ho (fun kk c cnt es e wh ro arr fz _ e' => absurd e' (hc c cnt es e wh ro))
  · rw [hh, Array.getElem?_setIfInBounds, if_pos rfl, if_pos hlt]
  · rw [hh, Array.getElem?_setIfInBounds, if_neg (Ne.symm hne)]
  · exact ⟨by rw [hh, Array.size_setIfInBounds], hws⟩
theorem keeps_put {nm b : Nat} {a' : AObj} (hb : ρ nm = some b) (hi : Nat) : KeepsTo hi ρ ρ h (h.set (pathOf nm) (some a')) := by
  intro n ob _ h1 h2
  refine ⟨h2, ?_⟩
  rw [T.get_set, if_neg]
  · exact h1
  · intro e; rw [e, hb] at h2; cases h2
/-- what an operand that is no variable comes to -/
theorem sees_slot {tm : Tm} {ct : Array Value} (ht : TmR ρ tm ct) {x : Operand} {y : Opd} (hy : opd x = some y) (hx : ∀ g, x ≠ .global g) {ev : Operand → Value}
    (e1 : ∀ t, ev (.tmp t) = ct.getD t undef) (e2 : ∀ v, ev (.const v) = v) (e4 : ∀ f, ev (.func f) = .func (.func f) #[] #[]) : VR ρ (ov tm y) (ev x) := by
  cases x with
  | tmp t =>
    simp only [opd] at hy
    split at hy
    · rename_i hle
      injection hy with hy
      subst hy
      rw [e1]
      exact ht t (Nat.le_of_ble_eq_true hle)
    · cases hy
  | const v =>
    simp only [opd] at hy
    cases hv : toAV v with
    | none => rw [hv] at hy; cases hy
    | some a =>
      rw [hv] at hy
      injection hy with hy
      subst hy
      rw [e2]
      exact toAV_ok ρ v hv
  | global g => exact absurd rfl (hx g)
  | func f =>
    simp only [opd] at hy
    injection hy with hy
    subst hy
    rw [e4]
    simp only [ov, VR]
    exact ⟨_, #[], #[], rfl, ⟨rfl, fun _ e => Fn.noConfusion e⟩, VRs.nil, VRs.nil⟩
theorem isRet_cases {jump : Option Code} (h : isRet jump = true) : jump = none ∨ jump = some .ret := by
  cases jump with
  | none => exact .inl rfl
  | some c => cases c <;> first | exact .inr rfl | cases h
section
variable {c : Ctx} {fn : FuncId} {ds : List Deferred} {kind : CallKind} {ro : Option Nat} {ccs : List Frame} {lo : Nat} {tm : Tm} {ct : Array Value}
/-- a frame's code is through, or leaves it -/
theorem leave_ok (X : CtxR P E ρ h lo nx f0 c fn ds kind ro ccs) (H : HR B w0 ρ h nx w) (hG : GlobR E ρ) (hs : ct.size = c.fi.nt) (ht : TmR ρ tm ct) {todo : List AItem} {ctodo : List Item} {jump : Option Code}
    (h1 : isRet jump = true → (ctodo = [] ∧ jump = none) ∨ (∃ k, ctodo = .code .ret :: k ∧ jump = some .ret))
    (h2 : ∀ (l : Nat) (v : Value) (w' : World) (cf : Frame) (cs : List Frame), ro = some l → kind = .normal → (Instr.endRound l jump).run P w = .ok v w' → Go.step P (lone (runF fn ct ctodo ds kind ro) (cf :: cs) w) = .next (lone (cf.finish v) cs w')) :
    ResS P E B w0 cs0 f0 (lone (runF fn ct ctodo ds kind ro) (ccs ++ cs0) w) (leaveC c h nx tm todo jump) := by
  obtain ⟨fi, dfs, cs⟩ := c
  show ResS P E B w0 cs0 f0 _ (leave fi tm dfs cs h nx todo jump)
  unfold leave
  split
  · rename_i hro
    have hro' : ro = none := by
      have := X.ro
      simp only [hro] at this
      exact this
    subst hro'
    split
    · rename_i hj
      have hst : Go.step P (lone (runF fn ct ctodo ds kind none) (ccs ++ cs0) w) = .next (lone ⟨fn, ct, ctodo, ds, .returning, kind, none⟩ (ccs ++ cs0) w) := by
        rcases h1 hj with ⟨rfl, _⟩ | ⟨k, rfl, _⟩
        · exact st_end rfl
        · exact st_ret rfl
      refine ⟨_, .one hst, ρ, lo, _, ccs, w, rfl, H, hG, X.le, ⟨⟨X.fn, hs, X.nt, X.kind, X.ro, X.dfs, trivial⟩, ht⟩, X.frs, X.bot _ rfl⟩
    · trivial
  · rename_i l hro
    have hro' := X.ro
    simp only [hro] at hro'
    obtain ⟨b, hb, rfl⟩ := hro'
    unfold leave1
    split
    · rename_i r hg
      split
      · rename_i cf cs'
        unfold leave2
        split
        · rename_i hkd
          have hk : kind = .normal := by
            have := X.kind
            simp only [hkd] at this
            cases kind <;> simp only [KindR] at this
            rfl
          obtain ⟨o, hbk, ho⟩ := H.obj l _ b hg hb
          obtain ⟨cl, rfl, L⟩ := ho
          simp only [putAt, T.setK_eq]
          have hrun : (Instr.endRound b jump).run P w = .ok (.bool jump.isNone) { w with heap := w.heap.setIfInBounds b (.loop { cl with state := if jump.isNone then .ready else .done, pending := jump }) } := by
            simp only [Instr.endRound, Sem.run_bind, run_getLoop' hbk, Result.andThen_ok, run_setLoop _ hbk, Sem.run_pure]
          have hst : jumpState jump = (if jump.isNone then LoopState.ready else .done) := by cases jump <;> rfl
          have H' := H.putObj (a' := .loop { r with state := jumpState jump, pending := jump }) (w' := { w with heap := w.heap.setIfInBounds b (.loop { cl with state := if jump.isNone then .ready else .done, pending := jump }) }) hg hb rfl ⟨rfl, rfl, rfl⟩
            ⟨_, rfl, hst.symm, rfl, L.fn, L.size, L.nt, L.tmps, L.params, L.assign, L.body, L.defers⟩ (fun _ _ _ _ _ _ e => by cases e)
          obtain ⟨ccf, ccs', lo', rfl, hlo', hcm, hC, hCs⟩ := X.frs.mono (Rho.le_refl ρ) (keeps_put hb lo) (Nat.le_refl _)
          have hle := X.le
          have hC' := hC.mono (Rho.le_refl ρ) (KeepsTo.refl lo ρ _) (hle)
          rw [hkd] at hcm
          rcases finish_ok (v := .bool jump.isNone) (cv := .bool jump.isNone) hcm hC' (by simp only [VR]) (goNext cs' _ nx) with h3 | ⟨fr', h3, h4, h5, _⟩
          · exact ResS.fail h3
          · rw [h3]
            refine ⟨_, .one (h2 b _ _ ccf (ccs' ++ cs0) rfl hk hrun), ρ, lo', _, ccs', _, rfl, H', hG, by omega, h4, by rw [h5]; exact hCs, ?_⟩
            have := X.bot ⟨fi, tm, [], [], .run⟩ rfl
            rw [← this]
            exact botFn_congr (by rw [h5]) cs'
        · trivial
      · trivial
    · trivial
end
theorem range_all2 {ops : Array Oper} : All2 (fun o i => ops[i]? = some o) ops.toList (List.range ops.size) := by
  have : ∀ (l : List Oper) (i : Nat), (∀ k, l[k]? = ops[i + k]?) → All2 (fun o i => ops[i]? = some o) l (List.range' i l.length) := by
    intro l
    induction l with
    | nil => intro i _; rfl
    | cons o l ih =>
      intro i hl
      refine ⟨i, List.range' (i + 1) l.length, rfl, ?_, ih (i + 1) fun k => ?_⟩
      · have := hl 0
        simpa using this.symm
      · have := hl (k + 1)
        rw [List.getElem?_cons_succ] at this
        rw [this]; congr 1; omega
  have h1 := this ops.toList 0 (fun k => by simp)
  rw [List.range_eq_range']
  simpa using h1
/-- a range over a function begins -/
theorem rangeFunc_ok (hE : EOk2 P E) {c : Ctx} {fn : FuncId} {ds : List Deferred} {kind : CallKind} {ro : Option Nat} {ccs : List Frame} {lo : Nat} {tm : Tm} {ct : Array Value} {f : Operand} {ps : Array Tmp} {a b : Code} {k : List AItem} {ck : List Item}
    (X : CtxR P E ρ h lo nx f0 c fn ds kind ro ccs) (H : HR B w0 ρ h nx w) (hG : GlobR E ρ) (hs : ct.size = c.fi.nt) (ht : TmR ρ tm ct) (hk : All2 (PlainR ρ) k ck) :
    ResS P E B w0 cs0 f0 (lone (runF fn ct (.code (.rangeFunc f ps a b) :: ck) ds kind ro) (ccs ++ cs0) w) (stRangeFunc P E (opd f) ps a b k c h nx tm) := by
  obtain ⟨fi, dfs, cs⟩ := c
  unfold stRangeFunc
  split
  · rename_i y hy
    simp only
    have hfn := X.fn
    simp only at hfn
    subst hfn
    -- the loop's record is laid, the function called
    have main : ∀ {ρ1 : Rho} {h1 : Heap} {nx1 : Nat} {w1 : World} {dfs1 : List ADef} {mark : List Deferred} {dnm db : Nat}, ρ.le ρ1 → KeepsTo lo ρ ρ1 h h1 → nx ≤ nx1 → HR B w0 ρ1 h1 nx1 w1 → All2 (DefR ρ1) dfs1 (mark ++ ds) → ρ1 dnm = some db →
        (Instr.enterLoop fi.fn ct ps a b ro).run P w = .ok (w1.heap.size, mark) { w1 with heap := w1.heap.push (.loop { state := .ready, pending := none, fn := fi.fn, tmps := ct, params := ps, assign := a, body := b, defers := db }) } →
        ResS P E B w0 cs0 f0 (lone (runF fi.fn ct (.code (.rangeFunc f ps a b) :: ck) ds kind ro) (ccs ++ cs0) w) (rf1 P E fi tm dfs1 cs h1 nx1 k (ov tm y) ps a b dnm) := by
      intro ρ1 h1 nx1 w1 dfs1 mark dnm db hle hkp hnx H1 hdf hdn hel
      unfold rf1
      simp only [putAt, T.setK_eq]
      have hn := (H1.new nx1 (Nat.le_refl _)).2
      have L : LoopR ρ1 ⟨.ready, none, fi.fn, tm, fi.nt, ps.toList, a, b, dnm⟩ { state := .ready, pending := none, fn := fi.fn, tmps := ct, params := ps, assign := a, body := b, defers := db } := ⟨rfl, rfl, rfl, hs, X.nt, ht.mono hle, rfl, rfl, rfl, hdn⟩
      have hle2 : ρ1.le (ρ1.ext nx1 w1.heap.size none) := Rho.le_ext none hn H1.capnone
      obtain ⟨_, H2⟩ := (H1.reserve (.loop ⟨.ready, none, fi.fn, tm, fi.nt, ps.toList, a, b, dnm⟩)).mat (nm := nx1) (k := none) (ob := .loop ⟨.ready, none, fi.fn, tm, fi.nt, ps.toList, a, b, dnm⟩) (w' := { w1 with heap := w1.heap.push (.loop { state := .ready, pending := none, fn := fi.fn, tmps := ct, params := ps, assign := a, body := b, defers := db }) })
        (by rw [T.get_set, if_pos rfl]) hn ⟨rfl, rfl, rfl⟩ ⟨_, rfl, L.mono hle2⟩ (fun _ _ _ _ _ _ _ _ _ e => by cases e)
      have hk2 := keeps_ext H1 (.loop ⟨.ready, none, fi.fn, tm, fi.nt, ps.toList, a, b, dnm⟩) w1.heap.size none
      have hle3 := Rho.le_trans hle hle2
      have hself : (ρ1.ext nx1 w1.heap.size none) nx1 = some w1.heap.size := Rho.ext_self _ _ _ _
      by_cases hgl : ∃ g, f = .global g
      · obtain ⟨g, rfl⟩ := hgl
        simp only [opd] at hy
        injection hy with hy
        subst hy
        trivial
      · have hev : VR (ρ1.ext nx1 w1.heap.size none) (ov tm y) ((runF fi.fn ct (.inRangeFunc w1.heap.size :: ck) (mark ++ ds) kind ro).eval f) :=
          sees_slot (ht.mono hle3) hy (fun g e => hgl ⟨g, e⟩) (fun _ => rfl) (fun _ => rfl) (fun _ => rfl)
        have hargs : VRs (ρ1.ext nx1 w1.heap.size none) [.fn (.yield nx1) [] []] (#[Value.func (.yield w1.heap.size) #[] #[]] : Array Value).toList := by
          refine VRs.cons ?_ VRs.nil
          simp only [VR]
          exact ⟨_, #[], #[], rfl, ⟨_, hself, rfl⟩, VRs.nil, VRs.nil⟩
        rcases dynK_ok (P := P) hE H2 hev hargs (c0 := 14) (K := fun n h2 nx2 => rfEnter P ⟨fi, tm, .inRF nx1 :: k, dfs1, .run⟩ cs h2 nx2 n) with e | ⟨n, h2, nx2, e, hp⟩
        · exact ResS.fail e
        · rw [e]
          cases n with
          | enter g args =>
            simp only [rfEnter]
            obtain ⟨ρ3, hle4, hk3, hnx3, hres⟩ := hp
            generalize hrun : (do let d ← Deferred.ofValue ((runF fi.fn ct (.inRangeFunc w1.heap.size :: ck) (mark ++ ds) kind ro).eval f) #[.func (.yield w1.heap.size) #[] #[]]; invoke d.target d.args : Sem Next).run P { w1 with heap := w1.heap.push (.loop { state := .ready, pending := none, fn := fi.fn, tmps := ct, params := ps, assign := a, body := b, defers := db }) } = r at hres
            cases r with
            | halt hh w' =>
              cases hh <;> try (exact absurd hres id)
              obtain ⟨⟨v, e', hv⟩, _⟩ := hres
              cases e'
            | ok cn w' =>
              obtain ⟨⟨cargs, rfl, ha⟩, H3⟩ := hres
              have hle5 := Rho.le_trans hle3 hle4
              refine ResS.steps (.one (st_rangeFunc hel hrun)) ?_
              have kp : KeepsTo lo ρ ρ3 h h2 := (hkp.trans (hk2.to lo)).trans (hk3.to lo)
              have X3 := X.mono hle5 kp (Nat.le_trans hnx (Nat.le_trans (Nat.le_succ _) hnx3))
              have pk : All2 (PlainR ρ3) (.inRF nx1 :: k) (.inRangeFunc w1.heap.size :: ck) := All2.cons (R := PlainR ρ3) (a := .inRF nx1) (b := .inRangeFunc w1.heap.size) (hle4.1 _ _ hself) (hk.mono fun _ _ => PlainR.mono hle5)
              refine enter_ok (kd := .normal) (ck := .normal) (acs := ⟨fi, tm, .inRF nx1 :: k, dfs1, .run⟩ :: cs) (accs := runF fi.fn ct (.inRangeFunc w1.heap.size :: ck) (mark ++ ds) kind ro :: ccs) H3 (hG.mono hle5) ha trivial
                ⟨_, ccs, lo, rfl, X3.le, rfl, ⟨⟨rfl, hs, X.nt, X3.kind, X3.ro, hdf.mono fun _ _ => DefR.mono (Rho.le_trans hle2 hle4), trivial⟩, ?_⟩, X3.frs⟩ (fun fr e => X.bot _ rfl)
              have tr : TodoR P E ρ3 h2 lo nx2 false (.inRF nx1 :: k) tm (.inRangeFunc w1.heap.size :: ck) ct := ⟨pk, ht.mono hle5⟩
              exact tr
          | _ => trivial
    unfold rf3
    split
    · rename_i hro
      have hro' := X.ro
      simp only [hro] at hro'
      have hro2 : ro = none := hro'
      subst hro2
      simp only [putAt, T.setK_eq]
      have hn := (H.new nx (Nat.le_refl _)).2
      have hle : ρ.le (ρ.ext nx w.heap.size none) := Rho.le_ext none hn H.capnone
      obtain ⟨_, H1⟩ := (H.reserve (.dfr (some []))).mat (nm := nx) (k := none) (ob := .dfr (some [])) (w' := { w with heap := w.heap.push (.deferred (some [])) }) (obj := .deferred (some []))
        (by rw [T.get_set, if_pos rfl]) hn ⟨rfl, rfl, rfl⟩ ⟨[], rfl, rfl⟩ (fun _ _ _ _ _ _ _ _ _ e => by cases e)
      have hself : (ρ.ext nx w.heap.size none) nx = some w.heap.size := Rho.ext_self _ _ _ _
      refine main (mark := [⟨.collected w.heap.size, #[]⟩]) (db := w.heap.size) hle ((keeps_ext H (.dfr (some [])) _ _).to lo) (Nat.le_succ _) H1 ?_ hself ?_
      · exact All2.cons ⟨⟨_, hself, rfl⟩, VRs.nil⟩ (X.dfs.mono fun _ _ => DefR.mono hle)
      · simp only [Instr.enterLoop, Sem.run_bind, run_newObj, Result.andThen_ok, Sem.run_pure]
    · rename_i l hro
      have hro' := X.ro
      simp only [hro] at hro'
      obtain ⟨b', hb, rfl⟩ := hro'
      unfold rf2
      split
      · rename_i outer hg
        obtain ⟨o, hbk, ho⟩ := H.obj l _ b' hg hb
        obtain ⟨cl, rfl, L⟩ := ho
        refine main (mark := []) (db := cl.defers) (Rho.le_refl ρ) (KeepsTo.refl _ _ _) (Nat.le_refl _) H X.dfs L.defers ?_
        simp only [Instr.enterLoop, Sem.run_bind, run_getLoop' hbk, run_newObj, Result.andThen_ok, Sem.run_pure]
      · trivial
  · trivial
end
end Go.Abs
namespace Go.Abs
noncomputable section
variable {P : Program} {E : Env} {B : Nat} {w0 : World} {ρ ρ' : Rho} {h h' : Heap} {nx nx' : Nat} {w w' : World} {cs0 : List Frame} {f0 : FuncId}
theorem endRound_exit {id l : Nat} {fn : FuncId} {ct : Array Value} {ck : List Item} {ds : List Deferred} {cf : Frame} {cs : List Frame} {v : Value} (he : exitTo id ck = none) (hr : (Instr.endRound l (some (.exit id))).run P w = .ok v w') :
    Go.step P (lone (runF fn ct (.code (.exit id) :: ck) ds .normal (some l)) (cf :: cs) w) = .next (lone (cf.finish v) cs w') := st_endExit he hr
section
variable {c : Ctx} {fn : FuncId} {ds : List Deferred} {kind : CallKind} {ro : Option Nat} {ccs : List Frame} {lo : Nat} {tm : Tm} {ct : Array Value}
/-- code -/
theorem codeK_ok (hE : EOk2 P E) (hK : KnownOk P E B w0) (hmix : P.follows .mixedOrders = true) (X : CtxR P E ρ h lo nx f0 c fn ds kind ro ccs) (H : HR B w0 ρ h nx w) (hG : GlobR E ρ) (hs : ct.size = c.fi.nt) (ht : TmR ρ tm ct) :
    ∀ (x : Code) {k : List AItem} {ck : List Item}, All2 (PlainR ρ) k ck → ResS P E B w0 cs0 f0 (lone (runF fn ct (.code x :: ck) ds kind ro) (ccs ++ cs0) w) (codeK P E x k c h nx tm) := by
  have go : ∀ {k : List AItem} {ck : List Item}, All2 (PlainR ρ) k ck → ResS P E B w0 cs0 f0 (lone (runF fn ct ck ds kind ro) (ccs ++ cs0) w) (goK c h nx tm k) := fun hk =>
    X.go H hG hs ((TodoR.plain (plain_not_drawn hk)).2 ⟨hk, ht⟩)
  intro x
  induction x with
  | skip => intro k ck hk; exact ResS.steps (.one st_skip) (go hk)
  | label l => intro k ck hk; exact ResS.steps (.one st_label) (go hk)
  | region id ops draw =>
    intro k ck hk
    show ResS P E B w0 cs0 f0 _ (stRegion P E ops draw k c h nx tm)
    cases draw with
    | false =>
      refine ResS.steps (.one st_region) ?_
      show ResS P E B w0 cs0 f0 _ (rgGo P E ops k c ops.toList h nx tm)
      rw [rgGo_eq]
      exact rgK_ok hE hK range_all2 X H hG ht hs hk
    | true => exact draw_ok hmix X H hG hs hk ht
  | seq a b iha ihb =>
    intro k ck hk
    exact ResS.steps (.one st_seq) (iha (k := .code b :: k) (All2.cons (R := PlainR ρ) (a := .code b) (b := .code b) rfl hk))
  | cond x a b iha ihb =>
    intro k ck hk
    show ResS P E B w0 cs0 f0 _ (stCond (codeK P E a k c) (codeK P E b k c) h nx tm (opd x))
    cases hx : opd x with
    | none => trivial
    | some y =>
      show ResS P E B w0 cs0 f0 _ (ovK y tm fun v => boolR v (codeK P E a k c h nx tm) (codeK P E b k c h nx tm))
      rw [ovK_eq]
      have ev : ∀ t, ov tm y = .bool t → ∀ todo, (runF fn ct todo ds kind ro).eval x = .bool t := by
        intro t hy todo
        by_cases hgl : ∃ g, x = .global g
        · obtain ⟨g, rfl⟩ := hgl
          simp only [opd] at hx
          injection hx with hx
          subst hx
          cases hy
        · have := sees_slot ht hx (fun g e => hgl ⟨g, e⟩) (ev := (runF fn ct todo ds kind ro).eval) (fun _ => rfl) (fun _ => rfl) (fun _ => rfl)
          exact (VR_bool this t).1 hy
      rcases boolR_cases (ov tm y) (codeK P E a k c h nx tm) (codeK P E b k c h nx tm) with h1 | ⟨h1, h2⟩ | ⟨h1, h2⟩
      · exact ResS.fail h1
      · rw [h2]
        exact ResS.steps (.one (st_cond (t := true) (ev true h1))) (iha hk)
      · rw [h2]
        exact ResS.steps (.one (st_cond (t := false) (ev false h1))) (ihb hk)
  | block id body ih =>
    intro k ck hk
    exact ResS.steps (.one st_block) (ih (k := .inBlock id :: k) (All2.cons (R := PlainR ρ) (a := .inBlock id) (b := .inBlock id) rfl hk))
  | loop body ih =>
    intro k ck hk
    exact ResS.steps (.one st_loop) (ih (k := .inLoop body :: k) (All2.cons (R := PlainR ρ) (a := .inLoop body) (b := .inLoop body) rfl hk))
  | scope body ih =>
    intro k ck hk
    exact ResS.steps (.one st_scope) (ih (k := .inScope body :: k) (All2.cons (R := PlainR ρ) (a := .inScope body) (b := .inScope body) rfl hk))
  | rangeFunc f ps a b iha ihb =>
    intro k ck hk
    exact rangeFunc_ok hE X H hG hs ht hk
  | exit id =>
    intro k ck hk
    show ResS P E B w0 cs0 f0 _ (stExit c h nx tm (.code (.exit id) :: k) (.exit id) (exitToA id k))
    have he := exitTo_ok (id := id) hk
    cases hx : exitToA id k with
    | none =>
      rw [hx] at he
      show ResS P E B w0 cs0 f0 _ (leaveC c h nx tm (.code (.exit id) :: k) (some (.exit id)))
      refine leave_ok X H hG hs ht (fun hj => by cases hj) (fun l v w' cf cs hro hkd hr => ?_)
      subst hro hkd
      exact st_endExit he hr
    | some k' =>
      rw [hx] at he
      obtain ⟨ck', h1, h2⟩ := he
      exact ResS.steps (.one (st_exit h1)) (go h2)
  | goto l =>
    intro k ck hk
    show ResS P E B w0 cs0 f0 _ (stExit c h nx tm (.code (.goto l) :: k) (.goto l) (gotoInA l k))
    have he := gotoIn_ok (l := l) hk
    cases hx : gotoInA l k with
    | none =>
      rw [hx] at he
      show ResS P E B w0 cs0 f0 _ (leaveC c h nx tm (.code (.goto l) :: k) (some (.goto l)))
      refine leave_ok X H hG hs ht (fun hj => by cases hj) (fun l v w' cf cs hro hkd hr => ?_)
      subst hro hkd
      exact st_endGoto he hr
    | some k' =>
      rw [hx] at he
      obtain ⟨ck', h1, h2⟩ := he
      exact ResS.steps (.one (st_goto h1)) (go h2)
  | ret =>
    intro k ck hk
    show ResS P E B w0 cs0 f0 _ (leaveC c h nx tm (.code .ret :: k) (some .ret))
    refine leave_ok X H hG hs ht (fun _ => .inr ⟨ck, rfl, rfl⟩) (fun l v w' cf cs hro hkd hr => ?_)
    subst hro hkd
    exact st_endRound (.inr ⟨ck, rfl, rfl⟩) hr
  | refuse why => intro k ck hk; trivial
/-- what is left of a range over a function -/
theorem endRF_ok (X : CtxR P E ρ h lo nx f0 c fn ds kind ro ccs) (H : HR B w0 ρ h nx w) (hG : GlobR E ρ) (hs : ct.size = c.fi.nt) (ht : TmR ρ tm ct) {k : List AItem} {ck : List Item} (hk : All2 (PlainR ρ) k ck) {l b : Nat} (hb : ρ l = some b) :
    ResS P E B w0 cs0 f0 (lone (runF fn ct (.endRangeFunc b :: ck) ds kind ro) (ccs ++ cs0) w) (stEndRF k c h nx tm l (h.get l)) := by
  unfold stEndRF
  split
  · rename_i r hg
    split
    · trivial
    · rename_i hbusy
      obtain ⟨o, hbk, ho⟩ := H.obj l _ b hg hb
      obtain ⟨cl, rfl, L⟩ := ho
      simp only [putAt, T.setK_eq]
      have hnb : (cl.state == .busy) = false := by
        rw [L.state]
        cases hst : r.state <;> first | rfl | (rw [hst] at hbusy; cases hbusy)
      have hrun : (Instr.endLoop b).run P w = .ok cl.pending { w with heap := w.heap.setIfInBounds b (.loop { cl with state := .exhausted }) } := by
        simp only [Instr.endLoop, Sem.run_bind, run_getLoop' hbk, Result.andThen_ok, hnb, Bool.false_eq_true, if_false, Sem.run_ite, run_setLoop _ hbk, Sem.run_pure]
      refine ResS.steps (.one (st_endLoop hrun)) ?_
      have H' := H.putObj (a' := .loop { r with state := .exhausted }) (w' := { w with heap := w.heap.setIfInBounds b (.loop { cl with state := .exhausted }) }) hg hb rfl ⟨rfl, rfl, rfl⟩
        ⟨_, rfl, rfl, L.pending, L.fn, L.size, L.nt, L.tmps, L.params, L.assign, L.body, L.defers⟩ (fun _ _ _ _ _ _ e => by cases e)
      have hk' : All2 (PlainR ρ) (pendK k r.pending) ((cl.pending.map Item.code).toList ++ ck) := by
        rw [L.pending]
        cases r.pending with
        | none => exact hk
        | some x => exact All2.cons (R := PlainR ρ) (a := .code x) (b := .code x) rfl hk
      exact (X.mono (Rho.le_refl ρ) (keeps_put hb lo) (Nat.le_refl _)).go H' hG hs ((TodoR.plain (plain_not_drawn hk')).2 ⟨hk', ht⟩)
  · trivial
/-- a round begins -/
theorem begin_ok (X : CtxR P E ρ h lo nx f0 c fn ds kind ro ccs) (H : HR B w0 ρ h nx w) (hG : GlobR E ρ) (hs : ct.size = c.fi.nt) (ht : TmR ρ tm ct) {k : List AItem} {ck : List Item} (hk : All2 (PlainR ρ) k ck) :
    ResS P E B w0 cs0 f0 (lone (runF fn ct (.beginRound :: ck) ds kind ro) (ccs ++ cs0) w) (stBegin1 k c h nx tm) := by
  unfold stBegin1
  split
  · rename_i l hro
    have hro' := X.ro
    simp only [hro] at hro'
    obtain ⟨b, hb, rfl⟩ := hro'
    unfold stBegin
    split
    · rename_i r hg
      split
      · rename_i hready
        obtain ⟨o, hbk, ho⟩ := H.obj l _ b hg hb
        obtain ⟨cl, rfl, L⟩ := ho
        simp only [putAt, T.setK_eq]
        have hst : cl.state = .ready := by
          rw [L.state]
          cases hst : r.state <;> first | rfl | (rw [hst] at hready; cases hready)
        have hrun : (Instr.beginRound b).run P w = .ok () { w with heap := w.heap.setIfInBounds b (.loop { cl with state := .busy }) } := by
          simp only [Instr.beginRound, Sem.run_bind, run_getLoop' hbk, Result.andThen_ok, run_setLoop _ hbk, hst, Sem.run_pure]
        refine ResS.steps (.one (st_begin hrun)) ?_
        have H' := H.putObj (a' := .loop { r with state := .busy }) (w' := { w with heap := w.heap.setIfInBounds b (.loop { cl with state := .busy }) }) hg hb rfl ⟨rfl, rfl, rfl⟩
          ⟨_, rfl, rfl, L.pending, L.fn, L.size, L.nt, L.tmps, L.params, L.assign, L.body, L.defers⟩ (fun _ _ _ _ _ _ e => by cases e)
        exact (X.mono (Rho.le_refl ρ) (keeps_put hb lo) (Nat.le_refl _)).go H' hG hs ((TodoR.plain (plain_not_drawn hk)).2 ⟨hk, ht⟩)
      · trivial
    · trivial
  · trivial
/-- one step of a frame that runs -/
theorem stRun_ok (hE : EOk2 P E) (hK : KnownOk P E B w0) (hmix : P.follows .mixedOrders = true) (X : CtxR P E ρ h lo nx f0 c fn ds kind ro ccs) (H : HR B w0 ρ h nx w) (hG : GlobR E ρ) (hs : ct.size = c.fi.nt) {todo : List AItem} {ctodo : List Item} (ht : TodoR P E ρ h lo nx true todo tm ctodo ct) :
    ResS P E B w0 cs0 f0 (lone (runF fn ct ctodo ds kind ro) (ccs ++ cs0) w) (stRun P E c h nx tm todo) := by
  cases todo with
  | nil =>
    obtain ⟨h1, h2⟩ := ht
    have : ctodo = [] := h1
    subst this
    show ResS P E B w0 cs0 f0 _ (leaveC c h nx tm [] none)
    refine leave_ok X H hG hs h2 (fun _ => .inl ⟨rfl, rfl⟩) (fun l v w' cf cs hro hkd hr => ?_)
    subst hro hkd
    exact st_endRound (.inl ⟨rfl, rfl⟩) hr
  | cons x k =>
    show ResS P E B w0 cs0 f0 _ (stItem P E k c h nx tm x)
    cases x with
    | dr ops plan pend =>
      obtain ⟨L, ck, rfl, hk, p0, A, L0, C, N, D⟩ := ht
      exact dr_ok hE hK X H hG hs hk D
    | dv ops plan pend =>
      obtain ⟨L, ck, rfl, hk, D⟩ := ht
      exact dv_ok X H hG hs hk D
    | code x =>
      obtain ⟨⟨i, ck, rfl, hpl, hk⟩, h2⟩ := ht
      cases i <;> simp only [PlainR] at hpl
      subst hpl
      exact codeK_ok hE hK hmix X H hG hs h2 _ hk
    | inBlock id =>
      obtain ⟨⟨i, ck, rfl, hpl, hk⟩, h2⟩ := ht
      cases i <;> simp only [PlainR] at hpl
      exact ResS.steps (.one st_inBlock) (X.go H hG hs ((TodoR.plain (plain_not_drawn hk)).2 ⟨hk, h2⟩))
    | inLoop body =>
      obtain ⟨⟨i, ck, rfl, hpl, hk⟩, h2⟩ := ht
      cases i <;> simp only [PlainR] at hpl
      subst hpl
      rename_i body
      exact ResS.steps (.one st_inLoop) (codeK_ok hE hK hmix X H hG hs h2 body (k := .inLoop body :: k) (All2.cons (R := PlainR ρ) (a := .inLoop body) (b := .inLoop body) rfl hk))
    | inScope body =>
      obtain ⟨⟨i, ck, rfl, hpl, hk⟩, h2⟩ := ht
      cases i <;> simp only [PlainR] at hpl
      exact ResS.steps (.one st_inScope) (X.go H hG hs ((TodoR.plain (plain_not_drawn hk)).2 ⟨hk, h2⟩))
    | rg ops rest =>
      obtain ⟨⟨i, ck, rfl, hpl, hk⟩, h2⟩ := ht
      cases i <;> simp only [PlainR] at hpl
      obtain ⟨rfl, hr⟩ := hpl
      rename_i ops is
      show ResS P E B w0 cs0 f0 _ (rgGo P E ops k c rest h nx tm)
      rw [rgGo_eq]
      exact rgK_ok hE hK hr X H hG h2 hs hk
    | inRF l => trivial
    | endRF l =>
      obtain ⟨⟨i, ck, rfl, hpl, hk⟩, h2⟩ := ht
      cases i <;> simp only [PlainR] at hpl
      exact endRF_ok X H hG hs h2 hk hpl
    | beginRound =>
      obtain ⟨⟨i, ck, rfl, hpl, hk⟩, h2⟩ := ht
      cases i <;> simp only [PlainR] at hpl
      exact begin_ok X H hG hs h2 hk
end
end
end Go.Abs
namespace Go.Abs
noncomputable section
variable {P : Program} {E : Env} {B : Nat} {w0 : World} {ρ ρ' : Rho} {h h' : Heap} {nx nx' : Nat} {w w' : World} {cs0 : List Frame} {f0 : FuncId}
theorem loadVar_ok (H : HR B w0 ρ h nx w) {t : TypeId} {x v : AV} {cx : Value} (hx : VR ρ x cx) (hv : loadVarA P t h x = some v) : ∃ a cv, asAddr cx = pure a ∧ (loadVar t a).run P w = .ok cv w ∧ VR ρ v cv := by
  have fin : (∃ cv, (Instr.loadAt t cx).run P w = .ok cv w ∧ VR ρ v cv) → (∃ a, cx = .pointer (some a)) → ∃ a cv, asAddr cx = pure a ∧ (loadVar t a).run P w = .ok cv w ∧ VR ρ v cv := by
    rintro ⟨cv, h1, h2⟩ ⟨a, rfl⟩
    refine ⟨a, cv, rfl, ?_, h2⟩
    simpa only [Instr.loadAt, Instr.sureAddr, Sem.run_bind, Sem.run_pure, Result.andThen_ok] using h1
  have ptr : ∀ {nm off : Nat}, x = .ptr nm off → ∃ a, cx = .pointer (some a) := by
    rintro nm off rfl
    simp only [VR] at hx
    obtain ⟨b, _, rfl⟩ := hx
    exact ⟨_, rfl⟩
  unfold loadVarA at hv
  split at hv
  · rename_i ha
    split at hv
    · rename_i n hn
      refine fin (ldn_ok H ha hn hx hv) ?_
      unfold ldnA at hv
      split at hv
      · exact ptr rfl
      · cases hv
    · cases hv
  · rename_i ha
    refine fin (ld1_ok H ha hx hv) ?_
    unfold ld1A at hv
    split at hv
    · exact ptr rfl
    · cases hv
  · cases hv
theorem run_getD {tm : Tm} {ct : Array Value} (ht : TmR ρ tm ct) {t : Tmp} {x : Opd} (hx : opd (.tmp t) = some x) : VR ρ (ov tm x) (ct.getD t undef) := by
  simp only [opd] at hx
  split at hx
  · rename_i hle
    injection hx with hx
    subst hx
    exact ht t (Nat.le_of_ble_eq_true hle)
  · cases hx
def res1 (ct : Array Value) : ResultVar → Sem Value
  | .tmp t => pure (ct.getD t undef)
  | .cell a t => do loadVar t (← asAddr (ct.getD a undef))
theorem resGo_ok (H : HR B w0 ρ h nx w) {tm : Tm} {ct : Array Value} (ht : TmR ρ tm ct) : ∀ {l : List ResultVar} {vs : List AV}, resGo P tm h l = some vs →
    ∃ cvs, (l.mapM (m := Sem) (res1 ct)).run P w = .ok cvs w ∧ VRs ρ vs cvs
  | [], vs, h1 => by
    injection h1 with h1
    subst h1
    exact ⟨[], rfl, VRs.nil⟩
  | r :: l, vs, h1 => by
    unfold resGo at h1
    split at h1
    · rename_i vs' hl
      obtain ⟨cvs, g1, g2⟩ := resGo_ok H ht hl
      cases r with
      | tmp t =>
        simp only at h1
        split at h1
        · rename_i x hx
          injection h1 with h1
          subst h1
          refine ⟨ct.getD t undef :: cvs, ?_, VRs.cons (run_getD ht hx) g2⟩
          simp only [List.mapM_cons, res1, Sem.run_bind, Sem.run_pure, Result.andThen_ok, g1]
        · cases h1
      | cell a t =>
        simp only at h1
        split at h1
        · rename_i x hx
          split at h1
          · rename_i v hv
            injection h1 with h1
            subst h1
            obtain ⟨ad, cv, k1, k2, k3⟩ := loadVar_ok H (run_getD ht hx) hv
            refine ⟨cv :: cvs, ?_, VRs.cons k3 g2⟩
            simp only [List.mapM_cons, res1, Sem.run_bind, k1, Sem.run_pure, Result.andThen_ok, k2, g1]
          · cases h1
        · cases h1
    · cases h1
theorem results_eq (fn : Func) (ct : Array Value) : results fn ct = (do
    let vs ← fn.results.mapM (res1 ct)
    pure (if h : vs.size = 1 then vs[0] else .tuple vs)) := by
  unfold results
  congr 1
theorem results_ok (H : HR B w0 ρ h nx w) {tm : Tm} {ct : Array Value} (ht : TmR ρ tm ct) {fn : Func} {v : AV} (hv : resultsA P fn tm h = some v) : ∃ cv, (results fn ct).run P w = .ok cv w ∧ VR ρ v cv := by
  unfold resultsA at hv
  cases hg : resGo P tm h fn.results.toList with
  | none => rw [hg] at hv; cases hv
  | some vs =>
    rw [hg] at hv
    obtain ⟨cvs, h1, h2⟩ := resGo_ok H ht hg
    have e : (results fn ct).run P w = .ok (if h : cvs.toArray.size = 1 then cvs.toArray[0] else .tuple cvs.toArray) w := by
      rw [results_eq, Array.mapM_eq_mapM_toList, map_eq_pure_bind]
      simp only [Sem.run_bind, h1, Result.andThen_ok, Sem.run_pure]
    refine ⟨_, e, ?_⟩
    have hl := h2.length
    cases vs with
    | nil =>
      cases cvs with
      | nil =>
        injection hv with hv
        subst hv
        simp only [VR]
        exact ⟨_, rfl, VRs.nil⟩
      | cons _ _ => cases hl
    | cons a vs =>
      cases cvs with
      | nil => cases hl
      | cons ca cvs =>
        obtain ⟨g1, g2⟩ := h2.of_cons
        cases vs with
        | nil =>
          cases cvs with
          | nil =>
            injection hv with hv
            subst hv
            simpa using g1
          | cons _ _ => cases hl
        | cons b vs =>
          cases cvs with
          | nil => cases hl
          | cons cb cvs =>
            injection hv with hv
            subst hv
            rw [dif_neg (by simp)]
            simp only [VR]
            exact ⟨_, rfl, h2⟩
/-- a state whose top frame does not run -/
theorem unD_ok (hE : EOk2 P E) (H : HR B w0 ρ h nx w) (hG : GlobR E ρ) {lo : Nat} (hlo : lo ≤ nx) {fi : FI} {tm : Tm} {todo : List AItem} {mode : AMode} {d : ADef} {dfs : List ADef} {cf : Frame} (hm : isRun mode = false)
    (F : FrB ρ ⟨fi, tm, todo, d :: dfs, mode⟩ cf) (ht : TmR ρ tm cf.tmps) {cs : List AFrame} {ccs : List Frame} (hF : FrsR P E ρ h lo fi.kind cs ccs) (hb : botFn ⟨fi, tm, todo, d :: dfs, mode⟩ cs = f0) :
    ResS P E B w0 cs0 f0 (lone cf (ccs ++ cs0) w) (unD P E fi tm todo mode cs h nx d dfs) := by
  obtain ⟨fn, ct, ctodo, ds, cmode, kind, ro⟩ := cf
  obtain ⟨cd, cds, hds, hd, hdfs⟩ := F.dfs
  simp only at hds
  subst hds
  have hcm : cmode ≠ .run := by
    intro e
    subst e
    have := F.mode
    cases mode with
    | run => cases hm
    | returning => exact this
    | panicking c => exact this
  have mkF : ∀ {ρ' : Rho} {dfs' : List ADef} {cds' : List Deferred}, ρ.le ρ' → All2 (DefR ρ') dfs' cds' → FrB ρ' ⟨fi, tm, todo, dfs', mode⟩ ⟨fn, ct, ctodo, cds', cmode, kind, ro⟩ := fun hle hd' =>
    ⟨F.fn, F.size, F.nt, F.kind, F.ro.mono hle, hd', F.mode.mono hle⟩
  have body : ∀ {ρ' : Rho} {h' : Heap} {lo' hi' : Nat} {top : Bool} {dfs' : List ADef} {cds' : List Deferred}, ρ.le ρ' → BodyR P E ρ' h' lo' hi' top ⟨fi, tm, todo, dfs', mode⟩ ⟨fn, ct, ctodo, cds', cmode, kind, ro⟩ := by
    intro ρ' h' lo' hi' top dfs' cds' hle
    cases mode with
    | run => cases hm
    | returning => exact ht.mono hle
    | panicking c => exact .inr (ht.mono hle)
  obtain ⟨hd1, hd2⟩ := hd
  obtain ⟨ctg, cargs⟩ := cd
  unfold unD
  split
  · rename_i nm htg
    rw [htg] at hd1
    obtain ⟨b, hbn, e⟩ := hd1
    simp only at e
    subst e
    unfold unColl
    split
    · rename_i calls hg
      obtain ⟨o, hbk, ho⟩ := H.obj nm _ b hg hbn
      obtain ⟨ccalls, rfl, hcalls⟩ := ho
      simp only [putAt, T.setK_eq]
      have hrun : (Instr.takeDeferred b).run P w = .ok ccalls { w with heap := w.heap.setIfInBounds b (.deferred none) } := by
        simp only [Instr.takeDeferred, Sem.run_bind, run_getDfr hbk, Result.andThen_ok, run_setDfr _ hbk, Sem.run_pure]
      have H' := H.putObj (a' := .dfr none) (w' := { w with heap := w.heap.setIfInBounds b (.deferred none) }) hg hbn rfl ⟨rfl, rfl, rfl⟩ rfl (fun _ _ _ _ _ _ e => by cases e)
      have app : ∀ {l : List ADef} {m : List Deferred}, All2 (DefR ρ) l m → All2 (DefR ρ) (l ++ dfs) (m ++ cds) := by
        intro l
        induction l with
        | nil => intro m h0; simp only [All2] at h0; subst h0; exact hdfs
        | cons a l ih =>
          intro m h0
          obtain ⟨b, m', rfl, h1, h2⟩ := h0
          exact All2.cons h1 (ih h2)
      exact ⟨_, .one (st_collected hcm hrun), ρ, lo, _, ccs, _, rfl, H', hG, hlo, ⟨mkF (Rho.le_refl ρ) (app hcalls), body (Rho.le_refl ρ)⟩, hF.mono (Rho.le_refl ρ) (keeps_put hbn lo) (Nat.le_refl _), by rw [← hb]; exact botFn_congr (fr := ⟨fi, tm, todo, d :: dfs, mode⟩) (fr' := ⟨fi, tm, todo, calls ++ dfs, mode⟩) rfl cs⟩
    · trivial
  · rename_i f cap htg
    rw [htg] at hd1
    obtain ⟨g, ccap, e, hfr, hcap⟩ := hd1
    simp only at e
    subst e
    have hfv : VR ρ (.fn f [] cap) (.func g #[] ccap) := by
      simp only [VR]
      exact ⟨_, _, _, rfl, hfr, VRs.nil, hcap⟩
    rcases dynK_ok (P := P) hE H hfv hd2 (c0 := 52) (K := fun n h2 nx2 => unDefer P ⟨fi, tm, todo, dfs, mode⟩ cs h2 nx2 n) with e | ⟨n, h2, nx2, e, hp⟩
    · exact ResS.fail e
    · rw [e]
      cases n with
      | enter f' args =>
        simp only [unDefer]
        obtain ⟨ρ2, hle, hkp, hnx, hres⟩ := hp
        have hinv : (do let d ← Deferred.ofValue (.func g #[] ccap) cargs; invoke d.target d.args : Sem Next).run P w = (invoke (.fn g ccap) cargs).run P w := by
          simp only [Deferred.ofValue, Sem.run_bind, Sem.run_pure, Result.andThen_ok, Array.empty_append]
        simp only at hres
        rw [hinv] at hres
        generalize hrun : (invoke (.fn g ccap) cargs).run P w = r at hres
        cases r with
        | halt hh w' =>
          cases hh <;> try (exact absurd hres id)
          obtain ⟨⟨v, e', hv⟩, _⟩ := hres
          cases e'
        | ok cn w' =>
          obtain ⟨⟨as, rfl, ha⟩, H2⟩ := hres
          refine ResS.steps (.one (st_deferred hcm hrun)) ?_
          have hF2 := hF.mono hle (hkp.to lo) (Nat.le_refl _)
          exact enter_ok (kd := .deferred) (ck := .deferred) (acs := ⟨fi, tm, todo, dfs, mode⟩ :: cs) (accs := ⟨fn, ct, ctodo, cds, cmode, kind, ro⟩ :: ccs) H2 (hG.mono hle) ha trivial
            ⟨_, ccs, lo, rfl, by omega, by rw [show isRun mode = false from hm]; rfl, ⟨mkF hle (hdfs.mono fun _ _ => DefR.mono hle), body hle⟩, hF2⟩ (fun fr e => by rw [← hb]; exact botFn_congr (fr := ⟨fi, tm, todo, d :: dfs, mode⟩) (fr' := ⟨fi, tm, todo, dfs, mode⟩) rfl cs)
      | _ => trivial
theorem settleF_ok {lo hi : Nat} {fi : FI} {tm : Tm} {todo : List AItem} {mode : AMode} {dfs : List ADef} {cf : Frame} (hm : isRun mode = false) (F : FrR P E ρ h lo hi false ⟨fi, tm, todo, dfs, mode⟩ cf) :
    FrR P E ρ h lo hi true ⟨fi, tm, todo, dfs, settleA mode⟩ (settleF cf) := by
  obtain ⟨FB, FT⟩ := F
  obtain ⟨fn, ct, ctodo, ds, cmode, kind, ro⟩ := cf
  have hmo := FB.mode
  simp only at hmo
  cases mode with
  | run => cases hm
  | returning =>
    cases cmode <;> simp only [ModeR] at hmo
    exact ⟨FB, FT⟩
  | panicking ch =>
    have ht : TmR ρ tm ct := by
      rcases FT with ⟨e, _⟩ | FT
      · cases e
      · exact FT
    cases cmode <;> simp only [ModeR] at hmo
    rename_i cch
    cases ch with
    | nil =>
      have : cch = [] := hmo
      subst this
      exact ⟨FB, .inr ht⟩
    | cons a ch =>
      obtain ⟨pe, cch', rfl, ⟨hv, hrec, hgo⟩, hold⟩ := hmo
      obtain ⟨av, ar⟩ := a
      obtain ⟨pv, pr, pg⟩ := pe
      simp only at hrec hgo hv
      subst hrec hgo
      cases pr with
      | false => exact ⟨FB, .inr ht⟩
      | true =>
        have hdrop : ∀ {l : List APanic} {cl : List PanicEntry}, All2 (PanR ρ) l cl → cl.dropWhile (!·.goexit) = [] := by
          intro l
          induction l with
          | nil => intro cl h0; simp only [All2] at h0; subst h0; rfl
          | cons a l ih =>
            intro cl h0
            obtain ⟨b, m', rfl, h1, h2⟩ := h0
            rw [List.dropWhile_cons, if_pos (by rw [h1.2.2]; rfl)]
            exact ih h2
        have e : settleF ⟨fn, ct, ctodo, ds, .panicking (⟨pv, true, false⟩ :: cch'), kind, ro⟩ = ⟨fn, ct, ctodo, ds, .returning, kind, ro⟩ := by
          simp only [settleF, hdrop hold]
        rw [e]
        exact ⟨⟨FB.fn, FB.size, FB.nt, FB.kind, FB.ro, FB.dfs, trivial⟩, ht⟩
/-- one step -/
theorem step_ok (hE : EOk2 P E) (hK : KnownOk P E B w0) (hmix : P.follows .mixedOrders = true) {s : ASt} {m : Machine} (hs : StR P E B w0 cs0 f0 s m) : ResS P E B w0 cs0 f0 m (step P E s) := by
  obtain ⟨fr, cs, h, nx⟩ := s
  obtain ⟨ρ, lo, cf, ccs, w, rfl, H, hG, hlo, ⟨FB, FT⟩, hF, hb⟩ := hs
  obtain ⟨fi, tm, todo, dfs, mode⟩ := fr
  cases mode with
  | run =>
    show ResS P E B w0 cs0 f0 _ (stRun P E ⟨fi, dfs, cs⟩ h nx tm todo)
    have hcm : cf.mode = .run := FB.mode.run
    rw [frame_runF cf hcm]
    refine stRun_ok hE hK hmix (c := ⟨fi, dfs, cs⟩) ⟨FB.fn, FB.nt, FB.kind, FB.ro, FB.dfs, hlo, hF, fun fr e => ?_⟩ H hG FB.size FT
    rw [← hb]; exact botFn_congr (by rw [e]) cs
  | returning =>
    have ht : TmR ρ tm cf.tmps := FT
    show ResS P E B w0 cs0 f0 _ (stLeave P E fi tm todo dfs cs h nx)
    cases dfs with
    | cons d ds => exact unD_ok hE H hG hlo rfl FB ht hF hb
    | nil =>
      show ResS P E B w0 cs0 f0 _ (unRet P fi tm cs h nx)
      unfold unRet
      split
      · rename_i fn hf
        cases hr : resultsA P fn tm h with
        | none => trivial
        | some v =>
          show ResS P E B w0 cs0 f0 _ (doReturn fi.kind v cs h nx)
          obtain ⟨cv, hrun, hv⟩ := results_ok H ht hr
          obtain ⟨cfn, ct, ctodo, ds, cmode, kind, ro⟩ := cf
          have hds : ds = [] := FB.dfs
          subst hds
          have hmo := FB.mode
          simp only at hmo
          cases cmode <;> simp only [ModeR] at hmo
          have hfn : cfn = fi.fn := FB.fn
          subst hfn
          have hkd := FB.kind
          simp only at hkd
          unfold doReturn
          cases cs with
          | nil =>
            have : ccs = [] := hF
            subst this
            cases hk : fi.kind with
            | deferred => trivial
            | normal =>
              rw [hk] at hkd
              cases kind <;> simp only [KindR] at hkd
              exact ⟨_, w, ρ, cv, nx, .refl P _, hb, ⟨rfl, rfl, rfl, fn, hf, hrun⟩, hv, H⟩
          | cons c cs =>
            obtain ⟨ccf, ccs', lo', rfl, hlo', hcm, hC, hCs⟩ := hF
            have hC' := hC.mono (Rho.le_refl ρ) (KeepsTo.refl _ _ _) hlo
            cases hk : fi.kind with
            | deferred =>
              rw [hk] at hkd hcm
              cases kind <;> simp only [KindR] at hkd
              obtain ⟨fi', tm', todo', dfs', mode'⟩ := c
              exact ⟨_, .one (st_returnD hf hrun), ρ, lo', _, ccs', w, rfl, H, hG, by omega, settleF_ok hcm hC', hCs, by rw [← hb]; exact botFn_congr (fr := ⟨fi', tm', todo', dfs', mode'⟩) (fr' := ⟨fi', tm', todo', dfs', settleA mode'⟩) rfl cs⟩
            | normal =>
              rw [hk] at hkd hcm
              cases kind <;> simp only [KindR] at hkd
              simp only
              rcases finish_ok hcm hC' hv (goNext cs h nx) with h3 | ⟨fr', h3, h4, h5, _⟩
              · exact ResS.fail h3
              · rw [h3]
                exact ⟨_, .one (st_return hf hrun), ρ, lo', _, ccs', w, rfl, H, hG, by omega, h4, by rw [h5]; exact hCs, by rw [← hb]; exact botFn_congr (by rw [h5]) cs⟩
      · trivial
  | panicking chain =>
    show ResS P E B w0 cs0 f0 _ (stPan P E fi tm todo dfs cs h nx chain)
    cases dfs with
    | cons d ds =>
      have ht : TmR ρ tm cf.tmps := by
        rcases FT with ⟨_, e⟩ | FT
        · cases e
        · exact FT
      exact unD_ok hE H hG hlo rfl FB ht hF hb
    | nil =>
      unfold stPan
      simp only
      split
      · rename_i fn hf
        unfold unPan
        cases cs with
        | nil => trivial
        | cons c cs =>
          obtain ⟨ccf, ccs', lo', rfl, hlo', hcm, hC, hCs⟩ := hF
          have hC' := hC.mono (Rho.le_refl ρ) (KeepsTo.refl _ _ _) hlo
          obtain ⟨cfn, ct, ctodo, ds, cmode, kind, ro⟩ := cf
          have hds : ds = [] := FB.dfs
          subst hds
          have hmo := FB.mode
          simp only at hmo
          cases cmode <;> simp only [ModeR] at hmo
          have hfn : cfn = fi.fn := FB.fn
          subst hfn
          refine ResS.steps (.one (st_raise (by rw [hf]; rfl))) ?_
          exact raise_ok H hG (by omega) hC' hCs hb hmo
      · trivial
/-- many steps -/
theorem run_ok (hE : EOk2 P E) (hK : KnownOk P E B w0) (hmix : P.follows .mixedOrders = true) : ∀ (n : Nat) {s : ASt} {m : Machine}, StR P E B w0 cs0 f0 s m → ResS P E B w0 cs0 f0 m (run P E n s)
  | 0, s, m, hs => ⟨m, .refl P _, hs⟩
  | n + 1, s, m, hs => by
    have h1 := step_ok hE hK hmix hs
    have e : run P E (n + 1) s = match step P E s with | .next s => run P E n s | .done v h => .done v h | .fail w => .fail w := by
      show SRes.rec (motive := fun _ => SRes) (run P E n) (fun v h => .done v h) (fun w => .fail w) (step P E s) = _
      cases step P E s <;> rfl
    rw [e]
    cases hst : step P E s with
    | next s' =>
      rw [hst] at h1
      obtain ⟨m', h2, h3⟩ := h1
      exact ResS.steps h2 (run_ok hE hK hmix n h3)
    | done v h => rw [hst] at h1; exact h1
    | fail c => trivial
/-- a call, from a function's entry on -/
def callA (P : Program) (E : Env) (n : Nat) (f : FuncId) (args : List AV) (h : Heap) (nx : Nat) : SRes := enter P f args .normal fun fr => run P E n (.mk fr [] h nx)
theorem enter_K (f : FuncId) (args : List AV) (kd : AKind) (K : AFrame → SRes) : (∃ c, enter P f args kd K = .fail c) ∨ ∃ fr, enter P f args kd K = K fr ∧ enter P f args kd (goNext [] h nx) = .next (.mk fr [] h nx) := by
  unfold enter
  split
  · split
    · split
      · rename_i fn _ c _ hcond
        rw [Bool.and_eq_true, Nat.ble_eq, Nat.ble_eq] at hcond
        obtain ⟨tm', h1, _⟩ := setArgs_ok args 0 Tm.empty (by omega)
        rw [h1, h1]
        exact .inr ⟨_, rfl, rfl⟩
      · exact .inl ⟨_, rfl⟩
    · exact .inl ⟨_, rfl⟩
  · exact .inl ⟨_, rfl⟩
/-- THE ABSTRACT MACHINE IS SOUND: where it comes to an end, the call returns. -/
theorem sound (hE : EOk2 P E) (hK : KnownOk P E B w0) (hmix : P.follows .mixedOrders = true) (H : HR B w0 ρ h nx w) (hG : GlobR E ρ) {f : FuncId} {args : List AV} {cargs : Array Value} (ha : VRs ρ args cargs.toList) {n : Nat} {v : AV} {h' : Heap}
    (hr : callA P E n f args h nx = .done v h') : Calls P f cargs w (fun e w' => ∃ ρ' nx' cv, e = .returned cv ∧ VR ρ' v cv ∧ HR B w0 ρ' h' nx' w') := by
  intro cs0
  have h1 := enter_ok (P := P) (E := E) (B := B) (w0 := w0) (cs0 := cs0) (f0 := f) (f := f) (kd := .normal) (ck := .normal) (acs := []) (accs := []) H hG ha trivial rfl (fun fr e => e)
  unfold callA at hr
  rcases enter_K (P := P) (h := h) (nx := nx) f args .normal (fun fr => run P E n (.mk fr [] h nx)) with ⟨c, e⟩ | ⟨fr, e1, e2⟩
  · rw [e] at hr; cases hr
  · rw [e1] at hr
    rw [e2] at h1
    obtain ⟨m', hst, hs⟩ := h1
    have h2 := ResS.steps hst (run_ok hE hK hmix n hs)
    rw [hr] at h2
    obtain ⟨cf, w', ρ', cv, nx', g1, g2, g3, g4, g5⟩ := h2
    exact ⟨.returned cv, w', cf, ⟨ρ', nx', cv, rfl, g4, g5⟩, g1, g2, g3⟩
end
end Go.Abs
namespace Go.Abs
noncomputable section
variable {P : Program} {E : Env} {B : Nat} {w0 : World} {ρ ρ' ρ0 : Rho} {h h' h0 : Heap} {nx nx' nx0 : Nat} {w w' : World}
def resV : SRes → Option AV
  | .done v _ => some v
  | _ => none
/-- the value of a call -/
def callV (P : Program) (E : Env) (n : Nat) (f : FuncId) (args : List AV) (h : Heap) (nx : Nat) : Option AV := resV (callA P E n f args h nx)
theorem callV_some {n : Nat} {f : FuncId} {args : List AV} {v : AV} (hv : callV P E n f args h nx = some v) : ∃ h', callA P E n f args h nx = .done v h' := by
  unfold callV at hv
  cases hc : callA P E n f args h nx with
  | done v' h' => rw [hc] at hv; injection hv with hv; subst hv; exact ⟨h', rfl⟩
  | next s => rw [hc] at hv; cases hv
  | fail c => rw [hc] at hv; cases hv
/-! values without names -/
mutual
def AV.closed : AV → Bool
  | .bool _ => true
  | .int _ _ => true
  | .flt _ _ => true
  | .str _ _ => true
  | .ptr _ _ => false
  | .nilp => true
  | .slc _ _ _ _ => false
  | .slcN => true
  | .map _ => false
  | .mapN => true
  | .fn _ _ _ => false
  | .fnN => true
  | .ifc _ v => AV.closed v
  | .ifcN => true
  | .agg l => AV.closeds l
  | .tup l => AV.closeds l
def AV.closeds : List AV → Bool
  | [] => true
  | a :: l => AV.closed a && AV.closeds l
end
mutual
theorem closed_VR : ∀ (a : AV) {v : Value}, a.closed = true → VR ρ a v → VR ρ' a v
  | .bool _, _, _, h => by simpa only [VR] using h
  | .int _ _, _, _, h => by simpa only [VR] using h
  | .flt _ _, _, _, h => by simpa only [VR] using h
  | .str _ _, _, _, h => by simpa only [VR] using h
  | .ptr _ _, _, hc, _ => by simp [AV.closed] at hc
  | .nilp, _, _, h => by simpa only [VR] using h
  | .slc _ _ _ _, _, hc, _ => by simp [AV.closed] at hc
  | .slcN, _, _, h => by simpa only [VR] using h
  | .map _, _, hc, _ => by simp [AV.closed] at hc
  | .mapN, _, _, h => by simpa only [VR] using h
  | .fn _ _ _, _, hc, _ => by simp [AV.closed] at hc
  | .fnN, _, _, h => by simpa only [VR] using h
  | .ifc _ x, _, hc, h => by
    simp only [AV.closed] at hc
    simp only [VR] at h ⊢
    obtain ⟨y, e, hx⟩ := h
    exact ⟨y, e, closed_VR x hc hx⟩
  | .ifcN, _, _, h => by simpa only [VR] using h
  | .agg l, _, hc, h => by
    simp only [AV.closed] at hc
    simp only [VR] at h ⊢
    obtain ⟨c, e, hl, h1⟩ := h
    exact ⟨c, e, closed_VRs l hc hl, h1⟩
  | .tup l, _, hc, h => by
    simp only [AV.closed] at hc
    simp only [VR] at h ⊢
    obtain ⟨c, e, hl⟩ := h
    exact ⟨c, e, closed_VRs l hc hl⟩
theorem closed_VRs : ∀ (l : List AV) {m : List Value}, AV.closeds l = true → VRs ρ l m → VRs ρ' l m
  | [], _, _, h => by simpa only [VRs] using h
  | a :: l, _, hc, h => by
    simp only [AV.closeds, Bool.and_eq_true] at hc
    simp only [VRs] at h ⊢
    obtain ⟨v, m', e, ha, hl⟩ := h
    exact ⟨v, m', e, closed_VR a hc.1 ha, closed_VRs l hc.2 hl⟩
end
/-- where the old blocks are as they were, the abstract machine may begin anew -/
theorem HR.again (H : HR B w0 ρ0 h0 nx0 w0) (hB : B = w0.heap.size) (hs : B ≤ w.heap.size) (hh : ∀ b, b < B → w.heap[b]? = w0.heap[b]?) : HR w.heap.size w ρ0 h0 nx0 w := by
  have lt : ∀ {nm b}, ρ0 nm = some b → b < B := fun hb => by rw [hB]; exact H.blk _ _ hb
  refine ⟨fun nm a b hg hb => ?_, fun nm _ _ _ b _ _ hb _ hBb => absurd (lt hb) (by omega), fun nm a b hg hb _ => H.own nm a b hg hb (lt hb), H.new, fun _ _ => rfl, Nat.le_refl _, fun nm b hb => Nat.lt_of_lt_of_le (lt hb) hs, fun b k hb => ?_, fun nm c cnt es e wh ro b k arr fz hg hb hk ho => ?_, WS.refl w, fun nm hn => ?_⟩
  · obtain ⟨o, h1, h2⟩ := H.obj nm a b hg hb
    exact ⟨o, by rw [hh b (lt hb)]; exact h1, h2⟩
  · have := H.capb b k hb
    rw [← hB] at this
    omega
  · rw [hh b (lt hb)] at ho
    exact H.cap nm c cnt es e wh ro b k arr fz hg hb hk ho
  · obtain ⟨b, h1, h2⟩ := H.sh nm hn
    exact ⟨b, h1, by omega⟩
/-- a call's value, by a run -/
def Fact (P : Program) (E : Env) (h0 : Heap) (nx0 : Nat) (f : FuncId) (as : List AV) (v : AV) : Prop := (AV.closeds as && v.closed) = true ∧ ∃ n, callV P E n f as h0 nx0 = some v
def knownOf : List (FuncId × List (List AV × AV)) → FuncId → List (List AV × AV)
  | [], _ => []
  | x :: l, f => match Nat.beq f x.1 with
    | true => x.2
    | false => knownOf l f
theorem knownOf_mem {f : FuncId} {y : List AV × AV} : ∀ {l : List (FuncId × List (List AV × AV))}, y ∈ knownOf l f → ∃ x ∈ l, x.1 = f ∧ y ∈ x.2
  | [], h => by cases h
  | x :: l, h => by
    unfold knownOf at h
    split at h
    · rename_i hb
      exact ⟨x, by simp, (Nat.eq_of_beq_eq_true hb).symm, h⟩
    · obtain ⟨z, h1, h2⟩ := knownOf_mem h
      exact ⟨z, by simp [h1], h2⟩
def Env.with (E : Env) (l : List (FuncId × List (List AV × AV))) : Env := { E with known := knownOf l }
theorem EOk2.with (hE : EOk2 P E) (l : List (FuncId × List (List AV × AV))) : EOk2 P (E.with l) :=
  { plain := hE.plain, lies := hE.lies, idx := hE.idx, same := hE.same, method := hE.method, count := hE.count, atom := hE.atom }
theorem fact_body {f : FuncId} {as : List AV} {v : AV} {n : Nat} (hv : callV P E n f as h0 nx0 = some v) : ∃ fn c, P.funcs[f]? = some fn ∧ fn.body = some c := by
  obtain ⟨h', hc⟩ := callV_some hv
  unfold callA enter at hc
  split at hc
  · rename_i fn hf
    split at hc
    · rename_i c hb
      exact ⟨fn, c, hf, hb⟩
    · cases hc
  · cases hc
/-- what runs have shown may be known in later runs -/
theorem KnownOk.next (hE : EOk2 P E) (hK : KnownOk P E B w0) (hmix : P.follows .mixedOrders = true) (H : HR B w0 ρ0 h0 nx0 w0) (hB : B = w0.heap.size) (hG : GlobR E ρ0) {l : List (FuncId × List (List AV × AV))} (hl : ∀ x ∈ l, ∀ y ∈ x.2, Fact P E h0 nx0 x.1 y.1 y.2) : KnownOk P (E.with l) B w0 := by
  refine ⟨fun f as v hm => ?_, fun f as v hm w hs hh ρ cargs ha => ?_⟩
  · obtain ⟨x, hx, rfl, hy⟩ := knownOf_mem hm
    obtain ⟨_, n, hv⟩ := hl x hx _ hy
    exact fact_body hv
  · obtain ⟨x, hx, rfl, hy⟩ := knownOf_mem hm
    obtain ⟨hc, n, hv⟩ := hl x hx _ hy
    rw [Bool.and_eq_true] at hc
    obtain ⟨h', hr⟩ := callV_some hv
    have H' := H.again hB hs hh
    have hK' : KnownOk P E w.heap.size w := ⟨hK.body, fun f as v hm w' hs' hh' => hK.run f as v hm w' (Nat.le_trans hs hs') (fun b hb => by rw [hh' b (Nat.lt_of_lt_of_le hb hs), hh b hb])⟩
    refine (sound hE hK' hmix H' hG (closed_VRs (ρ := ρ) (ρ' := ρ0) _ hc.1 ha) hr).mono fun e w' ⟨ρ', nx', cv, he, hv, Hw⟩ => ?_
    exact ⟨cv, he, closed_VR _ hc.2 hv, Hw.ws, Hw.size, Hw.old⟩
/-- nothing is known yet -/
theorem KnownOk.none (hn : ∀ f, E.known f = []) : KnownOk P E B w0 :=
  ⟨(fun f as v hm => by rw [hn] at hm; cases hm), (fun f as v hm => by rw [hn] at hm; cases hm)⟩
/-- a start without variables -/
def rho0 : Rho := ⟨fun _ => Option.none, fun _ => Option.none, fun _ => 0⟩
theorem HR.start (w : World) : HR w.heap.size w rho0 .leaf 0 w :=
  ⟨(fun _ _ _ _ hb => by cases hb), (fun _ _ _ _ _ _ _ hb => by cases hb), (fun _ _ _ _ hb => by cases hb), fun _ _ => ⟨T.get_leaf _, rfl⟩, fun _ _ => rfl, Nat.le_refl _, (fun _ _ hb => by cases hb), (fun _ _ hb => by cases hb), (fun _ _ _ _ _ _ _ _ _ _ _ _ hb => by cases hb), WS.refl w, fun _ h => absurd rfl h⟩
end
end Go.Abs
namespace Go.Abs
noncomputable section
variable {P : Program} {E : Env} {B : Nat} {w0 : World} {ρ ρ' ρ0 : Rho} {h h' h0 : Heap} {nx nx' nx0 : Nat} {w w' : World} {cs0 : List Frame} {f0 : FuncId}
/-! states in writing -/
/-- a part of a function's code, by its path -/
def subCode : List Nat → Code → Code
  | [], c => c
  | i :: p, c => match c with
    | .seq a b => match i with
      | 0 => subCode p a
      | _ => subCode p b
    | .cond _ a b => match i with
      | 0 => subCode p a
      | _ => subCode p b
    | .block _ a => subCode p a
    | .loop a => subCode p a
    | .scope a => subCode p a
    | .rangeFunc _ _ a b => match i with
      | 0 => subCode p a
      | _ => subCode p b
    | c => c
def codeAt (P : Program) (f : FuncId) (p : List Nat) : Code :=
  match P.funcs[f]? with
  | some fn => match fn.body with
    | some c => subCode p c
    | none => .skip
  | none => .skip
def opsAt (P : Program) (f : FuncId) (p : List Nat) : Array Oper :=
  match codeAt P f p with
  | .region _ ops _ => ops
  | _ => #[]
/-- a region's operations, from number 'k' on -/
def rgAt (P : Program) (f : FuncId) (p : List Nat) (k : Nat) : AItem := .rg (opsAt P f p) ((opsAt P f p).toList.drop k)
def heapOf : List (Nat × AObj) → Heap
  | [] => .leaf
  | x :: l => T.setK (pathOf x.1) (heapOf l) (some x.2) fun h => h
/-- some blocks alone -/
def restrict : List Nat → Heap → Heap
  | [], _ => .leaf
  | n :: l, h => match h.get n with
    | some ob => T.setK (pathOf n) (restrict l h) (some ob) fun h => h
    | none => restrict l h
theorem restrict_get (h : Heap) : ∀ (l : List Nat) (n : Nat), (restrict l h).get n = none ∨ (restrict l h).get n = h.get n
  | [], n => .inl (T.get_leaf n)
  | m :: l, n => by
    unfold restrict
    split
    · rename_i ob hg
      rw [T.setK_eq, T.get_set]
      by_cases e : n = m
      · rw [if_pos e, e]; exact .inr hg.symm
      · rw [if_neg e]; exact restrict_get h l n
    · exact restrict_get h l n
def hasN (h : Heap) (nm : Nat) : Bool :=
  match h.get nm with
  | some _ => true
  | none => false
/-- the row that an operation has made is still there -/
def stillA (h : Heap) (v : AV) : Bool :=
  match v with
  | .ptr nm _ => hasN h nm
  | .slc nm _ _ _ => hasN h nm
  | .map nm => hasN h nm
  | _ => true
def stillL (h : Heap) (tm : Tm) (dst : Option Tmp) : Bool :=
  match dst with
  | some d => match Nat.ble (d + 1) 512 with
    | true => stillA h (Tm.at (slotOf d) tm)
    | false => false
  | none => false
/-- what operations of these have made is still there -/
def stillAll (P : Program) (E : Env) (h : Heap) (tm : Tm) : List Oper → Bool
  | [] => true
  | o :: l => match compG P E o with
    | .l _ => match stillL h tm o.dst with
      | true => stillAll P E h tm l
      | false => false
    | _ => stillAll P E h tm l
/-- what a caller has still to do asks nothing else of the heap -/
def quiet (P : Program) (E : Env) (h : Heap) (tm : Tm) (todo : List AItem) : Bool :=
  match todo with
  | .dr ops _ _ :: _ => stillAll P E h tm ops.toList
  | .dv _ _ _ :: _ => false
  | _ => true
def noneDrawn (P : Program) (E : Env) (h : Heap) : List AFrame → Bool
  | [] => true
  | c :: cs => match quiet P E h c.tm c.todo with
    | true => noneDrawn P E h cs
    | false => false
def cutS (keep : List Nat) (fr : AFrame) (cs : List AFrame) (h : Heap) (nx : Nat) : Bool → SRes
  | true => .next (.mk fr cs (restrict keep h) nx)
  | false => .fail 80
def cutT (P : Program) (E : Env) (keep : List Nat) (fr : AFrame) (cs : List AFrame) (h : Heap) (nx : Nat) : Bool → SRes
  | true => .fail 82
  | false => cutS keep fr cs h nx (noneDrawn P E (restrict keep h) cs)
/-- the run is cut here; what is not used any more is left out -/
def cut (P : Program) (E : Env) (keep : List Nat) : SRes → SRes
  | .next (.mk fr cs h nx) => cutT P E keep fr cs h nx (isDrawn fr.todo)
  | .done _ _ => .fail 81
  | .fail c => .fail c
theorem HR.less (H : HR B w0 ρ h nx w) (hh : ∀ n, h'.get n = none ∨ h'.get n = h.get n) : HR B w0 ρ h' nx w := by
  have key : ∀ {n x}, h'.get n = some x → h.get n = some x := fun {n x} hg => by
    rcases hh n with e | e
    · rw [e] at hg; cases hg
    · rw [← e]; exact hg
  refine ⟨fun n x b hg hb => H.obj n x b (key hg) hb, fun n n' x x' b hg hg' hb hb' => H.inj n n' x x' b (key hg) (key hg') hb hb', fun n x b hg hb => H.own n x b (key hg) hb, fun n hl => ⟨?_, (H.new n hl).2⟩, H.old, H.size, H.blk, H.capb,
    fun n c cnt es e wh ro b k arr fz hg hb hk ho => H.cap n c cnt es e wh ro b k arr fz (key hg) hb hk ho, H.ws, H.sh⟩
  rcases hh n with e | e
  · exact e
  · rw [e]; exact (H.new n hl).1
theorem TodoR.anyHeap {lo hi : Nat} {top : Bool} {todo : List AItem} {tm : Tm} {ctodo : List Item} {ct : Array Value} (hd : isDrawn todo = false) (H : TodoR P E ρ h lo hi top todo tm ctodo ct) : TodoR P E ρ h' lo hi top todo tm ctodo ct :=
  (TodoR.plain hd).2 ((TodoR.plain hd).1 H)
theorem stillAll_mem {tm : Tm} : ∀ {l : List Oper}, stillAll P E h tm l = true → ∀ o ∈ l, ∀ q, compG P E o = .l q → stillL h tm o.dst = true
  | [], _, o, ho, _, _ => by cases ho
  | a :: l, hs, o, ho, q, hq => by
    unfold stillAll at hs
    rcases List.mem_cons.1 ho with rfl | ho
    · rw [hq] at hs
      simp only at hs
      split at hs
      · assumption
      · cases hs
    · split at hs
      · split at hs
        · exact stillAll_mem hs o ho q hq
        · cases hs
      · exact stillAll_mem hs o ho q hq
theorem allocV_name {tm : Tm} {nm : Nat} {q : LOp} {v : AV} {ob : AObj} (h : allocV tm nm q = some (v, ob)) : (∃ k, v = .ptr nm k) ∨ (∃ x y z, v = .slc nm x y z) ∨ v = .map nm := by
  unfold allocV at h
  cases q with
  | new e l =>
    simp only [allocK] at h
    cases l with
    | nil => cases h
    | cons a l => injection h with h; injection h with h; exact .inl ⟨0, h.symm⟩
  | box e x =>
    simp only [allocK] at h
    cases hl : (ov tm x).cells with
    | nil => rw [hl] at h; cases h
    | cons a l => rw [hl] at h; injection h with h; injection h with h; exact .inl ⟨0, h.symm⟩
  | bsl e size len z ps =>
    simp only [allocK] at h
    cases hb : bslA tm size ps (repeatL z len) with
    | none => rw [hb] at h; cases h
    | some ls =>
      rw [hb] at h
      simp only [bslK, rowK, T.fillK_eq] at h
      injection h with h; injection h with h
      exact .inr (.inl ⟨_, _, _, h.symm⟩)
  | mkm => injection h with h; injection h with h; exact .inr (.inr h.symm)
  | mks e size b z l c =>
    simp only [allocK] at h
    unfold mksK at h
    split at h
    · split at h
      · simp only [rowK, T.fillK_eq] at h
        injection h with h; injection h with h
        exact .inr (.inl ⟨_, _, _, h.symm⟩)
      · cases h
    · cases h
  | s2b e x =>
    simp only [allocK] at h
    unfold s2bK at h
    split at h
    · simp only [rowK, T.fillK_eq] at h
      injection h with h; injection h with h
      exact .inr (.inl ⟨_, _, _, h.symm⟩)
    · cases h
  | rng x =>
    simp only [allocK] at h
    unfold rngK at h
    split at h
    · injection h with h; injection h with h
      exact .inl ⟨_, h.symm⟩
    · cases h
theorem DrawnR.anyHeap {lo hi : Nat} {ops : Array Oper} {p0 A plan pend : List (Nat × Oper)} {L0 C L : List Nat} {N : Nat → Option Nat} {tm : Tm} {ct : Array Value} (hh : ∀ n, h'.get n = none ∨ h'.get n = h.get n) (ha : stillAll P E h' tm ops.toList = true)
    (H : DrawnR P E ρ h lo hi false ops p0 A plan pend L0 C L N tm ct) : DrawnR P E ρ h' lo hi false ops p0 A plan pend L0 C L N tm ct := by
  refine ⟨H.reg, H.hp, H.hL, H.sub, H.slots, H.inj, H.bnd, fun x hx hl => ?_, H.dst⟩
  obtain ⟨h1, tm0, v, h2, h3, h4⟩ := H.pend x hx hl
  refine ⟨h1, tm0, v, h2, h3, ?_⟩
  rcases h4 with h4 | ⟨hw, h4 | ⟨q, h5, h6, _⟩ | ⟨q, nm, ob, h5, h6, h7, h8, h9⟩⟩
  · exact .inl h4
  · exact .inr ⟨hw, .inl h4⟩
  · exact .inr ⟨hw, .inr (.inl ⟨q, h5, h6, fun e => by cases e⟩)⟩
  · refine .inr ⟨hw, .inr (.inr ⟨q, nm, ob, h5, h6, h7, ?_, h9⟩)⟩
    have hm : x ∈ p0 := by rw [H.hp]; exact List.mem_append_left _ hx
    have := H.reg.opP x hm
    obtain ⟨hlt, he⟩ := Array.getElem?_eq_some_iff.1 this
    have hs := stillAll_mem ha x.2 (by rw [← he]; exact Array.getElem_mem_toList hlt) q h5
    unfold stillL at hs
    have key : hasN h' nm = true → h'.get nm = some ob := fun hk => by
      unfold hasN at hk
      split at hk
      · rename_i hg
        rcases hh nm with e | e
        · rw [e] at hg; cases hg
        · rw [e]; exact h8
      · cases hk
    split at hs
    · rename_i d hd
      split at hs
      · rename_i hb
        have h5d : d < 512 := Nat.le_of_ble_eq_true hb
        rw [h3 d h5d hd] at hs
        rcases allocV_name h7 with ⟨k, rfl⟩ | ⟨x, y, z, rfl⟩ | rfl
        · exact key hs
        · exact key hs
        · exact key hs
      · cases hs
    · cases hs
theorem TodoR.quietHeap {lo hi : Nat} {todo : List AItem} {tm : Tm} {ctodo : List Item} {ct : Array Value} (hh : ∀ n, h'.get n = none ∨ h'.get n = h.get n) (hd : quiet P E h' tm todo = true) (H : TodoR P E ρ h lo hi false todo tm ctodo ct) : TodoR P E ρ h' lo hi false todo tm ctodo ct := by
  unfold quiet at hd
  split at hd
  · rename_i ops plan pend k
    obtain ⟨i, o, plan', R, ck, h1, h2, h3, h4, p0, A, L0, C, N, h5⟩ := H
    exact ⟨i, o, plan', R, ck, h1, h2, h3, h4, p0, A, L0, C, N, h5.anyHeap hh hd⟩
  · cases hd
  · rename_i h1 h2
    refine H.anyHeap ?_
    cases todo with
    | nil => rfl
    | cons x k => cases x with
      | dr ops plan pend => exact absurd rfl (h1 ops plan pend k)
      | dv ops plan pend => exact absurd rfl (h2 ops plan pend k)
      | _ => rfl
theorem FrR.anyHeap {lo hi : Nat} {top : Bool} {fr : AFrame} {cf : Frame} (hd : isDrawn fr.todo = false) (H : FrR P E ρ h lo hi top fr cf) : FrR P E ρ h' lo hi top fr cf := by
  obtain ⟨h1, h2⟩ := H
  refine ⟨h1, ?_⟩
  unfold BodyR at h2 ⊢
  split at h2
  · exact h2.anyHeap hd
  · exact h2
  · exact h2
theorem FrR.quietHeap {lo hi : Nat} {fr : AFrame} {cf : Frame} (hh : ∀ n, h'.get n = none ∨ h'.get n = h.get n) (hd : quiet P E h' fr.tm fr.todo = true) (H : FrR P E ρ h lo hi false fr cf) : FrR P E ρ h' lo hi false fr cf := by
  obtain ⟨h1, h2⟩ := H
  refine ⟨h1, ?_⟩
  unfold BodyR at h2 ⊢
  split at h2
  · exact h2.quietHeap hh hd
  · exact h2
  · exact h2
theorem FrsR.anyHeap (hh : ∀ n, h'.get n = none ∨ h'.get n = h.get n) : ∀ {cs : List AFrame} {ccs : List Frame} {hi : Nat} {kd : AKind}, noneDrawn P E h' cs = true → FrsR P E ρ h hi kd cs ccs → FrsR P E ρ h' hi kd cs ccs
  | [], _, _, _, _, H => H
  | fr :: cs, ccs, hi, kd, hn, H => by
    obtain ⟨cf, ccs', lo, h1, h2, h3, h4, h5⟩ := H
    unfold noneDrawn at hn
    split at hn
    · rename_i hd
      exact ⟨cf, ccs', lo, h1, h2, h3, h4.quietHeap hh hd, h5.anyHeap hh hn⟩
    · cases hn
theorem cutS_ok {keep : List Nat} {m : Machine} {r : SRes} (hr : ResS P E B w0 cs0 f0 m r) {s : ASt} (hc : cut P E keep r = .next s) : ∃ m', Steps P m m' ∧ StR P E B w0 cs0 f0 s m' := by
  cases r with
  | done v h => cases hc
  | fail c => cases hc
  | next s0 =>
    obtain ⟨fr, cs, h, nx⟩ := s0
    obtain ⟨m', hst, ρ, lo, cf, ccs, w, rfl, H, hG, hlo, F, hF, hb⟩ := hr
    simp only [cut] at hc
    cases hd : isDrawn fr.todo with
    | true => rw [hd] at hc; cases hc
    | false =>
    rw [hd] at hc
    simp only [cutT] at hc
    cases hn : noneDrawn P E (restrict keep h) cs with
    | false => rw [hn] at hc; cases hc
    | true =>
      rw [hn] at hc
      simp only [cutS] at hc
      injection hc with hc
      subst hc
      exact ⟨_, hst, ρ, lo, cf, ccs, w, rfl, H.less (restrict_get h keep), hG, hlo, F.anyHeap hd, hF.anyHeap (restrict_get h keep) hn, hb⟩
/-! where several entries of a map may come -/
theorem comp_nxm {o : Oper} {x : Opd} (hc : comp P E o = .c (.nxm x)) : ∃ it, o.op = .next it false ∧ opd it = some x := by
  obtain ⟨dst, op, type, pos, after, guard⟩ := o
  cases op <;> simp only [comp] at hc
  case next it s =>
    cases s
    · obtain ⟨y, hy, e⟩ := ofO_p (show ofO (fun x => COp.c (.nxm x)) .bad (opd it) = .c (.nxm x) from hc) c_ne
      injection e with e; injection e with e; subst e
      exact ⟨it, rfl, hy⟩
    · obtain ⟨y, hy, e⟩ := ofO_p (show ofO (fun x => COp.c (.nxt x)) .bad (opd it) = .c (.nxm x) from hc) c_ne
      injection e with e; cases e
  case call c =>
    unfold compCall at hc
    obtain ⟨callee, args, ats⟩ := c
    simp only at hc
    split at hc
    · rename_i b
      obtain ⟨args⟩ := args
      obtain ⟨ats⟩ := ats
      replace hc : compBuiltin P b args ats = .c (.nxm x) := hc
      unfold compBuiltin at hc
      split at hc
      · unfold compLen at hc
        (repeat' split at hc) <;> cases hc
      all_goals (repeat' split at hc)
      all_goals first
        | (cases hc; done)
        | (obtain ⟨_, _, e⟩ := ofO_p hc c_ne; cases e; done)
        | (obtain ⟨_, _, _, _, e⟩ := o2_p hc c_ne; cases e; done)
    all_goals first
      | (obtain ⟨_, _, e⟩ := ofO_p hc c_ne; cases e; done)
      | (obtain ⟨_, _, _, _, e⟩ := o2_p hc c_ne; cases e; done)
  all_goals
    try unfold compBuild at hc
    try unfold compBuildSlice at hc
    try unfold compBin at hc
    try unfold compConvert at hc
    try unfold compSlice at hc
    try unfold compIndexAddr at hc
    try unfold compIndex at hc
    try unfold compField at hc
    try unfold compFieldAddr at hc
    try unfold compDefer at hc
    try unfold compAssert at hc
    try unfold compMk at hc
  all_goals (repeat' split at hc)
  all_goals first
    | (cases hc; done)
    | (obtain ⟨_, _, e⟩ := ofO_p hc c_ne; cases e; done)
    | (obtain ⟨_, _, _, _, e⟩ := o2_p hc c_ne; cases e; done)
    | (obtain ⟨_, _, _, _, _, _, e⟩ := o3_p hc c_ne; cases e; done)
theorem forkE_mem {fi : FI} {tm : Tm} {todo : List AItem} {dfs : List ADef} {cs : List AFrame} {i : MIt} {e : AEntry} : ∀ {l : List AEntry}, e ∈ l → (comes i e h fun n h => apply P ⟨fi, tm, todo, dfs, .run⟩ cs n h nx) ∈ forkE P fi tm todo dfs cs h nx i l
  | a :: l, hm => by
    unfold forkE
    rcases List.mem_cons.1 hm with rfl | hm
    · exact List.mem_cons_self
    · exact List.mem_cons_of_mem _ (forkE_mem hm)
theorem fork_ok {s : ASt} {m : Machine} (hs : StR P E B w0 cs0 f0 s m) (hne : forkS P E s ≠ []) : ∃ r ∈ forkS P E s, ResS P E B w0 cs0 f0 m r := by
  obtain ⟨fr, cs, h, nx⟩ := s
  obtain ⟨ρ, lo, cf, ccs, w, rfl, H, hG, hlo, ⟨FB, FT⟩, hF, hb⟩ := hs
  obtain ⟨fi, tm, todo, dfs, mode⟩ := fr
  unfold forkS at hne ⊢
  split at hne
  · rename_i fi tm todo dfs cs h nx hst
    injection hst with e1 e2 e3 e4
    injection e1 with d1 d2 d3 d4 d5
    subst e2 e3 e4 d1 d2 d3 d4 d5
    split at hne
    · rename_i ops o rest k
      have hcm : cf.mode = .run := FB.mode.run
      have FT' : TodoR P E ρ h lo nx true (.rg ops (o :: rest) :: k) tm cf.todo cf.tmps := FT
      obtain ⟨hpl, ht⟩ := (TodoR.plain rfl).1 FT'
      obtain ⟨it0, ck, hck, hpr, hk⟩ := hpl
      rw [frame_runF cf hcm, hck]
      have hsz := FB.size
      have hnt := FB.nt
      have C : CtxR P E ρ h lo nx f0 ⟨fi, dfs, cs⟩ cf.fn cf.defers cf.kind cf.roundOf ccs := ⟨FB.fn, FB.nt, FB.kind, FB.ro, FB.dfs, hlo, hF, fun fr e => by rw [← hb]; exact botFn_congr (by rw [e]) cs⟩
      generalize cf.fn = fn at C ⊢
      generalize cf.tmps = ct at ht hsz ⊢
      generalize cf.defers = ds at C ⊢
      generalize cf.kind = kind at C ⊢
      generalize cf.roundOf = ro at C ⊢
      cases it0 <;> try (exact absurd hpr id)
      rename_i ops2 is2
      obtain ⟨e0, i, is', rfl, ho, ha'⟩ := hpr
      subst e0
      split at hne
      · rename_i hwa
        have hs5 : ct.size ≤ 512 := by
          have : ct.size = fi.nt := hsz
          have : fi.nt ≤ 512 := hnt
          omega
        have hw := wanted_ok hs5 (ht.ready ops2 o)
        rw [hwa] at hw
        unfold forkO at hne ⊢
        split at hne
        · rename_i it hq
          have hc := compG_some hq (by intro e; cases e)
          have sees := sees_all (ops := ops2) (ev := (opF fn ct ops2 i is' ck ds kind ro).eval) hq (by intro e; cases e) hG (ht.ready ops2 o) (fun _ => rfl) (fun _ => rfl) (fun _ => rfl) (fun _ => rfl)
          obtain ⟨cit, hop, hcit⟩ := comp_nxm hc.1
          have hi := sees cit (by rw [hop]; simp [Op.operands]) _ hcit
          unfold forkN at hne ⊢
          split at hne
          · rename_i mi hmi
            split at hne
            · exact absurd rfl hne
            · rename_i e0 l0 hl
              obtain ⟨e, he, hp⟩ := comes_ok (P := P) (ty := o.type) H hi hmi (by rw [hl]; intro e; cases e)
              rw [hl] at he
              have hp' : Post P B w0 ρ h nx w (execOp (opF fn ct ops2 i is' ck ds kind ro).eval o) (.val (entTup e)) (h.set (pathOf mi.nm) (some (.mit mi.m mi.since (mi.seen ++ [e.born]) mi.clock))) nx := by
                obtain ⟨dst, op, type, pos, after, guard⟩ := o
                simp only at hop
                subst hop
                exact hp.of_run rfl
              have pr : PlainR ρ (.rg ops2 (o :: rest)) (.inRegion ops2 (i :: is')) := ⟨rfl, All2.cons ho ha'⟩
              have tr : TodoR P E ρ h lo nx false (.rg ops2 (o :: rest) :: k) tm (.inRegion ops2 (i :: is') :: ck) ct := (TodoR.plain rfl).2 ⟨All2.cons pr hk, ht⟩
              have hres := apply_ok hG C.le rfl (C.frame hsz tr) ho hw C.frs (C.bot _ rfl) hp' (cs0 := cs0)
              refine ⟨_, forkE_mem he, ?_⟩
              simp only [comes, putAt, T.setK_eq]
              exact hres
          · exact absurd rfl hne
        · exact absurd rfl hne
      · exact absurd rfl hne
    · exact absurd rfl hne
  · exact absurd rfl hne
def cutL2 : SRes → Option (List ASt) → Option (List ASt)
  | .next s, some ss => some (s :: ss)
  | _, _ => none
def cutL (P : Program) (E : Env) (keep : List Nat) : List SRes → Option (List ASt)
  | [] => some []
  | r :: rs => cutL2 (cut P E keep r) (cutL P E keep rs)
theorem cutL_cons {keep : List Nat} {r : SRes} {rs : List SRes} {ss : List ASt} (h : cutL P E keep (r :: rs) = some ss) : ∃ s ss', ss = s :: ss' ∧ cut P E keep r = .next s ∧ cutL P E keep rs = some ss' := by
  unfold cutL at h
  cases h1 : cut P E keep r with
  | done v h' => rw [h1] at h; cases h
  | fail c => rw [h1] at h; cases h
  | next s =>
    rw [h1] at h
    cases h2 : cutL P E keep rs with
    | none => rw [h2] at h; cases h
    | some ss' =>
      rw [h2] at h
      injection h with h
      exact ⟨s, ss', h.symm, rfl, rfl⟩
theorem cutL_mem {keep : List Nat} {r : SRes} : ∀ {rs : List SRes} {ss : List ASt}, cutL P E keep rs = some ss → r ∈ rs → ∃ s ∈ ss, cut P E keep r = .next s
  | [], _, _, hr => by cases hr
  | a :: rs, ss, h, hr => by
    obtain ⟨s, ss', rfl, h1, h2⟩ := cutL_cons h
    rcases List.mem_cons.1 hr with rfl | hr
    · exact ⟨s, by simp, h1⟩
    · obtain ⟨s', h3, h4⟩ := cutL_mem h2 hr
      exact ⟨s', by simp [h3], h4⟩
/-- the pieces of a run -/
inductive Pieces (P : Program) (E : Env) : ASt → AV → Prop where
  | last {s : ASt} {v : AV} (n : Nat) (h : resV (run P E n s) = some v) : Pieces P E s v
  | more {s s' : ASt} {v : AV} (n : Nat) (keep : List Nat) (h : cut P E keep (run P E n s) = .next s') (t : Pieces P E s' v) : Pieces P E s v
  | fork {s s0 : ASt} {v : AV} (keep : List Nat) (ss : List ASt) (h : cutL P E keep (forkS P E s) = some (s0 :: ss)) (t : ∀ s' ∈ s0 :: ss, Pieces P E s' v) : Pieces P E s v
theorem resV_some {r : SRes} {v : AV} (h : resV r = some v) : ∃ h', r = .done v h' := by
  cases r with
  | done v' h' => injection h with h; subst h; exact ⟨h', rfl⟩
  | next s => cases h
  | fail c => cases h
theorem pieces_ok (hE : EOk2 P E) (hK : KnownOk P E B w0) (hmix : P.follows .mixedOrders = true) {s : ASt} {v : AV} (hp : Pieces P E s v) : ∀ {m : Machine}, StR P E B w0 cs0 f0 s m → ∃ h', ResS P E B w0 cs0 f0 m (.done v h') := by
  induction hp with
  | last n h =>
    intro m hs
    obtain ⟨h', e⟩ := resV_some h
    have := run_ok hE hK hmix n hs
    rw [e] at this
    exact ⟨h', this⟩
  | more n keep h t ih =>
    intro m hs
    obtain ⟨m', hst, hs'⟩ := cutS_ok (run_ok hE hK hmix n hs) h
    obtain ⟨h', hr⟩ := ih hs'
    exact ⟨h', hr.steps hst⟩
  | @fork s s0 v keep ss h t ih =>
    intro m hs
    have hne : forkS P E s ≠ [] := by
      intro e
      rw [e] at h
      cases h
    obtain ⟨r, hr, hres⟩ := fork_ok hs hne
    obtain ⟨s', hs', hc⟩ := cutL_mem h hr
    obtain ⟨m', hst, hst'⟩ := cutS_ok hres hc
    obtain ⟨h', hr'⟩ := ih s' hs' hst'
    exact ⟨h', hr'.steps hst⟩
/-- a call's value, by pieces of a run -/
theorem soundP (hE : EOk2 P E) (hK : KnownOk P E B w0) (hmix : P.follows .mixedOrders = true) (H : HR B w0 ρ h nx w) (hG : GlobR E ρ) {f : FuncId} {args : List AV} {cargs : Array Value} (ha : VRs ρ args cargs.toList) {n : Nat} {keep : List Nat} {s : ASt} {v : AV}
    (hc : cut P E keep (callA P E n f args h nx) = .next s) (hp : Pieces P E s v) : Calls P f cargs w (fun e w' => ∃ ρ' h' nx' cv, e = .returned cv ∧ VR ρ' v cv ∧ HR B w0 ρ' h' nx' w') := by
  intro cs0
  have h1 := enter_ok (P := P) (E := E) (B := B) (w0 := w0) (cs0 := cs0) (f0 := f) (f := f) (kd := .normal) (ck := .normal) (acs := []) (accs := []) H hG ha trivial rfl (fun fr e => e)
  unfold callA at hc
  rcases enter_K (P := P) (h := h) (nx := nx) f args .normal (fun fr => run P E n (.mk fr [] h nx)) with ⟨c, e⟩ | ⟨fr, e1, e2⟩
  · rw [e] at hc; cases hc
  · rw [e1] at hc
    rw [e2] at h1
    obtain ⟨m', hst, hs⟩ := h1
    obtain ⟨m2, hst2, hs2⟩ := cutS_ok (ResS.steps hst (run_ok hE hK hmix n hs)) hc
    obtain ⟨h', hr⟩ := pieces_ok hE hK hmix hp hs2
    obtain ⟨cf, w', ρ', cv, nx', g1, g2, g3, g4, g5⟩ := ResS.steps hst2 hr
    exact ⟨.returned cv, w', cf, ⟨ρ', h', nx', cv, rfl, g4, g5⟩, g1, g2, g3⟩
/-- a call's value, by one run or by pieces -/
inductive Runs (P : Program) (E : Env) (f : FuncId) (args : List AV) (h : Heap) (nx : Nat) (v : AV) : Prop where
  | one (n : Nat) (hv : callV P E n f args h nx = some v) : Runs P E f args h nx v
  | parts (n : Nat) (keep : List Nat) (s : ASt) (hc : cut P E keep (callA P E n f args h nx) = .next s) (hp : Pieces P E s v) : Runs P E f args h nx v
theorem Runs.calls (hE : EOk2 P E) (hK : KnownOk P E B w0) (hmix : P.follows .mixedOrders = true) (H : HR B w0 ρ h nx w) (hG : GlobR E ρ) {f : FuncId} {args : List AV} {cargs : Array Value} (ha : VRs ρ args cargs.toList) {v : AV} (hr : Runs P E f args h nx v) :
    Calls P f cargs w (fun e w' => ∃ ρ' h' nx' cv, e = .returned cv ∧ VR ρ' v cv ∧ HR B w0 ρ' h' nx' w') := by
  cases hr with
  | one n hv =>
    obtain ⟨h', hc⟩ := callV_some hv
    exact (sound hE hK hmix H hG ha hc).mono fun e w' ⟨ρ', nx', cv, h1, h2, h3⟩ => ⟨ρ', h', nx', cv, h1, h2, h3⟩
  | parts n keep s hc hp => exact soundP hE hK hmix H hG ha hc hp
theorem Runs.body {f : FuncId} {as : List AV} {v : AV} (hr : Runs P E f as h0 nx0 v) : ∃ fn c, P.funcs[f]? = some fn ∧ fn.body = some c := by
  cases hr with
  | one n hv => exact fact_body hv
  | parts n keep s hc hp =>
    unfold callA enter at hc
    split at hc
    · rename_i fn hf
      split at hc
      · rename_i c hb
        exact ⟨fn, c, hf, hb⟩
      · cases hc
    · cases hc
/-- a call's value, told -/
def FactR (P : Program) (E : Env) (h0 : Heap) (nx0 : Nat) (f : FuncId) (as : List AV) (v : AV) : Prop := (AV.closeds as && v.closed) = true ∧ Runs P E f as h0 nx0 v
theorem FactR.one {f : FuncId} {as : List AV} {v : AV} (n : Nat) (hc : (AV.closeds as && v.closed) = true) (hv : callV P E n f as h0 nx0 = some v) : FactR P E h0 nx0 f as v := ⟨hc, .one n hv⟩
/-- what runs have shown may be known in later runs -/
theorem KnownOk.nextR (hE : EOk2 P E) (hK : KnownOk P E B w0) (hmix : P.follows .mixedOrders = true) (H : HR B w0 ρ0 h0 nx0 w0) (hB : B = w0.heap.size) (hG : GlobR E ρ0) {l : List (FuncId × List (List AV × AV))} (hl : ∀ x ∈ l, ∀ y ∈ x.2, FactR P E h0 nx0 x.1 y.1 y.2) : KnownOk P (E.with l) B w0 := by
  refine ⟨fun f as v hm => ?_, fun f as v hm w hs hh ρ cargs ha => ?_⟩
  · obtain ⟨x, hx, rfl, hy⟩ := knownOf_mem hm
    exact (hl x hx _ hy).2.body
  · obtain ⟨x, hx, rfl, hy⟩ := knownOf_mem hm
    obtain ⟨hc, hr⟩ := hl x hx _ hy
    rw [Bool.and_eq_true] at hc
    have H' := H.again hB hs hh
    have hK' : KnownOk P E w.heap.size w := ⟨hK.body, fun f as v hm w' hs' hh' => hK.run f as v hm w' (Nat.le_trans hs hs') (fun b hb => by rw [hh' b (Nat.lt_of_lt_of_le hb hs), hh b hb])⟩
    refine (hr.calls hE hK' hmix H' hG (closed_VRs (ρ := ρ) (ρ' := ρ0) _ hc.1 ha)).mono fun e w' ⟨ρ', h', nx', cv, he, hv, Hw⟩ => ?_
    exact ⟨cv, he, closed_VR _ hc.2 hv, Hw.ws, Hw.size, Hw.old⟩
end
end Go.Abs
namespace Go.Abs
noncomputable section
def u1 : N4 AV := same4 undefA
def u2 : N4 (N4 AV) := same4 u1
def u3 : N4 (N4 (N4 AV)) := same4 u2
def q1 (a b c d : AV) : N4 AV := ⟨a, b, c, d⟩
def q2 (a b c d : N4 AV) : N4 (N4 AV) := ⟨a, b, c, d⟩
def q3 (a b c d : N4 (N4 AV)) : N4 (N4 (N4 AV)) := ⟨a, b, c, d⟩
def q8 (a b c d e f g h : N4 (N4 (N4 AV))) : Tm := ⟨a, b, c, d, e, f, g, h⟩
/-- a row's elements by their numbers -/
def mapOf : List (Nat × List AV) → T (List AV)
  | [] => .leaf
  | x :: l => T.setK (pathOf x.1) (mapOf l) (some x.2) fun h => h
/-- a row of whole elements -/
def rowOf (l : List (List AV)) (es : Nat) (e : TypeId) (whole ro : Bool) : AObj := .cells (T.ofList l) l.length es e whole ro
def rowOf1 (l : List AV) (e : TypeId) (whole ro : Bool) : AObj := .cells (T.ofList (singles l)) l.length 1 e whole ro
def cAt (P : Program) (f : FuncId) (p : List Nat) : AItem := .code (codeAt P f p)
def lAt (P : Program) (f : FuncId) (p : List Nat) : AItem := .inLoop (codeAt P f p)
def sAt (P : Program) (f : FuncId) (p : List Nat) : AItem := .inScope (codeAt P f p)
/-- operations by their numbers -/
def ixOps (ops : Array Oper) : List Nat → List (Nat × Oper)
  | [] => []
  | i :: l => match ops[i]? with
    | some o => (i, o) :: ixOps ops l
    | none => []
/-- a drawn region, by the numbers of what is still to be done -/
def drAt (P : Program) (f : FuncId) (p : List Nat) (plan pend : List Nat) : AItem := .dr (opsAt P f p) (ixOps (opsAt P f p) plan) (ixOps (opsAt P f p) pend)
def frOf (f nt : Nat) (kind : AKind) (ro : Option Nat) (tm : Tm) (todo : List AItem) (dfs : List ADef) (mode : AMode) : AFrame := ⟨⟨f, nt, kind, ro⟩, tm, todo, dfs, mode⟩
def iv (n : Nat) : AV := .int 0 (.ofNat n)
def loopOf (st : LoopState) (pending : Option Code) (fn : FuncId) (tm : Tm) (nt : Nat) (ps : List Tmp) (assign body : Code) (d : Nat) : AObj := .loop ⟨st, pending, fn, tm, nt, ps, assign, body, d⟩
end
end Go.Abs
namespace Go.Abs
noncomputable section
variable {P : Program} {E : Env} {B : Nat} {w0 : World} {ρ ρ' ρ0 : Rho} {h h' h0 : Heap} {nx nx' nx0 : Nat} {w w' : World}
/-- a call's value, of the program itself, in every world that has the old blocks -/
def Told (P : Program) (B : Nat) (w0 : World) (f : FuncId) (as : List AV) (v : AV) : Prop :=
  (∃ fn c, P.funcs[f]? = some fn ∧ fn.body = some c) ∧ ∀ (w : World), B ≤ w.heap.size → (∀ b, b < B → w.heap[b]? = w0.heap[b]?) → ∀ (ρ : Rho) (cargs : Array Value), VRs ρ as cargs.toList →
    Calls P f cargs w (fun e w' => ∃ cv, e = .returned cv ∧ VR ρ v cv ∧ WS w w' ∧ w.heap.size ≤ w'.heap.size ∧ ∀ b, b < w.heap.size → w'.heap[b]? = w.heap[b]?)
theorem FactR.told (hE : EOk2 P E) (hK : KnownOk P E B w0) (hmix : P.follows .mixedOrders = true) (H : HR B w0 ρ0 h0 nx0 w0) (hB : B = w0.heap.size) (hG : GlobR E ρ0) {f : FuncId} {as : List AV} {v : AV} (hf : FactR P E h0 nx0 f as v) : Told P B w0 f as v := by
  obtain ⟨hc, hr⟩ := hf
  refine ⟨hr.body, fun w hs hh ρ cargs ha => ?_⟩
  rw [Bool.and_eq_true] at hc
  have H' := H.again hB hs hh
  have hK' : KnownOk P E w.heap.size w := ⟨hK.body, fun f as v hm w' hs' hh' => hK.run f as v hm w' (Nat.le_trans hs hs') (fun b hb => by rw [hh' b (Nat.lt_of_lt_of_le hb hs), hh b hb])⟩
  refine (hr.calls hE hK' hmix H' hG (closed_VRs (ρ := ρ) (ρ' := ρ0) _ hc.1 ha)).mono fun e w' ⟨ρ', h', nx', cv, he, hv, Hw⟩ => ?_
  exact ⟨cv, he, closed_VR _ hc.2 hv, Hw.ws, Hw.size, Hw.old⟩
theorem KnownOk.told {l : List (FuncId × List (List AV × AV))} (hl : ∀ x ∈ l, ∀ y ∈ x.2, Told P B w0 x.1 y.1 y.2) : KnownOk P (E.with l) B w0 := by
  refine ⟨fun f as v hm => ?_, fun f as v hm => ?_⟩
  · obtain ⟨x, hx, rfl, hy⟩ := knownOf_mem hm
    exact (hl x hx _ hy).1
  · obtain ⟨x, hx, rfl, hy⟩ := knownOf_mem hm
    exact (hl x hx _ hy).2
theorem told_nil : ∀ x ∈ ([] : List (FuncId × List (List AV × AV))), ∀ y ∈ x.2, Told P B w0 x.1 y.1 y.2 := fun _ hx => by cases hx
theorem told_some {f : FuncId} {ys : List (List AV × AV)} {l : List (FuncId × List (List AV × AV))} (h1 : ∀ y ∈ ys, Told P B w0 f y.1 y.2) (h2 : ∀ x ∈ l, ∀ y ∈ x.2, Told P B w0 x.1 y.1 y.2) : ∀ x ∈ (f, ys) :: l, ∀ y ∈ x.2, Told P B w0 x.1 y.1 y.2 := fun x hx => by
  rcases List.mem_cons.1 hx with rfl | hx
  · exact h1
  · exact h2 x hx
theorem told_no {f : FuncId} : ∀ y ∈ ([] : List (List AV × AV)), Told P B w0 f y.1 y.2 := fun _ hy => by cases hy
theorem told_one {f : FuncId} {as : List AV} {v : AV} {ys : List (List AV × AV)} (h1 : Told P B w0 f as v) (h2 : ∀ y ∈ ys, Told P B w0 f y.1 y.2) : ∀ y ∈ (as, v) :: ys, Told P B w0 f y.1 y.2 := fun y hy => by
  rcases List.mem_cons.1 hy with rfl | hy
  · exact h1
  · exact h2 y hy
/-- what is true in every world: no variable is read -/
def ToldAll (P : Program) (f : FuncId) (as : List AV) (v : AV) : Prop := ∀ w : World, Told P w.heap.size w f as v
theorem FactR.all (hE : EOk2 P E) (hmix : P.follows .mixedOrders = true) (hK : ∀ w : World, KnownOk P E w.heap.size w) (hg : E.glob = 0) {f : FuncId} {as : List AV} {v : AV} (hf : FactR P E .leaf 0 f as v) : ToldAll P f as v := fun w =>
  hf.told hE (hK w) hmix (HR.start w) rfl (fun g hg' => by rw [hg] at hg'; exact absurd hg' (Nat.not_lt_zero _))
/-- the call of a function without arguments -/
theorem ToldAll.calls {f : FuncId} {b : Bool} (h : ToldAll P f [] (.bool b)) (w : World) : Calls P f #[] w (fun e w' => e = .returned (.bool b) ∧ WS w w' ∧ w.heap.size ≤ w'.heap.size ∧ ∀ i, i < w.heap.size → w'.heap[i]? = w.heap[i]?) := by
  refine ((h w).2 w (Nat.le_refl _) (fun _ _ => rfl) rho0 #[] VRs.nil).mono fun e w' ⟨cv, he, hv, h0, h1, h2⟩ => ?_
  simp only [VR] at hv
  subst hv
  exact ⟨he, h0, h1, h2⟩
end
end Go.Abs
namespace Go.Abs
noncomputable section
variable {P : Program} {E : Env}
theorem findByte_some : ∀ (l : List UInt8) (c i : Nat), findByte l.length (bytesNat l) c i = match l.findIdx? (fun b => b.toNat == c) with | some k => Int.ofNat (i + k) | none => -1
  | [], c, i => rfl
  | b :: l, c, i => by
    have hb := UInt8.toNat_lt b
    have h1 : Nat.mod (bytesNat (b :: l)) 256 = b.toNat := by
      rw [bytesNat_cons]
      show (b.toNat + 256 * bytesNat l) % 256 = _
      omega
    have h2 : Nat.div (bytesNat (b :: l)) 256 = bytesNat l := by
      rw [bytesNat_cons]
      show (b.toNat + 256 * bytesNat l) / 256 = _
      omega
    rw [List.length_cons, findByte, h1, h2, List.findIdx?_cons]
    cases hq : Nat.beq b.toNat c with
    | true =>
      have : b.toNat = c := Nat.eq_of_beq_eq_true hq
      simp [this]
    | false =>
      have hne : (b.toNat == c) = false := by
        rw [beq_eq_false_iff_ne]
        intro e; rw [e] at hq; simp at hq
      rw [hne]
      simp only [Bool.false_eq_true, if_false]
      rw [findByte_some l c (i + 1)]
      cases l.findIdx? (fun b => b.toNat == c) with
      | none => rfl
      | some k =>
        simp only [Option.map_some]
        congr 1; omega
theorem range_find (l : List UInt8) (d : UInt8) : (List.range l.length).find? (fun i => l.getD i 0 == d) = l.findIdx? (fun b => b == d) := by
  induction l with
  | nil => rfl
  | cons b l ih =>
    rw [List.length_cons, List.range_succ_eq_map, List.find?_cons, List.findIdx?_cons]
    simp only [List.getD_cons_zero]
    cases hb : b == d with
    | true => rfl
    | false =>
      simp only [Bool.false_eq_true, if_false]
      rw [List.find?_map, ← ih]
      rfl
theorem byte_get (s : ByteArray) (i : Nat) : s[i]! = s.data.toList.getD i 0 := by
  rw [List.getD_eq_getElem?_getD, Array.getElem?_toList]
  by_cases h : i < s.size
  · have h' : i < s.data.size := h
    rw [getElem!_pos s i h, Array.getElem?_eq_getElem h']
    rfl
  · have h' : s.data[i]? = none := by rw [Array.getElem?_eq_none_iff]; exact Nat.le_of_not_lt h
    rw [getElem!_neg s i h, h']
    rfl
theorem byte_eq (b : UInt8) (c : Nat) : (b == (Int.ofNat c).toNat.toUInt8) = (b.toNat == Nat.mod c 256) := by
  rw [Bool.eq_iff_iff, beq_iff_eq, beq_iff_eq, ← UInt8.toNat_inj]
  show b.toNat = (UInt8.ofNat c).toNat ↔ _
  rw [UInt8.toNat_ofNat']
  rfl
theorem firstIdx_eq (s : ByteArray) (c : Nat) : firstIdx s (Int.ofNat c).toNat.toUInt8 = findByte s.size (bytesNat s.data.toList) (Nat.mod c 256) 0 := by
  have hl : s.size = s.data.toList.length := by rw [Array.length_toList]; rfl
  rw [hl, findByte_some]
  unfold firstIdx
  have h1 : ((List.range s.size).find? fun i => s[i]! == (Int.ofNat c).toNat.toUInt8) = s.data.toList.findIdx? (fun b => b.toNat == Nat.mod c 256) := by
    rw [hl]
    have h2 := range_find s.data.toList (Int.ofNat c).toNat.toUInt8
    have h3 : (List.range s.data.toList.length).find? (fun i => s[i]! == (Int.ofNat c).toNat.toUInt8) = (List.range s.data.toList.length).find? (fun i => s.data.toList.getD i 0 == (Int.ofNat c).toNat.toUInt8) := by
      congr 1
      funext i
      rw [byte_get]
    rw [h3, h2]
    congr 1
    funext b
    exact byte_eq b c
  rw [h1]
  cases s.data.toList.findIdx? (fun b => b.toNat == Nat.mod c 256) with
  | none => rfl
  | some k => simp
/-- a function that looks for a byte -/
theorem idx_ok {f : FuncId} {fn : Func} (hf : P.funcs[f]? = some fn) (hname : (fn.name == "runtime.NumGoroutine") = false) (hb : fn.body.isNone = true) (hn : Extern.findNext fn = none) (he : Extern.find fn = some Extern.BytealgIndexByte.indexByte) (s : ByteArray) (c : Nat) (w : World) :
    ∃ w', (callFunc f #[.string s, .int .u8 (Int.ofNat c)]).run P w = .ok (.value (.int .i64 (findByte s.size (bytesNat s.data.toList) (Nat.mod c 256) 0))) w' ∧ HE w' w w.heap := by
  refine ⟨w, ?_, rfl, rfl, rfl⟩
  rw [run_callFunc_extern hf hname hb hn he, run_indexByte_string, firstIdx_eq]
  rfl
end
end Go.Abs
namespace Go.Abs
noncomputable section
variable {P : Program} {E : Env}
def noBlank (P : Program) (t : TypeId) : Bool :=
  match P.underlying t with
  | some (.struct fs) => fs.toList.all fun f => !(f.name == "_")
  | _ => true
def plainB (P : Program) (t : TypeId) : Bool := !(P.stoodInHeld t) && (!(P.eqGuardType P.depth t) && noBlank P t)
/-- what is told: functions that look for a byte, functions that hand back their argument, types with plain equality -/
def envOf (ixs sms : List FuncId) (pl : List TypeId) (glob : Nat) : Env :=
  { ext := fun f => match memN f ixs with
      | true => some .indexByte
      | false => match memN f sms with
        | true => some .same
        | false => none
    plainEq := fun t => memN t pl, method := fun _ _ => none, lies := fun _ _ _ _ => false, known := fun _ => [], glob := glob }
theorem allB {α : Type} {l : List α} {p : α → Bool} (h : l.all p = true) {a : α} (ha : a ∈ l) : p a = true := List.all_eq_true.1 h a ha
def IdxFn (P : Program) (f : FuncId) : Prop := ∃ fn, P.funcs[f]? = some fn ∧ (fn.name == "runtime.NumGoroutine") = false ∧ fn.body.isNone = true ∧ Extern.findNext fn = none ∧ Extern.find fn = some Extern.BytealgIndexByte.indexByte
def SameFn (P : Program) (f : FuncId) : Prop := ∀ (x : Value) (w : World), ∃ w', (callFunc f #[x]).run P w = .ok (.value x) w' ∧ HE w' w w.heap
def noCount (P : Program) : Bool := P.funcs.toList.all fun fn => !(fn.name == "runtime.NumGoroutine")
theorem envOf_ok {ixs sms : List FuncId} {pl : List TypeId} {glob : Nat} (hpl : pl.all (plainB P) = true) (hix : ∀ f ∈ ixs, IdxFn P f) (hsm : ∀ f ∈ sms, SameFn P f) (hn : noCount P = true) : EOk2 P (envOf ixs sms pl glob) where
  plain := fun t ht => by
    have hm : t ∈ pl := (memN_iff t pl).1 ht
    have hb := allB hpl hm
    unfold plainB at hb
    simp only [Bool.and_eq_true, Bool.not_eq_true'] at hb
    refine ⟨hb.1, hb.2.1, fun fs hu f hf e => ?_⟩
    have h2 := hb.2.2
    unfold noBlank at h2
    rw [hu] at h2
    have := allB h2 hf
    rw [e] at this
    simp at this
  lies := fun _ _ _ _ h => by cases h
  atom := fun f x hf hx => by
    simp only [envOf] at hf
    split at hf
    · injection hf with hf; subst hf; cases hx
    · split at hf
      · injection hf with hf; subst hf; cases hx
      · cases hf
  idx := fun f hf s c w => by
    have hm : f ∈ ixs := by
      rw [← memN_iff]
      cases hb : memN f ixs with
      | true => rfl
      | false =>
        simp only [envOf, hb] at hf
        split at hf <;> cases hf
    obtain ⟨fn, h1, h2, h3, h4, h5⟩ := hix f hm
    exact idx_ok h1 h2 h3 h4 h5 s c w
  same := fun f hf => by
    have hm : f ∈ sms := by
      rw [← memN_iff]
      cases hb : memN f sms with
      | true => rfl
      | false =>
        simp only [envOf, hb] at hf
        split at hf <;> cases hf
    exact hsm f hm
  method := fun _ _ _ _ _ h => by cases h
  count := fun f fn hf => by
    have : fn ∈ P.funcs.toList := by
      rw [Array.mem_toList_iff]
      exact Array.mem_of_getElem? hf
    have hb := allB hn this
    simpa using hb
/-- the frame of a call that only makes new blocks -/
theorem kept {w w' : World} (hws : WS w w') (hh : ∀ i, i < w.heap.size → w'.heap[i]? = w.heap[i]?) (may : MemPlace → Prop) : w.keptBut w' may := by
  refine ⟨hws.1, hws.2, fun i hi => ?_⟩
  rw [hh i hi]
  split <;> simp_all
end
end Go.Abs
