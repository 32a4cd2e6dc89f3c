/- The call that asks for a round; the loop over a function. No program. -/
import Derived.Test.YtffflnpidipheaaAb21
namespace Go.Ab
theorem yield_op {E : Env} {T1 Trow : Tm} {H H' : Heap} {d t n l D : Nat} {xs : Array Operand} {at_ : Array TypeId} {ty : TypeId} {pos : String} {af : Array Edge} {avs : List AV} {fn : FuncId} {assign body : Code} {ps : Array Tmp} {tm : Array Value}
    (ht : look T1 t = .s (.val (.func (.yield l) #[] #[]))) (hxs : xs.toList.map (ev T1) = avs) (hok : opOk E.n ⟨some d, .call ⟨.value (.tmp t), xs, at_⟩, ty, pos, af, none⟩ = true)
    (hrec : E.w0.heap[l]? = some (.loop { state := .ready, pending := none, fn, tmps := tm, params := ps, assign, body, defers := D })) (hWl : E.W l) (hTr : TRep E.ρ0 Trow { tmps := tm, defers := [] }) (htm : tm.size = n)
    (hps : ∀ p ∈ ps.toList, p < n) (hlen : ps.toList.length = avs.length) (hY : YRound E.P n assign body (roundT ps.toList avs Trow) H H') :
    ∀ a w, Rep E T1 H a w → ∀ (K : Act → World → Prop) (Q' : Exit → Act → World → Prop), (∀ a' w', Rep E ((d, .s (.bool true)) :: T1) H' a' w' → K a' w') → Oper.wpIn (FW none) 0 E.P ⟨some d, .call ⟨.value (.tmp t), xs, at_⟩, ty, pos, af, none⟩ a w K Q' := by
  intro a w ⟨ρ, h1, h2, h3, h4, h5, h6, h7⟩ K Q' hK
  refine ⟨fun _ _ => trivial, ?_⟩
  have hev : a.eval (.tmp t) = .func (.yield l) #[] #[] := by
    have := h4 t
    rw [ht] at this
    exact this.1
  have hops := opOk_ops hok h4
  have hl := h7.others l _ hrec rfl
  have hsz : (xs.map a.eval).size = ps.size := by
    have := congrArg List.length hxs
    simp at this
    simp; rw [this, ← hlen]; simp
  have hrun : ((Oper.semAt (FW none).round a.eval ⟨some d, .call ⟨.value (.tmp t), xs, at_⟩, ty, pos, af, none⟩).run E.P w) = .ok (.round l fn ((ps.zip (xs.map a.eval)).foldl (fun tmps (t, a) => tmps.setIfInBounds t a) tm) assign body) w := by
    rw [show (FW none).round = none from rfl, Oper.semAt_none]
    have hy := run_yield (P := E.P) (args := xs.map a.eval) hl hsz
    simp only [execOp, resolve]
    rw [hev]
    simp only [Deferred.ofValue, Array.empty_append, Sem.run_bind, Sem.run_pure, Result.andThen_ok, invoke]
    exact hy
  rw [hrun]
  refine ⟨fun e => (by cases e), ?_⟩
  refine (round_in hY h3 h2 (fun b hb => E.hW b (Nat.le_trans h7.size hb)) (hTr.le h1) htm hWl hl hps hlen (by have := congrArg List.length hxs; simpa using this.symm) (fun i x v hx hv => ?_)).mono ?_
  · subst hxs
    simp only [List.getElem?_map, Option.map_eq_some_iff] at hx
    obtain ⟨y, hy, rfl⟩ := hx
    have hy' : xs[i]? = some y := by simpa using hy
    have hv' : v = a.eval y := by
      have : (xs.map a.eval).toList[i]? = some (a.eval y) := by simp [hy']
      rw [this] at hv
      exact (Option.some.inj hv).symm
    subst hv'
    refine hops y ?_
    simp only [Op.operands, Call.operands]
    exact Array.mem_append.2 (.inr (Array.mem_of_getElem? hy'))
  · rintro e w' ⟨rfl, ρ', m1, m2, m3, m4⟩
    exact hK _ _ ⟨ρ', h1.trans m1, m2, m3, TRep.put (d := some d) (h4.le m1) (fun i hi => by rw [h5]; exact opOk_dst hok i hi) (show (AV.s (SV.bool true)).rep ρ' (.bool true) from rfl), (put_size _ _ _).trans h5, (by rw [put_defers]; exact h6.fr m4), h7.trans m4⟩
/-- What an iterator does with rounds, from heap to heap. -/
def Iter (E : Env) (gf : FuncId) (caps : List (Nat × Nat × Nat)) (ps : Array Tmp) (assign body : Code) (T : Tm) (H Hend : Heap) : Prop :=
  ∀ (l D : Nat) (ρ : Rho) (tm : Array Value) (w1 : World) (fn : FuncId) (vs : Array Value), HRep E.W ρ H w1 → (∀ id, H.length ≤ id → ρ id = none) → TRep ρ T { tmps := tm, defers := [] } → tm.size = E.n → (∀ b, w1.heap.size ≤ b → E.W b) → E.W l →
    w1.heap[l]? = some (.loop { state := .ready, pending := none, fn, tmps := tm, params := ps, assign, body, defers := D }) →
    (vs.size = caps.length ∧ ∀ (i : Nat) (c : Nat × Nat × Nat), caps[i]? = some c → ∃ b o, ρ c.1 = some (b, o) ∧ vs[i]? = some (.pointer (some ⟨b, o + c.2.1 + c.2.2, none⟩))) →
    Calls E.P gf (#[.func (.yield l) #[] #[]] ++ vs) w1 fun e w' => (∃ v, e = .returned v) ∧ ∃ ρ', Rle ρ ρ' ∧ (∀ id, Hend.length ≤ id → ρ' id = none) ∧ HRep E.W ρ' Hend w' ∧ Fr E.W w1 w'
theorem w_rangeFunc {E : Env} {T : Tm} {H Hend : Heap} {Q : Exit → Tm → Heap → Prop} {t gf : Nat} {caps : List (Nat × Nat × Nat)} {ps : Array Tmp} {assign body : Code} (ht : look T t = .s (.clo gf caps)) (hgf : Callable E.P gf) (hit : Iter E gf caps ps assign body T H Hend) (hq : Q .normal T Hend) : Wp E (.rangeFunc (.tmp t) ps assign body) T H Q := by
  intro a w ⟨ρ, h1, h2, h3, h4, h5, h6, h7⟩
  refine (wpIn_wide (n := 0)).1 (wpIn_rangeFunc ?_)
  intro fn _
  have hx := h4 t
  rw [ht] at hx
  obtain ⟨vs, e1, e2, e3⟩ := hx
  have hev : a.eval (.tmp t) = .func (.func gf) #[] vs := e1
  obtain ⟨rec, hrec⟩ : ∃ rec : Loop, rec = { state := .ready, pending := none, fn, tmps := a.tmps, params := ps, assign, body, defers := w.heap.size } := ⟨_, rfl⟩
  obtain ⟨W1, hW1⟩ : ∃ W1, (w.alloc (.deferred (some []))).alloc (.loop rec) = W1 := ⟨_, rfl⟩
  have hx1 : Ext w W1 := by rw [← hW1]; exact (Ext.alloc w _).trans (Ext.alloc _ _)
  have hs1 : W1.heap.size = w.heap.size + 2 := by rw [← hW1]; simp
  have hL1 : W1.heap[w.heap.size + 1]? = some (.loop rec) := by
    rw [← hW1]; have := World.alloc_heap_new (w.alloc (.deferred (some []))) (.loop rec); rwa [World.size_alloc] at this
  have hK1 : W1.heap[w.heap.size]? = some (.deferred (some [])) := by
    rw [← hW1]; exact (Go.RowKit.Below.heap_alloc _ _ _ (by simp)).trans (World.alloc_heap_new w _)
  have hWf : ∀ b, w.heap.size ≤ b → E.W b := fun b hb => E.hW b (Nat.le_trans h7.size hb)
  refine ⟨w.heap.size + 1, [{ target := .collected w.heap.size, args := #[] }], W1, { target := .fn (.func gf) vs, args := #[.func (.yield (w.heap.size + 1)) #[] #[]] }, W1, gf, #[.func (.yield (w.heap.size + 1)) #[] #[]] ++ vs, W1, ?_, ?_, ?_, ?_, fun e => (by cases e), ?_⟩
  · rw [← hW1, hrec]; exact run_enterLoop_outer _ _ _ _ _
  · simp only [resolve, hev]
    simp [Deferred.ofValue]
    rfl
  · intro f' _; trivial
  · simp [invoke, Sem.run_bind, run_callFunc hgf]
  · have hc := hit (w.heap.size + 1) w.heap.size ρ a.tmps W1 fn vs (h3.ext hx1) h2 (fun i => h4 i) h5 (fun b hb => hWf b (by omega)) (hWf _ (by omega)) (by rw [hL1, hrec]) ⟨e2, e3⟩
    refine ((callsIn_wide (n := 0 - 1)).2 hc).mono ?_
    rintro e w2 ⟨⟨v, rfl⟩, ρ', m1, m2, m3, m4⟩
    have hl2 := m4.others _ _ hL1 rfl
    have hk2 := m4.others _ _ hK1 rfl
    have hlt2 : w.heap.size + 1 < w2.heap.size := (Array.getElem?_eq_some_iff.1 hl2).1
    refine ⟨none, _, by have := run_endLoop (P := E.P) hl2 (by rw [hrec]; simp); rw [show rec.pending = none by rw [hrec]] at this; exact this, ?_⟩
    refine ⟨T, Hend, hq, ρ', h1.trans m1, m2, m3.put _ hl2 rfl, fun i => AV.rep_le m1 (h4 i), h5, ⟨?_, fun d hd => ?_⟩, ?_⟩
    · refine List.nodup_cons.2 ⟨fun hm => ?_, h6.nodup⟩
      obtain ⟨D', f1, f2, f3⟩ := h6.mark _ hm
      cases f1
      have := (Array.getElem?_eq_some_iff.1 f3).1
      omega
    · rcases List.mem_cons.1 hd with rfl | hd
      · exact ⟨w.heap.size, rfl, h7.size, by rw [World.putObj_heap_other (by omega)]; exact hk2⟩
      · obtain ⟨D', f1, f2, f3⟩ := h6.mark d hd
        have := (Array.getElem?_eq_some_iff.1 f3).1
        exact ⟨D', f1, f2, by rw [World.putObj_heap_other (by omega)]; exact m4.others _ _ (hx1.obj f3) rfl⟩
    · have hf : Fr E.W E.w0 w2 := (h7.ext hx1).trans m4
      refine ⟨hf.os, hf.tape, hf.output, by simpa using hf.size, fun k hk hn => ?_, fun k o hk hc => ?_⟩
      · have := h7.size
        rw [World.putObj_heap_other (by omega)]; exact hf.block k hk hn
      · have := h7.size
        have := (Array.getElem?_eq_some_iff.1 hk).1
        rw [World.putObj_heap_other (by omega)]; exact hf.others k o hk hc
end Go.Ab
