/- tracerylaw24.HurwitzMake returns true for every list of numbers, and leaves it as it was. Condition: what came in holds at most 1048576 values and letters (the second form, UptoSaid). -/
import Derived.Test.YtllohoibifcmdaaGreatP06
import Derived.Test.YtllohoibifcmdaaGreatRows
import Derived.WalkKit
import Derived.ProofKit
import Derived.OpenShut
import Derived.JoinedCond
import Derived.Below
import Derived.ChangeSame
import Derived.WideKeyArgs
set_option linter.unusedVariables false
set_option linter.unusedSimpArgs false
namespace Go.Proofs.YtllohoibifcmdaaGreat
open Go.ChangeShapes Go.WideShapes Go.ChangeAt Go.RowKit
instance : Inhabited RG := ⟨rg0⟩
theorem bulk_one {H : Type} (d : DataW H) : 1 ≤ Rows.uptoBulk d := by
  cases d with
  | lit l => cases l <;> simp [Rows.uptoBulk]
  | nil => simp [Rows.uptoBulk]
  | ptr d => simp [Rows.uptoBulk]
  | slice elems spare => simp [Rows.uptoBulk]
  | agg parts => simp [Rows.uptoBulk]
  | iface t d => simp [Rows.uptoBulk]
  | map entries => simp [Rows.uptoBulk]
  | held h => simp [Rows.uptoBulk]
theorem bulk_len {H : Type} (l : List (DataW H)) : l.length ≤ Rows.uptoBulkAll l := by
  induction l with
  | nil => simp [Rows.uptoBulkAll]
  | cons x r ih => have := bulk_one x; simp only [Rows.uptoBulkAll, List.length_cons]; omega
theorem bulk_part {H : Type} {d : DataW H} {l : List (DataW H)} (h : d ∈ l) : Rows.uptoBulk d ≤ Rows.uptoBulkAll l := by
  induction l with
  | nil => cases h
  | cons x r ih =>
    simp only [Rows.uptoBulkAll]
    rcases List.mem_cons.1 h with e | e
    · subst e; omega
    · have := ih e; omega
section
variable {H : Type} {enc : TypeId × Value → H} {w : World} {base : Nat} {spare : Nat → Bool} {held : Bool}
set_option maxRecDepth 100000 in
theorem open_gl {r : Reach} {b0 : Nat} {v : Value} {d : DataW H} {p : List MemPlace} (hv : Value.okWide Tryz.prog w r b0 22 v) (h : DataW.Trod enc Tryz.prog w base spare held 22 v d p) :
    ∃ l : List RG, GSl w v l ∧ l.length ≤ Rows.uptoBulk d := by
  obtain ⟨a, len, cap, rfl⟩ := okWide_slice Tryz.underlying22 hv
  obtain ⟨fuel, hf⟩ := h
  rcases Deep.open_slice Tryz.underlying22 hf with ⟨e, hx⟩ | ⟨a', len', cap', m, n, D, Pl, e, _, hl, hm, hmm, hx, hel⟩
  · have e := List.cons.inj e
    cases e.1
    exact ⟨[], ⟨none, 0, rfl, Nat.le_refl _, Nat.zero_le _, fun h => absurd rfl h⟩, Nat.zero_le _⟩
  · have e := List.cons.inj e
    cases e.1
    rw [show Tryz.prog.cellsOf 30 = 8 by kernel_rfl] at hel
    have hle : len ≤ m := by rw [hmm]; split <;> omega
    have hex : ∀ i, i < len → ∃ q : RG, ∀ k u, (rgC q).toList[k]? = some u → w.cell? ((a'.add (i * 8)).add k) = some u := fun i hi => by
      obtain ⟨cs, h1, h2⟩ := hel i (by omega)
      obtain ⟨q, rfl⟩ := rd_gauss h2
      obtain ⟨_, h3, h4⟩ := World.cells?_some h1
      refine ⟨q, fun k u hk => ?_⟩
      have := (List.getElem?_eq_some_iff.1 hk).1
      rw [h4 k (by rw [← h3]; exact this)]; exact hk
    obtain ⟨f, hf⟩ := Deep.choose_lt (α := RG) (p := fun i q => ∀ k u, (rgC q).toList[k]? = some u → w.cell? ((a'.add (i * 8)).add k) = some u) hex
    have hlen : ((List.range len).map f).length = len := by simp
    refine ⟨(List.range len).map f, ⟨some a', cap, by rw [hlen], by rw [hlen]; exact hl, by simpa [maxLen] using hm, fun h0 => ?_⟩, ?_⟩
    · rw [hlen] at h0
      have hc0 := hf 0 (by omega) 0 _ rfl
      obtain ⟨b, off, spot⟩ := a'
      have hsp : spot = none := by
        cases spot with
        | none => rfl
        | some s => simp [Addr.add, World.cell?] at hc0; split at hc0 <;> simp at hc0
      subst hsp
      have hcell : ∀ j u, w.cell? ((⟨b, off, none⟩ : Addr).add j) = some u → ∃ cur T fr, w.heap[b]? = some (.cells cur T fr) ∧ cur[off + j]? = some u := fun j u hj => by
        rw [Addr.add_lit] at hj
        simp only [World.cell?] at hj
        split at hj
        · rename_i c T fr hB
          exact ⟨c, T, fr, hB, by simpa using hj⟩
        · cases hj
      obtain ⟨cur, T, fr, hB, _⟩ := hcell 0 _ (by simpa [Addr.add_lit] using hc0)
      refine ⟨b, off, cur, T, fr, rfl, hB, fun i q hi k u hk => ?_⟩
      obtain ⟨hi1, hi2⟩ := List.getElem?_eq_some_iff.1 hi
      have hi3 : i < len := by simpa using hi1
      have hq : f i = q := by simpa using hi2
      subst hq
      have h1 := hf i hi3 k u hk
      have h2 : ((⟨b, off, none⟩ : Addr).add (i * 8)).add k = (⟨b, off, none⟩ : Addr).add (8 * i + k) := by rw [Deep.add_add, Nat.mul_comm]
      rw [h2] at h1
      obtain ⟨cur', T', fr', hB', h3⟩ := hcell _ _ h1
      rw [hB] at hB'
      cases hB'
      rwa [Nat.add_assoc]
    · rw [hlen]
      have hd := congrArg Prod.fst hx
      simp only at hd
      subst hd
      have := bulk_len ((List.range len).map D)
      simp only [List.length_map, List.length_range] at this
      simp only [Rows.uptoBulk]
      omega
end
end Go.Proofs.YtllohoibifcmdaaGreat
namespace Go.Proofs.YtllohoibifcmdaaGreat
open Go.ChangeShapes Go.WideShapes Go.ChangeAt Go.RowKit Go.WideElems
theorem law_own : ownKnob Tryz.prog.godebug = none := by kernel_rfl
theorem law_laid : laidOutB Tryz.prog = true := by kernel_rfl
section
variable {H : Type} {enc : TypeId × Value → H}
theorem trodAll_stays {W W' : World} {sp : Nat → Bool} : ∀ {ts : List TypeId} {vs : List Value} {ds : List (DataW H)} {ps : List MemPlace}, (∀ t ∈ ts, Tryz.prog.readableRec t = true ∧ t < Tryz.prog.types.size) →
    DataW.TrodAll enc Tryz.prog W 0 (fun _ => true) true ts vs ds ps → (∀ p ∈ ps, W.sameAt W' p) → (∀ p ∈ ps, sp p.block = true) → DataW.TrodAll enc Tryz.prog W' 0 sp true ts vs ds ps := by
  intro ts
  induction ts with
  | nil =>
    intro vs ds ps _ h _ _
    obtain ⟨rfl, rfl, rfl⟩ := trodAll_nil h
    exact trodAll_mk0
  | cons t ts ih =>
    intro vs ds ps ht h hs hb
    obtain ⟨v, vs', d, ds', p, p', rfl, rfl, rfl, h0, h1⟩ := trodAll_cons h
    obtain ⟨h2, h3⟩ := ht t (by simp)
    exact trodAll_cons_mk (Trod_stays law_laid h2 h3 h0 (fun q hq => hs q (by simp [hq])) (fun q hq => hb q (by simp [hq]))) (ih (fun t ht' => ht t (by simp [ht'])) h1 (fun q hq => hs q (by simp [hq])) (fun q hq => hb q (by simp [hq])))
set_option maxRecDepth 100000 in
theorem law_post {f : Func} {s : ChangeSpec} {fresh handsOn again : Bool} {W W' : World} {args : Array Value} {ds gs : List (DataW H)} {before : List MemPlace} (hW : DataW.Whole enc Tryz.prog f.params.toList s.vars false W args.toList ds gs before)
    (hv : s.vars = []) (hfn : s.fn H ds = { results := [.lit (.bool true)], args := ds }) (hr : f.resultTypes = #[4]) (hp : f.params.toList.all (fun t => Tryz.prog.readableRec t && decide (t < Tryz.prog.types.size)) = true) (hb : Below W.heap.size W W') :
    s.post enc Tryz.prog f false fresh handsOn again W args (.bool true) W' := by
  have hlt : ∀ p ∈ before, p.block < W.heap.size := fun p hq => hW.lt p hq
  have hW' := hW
  obtain ⟨p, q, hA, hV, rfl, hfz, hnd⟩ := hW
  rw [hv] at hV
  obtain ⟨rfl, rfl⟩ := trodVars_none hV
  have hpar : ∀ t ∈ f.params.toList, Tryz.prog.readableRec t = true ∧ t < Tryz.prog.types.size := fun t ht => by
    have := List.all_eq_true.1 hp t ht
    simpa using this
  have hargs : ∀ sp : Nat → Bool, (∀ x ∈ p ++ [], sp x.block = true) → DataW.TrodAll enc Tryz.prog W' 0 sp true f.params.toList args.toList ds p := fun sp hs =>
    trodAll_stays hpar hA (fun x hx => hb.same (hlt x (by simp [hx]))) (fun x hx => hs x (by simp [hx]))
  have hres : ∀ (b : Nat) (sp : Nat → Bool) (hd : Bool), DataW.TrodAll enc Tryz.prog W' b sp hd f.resultTypes.toList (Value.resultList f.resultTypes.size (.bool true)) [.lit (.bool true)] [] := fun _ _ _ => by
    rw [hr]
    exact trodAll_cons_mk (shut_bool Tryz.underlying4 _) trodAll_mk0
  have hold : ∀ x ∈ p ++ [], (fun b => decide (b < W.heap.size)) x.block = true := fun x hx => by simpa using hlt x hx
  have hfn' : s.fn H (ds ++ []) = { results := [.lit (.bool true)], args := ds } := by rw [List.append_nil]; exact hfn
  refine ⟨ds, [], p ++ [], [], p, [], hW', by rw [hfn']; exact hres _ _ _, by rw [hfn']; exact hargs _ hold, by rw [hv, hfn']; rfl, World.keptBut_mono (fun x hx => ⟨hx, ?_⟩) (hb.frame (· ∈ p ++ [])), fun _ => ?_⟩
  · simpa using hx
  · refine ⟨ok_one hr rfl (okWide_bool_mk Tryz.underlying4 _), _, [], ([] ++ p) ++ [], ⟨[] ++ p, [], trodAll_append (hargs _ (fun _ _ => rfl)) (hres _ _ _), by rw [hv]; rfl, rfl, ?_, ?_⟩, ?_⟩
    · intro b off hx
      have hin : MemPlace.cell b off ∈ p ++ [] := by simpa using hx
      rw [hb.frozen (hlt _ hin)]
      exact hfz b off hin
    · intro ha
      have := hnd ha
      simpa using this
    · intro x hx _
      simpa using hx
end
end Go.Proofs.YtllohoibifcmdaaGreat
namespace Go.Proofs.YtllohoibifcmdaaGreat.hzMake
open Go.ChangeShapes Go.WideShapes Go.ChangeAt Go.RowKit
set_option maxRecDepth 100000 in
theorem contract (H : Type) (enc : TypeId × Value → H) (W : World) (base : Nat) (args : Array Value) (ds gs : List (DataW H)) (before : List MemPlace)
    (hval : ∀ (j : Nat) t v, Tryz.f3.params[j]? = some t → args[j]? = some v → Value.okWide Tryz.prog W .any base t v)
    (hW : DataW.Whole enc Tryz.prog Tryz.f3.params.toList Rows.hurwitzMakeSpec.vars false W args.toList ds gs before) (hk : Rows.uptoSmall H (ds ++ gs) = true) :
    Calls Tryz.prog 3 args W fun e W' => ∃ v, e = .returned v ∧ Rows.hurwitzMakeSpec.post enc Tryz.prog Tryz.f3 false true false false W args v W' := by
  have hW' := hW
  obtain ⟨p, q, hA, hV, rfl, hfz, hnd⟩ := hW
  rw [Tryz.params3] at hA hval
  obtain ⟨v0, vs0, d0, ds0, p0, q0, hargs, rfl, rfl, h0, r0⟩ := trodAll_cons hA
  obtain ⟨rfl, rfl, rfl⟩ := trodAll_nil r0
  obtain rfl : args = #[v0] := by cases args; simp_all
  obtain ⟨rfl, rfl⟩ := trodVars_none hV
  obtain ⟨l, hl, hlen⟩ := open_gl (hval 0 _ v0 rfl rfl) h0
  have hb : Rows.uptoBulkAll (H := H) [d0] ≤ 1048576 := of_decide_eq_true hk
  have hd := bulk_part (d := d0) (l := [d0]) (by simp)
  refine (lMake l hl (by omega)).mono fun e W' h => ?_
  obtain ⟨h1, h2⟩ := h.is
  exact ⟨_, h1, law_post hW' rfl rfl rfl (by kernel_rfl) h2⟩
set_option maxRecDepth 100000 in
theorem lifted (os : Os) (started : os.Started) (H : Type) (enc : TypeId × Value → H) (F : Stop.Interp) :
    ReturnsInHanded {} Tryz.checked os 3 .any ((Rows.OpenSpec.upto Rows.hurwitzMakeSpec).pre6 enc Tryz.prog Tryz.f3 Rows.hurwitzMakeUptoRow.domain false) (((Rows.OpenSpec.upto Rows.hurwitzMakeSpec).at F).post enc Tryz.prog Tryz.f3 false true false false) := by
  refine returnsInHanded_of_cond (C := Tryz.checked) (s := Rows.OpenSpec.upto Rows.hurwitzMakeSpec) (k := Rows.uptoSmall) rfl law_own started (by kernel_rfl) Tryz.func3
    (OpenSpec.witness (enc := enc) (C := Tryz.checked) (s := Rows.OpenSpec.upto Rows.hurwitzMakeSpec) (k := Rows.uptoSmall) rfl false ⟨#[], #[.slice none 0 0], []⟩ 8 (by kernel_rfl) (by kernel_rfl) (by kernel_rfl)
      (x := ([.nil], [], [])) (by kernel_rfl) rfl (by kernel_rfl)) ?_
  intro W base args ds gs before hval hW _ hk _
  exact contract H enc W base args ds gs before hval hW hk
theorem over : Rows.hurwitzMakeUptoRow.holds Tryz.pinned (Rows.OpenSpec.upto Rows.hurwitzMakeSpec) :=
  OpenClaim.holds_of_cond 3 Tryz.f3 rfl rfl rfl rfl rfl rfl rfl ⟨rfl, rfl, rfl, rfl, rfl⟩ rfl rfl rfl rfl rfl (by kernel_rfl) Tryz.func3 (by kernel_rfl)
    (of_decide_eq_true (by kernel_rfl)) (by unfold Func.isWrapper; first | (rw [if_pos (by decide +kernel)]; kernel_rfl) | (rw [if_neg (by decide +kernel)]; exact ⟨rfl, rfl⟩))
    (fun os started H enc _ F => lifted os started H enc F)
end Go.Proofs.YtllohoibifcmdaaGreat.hzMake
namespace Go.Proofs.YtllohoibifcmdaaGreat
theorem hurwitzMake_proved : Rows.HurwitzMakeUptoSaid := hzMake.over
end Go.Proofs.YtllohoibifcmdaaGreat
