/- The operations of the logical machine do what those of the model do. Conditions: none; each theorem states its own. -/
import Derived.Test.YtinbeckdjhoeoaaGreatDoorLma
import Derived.Laws.Append
import Derived.Laws.AppendOwn
import Derived.Calls
set_option linter.unusedSectionVars false
set_option linter.unusedSimpArgs false
set_option linter.unusedVariables false
set_option linter.deprecated false
/- The operations that make an object. -/
namespace Go.Lm

theorem sameVals_eq {f : Value → Value → Bool} (hf : ∀ x y, f x y = true → x = y) : ∀ {l m : List Value}, sameVals f l m = true → l = m
  | [], [], _ => rfl
  | [], _ :: _, h => by simp [sameVals] at h
  | _ :: _, [], h => by simp [sameVals] at h
  | a :: l, b :: m, h => by
    simp only [sameVals, Bool.and_eq_true] at h
    rw [hf a b h.1, sameVals_eq hf h.2]

theorem sameVal_eq : ∀ (n : Nat) (x y : Value), sameVal n x y = true → x = y
  | 0, x, y, h => by simp [sameVal] at h
  | n + 1, x, y, h => by
    have ih := fun x y => sameVal_eq n x y
    unfold sameVal at h
    split at h
    · simpa using h
    · simpa using h
    · have : _ = _ := beq_iff_eq.1 h
      rename_i a b
      cases a; cases b
      simp only at this
      rw [Array.ext' this]
    · simpa using h
    · simp only [Bool.and_eq_true, beq_iff_eq] at h; rw [h.1.1, h.1.2, h.2]
    · simpa using h
    · rfl
    · rfl
    · simp only [Bool.and_eq_true, beq_iff_eq] at h
      rw [h.1.1, Array.ext' (sameVals_eq ih h.1.2), Array.ext' (sameVals_eq ih h.2)]
    · simp only [Bool.and_eq_true, beq_iff_eq] at h
      rw [h.1, ih _ _ h.2]
    · rw [Array.ext' (sameVals_eq ih h)]
    · rw [Array.ext' (sameVals_eq ih h)]
    · simp at h

/-- the same object, but for how its cells are kept -/
def SameO : LObj → LObj → Prop
  | .row r, .row s => r.esz = s.esz ∧ r.cnt = s.cnt ∧ r.cls = s.cls ∧ r.start = s.start ∧ ∀ j, j < r.cnt * r.esz → r.cell j = s.cell j
  | o, o' => o = o'

theorem SameO.refl (o : LObj) : SameO o o := by
  cases o <;> simp [SameO]

theorem sameObj_sound {o o' : LObj} (h : recheck.sameObj o o' = true) (h1 : ∀ r, o = .row r → r.ok) (h2 : ∀ r, o' = .row r → r.ok) : SameO o o' := by
  unfold recheck.sameObj at h
  split at h
  · rfl
  · rename_i r s
    simp only [Bool.and_eq_true, beq_iff_eq] at h
    obtain ⟨⟨⟨⟨⟨_, he⟩, hn⟩, hc⟩, hs⟩, hr⟩ := h
    refine ⟨he, hn, hc, hs, fun j hj => ?_⟩
    split at hr
    · rename_i a b ha hb
      have := sameVals_eq (fun x y => sameVal_eq 10 x y) hr
      subst this
      obtain ⟨_, _, g1⟩ := Row.read_spec (h1 _ rfl) ha
      obtain ⟨_, _, g2⟩ := Row.read_spec (h2 _ rfl) hb
      have e1 := g1 j hj
      have e2 := g2 j (by rw [← he, ← hn]; exact hj)
      simp only [Nat.zero_add] at e1 e2
      rw [e1, e2]
    · cases hr
  · cases h

theorem replic_eq : ∀ (n : Nat) (z acc : List Value), replic n z acc = (List.replicate n z).flatten ++ acc
  | 0, z, acc => by simp [replic]
  | n + 1, z, acc => by
    rw [replic, replic_eq n z (z ++ acc), List.replicate_succ']
    simp

theorem flatten_get : ∀ (n : Nat) (z : List Value) (j : Nat), j < n * z.length → ((List.replicate n z).flatten)[j]? = z[j % z.length]?
  | 0, z, j, h => by simp at h
  | n + 1, z, j, h => by
    rw [List.replicate_succ, List.flatten_cons]
    by_cases hj : j < z.length
    · rw [List.getElem?_append_left hj, Nat.mod_eq_of_lt hj]
    · rw [List.getElem?_append_right (by omega), flatten_get n z _ (by rw [Nat.add_mul] at h; omega)]
      congr 1
      exact (Nat.mod_eq_sub_mod (by omega)).symm

theorem replic_length (n : Nat) (z : List Value) : (replic n z []).length = n * z.length := by
  rw [replic_eq]; simp [List.length_flatten, List.map_replicate, List.sum_replicate_nat]

theorem zeros_eq (σ : Sig) {z : List Value} {zc : Array Value} (hz : zc.toList = z.map (phys σ)) (n : Nat) :
    ((Array.range (n * zc.size)).map (fun i => zc[i % zc.size]!)).toList = (replic n z []).map (phys σ) := by
  have hsz : zc.size = z.length := by rw [← Array.length_toList, hz, List.length_map]
  apply List.ext_getElem?
  intro j
  simp only [Array.toList_map, Array.toList_range, List.getElem?_map]
  by_cases hj : j < n * zc.size
  · rw [List.getElem?_range hj, replic_eq, List.append_nil, flatten_get n z j (by rw [← hsz]; exact hj)]
    have hp : 0 < zc.size := by rcases Nat.eq_zero_or_pos zc.size with e | e
                                · rw [e] at hj; simp at hj
                                · exact e
    have hm : j % zc.size < zc.size := Nat.mod_lt j hp
    simp only [Option.map_some]
    rw [getElem!_pos zc _ hm]
    have : zc.toList[j % zc.size]? = (z.map (phys σ))[j % zc.size]? := by rw [hz]
    rw [List.getElem?_map, Array.getElem?_toList, Array.getElem?_eq_getElem hm] at this
    rw [this, hsz]
  · rw [List.getElem?_eq_none (by simpa using hj), List.getElem?_eq_none (by rw [replic_length, ← hsz]; omega)]; rfl

theorem mem_replic {x : Value} {n : Nat} {z : List Value} (h : x ∈ replic n z []) : x ∈ z := by
  rw [replic_eq, List.append_nil] at h
  obtain ⟨l, hl, hx⟩ := List.mem_flatten.1 h
  rw [List.mem_replicate] at hl
  rw [← hl.2]; exact hx

section
variable {E : Env} {P : Program} (EO : EnvOK E P) {w : World} {σ : Sig} {ρ : Rho} {r : Operand → Value} (RR : RhoRel σ ρ r) {N0 : Nat} {w0 : World} {h : H} (R : HRel N0 w0 σ h w)

/-- cells for a row -/
structure Holds (o : LObj) (b esz cnt : Nat) (vs : List Value) : Prop where
  row : ∃ q : Row, o = .row q ∧ q.ok ∧ q.esz = esz ∧ q.cnt = cnt ∧ q.cls = b ∧ q.start = 0 ∧ (∀ j, j < cnt * esz → q.cell j = vs[j]?)
  pos : 0 < esz
  len : vs.length = cnt * esz

theorem mkVar_holds (h0 : H) (t : Nat) (vs : List Value) : Holds (mkVar h0 t vs) h0.next (match vs with | [] => 1 | vs => vs.length) (match vs with | [] => 0 | _ => 1) vs := by
  cases vs with
  | nil => exact ⟨⟨_, rfl, fun i hi => by simp at hi, rfl, rfl, rfl, rfl, fun j hj => by simp at hj⟩, by simp, by simp⟩
  | cons v vs =>
    refine ⟨⟨_, rfl, fun i hi => ?_, rfl, rfl, rfl, rfl, fun j hj => ?_⟩, by simp, by simp⟩
    · simp only at hi
      have : i = 0 := by omega
      subst this
      exact ⟨_, rfl, rfl⟩
    · simp only [Nat.one_mul] at hj
      unfold Row.cell
      simp only [Nat.div_eq_of_lt hj, Nat.mod_eq_of_lt hj]
      rfl

theorem mkRow_holds {h0 : H} {elem esz cnt : Nat} {vs : List Value} {o : LObj} (hz : 0 < esz) (hl : vs.length = cnt * esz) (e : mkRow h0 elem esz cnt vs = some o) : Holds o h0.next esz cnt vs := by
  obtain ⟨q, q1, q2, _, q4, q5, q6, q7, q8⟩ := mkRow_spec hz hl e
  exact ⟨⟨q, q1, q2, q4, q5, q6, q7, q8⟩, hz, hl⟩

include R in
/-- its cells are laid, and more behind them -/
theorem Holds.lay {o ob' : LObj} {b esz cnt : Nat} {vs : List Value} (hh : Holds o b esz cnt vs) (hs : σ b = none) (hob : h.objs.get b = some ob') (same : SameO o ob')
    (hw : ∀ v ∈ vs, Wf σ v ∧ v.oneCell' = true) (cs : Array Value) (rest : List Value) (hcs : cs.toList = vs.map (phys σ) ++ rest) (e : TypeId) (cap : Nat) (hcap : cnt ≤ cap) (hsz : cap * esz ≤ cs.size) :
    ∃ st, HRel N0 w0 (σ.put b { blk := w.heap.size, dlt := 0, cap, esz, cls := b, start := st, row := true }) h (w.alloc (.cells cs e)) := by
  obtain ⟨⟨q, rfl, q1, q2, q3, q4, q5, q6⟩, hp, hl⟩ := hh
  cases ob' with
  | row s =>
    obtain ⟨s1, s2, s3, s4, s5⟩ := same
    have := R.layRow hs hob cs e cap (by rw [← s1, q2]; exact hp) (R.rok b s hob) (by rw [← s2, q3]; exact hcap) (by rw [← s1, q2]; exact hsz) (fun j v hj hc => by
      rw [← s1, ← s2] at hj
      rw [← s5 j hj] at hc
      rw [q3, q2] at hj
      rw [q6 j hj] at hc
      have hjl : j < vs.length := by omega
      refine ⟨?_, hw v (List.mem_of_getElem? hc)⟩
      rw [← Array.getElem?_toList, hcs, List.getElem?_append_left (by simpa using hjl), List.getElem?_map, hc]; rfl)
    refine ⟨s.start, ?_⟩
    rw [← s1, ← s3, q2, q4] at this
    exact this
  | _ => cases same

theorem phys_newptr (b : Nat) (p : Place) (hd : p.dlt = 0) : phys (σ.put b p) (.pointer (some ⟨b, 0, none⟩)) = .pointer (some ⟨p.blk, 0, none⟩) := by
  simp [Sig.addr, Sig.blk, Sig.dlt, Sig.put_same, hd]
theorem phys_newslice (b n c : Nat) (p : Place) (hd : p.dlt = 0) (hc : c ≠ unk) : phys (σ.put b p) (.slice (some ⟨b, 0, none⟩) n c) = .slice (some ⟨p.blk, 0, none⟩) n c := by
  simp [physSlice, Sig.addr, Sig.blk, Sig.dlt, Sig.put_same, hd, hc]
theorem phys_newunk (b n : Nat) (p : Place) (hd : p.dlt = 0) : phys (σ.put b p) (.slice (some ⟨b, 0, none⟩) n unk) = .slice (some ⟨p.blk, 0, none⟩) n p.cap := by
  simp [physSlice, Sig.addr, Sig.blk, Sig.dlt, Sig.capAt, Sig.put_same, hd]

/-- what an operation that makes an object comes to -/
def Makes (P : Program) (r : Operand → Value) (o : Oper) (N0 : Nat) (w0 : World) (σ : Sig) (h : H) (w : World) (b : Nat) (v : Value) : Prop :=
  ∃ w' p, (execOp r o).run P w = .ok (.value (phys (σ.put b p) v)) w' ∧ HRel N0 w0 (σ.put b p) h w' ∧ Wf (σ.put b p) v

include EO RR R
theorem alloc_sound (o : Oper) {h0 : H} {b : Nat} (hn : h0.next = b) {ob ob' : LObj} {v : Nat → Value} (hk : kindOf E o.op = .alloc) (e : exAlloc E h0 ρ o.op = some (ob, v))
    (hs : σ b = none) (hob : h.objs.get b = some ob') (same : SameO ob ob') : Makes P r o N0 w0 σ h w b (v b) := by
  subst hn
  obtain ⟨dst, op, ty, pos, after, guard⟩ := o
  simp only at hk e
  unfold Makes
  cases op with
  | alloc t =>
    simp only [exAlloc] at e
    cases ht : E.ty t with
    | none => rw [ht] at e; cases e
    | some q =>
      obtain ⟨i, d⟩ := q
      rw [ht] at e
      simp only at e
      cases hz : i.zero with
      | none => rw [hz] at e; cases e
      | some z =>
        rw [hz] at e
        simp only [Option.some.injEq, Prod.mk.injEq] at e
        obtain ⟨rfl, rfl⟩ := e
        obtain ⟨hzc, hzf⟩ := EO.zero _ _ _ _ ht hz
        obtain ⟨hzp, hzw⟩ := phys_const (σ := σ) hzc
        have hcells : z.cells.toList = (vcells z).map (phys σ) := by rw [← phys_cells, hzp]
        have H0 := mkVar_holds h0 t (vcells z)
        obtain ⟨st, g⟩ := H0.lay R hs hob same (hzw.cells hzf) z.cells [] (by simpa using hcells) t (match vcells z with | [] => 0 | _ => 1) (Nat.le_refl _) (by
          rw [← Array.length_toList, hcells, List.length_map, ← H0.len]; exact Nat.le_refl _)
        refine ⟨_, _, ?_, g, .ptr _ _ _ (Sig.put_same _ _ _)⟩
        rw [phys_newptr _ _ rfl]
        simp [execOp, Instr.alloc, EO.run_zero ht hz, newVar, newRow]
  | box t x =>
    simp only [exAlloc] at e
    cases hx : ρ x with
    | none => rw [hx] at e; cases e
    | some u =>
      rw [hx] at e
      simp only at e
      obtain ⟨hr, hw⟩ := RR x _ hx
      cases hf : flatV u with
      | false => rw [hf] at e; cases e
      | true =>
        rw [hf] at e
        simp only [cond_true, Option.some.injEq, Prod.mk.injEq] at e
        obtain ⟨rfl, rfl⟩ := e
        have hcells : (phys σ u).cells.toList = (vcells u).map (phys σ) := phys_cells σ u
        have H0 := mkVar_holds h0 t (vcells u)
        obtain ⟨st, g⟩ := H0.lay R hs hob same (hw.cells hf) (phys σ u).cells [] (by simpa using hcells) t (match vcells u with | [] => 0 | _ => 1) (Nat.le_refl _) (by
          rw [← Array.length_toList, hcells, List.length_map, ← H0.len]; exact Nat.le_refl _)
        refine ⟨_, _, ?_, g, .ptr _ _ _ (Sig.put_same _ _ _)⟩
        rw [phys_newptr _ _ rfl]
        simp [execOp, Instr.box, newVar, newRow, hr]
  | buildSlice t n ps =>
    simp only [exAlloc] at e
    split at e
    · rename_i ti el ht
      cases hel : E.ty el with
      | none => rw [hel] at e; cases e
      | some q =>
        obtain ⟨i, d⟩ := q
        rw [hel] at e
        simp only at e
        cases hz : i.zero with
        | none => rw [hz] at e; cases e
        | some z =>
          rw [hz] at e
          cases hl : ps.toList.mapM (elemPart ρ i.size) with
          | none => rw [hl] at e; cases e
          | some l =>
            rw [hl] at e
            simp only at e
            cases hf : fillL (replic n (vcells z) []) l with
            | none => rw [hf] at e; cases e
            | some cs =>
              rw [hf] at e
              simp only at e
              cases hc : (Nat.blt 0 i.size && Nat.ble (n * i.size) 1000000) with
              | false => rw [hc] at e; cases e
              | true =>
                rw [hc] at e
                simp only [cond_true] at e
                simp only [Bool.and_eq_true, nble, nblt, decide_eq_true_eq] at hc
                obtain ⟨c1, c2⟩ := hc
                cases hm : mkRow h0 el i.size n cs with
                | none => rw [hm] at e; cases e
                | some o' =>
                  rw [hm] at e
                  simp only [Option.map_some, Option.some.injEq, Prod.mk.injEq] at e
                  obtain ⟨rfl, rfl⟩ := e
                  obtain ⟨hzc, hzf⟩ := EO.zero _ _ _ _ hel hz
                  have hzs := EO.zsize _ _ _ _ hel hz
                  obtain ⟨hzp, hzw⟩ := phys_const (σ := σ) hzc
                  have hcells : z.cells.toList = (vcells z).map (phys σ) := by rw [← phys_cells, hzp]
                  have hzsz : z.cells.size = i.size := by rw [← Array.length_toList, hcells, List.length_map, hzs]
                  obtain ⟨m1, m2⟩ := mapM_some hl
                  have hget : ∀ (i' off size : Nat) (v : Value), l[i']? = some (off, size, v) → ∃ k x, ps.toList[i']? = some (k, x) ∧ ρ x = some v ∧ off = k * i.size ∧ size = i.size := fun i' off size v h => by
                    have hi : i' < ps.toList.length := by have := (List.getElem?_eq_some_iff.1 h).1; omega
                    obtain ⟨y, hy, hy2⟩ := m2 i' _ (List.getElem?_eq_getElem hi)
                    rw [h] at hy2; cases hy2
                    generalize hkx : ps.toList[i'] = kx at hy
                    obtain ⟨k, x⟩ := kx
                    unfold elemPart at hy
                    cases hx : ρ x with
                    | none => simp [hx] at hy
                    | some v' =>
                      simp only [hx, Option.map_some, Option.some.injEq, Prod.mk.injEq] at hy
                      obtain ⟨rfl, rfl, rfl⟩ := hy
                      exact ⟨k, x, by rw [List.getElem?_eq_getElem hi, hkx], hx, rfl, rfl⟩
                  obtain ⟨f1, f2, f3⟩ := fill_sound (σ := σ) (place := fun k => some (k * i.size, i.size)) l (replic n (vcells z) []) cs (ps.toList.map fun (k, x) => (k, r x)) hf (by simp only [List.length_map]; omega)
                    (fun i' off size v h => by
                      obtain ⟨k, x, g1, g2, rfl, rfl⟩ := hget i' off size v h
                      exact ⟨k, by simp [g1, (RR x v g2).1], rfl⟩)
                    (fun x hx => hzw.cells hzf x (mem_replic hx)) (fun i' off size v h => by obtain ⟨k, x, _, g2, _⟩ := hget i' off size v h; exact (RR x v g2).2)
                  have hlen : cs.length = n * i.size := by rw [f3, replic_length, hzs]
                  have H0 := mkRow_holds c1 hlen hm
                  obtain ⟨st, g⟩ := H0.lay R hs hob same f2 ⟨cs.map (phys σ)⟩ [] (by simp) el n (Nat.le_refl _) (by simp [hlen])
                  refine ⟨_, _, ?_, g, .slice _ _ _ _ _ (Sig.put_same _ _ _)⟩
                  rw [phys_newslice _ _ _ _ rfl (by
                    have : n ≤ n * i.size := Nat.le_mul_of_pos_right n c1
                    unfold unk; omega)]
                  have hps : (ps.map fun x => (x.fst, r x.snd)).toList = ps.toList.map fun x => (x.fst, r x.snd) := by simp
                  have hbase : ((Array.range (n * i.size)).map (fun k => z.cells[k % z.cells.size]!)) = ⟨(replic n (vcells z) []).map (phys σ)⟩ := by
                    apply Array.ext'
                    rw [← hzsz]
                    exact zeros_eq σ hcells n
                  have hlim : ¬ n * i.size > 2 ^ 24 := by omega
                  by_cases hnz : n * i.size = 0
                  · have hb0 : (⟨(replic n (vcells z) []).map (phys σ)⟩ : Array Value) = #[] := by
                      apply Array.ext'
                      have : replic n (vcells z) [] = [] := List.length_eq_zero_iff.1 (by rw [replic_length, hzs]; exact hnz)
                      simp [this]
                    rw [hb0] at f1
                    have hr0 : ∀ f : Nat → Value, Array.map f (Array.range 0) = #[] := fun f => by simp
                    simp [hr0, execOp, Instr.buildSlice, EO.run_ty ht, EO.run_size (EnvOK.size_of hel), hlim, hnz, f1, newRow]
                  · simp [execOp, Instr.buildSlice, EO.run_ty ht, EO.run_size (EnvOK.size_of hel), hlim, hnz, EO.run_zero hel hz, hbase, f1, newRow]
    · cases e
  | convert src dst x =>
    simp only [exAlloc] at e
    split at e
    · rename_i ti el st ht hx
      obtain ⟨hr, hw⟩ := RR x _ hx
      split at e
      · rename_i ei he
        cases hm : mkRow h0 el 1 st.data.toList.length (st.data.toList.map fun b => .int .u8 b.toNat) with
        | none => rw [hm] at e; cases e
        | some o' =>
          rw [hm] at e
          simp only [Option.map_some, Option.some.injEq, Prod.mk.injEq] at e
          obtain ⟨rfl, rfl⟩ := e
          have H0 := mkRow_holds (by decide) (by simp) hm
          -- the capacity is drawn
          have hlen : st.size = st.data.toList.length := rfl
          generalize hcap : (Question.appendCap st.size 0 el).cut (w.tape w.drawn (Question.appendCap st.size 0 el)) = cap
          have hge : st.size ≤ cap := by rw [← hcap]; simp only [Question.cut]; exact Nat.le_add_right _ _
          have Rd : HRel N0 w0 σ h { w with drawn := w.drawn + 1 } := R.world rfl rfl rfl
          obtain ⟨stt, g⟩ := H0.lay Rd hs hob same (fun v hv => by obtain ⟨b, _, rfl⟩ := List.mem_map.1 hv; exact ⟨.int _ _, rfl⟩)
            (st.data.map (fun b => Value.int .u8 b.toNat) ++ Array.replicate (cap - st.size) (.int .u8 0)) (List.replicate (cap - st.size) (.int .u8 0)) (by simp [Function.comp_def]) el cap (by rw [← hlen]; exact hge)
            (by simp only [Nat.mul_one, Array.size_append, Array.size_map, Array.size_replicate]; show cap ≤ st.size + (cap - st.size); omega)
          have hblk : ({ w with drawn := w.drawn + 1 } : World).heap.size = w.heap.size := rfl
          have hsz2 : (st.data.map (fun b => Value.int .u8 b.toNat) ++ Array.replicate (cap - st.size) (Value.int .u8 0)).size = cap := by
            simp only [Array.size_append, Array.size_map, Array.size_replicate]; show st.size + (cap - st.size) = cap; omega
          have hgo : (({ w with drawn := w.drawn + 1 } : World).alloc (.cells (st.data.map (fun b => Value.int .u8 b.toNat) ++ Array.replicate (cap - st.size) (.int .u8 0)) el)).heap[w.heap.size]? =
              some (.cells (st.data.map (fun b => Value.int .u8 b.toNat) ++ Array.replicate (cap - st.size) (.int .u8 0)) el (0, 0)) := by
            show (w.heap.push _)[w.heap.size]? = _; simp
          have g2 := g.freezeEnd (b := h0.next) (Sig.put_same _ _ _) rfl hgo
          refine ⟨_, _, ?_, g2, .slice _ _ _ _ _ (Sig.put_same _ _ _)⟩
          rw [phys_newunk _ _ _ rfl]
          have hsrc : ∃ i', E.ty src = some (i', .string) := by
            simp only [kindOf, ht] at hk
            cases hq : E.ty src with
            | none => rw [hq] at hk; simp at hk
            | some q =>
              obtain ⟨i', d'⟩ := q
              rw [hq] at hk
              cases d' <;> simp at hk
              exact ⟨i', rfl⟩
          obtain ⟨i', hsrc⟩ := hsrc
          have hshape : ({ w with drawn := w.drawn + 1, heap := w.heap.push (.cells (st.data.map (fun b => Value.int .u8 b.toNat) ++ Array.replicate (cap - st.size) (.int .u8 0)) el) } : World).shape? w.heap.size = some (el, cap) := by
            unfold World.shape?
            simp only [Array.getElem?_push_size]
            rw [hsz2]
          have hfo : (Question.appendCap st.size 0 el).forced = false := rfl
          simp only [execOp, Sem.run_bind, hr, phys_string, convert, EO.run_ty hsrc, EO.run_ty ht, EO.run_ty he, Result.andThen_ok, Conv.stringToBytes, run_choose, hfo, Bool.false_eq_true, if_false, hcap, newRow, run_newObj, Sem.run_pure, markStringish, run_shape]
          rw [hshape]
          simp only [run_freeze, Result.andThen_ok, hsz2]
          rfl
      · cases e
    · cases e
  | makeMap t x =>
    simp only [exAlloc] at e
    have key : ∀ {ob : LObj} {v : Nat → Value}, ob = .map [] 0 → v = (fun b => .map (some b)) → (execOp r { dst, op := .makeMap t x, type := ty, pos, after, guard }).run P w = .ok (.value (.map (some w.heap.size))) (w.alloc (.map #[] 0)) →
        SameO ob ob' → ∃ w' p, (execOp r { dst, op := .makeMap t x, type := ty, pos, after, guard }).run P w = .ok (.value (phys (σ.put h0.next p) (v h0.next))) w' ∧ HRel N0 w0 (σ.put h0.next p) h w' ∧ Wf (σ.put h0.next p) (v h0.next) := fun {ob v} e1 e2 hrun hsame => by
      subst e1 e2
      have : ob' = .map [] 0 := by cases ob' <;> simp [SameO] at hsame; simp [hsame]
      subst this
      have g := R.layObj hs hob (.map #[] 0) (fun p hp hb => ⟨hp, by rw [hb]; show (w.heap.push _)[w.heap.size]? = _; simp, by simp⟩)
      exact ⟨_, _, by rw [hrun]; simp [Sig.blk, Sig.put_same], g, .map _ _ (Sig.put_same _ _ _)⟩
    cases x with
    | none =>
      simp only [Option.some.injEq, Prod.mk.injEq] at e
      exact key e.1.symm e.2.symm (by simp [execOp, Instr.makeMap]) same
    | some x =>
      simp only at e
      split at e
      · rename_i ti kt el k n ht hx
        simp only [Option.some.injEq, Prod.mk.injEq] at e
        exact key e.1.symm e.2.symm (by simp [execOp, Instr.makeMap, EO.run_ty ht, (RR x _ hx).1, asInt, asIntOf]) same
      · cases e
  | makeSlice t n c =>
    simp only [exAlloc] at e
    split at e
    · rename_i ti el n' c' ht hn hc
      cases hel : E.ty el with
      | none => rw [hel] at e; cases e
      | some q =>
        obtain ⟨i, d⟩ := q
        rw [hel] at e
        simp only at e
        cases hcc : (Nat.ble n' c' && Nat.ble c' 1000000 && Nat.blt 0 i.size && Nat.ble i.bytes 1000000) with
        | false => rw [hcc] at e; cases e
        | true =>
          rw [hcc] at e
          simp only [cond_true] at e
          simp only [Bool.and_eq_true, nble, nblt, decide_eq_true_eq] at hcc
          obtain ⟨⟨⟨c1, c2⟩, c3⟩, c4⟩ := hcc
          cases hz : i.zero with
          | none => rw [hz] at e; cases e
          | some z =>
            rw [hz] at e
            simp only at e
            cases hm : mkRow h0 el i.size c' (replic c' (vcells z) []) with
            | none => rw [hm] at e; cases e
            | some o' =>
              rw [hm] at e
              simp only [Option.map_some, Option.some.injEq, Prod.mk.injEq] at e
              obtain ⟨rfl, rfl⟩ := e
              obtain ⟨hzc, hzf⟩ := EO.zero _ _ _ _ hel hz
              have hzs := EO.zsize _ _ _ _ hel hz
              obtain ⟨hzp, hzw⟩ := phys_const (σ := σ) hzc
              have hcells : z.cells.toList = (vcells z).map (phys σ) := by rw [← phys_cells, hzp]
              have hzsz : z.cells.size = i.size := by rw [← Array.length_toList, hcells, List.length_map, hzs]
              have hlen : (replic c' (vcells z) []).length = c' * i.size := by rw [replic_length, hzs]
              have H0 := mkRow_holds c3 hlen hm
              obtain ⟨st, g⟩ := H0.lay R hs hob same (fun x hx => hzw.cells hzf x (mem_replic hx)) ⟨(replic c' (vcells z) []).map (phys σ)⟩ [] (by simp) el c' (Nat.le_refl _) (by simp [hlen])
              refine ⟨_, _, ?_, g, .slice _ _ _ _ _ (Sig.put_same _ _ _)⟩
              rw [phys_newslice _ _ _ _ rfl (by unfold unk; omega)]
              obtain ⟨k1, hk1⟩ := rho_nat RR hn
              obtain ⟨k2, hk2⟩ := rho_nat RR hc
              have hbase : ((Array.range (c' * i.size)).map (fun k => z.cells[k % z.cells.size]!)) = ⟨(replic c' (vcells z) []).map (phys σ)⟩ := by
                apply Array.ext'
                rw [← hzsz]
                exact zeros_eq σ hcells c'
              have hw1 : IntKind.i64.wrap (n' : Int) = n' := by simp [IntKind.wrap, IntKind.signed, IntKind.bits]; omega
              have hw2 : IntKind.i64.wrap (c' : Int) = c' := by simp [IntKind.wrap, IntKind.signed, IntKind.bits]; omega
              have hbig : ¬ ((i.bytes : Int) * (c' : Int) > 2 ^ 48) := by
                have : i.bytes * c' ≤ 1000000 * 1000000 := Nat.mul_le_mul c4 c2
                have h2 : ((i.bytes * c' : Nat) : Int) ≤ ((1000000 * 1000000 : Nat) : Int) := Int.ofNat_le.2 this
                simp only [Int.natCast_mul] at h2
                omega
              have hbig2 : ¬ (281474976710656 < (i.bytes : Int) * (c' : Int)) := hbig
              have hneg : ¬ ((c' : Int) < 0) := by omega
              have hneg2 : ¬ ((n' : Int) < 0) := by omega
              have hgt : ¬ ((n' : Int) > (c' : Int)) := by omega
              by_cases hnz : c' * i.size = 0
              · have hb0 : (⟨(replic c' (vcells z) []).map (phys σ)⟩ : Array Value) = #[] := by
                  apply Array.ext'
                  have : replic c' (vcells z) [] = [] := List.length_eq_zero_iff.1 (by rw [hlen]; exact hnz)
                  simp [this]
                rw [hb0]
                have hr0 : ∀ f : Nat → Value, Array.map f (Array.range 0) = #[] := fun f => by simp
                simp [hr0, hbig2, execOp, Instr.makeSlice, EO.run_ty ht, EO.run_size (EnvOK.size_of hel), EO.run_info hel, hk1, hk2, asInt, asIntOf, hw1, hw2, hbig, hneg, hneg2, hgt, hnz, newRow]
              · simp [hbig2, execOp, Instr.makeSlice, EO.run_ty ht, EO.run_size (EnvOK.size_of hel), EO.run_info hel, hk1, hk2, asInt, asIntOf, hw1, hw2, hbig, hneg, hneg2, hgt, hnz, EO.run_zero hel hz, hbase, newRow]
    · cases e
  | call c =>
    obtain ⟨callee, args, argTypes⟩ := c
    cases callee with
    | builtin b => cases b <;> simp [kindOf] at hk
    | _ => simp [kindOf] at hk
  | _ => simp [kindOf] at hk
end
end Go.Lm

/- The operations that act on the heap. -/
namespace Go.Lm

/-- what has a place keeps it; what had a number keeps what it had -/
structure Grow (n : Nat) (σ τ : Sig) : Prop where
  le : σ.Le τ
  same : ∀ b, b < n → τ b = σ b

theorem Grow.refl (n : Nat) (σ : Sig) : Grow n σ σ := ⟨.refl σ, fun _ _ => rfl⟩
theorem Grow.trans {n m : Nat} {σ τ υ : Sig} (h : Grow n σ τ) (k : Grow m τ υ) (hnm : n ≤ m) : Grow n σ υ :=
  ⟨h.le.trans k.le, fun b hb => (k.same b (by omega)).trans (h.same b hb)⟩
theorem Grow.put {n b : Nat} {σ : Sig} {p : Place} (hs : σ b = none) (hb : n ≤ b) : Grow n σ (σ.put b p) :=
  ⟨Sig.le_put p hs, fun b' h' => by unfold Sig.put; rw [if_neg (by omega)]⟩

section
variable {E : Env} {P : Program} (EO : EnvOK E P) {w : World} {σ : Sig} {ρ : Rho} {r : Operand → Value} (RR : RhoRel σ ρ r) {N0 : Nat} {w0 : World} {h : H} (R : HRel N0 w0 σ h w)

/-- it gives a value, and changes the heap -/
def Acts (P : Program) (r : Operand → Value) (o : Oper) (N0 : Nat) (w0 : World) (σ : Sig) (h : H) (w : World) (v : Value) (h' : H) : Prop :=
  ∃ σ' w', Grow h.next σ σ' ∧ ((execOp r o).run P w = .ok (.value (phys σ' v)) w' ∨ ((execOp r o).run P w = .ok .skip w' ∧ v = undefV)) ∧ HRel N0 w0 σ' h' w' ∧ Wf σ' v ∧ h.next ≤ h'.next

include R in
theorem HRel.stores {b off : Nat} {vs : List Value} {h' : H} {p : Place} (hp : σ b = some p) (e : h.writeAt b off vs = some h') (hv : ∀ v ∈ vs, Wf σ v ∧ v.oneCell' = true) :
    (storeCells ⟨p.blk, p.dlt + off, none⟩ (vs.map (phys σ))).run P w = .ok () (w.setCells p.blk (p.dlt + off) (vs.map (phys σ))) ∧
      HRel N0 w0 σ h' (w.setCells p.blk (p.dlt + off) (vs.map (phys σ))) ∧ h'.next = h.next := by
  obtain ⟨g1, g2, g3⟩ := R.writeAt hp e hv
  refine ⟨?_, g2, g3⟩
  have := run_storeCells_cells (P := P) p.blk (p.dlt + off) (vs.map (phys σ)) 0 w (fun j hj => by simpa using (g1 j (by simpa using hj)).1) (fun j hj => by simpa using (g1 j (by simpa using hj)).2)
    (fun v hv' => by obtain ⟨u, hu, rfl⟩ := List.mem_map.1 hv'; rw [oneCell_phys]; exact (hv u hu).2)
  simpa using this

include EO RR R
theorem store_sound {dst : Option Tmp} {t ty : TypeId} {a x : Operand} {pos : String} {after : Array Edge} {guard : Option (Nat × Bool)} {v : Value} {h' : H}
    (e : exEff E h ρ { dst, op := .store t a x, type := ty, pos, after, guard } = some (.val v h')) : Acts P r { dst, op := .store t a x, type := ty, pos, after, guard } N0 w0 σ h w v h' := by
  simp only [exEff] at e
  split at e
  · rename_i b off u s ha hx hs
    obtain ⟨har, haw⟩ := RR a _ ha
    obtain ⟨hxr, hxw⟩ := RR x _ hx
    cases hc : (flatV u && Nat.beq (vcells u).length s) with
    | false => rw [hc] at e; cases e
    | true =>
      rw [hc] at e
      simp only [cond_true] at e
      simp only [Bool.and_eq_true, nbeq, decide_eq_true_eq] at hc
      cases hw : h.writeAt b off (vcells u) with
      | none => rw [hw] at e; cases e
      | some h2 =>
        rw [hw] at e
        simp only [Option.map_some, Option.some.injEq, Next.val.injEq] at e
        obtain ⟨rfl, rfl⟩ := e
        cases haw with
        | ptr _ _ p hp =>
          obtain ⟨g1, g2, g3⟩ := R.stores (P := P) hp hw (hxw.cells hc.1)
          refine ⟨σ, _, .refl _ _, .inr ⟨?_, rfl⟩, g2, .undef σ, by omega⟩
          have hcl : (phys σ u).cells.toList = (vcells u).map (phys σ) := phys_cells σ u
          have hsz : (phys σ u).cells.size = s := by rw [← Array.length_toList, hcl, List.length_map, hc.2]
          simp only [execOp, Instr.storeAt, Sem.run_bind, har, phys_ptr, Option.map_some, Instr.sureAddr, Sem.run_pure, Result.andThen_ok, storeVar, EO.run_size hs, hxr, hsz, ne_eq, not_true_eq_false, if_false, hcl, Sig.addr, Sig.blk, Sig.dlt, hp, g1]
  · cases e

theorem assign_sound {dst : Option Tmp} {ty : TypeId} {x : Operand} {pos : String} {after : Array Edge} {guard : Option (Nat × Bool)} {v : Value} {h' : H}
    (e : exEff E h ρ { dst, op := .assign x, type := ty, pos, after, guard } = some (.val v h')) : Acts P r { dst, op := .assign x, type := ty, pos, after, guard } N0 w0 σ h w v h' := by
  simp only [exEff] at e
  cases hx : ρ x with
  | none => rw [hx] at e; cases e
  | some u =>
    rw [hx] at e
    simp only [Option.map_some, Option.some.injEq, Next.val.injEq] at e
    obtain ⟨rfl, rfl⟩ := e
    obtain ⟨hr, hw⟩ := RR x _ hx
    exact ⟨σ, w, .refl _ _, .inl (by simp [execOp, hr]), R, hw, Nat.le_refl _⟩

theorem freeze_sound {dst : Option Tmp} {s d ty : TypeId} {x : Operand} {pos : String} {after : Array Edge} {guard : Option (Nat × Bool)} {v : Value} {h' : H}
    (e : exEff E h ρ { dst, op := .convert s d x, type := ty, pos, after, guard } = some (.val v h')) : Acts P r { dst, op := .convert s d x, type := ty, pos, after, guard } N0 w0 σ h w v h' := by
  simp only [exEff] at e
  split at e
  · rename_i i1 e1 i2 e2 b o n c hs hd hx
    obtain ⟨hr, hw⟩ := RR x _ hx
    cases hsd : Nat.beq s d with
    | false => rw [hsd] at e; cases e
    | true =>
      rw [hsd] at e
      simp only [cond_true] at e
      have hsd' : s = d := by rw [nbeq] at hsd; simpa using hsd
      split at e
      · rename_i i3 rw' he hrow
        simp only [Option.some.injEq, Next.val.injEq] at e
        obtain ⟨rfl, rfl⟩ := e
        cases hw with
        | slice _ _ _ _ p hp =>
          obtain ⟨⟨g1, _⟩, _⟩ := R.rowAt hp hrow
          have hw' : Wf σ (.slice (some ⟨b, o, none⟩) n c) := .slice b o n c p hp
          have hph : ∃ c', phys σ (.slice (some ⟨b, o, none⟩) n c) = .slice (some ⟨p.blk, p.dlt + o, none⟩) n c' := by
            simp [physSlice, Sig.addr, Sig.blk, Sig.dlt, hp]
          obtain ⟨c', hph⟩ := hph
          cases hsh : w.shape? p.blk with
          | none =>
            refine ⟨σ, w, .refl _ _, .inl ?_, R, hw', Nat.le_refl _⟩
            have hb : (s == d) = true := by simp [hsd']
            simp only [execOp, Sem.run_bind, hr, hph, convert, EO.run_ty hs, EO.run_ty hd, EO.run_ty he, Result.andThen_ok, hb, markStringish, run_shape, hsh, Sem.run_pure]
          | some en =>
            obtain ⟨et, m⟩ := en
            have hg : ∃ cs lo hi, w.heap[p.blk]? = some (.cells cs et (lo, hi)) ∧ cs.size = m := by
              unfold World.shape? at hsh
              split at hsh
              · rename_i cs et' fz hg
                obtain ⟨lo, hi⟩ := fz
                simp only [Option.some.injEq, Prod.mk.injEq] at hsh
                obtain ⟨rfl, rfl⟩ := hsh
                exact ⟨cs, lo, hi, hg, rfl⟩
              · cases hsh
            obtain ⟨cs, lo, hi, hg, rfl⟩ := hg
            refine ⟨σ, _, .refl _ _, .inl ?_, R.freezeEnd hp g1 hg, hw', Nat.le_refl _⟩
            have hb : (s == d) = true := by simp [hsd']
            simp only [execOp, Sem.run_bind, hr, hph, convert, EO.run_ty hs, EO.run_ty hd, EO.run_ty he, Result.andThen_ok, hb, markStringish, run_shape, hsh, run_freeze, Sem.run_pure]
      · cases e
  · cases e
end
end Go.Lm

/- The operations that act on maps and iterators. -/
namespace Go.Lm

theorem sames_zip {f : Value → Value → Bool} {g : Value → Value → Bool} {p : Value → Value} : ∀ {l m : List Value}, (∀ x ∈ l, ∀ y ∈ m, f x y = true → g (p x) (p y) = true) → sameBitsL.sames f l m = true →
    l.length = m.length ∧ ((l.map p).zip (m.map p)).all (fun (x, y) => g x y) = true
  | [], [], _, _ => by simp
  | [], _ :: _, _, h => by simp [sameBitsL.sames] at h
  | _ :: _, [], _, h => by simp [sameBitsL.sames] at h
  | a :: l, b :: m, hf, h => by
    simp only [sameBitsL.sames, Bool.and_eq_true] at h
    obtain ⟨i1, i2⟩ := sames_zip (f := f) (g := g) (p := p) (fun x hx y hy => hf x (List.mem_cons_of_mem _ hx) y (List.mem_cons_of_mem _ hy)) h.2
    refine ⟨by simp [i1], ?_⟩
    simp only [List.map_cons, List.zip_cons_cons, List.all_cons, Bool.and_eq_true]
    exact ⟨hf a (by simp) b (by simp) h.1, i2⟩

theorem sameBits_phys {σ : Sig} : ∀ (n : Nat) (x y : Value) (N : Nat), sameBitsL n x y = true → n ≤ N → Wf σ x → Wf σ y → Instr.sameBits N (phys σ x) (phys σ y) = true
  | 0, x, y, N, h, _, _, _ => by simp [sameBitsL] at h
  | n + 1, x, y, N, h, hN, hx, hy => by
    obtain ⟨N, rfl⟩ : ∃ m, N = m + 1 := ⟨N - 1, by omega⟩
    unfold sameBitsL at h
    split at h
    · simpa [Instr.sameBits] using h
    · simpa [Instr.sameBits] using h
    · simp only [phys_string, Instr.sameBits]
      rw [beq_bytes]; exact h
    · simp [Instr.sameBits]
    · rename_i a b
      simp only [Bool.and_eq_true, nbeq, decide_eq_true_eq] at h
      cases hx with
      | ptr b1 o1 p1 h1 =>
        cases hy with
        | ptr b2 o2 p2 h2 =>
          simp only at h
          obtain ⟨rfl, rfl⟩ := h
          simp [Instr.sameBits]
    · simp [Instr.sameBits]
    · rename_i t v u w'
      simp only [Bool.and_eq_true, nbeq, decide_eq_true_eq] at h
      cases hx with
      | iface _ _ hx => cases hy with
        | iface _ _ hy =>
          have := sameBits_phys n v w' N h.2 (by omega) hx hy
          simp [Instr.sameBits, h.1, this]
    · rename_i a b
      cases hx with
      | agg _ hx hx1 => cases hy with
        | agg _ hy hy1 =>
          obtain ⟨i1, i2⟩ := sames_zip (g := Instr.sameBits N) (p := phys σ) (fun x hxm y hym hf => sameBits_phys n x y N hf (by omega) (hx x hxm) (hy y hym)) h
          simp only [phys_agg, Instr.sameBits]
          simp only [Bool.and_eq_true, beq_iff_eq]
          exact ⟨by simpa using i1, i2⟩
    · cases h

section
variable {E : Env} {P : Program} (EO : EnvOK E P) {w : World} {σ : Sig} {ρ : Rho} {r : Operand → Value} (RR : RhoRel σ ρ r) {N0 : Nat} {w0 : World} {h : H} (R : HRel N0 w0 σ h w)
include EO RR R

theorem put_sound {t b kt el clock clock' : Nat} {ti : TypeInfo} {k v : Value} {es es' : List MapEntry} {p : Place} (ht : E.ty t = some (ti, .map kt el)) (hp : σ b = some p) (ho : h.objs.get b = some (.map es clock))
    (hk : Wf σ k) (hv : Wf σ v) (e : mapPut E kt k v clock es = some (es', clock')) :
    ∃ w', (Instr.mapUpdate t (.map (some (σ.blk b))) (phys σ k) (phys σ v)).run P w = .ok () w' ∧ HRel N0 w0 σ (h.put b (.map es' clock')) w' := by
  obtain ⟨h1, h2, h3⟩ := R.obj b p _ hp ho
  obtain ⟨g1, g2, g3⟩ := mapObj (P := P) EO R hp ho
  have hblk : σ.blk b = p.blk := by simp [Sig.blk, hp]
  rw [hblk] at g1 ⊢
  unfold mapPut at e
  cases hko : keyOk E 30 kt k with
  | false => rw [hko] at e; cases e
  | true =>
    rw [hko] at e
    simp only [cond_true] at e
    have hck := keyOk_sound EO (w := w) false 30 kt k hko hk 10000 (by decide)
    cases hf : findE E kt k es with
    | none => rw [hf] at e; cases e
    | some fr =>
      obtain ⟨f1, f2⟩ := findE_sound EO (w := w) hk g2 hf
      rw [hf] at e
      have hset : ∀ o', (setObj p.blk o').run P w = .ok () { w with heap := w.heap.setIfInBounds p.blk o' } := fun o' => by
        simp [setObj, Sem.run, h2]
      have hrel : ∀ es2 c2, (∀ e ∈ es2, LEnt σ e) → HRel N0 w0 σ (h.put b (.map es2 c2)) { w with heap := w.heap.setIfInBounds p.blk (.map ⟨es2.map (physE σ)⟩ c2) } := fun es2 c2 he2 =>
        R.putObj hp h1 (by simp) _ ⟨h1, by
          have : p.blk < w.heap.size := (R.rng b p hp).2
          simp [this], he2⟩
      cases fr with
      | none =>
        simp only [Option.some.injEq, Prod.mk.injEq] at e
        obtain ⟨rfl, rfl⟩ := e
        refine ⟨_, ?_, hrel _ _ (fun x hx => by
          rcases List.mem_append.1 hx with hx | hx
          · exact g2 x hx
          · simp only [List.mem_singleton] at hx; subst hx; exact ⟨hk, hv⟩)⟩
        simp only [Option.map_none] at f1
        simp only [Instr.mapUpdate, Sem.run_bind, EO.run_ty ht, Result.andThen_ok, g1, hck, f1, hset]
        simp [physE]
      | some ix =>
        obtain ⟨i, x⟩ := ix
        simp only at e
        cases hsb : sameBitsL 30 x.key k with
        | false => rw [hsb] at e; cases e
        | true =>
          rw [hsb] at e
          simp only [cond_true, Option.some.injEq, Prod.mk.injEq] at e
          obtain ⟨rfl, rfl⟩ := e
          have hi := f2 i x rfl
          have hxe := g2 x (List.mem_of_getElem? hi)
          have hsp := sameBits_phys (σ := σ) 30 x.key k 10000 hsb (by decide) hxe.key hk
          refine ⟨_, ?_, hrel _ _ (fun y hy => by
            rcases List.mem_or_eq_of_mem_set hy with hy | rfl
            · exact g2 y hy
            · exact ⟨hk, hv⟩)⟩
          simp only [Option.map_some] at f1
          have hold : (((⟨es.map (physE σ)⟩ : Array MapEntry)[i]?).map (·.key)).getD (phys σ k) = phys σ x.key := by simp [hi, physE]
          simp only [Instr.mapUpdate, Sem.run_bind, EO.run_ty ht, Result.andThen_ok, g1, hck, f1, hold, Instr.keyThatStays, hsp, if_true, Sem.run_pure, hset]
          have hm : (⟨es.map (physE σ)⟩ : Array MapEntry).modify i (fun e => { e with key := phys σ k, val := phys σ v }) = ⟨(es.set i { key := k, val := v, born := x.born }).map (physE σ)⟩ := by
            apply Array.ext'
            rw [Array.toList_modify, List.modify_eq_set]
            simp [hi, physE, List.map_set]
          rw [← hm]

theorem mapUpdate_sound {dst : Option Tmp} {t ty : TypeId} {m k x : Operand} {pos : String} {after : Array Edge} {guard : Option (Nat × Bool)} {v : Value} {h' : H} {op : Op} (hop : op = .mapUpdate t m k x ∨ op = .insert t m k x)
    (e : exEff E h ρ { dst, op, type := ty, pos, after, guard } = some (.val v h')) : Acts P r { dst, op, type := ty, pos, after, guard } N0 w0 σ h w v h' := by
  have e2 : (match E.ty t, ρ m, ρ k, ρ x with
    | some (_, .map kt _), some (.map (some r)), some k, some v => match h.objs.get r with
      | some (.map es clock) => (mapPut E kt k v clock es).map fun (es, clock) => Next.val undefV (h.put r (.map es clock))
      | _ => none
    | _, _, _, _ => none) = some (.val v h') := by rcases hop with rfl | rfl <;> exact e
  split at e2
  · rename_i ti kt el b kv xv ht hm hk hx
    obtain ⟨hmr, hmw⟩ := RR m _ hm
    obtain ⟨hkr, hkw⟩ := RR k _ hk
    obtain ⟨hxr, hxw⟩ := RR x _ hx
    split at e2
    · rename_i es clock ho
      cases hpu : mapPut E kt kv xv clock es with
      | none => rw [hpu] at e2; cases e2
      | some q =>
        obtain ⟨es', clock'⟩ := q
        rw [hpu] at e2
        simp only [Option.map_some, Option.some.injEq, Next.val.injEq] at e2
        obtain ⟨rfl, rfl⟩ := e2
        cases hmw with
        | map _ p hp =>
          obtain ⟨w', g1, g2⟩ := put_sound (P := P) EO RR R ht hp ho hkw hxw hpu
          refine ⟨σ, w', .refl _ _, .inr ⟨?_, rfl⟩, g2, .undef σ, Nat.le_refl _⟩
          rcases hop with rfl | rfl <;> simp only [execOp, Sem.run_bind, hmr, hkr, hxr, phys_map, Option.map_some, g1, Result.andThen_ok, Sem.run_pure]
    · cases e2
  · cases e2

omit RR in
theorem new_obj {o : LObj} {ob : Obj} (hno : ∀ r, o ≠ .row r) (hob : ∀ (τ : Sig) (p : Place), σ.Le τ → p.row = false → p.blk = w.heap.size → objRel τ (w.alloc ob) p o) :
    ∃ p : Place, p.blk = w.heap.size ∧ p.dlt = 0 ∧ Grow h.next σ (σ.put h.next p) ∧ HRel N0 w0 (σ.put h.next p) (h.new o) (w.alloc ob) := by
  have hs := R.none_of_ge (Nat.le_refl h.next)
  have R1 := R.newL o (fun r hr => (hno r hr).elim)
  have hget : (h.new o).objs.get h.next = some o := by simp [H.new, T.get_set]
  exact ⟨_, rfl, rfl, .put hs (Nat.le_refl _), R1.layObj hs hget ob (fun p hp hb => hob _ p (Sig.le_put p hs) hp hb)⟩

theorem range_sound {dst : Option Tmp} {t ty : TypeId} {x : Operand} {pos : String} {after : Array Edge} {guard : Option (Nat × Bool)} {v : Value} {h' : H}
    (e : exEff E h ρ { dst, op := .range t x, type := ty, pos, after, guard } = some (.val v h')) : Acts P r { dst, op := .range t x, type := ty, pos, after, guard } N0 w0 σ h w v h' := by
  simp only [exEff] at e
  have fin : ∀ {o : LObj} {ob : Obj}, (∀ r, o ≠ .row r) → (∀ (τ : Sig) (p : Place), σ.Le τ → p.row = false → p.blk = w.heap.size → objRel τ (w.alloc ob) p o) →
      (execOp r { dst, op := .range t x, type := ty, pos, after, guard }).run P w = .ok (.value (.pointer (some ⟨w.heap.size, 0, none⟩))) (w.alloc ob) →
      Acts P r { dst, op := .range t x, type := ty, pos, after, guard } N0 w0 σ h w (.pointer (some ⟨h.next, 0, none⟩)) (h.new o) := fun h1 h2 h3 => by
    obtain ⟨p, p1, p2, p3, p4⟩ := new_obj EO R h1 h2
    refine ⟨_, _, p3, .inl ?_, p4, .ptr _ _ p (Sig.put_same _ _ _), by simp [H.new]⟩
    rw [phys_newptr _ _ p2, p1, h3]
  have hget : ∀ ob : Obj, (w.alloc ob).heap[w.heap.size]? = some ob := fun ob => by show (w.heap.push ob)[w.heap.size]? = _; simp
  split at e
  · rename_i ti st ht hx
    obtain ⟨hr, hw⟩ := RR x _ hx
    simp only [Option.some.injEq, Next.val.injEq] at e
    obtain ⟨rfl, rfl⟩ := e
    refine fin (ob := .stringIter st 0) (by simp) (fun τ p _ hp hb => ⟨hp, by rw [hb, hget]⟩) ?_
    simp [execOp, Instr.range, EO.run_ty ht, hr]
  · rename_i ti kt el ht hx
    obtain ⟨hr, hw⟩ := RR x _ hx
    simp only [Option.some.injEq, Next.val.injEq] at e
    obtain ⟨rfl, rfl⟩ := e
    refine fin (ob := .mapIter none 0 #[] 0) (by simp) (fun τ p _ hp hb => ⟨hp, by rw [hb, hget]; rfl, Nat.le_refl _, by simp⟩) ?_
    simp [execOp, Instr.range, EO.run_ty ht, hr]
  · rename_i ti kt el b ht hx
    obtain ⟨hr, hw⟩ := RR x _ hx
    split at e
    · rename_i es clock ho
      simp only [Option.some.injEq, Next.val.injEq] at e
      obtain ⟨rfl, rfl⟩ := e
      cases hw with
      | map _ q hq =>
        obtain ⟨g1, g2, g3⟩ := mapObj (P := P) EO R hq ho
        refine fin (ob := .mapIter (some (σ.blk b)) clock #[] clock) (by simp) (fun τ p hle hp hb => ⟨hp, by rw [hb, hget]; simp [hle.blk hq], Nat.le_refl _, fun b' hb' => by cases hb'; exact ⟨q, hle _ _ hq⟩⟩) ?_
        simp [execOp, Instr.range, EO.run_ty ht, hr, g1]
    · cases e
  · cases e

/-- what an iterator gives -/
def nextOf : Next → List (Value × H)
  | .val v h => [(v, h)]
  | .alts l => l
  | _ => []

theorem next_sound {dst : Option Tmp} {ty : TypeId} {it : Operand} {isS : Bool} {pos : String} {after : Array Edge} {guard : Option (Nat × Bool)} {n : Next}
    (e : exEff E h ρ { dst, op := .next it isS, type := ty, pos, after, guard } = some n) : ∃ v h', (v, h') ∈ nextOf n ∧ Acts P r { dst, op := .next it isS, type := ty, pos, after, guard } N0 w0 σ h w v h' := by
  simp only [exEff] at e
  split at e
  · rename_i b sp hit
    obtain ⟨hr, hw⟩ := RR it _ hit
    cases hw with
    | ptr _ _ p hp =>
      have hblk : σ.blk b = p.blk := by simp [Sig.blk, hp]
      split at e
      · -- over a string
        rename_i st pos' ho
        obtain ⟨h1, h2⟩ := R.obj b p _ hp ho
        have hd := R.nrow b p hp h1
        have hph : phys σ (.pointer (some ⟨b, 0, none⟩)) = .pointer (some ⟨p.blk, 0, none⟩) := by simp [Sig.addr, hblk, Sig.dlt, hp, hd]
        have hgo : (getObj p.blk).run P w = .ok (.stringIter st pos') w := by simp [getObj, Sem.run, h2]
        have hset : ∀ o', (setObj p.blk o').run P w = .ok () { w with heap := w.heap.setIfInBounds p.blk o' } := fun o' => by simp [setObj, Sem.run, h2]
        cases hlt : Nat.blt pos' st.data.toList.length with
        | true =>
          rw [hlt] at e
          simp only [cond_true, Option.some.injEq] at e
          subst e
          refine ⟨_, _, List.mem_singleton.2 rfl, σ, _, .refl _ _, .inl ?_, R.putObj hp h1 (by simp) (.stringIter st (pos' + (Utf8.decode st pos').2)) ⟨h1, by
            have : p.blk < w.heap.size := (R.rng b p hp).2
            simp [this]⟩, .tuple _ (by simp; exact ⟨.bool _, .int _ _, .int _ _⟩), Nat.le_refl _⟩
          have hlt' : pos' < st.size := by rw [nblt] at hlt; simpa using hlt
          simp only [execOp, Instr.next, Sem.run_bind, hr, hph, hgo, Result.andThen_ok, hlt', if_true, hset, Sem.run_pure]
          simp [goInt]
        | false =>
          rw [hlt] at e
          simp only [cond_false, Option.some.injEq] at e
          subst e
          refine ⟨_, _, List.mem_singleton.2 rfl, σ, w, .refl _ _, .inl ?_, R, .tuple _ (by simp; exact .bool _), Nat.le_refl _⟩
          have hlt' : ¬ pos' < st.size := by rw [nblt] at hlt; simpa using hlt
          simp only [execOp, Instr.next, Sem.run_bind, hr, hph, hgo, Result.andThen_ok, hlt', if_false, Sem.run_pure]
          simp
      · -- over nil
        rename_i x1 x2 x3 ho
        obtain ⟨h1, h2, _⟩ := R.obj b p _ hp ho
        have hd := R.nrow b p hp h1
        have hph : phys σ (.pointer (some ⟨b, 0, none⟩)) = .pointer (some ⟨p.blk, 0, none⟩) := by simp [Sig.addr, hblk, Sig.dlt, hp, hd]
        have hgo : (getObj p.blk).run P w = .ok (.mapIter none x1 ⟨x2⟩ x3) w := by simp [getObj, Sem.run, h2]
        simp only [Option.some.injEq] at e
        subst e
        refine ⟨_, _, List.mem_singleton.2 rfl, σ, w, .refl _ _, .inl ?_, R, .tuple _ (by simp; exact .bool _), Nat.le_refl _⟩
        simp only [execOp, Instr.next, Sem.run_bind, hr, hph, hgo, Result.andThen_ok, Sem.run_pure]
        simp
      · -- over a map
        rename_i m since seen stepped ho
        obtain ⟨h1, h2, h3, h4⟩ := R.obj b p _ hp ho
        have hd := R.nrow b p hp h1
        have hph : phys σ (.pointer (some ⟨b, 0, none⟩)) = .pointer (some ⟨p.blk, 0, none⟩) := by simp [Sig.addr, hblk, Sig.dlt, hp, hd]
        have hgo : (getObj p.blk).run P w = .ok (.mapIter (some (σ.blk m)) since ⟨seen⟩ stepped) w := by simp [getObj, Sem.run, h2]
        obtain ⟨q, hq⟩ := h4 m rfl
        split at e
        · rename_i es clock hm
          obtain ⟨g1, g2, g3⟩ := mapObj (P := P) EO R hq hm
          have hblk2 : σ.blk m = q.blk := by simp [Sig.blk, hq]
          cases hall : (Nat.ble since clock && es.all fun e => Nat.blt e.born since) with
          | false => rw [hall] at e; cases e
          | true =>
            rw [hall] at e
            simp only [cond_true] at e
            simp only [Bool.and_eq_true, nble, decide_eq_true_eq] at hall
            obtain ⟨hsc, hall⟩ := hall
            have hb : ∀ x ∈ es, x.born < since := fun x hx => by
              have := List.all_eq_true.1 hall x hx
              rw [nblt] at this; simpa using this
            generalize hL : es.filter (fun e => !seen.contains e.born) = L at e
            have hLb : ∀ x ∈ L, x ∈ es := fun x hx => by rw [← hL] at hx; exact (List.mem_filter.1 hx).1
            have hleft : (⟨es.map (physE σ)⟩ : Array MapEntry).filter (fun e => !(⟨seen⟩ : Array Nat).contains e.born) = ⟨L.map (physE σ)⟩ := by
              apply Array.ext'
              rw [Array.toList_filter, ← hL, List.filter_map]
              congr 1
              apply List.filter_congr
              intro x _
              simp [physE]
              exact decide_eq_decide.2 Iff.rfl
            have hold : (⟨L.map (physE σ)⟩ : Array MapEntry).filter (fun e => decide (e.born < since)) = ⟨L.map (physE σ)⟩ := by
              apply Array.ext'
              rw [Array.toList_filter]
              apply List.filter_eq_self.2
              intro x hx
              obtain ⟨y, hy, rfl⟩ := List.mem_map.1 hx
              exact decide_eq_true (hb y (hLb y hy))
            have hnew : (⟨L.map (physE σ)⟩ : Array MapEntry).filter (fun e => decide (e.born ≥ since)) = #[] := by
              apply Array.ext'
              rw [Array.toList_filter]
              apply List.filter_eq_nil_iff.2
              intro x hx
              obtain ⟨y, hy, rfl⟩ := List.mem_map.1 hx
              have := hb y (hLb y hy)
              simp [physE]; omega
            have hgone : (!(⟨seen⟩ : Array Nat).isEmpty && !(⟨es.map (physE σ)⟩ : Array MapEntry).isEmpty && (⟨es.map (physE σ)⟩ : Array MapEntry).all (fun x => decide (x.born ≥ stepped))) = false := by
              cases es with
              | nil => simp
              | cons x xs =>
                have := hb x (by simp)
                have hx : decide ((physE σ x).born ≥ stepped) = false := by simp [physE]; omega
                simp [hx]
            cases L with
            | nil =>
              simp only [Option.some.injEq] at e
              subst e
              refine ⟨_, _, List.mem_singleton.2 rfl, σ, w, .refl _ _, .inl ?_, R, .tuple _ (by simp; exact .bool _), Nat.le_refl _⟩
              simp only [execOp, Instr.next, Sem.run_bind, hr, hph, hgo, Result.andThen_ok, g1, hgone, Bool.false_eq_true, if_false, Sem.run_pure, hleft, hold, hnew]
              simp [Question.forced]
            | cons x xs =>
              have hn : ∀ y ∈ x :: xs, (Value.tuple #[.bool true, y.key, y.val], h.put b (.mapIter (some m) since (seen ++ [y.born]) clock)) ∈ nextOf n := by
                cases xs with
                | nil =>
                  simp only [Option.some.injEq] at e
                  subst e
                  intro y hy
                  simp only [List.mem_singleton] at hy
                  subst hy
                  simp [nextOf]
                | cons x2 xs =>
                  simp only [Option.some.injEq] at e
                  subst e
                  intro y hy
                  simp only [nextOf]
                  exact List.mem_map.2 ⟨y, hy, rfl⟩
              have hcand : ((if (⟨(x :: xs).map (physE σ)⟩ : Array MapEntry).isEmpty then #[none] else #[]) ++ ((⟨(x :: xs).map (physE σ)⟩ : Array MapEntry) ++ #[]).map some) = ⟨(x :: xs).map fun y => some (physE σ y)⟩ := by
                apply Array.ext'
                simp [Function.comp_def]
              have hset : ∀ w' : World, w'.heap = w.heap → ∀ o', (setObj p.blk o').run P w' = .ok () { w' with heap := w'.heap.setIfInBounds p.blk o' } := fun w' hw' o' => by simp [setObj, Sem.run, hw', h2]
              obtain ⟨i, w', hch, hi, hw1, hw2, hw3⟩ : ∃ i w', (choose (.mapNext (x :: xs).length)).run P w = .ok i w' ∧ i < (x :: xs).length ∧ w'.heap = w.heap ∧ w'.os = w.os ∧ w'.output = w.output := by
                rw [run_choose]
                by_cases hf : (Question.mapNext (x :: xs).length).forced = true
                · rw [if_pos hf]; exact ⟨0, w, rfl, by simp, rfl, rfl, rfl⟩
                · rw [if_neg hf]; exact ⟨_, _, rfl, Nat.mod_lt _ (by simp), rfl, rfl, rfl⟩
              have R' : HRel N0 w0 σ h w' := R.world hw1 hw2 hw3
              have hmem : (x :: xs)[i] ∈ x :: xs := List.getElem_mem hi
              have hent := g2 _ (hLb _ hmem)
              refine ⟨_, _, hn _ hmem, σ, _, .refl _ _, .inl ?_, R'.putObj hp h1 (by simp) (.mapIter (some (σ.blk m)) since ⟨seen ++ [(x :: xs)[i].born]⟩ clock) ⟨h1, by
                have : p.blk < w'.heap.size := (R'.rng b p hp).2
                simp [this], ?_, fun b' hb' => by cases hb'; exact ⟨q, hq⟩⟩, .tuple _ (by simp; exact ⟨.bool _, hent.key, hent.val⟩), Nat.le_refl _⟩
              · have hsz : (⟨(x :: xs).map fun y => some (physE σ y)⟩ : Array (Option MapEntry)).size = (x :: xs).length := by simp
                have hgi : (⟨(x :: xs).map fun y => some (physE σ y)⟩ : Array (Option MapEntry))[i]? = some (some (physE σ (x :: xs)[i])) := by
                  rw [List.getElem?_toArray, List.getElem?_map, List.getElem?_eq_getElem hi]; rfl
                simp only [execOp, Instr.next, Sem.run_bind, hr, hph, hgo, Result.andThen_ok, g1, hgone, Bool.false_eq_true, if_false, Sem.run_pure, hleft, hold, hnew, hcand, hsz, hch, hgi, hset w' hw1]
                simp [physE]
              · exact hsc
        · cases e
      · cases e
  · cases e
end
end Go.Lm

/- The built-in functions that act on the heap. -/
namespace Go.Lm

theorem eraseIdx_map' {α β : Type} (f : α → β) : ∀ (l : List α) (i : Nat), (l.map f).eraseIdx i = (l.eraseIdx i).map f
  | [], i => by simp
  | a :: l, 0 => by simp
  | a :: l, i + 1 => by simp [eraseIdx_map' f l i]

section
variable {E : Env} {P : Program} (EO : EnvOK E P) {w : World} {σ : Sig} {ρ : Rho} {r : Operand → Value} (RR : RhoRel σ ρ r) {N0 : Nat} {w0 : World} {h : H} (R : HRel N0 w0 σ h w)
include EO RR R

theorem entry_sound {dst : Option Tmp} {ty : TypeId} {it : Operand} {pos : String} {after : Array Edge} {guard : Option (Nat × Bool)} {v : Value} {h' : H}
    (e : exEff E h ρ { dst, op := .entry it, type := ty, pos, after, guard } = some (.val v h')) : Acts P r { dst, op := .entry it, type := ty, pos, after, guard } N0 w0 σ h w v h' := by
  simp only [exEff] at e
  split at e
  · rename_i b sp hit
    obtain ⟨hr, hw⟩ := RR it _ hit
    cases hw with
    | ptr _ _ p hp =>
      have hblk : σ.blk b = p.blk := by simp [Sig.blk, hp]
      split at e
      · rename_i m since seen stepped ho
        obtain ⟨h1, h2, h3, h4⟩ := R.obj b p _ hp ho
        have hd := R.nrow b p hp h1
        have hph : phys σ (.pointer (some ⟨b, 0, none⟩)) = .pointer (some ⟨p.blk, 0, none⟩) := by simp [Sig.addr, hblk, Sig.dlt, hp, hd]
        have hgo : (getObj p.blk).run P w = .ok (.mapIter (some (σ.blk m)) since ⟨seen⟩ stepped) w := by simp [getObj, Sem.run, h2]
        obtain ⟨q, hq⟩ := h4 m rfl
        split at e
        · rename_i stamp es clock hs hm
          obtain ⟨g1, g2, g3⟩ := mapObj (P := P) EO R hq hm
          cases hc : Nat.beq clock stepped with
          | false => rw [hc] at e; cases e
          | true =>
            rw [hc] at e
            simp only [cond_true] at e
            have hcs : clock = stepped := by rw [nbeq] at hc; simpa using hc
            cases hf : es.find? (·.born == stamp) with
            | none => rw [hf] at e; cases e
            | some x =>
              rw [hf] at e
              simp only [Option.some.injEq, Next.val.injEq] at e
              obtain ⟨rfl, rfl⟩ := e
              have hx := g2 x (List.mem_of_find?_eq_some hf)
              refine ⟨σ, w, .refl _ _, .inl ?_, R, .tuple _ (by simp; exact ⟨hx.key, hx.val⟩), Nat.le_refl _⟩
              have hback : (⟨seen⟩ : Array Nat).back? = some stamp := by
                rw [← hs]; simp
              have hfind : (⟨es.map (physE σ)⟩ : Array MapEntry).find? (fun x => x.born == stamp) = some (physE σ x) := by
                have : (es.map (physE σ)).find? (fun x => x.born == stamp) = (es.find? (fun x => x.born == stamp)).map (physE σ) := by
                  rw [List.find?_map]; rfl
                simpa [hf] using this
              have hne : (clock != stepped) = false := by simp [hcs]
              simp only [execOp, Instr.entry, Sem.run_bind, hr, hph, hgo, Result.andThen_ok, hback, g1, hne, Bool.false_eq_true, if_false, hfind, Sem.run_pure]
              simp [physE]
        · cases e
      · cases e
  · cases e

/-- the arguments -/
theorem args_sound {args : Array Operand} {l : List Value} (e : args.toList.mapM ρ = some l) : args.map r = ⟨l.map (phys σ)⟩ ∧ ∀ v ∈ l, Wf σ v := by
  have h2 := mapM_map (g := r) (p := phys σ) (fun x y h => (RR x y h).1) e
  exact ⟨by apply Array.ext'; simpa using h2, fun v hv => by obtain ⟨y, _, hy⟩ := mapM_mem e v hv; exact (RR y v hy).2⟩

theorem builtin_run {dst : Option Tmp} {ty : TypeId} {pos : String} {after : Array Edge} {guard : Option (Nat × Bool)} {b : Builtin} {args : Array Operand} {argTypes : Array TypeId} {l : List Value}
    (e : args.toList.mapM ρ = some l) : ∃ cs, (execOp r { dst, op := .call { callee := .builtin b, args, argTypes }, type := ty, pos, after, guard }).run P w = (builtin b argTypes ty cs ⟨l.map (phys σ)⟩).run P w := by
  obtain ⟨h1, _⟩ := args_sound EO RR R e
  exact ⟨_, by simp only [execOp, resolve, Sem.run_bind, Sem.run_pure, Result.andThen_ok, invoke, h1]; rfl⟩

omit EO RR R in
theorem argType0 {ts : Array TypeId} {t : Nat} {l : List TypeId} (e : ts.toList = t :: l) : ts[0]? = some t := by
  rw [← Array.getElem?_toList, e]; rfl

theorem delete_sound {ty : TypeId} {cs : Array Bool} {argTypes : Array TypeId} {t kt el : Nat} {ti : TypeInfo} {l : List TypeId} {mr : Option Nat} {k : Value} (ht : argTypes.toList = t :: l) (hty : E.ty t = some (ti, .map kt el))
    (hm : Wf σ (.map mr)) (hk : Wf σ k) {v : Value} {h' : H} (e : (match mr with
      | none => cond (keyOk E 30 kt k) (some (Next.val undefV h)) none
      | some r => match h.objs.get r with
        | some (.map es clock) => (mapDel E kt k es).map fun es => .val undefV (h.put r (.map es clock))
        | _ => none) = some (.val v h')) :
    v = undefV ∧ h'.next = h.next ∧ ∃ w', (builtin .delete argTypes ty cs ⟨[Value.map mr, k].map (phys σ)⟩).run P w = .ok (.value undef) w' ∧ HRel N0 w0 σ h' w' := by
  have ha := argType0 ht
  cases mr with
  | none =>
    simp only at e
    cases hko : keyOk E 30 kt k with
    | false => rw [hko] at e; cases e
    | true =>
      rw [hko] at e
      simp only [cond_true, Option.some.injEq, Next.val.injEq] at e
      obtain ⟨rfl, rfl⟩ := e
      have hck := keyOk_sound EO (w := w) true 30 kt k hko hk 10000 (by decide)
      refine ⟨rfl, rfl, w, ?_, R⟩
      simp [builtin, Builtin.delete_, ha, EO.run_ty hty, hck, undef]
  | some b =>
    simp only at e
    split at e
    · rename_i es clock ho
      cases hd : mapDel E kt k es with
      | none => rw [hd] at e; cases e
      | some es' =>
        rw [hd] at e
        simp only [Option.map_some, Option.some.injEq, Next.val.injEq] at e
        obtain ⟨rfl, rfl⟩ := e
        cases hm with
        | map _ p hp =>
          obtain ⟨h1, h2, h3⟩ := R.obj b p _ hp ho
          obtain ⟨g1, g2, g3⟩ := mapObj (P := P) EO R hp ho
          have hblk : σ.blk b = p.blk := by simp [Sig.blk, hp]
          rw [hblk] at g1
          unfold mapDel at hd
          cases hko : keyOk E 30 kt k with
          | false => rw [hko] at hd; cases hd
          | true =>
            rw [hko] at hd
            simp only [cond_true] at hd
            have hck := fun em => keyOk_sound EO (w := w) em 30 kt k hko hk 10000 (by decide)
            have hset : ∀ o', (setObj p.blk o').run P w = .ok () { w with heap := w.heap.setIfInBounds p.blk o' } := fun o' => by simp [setObj, Sem.run, h2]
            have hrel : ∀ es2, (∀ e ∈ es2, LEnt σ e) → HRel N0 w0 σ (h.put b (.map es2 clock)) { w with heap := w.heap.setIfInBounds p.blk (.map ⟨es2.map (physE σ)⟩ clock) } := fun es2 he2 =>
              R.putObj hp h1 (by simp) _ ⟨h1, by
                have : p.blk < w.heap.size := (R.rng b p hp).2
                simp [this], he2⟩
            cases hf : findE E kt k es with
            | none => rw [hf] at hd; cases hd
            | some fr =>
              obtain ⟨f1, f2⟩ := findE_sound EO (w := w) hk g2 hf
              rw [hf] at hd
              cases fr with
              | none =>
                simp only [Option.some.injEq] at hd
                subst hd
                refine ⟨rfl, rfl, _, ?_, hrel _ g2⟩
                simp only [Option.map_none] at f1
                simp [builtin, Builtin.delete_, ha, EO.run_ty hty, hblk, g1, hck, f1, hset, undef]
              | some ix =>
                obtain ⟨i, x⟩ := ix
                simp only [Option.some.injEq] at hd
                subst hd
                have hi := f2 i x rfl
                refine ⟨rfl, rfl, _, ?_, hrel _ (fun y hy => g2 y (List.mem_of_mem_eraseIdx hy))⟩
                simp only [Option.map_some] at f1
                simp [builtin, Builtin.delete_, ha, EO.run_ty hty, hblk, g1, hck, f1, hset, undef]
                rw [eraseIdx_map']
    · cases e

theorem clear_sound {ty : TypeId} {cs : Array Bool} {argTypes : Array TypeId} {t : Nat} {l : List TypeId} {x : Value} (ht : argTypes.toList = t :: l) (hx : Wf σ x) {v : Value} {h' : H}
    (e : (match E.ty t, x with
      | some _, .map none | some _, .slice none _ _ | some _, .slice _ 0 _ => some (Next.val undefV h)
      | some (_, .map _ _), .map (some r) => match h.objs.get r with
        | some (.map _ clock) => some (.val undefV (h.put r (.map [] clock)))
        | _ => none
      | some (_, .slice e), .slice (some ⟨b, o, none⟩) n _ => match E.ty e with
        | some (i, _) => match i.zero with
          | some z => (h.writeAt b o (replic n (vcells z) [])).map fun h' => .val undefV h'
          | none => none
        | none => none
      | _, _ => none) = some (.val v h')) :
    v = undefV ∧ h'.next = h.next ∧ ∃ w', (builtin .clear argTypes ty cs ⟨[x].map (phys σ)⟩).run P w = .ok (.value undef) w' ∧ HRel N0 w0 σ h' w' := by
  have ha := argType0 ht
  split at e
  · rename_i q hq
    obtain ⟨i, d⟩ := q
    simp only [Option.some.injEq, Next.val.injEq] at e
    obtain ⟨rfl, rfl⟩ := e
    exact ⟨rfl, rfl, w, by simp [builtin, Builtin.clear_, ha, EO.run_ty hq, undef], R⟩
  · rename_i q n c hq
    obtain ⟨i, d⟩ := q
    simp only [Option.some.injEq, Next.val.injEq] at e
    obtain ⟨rfl, rfl⟩ := e
    exact ⟨rfl, rfl, w, by simp [builtin, Builtin.clear_, ha, EO.run_ty hq, undef, physSlice], R⟩
  · rename_i q a c _ hq
    obtain ⟨i, d⟩ := q
    simp only [Option.some.injEq, Next.val.injEq] at e
    obtain ⟨rfl, rfl⟩ := e
    refine ⟨rfl, rfl, w, ?_, R⟩
    rcases a with _ | ⟨b, off, _ | o⟩ <;> simp [builtin, Builtin.clear_, ha, EO.run_ty hq, undef, physSlice]
  · rename_i i kt el b hq
    split at e
    · rename_i es clock ho
      simp only [Option.some.injEq, Next.val.injEq] at e
      obtain ⟨rfl, rfl⟩ := e
      cases hx with
      | map _ p hp =>
        obtain ⟨h1, h2, h3⟩ := R.obj b p _ hp ho
        have hblk : σ.blk b = p.blk := by simp [Sig.blk, hp]
        have hset : ∀ o', (setObj p.blk o').run P w = .ok () { w with heap := w.heap.setIfInBounds p.blk o' } := fun o' => by simp [setObj, Sem.run, h2]
        have hgo : (getObj p.blk).run P w = .ok (.map ⟨es.map (physE σ)⟩ clock) w := by simp [getObj, Sem.run, h2]
        refine ⟨rfl, rfl, _, ?_, R.putObj hp h1 (by simp) (.map #[] clock) ⟨h1, by
                have : p.blk < w.heap.size := (R.rng b p hp).2
                simp [this], by simp⟩⟩
        simp [builtin, Builtin.clear_, ha, EO.run_ty hq, undef, hblk, hgo, hset]
    · cases e
  · rename_i i el b o n c hnz hq
    cases hel : E.ty el with
    | none => rw [hel] at e; cases e
    | some q =>
      obtain ⟨i', d⟩ := q
      rw [hel] at e
      simp only at e
      cases hz : i'.zero with
      | none => rw [hz] at e; cases e
      | some z =>
        rw [hz] at e
        simp only at e
        cases hw : h.writeAt b o (replic n (vcells z) []) with
        | none => rw [hw] at e; cases e
        | some h2 =>
          rw [hw] at e
          simp only [Option.map_some, Option.some.injEq, Next.val.injEq] at e
          obtain ⟨rfl, rfl⟩ := e
          obtain ⟨hzc, hzf⟩ := EO.zero _ _ _ _ hel hz
          obtain ⟨hzp, hzw⟩ := phys_const (σ := σ) hzc
          have hcells : z.cells.toList = (vcells z).map (phys σ) := by rw [← phys_cells, hzp]
          cases hx with
          | slice _ _ _ _ p hp =>
            obtain ⟨g1, g2, g3⟩ := R.stores (P := P) hp hw (fun x hx => hzw.cells hzf x (mem_replic hx))
            refine ⟨rfl, g3, _, ?_, g2⟩
            have hzl : (Builtin.zeroCells z.cells n).toList = (replic n (vcells z) []).map (phys σ) := zeros_eq σ hcells n
            have hn : n ≠ 0 := fun h0 => hnz h0
            obtain ⟨n, rfl⟩ : ∃ m, n = m + 1 := ⟨n - 1, by omega⟩
            simp only [List.map_cons, List.map_nil, phys_slice, physSlice, builtin, Builtin.clear_, Sem.run_bind, ha, Sig.addr, Sig.blk, Sig.dlt, hp]
            simp [EO.run_ty hq, EO.run_zero hel hz, hzl, g1, undef]
  · cases e
end
end Go.Lm

/- copy and append. -/
namespace Go.Lm
section
variable {E : Env} {P : Program} (EO : EnvOK E P) {w : World} {σ : Sig} {ρ : Rho} {r : Operand → Value} (RR : RhoRel σ ρ r) {N0 : Nat} {w0 : World} {h : H} (R : HRel N0 w0 σ h w)
include EO RR R

theorem lenL_sound {x : Value} {m : Nat} (e : lenL x = some m) : (Builtin.lenOf (phys σ x)).run P w = .ok m w := by
  unfold lenL at e
  split at e
  · rename_i a n c
    simp only [Option.some.injEq] at e
    subst e
    rcases a with _ | ⟨b, off, _ | o⟩ <;> simp [physSlice, Builtin.lenOf]
  · simp only [Option.some.injEq] at e
    subst e
    simp only [phys_string, Builtin.lenOf, Sem.run_pure]
    rfl
  · cases e

theorem copySrc_sound {s k : Nat} {x : Value} {cs : List Value} (hx : Wf σ x) (e : copySrc h s k x = some cs) :
    (Builtin.firstCells s k (phys σ x)).run P w = .ok ⟨cs.map (phys σ)⟩ w ∧ ∀ v ∈ cs, Wf σ v ∧ v.oneCell' = true := by
  unfold copySrc at e
  split at e
  · simp only [Option.some.injEq] at e
    subst e
    simp [physSlice, Builtin.firstCells]
  · rename_i b o n c
    cases hx with
    | slice _ _ _ _ p hp =>
      obtain ⟨h1, h2, h3, _⟩ := R.readAt hp e
      have := run_loadCells_list (P := P) w ⟨p.blk, p.dlt + o, none⟩ (cs.map (phys σ)) (fun j v hv => by rw [Addr.add_mid]; exact h2 j v hv)
      rw [List.length_map, h1] at this
      refine ⟨?_, h3⟩
      simp only [phys_slice, physSlice, Builtin.firstCells, Sig.addr, Sig.blk, Sig.dlt, hp, this]
  · rename_i b o o' n c
    cases hk : Nat.beq k 0 with
    | false => rw [hk] at e; cases e
    | true =>
      rw [hk] at e
      simp only [cond_true, Option.some.injEq] at e
      subst e
      have hk0 : k = 0 := by rw [nbeq] at hk; simpa using hk
      subst hk0
      simp [physSlice, Builtin.firstCells, loadCells, loadCellsFrom]
  · rename_i st
    simp only [Option.some.injEq] at e
    subst e
    refine ⟨?_, fun v hv => ?_⟩
    · simp only [phys_string, Builtin.firstCells, Sem.run_pure]
      congr 1
      apply Array.ext'
      simp [ByteArray.data_extract, List.map_take, Function.comp_def]
    · obtain ⟨b, _, rfl⟩ := List.mem_map.1 hv
      exact ⟨.int _ _, rfl⟩
  · cases e

theorem copy_sound {ty : TypeId} {cs : Array Bool} {argTypes : Array TypeId} {t el : Nat} {ti : TypeInfo} {l : List TypeId} {base : Option Addr} {n c : Nat} {x : Value} (ht : argTypes.toList = t :: l) (hty : E.ty t = some (ti, .slice el))
    (hb : Wf σ (.slice base n c)) (hx : Wf σ x) {v : Value} {h' : H} (e : (match E.size el, lenL x with
            | some s, some m => match copySrc h s (Nat.min m n) x with
              | some cs => match base with
                | none => some (Next.val (.int .i64 (Nat.min m n)) h)
                | some ⟨b, o, none⟩ => (h.writeAt b o cs).map fun h' => .val (.int .i64 (Nat.min m n)) h'
                | some ⟨_, _, some _⟩ => cond cs.isEmpty (some (.val (.int .i64 (Nat.min m n)) h)) none
              | none => none
            | _, _ => none) = some (.val v h')) :
    Wf σ v ∧ h'.next = h.next ∧ ∃ w', (builtin .copy argTypes ty cs ⟨[Value.slice base n c, x].map (phys σ)⟩).run P w = .ok (.value (phys σ v)) w' ∧ HRel N0 w0 σ h' w' := by
  have ha := argType0 ht
  cases hs : E.size el with
  | none => rw [hs] at e; cases e
  | some s =>
    cases hm : lenL x with
    | none => rw [hs, hm] at e; cases e
    | some m =>
      rw [hs, hm] at e
      simp only at e
      cases hcs : copySrc h s (Nat.min m n) x with
      | none => rw [hcs] at e; cases e
      | some src =>
        rw [hcs] at e
        simp only at e
        have g0 := lenL_sound EO RR R hm
        obtain ⟨g1, g2⟩ := copySrc_sound EO RR R hx hcs
        rcases base with _ | ⟨b, o, _ | o'⟩
        · simp only [Option.some.injEq, Next.val.injEq] at e
          obtain ⟨rfl, rfl⟩ := e
          refine ⟨.int _ _, rfl, w, ?_, R⟩
          simp only [List.map_cons, List.map_nil, phys_slice, physSlice, builtin, Builtin.copy_, Sem.run_bind, ha]
          simp only [List.getElem?_toArray, List.getElem?_cons_zero, List.getElem?_cons_succ, Sem.run_bind, EO.run_ty hty, Result.andThen_ok, g0, EO.run_size hs, g1, Sem.run_pure, phys_int, goInt]
        · simp only at e
          cases hw : h.writeAt b o src with
          | none => rw [hw] at e; cases e
          | some h2 =>
            rw [hw] at e
            simp only [Option.map_some, Option.some.injEq, Next.val.injEq] at e
            obtain ⟨rfl, rfl⟩ := e
            cases hb with
            | slice _ _ _ _ p hp =>
              obtain ⟨k1, k2, k3⟩ := R.stores (P := P) hp hw g2
              refine ⟨.int _ _, k3, _, ?_, k2⟩
              simp only [List.map_cons, List.map_nil, phys_slice, physSlice, builtin, Builtin.copy_, Sem.run_bind, ha]
              simp only [List.getElem?_toArray, List.getElem?_cons_zero, List.getElem?_cons_succ, Sem.run_bind, EO.run_ty hty, Result.andThen_ok, g0, EO.run_size hs, g1, Sem.run_pure, phys_int, goInt, Sig.addr, Sig.blk, Sig.dlt, hp, k1]
        · simp only at e
          cases src with
          | cons y ys => simp at e
          | nil =>
            simp only [List.isEmpty_nil, cond_true, Option.some.injEq, Next.val.injEq] at e
            obtain ⟨rfl, rfl⟩ := e
            refine ⟨.int _ _, rfl, w, ?_, R⟩
            simp only [List.map_cons, List.map_nil, phys_slice, physSlice, builtin, Builtin.copy_, Sem.run_bind, ha]
            simp only [List.getElem?_toArray, List.getElem?_cons_zero, List.getElem?_cons_succ, Sem.run_bind, EO.run_ty hty, Result.andThen_ok, g0, EO.run_size hs, g1, Sem.run_pure, phys_int, goInt, List.map_nil, storeCells]
end
end Go.Lm

/- append. -/
namespace Go.Lm
section
variable {E : Env} {P : Program} (EO : EnvOK E P) {w : World}

include EO
set_option maxHeartbeats 4000000 in
theorem app_in_plain {ts : Array TypeId} {t t2 e ty n c k : Nat} {i1 i2 i : TypeInfo} {d2 d : TypeDesc} {base : Option Addr} {x : Value} {new : Array Value} {w' : World} (h1 : ts[0]? = some t) (h2 : ts[1]? = some t2)
    (ht : E.ty t = some (i1, .slice e)) (ht2 : E.ty t2 = some (i2, d2)) (hni : ∀ kk, d2 ≠ .int kk) (he : E.ty e = some (i, d)) (hl : (Builtin.lenOf x).run P w = .ok k w) (hf : (Builtin.firstCells i.size k x).run P w = .ok new w)
    (hroom : n + k ≤ c) (hst : ∀ a, base = some a → (storeCells (a.add (n * i.size)) new.toList).run P w = .ok () w') (hno : base = none → w' = w) :
    (Builtin.append_ ts ty #[.slice base n c, x]).run P w = .ok (.slice base (n + k) c) w' := by
  unfold Builtin.append_
  simp only [h1, h2, List.getElem?_toArray, List.getElem?_cons_zero, List.getElem?_cons_succ, Sem.run_bind, EO.run_ty ht, EO.run_size (EnvOK.size_of he), Result.andThen_ok]
  cases base with
  | none =>
    have := hno rfl
    subst this
    cases d2 <;> first | (exact absurd rfl (hni _)) | simp [EO.run_ty ht2, hl, hroom, hf]
  | some a =>
    have := hst a rfl
    cases d2 <;> first | (exact absurd rfl (hni _)) | simp [EO.run_ty ht2, hl, hroom, hf, this]

set_option maxHeartbeats 4000000 in
theorem app_grow_plain {ts : Array TypeId} {t t2 e ty n c k : Nat} {i1 i2 i : TypeInfo} {d2 d : TypeDesc} {base : Option Addr} {x z : Value} {old new : Array Value} (h1 : ts[0]? = some t) (h2 : ts[1]? = some t2)
    (ht : E.ty t = some (i1, .slice e)) (ht2 : E.ty t2 = some (i2, d2)) (hni : ∀ kk, d2 ≠ .int kk) (he : E.ty e = some (i, d)) (hz : i.zero = some z) (hl : (Builtin.lenOf x).run P w = .ok k w) (hf : (Builtin.firstCells i.size k x).run P w.drew = .ok new w.drew)
    (hfo : (Builtin.firstCells i.size n (.slice base n c)).run P w.drew = .ok old w.drew) (hg : c < n + k) (hb : (n + k) * i.bytes ≤ 140737488355328) (h63 : n + k ≤ 9223372036854775807) :
    (Builtin.append_ ts ty #[.slice base n c, x]).run P w = .ok (.slice (some ⟨w.heap.size, 0, none⟩) (n + k) (grownCap w (n + k) c e)) (w.drew.alloc (.cells (old ++ new ++ Builtin.zeroCells z.cells (grownCap w (n + k) c e - (n + k))) e)) := by
  have hn : ¬ (n + k ≤ c) := by omega
  have h63' : ¬ (9223372036854775807 < ((n : Int) + (k : Int))) := by omega
  have hfit := growslice_fits hg hb
  have h48' : ¬ (281474976710656 < Builtin.nextslicecap (n + k) c * i.bytes) := by omega
  unfold Builtin.append_
  simp only [h1, h2, List.getElem?_toArray, List.getElem?_cons_zero, List.getElem?_cons_succ, Sem.run_bind, EO.run_ty ht, EO.run_size (EnvOK.size_of he), Result.andThen_ok]
  cases d2 <;> first | (exact absurd rfl (hni _)) | simp [EO.run_ty ht2, hl, hn, h63', h48', EO.run_info he, EO.run_zero he hz, Question.forced, hf, hfo, newRow, grownCap]

theorem app_in_make {ts : Array TypeId} {t t2 e ty n c k : Nat} {i1 i2 i : TypeInfo} {k2 : IntKind} {kk : IntKind} {d : TypeDesc} {base : Option Addr} {z : Value} {w' : World} (h1 : ts[0]? = some t) (h2 : ts[1]? = some t2)
    (ht : E.ty t = some (i1, .slice e)) (ht2 : E.ty t2 = some (i2, .int k2)) (he : E.ty e = some (i, d)) (hz : i.zero = some z) (hk : k ≤ 1000000) (hb : k * i.bytes ≤ 140737488355328)
    (hroom : n + k ≤ c) (hst : ∀ a, base = some a → (storeCells (a.add (n * i.size)) (Builtin.zeroCells z.cells k).toList).run P w = .ok () w') (hno : base = none → w' = w) (hs : 0 < i.size) (hzs : z.cells.size = i.size) :
    (Builtin.append_ ts ty #[.slice base n c, .int kk k]).run P w = .ok (.slice base (n + k) c) w' := by
  have hw : IntKind.i64.wrap (k : Int) = k := by simp [IntKind.wrap, IntKind.signed, IntKind.bits]; omega
  have hneg : ¬ ((k : Int) < 0) := by omega
  have hbig : ¬ ((k : Int) * (i.bytes : Int) > 2 ^ 48) := by
    have : ((k * i.bytes : Nat) : Int) ≤ ((140737488355328 : Nat) : Int) := Int.ofNat_le.2 hb
    simp only [Int.natCast_mul] at this
    omega
  have hbig2 : ¬ (281474976710656 < (k : Int) * (i.bytes : Int)) := hbig
  have hz0 : k * i.size = 0 → Builtin.zeroCells z.cells k = #[] := fun h0 => by
    have : k = 0 := by
      rcases Nat.mul_eq_zero.1 h0 with h | h
      · exact h
      · omega
    subst this
    simp [Builtin.zeroCells]
  have happ : (if k * i.size = 0 then pure #[] else do pure (Builtin.zeroCells (← zeroValue e).cells k) : Sem (Array Value)).run P w = .ok (Builtin.zeroCells z.cells k) w := by
    split
    · rename_i h0; rw [hz0 h0]; rfl
    · simp [EO.run_zero he hz]
  unfold Builtin.append_
  simp only [h1, h2, List.getElem?_toArray, List.getElem?_cons_zero, List.getElem?_cons_succ, Sem.run_bind, EO.run_ty ht, EO.run_size (EnvOK.size_of he), Result.andThen_ok]
  cases base with
  | none =>
    have := hno rfl
    subst this
    by_cases h0 : k * i.size = 0
    · simp [EO.run_ty ht2, asInt, asIntOf, hw, hneg, hbig2, EO.run_info he, hroom, h0]
    · simp [EO.run_ty ht2, asInt, asIntOf, hw, hneg, hbig2, EO.run_info he, hroom, h0, EO.run_zero he hz]
  | some a =>
    have := hst a rfl
    by_cases h0 : k * i.size = 0
    · rw [hz0 h0] at this
      simp [EO.run_ty ht2, asInt, asIntOf, hw, hneg, hbig2, EO.run_info he, hroom, h0, this]
    · simp [EO.run_ty ht2, asInt, asIntOf, hw, hneg, hbig2, EO.run_info he, hroom, h0, EO.run_zero he hz, this]

theorem app_grow_make {ts : Array TypeId} {t t2 e ty n c k : Nat} {i1 i2 i : TypeInfo} {k2 : IntKind} {kk : IntKind} {d : TypeDesc} {base : Option Addr} {z : Value} {old : Array Value} (h1 : ts[0]? = some t) (h2 : ts[1]? = some t2)
    (ht : E.ty t = some (i1, .slice e)) (ht2 : E.ty t2 = some (i2, .int k2)) (he : E.ty e = some (i, d)) (hz : i.zero = some z) (hk : k ≤ 1000000)
    (hfo : (Builtin.firstCells i.size n (.slice base n c)).run P w.drew = .ok old w.drew) (hg : c < n + k) (hb : (n + k) * i.bytes ≤ 140737488355328) (h63 : n + k ≤ 9223372036854775807) (hs : 0 < i.size) (hzs : z.cells.size = i.size) :
    (Builtin.append_ ts ty #[.slice base n c, .int kk k]).run P w = .ok (.slice (some ⟨w.heap.size, 0, none⟩) (n + k) (grownCap w (n + k) c e)) (w.drew.alloc (.cells (old ++ Builtin.zeroCells z.cells k ++ Builtin.zeroCells z.cells (grownCap w (n + k) c e - (n + k))) e)) := by
  have hn : ¬ (n + k ≤ c) := by omega
  have h63' : ¬ (9223372036854775807 < ((n : Int) + (k : Int))) := by omega
  have hfit := growslice_fits hg hb
  have h48' : ¬ (281474976710656 < Builtin.nextslicecap (n + k) c * i.bytes) := by omega
  have hw : IntKind.i64.wrap (k : Int) = k := by simp [IntKind.wrap, IntKind.signed, IntKind.bits]; omega
  have hneg : ¬ ((k : Int) < 0) := by omega
  have hkb : k * i.bytes ≤ 140737488355328 := Nat.le_trans (Nat.mul_le_mul_right _ (by omega)) hb
  have hbig : ¬ ((k : Int) * (i.bytes : Int) > 2 ^ 48) := by
    have : ((k * i.bytes : Nat) : Int) ≤ ((140737488355328 : Nat) : Int) := Int.ofNat_le.2 hkb
    simp only [Int.natCast_mul] at this
    omega
  have hbig2 : ¬ (281474976710656 < (k : Int) * (i.bytes : Int)) := hbig
  have hz0 : k * i.size = 0 → Builtin.zeroCells z.cells k = #[] := fun h0 => by
    have : k = 0 := by
      rcases Nat.mul_eq_zero.1 h0 with h | h
      · exact h
      · omega
    subst this
    simp [Builtin.zeroCells]
  unfold Builtin.append_
  simp only [h1, h2, List.getElem?_toArray, List.getElem?_cons_zero, List.getElem?_cons_succ, Sem.run_bind, EO.run_ty ht, EO.run_size (EnvOK.size_of he), Result.andThen_ok]
  by_cases h0 : k * i.size = 0
  · simp [EO.run_ty ht2, asInt, asIntOf, hw, hneg, hbig2, hn, h63', h48', EO.run_info he, EO.run_zero he hz, h0, Question.forced, hfo, newRow, grownCap, hz0 h0]
  · simp [EO.run_ty ht2, asInt, asIntOf, hw, hneg, hbig2, hn, h63', h48', EO.run_info he, EO.run_zero he hz, h0, Question.forced, hfo, newRow, grownCap]
end
end Go.Lm

/- A row behind another one's end. -/
namespace Go.Lm
section
variable {w : World} {σ : Sig} {N0 : Nat} {w0 : World} {h : H}

theorem H.killAll (h : H) (keep lo hi : Nat) (l : List Nat) : (h.kill keep lo hi l).next = h.next ∧ (h.kill keep lo hi l).cls = h.cls ∧
    ∀ b', (h.kill keep lo hi l).objs.get b' = h.objs.get b' ∨ ((h.kill keep lo hi l).objs.get b' = some .dead ∧ ∃ q, h.objs.get b' = some (.row q)) := by
  obtain ⟨k1, k2, k3⟩ := H.kill_spec keep lo hi l h
  refine ⟨k1, k2, fun b' => ?_⟩
  rw [k3]
  cases hg : h.objs.get b' with
  | none => exact .inl rfl
  | some o =>
    cases o <;> simp only
    all_goals (try exact .inl trivial)
    split
    · exact .inr ⟨rfl, _, rfl⟩
    · exact .inl rfl

/-- rows may die -/
theorem HRel.kills (R : HRel N0 w0 σ h w) (keep lo hi : Nat) (l : List Nat) : HRel N0 w0 σ (h.kill keep lo hi l) w := by
  obtain ⟨k1, k2, k3⟩ := H.killAll h keep lo hi l
  refine ⟨fun b p hp => by rw [k1]; exact R.lt b p hp, fun b o ho => ?_, fun b p o hp ho => ?_, R.row, R.inj, R.rng, fun b r hr => ?_, fun c l' hc => by rw [k1]; rw [k2] at hc; exact R.clsLt c l' hc, R.old, R.size, R.os, R.output, R.fz, fun b r hr => ?_, R.nrow⟩
  · rw [k1]
    rcases k3 b with e | ⟨e, q, hq⟩
    · exact R.got b o (by rw [← e]; exact ho)
    · exact R.got b _ hq
  · rcases k3 b with e | ⟨e, q, hq⟩
    · exact R.obj b p o hp (by rw [← e]; exact ho)
    · rw [e] at ho; cases ho
      exact (R.obj b p _ hp hq).1
  · rcases k3 b with e | ⟨e, q, hq⟩
    · rw [k2]; exact R.cls b r (by rw [← e]; exact hr)
    · rw [e] at hr; cases hr
  · rcases k3 b with e | ⟨e, q, hq⟩
    · exact R.rok b r (by rw [← e]; exact hr)
    · rw [e] at hr; cases hr

/-- a new row of a class that is there -/
theorem HRel.newC (R : HRel N0 w0 σ h w) (q : Row) (hk : q.ok) (hc : q.cls < h.next) :
    HRel N0 w0 σ { h.new (.row q) with cls := (h.new (.row q)).cls.set q.cls (some (h.next :: h.clsOf q.cls)) } w := by
  have hn := R.none_of_ge (Nat.le_refl h.next)
  have hne : ∀ b p, σ b = some p → b ≠ h.next := fun b p e e2 => by rw [e2, hn] at e; cases e
  refine ⟨fun b p hp => Nat.lt_succ_of_lt (R.lt b p hp), fun b o' ho => ?_, fun b p o' hp ho => ?_, R.row, R.inj, R.rng, fun b r hr => ?_, fun c l hl => ?_, R.old, R.size, R.os, R.output, R.fz, fun b r hr => ?_, R.nrow⟩
  · simp only [H.new, T.get_set] at ho ⊢
    by_cases e : b = h.next
    · omega
    · rw [if_neg e] at ho
      have := R.got b o' ho
      omega
  · simp only [H.new, T.get_set] at ho
    rw [if_neg (hne b p hp)] at ho
    exact R.obj b p o' hp ho
  · simp only [H.new, T.get_set] at hr ⊢
    by_cases e : b = h.next
    · rw [if_pos e] at hr
      cases hr
      rw [if_pos rfl]
      exact ⟨fun h => by (cases h), fun l hl => by cases hl; simp [e]⟩
    · rw [if_neg e] at hr
      obtain ⟨c1, c2⟩ := R.cls b r hr
      by_cases ec : r.cls = q.cls
      · rw [if_pos ec]
        refine ⟨fun h => by (cases h), fun l hl => ?_⟩
        cases hl
        refine List.mem_cons_of_mem _ ?_
        unfold H.clsOf
        cases hg : h.cls.get q.cls with
        | none => rw [← ec] at hg; rw [← ec]; simp [c1 hg]
        | some l => rw [← ec] at hg; exact c2 l hg
      · rw [if_neg ec]
        exact ⟨c1, c2⟩
  · simp only [H.new, T.get_set] at hl ⊢
    by_cases ec : c = q.cls
    · omega
    · rw [if_neg ec] at hl
      have := R.clsLt c l hl
      omega
  · simp only [H.new, T.get_set] at hr
    by_cases e : b = h.next
    · rw [if_pos e] at hr
      cases hr; exact hk
    · rw [if_neg e] at hr
      exact R.rok b r hr
end
end Go.Lm

/- append, by the tables. -/
namespace Go.Lm
section
variable {w : World} {σ : Sig} {N0 : Nat} {w0 : World} {h : H}

theorem HRel.drew (R : HRel N0 w0 σ h w) : HRel N0 w0 σ h w.drew := R.world rfl rfl rfl

/-- a new row, of a class of its own, with room behind it -/
theorem HRel.growNew (R : HRel N0 w0 σ h w) {o : LObj} {esz cnt : Nat} {vs : List Value} (hh : Holds o h.next esz cnt vs) (hw : ∀ v ∈ vs, Wf σ v ∧ v.oneCell' = true)
    (cs : Array Value) (rest : List Value) (hcs : cs.toList = vs.map (phys σ) ++ rest) (e : TypeId) (cap : Nat) (hcap : cnt ≤ cap) (hsz : cap * esz ≤ cs.size) :
    ∃ p : Place, p.blk = w.heap.size ∧ p.dlt = 0 ∧ p.cap = cap ∧ Grow h.next σ (σ.put h.next p) ∧ HRel N0 w0 (σ.put h.next p) (h.new o) (w.drew.alloc (.cells cs e)) := by
  have hs := R.none_of_ge (Nat.le_refl h.next)
  obtain ⟨q, q1, q2, q3, q4, q5, q6, q7⟩ := hh.row
  have R1 := R.drew.newL o (fun r hr => by rw [q1] at hr; cases hr; exact ⟨q5, q2⟩)
  have hget : (h.new o).objs.get h.next = some o := by simp [H.new, T.get_set]
  obtain ⟨st, g⟩ := hh.lay R1 hs hget (SameO.refl o) hw cs rest hcs e cap hcap hsz
  exact ⟨_, rfl, rfl, rfl, .put hs (Nat.le_refl _), g⟩

/-- a new row, of a class that is there, in a block of its own -/
theorem HRel.growIn (R : HRel N0 w0 σ h w) {q : Row} {vs : List Value} (hk : q.ok) (hc : q.cls < h.next) (hz : 0 < q.esz) (hl : vs.length = q.cnt * q.esz) (hcell : ∀ j, j < q.cnt * q.esz → q.cell j = vs[j]?)
    (hw : ∀ v ∈ vs, Wf σ v ∧ v.oneCell' = true) (cs : Array Value) (rest : List Value) (hcs : cs.toList = vs.map (phys σ) ++ rest) (e : TypeId) (cap : Nat) (hcap : q.cnt ≤ cap) (hsz : cap * q.esz ≤ cs.size) :
    ∃ p : Place, p.blk = w.heap.size ∧ p.dlt = 0 ∧ p.cap = cap ∧ Grow h.next σ (σ.put h.next p) ∧
      HRel N0 w0 (σ.put h.next p) { h.new (.row q) with cls := (h.new (.row q)).cls.set q.cls (some (h.next :: h.clsOf q.cls)) } (w.drew.alloc (.cells cs e)) := by
  have hs := R.none_of_ge (Nat.le_refl h.next)
  have R1 := R.drew.newC q hk hc
  have hget : ({ h.new (.row q) with cls := (h.new (.row q)).cls.set q.cls (some (h.next :: h.clsOf q.cls)) } : H).objs.get h.next = some (.row q) := by simp [H.new, T.get_set]
  have := R1.layRow hs hget cs e cap hz hk hcap hsz (fun j v hj hcv => by
    rw [hcell j hj] at hcv
    have hjl : j < vs.length := by omega
    refine ⟨?_, hw v (List.mem_of_getElem? hcv)⟩
    rw [← Array.getElem?_toList, hcs, List.getElem?_append_left (by simpa using hjl), List.getElem?_map, hcv]; rfl)
  exact ⟨_, rfl, rfl, rfl, .put hs (Nat.le_refl _), this⟩

/-- cells are written behind a row's end: the rows of its class that lie there are dead -/
theorem HRel.writeEnd (R : HRel N0 w0 σ h w) {b : Nat} {p : Place} {r : Row} (hp : σ b = some p) (hr : h.objs.get b = some (.row r)) (vs : List Value) (off : Nat) (hoff : r.cnt * r.esz ≤ off) (hroom : off + vs.length ≤ p.cap * p.esz)
    (hdead : ∀ b' q, b' ≠ b → h.objs.get b' = some (.row q) → q.cls = r.cls → overlaps q (r.start + off) (r.start + (off + vs.length)) = false) :
    HRel N0 w0 σ h (w.setCells p.blk (p.dlt + off) vs) := by
  obtain ⟨h1, h2, h3, h4, h5, hk, hcell⟩ := R.obj b p _ hp hr
  have hsz := World.setCells_size p.blk vs (p.dlt + off) w
  have hother : ∀ b' p', σ b' = some p' → p'.row = false → p'.blk ≠ p.blk := fun b' p' hp' hf eq => by
    rcases R.inj b' b p' p hp' hp eq with rfl | ⟨h, _⟩
    · rw [hp] at hp'; cases hp'; rw [h1] at hf; cases hf
    · rw [h] at hf; cases hf
  refine ⟨R.lt, R.got, fun b' p' o hp' ho => ?_, fun b' p' hp' hr' => ?_, R.inj, fun b' p' hp' => by rw [hsz]; exact R.rng b' p' hp', R.cls, R.clsLt, fun q hq => ?_, by rw [hsz]; exact R.size, by rw [World.os_setCells]; exact R.os, by rw [World.output_setCells]; exact R.output, fun b' p' hp' hr' => endFz_setCells (R.fz b' p' hp' hr') _ _ _, R.rok, R.nrow⟩
  · have := R.obj b' p' o hp' ho
    cases o with
    | row q =>
      obtain ⟨g1, g2, g3, g4, g5, g6, g7⟩ := this
      refine ⟨g1, g2, g3, g4, g5, g6, fun j v hj hc => ?_⟩
      obtain ⟨c1, c2⟩ := g7 j v hj hc
      refine ⟨?_, c2⟩
      rw [World.cell?_setCells_out _ _ _ _ _ (fun hblk _ => ?_)]
      · exact c1
      · by_cases e2 : b' = b
        · subst e2
          rw [hp] at hp'; cases hp'
          rw [hr] at ho; cases ho
          simp only; omega
        · rcases R.inj b' b p' p hp' hp hblk with e | ⟨_, _, i3, i4⟩
          · exact absurd e e2
          · have := hdead b' q e2 ho (by rw [g3, i3, ← h3])
            unfold overlaps at this
            rw [nblt, nblt, Bool.and_eq_false_iff, decide_eq_false_iff_not, decide_eq_false_iff_not] at this
            rw [g4, h4] at this
            simp only
            omega
    | dead => exact this
    | map es clock => exact ⟨this.1, by rw [World.setCells_other _ _ _ _ _ (hother b' p' hp' this.1)]; exact this.2.1, this.2.2⟩
    | strIter s pos => exact ⟨this.1, by rw [World.setCells_other _ _ _ _ _ (hother b' p' hp' this.1)]; exact this.2⟩
    | mapIter m since seen stepped => exact ⟨this.1, by rw [World.setCells_other _ _ _ _ _ (hother b' p' hp' this.1)]; exact this.2.1, this.2.2⟩
    | loop st pending fn tmps nt params assign body defers => exact ⟨this.1, this.2.1, by rw [World.setCells_other _ _ _ _ _ (hother b' p' hp' this.1)]; exact this.2.2⟩
    | deferred calls => exact ⟨this.1, by rw [World.setCells_other _ _ _ _ _ (hother b' p' hp' this.1)]; exact this.2.1, this.2.2⟩
  · obtain ⟨z0, z1⟩ := R.row b' p' hp' hr'
    exact ⟨z0, World.there_setCells z1 _ _ _⟩
  · rw [World.setCells_other _ _ _ _ _ (by have := (R.rng b p hp).1; omega)]
    exact R.old q hq

/-- A row that lies in the block of another one. -/
theorem HRel.share (R : HRel N0 w0 σ h w) {b b2 : Nat} {p : Place} (hp : σ b = some p) (h1 : p.row = true) (hs : σ b2 = none) {q : Row} (hq : h.objs.get b2 = some (.row q)) (m : Nat)
    (hqe : q.esz = p.esz) (hqc : q.cls = p.cls) (hqs : q.start = p.start + m * p.esz) (hcnt : q.cnt + m ≤ p.cap)
    (hcell : ∀ j v, j < q.cnt * q.esz → q.cell j = some v → w.cell? ⟨p.blk, p.dlt + m * p.esz + j, none⟩ = some (phys σ v) ∧ Wf σ v ∧ v.oneCell' = true) :
    HRel N0 w0 (σ.put b2 { blk := p.blk, dlt := p.dlt + m * p.esz, cap := p.cap - m, esz := p.esz, cls := p.cls, start := p.start + m * p.esz, row := true }) h w := by
  generalize hp2 : ({ blk := p.blk, dlt := p.dlt + m * p.esz, cap := p.cap - m, esz := p.esz, cls := p.cls, start := p.start + m * p.esz, row := true } : Place) = p2
  have hle := Sig.le_put p2 hs
  have hcase : ∀ b' q', σ.put b2 p2 b' = some q' → (b' = b2 ∧ q' = p2) ∨ (b' ≠ b2 ∧ σ b' = some q') := fun b' q' e => by
    unfold Sig.put at e
    by_cases e2 : b' = b2
    · rw [if_pos e2] at e; exact .inl ⟨e2, (Option.some.inj e).symm⟩
    · rw [if_neg e2] at e; exact .inr ⟨e2, e⟩
  have hinj : ∀ b' p', σ b' = some p' → p'.blk = p2.blk → p'.row = true ∧ p2.row = true ∧ p'.cls = p2.cls ∧ p'.dlt + p2.start = p2.dlt + p'.start := fun b' p' e eb => by
    subst hp2
    rcases R.inj b' b p' p e hp eb with rfl | ⟨g1, g2, g3, g4⟩
    · rw [hp] at e; cases e
      exact ⟨h1, rfl, rfl, by simp only; omega⟩
    · exact ⟨g1, rfl, g3, by simp only; omega⟩
  refine ⟨fun b' q' e => ?_, R.got, fun b' q' ob e ho => ?_, fun b' q' e hr => ?_, fun b' b'' q' q'' e e' eb => ?_, fun b' q' e => ?_, R.cls, R.clsLt, R.old, R.size, R.os, R.output, fun b' q' e hr => ?_, R.rok, fun b' q' e hr => ?_⟩
  · rcases hcase b' q' e with ⟨rfl, _⟩ | ⟨_, e⟩
    · exact R.got _ _ hq
    · exact R.lt b' q' e
  · rcases hcase b' q' e with ⟨rfl, rfl⟩ | ⟨_, e⟩
    · rw [hq] at ho; cases ho
      subst hp2
      refine ⟨rfl, hqe, hqc, hqs, by simp only; omega, R.rok _ q hq, fun j v hj hc => ?_⟩
      obtain ⟨c1, c2, c3⟩ := hcell j v hj hc
      rw [phys_le hle c2]
      exact ⟨c1, c2.le hle, c3⟩
    · exact objRel_mono hle rfl (R.obj b' q' ob e ho)
  · rcases hcase b' q' e with ⟨rfl, rfl⟩ | ⟨_, e⟩
    · subst hp2
      obtain ⟨z0, z1⟩ := R.row b p hp h1
      refine ⟨z0, fun j hj => z1 j ?_⟩
      simp only at hj
      have : (p.cap - m) * p.esz = p.cap * p.esz - m * p.esz := Nat.sub_mul _ _ _
      have hm : m * p.esz ≤ p.cap * p.esz := Nat.mul_le_mul_right _ (by omega)
      omega
    · exact R.row b' q' e hr
  · rcases hcase b' q' e with ⟨rfl, rfl⟩ | ⟨_, e1⟩ <;> rcases hcase b'' q'' e' with ⟨rfl, rfl⟩ | ⟨_, e2⟩
    · exact .inl rfl
    · obtain ⟨g1, g2, g3, g4⟩ := hinj _ _ e2 eb.symm
      exact .inr ⟨g2, g1, g3.symm, by omega⟩
    · obtain ⟨g1, g2, g3, g4⟩ := hinj _ _ e1 eb
      exact .inr ⟨g1, g2, g3, g4⟩
    · exact R.inj _ _ _ _ e1 e2 eb
  · rcases hcase b' q' e with ⟨rfl, rfl⟩ | ⟨_, e⟩
    · subst hp2; exact R.rng b p hp
    · exact R.rng b' q' e
  · rcases hcase b' q' e with ⟨rfl, rfl⟩ | ⟨_, e⟩
    · subst hp2; exact R.fz b p hp h1
    · exact R.fz b' q' e hr
  · rcases hcase b' q' e with ⟨rfl, rfl⟩ | ⟨_, e⟩
    · subst hp2; cases hr
    · exact R.nrow b' q' e hr
end
end Go.Lm

/- append, by the tables. -/
namespace Go.Lm
section
variable {P : Program} {w : World} {σ : Sig} {N0 : Nat} {w0 : World} {h : H}

theorem chunks_row {elem esz cnt cls start : Nat} {vs : List Value} {f : Nat} {t : T (List Value)} (hz : 0 < esz) (hl : vs.length = cnt * esz) (e : chunks esz f 0 vs .leaf = some t) :
    ({ elem, esz, cnt, cls, start, cells := t } : Row).ok ∧ ∀ j, j < cnt * esz → ({ elem, esz, cnt, cls, start, cells := t } : Row).cell j = vs[j]? := by
  obtain ⟨n, h1, h2, _⟩ := chunks_spec esz hz _ _ _ _ _ e
  have hn : n = cnt := Nat.eq_of_mul_eq_mul_right hz (h1.symm.trans hl)
  subst hn
  refine ⟨?_, ?_⟩
  · intro i hi
    obtain ⟨c, g1, g2, _⟩ := h2 i hi
    exact ⟨c, by simpa using g1, g2⟩
  · intro j hj
    have hi : j / esz < n := Nat.div_lt_of_lt_mul (by rw [Nat.mul_comm]; exact hj)
    obtain ⟨c, g1, _, g3⟩ := h2 _ hi
    unfold Row.cell
    simp only [Nat.zero_add] at g1
    simp only [g1]
    rw [g3 _ (Nat.mod_lt j hz)]
    congr 1
    have := Nat.div_add_mod j esz
    rw [Nat.mul_comm] at this
    exact this

/-- what append comes to: in place, or in a new block -/
structure Apps (P : Program) (N0 : Nat) (w0 : World) (σ : Sig) (h : H) (w : World) (elem size n k : Nat) (new : List Value) (base' : Option Addr) (c' : Nat) (h' : H) (v : Value) : Prop where
  room : n + k ≤ c' → ∃ σ' w', Grow h.next σ σ' ∧ HRel N0 w0 σ' h' w' ∧ (∀ a, base' = some a → (storeCells (a.add (n * size)) (new.map (phys σ))).run P w = .ok () w') ∧ (base' = none → w' = w) ∧
    phys σ' v = .slice base' (n + k) c' ∧ Wf σ' v
  grow : c' < n + k → ∃ old : List Value, (Builtin.firstCells size n (.slice base' n c')).run P w.drew = .ok ⟨old.map (phys σ)⟩ w.drew ∧
    ∀ cap (zs : List Value), n + k ≤ cap → zs.length = (cap - (n + k)) * size → ∃ σ', Grow h.next σ σ' ∧ HRel N0 w0 σ' h' (w.drew.alloc (.cells ⟨old.map (phys σ) ++ (new.map (phys σ) ++ zs)⟩ elem)) ∧
      phys σ' v = .slice (some ⟨w.heap.size, 0, none⟩) (n + k) cap ∧ Wf σ' v
  next : h.next ≤ h'.next

/-- the new row's slice -/
theorem new_slice {p : Place} {cap n : Nat} (h2 : p.dlt = 0) (h3 : p.cap = cap) (b : Nat) :
    phys (σ.put b p) (.slice (some ⟨b, 0, none⟩) n unk) = .slice (some ⟨p.blk, 0, none⟩) n cap ∧ Wf (σ.put b p) (.slice (some ⟨b, 0, none⟩) n unk) := by
  refine ⟨?_, .slice _ _ _ _ p (Sig.put_same σ b p)⟩
  simp [physSlice, Sig.addr, Sig.blk, Sig.dlt, Sig.capAt, Sig.put_same, h2, h3]

theorem read_first (R : HRel N0 w0 σ h w) {b off n size c : Nat} {p : Place} (hp : σ b = some p) {r : Row} (hr : h.row b = some r) {old : List Value} (e : r.read off (n * size) = some old) :
    (Builtin.firstCells size n (.slice (some ⟨p.blk, p.dlt + off, none⟩) n c)).run P w.drew = .ok ⟨old.map (phys σ)⟩ w.drew ∧ old.length = n * size ∧ ∀ v ∈ old, Wf σ v ∧ v.oneCell' = true := by
  have he : h.readAt b off (n * size) = some old := by unfold H.readAt; rw [hr]; exact e
  obtain ⟨g1, g2, g3, _⟩ := R.readAt hp he
  refine ⟨?_, g1, g3⟩
  have := run_loadCells_list (P := P) w.drew ⟨p.blk, p.dlt + off, none⟩ (old.map (phys σ)) (fun j v hv => by rw [Addr.add_mid]; exact g2 j v hv)
  rw [List.length_map, g1] at this
  simp only [Builtin.firstCells, this]

/-- all cells anew -/
theorem apps_new (R : HRel N0 w0 σ h w) {elem size n k : Nat} {old new : List Value} {o : LObj} (hz : 0 < size) (hlo : old.length = n * size) (hln : new.length = k * size) (ho : ∀ v ∈ old, Wf σ v ∧ v.oneCell' = true) (hn : ∀ v ∈ new, Wf σ v ∧ v.oneCell' = true)
    (e : mkRow h elem size (n + k) (old ++ new) = some o) (cap : Nat) (zs : List Value) (hcap : n + k ≤ cap) (hzs : zs.length = (cap - (n + k)) * size) :
    ∃ σ', Grow h.next σ σ' ∧ HRel N0 w0 σ' (h.new o) (w.drew.alloc (.cells ⟨old.map (phys σ) ++ (new.map (phys σ) ++ zs)⟩ elem)) ∧
      phys σ' (.slice (some ⟨h.next, 0, none⟩) (n + k) unk) = .slice (some ⟨w.heap.size, 0, none⟩) (n + k) cap ∧ Wf σ' (.slice (some ⟨h.next, 0, none⟩) (n + k) unk) := by
  have hl : (old ++ new).length = (n + k) * size := by rw [List.length_append, hlo, hln, Nat.add_mul]
  have hh := mkRow_holds hz hl e
  have hsz : cap * size ≤ (⟨old.map (phys σ) ++ (new.map (phys σ) ++ zs)⟩ : Array Value).size := by
    have : cap * size = (n + k) * size + (cap - (n + k)) * size := by rw [← Nat.add_mul]; congr 1; omega
    simp only [List.size_toArray, List.length_append, List.length_map, hlo, hln, hzs]
    rw [Nat.add_mul] at this
    omega
  obtain ⟨p, p1, p2, p3, p4, p5⟩ := R.growNew hh (fun v hv => by
    rcases List.mem_append.1 hv with h | h
    · exact ho v h
    · exact hn v h) ⟨old.map (phys σ) ++ (new.map (phys σ) ++ zs)⟩ zs (by simp) elem cap hcap hsz
  obtain ⟨q1, q2⟩ := new_slice (σ := σ) (n := n + k) p2 p3 h.next
  exact ⟨_, p4, p5, by rw [q1, p1], q2⟩

theorem appendL_sound (R : HRel N0 w0 σ h w) {elem size bytes n c k : Nat} {base : Option Addr} {new : List Value} {h' : H} {v : Value} (e : appendL h elem size bytes base n c k new = some (h', v))
    (hb : Wf σ (.slice base n c)) (hn : ∀ v ∈ new, Wf σ v ∧ v.oneCell' = true) :
    0 < size ∧ n + k ≤ 1000000000 ∧ (n + k) * bytes ≤ 140737488355328 ∧ new.length = k * size ∧
    ∃ base' c', phys σ (.slice base n c) = .slice base' n c' ∧ Apps P N0 w0 σ h w elem size n k new base' c' h' v := by
  unfold appendL at e
  cases hc : (Nat.blt 0 size && Nat.ble (n + k) 1000000000 && Nat.ble ((n + k) * bytes) 140737488355328 && Nat.beq new.length (k * size)) with
  | false => rw [hc] at e; cases e
  | true =>
    rw [hc] at e
    simp only [cond_true] at e
    simp only [Bool.and_eq_true, nbeq, nble, nblt, decide_eq_true_eq] at hc
    obtain ⟨⟨⟨hz, hlim⟩, hby⟩, hlen⟩ := hc
    refine ⟨hz, hlim, hby, hlen, ?_⟩
    split at e
    · cases hnc : (Nat.beq n 0 && Nat.beq c 0) with
      | false => rw [hnc] at e; cases e
      | true =>
        rw [hnc] at e
        simp only [cond_true] at e
        simp only [Bool.and_eq_true, nbeq, decide_eq_true_eq] at hnc
        obtain ⟨rfl, rfl⟩ := hnc
        refine ⟨none, 0, by simp [physSlice], ?_⟩
        cases hk : Nat.beq k 0 with
        | true =>
          rw [hk] at e
          simp only [cond_true, Option.some.injEq, Prod.mk.injEq] at e
          obtain ⟨rfl, rfl⟩ := e
          have hk0 : k = 0 := by rw [nbeq] at hk; simpa using hk
          subst hk0
          exact ⟨fun _ => ⟨σ, w, .refl _ _, R, fun a ha => (by cases ha), fun _ => rfl, by simp [physSlice], .nilSlice _ _⟩, fun hh => by omega, Nat.le_refl _⟩
        | false =>
          rw [hk] at e
          simp only [cond_false] at e
          have hk0 : k ≠ 0 := by rw [nbeq] at hk; simpa using hk
          cases hm : mkRow h elem size k new with
          | none => rw [hm] at e; cases e
          | some o =>
            rw [hm] at e
            simp only [Option.map_some, Option.some.injEq, Prod.mk.injEq] at e
            obtain ⟨rfl, rfl⟩ := e
            refine ⟨fun hh => by omega, fun _ => ⟨[], by simp [Builtin.firstCells], fun cap zs hcap hzs => ?_⟩, by simp [H.new]⟩
            have := apps_new R (n := 0) (k := k) (old := []) hz (by simp) hlen (by simp) hn (by simpa using hm) cap zs hcap hzs
            simpa using this
    · rename_i b off
      cases hb with
      | slice _ _ _ _ p hp =>
      split at e
      · cases e
      · rename_i r hr
        obtain ⟨⟨g1, g2, g3, g4, g5, gk, gcell⟩, hget⟩ := R.rowAt hp hr
        obtain ⟨hz0, hthere⟩ := R.row b p hp g1
        cases hcu : Nat.blt c unk with
        | true =>
          rw [hcu] at e
          simp only [cond_true] at e
          have hcne : ¬ c = unk := by rw [nblt] at hcu; have := of_decide_eq_true hcu; omega
          refine ⟨some ⟨p.blk, p.dlt + off, none⟩, c, by simp [physSlice, Sig.addr, Sig.blk, Sig.dlt, hp, hcne], ?_⟩
          cases hfit : Nat.ble (n + k) c with
          | true =>
            rw [hfit] at e
            simp only [cond_true] at e
            have hfit' : n + k ≤ c := by rw [nble] at hfit; simpa using hfit
            cases hw : h.writeAt b (off + n * size) new with
            | none => rw [hw] at e; cases e
            | some h2 =>
              rw [hw] at e
              simp only [Option.map_some, Option.some.injEq, Prod.mk.injEq] at e
              obtain ⟨rfl, rfl⟩ := e
              obtain ⟨k1, k2, k3⟩ := R.stores (P := P) hp hw hn
              exact ⟨fun _ => ⟨σ, _, .refl _ _, k2, fun a ha => by cases ha; rw [Addr.add_mid, Nat.add_assoc]; exact k1, fun ha => (by cases ha), by simp [physSlice, Sig.addr, Sig.blk, Sig.dlt, hp, hcne], .slice _ _ _ _ p hp⟩, fun hh => by omega, by omega⟩
          | false =>
            rw [hfit] at e
            simp only [cond_false] at e
            have hfit' : ¬ n + k ≤ c := by rw [nble] at hfit; simpa using hfit
            split at e
            · rename_i old hold
              cases hm : mkRow h elem size (n + k) (old ++ new) with
              | none => rw [hm] at e; cases e
              | some o =>
                rw [hm] at e
                simp only [Option.map_some, Option.some.injEq, Prod.mk.injEq] at e
                obtain ⟨rfl, rfl⟩ := e
                obtain ⟨r1, r2, r3⟩ := read_first (P := P) (c := c) R hp hr hold
                exact ⟨fun hh => by omega, fun _ => ⟨old, r1, fun cap zs hcap hzs => apps_new R hz r2 hlen r3 hn hm cap zs hcap hzs⟩, by simp [H.new]⟩
            · cases e
        | false =>
          rw [hcu] at e
          simp only [cond_false] at e
          cases hcc : (Nat.beq c unk && Nat.beq r.esz size) with
          | false => rw [hcc] at e; cases e
          | true =>
          rw [hcc] at e
          simp only [cond_true] at e
          simp only [Bool.and_eq_true, nbeq, decide_eq_true_eq] at hcc
          obtain ⟨rfl, rfl⟩ := hcc
          refine ⟨some ⟨p.blk, p.dlt + off, none⟩, p.cap - off / p.esz, by simp [physSlice, Sig.addr, Sig.blk, Sig.dlt, Sig.capAt, hp], ?_⟩
          cases hfit : Nat.ble (off + (n + k) * r.esz) (r.cnt * r.esz) with
          | true =>
            rw [hfit] at e
            simp only [cond_true] at e
            have hfit' : off + (n + k) * r.esz ≤ r.cnt * r.esz := by rw [nble] at hfit; simpa using hfit
            have hroom := cap_fits g2 g5 hz0 hfit' rfl
            cases hw : h.writeAt b (off + n * r.esz) new with
            | none => rw [hw] at e; cases e
            | some h2 =>
              rw [hw] at e
              simp only [Option.map_some, Option.some.injEq, Prod.mk.injEq] at e
              obtain ⟨rfl, rfl⟩ := e
              obtain ⟨k1, k2, k3⟩ := R.stores (P := P) hp hw hn
              exact ⟨fun _ => ⟨σ, _, .refl _ _, k2, fun a ha => by cases ha; rw [Addr.add_mid, Nat.add_assoc]; exact k1, fun ha => (by cases ha), by simp [physSlice, Sig.addr, Sig.blk, Sig.dlt, Sig.capAt, hp], .slice _ _ _ _ p hp⟩, fun hh => by omega, by omega⟩
          | false =>
            rw [hfit] at e
            simp only [cond_false] at e
            have hfit' : ¬ off + (n + k) * r.esz ≤ r.cnt * r.esz := by rw [nble] at hfit; simpa using hfit
            cases hend : Nat.beq (off + n * r.esz) (r.cnt * r.esz) with
            | false => rw [hend] at e; cases e
            | true =>
            rw [hend] at e
            simp only [cond_true] at e
            have hend' : off + n * r.esz = r.cnt * r.esz := by rw [nbeq] at hend; simpa using hend
            split at e
            · rename_i old hold
              split at e
              · rename_i t hch
                obtain ⟨r1, r2, r3⟩ := read_first (P := P) (c := p.cap - off / p.esz) R hp hr hold
                have hl : (old ++ new).length = (n + k) * r.esz := by rw [List.length_append, r2, hlen, Nat.add_mul]
                obtain ⟨q1, q2⟩ := chunks_row (elem := elem) (cls := r.cls) (start := r.start + off) hz hl hch
                generalize hlo : r.start + (off + n * r.esz) = lo at e
                generalize hhi : r.start + (off + (n + k) * r.esz) = hi at e
                have hkill := H.killAll h b lo hi (h.clsOf r.cls)
                have Rk := R.kills b lo hi (h.clsOf r.cls)
                have hclt : r.cls < h.next := by
                  obtain ⟨c1, c2⟩ := R.cls b r hget
                  cases hg : h.cls.get r.cls with
                  | none => rw [← c1 hg]; exact R.got b _ hget
                  | some l => exact R.clsLt _ l hg
                have hkspec := H.kill_spec b lo hi (h.clsOf r.cls) h
                have hapart : ∀ b' q, b' ≠ b → (h.kill b lo hi (h.clsOf r.cls)).objs.get b' = some (.row q) → q.cls = r.cls → overlaps q lo hi = false := fun b' q e2 hq hqc => by
                  have hm : b' ∈ h.clsOf r.cls := by
                    rw [hkspec.2.2] at hq
                    cases hg' : h.objs.get b' with
                    | none => simp [hg'] at hq
                    | some o =>
                      rw [hg'] at hq
                      cases o <;> simp only at hq
                      all_goals (try (cases hq; done))
                      rename_i q'
                      have hq' : q' = q := by
                        split at hq
                        · cases hq
                        · cases hq; rfl
                      subst hq'
                      obtain ⟨c1, c2⟩ := R.cls b' q' hg'
                      unfold H.clsOf
                      rw [← hqc]
                      cases hg : h.cls.get q'.cls with
                      | none => simp [c1 hg]
                      | some l => exact c2 l hg
                  rw [hkspec.2.2] at hq
                  cases hg' : h.objs.get b' with
                  | none => simp [hg'] at hq
                  | some o =>
                    rw [hg'] at hq
                    cases o <;> simp only at hq
                    all_goals (try (cases hq; done))
                    split at hq
                    · cases hq
                    · rename_i hnn
                      cases hq
                      cases ho : overlaps q lo hi with
                      | false => rfl
                      | true => exact absurd ⟨e2, hm, ho⟩ hnn
                have hbk : (h.kill b lo hi (h.clsOf r.cls)).objs.get b = some (.row r) := by rw [hkspec.2.2, hget]; simp
                generalize hk' : h.kill b lo hi (h.clsOf r.cls) = hk at *
                obtain ⟨hkn, hkc, _⟩ := hkill
                have hkclsOf : hk.clsOf r.cls = h.clsOf r.cls := by unfold H.clsOf; rw [hkc]
                simp only [Option.some.injEq, Prod.mk.injEq] at e
                obtain ⟨rfl, rfl⟩ := e
                have hmod : off = (r.cnt - n) * r.esz := by rw [Nat.sub_mul]; omega
                have hdiv : off / p.esz = r.cnt - n := by rw [← g2, hmod]; exact Nat.mul_div_cancel _ hz
                have hnle : n ≤ r.cnt := by
                  have : n * r.esz ≤ r.cnt * r.esz := by omega
                  exact Nat.le_of_mul_le_mul_right this hz
                have hwv : ∀ v ∈ old ++ new, Wf σ v ∧ v.oneCell' = true := fun v hv => by
                  rcases List.mem_append.1 hv with hv | hv
                  · exact r3 v hv
                  · exact hn v hv
                refine ⟨fun hroom => ?_, fun hgrow => ⟨old, r1, fun cap zs hcap hzs => ?_⟩, ?_⟩
                · rw [hdiv] at hroom
                  have hroom2 : (n + k) + (r.cnt - n) ≤ p.cap := by
                    have : 0 < n + k := by
                      rcases Nat.eq_zero_or_pos (n + k) with h0 | h0
                      · exfalso; apply hfit'; have : n = 0 := by omega
                        subst this; rw [h0]; omega
                      · exact h0
                    omega
                  have hcells : off + n * r.esz + (new.map (phys σ)).length ≤ p.cap * p.esz := by
                    rw [List.length_map, hlen, ← g2, hmod, ← Nat.add_mul, ← Nat.add_mul]
                    exact Nat.mul_le_mul_right _ (by omega)
                  have Rw := Rk.writeEnd hp hbk (new.map (phys σ)) (off + n * r.esz) (by omega) hcells (fun b' q e2 hq hqc => by
                    have := hapart b' q e2 hq hqc
                    rw [← hlo, ← hhi] at this
                    rw [List.length_map, hlen]
                    rw [Nat.add_mul, ← Nat.add_assoc off] at this
                    exact this)
                  have Rn := Rw.newC { elem, esz := r.esz, cnt := n + k, cls := r.cls, start := r.start + off, cells := t } q1 (by rw [hkn]; exact hclt)
                  have hs : σ hk.next = none := by rw [hkn]; exact R.none_of_ge (Nat.le_refl _)
                  have hthere' : w.there p.blk (p.dlt + (off + n * r.esz)) (new.map (phys σ)).length := fun j hj => by
                    have := hthere (p.dlt + (off + n * r.esz) + j) (by omega)
                    simpa using this
                  have hcold : ∀ j v, j < n * r.esz → old[j]? = some v → w.cell? ⟨p.blk, p.dlt + off + j, none⟩ = some (phys σ v) := fun j v hj hv => by
                    obtain ⟨_, _, hrd⟩ := Row.read_spec gk hold
                    have := (gcell (off + j) v (by omega) (by rw [hrd j hj, hv])).1
                    rw [Nat.add_assoc]; exact this
                  have Rs := Rn.share hp g1 hs (q := { elem, esz := r.esz, cnt := n + k, cls := r.cls, start := r.start + off, cells := t }) (by simp [H.new, T.get_set]) (r.cnt - n) g2 g3
                    (by simp only; rw [g4, ← g2, ← hmod]) hroom2 (fun j v hj hc => by
                      simp only at hj hc
                      rw [q2 j hj] at hc
                      refine ⟨?_, hwv v (List.mem_of_getElem? hc)⟩
                      rw [← g2, ← hmod]
                      by_cases hjo : j < n * r.esz
                      · rw [List.getElem?_append_left (by omega)] at hc
                        rw [World.cell?_setCells_out _ _ _ _ _ (fun _ _ => by simp only; omega)]
                        exact hcold j v hjo hc
                      · rw [List.getElem?_append_right (by omega), r2] at hc
                        obtain ⟨hlt, hvj⟩ := List.getElem?_eq_some_iff.1 hc
                        have := World.cell?_setCells_in p.blk (new.map (phys σ)) (p.dlt + (off + n * r.esz)) w (fun i hi => (hthere' i hi).1) (j - n * r.esz) (by simpa using hlt)
                        rw [show p.dlt + (off + n * r.esz) + (j - n * r.esz) = p.dlt + off + j by omega] at this
                        rw [this]; simp [hvj])
                  have Rs' : HRel N0 w0 (σ.put h.next { blk := p.blk, dlt := p.dlt + (r.cnt - n) * p.esz, cap := p.cap - (r.cnt - n), esz := p.esz, cls := p.cls, start := p.start + (r.cnt - n) * p.esz, row := true })
                      { hk.new (.row { elem, esz := r.esz, cnt := n + k, cls := r.cls, start := r.start + off, cells := t }) with
                        cls := (hk.new (.row { elem, esz := r.esz, cnt := n + k, cls := r.cls, start := r.start + off, cells := t })).cls.set r.cls (some (h.next :: h.clsOf r.cls)) }
                      (w.setCells p.blk (p.dlt + (off + n * r.esz)) (new.map (phys σ))) := by
                    rw [hkn] at Rs
                    simp only [hkclsOf] at Rs
                    exact Rs
                  have hs' : σ h.next = none := by rw [← hkn]; exact hs
                  refine ⟨_, _, .put hs' (Nat.le_refl _), Rs', fun a ha => ?_, fun ha => (by cases ha), ?_, .slice _ _ _ _ _ (Sig.put_same _ _ _)⟩
                  · cases ha
                    have := run_storeCells_cells (P := P) p.blk (p.dlt + (off + n * r.esz)) (new.map (phys σ)) 0 w (fun j hj => by simpa using (hthere' j hj).1) (fun j hj => by simpa using (hthere' j hj).2)
                      (fun v hv' => by obtain ⟨u, hu, rfl⟩ := List.mem_map.1 hv'; rw [oneCell_phys]; exact (hn u hu).2)
                    rw [Addr.add_mid, Nat.add_assoc]
                    simpa using this
                  · simp only [phys_slice, physSlice, Sig.addr, Sig.blk, Sig.dlt, Sig.capAt, Sig.put_same, if_true, Nat.zero_div, Nat.sub_zero, Nat.add_zero, hdiv]
                    rw [← g2, ← hmod]
                · have hcsz : cap * r.esz ≤ (⟨old.map (phys σ) ++ (new.map (phys σ) ++ zs)⟩ : Array Value).size := by
                    have : cap * r.esz = (n + k) * r.esz + (cap - (n + k)) * r.esz := by rw [← Nat.add_mul, Nat.add_sub_cancel' hcap]
                    simp only [List.size_toArray, List.length_append, List.length_map, r2, hlen, hzs]
                    rw [Nat.add_mul] at this
                    omega
                  obtain ⟨p', p1, p2, p3, p4, p5⟩ := Rk.growIn (q := { elem, esz := r.esz, cnt := n + k, cls := r.cls, start := r.start + off, cells := t }) q1 (by rw [hkn]; exact hclt) hz hl q2 hwv
                    ⟨old.map (phys σ) ++ (new.map (phys σ) ++ zs)⟩ zs (by simp) elem cap hcap hcsz
                  rw [hkn] at p4 p5
                  simp only [hkclsOf] at p5
                  obtain ⟨s1, s2⟩ := new_slice (σ := σ) (n := n + k) p2 p3 h.next
                  exact ⟨_, p4, p5, by rw [s1, p1], s2⟩
                · simp [H.new, hkn]
              · cases e
            · cases e
    · cases e
end
end Go.Lm

/- The operation append. -/
namespace Go.Lm
section
variable {E : Env} {P : Program} (EO : EnvOK E P) {w : World} {σ : Sig} {ρ : Rho} {r : Operand → Value} (RR : RhoRel σ ρ r) {N0 : Nat} {w0 : World} {h : H} (R : HRel N0 w0 σ h w)

theorem argType1 {ts : Array TypeId} {t t2 : Nat} {l : List TypeId} (e : ts.toList = t :: t2 :: l) : ts[1]? = some t2 := by
  rw [← Array.getElem?_toList, e]; rfl

include EO in
theorem zero_cells {t : Nat} {i : TypeInfo} {d : TypeDesc} {z : Value} (σ : Sig) (e : E.ty t = some (i, d)) (hz : i.zero = some z) :
    z.cells.toList = (vcells z).map (phys σ) ∧ z.cells.size = i.size ∧ (vcells z).length = i.size ∧ (∀ x ∈ vcells z, Wf σ x ∧ x.oneCell' = true) ∧
    ∀ n, (Builtin.zeroCells z.cells n).toList = (replic n (vcells z) []).map (phys σ) := by
  obtain ⟨c1, c2⟩ := EO.zero t i d z e hz
  have hl := EO.zsize t i d z e hz
  obtain ⟨p1, p2⟩ := phys_const (σ := σ) c1
  have hc := phys_cells σ z
  rw [p1] at hc
  refine ⟨hc, by rw [← Array.length_toList, hc, List.length_map, hl], hl, fun x hx => p2.cells c2 x hx, fun n => ?_⟩
  exact zeros_eq σ hc n

/-- what append does -/
def Appended (P : Program) (s : Sem Value) (N0 : Nat) (w0 : World) (σ : Sig) (h : H) (w : World) (v : Value) (h' : H) : Prop :=
  ∃ σ' w', Grow h.next σ σ' ∧ s.run P w = .ok (phys σ' v) w' ∧ HRel N0 w0 σ' h' w' ∧ Wf σ' v ∧ h.next ≤ h'.next

include EO R
theorem appendMake_sound {ty : TypeId} {argTypes : Array TypeId} {t t2 el : Nat} {ti ti2 i : TypeInfo} {k2 : IntKind} {d : TypeDesc} {l : List TypeId} {base : Option Addr} {n cp k : Nat} {z x : Value} (ht : argTypes.toList = t :: t2 :: l)
    (hty : E.ty t = some (ti, .slice el)) (hty2 : E.ty t2 = some (ti2, .int k2)) (hel : E.ty el = some (i, d)) (hz : i.zero = some z) (hb : Wf σ (.slice base n cp)) (hk : natOf x = some k) (hk6 : k ≤ 1000000) {v : Value} {h' : H}
    (e : appendL h el i.size i.bytes base n cp k (replic k (vcells z) []) = some (h', v)) :
    Appended P (Builtin.append_ argTypes ty ⟨[Value.slice base n cp, x].map (phys σ)⟩) N0 w0 σ h w v h' := by
  obtain ⟨kk, rfl⟩ := natOf_spec (σ := σ) hk
  obtain ⟨z1, z2, z3, z4, z5⟩ := zero_cells EO σ hel hz
  obtain ⟨hs, hlim, hby, hlen, base', c', hph, A⟩ := appendL_sound (P := P) R e hb (fun v hv => z4 v (mem_replic hv))
  have h1 := argType0 ht
  have h2 := argType1 ht
  simp only [List.map_cons, List.map_nil, hph, phys_int]
  by_cases hfit : n + k ≤ c'
  · obtain ⟨σ', w', a1, a2, a3, a4, a5, a6⟩ := A.room hfit
    refine ⟨σ', w', a1, ?_, a2, a6, A.next⟩
    rw [a5]
    exact app_in_make EO h1 h2 hty hty2 hel hz hk6 (Nat.le_trans (Nat.mul_le_mul_right _ (by omega)) hby) hfit (fun a ha => by rw [z5]; exact a3 a ha) a4 hs z2
  · obtain ⟨old, o1, o2⟩ := A.grow (by omega)
    have hge := grownCap_ge w (n + k) c' el
    obtain ⟨σ', a1, a2, a3, a4⟩ := o2 (grownCap w (n + k) c' el) (Builtin.zeroCells z.cells (grownCap w (n + k) c' el - (n + k))).toList hge (by rw [Array.length_toList, size_zeroCells, z2])
    refine ⟨σ', _, a1, ?_, a2, a4, A.next⟩
    rw [a3]
    have := app_grow_make (ty := ty) (kk := kk) EO h1 h2 hty hty2 hel hz hk6 o1 (by omega) hby (by omega) hs z2
    rw [this]
    congr 3
    apply Array.ext'
    simp [z5]

theorem appendPlain_sound {ty : TypeId} {argTypes : Array TypeId} {t t2 el : Nat} {ti ti2 i : TypeInfo} {d2 d : TypeDesc} {l : List TypeId} {base : Option Addr} {n cp k : Nat} {z x : Value} {new : List Value} (ht : argTypes.toList = t :: t2 :: l)
    (hty : E.ty t = some (ti, .slice el)) (hty2 : E.ty t2 = some (ti2, d2)) (hni : ∀ kk, d2 ≠ .int kk) (hel : E.ty el = some (i, d)) (hz : i.zero = some z) (hb : Wf σ (.slice base n cp)) (hx : Wf σ x) (hk : srcCells h i.size x = some (k, new)) {v : Value} {h' : H}
    (e : appendL h el i.size i.bytes base n cp k new = some (h', v)) :
    Appended P (Builtin.append_ argTypes ty ⟨[Value.slice base n cp, x].map (phys σ)⟩) N0 w0 σ h w v h' := by
  obtain ⟨z1, z2, z3, z4, z5⟩ := zero_cells EO σ hel hz
  obtain ⟨s1, s2, s3, _⟩ := src_sound EO (P := P) R hx hk
  obtain ⟨_, s2', _, _⟩ := src_sound EO (P := P) R.drew hx hk
  obtain ⟨hs, hlim, hby, hlen, base', c', hph, A⟩ := appendL_sound (P := P) R e hb s3
  have h1 := argType0 ht
  have h2 := argType1 ht
  simp only [List.map_cons, List.map_nil, hph]
  by_cases hfit : n + k ≤ c'
  · obtain ⟨σ', w', a1, a2, a3, a4, a5, a6⟩ := A.room hfit
    refine ⟨σ', w', a1, ?_, a2, a6, A.next⟩
    rw [a5]
    exact app_in_plain EO h1 h2 hty hty2 hni hel s1 s2 hfit a3 a4
  · obtain ⟨old, o1, o2⟩ := A.grow (by omega)
    have hge := grownCap_ge w (n + k) c' el
    obtain ⟨σ', a1, a2, a3, a4⟩ := o2 (grownCap w (n + k) c' el) (Builtin.zeroCells z.cells (grownCap w (n + k) c' el - (n + k))).toList hge (by rw [Array.length_toList, size_zeroCells, z2])
    refine ⟨σ', _, a1, ?_, a2, a4, A.next⟩
    rw [a3]
    have := app_grow_plain (ty := ty) EO h1 h2 hty hty2 hni hel hz s1 s2' o1 (by omega) hby (by omega)
    rw [this]
    congr 3
    apply Array.ext'
    simp
end
end Go.Lm

/- Calls. -/
namespace Go.Lm

/-- what something that acts gives -/
def Gives (P : Program) (s : Sem Go.Next) (N0 : Nat) (w0 : World) (σ : Sig) (h : H) (w : World) (v : Value) (h' : H) : Prop :=
  ∃ σ' w', Grow h.next σ σ' ∧ (s.run P w = .ok (.value (phys σ' v)) w' ∨ (s.run P w = .ok .skip w' ∧ v = undefV)) ∧ HRel N0 w0 σ' h' w' ∧ Wf σ' v ∧ h.next ≤ h'.next

/-- a call by contract -/
def ByCall (P : Program) (s : Sem Go.Next) (N0 : Nat) (w0 : World) (σ : Sig) (h : H) (w : World) (v : Value) (h' : H) : Prop :=
  h' = h ∧ Wf σ v ∧ ∃ f args, s.run P w = .ok (.enter f args) w ∧ Calls P f args w (fun e W' => e = .returned (phys σ v) ∧ HRel N0 w0 σ h W')

/-- what comes next -/
def After (E : Env) (P : Program) (s : Sem Go.Next) (N0 : Nat) (w0 : World) (σ : Sig) (h : H) (w : World) : Next → Prop
  | .val v h' => Gives P s N0 w0 σ h w v h' ∨ ByCall P s N0 w0 σ h w v h'
  | .alts l => ∃ v h', (v, h') ∈ l ∧ Gives P s N0 w0 σ h w v h'
  | .enter f args h' => h' = h ∧ (∀ v ∈ args, Wf σ v) ∧ ∀ fn c, E.fn f = some fn → fn.body = some c → s.run P w = .ok (.enter f ⟨args.map (phys σ)⟩) w
  | .round l f tmps nt assign body => ∃ a p, σ l = some p ∧ s.run P w = .ok (.round (σ.blk l) f a assign body) w ∧ TmpRel σ tmps a ∧ a.size = nt
  | .defer d => WfD σ d ∧ s.run P w = .ok (.defer (physD σ d)) w
  | .recover => s.run P w = .ok .recover w
  | .panic v => Wf σ v ∧ s.run P w = .halt (.panic (phys σ v)) w

/-- the contracts hold -/
structure SpOK (E : Env) (P : Program) : Prop where
  sp : ∀ f g, E.sp f = some g → ∀ h args v, g h args = some v → ∀ N0 w0 σ w, HRel N0 w0 σ h w → (∀ a ∈ args, Wf σ a) →
    Gives P (callFunc f ⟨args.map (phys σ)⟩) N0 w0 σ h w v h ∨ ByCall P (callFunc f ⟨args.map (phys σ)⟩) N0 w0 σ h w v h

def physT (σ : Sig) : Target → Target
  | .fn fn c => .fn (physFn σ fn) ⟨c.toList.map (phys σ)⟩
  | .collected r => .collected (σ.blk r)
  | t => t

theorem run_wrapChk {P : Program} {w : World} (ts : Array TypeId) (ty : TypeId) (a : Addr) (s m : ByteArray) : (Builtin.ssaWrapNilChk_ ts ty #[.pointer (some a), .string s, .string m]).run P w = .ok (.pointer (some a)) w := rfl

section
variable {E : Env} {P : Program} (EO : EnvOK E P) (SO : SpOK E P) {w : World} {σ : Sig} {ρ : Rho} {r : Operand → Value} (RR : RhoRel σ ρ r) {N0 : Nat} {w0 : World} {h : H} (R : HRel N0 w0 σ h w)

theorem After.congr {s s' : Sem Go.Next} {n : Next} (hs : s.run P w = s'.run P w) (a : After E P s' N0 w0 σ h w n) : After E P s N0 w0 σ h w n := by
  cases n <;> simp only [After, Gives, ByCall, hs] at a ⊢ <;> exact a

include EO SO R
theorem callL_sound {f : FuncId} {args : List Value} {n : Next} (ha : ∀ v ∈ args, Wf σ v) (e : callL E h f args = some n) : After E P (callFunc f ⟨args.map (phys σ)⟩) N0 w0 σ h w n := by
  unfold callL at e
  cases hs : E.sp f with
  | some g =>
    rw [hs] at e
    simp only at e
    cases hg : g h args with
    | none => rw [hg] at e; cases e
    | some v =>
      rw [hg] at e
      simp only [Option.map_some, Option.some.injEq] at e
      subst e
      exact SO.sp f g hs h args v hg N0 w0 σ w R ha
  | none =>
    rw [hs] at e
    simp only [Option.some.injEq] at e
    subst e
    refine ⟨rfl, ha, fun fn c hf hb => ?_⟩
    obtain ⟨h1, h2⟩ := EO.fn f fn hf
    have h3 : ¬ fn.name = "runtime.NumGoroutine" := by simpa using h2
    simp [callFunc, Sem.run_bind, h1, h3, hb]

omit EO SO R in
theorem zipSet_sound {nt : Nat} : ∀ {params : List Tmp} {args : List Value} {t t' : T Value} {a : Array Value}, zipSet nt params args t = some t' → TmpRel σ t a → a.size = nt → (∀ v ∈ args, Wf σ v) →
    params.length = args.length ∧ TmpRel σ t' ((params.zip (args.map (phys σ))).foldl (fun tmps (x : Tmp × Value) => tmps.setIfInBounds x.1 x.2) a) ∧ ((params.zip (args.map (phys σ))).foldl (fun tmps (x : Tmp × Value) => tmps.setIfInBounds x.1 x.2) a).size = nt
  | [], [], t, t', a, e, tr, hn, ha => by
    simp only [zipSet, Option.some.injEq] at e
    subst e
    exact ⟨rfl, tr, hn⟩
  | [], _ :: _, t, t', a, e, tr, hn, ha => by simp [zipSet] at e
  | _ :: _, [], t, t', a, e, tr, hn, ha => by simp [zipSet] at e
  | p :: ps, v :: vs, t, t', a, e, tr, hn, ha => by
    simp only [zipSet] at e
    cases hp : Nat.blt p nt with
    | false => rw [hp] at e; cases e
    | true =>
      rw [hp] at e
      simp only [cond_true] at e
      have hp' : p < nt := by rw [nblt] at hp; simpa using hp
      have := zipSet_sound (a := a.setIfInBounds p (phys σ v)) e (tr.set (by rw [hn]; exact hp') (ha v (by simp))) (by simpa using hn) (fun x hx => ha x (by simp [hx]))
      refine ⟨by simp [this.1], ?_, ?_⟩
      · simpa using this.2.1
      · simpa using this.2.2

theorem invokeL_sound {t : Target} {args : List Value} {n : Next} (ht : ∀ fn c, t = .fn fn c → WfFn σ fn ∧ ∀ v ∈ c.toList, Wf σ v) (ha : ∀ v ∈ args, Wf σ v) (e : invokeL E h t args = some n) :
    After E P (invoke (physT σ t) ⟨args.map (phys σ)⟩) N0 w0 σ h w n := by
  unfold invokeL at e
  split at e
  · rename_i f c
    obtain ⟨_, hc⟩ := ht _ _ rfl
    refine (callL_sound EO SO R (fun v hv => ?_) e).congr ?_
    · rcases List.mem_append.1 hv with hv | hv
      · exact ha v hv
      · exact hc v hv
    · simp only [physT, physFn, invoke]
      congr 2
      simp
  · rename_i l c
    obtain ⟨hl, hc⟩ := ht _ _ rfl
    cases hl with
    | yield _ p hp =>
      split at e
      · rename_i st pending fn tmps nt params assign body defers ho
        obtain ⟨g1, _, a, g2, g3, g4⟩ := R.obj l p _ hp ho
        cases hz : zipSet nt params args tmps with
        | none => rw [hz] at e; cases e
        | some t' =>
          rw [hz] at e
          simp only [Option.map_some, Option.some.injEq] at e
          subst e
          obtain ⟨z1, z2, z3⟩ := zipSet_sound hz g3 g4 ha
          refine ⟨_, p, hp, ?_, z2, z3⟩
          have hblk : σ.blk l = p.blk := by simp [Sig.blk, hp]
          simp only [physT, physFn, invoke, Instr.yield, Instr.getLoop, getObj, hblk]
          simp [Sem.run, g2, z1]
      · cases e
  · rename_i name c
    split at e
    · rename_i ty v rest
      have hv : Wf σ v := by
        have := ha (.iface ty v) (by simp)
        cases this; assumption
      have hr : ∀ x ∈ rest, Wf σ x := fun x hx => ha x (by simp [hx])
      split at e
      · rename_i i d hty
        split at e
        · rename_i m hm
          cases hp : m.path.isEmpty with
          | false => rw [hp] at e; cases e
          | true =>
            rw [hp] at e
            simp only [cond_true] at e
            have hp' : m.path = #[] := by simpa using hp
            have key : ∀ {f : FuncId} {pr : Bool} {x : Value}, m.func = some (f, pr) → Wf σ x →
                (receiverAt ty (.val (phys σ v)) pr (some ((name.splitOn ".").getLastD name))).run P w = .ok (phys σ x) w → callL E h f (x :: rest) = some n →
                After E P (invoke (physT σ (.fn (.method name) c)) ⟨(Value.iface ty v :: rest).map (phys σ)⟩) N0 w0 σ h w n := by
              intro f pr x hf hx hrun e
              refine (callL_sound EO SO R (fun y hy => ?_) e).congr ?_
              · rcases List.mem_cons.1 hy with rfl | hy
                · exact hx
                · exact hr y hy
              · have hm1 : ∀ k, (method (k + 1) ty (phys σ v) name).run P w = .ok (f, phys σ x) w := fun k => by
                  simp only [method, Sem.run_bind, EO.run_info hty, Result.andThen_ok, hm, hp', follow, Sem.run_pure, hf, Array.isEmpty_empty, if_true, hrun]
                have hd : P.types.size + Made.depth = (P.types.size + 99) + 1 := rfl
                simp only [physT, physFn, invoke, List.map_cons, phys_iface, List.getElem?_toArray, List.getElem?_cons_zero, callMethod, Sem.run_bind, run_program, Result.andThen_ok]
                rw [hd, hm1]
                simp only [Result.andThen_ok]
                congr 2
                apply Array.ext'
                simp only [List.size_toArray, List.length_cons, List.length_map, List.extract_toArray, List.extract_eq_take_drop, List.drop_succ_cons, List.drop_zero, Nat.add_sub_cancel, Array.toList_append, List.cons_append, List.nil_append]
                rw [List.take_of_length_le (by simp)]
            split at e
            · rename_i f el hf
              refine key (x := v) hf hv ?_ e
              simp only [receiverAt, Sem.run_bind, EO.run_ty hty, Result.andThen_ok, Place.get, Sem.run_pure]
            · rename_i f el hf
              split at e
              · rename_i b o
                cases hv with
                | ptr _ _ p hpl =>
                split at e
                · rename_i x hx
                  obtain ⟨l1, l2, _⟩ := load_sound EO (P := P) R hpl hx
                  refine key (x := x) hf l2 ?_ e
                  simp only [receiverAt, Sem.run_bind, EO.run_ty hty, Result.andThen_ok, Place.get, Sem.run_pure, phys_ptr, Option.map_some, strVal, run_wrapChk, asAddr, Sig.addr, Sig.blk, Sig.dlt, hpl, l1]
                · cases e
              · cases e
            · rename_i d0 f hf hnp
              refine key (x := v) hf hv ?_ e
              simp only [receiverAt, Sem.run_bind, EO.run_ty hty, Result.andThen_ok]
              cases d0 <;> first | (exact absurd rfl (hnp _)) | simp [Place.get]
            · cases e
        · cases e
      · cases e
    · cases e
  · cases e
end
end Go.Lm

/- All operations that act. -/
namespace Go.Lm
section
variable {E : Env} {P : Program} (EO : EnvOK E P) (SO : SpOK E P) {w : World} {σ : Sig} {ρ : Rho} {r : Operand → Value} (RR : RhoRel σ ρ r) {N0 : Nat} {w0 : World} {h : H} (R : HRel N0 w0 σ h w)

theorem gives_of_builtin {s : Sem Go.Next} {v : Value} {h' : H} (g : v = undefV ∧ h'.next = h.next ∧ ∃ w', s.run P w = .ok (.value undef) w' ∧ HRel N0 w0 σ h' w') : Gives P s N0 w0 σ h w v h' := by
  obtain ⟨rfl, g2, w', g3, g4⟩ := g
  exact ⟨σ, w', .refl _ _, .inl (by rw [phys_undef]; exact g3), g4, .undef σ, by omega⟩

include RR in
theorem resolve_sound {c : Call} {ty : TypeId} {t : Target} {args : List Value} (e : resolveL ρ c = some (t, args)) :
    (resolve r c ty).run P w = .ok { target := physT σ t, args := ⟨args.map (phys σ)⟩ } w ∧ (∀ v ∈ args, Wf σ v) ∧ ∃ fn cs, t = .fn fn cs ∧ WfFn σ fn ∧ ∀ v ∈ cs.toList, Wf σ v := by
  unfold resolveL at e
  cases hm : c.args.toList.mapM ρ with
  | none => rw [hm] at e; cases e
  | some l =>
    rw [hm] at e
    simp only at e
    have h2 := mapM_map (g := r) (p := phys σ) (fun x y h => (RR x y h).1) hm
    have hargs : c.args.map r = ⟨l.map (phys σ)⟩ := by apply Array.ext'; simpa using h2
    have hw : ∀ v ∈ l, Wf σ v := fun v hv => by obtain ⟨y, _, hy⟩ := mapM_mem hm v hv; exact (RR y v hy).2
    split at e
    · rename_i f hc
      split at e
      · rename_i fn first captured hf
        simp only [Option.some.injEq, Prod.mk.injEq] at e
        obtain ⟨rfl, rfl⟩ := e
        obtain ⟨f1, f2⟩ := RR f _ hf
        refine ⟨?_, ?_, ?_⟩
        · simp only [resolve, hc, f1, phys_func, Deferred.ofValue, hargs, Sem.run_pure, physT]
          congr 2
          apply Array.ext'
          simp
        · cases f2 with
          | func _ _ _ ha hb =>
            intro v hv
            rcases List.mem_append.1 hv with hv | hv
            · exact ha v hv
            · exact hw v hv
          | yield _ p hp => exact fun v hv => hw v (by simpa using hv)
        · cases f2 with
          | func g _ _ ha hb => exact ⟨_, _, rfl, .func g, hb⟩
          | yield l p hp => exact ⟨_, _, rfl, .yield l p hp, by simp⟩
      · cases e
    · rename_i x name hc
      cases hx : ρ x with
      | none => rw [hx] at e; cases e
      | some v =>
        rw [hx] at e
        simp only [Option.map_some, Option.some.injEq, Prod.mk.injEq] at e
        obtain ⟨rfl, rfl⟩ := e
        obtain ⟨x1, x2⟩ := RR x _ hx
        refine ⟨?_, fun u hu => ?_, _, _, rfl, .method name, by simp⟩
        · simp only [resolve, hc, x1, hargs, Sem.run_pure, physT, physFn]
          congr 2
          apply Array.ext'
          simp
        · rcases List.mem_cons.1 hu with rfl | hu
          · exact x2
          · exact hw u hu
    · cases e

include EO SO RR R
set_option maxHeartbeats 2000000 in
theorem builtins_sound {dst : Option Tmp} {ty : TypeId} {pos : String} {after : Array Edge} {guard : Option (Nat × Bool)} {b : Builtin} {args : Array Operand} {argTypes : Array TypeId} {n : Next}
    (e : exEff E h ρ { dst, op := .call { callee := .builtin b, args, argTypes }, type := ty, pos, after, guard } = some n) :
    After E P (execOp r { dst, op := .call { callee := .builtin b, args, argTypes }, type := ty, pos, after, guard }) N0 w0 σ h w n := by
  simp only [exEff] at e
  cases hm : args.toList.mapM ρ with
  | none => rw [hm] at e; cases e
  | some l =>
    rw [hm] at e
    simp only at e
    obtain ⟨cs, hrun⟩ := builtin_run (dst := dst) (ty := ty) (pos := pos) (after := after) (guard := guard) (b := b) (argTypes := argTypes) (P := P) EO RR R hm
    obtain ⟨hargs0, hw⟩ := args_sound EO RR R hm
    refine After.congr hrun ?_
    split at e
    · rename_i base m cp x
      have hb : Wf σ (.slice base m cp) := hw _ (by simp)
      have hx : Wf σ x := hw _ (by simp)
      have fin : ∀ {v : Value} {h' : H}, Appended P (Builtin.append_ argTypes ty ⟨[Value.slice base m cp, x].map (phys σ)⟩) N0 w0 σ h w v h' → After E P (builtin .append argTypes ty cs ⟨[Value.slice base m cp, x].map (phys σ)⟩) N0 w0 σ h w (.val v h') := fun A => by
        obtain ⟨σ', w', a1, a2, a3, a4, a5⟩ := A
        refine .inl ⟨σ', w', a1, .inl ?_, a3, a4, a5⟩
        simp only [builtin, Sem.run_bind, a2, Result.andThen_ok, Sem.run_pure]
      split at e
      · rename_i t t2 ts hts
        split at e
        · rename_i ti el ti2 k2 hty hty2
          split at e
          · rename_i i d k hel hk
            split at e
            · rename_i z hz
              cases hk6 : Nat.ble k 1000000 with
              | false => rw [hk6] at e; cases e
              | true =>
                rw [hk6] at e
                simp only [cond_true] at e
                have hk6' : k ≤ 1000000 := by rw [nble] at hk6; simpa using hk6
                cases ha : appendL h el i.size i.bytes base m cp k (replic k (vcells z) []) with
                | none => rw [ha] at e; cases e
                | some q =>
                  obtain ⟨h', v⟩ := q
                  rw [ha] at e
                  simp only [Option.map_some, Option.some.injEq] at e
                  subst e
                  exact fin (appendMake_sound EO R hts hty hty2 hel hz hb hk hk6' ha)
            · cases e
          · cases e
        · rename_i ti el q2 hni hty hty2
          obtain ⟨ti2, d2⟩ := q2
          split at e
          · rename_i i d hel
            cases hz : i.zero with
            | none => rw [hz] at e; cases e
            | some z =>
              rw [hz] at e
              simp only [Option.isSome_some, cond_true] at e
              split at e
              · rename_i k new hk
                cases ha : appendL h el i.size i.bytes base m cp k new with
                | none => rw [ha] at e; cases e
                | some q =>
                  obtain ⟨h', v⟩ := q
                  rw [ha] at e
                  simp only [Option.map_some, Option.some.injEq] at e
                  subst e
                  exact fin (appendPlain_sound EO R hts hty hty2 (fun kk hk2 => by subst hk2; exact hni _ _ rfl) hel hz hb hx hk ha)
              · cases e
          · cases e
        · cases e
      · cases e
    · rename_i base m cp x t ts hts
      have hb : Wf σ (.slice base m cp) := hw _ (by simp)
      have hx : Wf σ x := hw _ (by simp)
      split at e
      · rename_i ti el hty
        have key : ∀ {v : Value} {h' : H}, n = .val v h' → After E P (builtin .copy argTypes ty cs ⟨[Value.slice base m cp, x].map (phys σ)⟩) N0 w0 σ h w n := by
          intro v h' hn
          subst hn
          obtain ⟨c1, c2, w', c3, c4⟩ := copy_sound (cs := cs) (ty := ty) (P := P) EO RR R hts hty hb hx e
          exact .inl ⟨σ, w', .refl _ _, .inl c3, c4, c1, by omega⟩
        have hn : ∃ v h', n = .val v h' := by
          try simp only [cond_eq_ite] at e
          repeat' split at e
          all_goals first | (cases e; done) | (rw [Option.map_eq_some_iff] at e; obtain ⟨_, _, e⟩ := e; exact ⟨_, _, e.symm⟩) | (simp only [Option.some.injEq] at e; exact ⟨_, _, e.symm⟩)
        obtain ⟨v, h', hn⟩ := hn
        exact key hn
      · cases e
    · rename_i x t ts hts
      have hx : Wf σ x := hw _ (by simp)
      have hn : ∃ v h', n = .val v h' := by
        try simp only [cond_eq_ite] at e
        repeat' split at e
        all_goals first | (cases e; done) | (rw [Option.map_eq_some_iff] at e; obtain ⟨_, _, e⟩ := e; exact ⟨_, _, e.symm⟩) | (simp only [Option.some.injEq] at e; exact ⟨_, _, e.symm⟩)
      obtain ⟨v, h', rfl⟩ := hn
      exact .inl (gives_of_builtin (clear_sound (cs := cs) (ty := ty) (P := P) EO RR R hts hx e))
    · rename_i mr k t ts hts
      have hmr : Wf σ (.map mr) := hw _ (by simp)
      have hk : Wf σ k := hw _ (by simp)
      split at e
      · rename_i ti kt el hty
        have hn : ∃ v h', n = .val v h' := by
          try simp only [cond_eq_ite] at e
          repeat' split at e
          all_goals first | (cases e; done) | (rw [Option.map_eq_some_iff] at e; obtain ⟨_, _, e⟩ := e; exact ⟨_, _, e.symm⟩) | (simp only [Option.some.injEq] at e; exact ⟨_, _, e.symm⟩)
        obtain ⟨v, h', rfl⟩ := hn
        exact .inl (gives_of_builtin (delete_sound (cs := cs) (ty := ty) (P := P) EO RR R hts hty hmr hk e))
      · cases e
    · rename_i t v
      simp only [Option.some.injEq] at e
      subst e
      have hv : Wf σ (.iface t v) := hw _ (by simp)
      refine ⟨hv, ?_⟩
      simp [builtin, Instr.panic]
    · simp only [Option.some.injEq] at e
      subst e
      simp [After, builtin]
    · cases e

omit EO SO RR R in
theorem acts_gives {o : Oper} {v : Value} {h' : H} (a : Acts P r o N0 w0 σ h w v h') : Gives P (execOp r o) N0 w0 σ h w v h' := a

theorem eff_sound {o : Oper} {n : Next} (e : exEff E h ρ o = some n) : After E P (execOp r o) N0 w0 σ h w n := by
  obtain ⟨dst, op, ty, pos, after, guard⟩ := o
  cases op with
  | assign x =>
    have hn : ∃ v h', n = .val v h' := by
      simp only [exEff] at e
      try simp only [cond_eq_ite] at e
      repeat' split at e
      all_goals first | (cases e; done) | (rw [Option.map_eq_some_iff] at e; obtain ⟨_, _, e⟩ := e; exact ⟨_, _, e.symm⟩) | (simp only [Option.some.injEq] at e; exact ⟨_, _, e.symm⟩)
    obtain ⟨v, h', rfl⟩ := hn
    exact .inl (assign_sound EO RR R e)
  | store t a x =>
    have hn : ∃ v h', n = .val v h' := by
      simp only [exEff] at e
      try simp only [cond_eq_ite] at e
      repeat' split at e
      all_goals first | (cases e; done) | (rw [Option.map_eq_some_iff] at e; obtain ⟨_, _, e⟩ := e; exact ⟨_, _, e.symm⟩) | (simp only [Option.some.injEq] at e; exact ⟨_, _, e.symm⟩)
    obtain ⟨v, h', rfl⟩ := hn
    exact .inl (store_sound EO RR R e)
  | convert s d x =>
    have hn : ∃ v h', n = .val v h' := by
      simp only [exEff] at e
      try simp only [cond_eq_ite] at e
      repeat' split at e
      all_goals first | (cases e; done) | (rw [Option.map_eq_some_iff] at e; obtain ⟨_, _, e⟩ := e; exact ⟨_, _, e.symm⟩) | (simp only [Option.some.injEq] at e; exact ⟨_, _, e.symm⟩)
    obtain ⟨v, h', rfl⟩ := hn
    exact .inl (freeze_sound EO RR R e)
  | mapUpdate t m k x =>
    have hn : ∃ v h', n = .val v h' := by
      simp only [exEff] at e
      try simp only [cond_eq_ite] at e
      repeat' split at e
      all_goals first | (cases e; done) | (rw [Option.map_eq_some_iff] at e; obtain ⟨_, _, e⟩ := e; exact ⟨_, _, e.symm⟩) | (simp only [Option.some.injEq] at e; exact ⟨_, _, e.symm⟩)
    obtain ⟨v, h', rfl⟩ := hn
    exact .inl (mapUpdate_sound EO RR R (.inl rfl) e)
  | insert t m k x =>
    have hn : ∃ v h', n = .val v h' := by
      simp only [exEff] at e
      try simp only [cond_eq_ite] at e
      repeat' split at e
      all_goals first | (cases e; done) | (rw [Option.map_eq_some_iff] at e; obtain ⟨_, _, e⟩ := e; exact ⟨_, _, e.symm⟩) | (simp only [Option.some.injEq] at e; exact ⟨_, _, e.symm⟩)
    obtain ⟨v, h', rfl⟩ := hn
    exact .inl (mapUpdate_sound EO RR R (.inr rfl) e)
  | range t x =>
    have hn : ∃ v h', n = .val v h' := by
      simp only [exEff] at e
      try simp only [cond_eq_ite] at e
      repeat' split at e
      all_goals first | (cases e; done) | (rw [Option.map_eq_some_iff] at e; obtain ⟨_, _, e⟩ := e; exact ⟨_, _, e.symm⟩) | (simp only [Option.some.injEq] at e; exact ⟨_, _, e.symm⟩)
    obtain ⟨v, h', rfl⟩ := hn
    exact .inl (range_sound EO RR R e)
  | next it isS =>
    obtain ⟨v, h', hm, a⟩ := next_sound EO RR R e
    cases n <;> simp only [nextOf] at hm
    all_goals (try (cases hm; done))
    · simp only [List.mem_singleton, Prod.mk.injEq] at hm
      obtain ⟨rfl, rfl⟩ := hm
      exact .inl a
    · exact ⟨v, h', hm, a⟩
  | entry it =>
    have hn : ∃ v h', n = .val v h' := by
      simp only [exEff] at e
      try simp only [cond_eq_ite] at e
      repeat' split at e
      all_goals first | (cases e; done) | (rw [Option.map_eq_some_iff] at e; obtain ⟨_, _, e⟩ := e; exact ⟨_, _, e.symm⟩) | (simp only [Option.some.injEq] at e; exact ⟨_, _, e.symm⟩)
    obtain ⟨v, h', rfl⟩ := hn
    exact .inl (entry_sound EO RR R e)
  | panic x =>
    simp only [exEff] at e
    split at e
    · rename_i t v hx
      simp only [Option.some.injEq] at e
      subst e
      obtain ⟨x1, x2⟩ := RR x _ hx
      exact ⟨x2, by simp [execOp, x1, Instr.panic]⟩
    · cases e
  | defer c =>
    simp only [exEff] at e
    cases hr : resolveL ρ c with
    | none => rw [hr] at e; cases e
    | some q =>
      obtain ⟨t, args⟩ := q
      rw [hr] at e
      simp only [Option.map_some, Option.some.injEq] at e
      subst e
      obtain ⟨r1, r2, fn, cs, rfl, r3, r4⟩ := resolve_sound (P := P) (w := w) (ty := ty) RR hr
      refine ⟨⟨.fn _ _ r3 r4, r2⟩, ?_⟩
      simp only [execOp, Sem.run_bind, r1, Result.andThen_ok, Sem.run_pure, physD, physT]
  | call c =>
    obtain ⟨callee, args, argTypes⟩ := c
    cases hc : callee with
    | builtin b =>
      subst hc
      exact builtins_sound EO SO RR R e
    | _ =>
      simp only [exEff, hc] at e
      split at e
      · rename_i t l hr
        rw [← hc] at hr ⊢
        obtain ⟨r1, r2, fn, cs, rfl, r3, r4⟩ := resolve_sound (P := P) (w := w) (ty := ty) RR hr
        refine (invokeL_sound EO SO R (fun fn' c' ht => ?_) r2 e).congr ?_
        · cases ht; exact ⟨r3, r4⟩
        · simp only [execOp, Sem.run_bind, r1, Result.andThen_ok]
      · cases e
  | _ => simp [exEff] at e
end
end Go.Lm

/- What an operation comes to hangs on its operands alone. -/
namespace Go.Lm

theorem mapM_congr {α β : Type} {f g : α → Option β} : ∀ {l : List α}, (∀ x ∈ l, f x = g x) → l.mapM f = l.mapM g
  | [], _ => rfl
  | a :: l, h => by
    rw [List.mapM_cons, List.mapM_cons, h a (by simp), mapM_congr (l := l) fun x hx => h x (by simp [hx])]

section
variable {E : Env} {ρ ρ' : Rho}

theorem bound_congr {o : Option Operand} {d : Nat} (h : ∀ x ∈ o.toList, ρ' x = ρ x) : bound ρ' o d = bound ρ o d := by
  cases o with
  | none => rfl
  | some x => simp only [bound]; rw [h x (by simp)]

theorem arg0_congr {args : Array Operand} (h : ∀ x ∈ args.toList, ρ' x = ρ x) : args[0]?.bind ρ' = args[0]?.bind ρ := by
  cases ha : args[0]? with
  | none => rfl
  | some x => exact h x (by rw [← Array.getElem?_toList] at ha; exact List.mem_of_getElem? ha)

theorem parts_congr {l : List (Nat × Operand)} {f g : Nat × Operand → Option (Nat × Nat × Value)} (hfg : ∀ x ∈ l, f x = g x) : l.mapM f = l.mapM g := mapM_congr hfg

theorem exPure_congr (op : Op) (h : ∀ x ∈ op.operands.toList, ρ' x = ρ x) : exPure E ρ' op = exPure E ρ op := by
  cases op with
  | move x => simp only [exPure]; exact h x (by simp [Op.operands])
  | pick c a b => simp only [exPure]; rw [h c (by simp [Op.operands]), h a (by simp [Op.operands]), h b (by simp [Op.operands])]
  | build t ps =>
    simp only [exPure]
    have hf : ∀ fs, ps.toList.mapM (fieldPart E ρ' fs) = ps.toList.mapM (fieldPart E ρ fs) := fun fs => mapM_congr fun x hx => by
      unfold fieldPart; rw [h x.2 (by simp only [Op.operands]; exact List.mem_map.2 ⟨x, hx, rfl⟩)]
    have he : ∀ s, ps.toList.mapM (elemPart ρ' s) = ps.toList.mapM (elemPart ρ s) := fun s => mapM_congr fun x hx => by
      unfold elemPart; rw [h x.2 (by simp only [Op.operands]; exact List.mem_map.2 ⟨x, hx, rfl⟩)]
    simp only [hf, he]
  | nilCheck x => simp only [exPure]; rw [h x (by simp [Op.operands])]
  | binOp op t x y t2 => simp only [exPure]; rw [h x (by simp [Op.operands]), h y (by simp [Op.operands])]
  | unOp op t x => simp only [exPure]; rw [h x (by simp [Op.operands])]
  | makeInterface t x => simp only [exPure]; rw [h x (by simp [Op.operands])]
  | makeFunc fn first captured =>
    have h1 : first.toList.mapM ρ' = first.toList.mapM ρ := mapM_congr fun x hx => h x (by simp only [Op.operands, Array.toList_append]; exact List.mem_append_left _ hx)
    have h2 : captured.toList.mapM ρ' = captured.toList.mapM ρ := mapM_congr fun x hx => h x (by simp only [Op.operands, Array.toList_append]; exact List.mem_append_right _ hx)
    cases fn <;> simp only [exPure, h1, h2]
  | fieldAddr t x f => simp only [exPure]; rw [h x (by simp [Op.operands])]
  | field t x f => simp only [exPure]; rw [h x (by simp [Op.operands])]
  | indexAddr t x i => simp only [exPure]; rw [h x (by simp [Op.operands]), h i (by simp [Op.operands])]
  | index t x i => simp only [exPure]; rw [h x (by simp [Op.operands]), h i (by simp [Op.operands])]
  | typeAssert x t u ok => simp only [exPure]; rw [h x (by simp [Op.operands])]
  | extract x i => simp only [exPure]; rw [h x (by simp [Op.operands])]
  | sliceToArrayPointer t x => simp only [exPure]; rw [h x (by simp [Op.operands])]
  | convert s d x => simp only [exPure]; rw [h x (by simp [Op.operands])]
  | call c =>
    obtain ⟨callee, args, ts⟩ := c
    have ha : ∀ x ∈ args.toList, ρ' x = ρ x := fun x hx => h x (by
      have := Array.mem_toList_iff.1 hx
      cases callee <;> simp [Op.operands, Call.operands, this])
    cases callee with
    | builtin b =>
      cases b <;> simp only [exPure, arg0_congr ha, mapM_congr ha]
    | _ => rfl
  | _ => rfl

theorem exRead_congr (hp : H) (op : Op) (h : ∀ x ∈ op.operands.toList, ρ' x = ρ x) : exRead E hp ρ' op = exRead E hp ρ op := by
  cases op with
  | load t x => simp only [exRead]; rw [h x (by simp [Op.operands])]
  | slice t x lo hi mx =>
    have h1 := h x (by simp [Op.operands])
    have h2 : ∀ d, bound ρ' lo d = bound ρ lo d := fun d => bound_congr fun y hy => h y (by simp only [Op.operands, Array.toList_append]; simp at hy ⊢; simp [hy])
    have h3 : ∀ d, bound ρ' hi d = bound ρ hi d := fun d => bound_congr fun y hy => h y (by simp only [Op.operands, Array.toList_append]; simp at hy ⊢; simp [hy])
    have h4 : ∀ m, mx = some m → ρ' m = ρ m := fun m hm => h m (by simp only [Op.operands, Array.toList_append]; simp [hm])
    simp only [exRead, h1, h2, h3]
    cases mx with
    | none => rfl
    | some m => simp only [h4 m rfl]
  | lookup t m k ok => simp only [exRead]; rw [h m (by simp [Op.operands]), h k (by simp [Op.operands])]
  | convert s d x => simp only [exRead]; rw [h x (by simp [Op.operands])]
  | call c =>
    obtain ⟨callee, args, ts⟩ := c
    have ha : ∀ x ∈ args.toList, ρ' x = ρ x := fun x hx => h x (by
      have := Array.mem_toList_iff.1 hx
      cases callee <;> simp [Op.operands, Call.operands, this])
    cases callee with
    | builtin b =>
      cases b <;> simp only [exRead, arg0_congr ha]
    | _ => rfl
  | _ => rfl

theorem exAlloc_congr (hp : H) (op : Op) (h : ∀ x ∈ op.operands.toList, ρ' x = ρ x) : exAlloc E hp ρ' op = exAlloc E hp ρ op := by
  cases op with
  | box t x => simp only [exAlloc]; rw [h x (by simp [Op.operands])]
  | buildSlice t n ps =>
    have he : ∀ s, ps.toList.mapM (elemPart ρ' s) = ps.toList.mapM (elemPart ρ s) := fun s => mapM_congr fun x hx => by
      unfold elemPart; rw [h x.2 (by simp only [Op.operands]; exact List.mem_map.2 ⟨x, hx, rfl⟩)]
    simp only [exAlloc, he]
  | convert s d x => simp only [exAlloc]; rw [h x (by simp [Op.operands])]
  | makeMap t r =>
    cases r with
    | none => rfl
    | some x => simp only [exAlloc]; rw [h x (by simp [Op.operands])]
  | makeSlice t n c => simp only [exAlloc]; rw [h n (by simp [Op.operands]), h c (by simp [Op.operands])]
  | _ => rfl

theorem resolveL_congr {c : Call} (h : ∀ x ∈ c.operands.toList, ρ' x = ρ x) : resolveL ρ' c = resolveL ρ c := by
  obtain ⟨callee, args, ts⟩ := c
  have ha : ∀ x ∈ args.toList, ρ' x = ρ x := fun x hx => h x (by
    have := Array.mem_toList_iff.1 hx
    cases callee <;> simp [Call.operands, this])
  unfold resolveL
  simp only [mapM_congr ha]
  cases callee with
  | value f => simp only; rw [h f (by simp [Call.operands])]
  | invoke r n => simp only; rw [h r (by simp [Call.operands])]
  | builtin b => rfl

theorem exEff_congr (hp : H) (o : Oper) (h : ∀ x ∈ o.op.operands.toList, ρ' x = ρ x) : exEff E hp ρ' o = exEff E hp ρ o := by
  obtain ⟨dst, op, ty, pos, after, guard⟩ := o
  simp only at h
  cases op with
  | assign x => simp only [exEff]; rw [h x (by simp [Op.operands])]
  | store t a x => simp only [exEff]; rw [h a (by simp [Op.operands]), h x (by simp [Op.operands])]
  | convert s d x => simp only [exEff]; rw [h x (by simp [Op.operands])]
  | mapUpdate t m k x => simp only [exEff]; rw [h m (by simp [Op.operands]), h k (by simp [Op.operands]), h x (by simp [Op.operands])]
  | insert t m k x => simp only [exEff]; rw [h m (by simp [Op.operands]), h k (by simp [Op.operands]), h x (by simp [Op.operands])]
  | range t x => simp only [exEff]; rw [h x (by simp [Op.operands])]
  | next x s => simp only [exEff]; rw [h x (by simp [Op.operands])]
  | entry x => simp only [exEff]; rw [h x (by simp [Op.operands])]
  | panic x => simp only [exEff]; rw [h x (by simp [Op.operands])]
  | defer c => simp only [exEff]; rw [resolveL_congr h]
  | call c =>
    have hr := resolveL_congr h
    obtain ⟨callee, args, ts⟩ := c
    have ha : ∀ x ∈ args.toList, ρ' x = ρ x := fun x hx => h x (by
      have := Array.mem_toList_iff.1 hx
      cases callee <;> simp [Op.operands, Call.operands, this])
    simp only [exEff, hr, mapM_congr ha]
  | _ => rfl
end
end Go.Lm

/- What is read stays so when objects are added. -/
namespace Go.Lm
section
variable {E : Env} {ρ : Rho} {h h' : H} (hm : ∀ b o, h.objs.get b = some o → h'.objs.get b = some o)
include hm

theorem row_mono {b : Nat} {r : Row} (e : h.row b = some r) : h'.row b = some r := by
  unfold H.row at e ⊢
  split at e
  · rename_i r' ho
    rw [hm _ _ ho]
    exact e
  · cases e

theorem readAt_mono {b o l : Nat} {vs : List Value} (e : h.readAt b o l = some vs) : h'.readAt b o l = some vs := by
  unfold H.readAt at e ⊢
  cases hr : h.row b with
  | none => rw [hr] at e; cases e
  | some r => rw [hr] at e; rw [row_mono hm hr]; exact e

theorem loadT_mono {t b o : Nat} {v : Value} (e : loadT E h t b o = some v) : loadT E h' t b o = some v := by
  unfold loadT at e ⊢
  split at e
  · rename_i i d ht
    cases hd : aggDesc d with
    | true =>
      simp only [hd, cond_true] at e ⊢
      rw [Option.map_eq_some_iff] at e ⊢
      obtain ⟨l, h1, h2⟩ := e
      exact ⟨l, readAt_mono hm h1, h2⟩
    | false =>
      simp only [hd, cond_false] at e ⊢
      split at e
      · rename_i u hr
        rw [readAt_mono hm hr]; exact e
      · cases e
  · cases e

theorem srcCells_mono {s : Nat} {v : Value} {q : Nat × List Value} (e : srcCells h s v = some q) : srcCells h' s v = some q := by
  unfold srcCells at e ⊢
  split at e
  · exact e
  · exact e
  · rw [Option.map_eq_some_iff] at e ⊢
    obtain ⟨l, h1, h2⟩ := e
    exact ⟨l, readAt_mono hm h1, h2⟩
  · exact e
  · cases e

theorem capFits_mono {a : Option Addr} {c s m : Nat} (e : capFits h a c s m = true) : capFits h' a c s m = true := by
  unfold capFits at e ⊢
  cases hc : Nat.beq c unk with
  | false => rw [hc] at e; exact e
  | true =>
    rw [hc] at e
    simp only [cond_true] at e ⊢
    split at e
    · split at e
      · rename_i r hr
        rw [row_mono hm hr]; exact e
      · cases e
    · cases e

theorem exRead_mono (op : Op) {v : Value} (e : exRead E h ρ op = some v) : exRead E h' ρ op = some v := by
  cases op with
  | load t x =>
    simp only [exRead] at e ⊢
    split at e
    · exact loadT_mono hm e
    · cases e
  | slice t x lo hi mx =>
    simp only [exRead] at e ⊢
    split at e
    · exact e
    · rename_i i el a n c ht hx
      cases hl : bound ρ lo 0 with
      | none => simp [hl] at e
      | some l =>
      cases hu : bound ρ hi n with
      | none => simp [hl, hu] at e
      | some u =>
      cases hs : E.size el with
      | none => simp [hl, hu, hs] at e
      | some s =>
        simp only [hl, hu, hs] at e ⊢
        cases mx with
        | none =>
          simp only at e ⊢
          cases hc : Nat.beq c unk with
          | false => rw [hc] at e; exact e
          | true =>
            rw [hc] at e
            simp only [cond_true] at e ⊢
            split at e
            · rename_i b o
              split at e
              · rename_i r hr
                rw [row_mono hm hr]; exact e
              · cases e
            · exact e
            · cases e
        | some m =>
          simp only at e ⊢
          cases hi with
          | none => simp at e
          | some y =>
            cases hmm : (ρ m).bind natOf with
            | none => simp [hmm] at e
            | some k =>
              simp only [hmm] at e ⊢
              cases hc : (Nat.ble l u && Nat.ble u k && Nat.blt k unk && capFits h a c s k) with
              | false => rw [hc] at e; cases e
              | true =>
                have hc' : (Nat.ble l u && Nat.ble u k && Nat.blt k unk && capFits h' a c s k) = true := by
                  rw [Bool.and_eq_true] at hc ⊢
                  exact ⟨hc.1, capFits_mono hm hc.2⟩
                rw [hc] at e
                rw [hc']
                exact e
    · exact e
    · cases e
  | lookup t m k ok =>
    simp only [exRead] at e ⊢
    split at e
    · rename_i i kt el r k' ht hmm hk
      cases r with
      | none => exact e
      | some r =>
        simp only at e ⊢
        cases ho : h.objs.get r with
        | none => simp [ho] at e
        | some o =>
          rw [hm _ _ ho]
          rw [ho] at e
          exact e
    · cases e
  | call c =>
    obtain ⟨callee, args, ts⟩ := c
    cases callee with
    | builtin b =>
      cases b <;> simp only [exRead] at e ⊢
      all_goals (try exact e)
      split at e
      · exact e
      · exact e
      · exact e
      · exact e
      · split at e
        · rename_i es ck ho
          rw [hm _ _ ho]; exact e
        · cases e
      · exact e
      · cases e
    | _ => exact e
  | convert s d x =>
    simp only [exRead] at e ⊢
    split at e
    · split at e
      · split at e
        · rename_i q l hs
          rw [srcCells_mono hm hs]; exact e
        · cases e
      · cases e
    · cases e
  | _ => exact e
end
end Go.Lm

