/- The runs of the logical machine are runs of the model, whatever is drawn. Conditions: the tables are those of the program, the contracts hold (EnvOK, SpOK). -/
import Derived.Test.YtinbeckdjhoeoaaGreatDoorLmb
import Derived.Orders
import Derived.Laws.Externs
set_option linter.unusedSectionVars false
set_option linter.unusedSimpArgs false
set_option linter.unusedVariables false
set_option linter.deprecated false
/- Plans of regions that draw their order: what is checked. -/
namespace Go.Lm

theorem bit_test (n k : Nat) : (bit n).testBit k = decide (n = k) := by
  unfold bit
  rw [Nat.testBit_two_pow]

theorem mask_test : ∀ (l : List Nat) (k : Nat), (maskOf l).testBit k = true ↔ k ∈ l
  | [], k => by simp [maskOf]
  | a :: l, k => by
    simp only [maskOf, Nat.testBit_or, bit_test, Bool.or_eq_true, decide_eq_true_eq, mask_test l k, List.mem_cons]
    constructor
    · rintro (rfl | h)
      · exact .inl rfl
      · exact .inr h
    · rintro (rfl | h)
      · exact .inl rfl
      · exact .inr h

theorem isIn_test {m n : Nat} (h : isIn m n = true) (k : Nat) (hk : m.testBit k = true) : n.testBit k = true := by
  unfold isIn at h
  have : m &&& n = m := by simpa using h
  have h2 : (m &&& n).testBit k = true := by rw [this]; exact hk
  rw [Nat.testBit_and, Bool.and_eq_true] at h2
  exact h2.2

theorem isIn_of {m n : Nat} (h : ∀ k, m.testBit k = true → n.testBit k = true) : isIn m n = true := by
  unfold isIn
  simp only [beq_iff_eq]
  apply Nat.eq_of_testBit_eq
  intro k
  rw [Nat.testBit_and]
  cases hk : m.testBit k with
  | false => rfl
  | true => simp [h k hk]

theorem and_zero_test {m n : Nat} (h : (m &&& n == 0) = true) (k : Nat) (h1 : m.testBit k = true) : n.testBit k = false := by
  have h0 : m &&& n = 0 := by simpa using h
  have h2 : (m &&& n).testBit k = false := by rw [h0]; simp
  rw [Nat.testBit_and, h1, Bool.true_and] at h2
  exact h2

/-- the temporaries that an operation looks at -/
def usesOf (ops : List Oper) (o : Oper) : List Nat :=
  Operand.tmps o.op.operands.toList ++ (match o.guard with | some (j, _) => ((ops[j]?).bind (·.dst)).toList | none => [])

structure InfoOK (E : Env) (ops : List Oper) (all : List PInfo) (p : PInfo) : Prop where
  op : ops[p.i]? = some p.o
  pre : ∀ k, p.pre.testBit k = true ↔ k ∈ preOf p.o
  uses : ∀ k, p.uses.testBit k = true ↔ k ∈ usesOf ops p.o
  dst : ∀ k, p.dst.testBit k = true ↔ p.o.dst = some k
  names : p.names = p.uses ||| p.dst
  eff : p.eff = (kindOf E p.o.op == .eff)
  anc : ∀ B : Nat → Prop, (∀ x ∈ all, B x.i → ∀ k ∈ preOf x.o, B k) → (∀ k ∈ preOf p.o, B k) → ∀ k, p.anc.testBit k = true → B k
  ancW : ∀ d, p.ancW.testBit d = true → ∃ a ∈ all, p.anc.testBit a.i = true ∧ a.dst.testBit d = true

theorem InfoOK.mono {E : Env} {ops : List Oper} {all all' : List PInfo} {p : PInfo} (h : InfoOK E ops all p) (hs : ∀ x ∈ all, x ∈ all') : InfoOK E ops all' p :=
  ⟨h.op, h.pre, h.uses, h.dst, h.names, h.eff, fun B hB => h.anc B (fun x hx => hB x (hs x hx)), fun d hd => by
    obtain ⟨a, h1, h2⟩ := h.ancW d hd
    exact ⟨a, hs a h1, h2⟩⟩

theorem foldl_test {F : Nat → PInfo → Nat} {Q : PInfo → Nat → Prop} : ∀ (l : List PInfo) (m : Nat), (∀ m p k, p ∈ l → ((F m p).testBit k = true ↔ m.testBit k = true ∨ Q p k)) → ∀ k, ((l.foldl F m).testBit k = true ↔ m.testBit k = true ∨ ∃ p ∈ l, Q p k)
  | [], m, _, k => by simp
  | a :: l, m, h, k => by
    rw [List.foldl_cons, foldl_test l (F m a) (fun m p k hp => h m p k (by simp [hp])) k, h m a k (by simp)]
    constructor
    · rintro ((h1 | h1) | ⟨p, hp, h1⟩)
      · exact .inl h1
      · exact .inr ⟨a, by simp, h1⟩
      · exact .inr ⟨p, by simp [hp], h1⟩
    · rintro (h1 | ⟨p, hp, h1⟩)
      · exact .inl (.inl h1)
      · rcases List.mem_cons.1 hp with rfl | hp
        · exact .inl (.inr h1)
        · exact .inr ⟨p, hp, h1⟩

theorem infos_ok (E : Env) (ops : List Oper) : ∀ (l : List Oper) (i : Nat) (acc : List PInfo), ops.drop i = l → (acc.map (·.i)) = (List.range i).reverse → (∀ p ∈ acc, InfoOK E ops acc p) → i ≤ ops.length →
    ((infos E ops i l acc).map (·.i)) = List.range ops.length ∧ ∀ p ∈ infos E ops i l acc, InfoOK E ops (infos E ops i l acc) p
  | [], i, acc, hd, hi, ha, hl => by
    have : ops.length ≤ i := by
      have := congrArg List.length hd
      simp at this; omega
    have hi' : i = ops.length := by omega
    subst hi'
    simp only [infos]
    refine ⟨by rw [List.map_reverse, hi, List.reverse_reverse], fun p hp => (ha p (by simpa using hp)).mono (fun x hx => by simpa using hx)⟩
  | o :: rest, i, acc, hd, hi, ha, hl => by
    have hlt : i < ops.length := by
      rcases Nat.lt_or_ge i ops.length with h | h
      · exact h
      · rw [List.drop_eq_nil_of_le h] at hd; cases hd
    have ho : ops[i]? = some o := by
      have : (ops.drop i)[0]? = some o := by rw [hd]; rfl
      simpa using this
    unfold infos
    simp only
    refine infos_ok E ops rest (i + 1) _ ?_ ?_ ?_ hlt
    · rw [← List.drop_drop, hd]; rfl
    · simp [hi, List.range_succ]
    · intro p hp
      rcases List.mem_cons.1 hp with rfl | hp
      · have hanc : ∀ k, ((acc.foldl (fun (m : Nat) (p : PInfo) => cond ((preOf o).contains p.i) (m ||| bit p.i ||| p.anc) m) 0).testBit k = true ↔ ∃ p ∈ acc, (preOf o).contains p.i = true ∧ (p.i = k ∨ p.anc.testBit k = true)) := fun k => by
          rw [foldl_test (Q := fun p k => (preOf o).contains p.i = true ∧ (p.i = k ∨ p.anc.testBit k = true)) acc 0 (fun m p k _ => by
            cases hc : (preOf o).contains p.i with
            | false => simp
            | true => simp [Nat.testBit_or, bit_test, or_assoc])]
          simp
        generalize hA : acc.foldl (fun (m : Nat) (p : PInfo) => cond ((preOf o).contains p.i) (m ||| bit p.i ||| p.anc) m) 0 = A at hanc
        have hancW : ∀ d, ((acc.foldl (fun (m : Nat) (p : PInfo) => cond (A.testBit p.i) (m ||| p.dst) m) 0).testBit d = true ↔ ∃ p ∈ acc, A.testBit p.i = true ∧ p.dst.testBit d = true) := fun d => by
          rw [foldl_test (Q := fun p k => A.testBit p.i = true ∧ p.dst.testBit k = true) acc 0 (fun m p k _ => by
            cases hc : A.testBit p.i with
            | false => simp
            | true => simp [Nat.testBit_or])]
          simp
        refine ⟨ho, fun k => mask_test _ k, fun k => ?_, fun k => ?_, rfl, rfl, fun B hB hp k hk => ?_, fun d hd => ?_⟩
        · simp only [Nat.testBit_or, Bool.or_eq_true, mask_test, usesOf, List.mem_append]
          refine or_congr Iff.rfl ?_
          cases hg : o.guard with
          | none => simp
          | some g =>
            obtain ⟨j, wnt⟩ := g
            simp only
            cases hj : (ops[j]?).bind (·.dst) with
            | none => simp
            | some d => simp [bit_test, eq_comm]
        · simp only
          cases hd : o.dst with
          | none => simp
          | some d => simp [bit_test]
        · rw [hanc] at hk
          obtain ⟨q, hq, h1, h2⟩ := hk
          have hBq : B q.i := hp _ (by simpa using h1)
          rcases h2 with rfl | h2
          · exact hBq
          · exact (ha q hq).anc B (fun x hx => hB x (by simp [hx])) (hB q (by simp [hq]) hBq) k h2
        · rw [hancW] at hd
          obtain ⟨a, h1, h2, h3⟩ := hd
          exact ⟨a, by simp [h1], h2, h3⟩
      · exact (ha p hp).mono (fun x hx => by simp [hx])

theorem infos_all (E : Env) (ops : List Oper) : ((infos E ops 0 ops []).map (·.i)) = List.range ops.length ∧ ∀ p ∈ infos E ops 0 ops [], InfoOK E ops (infos E ops 0 ops []) p :=
  infos_ok E ops ops 0 [] (by simp) (by simp) (by simp) (by omega)

/-- operations in an order in which each has its own before it -/
def Ordered : List PInfo → Prop
  | [] => True
  | p :: l => (∀ k ∈ preOf p.o, ∃ q ∈ l, q.i = k) ∧ Ordered l

/-- what has been planned -/
structure PInv (all : List PInfo) (done names writes : Nat) (prior : List PInfo) : Prop where
  sub : ∀ p ∈ prior, p ∈ all
  done : ∀ k, done.testBit k = true ↔ ∃ p ∈ prior, p.i = k
  names : ∀ p ∈ prior, ∀ k, p.names.testBit k = true → names.testBit k = true
  writes : ∀ p ∈ prior, ∀ k, p.dst.testBit k = true → writes.testBit k = true
  uniq : ∀ p ∈ prior, ∀ q ∈ prior, ∀ k, p.dst.testBit k = true → q.dst.testBit k = true → p = q
  hang : ∀ p ∈ prior, ∀ q ∈ prior, q.eff = false → p ≠ q → ∀ k, q.dst.testBit k = true → p.names.testBit k = true → p.anc.testBit q.i = true
  own : ∀ p ∈ prior, p.eff = false → (∃ d, p.o.dst = some d) ∧ ∀ k, p.uses.testBit k = true → p.dst.testBit k = false
  ordered : Ordered prior
  nodup : (prior.map (·.i)).Nodup

theorem PInv.nil (all : List PInfo) : PInv all 0 0 0 [] :=
  ⟨by simp, by simp, by simp, by simp, by simp, by simp, by simp, trivial, by simp⟩

theorem mem_ready' {done : Nat} {all : List PInfo} {p : PInfo} : p ∈ Lm.ready done all ↔ p ∈ all ∧ done.testBit p.i = false ∧ isIn p.pre done = true := by
  unfold Lm.ready
  rw [List.mem_filter]
  simp

theorem inj_of_nodup {l : List PInfo} (h : (l.map (·.i)).Nodup) {a b : PInfo} (ha : a ∈ l) (hb : b ∈ l) (e : a.i = b.i) : a = b := by
  induction l with
  | nil => cases ha
  | cons c l ih =>
    simp only [List.map_cons, List.nodup_cons] at h
    rcases List.mem_cons.1 ha with h1 | h1 <;> rcases List.mem_cons.1 hb with h2 | h2
    · rw [h1, h2]
    · exact absurd (List.mem_map.2 ⟨b, h2, by rw [← e, h1]⟩) h.1
    · exact absurd (List.mem_map.2 ⟨a, h1, by rw [e, h2]⟩) h.1
    · exact ih h.2 h1 h2

section
variable {E : Env} {ops : List Oper} {all : List PInfo} (hall : ∀ p ∈ all, InfoOK E ops all p) {done names writes : Nat} {prior : List PInfo} (I : PInv all done names writes prior)
include hall I

theorem PInv.closed : ∀ x ∈ prior, ∀ k ∈ preOf x.o, done.testBit k = true := by
  have key : ∀ l : List PInfo, Ordered l → ∀ x ∈ l, ∀ k ∈ preOf x.o, ∃ q ∈ l, q.i = k := by
    intro l
    induction l with
    | nil => intro _ x hx; cases hx
    | cons p l ih =>
      intro ho x hx k hk
      rcases List.mem_cons.1 hx with rfl | hx
      · obtain ⟨q, h1, h2⟩ := ho.1 k hk
        exact ⟨q, by simp [h1], h2⟩
      · obtain ⟨q, h1, h2⟩ := ih ho.2 x hx k hk
        exact ⟨q, by simp [h1], h2⟩
  intro x hx k hk
  rw [I.done]
  exact key prior I.ordered x hx k hk

/-- what it hangs on has been planned -/
theorem PInv.anc_done (hi : (all.map (·.i)).Nodup) {p : PInfo} (hp : p ∈ Lm.ready done all) (k : Nat) (hk : p.anc.testBit k = true) : done.testBit k = true := by
  rw [mem_ready'] at hp
  obtain ⟨h1, h2, h3⟩ := hp
  refine (hall p h1).anc (fun k => done.testBit k = true) (fun x hx hB k hk => ?_) (fun k hk => isIn_test h3 k (((hall p h1).pre k).2 hk)) k hk
  obtain ⟨q, hq, e⟩ := (I.done _).1 hB
  have : q = x := by
    have h4 := I.sub q hq
    exact inj_of_nodup hi h4 hx e
  subst this
  exact I.closed hall q hq k hk

/-- one more -/
theorem PInv.add (hi : (all.map (·.i)).Nodup) {p : PInfo} (hp : p ∈ Lm.ready done all) (hin : isIn (p.names &&& writes) p.ancW = true) (hdst : ∀ q ∈ prior, ∀ k, p.dst.testBit k = true → q.dst.testBit k = false)
    (hnm : p.eff = false → ∀ q ∈ prior, ∀ k, p.dst.testBit k = true → q.names.testBit k = false) (hown : p.eff = false → (∃ d, p.o.dst = some d) ∧ ∀ k, p.uses.testBit k = true → p.dst.testBit k = false) :
    PInv all (done ||| bit p.i) (names ||| p.names) (writes ||| p.dst) (p :: prior) := by
  have hp' := mem_ready'.1 hp
  obtain ⟨h1, h2, h3⟩ := hp'
  have hanc := I.anc_done hall hi hp
  refine ⟨fun q hq => ?_, fun k => ?_, fun q hq k hk => ?_, fun q hq k hk => ?_, fun a ha b hb k ka kb => ?_, fun a ha b hb hbe hab k kb ka => ?_, fun q hq he => ?_, ⟨fun k hk => ?_, I.ordered⟩, ?_⟩
  · rcases List.mem_cons.1 hq with rfl | hq
    · exact h1
    · exact I.sub q hq
  · rw [Nat.testBit_or, bit_test, Bool.or_eq_true, I.done, decide_eq_true_eq]
    constructor
    · rintro (⟨q, hq, e⟩ | e)
      · exact ⟨q, by simp [hq], e⟩
      · exact ⟨p, by simp, e⟩
    · rintro ⟨q, hq, e⟩
      rcases List.mem_cons.1 hq with rfl | hq
      · exact .inr e
      · exact .inl ⟨q, hq, e⟩
  · rw [Nat.testBit_or, Bool.or_eq_true]
    rcases List.mem_cons.1 hq with rfl | hq
    · exact .inr hk
    · exact .inl (I.names q hq k hk)
  · rw [Nat.testBit_or, Bool.or_eq_true]
    rcases List.mem_cons.1 hq with rfl | hq
    · exact .inr hk
    · exact .inl (I.writes q hq k hk)
  · rcases List.mem_cons.1 ha with ea | ea <;> rcases List.mem_cons.1 hb with eb | eb
    · rw [ea, eb]
    · rw [ea] at ka; rw [hdst b eb k ka] at kb; cases kb
    · rw [eb] at kb; rw [hdst a ea k kb] at ka; cases ka
    · exact I.uniq a ea b eb k ka kb
  · rcases List.mem_cons.1 ha with ea | ea <;> rcases List.mem_cons.1 hb with eb | eb
    · exact absurd (ea.trans eb.symm) hab
    · subst ea
      have hw := I.writes b eb k kb
      have := isIn_test hin k (by rw [Nat.testBit_and, ka, hw]; rfl)
      obtain ⟨c, hc, c1, c2⟩ := (hall _ h1).ancW k this
      have hcd := hanc c.i c1
      obtain ⟨q, hq, e⟩ := (I.done _).1 hcd
      have hqc : q = c := inj_of_nodup hi (I.sub q hq) hc e
      subst hqc
      have := I.uniq q hq b eb k c2 kb
      subst this
      exact c1
    · subst eb
      have := hnm hbe a ea k kb
      rw [ka] at this; cases this
    · exact I.hang a ea b eb hbe hab k kb ka
  · rcases List.mem_cons.1 hq with rfl | hq
    · exact hown he
    · exact I.own q hq he
  · exact (I.done k).1 (isIn_test h3 k (((hall p h1).pre k).2 hk))
  · simp only [List.map_cons, List.nodup_cons]
    refine ⟨fun hm => ?_, I.nodup⟩
    obtain ⟨q, hq, e⟩ := List.mem_map.1 hm
    have := (I.done p.i).2 ⟨q, hq, e⟩
    rw [h2] at this; cases this
end

/-- one step of the plan -/
theorem planGo_cons {E : Env} {f : Nat} {all : List PInfo} {done names writes : Nat} {prior : List PInfo} {l : List PStep} (e : planGo E f all done names writes prior = some l) :
    (l = [] ∧ prior.length = all.length) ∨
    (∃ p rest f', l = { i := p.i, o := p.o, re := [] } :: rest ∧ p ∈ Lm.ready done all ∧ p.eff = false ∧ p.dst ≠ 0 ∧ (p.uses &&& p.dst == 0) = true ∧ isIn (p.names &&& writes) p.ancW = true ∧ (p.dst &&& names == 0) = true ∧
      planGo E f' all (done ||| bit p.i) (names ||| p.names) (writes ||| p.dst) (p :: prior) = some rest) ∨
    (∃ r rest f', l = { i := r.i, o := r.o, re := (prior.filter fun q => !Nat.testBit r.anc q.i && (kindOf E q.o.op == .read || kindOf E q.o.op == .alloc)).map (·.i) } :: rest ∧ Lm.ready done all = [r] ∧ r.eff = true ∧
      isIn (r.names &&& writes) r.ancW = true ∧ (r.dst &&& writes == 0) = true ∧ (∀ q ∈ prior, Nat.testBit r.anc q.i = true ∨ (q.names &&& r.dst == 0) = true) ∧
      planGo E f' all (done ||| bit r.i) (names ||| r.names) (writes ||| r.dst) (r :: prior) = some rest) := by
  cases f with
  | zero => cases e
  | succ f =>
    unfold planGo at e
    split at e
    · left
      cases hc : (prior.length == all.length) with
      | false => rw [hc] at e; cases e
      | true =>
        rw [hc] at e
        simp only [cond_true, Option.some.injEq] at e
        exact ⟨e.symm, by simpa using hc⟩
    · rename_i r rs hr
      split at e
      · rename_i p hp
        right; left
        cases hc : (p.dst != 0 && p.uses &&& p.dst == 0 && isIn (p.names &&& writes) p.ancW && p.dst &&& names == 0) with
        | false => rw [hc] at e; cases e
        | true =>
          rw [hc] at e
          simp only [cond_true] at e
          simp only [Bool.and_eq_true] at hc
          obtain ⟨⟨⟨c1, c2⟩, c3⟩, c4⟩ := hc
          split at e
          · rename_i rest hrest
            simp only [Option.some.injEq] at e
            have hm := List.mem_of_find?_eq_some hp
            have he := List.find?_some hp
            exact ⟨p, rest, f, e.symm, by rw [hr]; exact hm, by simpa using he, by simpa using c1, c2, c3, c4, hrest⟩
          · cases e
      · rename_i hnone
        right; right
        cases hc : (rs.isEmpty && isIn (r.names &&& writes) r.ancW && r.dst &&& writes == 0 && prior.all (fun q => Nat.testBit r.anc q.i || q.names &&& r.dst == 0)) with
        | false => rw [hc] at e; cases e
        | true =>
          rw [hc] at e
          simp only [cond_true] at e
          simp only [Bool.and_eq_true] at hc
          obtain ⟨⟨⟨c1, c2⟩, c3⟩, c4⟩ := hc
          have hrs : rs = [] := by simpa using c1
          subst hrs
          have hef : r.eff = true := by
            have := List.find?_eq_none.1 hnone r (by simp)
            simpa using this
          split at e
          · rename_i rest hrest
            simp only [Option.some.injEq] at e
            refine ⟨r, rest, f, e.symm, hr, hef, c2, c3, fun q hq => ?_, hrest⟩
            have := List.all_eq_true.1 c4 q hq
            simpa using this
          · cases e
end Go.Lm

/- The order that is drawn. -/
namespace Go.Lm

/-- an order in which each comes behind its own, and nothing is left out -/
def Lin (ops : List Oper) : (Nat → Prop) → List Nat → Prop
  | B, [] => ∀ i o, ops[i]? = some o → (∀ k ∈ preOf o, B k) → B i
  | B, i :: rest => ¬ B i ∧ (∃ o, ops[i]? = some o ∧ ∀ k ∈ preOf o, B k) ∧ Lin ops (fun k => B k ∨ k = i) rest

theorem Lin.congr {ops : List Oper} : ∀ {l : List Nat} {B B' : Nat → Prop}, (∀ k, B k ↔ B' k) → Lin ops B l → Lin ops B' l
  | [], B, B', h, hl => fun i o ho hk => (h i).1 (hl i o ho fun k hk' => (h k).2 (hk k hk'))
  | i :: rest, B, B', h, hl => by
    obtain ⟨h1, ⟨o, h2, h3⟩, h4⟩ := hl
    exact ⟨fun hb => h1 ((h i).2 hb), ⟨o, h2, fun k hk => (h k).1 (h3 k hk)⟩, h4.congr fun k => or_congr (h k) Iff.rfl⟩

theorem filter_less {p q : Nat → Bool} : ∀ {l : List Nat}, (∀ j, p j = true → q j = true) → ∀ {i : Nat}, i ∈ l → q i = true → p i = false → (l.filter p).length < (l.filter q).length
  | [], _, i, hi, _, _ => by cases hi
  | a :: l, h, i, hi, hq, hp => by
    have mono : ∀ l : List Nat, (l.filter p).length ≤ (l.filter q).length := fun l => by
      induction l with
      | nil => simp
      | cons b l ih =>
        cases hb : p b with
        | true => simp [List.filter_cons, hb, h b hb]; exact ih
        | false =>
          cases hc : q b with
          | true => simp [List.filter_cons, hb, hc]; omega
          | false => simp [List.filter_cons, hb, hc]; exact ih
    rcases List.mem_cons.1 hi with rfl | hi
    · have := mono l
      simp [List.filter_cons, hp, hq]; omega
    · have ih := filter_less h hi hq hp
      cases hb : p a with
      | true => simp [List.filter_cons, hb, h a hb]; exact ih
      | false =>
        cases hc : q a with
        | true => simp [List.filter_cons, hb, hc]; omega
        | false => simp [List.filter_cons, hb, hc]; exact ih

theorem mem_preOf {o : Oper} {k : Nat} : k ∈ preOf o ↔ ∃ e ∈ o.after, Region.binds .any e = true ∧ e.on = k := by
  unfold preOf
  rw [List.mem_filterMap]
  constructor
  · rintro ⟨e, he, h⟩
    cases hb : Region.binds .any e with
    | false => simp [hb] at h
    | true => simp [hb] at h; exact ⟨e, Array.mem_toList_iff.1 he, hb, h⟩
  · rintro ⟨e, he, hb, rfl⟩
    exact ⟨e, Array.mem_toList_iff.2 he, by simp [hb]⟩

theorem lin_go (ops : Array Oper) : ∀ (fuel t : Nat) (listed : Array Bool), listed.size = ops.size → ((List.range ops.size).filter (fun i => !listed.getD i true)).length ≤ fuel →
    Lin ops.toList (fun k => listed.getD k false = true) (Region.linearise.go .any ops fuel t listed []) := by
  have none_ready : ∀ listed : Array Bool, listed.size = ops.size → Region.ready .any ops listed = [] → Lin ops.toList (fun k => listed.getD k false = true) [] := by
    intro listed hs hr i o ho hk
    have ho' : ops[i]? = some o := by rw [← Array.getElem?_toList]; exact ho
    have hlt : i < ops.size := (Array.getElem?_eq_some_iff.1 ho').1
    cases hl : listed.getD i true with
    | true =>
      have h2 : i < listed.size := by omega
      simp [Array.getD, h2] at hl ⊢
      exact hl
    | false =>
      have : i ∈ Region.ready .any ops listed := mem_ready.2 ⟨hl, o, ho', fun e he hb => hk e.on (mem_preOf.2 ⟨e, he, hb, rfl⟩)⟩
      rw [hr] at this; cases this
  intro fuel
  induction fuel with
  | zero =>
    intro t listed hs hf
    simp only [Region.linearise.go, List.reverse_nil]
    refine none_ready listed hs ?_
    have h0 : (List.range ops.size).filter (fun i => !listed.getD i true) = [] := List.length_eq_zero_iff.1 (by omega)
    apply List.eq_nil_iff_forall_not_mem.2
    intro i hi
    obtain ⟨h1, o, ho, _⟩ := mem_ready.1 hi
    have hlt : i < ops.size := (Array.getElem?_eq_some_iff.1 ho).1
    have : i ∈ (List.range ops.size).filter (fun i => !listed.getD i true) := List.mem_filter.2 ⟨List.mem_range.2 hlt, by simp only [h1]; rfl⟩
    rw [h0] at this; cases this
  | succ fuel ih =>
    intro t listed hs hf
    have hgo : Region.linearise.go .any ops (fuel + 1) t listed [] = match (Region.ready .any ops listed)[t % (Region.ready .any ops listed).length]? with
      | some i => Region.linearise.go .any ops fuel (t / (Region.ready .any ops listed).length) (listed.setIfInBounds i true) (i :: [])
      | none => [].reverse := rfl
    rw [hgo]
    split
    · rename_i i hi
      have hm := List.mem_of_getElem? hi
      obtain ⟨h1, o, ho, h3⟩ := mem_ready.1 hm
      have hlt : i < ops.size := (Array.getElem?_eq_some_iff.1 ho).1
      rw [linearise_go_acc]
      simp only [List.reverse_cons, List.reverse_nil, List.nil_append, List.singleton_append]
      refine ⟨?_, ⟨o, by rw [Array.getElem?_toList]; exact ho, fun k hk => ?_⟩, ?_⟩
      · have h2 : i < listed.size := by omega
        simp [Array.getD, h2] at h1 ⊢
        exact h1
      · obtain ⟨e, he, hb, rfl⟩ := mem_preOf.1 hk
        exact h3 e he hb
      · have := ih (t / (Region.ready .any ops listed).length) (listed.setIfInBounds i true) (by simpa using hs) (by
          have := filter_less (p := fun j => !(listed.setIfInBounds i true).getD j true) (q := fun j => !listed.getD j true) (l := List.range ops.size) (fun j hj => by
            by_cases e : i = j
            · subst e
              have h2 : i < listed.size := by omega
              simp [Array.getD, h2] at hj
            · rw [getD_set_ne true e] at hj; exact hj) (i := i) (List.mem_range.2 hlt) (by simp only [h1]; rfl) (by
              have h2 : i < listed.size := by omega
              simp [Array.getD, h2])
          omega)
        refine this.congr fun k => ?_
        by_cases e : i = k
        · subst e
          have h2 : i < listed.size := by omega
          simp [Array.getD, h2]
        · rw [getD_set_ne false e]
          constructor
          · exact .inl
          · rintro (h | h)
            · exact h
            · exact absurd h.symm e
    · rename_i hn
      simp only [List.reverse_nil]
      refine none_ready listed hs ?_
      cases hr : Region.ready .any ops listed with
      | nil => rfl
      | cons a l =>
        rw [hr] at hn
        have := List.getElem?_eq_none_iff.1 hn
        have := Nat.mod_lt t (y := (a :: l).length) (by simp)
        omega

theorem lin_schedule (ops : Array Oper) (t : Nat) : Lin ops.toList (fun _ => False) (Region.schedule true ops t) := by
  unfold Region.schedule
  simp only [Bool.true_or, if_true]
  unfold Region.linearise
  refine (lin_go ops ops.size t (Array.replicate ops.size false) (by simp) ?_).congr fun k => ?_
  · exact Nat.le_trans (List.length_filter_le _ _) (by simp)
  · simp only [Array.getD_eq_getD_getElem?, Array.getElem?_replicate]
    split <;> simp
end Go.Lm

/- What new objects are like. -/
namespace Go.Lm

/-- the number of an object that a value leads to -/
def numOf : Value → Option Nat
  | .pointer (some ⟨b, 0, none⟩) => some b
  | .slice (some ⟨b, 0, none⟩) _ _ => some b
  | .map (some b) => some b
  | _ => none

theorem fillL_length : ∀ {l : List (Nat × Nat × Value)} {cs cs' : List Value}, fillL cs l = some cs' → cs'.length = cs.length
  | [], cs, cs', e => by simp only [fillL, Option.some.injEq] at e; rw [e]
  | (off, size, v) :: rest, cs, cs', e => by
    simp only [fillL] at e
    cases hc : (flatV v && Nat.beq (vcells v).length size && Nat.ble (off + (vcells v).length) cs.length) with
    | false => rw [hc] at e; cases e
    | true =>
      rw [hc] at e
      simp only [cond_true] at e
      simp only [Bool.and_eq_true, nble, decide_eq_true_eq] at hc
      rw [fillL_length e, splice_length hc.2]

theorem SameO.symm {o o' : LObj} (h : SameO o o') : SameO o' o := by
  cases o <;> cases o' <;> simp only [SameO] at h ⊢ <;> first | exact h.symm | skip
  obtain ⟨h1, h2, h3, h4, h5⟩ := h
  exact ⟨h1.symm, h2.symm, h3.symm, h4.symm, fun j hj => (h5 j (by rw [h1, h2]; exact hj)).symm⟩

theorem Holds.new {o : LObj} {b esz cnt : Nat} {vs : List Value} (hh : Holds o b esz cnt vs) : ∀ r, o = .row r → r.cls = b ∧ r.ok := by
  obtain ⟨q, rfl, q1, _, _, q4, _⟩ := hh.row
  intro r hr
  cases hr
  exact ⟨q4, q1⟩

theorem exAlloc_new {E : Env} {P : Program} (EO : EnvOK E P) {h : H} {ρ : Rho} {op : Op} {ob : LObj} {mk : Nat → Value} (e : exAlloc E h ρ op = some (ob, mk)) :
    (∀ r, ob = .row r → r.cls = h.next ∧ r.ok) ∧ ∀ b, numOf (mk b) = some b := by
  cases op with
  | alloc t =>
    simp only [exAlloc] at e
    split at e
    · split at e
      · simp only [Option.some.injEq, Prod.mk.injEq] at e
        obtain ⟨rfl, rfl⟩ := e
        exact ⟨(mkVar_holds _ _ _).new, fun b => rfl⟩
      · cases e
    · cases e
  | box t x =>
    simp only [exAlloc] at e
    split at e
    · rename_i v hv
      cases hf : flatV v with
      | false => rw [hf] at e; cases e
      | true =>
        rw [hf] at e
        simp only [cond_true, Option.some.injEq, Prod.mk.injEq] at e
        obtain ⟨rfl, rfl⟩ := e
        exact ⟨(mkVar_holds _ _ _).new, fun b => rfl⟩
    · cases e
  | buildSlice t n ps =>
    simp only [exAlloc] at e
    split at e
    · rename_i i0 el ht
      split at e
      · rename_i i d hel
        split at e
        · rename_i z l hz hl
          split at e
          · rename_i cs hcs
            cases hc : (Nat.blt 0 i.size && Nat.ble (n * i.size) 1000000) with
            | false => rw [hc] at e; cases e
            | true =>
              rw [hc] at e
              simp only [cond_true] at e
              simp only [Bool.and_eq_true, nblt, decide_eq_true_eq] at hc
              cases hm : mkRow h el i.size n cs with
              | none => rw [hm] at e; cases e
              | some o =>
                rw [hm] at e
                simp only [Option.map_some, Option.some.injEq, Prod.mk.injEq] at e
                obtain ⟨rfl, rfl⟩ := e
                have hlen : cs.length = n * i.size := by rw [fillL_length hcs, replic_length, EO.zsize el i d z hel hz]
                exact ⟨(mkRow_holds hc.1 hlen hm).new, fun b => rfl⟩
          · cases e
        · cases e
      · cases e
    · cases e
  | convert s d x =>
    simp only [exAlloc] at e
    split at e
    · rename_i i0 el s' hd hx
      split at e
      · cases hm : mkRow h _ 1 s'.data.toList.length (s'.data.toList.map fun b => .int .u8 b.toNat) with
        | none => rw [hm] at e; cases e
        | some o =>
          rw [hm] at e
          simp only [Option.map_some, Option.some.injEq, Prod.mk.injEq] at e
          obtain ⟨rfl, rfl⟩ := e
          exact ⟨(mkRow_holds (by omega) (by simp) hm).new, fun b => rfl⟩
      · cases e
    · cases e
  | makeMap t r =>
    cases r with
    | none =>
      simp only [exAlloc, Option.some.injEq, Prod.mk.injEq] at e
      obtain ⟨rfl, rfl⟩ := e
      exact ⟨fun r hr => (by cases hr), fun b => rfl⟩
    | some x =>
      simp only [exAlloc] at e
      split at e
      · simp only [Option.some.injEq, Prod.mk.injEq] at e
        obtain ⟨rfl, rfl⟩ := e
        exact ⟨fun r hr => (by cases hr), fun b => rfl⟩
      · cases e
  | makeSlice t n c =>
    simp only [exAlloc] at e
    split at e
    · rename_i i0 el n' c' ht hn hc'
      split at e
      · rename_i i d hel
        cases hc : (Nat.ble n' c' && Nat.ble c' 1000000 && Nat.blt 0 i.size && Nat.ble i.bytes 1000000) with
        | false => rw [hc] at e; cases e
        | true =>
          rw [hc] at e
          simp only [cond_true] at e
          simp only [Bool.and_eq_true, nblt, decide_eq_true_eq] at hc
          split at e
          · rename_i z hz
            cases hm : mkRow h el i.size c' (replic c' (vcells z) []) with
            | none => rw [hm] at e; cases e
            | some o =>
              rw [hm] at e
              simp only [Option.map_some, Option.some.injEq, Prod.mk.injEq] at e
              obtain ⟨rfl, rfl⟩ := e
              exact ⟨(mkRow_holds hc.1.2 (by rw [replic_length, EO.zsize el i d z hel hz]) hm).new, fun b => rfl⟩
          · cases e
      · cases e
    · cases e
  | _ => cases e
end Go.Lm

/- Regions that draw their order: how far behind the machine may be. -/
namespace Go.Lm

section
variable {ops : Array Oper} {o : Oper} {t t' : T Value} (h : ∀ x ∈ usesOf ops.toList o, t'.get x = t.get x)
include h

theorem uses_rho : ∀ x ∈ o.op.operands.toList, rho t' x = rho t x := by
  intro x hx
  cases x with
  | tmp n =>
    have : n ∈ usesOf ops.toList o := List.mem_append_left _ (by unfold Operand.tmps; exact List.mem_filterMap.2 ⟨.tmp n, hx, rfl⟩)
    simp only [rho, h n this]
  | _ => rfl

theorem uses_wanted : recheck.wantedL t' ops o = recheck.wantedL t ops o := by
  unfold recheck.wantedL
  cases hg : o.guard with
  | none => rfl
  | some g =>
    obtain ⟨j, w⟩ := g
    simp only
    cases hd : (ops[j]?).bind (·.dst) with
    | none => rfl
    | some d =>
      simp only
      rw [h d (List.mem_append_right _ (by rw [hg]; simp only [Array.getElem?_toList, hd]; simp))]
end

/-- an operation that the machine has not done yet: what it will give -/
def LagW (E : Env) (σ : Sig) (lo hi : Nat) (ops : Array Oper) (TL : T Value) (o : Oper) : Prop :=
  ∃ d v, o.dst = some d ∧ TL.get d = some v ∧ ((recheck.wantedL TL ops o = false ∧ v = undefV) ∨ (recheck.wantedL TL ops o = true ∧
    ((kindOf E o.op = .pure ∧ exPure E (rho TL) o.op = some v) ∨ kindOf E o.op = .read ∨ (kindOf E o.op = .alloc ∧ ∃ b, numOf v = some b ∧ lo ≤ b ∧ b < hi ∧ σ b = none))))

/-- what it would give now -/
def LagN (E : Env) (h : H) (ops : Array Oper) (TL : T Value) (o : Oper) : Prop :=
  ∀ d v, o.dst = some d → TL.get d = some v → recheck.wantedL TL ops o = true →
    (kindOf E o.op = .read → exRead E h (rho TL) o.op = some v) ∧
    (kindOf E o.op = .alloc → ∃ b hx ob ob' mk, numOf v = some b ∧ hx.next = b ∧ exAlloc E hx (rho TL) o.op = some (ob', mk) ∧ v = mk b ∧ h.objs.get b = some ob ∧ SameO ob' ob)

theorem LagW.keep {E : Env} {σ σ' : Sig} {lo hi hi' : Nat} {ops : Array Oper} {TL TL' : T Value} {o : Oper} (l : LagW E σ lo hi ops TL o) (hu : ∀ x ∈ usesOf ops.toList o, TL'.get x = TL.get x) (hd : ∀ d, o.dst = some d → TL'.get d = TL.get d)
    (hh : hi ≤ hi') (hs : ∀ b d v, o.dst = some d → TL.get d = some v → kindOf E o.op = .alloc → numOf v = some b → b < hi → σ b = none → σ' b = none) : LagW E σ' lo hi' ops TL' o := by
  obtain ⟨d, v, h1, h2, h3⟩ := l
  refine ⟨d, v, h1, by rw [hd d h1, h2], ?_⟩
  rw [uses_wanted hu]
  rcases h3 with h3 | ⟨h3, h4⟩
  · exact .inl h3
  · refine .inr ⟨h3, ?_⟩
    rcases h4 with ⟨k, e⟩ | k | ⟨k, b, b1, b2, b3, b4⟩
    · exact .inl ⟨k, by rw [exPure_congr _ (uses_rho hu)]; exact e⟩
    · exact .inr (.inl k)
    · exact .inr (.inr ⟨k, b, b1, b2, by omega, hs b d v h1 h2 k b1 b3 b4⟩)

theorem LagN.keep {E : Env} {h h' : H} {ops : Array Oper} {TL TL' : T Value} {o : Oper} (l : LagN E h ops TL o) (hu : ∀ x ∈ usesOf ops.toList o, TL'.get x = TL.get x) (hd : ∀ d, o.dst = some d → TL'.get d = TL.get d)
    (hm : ∀ b ob, h.objs.get b = some ob → h'.objs.get b = some ob) : LagN E h' ops TL' o := by
  intro d v h1 h2 h3
  rw [hd d h1] at h2
  rw [uses_wanted hu] at h3
  obtain ⟨l1, l2⟩ := l d v h1 h2 h3
  refine ⟨fun k => ?_, fun k => ?_⟩
  · rw [exRead_congr _ _ (uses_rho hu)]
    exact exRead_mono hm _ (l1 k)
  · obtain ⟨b, hx, ob, ob', mk, a1, a2, a3, a4, a5, a6⟩ := l2 k
    exact ⟨b, hx, ob, ob', mk, a1, a2, by rw [exAlloc_congr _ _ (uses_rho hu)]; exact a3, a4, hm _ _ a5, a6⟩

/-- The plan has been followed to some operation; the machine has done those of B. -/
structure Draw (E : Env) (σ : Sig) (lo hi : Nat) (hh : Option H) (ops : Array Oper) (all : List PInfo) (done names writes : Nat) (prior : List PInfo) (B : Nat → Prop)
    (rest : List PStep) (todo : List Nat) (TL : T Value) (TP : Array Value) : Prop where
  infos : all = infos E ops.toList 0 ops.toList []
  plan : ∃ f, planGo E f all done names writes prior = some rest
  inv : PInv all done names writes prior
  lin : Lin ops.toList B todo
  closed : ∀ i o, B i → ops.toList[i]? = some o → ∀ k ∈ preOf o, B k
  sub : ∀ i, B i → done.testBit i = true
  effs : ∀ q ∈ prior, q.eff = true → B q.i
  tmps : ∀ x, (∀ q ∈ prior, ¬ B q.i → q.dst.testBit x = false) → TP.getD x undef = phys σ ((TL.get x).getD undefV) ∧ Wf σ ((TL.get x).getD undefV)
  out : ∀ x, TP.size ≤ x → TL.get x = none
  lag : ∀ q ∈ prior, ¬ B q.i → LagW E σ lo hi ops TL q.o
  now : ∀ h, hh = some h → ∀ q ∈ prior, ¬ B q.i → LagN E h ops TL q.o
  apart : ∀ q ∈ prior, ∀ q' ∈ prior, ¬ B q.i → ¬ B q'.i → kindOf E q.o.op = .alloc → kindOf E q'.o.op = .alloc →
    ∀ d d' v v' b, q.o.dst = some d → TL.get d = some v → q'.o.dst = some d' → TL.get d' = some v' → numOf v = some b → numOf v' = some b → q = q'

section
variable {E : Env} {σ : Sig} {lo hi : Nat} {hh : Option H} {ops : Array Oper} {all : List PInfo} {done names writes : Nat} {prior : List PInfo} {B : Nat → Prop} {rest : List PStep} {todo : List Nat} {TL : T Value} {TP : Array Value}

theorem Draw.all_ok (D : Draw E σ lo hi hh ops all done names writes prior B rest todo TL TP) : (all.map (·.i)) = List.range ops.toList.length ∧ (all.map (·.i)).Nodup ∧ ∀ p ∈ all, InfoOK E ops.toList all p := by
  obtain ⟨h1, h2⟩ := infos_all E ops.toList
  rw [← D.infos] at h1 h2
  exact ⟨h1, by rw [h1]; exact List.nodup_range, h2⟩

theorem Draw.anc_B (D : Draw E σ lo hi hh ops all done names writes prior B rest todo TL TP) {p : PInfo} (hp : p ∈ all) (h : ∀ k ∈ preOf p.o, B k) (k : Nat) (hk : p.anc.testBit k = true) : B k := by
  obtain ⟨_, _, hall⟩ := D.all_ok
  exact (hall p hp).anc B (fun x hx hB => D.closed x.i x.o hB (hall x hx).op) h k hk

theorem Draw.lag_free (D : Draw E σ lo hi hh ops all done names writes prior B rest todo TL TP) {q : PInfo} (hq : q ∈ prior) (hB : ¬ B q.i) (hp : ∀ k ∈ preOf q.o, B k) {x : Nat} (hx : x ∈ usesOf ops.toList q.o) :
    ∀ q' ∈ prior, ¬ B q'.i → q'.dst.testBit x = false := by
  obtain ⟨_, hn, hall⟩ := D.all_ok
  intro q' hq' hB'
  have hef : ∀ a ∈ prior, ¬ B a.i → a.eff = false := fun a ha hb => by
    cases he : a.eff with
    | false => rfl
    | true => exact absurd (D.effs a ha he) hb
  cases ht : q'.dst.testBit x with
  | false => rfl
  | true =>
    exfalso
    have hqa := D.inv.sub q hq
    have hux := ((hall q hqa).uses x).2 hx
    by_cases e : q = q'
    · subst e
      have := (D.inv.own q hq (hef q hq hB)).2 x hux
      rw [ht] at this; cases this
    · have hnx : q.names.testBit x = true := by rw [(hall q hqa).names, Nat.testBit_or, hux]; rfl
      have := D.inv.hang q hq q' hq' (hef q' hq' hB') e x ht hnx
      exact hB' (D.anc_B hqa hp _ this)

theorem Draw.head_free (D : Draw E σ lo hi hh ops all done names writes prior B rest todo TL TP) {r : PInfo} (hr : r ∈ all) (hp : ∀ k ∈ preOf r.o, B k) (hin : isIn (r.names &&& writes) r.ancW = true) {x : Nat} (hx : r.names.testBit x = true) :
    ∀ q' ∈ prior, ¬ B q'.i → q'.dst.testBit x = false := by
  obtain ⟨_, hn, hall⟩ := D.all_ok
  intro q' hq' hB'
  cases ht : q'.dst.testBit x with
  | false => rfl
  | true =>
    exfalso
    have hw := D.inv.writes q' hq' x ht
    have := isIn_test hin x (by rw [Nat.testBit_and, hx, hw]; rfl)
    obtain ⟨a, a1, a2, a3⟩ := (hall r hr).ancW x this
    have hBa := D.anc_B hr hp _ a2
    obtain ⟨q, q1, q2⟩ := (D.inv.done _).1 (D.sub _ hBa)
    have hqa : q = a := inj_of_nodup hn (D.inv.sub q q1) a1 q2
    subst hqa
    have := D.inv.uniq q q1 q' hq' x a3 ht
    subst this
    exact hB' hBa

theorem Draw.weak (D : Draw E σ lo hi hh ops all done names writes prior B rest todo TL TP) : Draw E σ lo hi none ops all done names writes prior B rest todo TL TP :=
  { D with now := fun h e => by cases e }

/-- all that was planned has been done when nothing is ready -/
theorem Draw.all_done (D : Draw E σ lo hi hh ops all done names writes prior B rest [] TL TP) : ∀ p ∈ prior, B p.i := by
  obtain ⟨_, hn, hall⟩ := D.all_ok
  have key : ∀ l : List PInfo, (∀ p ∈ l, p ∈ prior) → Ordered l → ∀ p ∈ l, B p.i := by
    intro l
    induction l with
    | nil => intro _ _ p hp; cases hp
    | cons a l ih =>
      intro hs ho p hp
      have ih' := ih (fun p hp => hs p (by simp [hp])) ho.2
      rcases List.mem_cons.1 hp with rfl | hp
      · refine D.lin p.i p.o (hall p (D.inv.sub p (hs p (by simp)))).op fun k hk => ?_
        obtain ⟨q, h1, h2⟩ := ho.1 k hk
        rw [← h2]; exact ih' q h1
      · exact ih' p hp
  exact key prior (fun _ h => h) D.inv.ordered

/-- an operation that only gives a value: the plan goes on, the machine has not done it -/
theorem Draw.add {h h' : H} {s : PStep} (D : Draw E σ lo hi (some h) ops all done names writes prior B (s :: rest) todo TL TP) {p : PInfo} (hp : p ∈ Lm.ready done all) (he : p.eff = false) (hud : (p.uses &&& p.dst == 0) = true)
    (hin : isIn (p.names &&& writes) p.ancW = true) (hdn : (p.dst &&& names == 0) = true) {f' : Nat} (hplan : planGo E f' all (done ||| bit p.i) (names ||| p.names) (writes ||| p.dst) (p :: prior) = some rest)
    {d : Nat} (hd : p.o.dst = some d) (hds : d < TP.size) {v : Value} {hi' : Nat} (hhi : hi ≤ hi') (hm : ∀ b ob, h.objs.get b = some ob → h'.objs.get b = some ob)
    (hW : LagW E σ lo hi' ops (TL.set d (some v)) p.o) (hN : LagN E h' ops (TL.set d (some v)) p.o) (hnew : ∀ b, kindOf E p.o.op = .alloc → numOf v = some b → hi ≤ b) :
    Draw E σ lo hi' (some h') ops all (done ||| bit p.i) (names ||| p.names) (writes ||| p.dst) (p :: prior) B rest todo (TL.set d (some v)) TP := by
  obtain ⟨_, hn, hall⟩ := D.all_ok
  obtain ⟨p1, p2, p3⟩ := mem_ready'.1 hp
  have hBp : ¬ B p.i := fun hb => by have := D.sub _ hb; rw [p2] at this; cases this
  have hdb : p.dst.testBit d = true := ((hall p p1).dst d).2 hd
  have hfar : ∀ q ∈ prior, q.names.testBit d = false := fun q hq => by
    cases ht : q.names.testBit d with
    | false => rfl
    | true =>
      have := D.inv.names q hq d ht
      rw [and_zero_test hdn d hdb] at this; cases this
  have huse : ∀ q ∈ prior, ∀ x ∈ usesOf ops.toList q.o, (TL.set d (some v)).get x = TL.get x := fun q hq x hx => by
    refine T.get_set_ne _ _ fun e => ?_
    subst e
    have hqa := D.inv.sub q hq
    have := hfar q hq
    rw [(hall q hqa).names, Nat.testBit_or, ((hall q hqa).uses x).2 hx] at this; cases this
  have hdst : ∀ q ∈ prior, ∀ x, q.o.dst = some x → (TL.set d (some v)).get x = TL.get x := fun q hq x hx => by
    refine T.get_set_ne _ _ fun e => ?_
    subst e
    have hqa := D.inv.sub q hq
    have := hfar q hq
    rw [(hall q hqa).names, Nat.testBit_or, ((hall q hqa).dst x).2 hx, Bool.or_true] at this; cases this
  have hinv := D.inv.add hall hn hp hin (fun q hq k hk => by
      cases ht : q.dst.testBit k with
      | false => rfl
      | true =>
        have hqa := D.inv.sub q hq
        have := D.inv.names q hq k (by rw [(hall q hqa).names, Nat.testBit_or, ht, Bool.or_true])
        rw [and_zero_test hdn k hk] at this; cases this)
    (fun _ q hq k hk => by
      cases ht : q.names.testBit k with
      | false => rfl
      | true =>
        have := D.inv.names q hq k ht
        rw [and_zero_test hdn k hk] at this; cases this)
    (fun _ => ⟨⟨d, hd⟩, fun k hk => and_zero_test hud k hk⟩)
  refine ⟨D.infos, ⟨f', hplan⟩, hinv, D.lin, D.closed, fun i hi => ?_, fun q hq hqe => ?_, fun x hx => ?_, fun x hx => ?_, fun q hq hB => ?_, fun h2 e2 q hq hB => ?_, fun q hq q' hq' hB hB' hk hk' => ?_⟩
  · rw [Nat.testBit_or, D.sub i hi]; rfl
  · rcases List.mem_cons.1 hq with rfl | hq
    · rw [he] at hqe; cases hqe
    · exact D.effs q hq hqe
  · have hxd : x ≠ d := fun e => by
      have := hx p (by simp) hBp
      rw [e, hdb] at this; cases this
    rw [T.get_set_ne _ _ hxd]
    exact D.tmps x fun q hq => hx q (by simp [hq])
  · rw [T.get_set_ne _ _ (by omega)]
    exact D.out x hx
  · rcases List.mem_cons.1 hq with rfl | hq
    · exact hW
    · exact (D.lag q hq hB).keep (huse q hq) (hdst q hq) hhi (fun b d v _ _ _ _ _ h => h)
  · cases e2
    rcases List.mem_cons.1 hq with rfl | hq
    · exact hN
    · exact (D.now h rfl q hq hB).keep (huse q hq) (hdst q hq) hm
  · intro d1 d2 v1 v2 b e1 t1 e2 t2 n1 n2
    have small : ∀ q ∈ prior, ¬ B q.i → kindOf E q.o.op = .alloc → ∀ d1 v1 b, q.o.dst = some d1 → TL.get d1 = some v1 → numOf v1 = some b → b < hi := fun q hq hB hk d1 v1 b e1 t1 n1 => by
      obtain ⟨d', v', l1, l2, l3⟩ := D.lag q hq hB
      rw [e1] at l1; cases l1
      rw [t1] at l2; cases l2
      rcases l3 with ⟨_, rfl⟩ | ⟨_, ⟨k, _⟩ | k | ⟨_, b', b1, _, b3, _⟩⟩
      · cases n1
      · rw [hk] at k; cases k
      · rw [hk] at k; cases k
      · rw [n1] at b1; cases b1; exact b3
    rcases List.mem_cons.1 hq with eq | hq1 <;> rcases List.mem_cons.1 hq' with eq' | hq2
    · rw [eq, eq']
    · exfalso
      subst eq
      rw [hdst q' hq2 _ e2] at t2
      have := small q' hq2 hB' hk' d2 v2 b e2 t2 n2
      rw [hd] at e1; cases e1
      rw [T.get_set_same] at t1; cases t1
      have := hnew b hk n1
      omega
    · exfalso
      subst eq'
      rw [hdst q hq1 _ e1] at t1
      have := small q hq1 hB hk d1 v1 b e1 t1 n1
      rw [hd] at e2; cases e2
      rw [T.get_set_same] at t2; cases t2
      have := hnew b hk' n2
      omega
    · rw [hdst q hq1 _ e1] at t1
      rw [hdst q' hq2 _ e2] at t2
      exact D.apart q hq1 q' hq2 hB hB' hk hk' d1 d2 v1 v2 b e1 t1 e2 t2 n1 n2

theorem getD_setIf {a : Array Value} {d x : Nat} {v : Value} (h : x ≠ d) : (a.setIfInBounds d v).getD x undef = a.getD x undef := by
  rw [Array.getD_eq_getD_getElem?, Array.getD_eq_getD_getElem?, Array.getElem?_setIfInBounds_ne (Ne.symm h)]

/-- the machine does what it had not done -/
theorem Draw.catch {i : Nat} (D : Draw E σ lo hi hh ops all done names writes prior B rest (i :: todo) TL TP) {q : PInfo} (hq : q ∈ prior) (hqi : q.i = i) {d : Nat} {v : Value} (hd : q.o.dst = some d) (hv : TL.get d = some v)
    {σ' : Sig} (hle : σ.Le σ') (hnone : ∀ b, σ b = none → ¬ (kindOf E q.o.op = .alloc ∧ numOf v = some b) → σ' b = none) (hwf : Wf σ' v) :
    Draw E σ' lo hi hh ops all done names writes prior (fun k => B k ∨ k = i) rest todo TL (TP.setIfInBounds d (phys σ' v)) := by
  obtain ⟨_, hn, hall⟩ := D.all_ok
  obtain ⟨hBi, ⟨o, ho, hpre⟩, hlin⟩ := D.lin
  have hqa := D.inv.sub q hq
  have hoq : o = q.o := by
    have := (hall q hqa).op
    rw [hqi, ho] at this; exact Option.some.inj this
  subst hoq
  have hds : d < TP.size := by
    rcases Nat.lt_or_ge d TP.size with h | h
    · exact h
    · rw [D.out d h] at hv; cases hv
  refine ⟨D.infos, D.plan, D.inv, hlin, fun k o' hk ho' => ?_, fun k hk => ?_, fun q' hq' he => .inl (D.effs q' hq' he), fun x hx => ?_, fun x hx => D.out x (by simpa using hx), fun q' hq' hB => ?_, fun h e q' hq' hB => D.now h e q' hq' (fun hb => hB (.inl hb)), fun a ha b hb hBa hBb => D.apart a ha b hb (fun h => hBa (.inl h)) (fun h => hBb (.inl h))⟩
  · rcases hk with hk | rfl
    · exact fun k' hk' => .inl (D.closed k o' hk ho' k' hk')
    · rw [ho] at ho'; cases ho'
      exact fun k' hk' => .inl (hpre k' hk')
  · rcases hk with hk | rfl
    · exact D.sub k hk
    · exact (D.inv.done _).2 ⟨q, hq, hqi⟩
  · by_cases e : x = d
    · subst e
      rw [hv]
      refine ⟨?_, hwf⟩
      simp [Array.getD, hds]
    · rw [getD_setIf e]
      have := D.tmps x fun q' hq' hB => by
        by_cases e2 : q'.i = i
        · have : q' = q := inj_of_nodup hn (D.inv.sub q' hq') hqa (e2.trans hqi.symm)
          subst this
          cases ht : q'.dst.testBit x with
          | false => rfl
          | true =>
            have := ((hall q' hqa).dst x).1 ht
            rw [hd] at this; cases this; exact absurd rfl e
        · exact hx q' hq' (fun h => h.elim hB e2)
      exact ⟨by rw [this.1, phys_le hle this.2], this.2.le hle⟩
  · have hB' : ¬ B q'.i := fun h => hB (.inl h)
    refine (D.lag q' hq' hB').keep (fun _ _ => rfl) (fun _ _ => rfl) (Nat.le_refl _) (fun b d' v' e1 e2 k n1 _ hs => hnone b hs fun ⟨k2, n2⟩ => ?_)
    have := D.apart q' hq' q hq hB' (by rw [hqi]; exact hBi) k k2 d' d v' v b e1 e2 hd hv n1 n2
    subst this
    exact hB (.inr hqi)

/-- an operation that acts has been done by both -/
theorem Draw.fin {s : PStep} {r : PInfo} (D : Draw E σ lo hi hh ops all done names writes prior B (s :: rest) (r.i :: todo) TL TP) (hr : Lm.ready done all = [r]) (he : r.eff = true) (hin : isIn (r.names &&& writes) r.ancW = true)
    (hdw : (r.dst &&& writes == 0) = true) (hpr : ∀ q ∈ prior, Nat.testBit r.anc q.i = true ∨ (q.names &&& r.dst == 0) = true) {f' : Nat} (hplan : planGo E f' all (done ||| bit r.i) (names ||| r.names) (writes ||| r.dst) (r :: prior) = some rest)
    {σ' : Sig} {hi' : Nat} {hh' : Option H} {TL' : T Value} {TP' : Array Value} (hle : σ.Le σ') (hkeep : ∀ b, b < hi → σ b = none → σ' b = none) (hhi : hi ≤ hi') (hsz : TP'.size = TP.size)
    (hT : ∀ x, r.dst.testBit x = false → TL'.get x = TL.get x ∧ TP'.getD x undef = TP.getD x undef)
    (hdd : ∀ x, r.dst.testBit x = true → TP'.getD x undef = phys σ' ((TL'.get x).getD undefV) ∧ Wf σ' ((TL'.get x).getD undefV)) (hout : ∀ x, TP.size ≤ x → TL'.get x = none)
    (hnow : ∀ h, hh' = some h → ∀ q ∈ prior, ¬ B q.i → r.anc.testBit q.i = false → LagN E h ops TL' q.o) :
    Draw E σ' lo hi' hh' ops all (done ||| bit r.i) (names ||| r.names) (writes ||| r.dst) (r :: prior) (fun k => B k ∨ k = r.i) rest todo TL' TP' := by
  obtain ⟨_, hn, hall⟩ := D.all_ok
  have hrr : r ∈ Lm.ready done all := by rw [hr]; simp
  obtain ⟨r1, r2, r3⟩ := mem_ready'.1 hrr
  obtain ⟨hBr, ⟨o, ho, hpre⟩, hlin⟩ := D.lin
  have hor : o = r.o := by
    have := (hall r r1).op
    rw [ho] at this; exact Option.some.inj this
  subst hor
  have hanc : ∀ q ∈ prior, ¬ B q.i → r.anc.testBit q.i = false := fun q hq hB => by
    cases ht : r.anc.testBit q.i with
    | false => rfl
    | true => exact absurd (D.anc_B r1 hpre _ ht) hB
  have hfar : ∀ q ∈ prior, ¬ B q.i → ∀ k, q.names.testBit k = true → r.dst.testBit k = false := fun q hq hB k hk => by
    rcases hpr q hq with h | h
    · rw [hanc q hq hB] at h; cases h
    · exact and_zero_test h k hk
  have huse : ∀ q ∈ prior, ¬ B q.i → ∀ x ∈ usesOf ops.toList q.o, TL'.get x = TL.get x := fun q hq hB x hx => (hT x (hfar q hq hB x (by
    have hqa := D.inv.sub q hq
    rw [(hall q hqa).names, Nat.testBit_or, ((hall q hqa).uses x).2 hx]; rfl))).1
  have hdst : ∀ q ∈ prior, ¬ B q.i → ∀ x, q.o.dst = some x → TL'.get x = TL.get x := fun q hq hB x hx => (hT x (hfar q hq hB x (by
    have hqa := D.inv.sub q hq
    rw [(hall q hqa).names, Nat.testBit_or, ((hall q hqa).dst x).2 hx, Bool.or_true]))).1
  have hinv := D.inv.add hall hn hrr hin (fun q hq k hk => by
      cases ht : q.dst.testBit k with
      | false => rfl
      | true =>
        have := D.inv.writes q hq k ht
        rw [and_zero_test hdw k hk] at this; cases this)
    (fun h => by rw [he] at h; cases h) (fun h => by rw [he] at h; cases h)
  have hcase : ∀ q ∈ r :: prior, ¬ (B q.i ∨ q.i = r.i) → q ∈ prior ∧ ¬ B q.i := fun q hq hB => by
    rcases List.mem_cons.1 hq with rfl | hq
    · exact absurd (.inr rfl) hB
    · exact ⟨hq, fun h => hB (.inl h)⟩
  refine ⟨D.infos, ⟨f', hplan⟩, hinv, hlin, fun k o' hk ho' => ?_, fun k hk => ?_, fun q hq hqe => ?_, fun x hx => ?_, fun x hx => hout x (by omega), fun q hq hB => ?_, fun h e q hq hB => ?_, fun q hq q' hq' hB hB' hk hk' d1 d2 v1 v2 b e1 t1 e2 t2 n1 n2 => ?_⟩
  · rcases hk with hk | rfl
    · exact fun k' hk' => .inl (D.closed k o' hk ho' k' hk')
    · rw [ho] at ho'; cases ho'
      exact fun k' hk' => .inl (hpre k' hk')
  · rw [Nat.testBit_or, bit_test, Bool.or_eq_true, decide_eq_true_eq]
    rcases hk with hk | rfl
    · exact .inl (D.sub k hk)
    · exact .inr rfl
  · rcases List.mem_cons.1 hq with rfl | hq
    · exact .inr rfl
    · exact .inl (D.effs q hq hqe)
  · cases hrx : r.dst.testBit x with
    | true => exact hdd x hrx
    | false =>
      obtain ⟨t1, t2⟩ := hT x hrx
      have := D.tmps x fun q hq hB => by
        by_cases e : q.i = r.i
        · have : q = r := inj_of_nodup hn (D.inv.sub q hq) r1 e
          rw [this]; exact hrx
        · exact hx q (by simp [hq]) (fun h => h.elim hB e)
      rw [t1, t2]
      exact ⟨by rw [this.1, phys_le hle this.2], this.2.le hle⟩
  · obtain ⟨hq', hB'⟩ := hcase q hq hB
    exact (D.lag q hq' hB').keep (huse q hq' hB') (hdst q hq' hB') hhi (fun b _ _ _ _ _ _ hb hs => hkeep b hb hs)
  · obtain ⟨hq', hB'⟩ := hcase q hq hB
    exact hnow h e q hq' hB' (hanc q hq' hB')
  · obtain ⟨p1, p2⟩ := hcase q hq hB
    obtain ⟨p3, p4⟩ := hcase q' hq' hB'
    rw [hdst q p1 p2 _ e1] at t1
    rw [hdst q' p3 p4 _ e2] at t2
    exact D.apart q p1 q' p3 p2 p4 hk hk' d1 d2 v1 v2 b e1 t1 e2 t2 n1 n2

/-- more places -/
theorem Draw.grow (D : Draw E σ lo hi none ops all done names writes prior B rest todo TL TP) {n : Nat} {σ' : Sig} (g : Grow n σ σ') (hn : hi ≤ n) : Draw E σ' lo hi none ops all done names writes prior B rest todo TL TP :=
  { D with
    tmps := fun x hx => by
      have := D.tmps x hx
      exact ⟨by rw [this.1, phys_le g.le this.2], this.2.le g.le⟩
    lag := fun q hq hB => (D.lag q hq hB).keep (fun _ _ => rfl) (fun _ _ => rfl) (Nat.le_refl _) (fun b _ _ _ _ _ _ hb hs => by rw [g.same b (by omega)]; exact hs)
    now := fun h e => by cases e }
end
end Go.Lm

/- Steps of the machine. -/
namespace Go.Lm

def gor (fr : Frame) (cs : List Frame) : Goroutine := { frame := fr, callers := cs, status := .running, dying := none }

section
variable {P : Program} {fr : Frame} {cs : List Frame} {w w' : World}

theorem st_go {fr' : Frame} {cs' : List Frame} (h : (stepG P true (gor fr cs) w).bare = .go (gor fr' cs') w') : step P (lone fr cs w) = .next (lone fr' cs' w') := step_lone_go h

theorem st_oper {ops : Array Oper} {i : Nat} {rest : List Nat} {k : List Item} {o : Oper} (hm : fr.mode = .run) (ht : fr.todo = .inRegion ops (i :: rest) :: k) (ho : ops[i]? = some o) (hw : Region.wanted o (yielded ops fr.tmps) = true)
    (hd : fr.roundOf = none ∨ ∀ c, o.op ≠ .defer c) : stepG P true (gor fr cs) w = stepG.apply P true fr cs none (execOp fr.eval o) w := by
  have h1 : fr.oper? = some o := by simp [Frame.oper?, ht, ho]
  have h2 : stepG P true (gor fr cs) w = stepG.oper P true fr cs none w := by
    simp [stepG, gor, hm, stepG.exec, ht, ho, hw]
  rw [h2]
  simp only [stepG.oper, h1]
  cases hr : fr.roundOf with
  | none => rfl
  | some l =>
    rcases hd with hd | hd
    · rw [hr] at hd; cases hd
    · cases ho' : o.op <;> first | rfl | exact absurd ho' (hd _)

theorem st_skip {ops : Array Oper} {i : Nat} {rest : List Nat} {k : List Item} {o : Oper} (hm : fr.mode = .run) (ht : fr.todo = .inRegion ops (i :: rest) :: k) (ho : ops[i]? = some o) (hw : Region.wanted o (yielded ops fr.tmps) = false) :
    step P (lone fr cs w) = .next (lone (fr.finish undef) cs w) := by
  refine st_go ?_
  simp [stepG, gor, hm, stepG.exec, ht, ho, hw]

variable {s : Sem Go.Next}
theorem ap_value {v : Value} (h : s.run P w = .ok (.value v) w') : (stepG.apply P true fr cs none s w).bare = .go (gor (fr.finish v) cs) w' := by
  simp [stepG.apply, h, gor]
theorem ap_skip (h : s.run P w = .ok .skip w') : (stepG.apply P true fr cs none s w).bare = .go (gor (fr.finish undef) cs) w' := by
  simp [stepG.apply, h, gor]
theorem ap_enter {f : FuncId} {args : Array Value} (h : s.run P w = .ok (.enter f args) w') (hk : ∀ d a b k, fr.todo ≠ .call d true a b :: k) : (stepG.apply P true fr cs none s w).bare = .go (gor (Frame.enter P f args .normal) (fr :: cs)) w' := by
  have : (match fr.todo with | .call _ true _ _ :: _ => CallKind.wrapped | _ => .normal) = .normal := by
    split
    · rename_i heq; exact absurd heq (hk _ _ _ _)
    · rfl
  simp only [stepG.apply, Sem.runT_eq, if_true, h, GStep.bare_after, this]
  rfl
theorem ap_round {l : Nat} {f : FuncId} {tmps : Array Value} {a b : Code} (h : s.run P w = .ok (.round l f tmps a b) w') : (stepG.apply P true fr cs none s w).bare = .go (gor (Frame.round l f tmps a b .normal) (fr :: cs)) w' := by
  simp [stepG.apply, h, gor]
theorem ap_defer {d : Deferred} (h : s.run P w = .ok (.defer d) w') : (stepG.apply P true fr cs none s w).bare = .go (gor ({ fr with defers := d :: fr.defers }.finish undef) cs) w' := by
  simp [stepG.apply, h, gor]
theorem ap_panic {v : Value} (h : s.run P w = .halt (.panic v) w') : (stepG.apply P true fr cs none s w).bare = .go (gor (fr.raise [{ v, recovered := false }]) cs) w' := by
  simp [stepG.apply, h, gor]
theorem ap_recover_some {v : Value} {cs' : List Frame} (hf : P.follows .rangeFuncRecover = true) (h : s.run P w = .ok .recover w') (hr : tryRecover fr cs = some (v, cs')) : (stepG.apply P true fr cs none s w).bare = .go (gor (fr.finish v) cs') w' := by
  cases hro : fr.roundOf <;> simp [stepG.apply, h, hro, hf, hr, gor]
theorem ap_recover_none (hf : P.follows .rangeFuncRecover = true) (h : s.run P w = .ok .recover w') (hr : tryRecover fr cs = none) : (stepG.apply P true fr cs none s w).bare = .go (gor (fr.finish .nilIface) cs) w' := by
  cases hro : fr.roundOf <;> simp [stepG.apply, h, hro, hf, hr, gor]
end
end Go.Lm

/- Frames of the two machines. -/
namespace Go.Lm

def physItem (σ : Sig) : LItem → Item
  | .code c => .code c
  | .inBlock id => .inBlock id
  | .inLoop b => .inLoop b
  | .inScope b => .inScope b
  | .ops ops _ rest => .inRegion ops (rest.map (·.i))
  | .inRangeFunc l => .inRangeFunc (σ.blk l)
  | .endRangeFunc l => .endRangeFunc (σ.blk l)
  | .beginRound => .beginRound

inductive WfItem (σ : Sig) : LItem → Prop
  | code (c : Code) : WfItem σ (.code c)
  | inBlock (id : Nat) : WfItem σ (.inBlock id)
  | inLoop (b : Code) : WfItem σ (.inLoop b)
  | inScope (b : Code) : WfItem σ (.inScope b)
  | ops (ops : Array Oper) (rest : List PStep) (h : ∀ p ∈ rest, ops[p.i]? = some p.o) : WfItem σ (.ops ops false rest)
  | inRangeFunc (l : Nat) (p : Place) (h : σ l = some p) : WfItem σ (.inRangeFunc l)
  | endRangeFunc (l : Nat) (p : Place) (h : σ l = some p) : WfItem σ (.endRangeFunc l)
  | beginRound : WfItem σ .beginRound

theorem WfItem.le {σ τ : Sig} (h : σ.Le τ) {it : LItem} (w : WfItem σ it) : WfItem τ it := by
  cases w with
  | code c => exact .code c
  | inBlock id => exact .inBlock id
  | inLoop b => exact .inLoop b
  | inScope b => exact .inScope b
  | ops ops rest h => exact .ops ops rest h
  | inRangeFunc l p e => exact .inRangeFunc l p (h _ _ e)
  | endRangeFunc l p e => exact .endRangeFunc l p (h _ _ e)
  | beginRound => exact .beginRound

theorem physItem_le {σ τ : Sig} (h : σ.Le τ) {it : LItem} (w : WfItem σ it) : physItem τ it = physItem σ it := by
  cases w with
  | inRangeFunc l p e => simp [physItem, h.blk e]
  | endRangeFunc l p e => simp [physItem, h.blk e]
  | _ => rfl

theorem physItems_le {σ τ : Sig} (h : σ.Le τ) {l : List LItem} (w : ∀ it ∈ l, WfItem σ it) : l.map (physItem τ) = l.map (physItem σ) :=
  List.map_congr_left fun it hit => physItem_le h (w it hit)

def physP (σ : Sig) (e : PanicEntry) : PanicEntry := { e with v := phys σ e.v }

def physMode (σ : Sig) : FrameMode → FrameMode
  | .panicking chain => .panicking (chain.map (physP σ))
  | m => m

def WfMode (σ : Sig) : FrameMode → Prop
  | .panicking chain => ∀ e ∈ chain, Wf σ e.v
  | _ => True

theorem WfMode.le {σ τ : Sig} (h : σ.Le τ) {m : FrameMode} (w : WfMode σ m) : WfMode τ m := by
  cases m with
  | panicking c => exact fun e he => (w e he).le h
  | _ => trivial

theorem physMode_le {σ τ : Sig} (h : σ.Le τ) {m : FrameMode} (w : WfMode σ m) : physMode τ m = physMode σ m := by
  cases m with
  | panicking c =>
    simp only [physMode]
    congr 1
    exact List.map_congr_left fun e he => by simp only [physP]; rw [phys_le h (w e he)]
  | _ => rfl

structure FB (σ : Sig) (f : LF) (fr : Frame) : Prop where
  fn : fr.fn = f.fn
  kind : fr.kind = f.kind
  mode : fr.mode = physMode σ f.mode
  wmode : WfMode σ f.mode
  rnd : fr.roundOf = f.roundOf.map σ.blk
  wrnd : ∀ l, f.roundOf = some l → ∃ p, σ l = some p
  defers : fr.defers = f.defers.map (physD σ)
  wdefers : ∀ d ∈ f.defers, WfD σ d
  kinds : f.kind = .normal ∨ f.kind = .deferred

theorem FB.le {σ τ : Sig} (h : σ.Le τ) {f : LF} {fr : Frame} (b : FB σ f fr) : FB τ f fr :=
  ⟨b.fn, b.kind, by rw [b.mode, physMode_le h b.wmode], b.wmode.le h, by
    rw [b.rnd]
    cases hr : f.roundOf with
    | none => rfl
    | some l => obtain ⟨p, hp⟩ := b.wrnd l hr; simp [h.blk hp], fun l hl => by obtain ⟨p, hp⟩ := b.wrnd l hl; exact ⟨p, h _ _ hp⟩,
    by rw [b.defers]; exact List.map_congr_left fun d hd => (physD_le h (b.wdefers d hd)).symm, fun d hd => (b.wdefers d hd).le h, b.kinds⟩

structure FPlain (σ : Sig) (f : LF) (fr : Frame) : Prop where
  tmps : TmpRel σ f.tmps fr.tmps
  size : fr.tmps.size = f.nt
  todo : fr.todo = f.todo.map (physItem σ)
  wtodo : ∀ it ∈ f.todo, WfItem σ it

theorem FPlain.le {σ τ : Sig} (h : σ.Le τ) {f : LF} {fr : Frame} (b : FPlain σ f fr) : FPlain τ f fr :=
  ⟨b.tmps.le h, b.size, by rw [b.todo, physItems_le h b.wtodo], fun it hit => (b.wtodo it hit).le h⟩

structure FDraw (E : Env) (σ : Sig) (lo hi : Nat) (hh : Option H) (f : LF) (fr : Frame) (ops : Array Oper) (rest : List PStep) (td : List Nat) (k : List LItem)
    (all : List PInfo) (done names writes : Nat) (prior : List PInfo) (B : Nat → Prop) : Prop where
  ftodo : f.todo = .ops ops true rest :: k
  todo : fr.todo = .inRegion ops td :: k.map (physItem σ)
  wk : ∀ it ∈ k, WfItem σ it
  size : fr.tmps.size = f.nt
  draw : Draw E σ lo hi hh ops all done names writes prior B rest td f.tmps fr.tmps

def FTop (E : Env) (σ : Sig) (lo hi : Nat) (h : H) (f : LF) (fr : Frame) : Prop :=
  FB σ f fr ∧ (FPlain σ f fr ∨ f.mode = .run ∧ ∃ ops rest todo k all done names writes prior B, FDraw E σ lo hi (some h) f fr ops rest todo k all done names writes prior B)

/-- a frame whose operation is under way -/
def FSus (E : Env) (σ : Sig) (lo hi : Nat) (f : LF) (fr : Frame) : Prop :=
  FB σ f fr ∧ (FPlain σ f fr ∨ f.mode = .run ∧ ∃ ops s rest t k all done names writes prior B, kindOf E s.o.op = .eff ∧ FDraw E σ lo hi none f fr ops (s :: rest) (s.i :: t) k all done names writes prior B)

theorem FSus.grow {E : Env} {σ σ' : Sig} {lo hi n : Nat} {f : LF} {fr : Frame} (s : FSus E σ lo hi f fr) (g : Grow n σ σ') (hn : hi ≤ n) : FSus E σ' lo hi f fr := by
  obtain ⟨b, s⟩ := s
  refine ⟨b.le g.le, ?_⟩
  rcases s with s | ⟨hmode, ops, s, rest, t, k, all, done, names, writes, prior, B, he, d⟩
  · exact .inl (s.le g.le)
  · exact .inr ⟨hmode, ops, s, rest, t, k, all, done, names, writes, prior, B, he, d.ftodo, by rw [d.todo, physItems_le g.le d.wk], fun it hit => (d.wk it hit).le g.le, d.size, d.draw.grow g hn⟩

/-- all that is under way -/
def Susp (E : Env) (σ : Sig) : Nat → List LF → List Frame → Prop
  | _, [], [] => True
  | n, f :: cs, fr :: crs => ∃ m, m ≤ n ∧ FSus E σ m n f fr ∧ Susp E σ m cs crs
  | _, _, _ => False

theorem Susp.grow {E : Env} {σ σ' : Sig} : ∀ {cs : List LF} {crs : List Frame} {n n' : Nat}, Susp E σ n cs crs → Grow n' σ σ' → n ≤ n' → Susp E σ' n cs crs
  | [], [], n, n', _, _, _ => trivial
  | f :: cs, fr :: crs, n, n', ⟨m, h1, h2, h3⟩, g, hn => ⟨m, h1, h2.grow g hn, Susp.grow h3 g (by omega)⟩
  | [], _ :: _, _, _, s, _, _ => s.elim
  | _ :: _, [], _, _, s, _, _ => s.elim

/-- the two machines -/
def Rel (E : Env) (N0 : Nat) (w0 : World) (s : LS) (fr : Frame) (crs : List Frame) (w : World) : Prop :=
  ∃ σ n, HRel N0 w0 σ s.h w ∧ n ≤ s.h.next ∧ FTop E σ n s.h.next s.h s.f fr ∧ Susp E σ n s.cs crs

theorem Grow.less {n m : Nat} {σ τ : Sig} (g : Grow n σ τ) (h : m ≤ n) : Grow m σ τ := ⟨g.le, fun b hb => g.same b (by omega)⟩

theorem recheck_sound {E : Env} {h : H} {t : T Value} {ops : Array Oper} : ∀ {l : List Nat}, recheck E h t ops l = true → ∀ i ∈ l, ∀ o, ops[i]? = some o → ∀ d v, o.dst = some d → t.get d = some v → recheck.wantedL t ops o = true →
    (kindOf E o.op = .read → ∃ v', exRead E h (rho t) o.op = some v' ∧ sameVal 10 v v' = true) ∧
    (kindOf E o.op = .alloc → ∃ b ob ob' mk, numOf v = some b ∧ h.objs.get b = some ob ∧ exAlloc E { h with next := b } (rho t) o.op = some (ob', mk) ∧ recheck.sameObj ob ob' = true ∧ sameVal 10 v (mk b) = true)
  | [], _, i, hi, _, _, _, _, _, _, _ => by cases hi
  | j :: l, e, i, hi, o, ho, d, v, hd, hv, hw => by
    unfold recheck at e
    cases hj : ops[j]? with
    | none => rw [hj] at e; cases e
    | some oj =>
      rw [hj] at e
      simp only [Bool.and_eq_true] at e
      obtain ⟨e1, e2⟩ := e
      rcases List.mem_cons.1 hi with rfl | hi
      · rw [ho] at hj; cases hj
        rw [hw] at e1
        simp only [cond_true, hd, hv] at e1
        refine ⟨fun k => ?_, fun k => ?_⟩
        · rw [k] at e1
          simp only at e1
          split at e1
          · rename_i v' hr; exact ⟨v', hr, e1⟩
          · cases e1
        · rw [k] at e1
          simp only at e1
          split at e1
          · rename_i b
            split at e1
            · rename_i ob ob' mk h1 h2
              rw [Bool.and_eq_true] at e1
              exact ⟨b, ob, ob', mk, rfl, h1, h2, e1.1, e1.2⟩
            · cases e1
          · rename_i b _ _
            split at e1
            · rename_i ob ob' mk h1 h2
              rw [Bool.and_eq_true] at e1
              exact ⟨b, ob, ob', mk, rfl, h1, h2, e1.1, e1.2⟩
            · cases e1
          · rename_i b
            split at e1
            · rename_i ob ob' mk h1 h2
              rw [Bool.and_eq_true] at e1
              exact ⟨b, ob, ob', mk, rfl, h1, h2, e1.1, e1.2⟩
            · cases e1
          · cases e1
      · exact recheck_sound e2 i hi o ho d v hd hv hw

theorem fin_some {f f' : LF} {v : Value} {ops : Array Oper} {dr : Bool} {p : PStep} {rest : List PStep} {k : List LItem} (ht : f.todo = .ops ops dr (p :: rest) :: k) (e : f.fin v = some f') :
    (∃ d, p.o.dst = some d ∧ d < f.nt ∧ f' = { f with tmps := f.tmps.set d (some v), todo := .ops ops dr rest :: k }) ∨ (p.o.dst = none ∧ f' = { f with todo := .ops ops dr rest :: k }) := by
  unfold LF.fin at e
  rw [ht] at e
  simp only at e
  cases hd : p.o.dst with
  | none =>
    rw [hd] at e
    simp only [Option.some.injEq] at e
    exact .inr ⟨rfl, e.symm⟩
  | some d =>
    rw [hd] at e
    simp only at e
    cases hc : Nat.blt d f.nt with
    | false => rw [hc] at e; cases e
    | true =>
      rw [hc] at e
      simp only [cond_true, Option.some.injEq] at e
      rw [nblt] at hc
      exact .inl ⟨d, rfl, by simpa using hc, e.symm⟩

section
variable {E : Env} {P : Program} (EO : EnvOK E P) {σ : Sig} {N0 : Nat} {w0 w : World} {h : H}

/-- an operation has ended with a value: no drawn region -/
theorem fin_plain {f f' : LF} {fr : Frame} {v : Value} (hb : FB σ f fr) (hp : FPlain σ f fr) (hv : Wf σ v) (e : f.fin v = some f') : FB σ f' (fr.finish (phys σ v)) ∧ FPlain σ f' (fr.finish (phys σ v)) := by
  obtain ⟨t1, t2, t3, t4⟩ := hp
  cases htd : f.todo with
  | nil => unfold LF.fin at e; rw [htd] at e; cases e
  | cons it k =>
    have hwk : ∀ it ∈ k, WfItem σ it := fun x hx => t4 x (by rw [htd]; simp [hx])
    have hwi := t4 it (by rw [htd]; simp)
    rw [htd, List.map_cons] at t3
    cases it with
    | ops ops dr l =>
      cases l with
      | nil => unfold LF.fin at e; rw [htd] at e; cases e
      | cons p rest =>
        cases hwi with
        | ops _ _ hops =>
          have hop := hops p (by simp)
          simp only [physItem, List.map_cons] at t3
          rcases fin_some htd e with ⟨d, h1, h2, rfl⟩ | ⟨h1, rfl⟩
          · have hfin : fr.finish (phys σ v) = { fr with tmps := fr.tmps.setIfInBounds d (phys σ v), todo := .inRegion ops (rest.map (·.i)) :: k.map (physItem σ) } := by
              simp [Frame.finish, t3, hop, h1]
            rw [hfin]
            refine ⟨⟨hb.fn, hb.kind, hb.mode, hb.wmode, hb.rnd, hb.wrnd, hb.defers, hb.wdefers, hb.kinds⟩, t1.set (by rw [t2]; exact h2) hv, by simpa using t2, by simp [physItem], fun it hit => ?_⟩
            rcases List.mem_cons.1 hit with rfl | hit
            · exact .ops _ _ fun q hq => hops q (by simp [hq])
            · exact hwk it hit
          · have hfin : fr.finish (phys σ v) = { fr with todo := .inRegion ops (rest.map (·.i)) :: k.map (physItem σ) } := by
              simp [Frame.finish, t3, hop, h1]
            rw [hfin]
            refine ⟨⟨hb.fn, hb.kind, hb.mode, hb.wmode, hb.rnd, hb.wrnd, hb.defers, hb.wdefers, hb.kinds⟩, t1, t2, by simp [physItem], fun it hit => ?_⟩
            rcases List.mem_cons.1 hit with rfl | hit
            · exact .ops _ _ fun q hq => hops q (by simp [hq])
            · exact hwk it hit
    | inRangeFunc l =>
      unfold LF.fin at e
      rw [htd] at e
      simp only [Option.some.injEq] at e
      subst e
      have hfin : fr.finish (phys σ v) = { fr with todo := .endRangeFunc (σ.blk l) :: k.map (physItem σ) } := by
        simp [Frame.finish, t3, physItem]
      rw [hfin]
      cases hwi with
      | inRangeFunc _ p hp =>
        refine ⟨⟨hb.fn, hb.kind, hb.mode, hb.wmode, hb.rnd, hb.wrnd, hb.defers, hb.wdefers, hb.kinds⟩, t1, t2, by simp [physItem], fun it hit => ?_⟩
        rcases List.mem_cons.1 hit with rfl | hit
        · exact .endRangeFunc l p hp
        · exact hwk it hit
    | beginRound =>
      unfold LF.fin at e
      rw [htd] at e
      simp only [Option.some.injEq] at e
      subst e
      have hfin : fr.finish (phys σ v) = { fr with todo := k.map (physItem σ) } := by
        simp [Frame.finish, t3, physItem]
      rw [hfin]
      exact ⟨⟨hb.fn, hb.kind, hb.mode, hb.wmode, hb.rnd, hb.wrnd, hb.defers, hb.wdefers, hb.kinds⟩, t1, t2, rfl, hwk⟩
    | _ => unfold LF.fin at e; rw [htd] at e; cases e

/-- an operation of a drawn region that acts has ended with a value -/
theorem fin_draw {f f' : LF} {fr : Frame} {v : Value} {lo hi hi' : Nat} {hh hh' : Option H} {ops : Array Oper} {s : PStep} {rest : List PStep} {t : List Nat} {k : List LItem} {all : List PInfo} {done names writes : Nat} {prior : List PInfo} {B : Nat → Prop} (hb : FB σ f fr)
    (D : FDraw E σ lo hi hh f fr ops (s :: rest) (s.i :: t) k all done names writes prior B) (hk : kindOf E s.o.op = .eff) (hv : Wf σ v) (hhi : hi ≤ hi') (e : f.fin v = some f')
    (hnow : ∀ h, hh' = some h → ∀ r, r ∈ Lm.ready done all → r.i = s.i → s.re = (prior.filter fun q => !Nat.testBit r.anc q.i && (kindOf E q.o.op == .read || kindOf E q.o.op == .alloc)).map (·.i) →
      (∀ q ∈ prior, Nat.testBit r.anc q.i = true ∨ (q.names &&& r.dst == 0) = true) → (∀ x, r.dst.testBit x = true ↔ s.o.dst = some x) →
      ∀ q ∈ prior, ¬ B q.i → r.anc.testBit q.i = false → LagN E h ops f'.tmps q.o) :
    FB σ f' (fr.finish (phys σ v)) ∧ ∃ all done names writes prior B, FDraw E σ lo hi' hh' f' (fr.finish (phys σ v)) ops rest t k all done names writes prior B := by
  obtain ⟨_, hn, hall⟩ := D.draw.all_ok
  obtain ⟨pf, hpl⟩ := D.draw.plan
  rcases planGo_cons hpl with ⟨h0, _⟩ | ⟨p, rest', f2, e1, e2, e3, _⟩ | ⟨r, rest', f2, e1, e2, e3, e4, e5, e6, e7⟩
  · cases h0
  · exfalso
    simp only [List.cons.injEq] at e1
    obtain ⟨e1, _⟩ := e1
    have := (hall p (mem_ready'.1 e2).1).eff
    rw [e1] at hk
    rw [hk] at this
    rw [e3] at this; cases this
  · simp only [List.cons.injEq] at e1
    obtain ⟨e1, rfl⟩ := e1
    have hsi : s.i = r.i := by rw [e1]
    have hso : s.o = r.o := by rw [e1]
    have hsr : s.re = (prior.filter fun q => !Nat.testBit r.anc q.i && (kindOf E q.o.op == .read || kindOf E q.o.op == .alloc)).map (·.i) := by rw [e1]
    have hr1 := (mem_ready' (p := r)).1 (by rw [e2]; simp)
    have hrd := (hall r hr1.1).dst
    have hop : ops[s.i]? = some s.o := by rw [hsi, hso, ← Array.getElem?_toList]; exact (hall r hr1.1).op
    have Dd := D.draw
    rw [hsi] at Dd
    have hnow' := fun h hh => hnow h hh r (by rw [e2]; simp) hsi.symm hsr e6 (fun x => by rw [hso]; exact hrd x)
    rcases fin_some D.ftodo e with ⟨d, h1, h2, rfl⟩ | ⟨h1, rfl⟩
    · have hfin : fr.finish (phys σ v) = { fr with tmps := fr.tmps.setIfInBounds d (phys σ v), todo := .inRegion ops t :: k.map (physItem σ) } := by
        simp [Frame.finish, D.todo, hop, h1]
      rw [hfin]
      have hds : d < fr.tmps.size := by rw [D.size]; exact h2
      have Df := Dd.fin (TL' := f.tmps.set d (some v)) (TP' := fr.tmps.setIfInBounds d (phys σ v)) (hh' := hh') e2 e3 e4 e5 e6 e7 (.refl σ) (fun _ _ h => h) hhi (by simp) (fun x hx => ?_) (fun x hx => ?_) (fun x hx => ?_) hnow'
      · exact ⟨⟨hb.fn, hb.kind, hb.mode, hb.wmode, hb.rnd, hb.wrnd, hb.defers, hb.wdefers, hb.kinds⟩, _, _, _, _, _, _, ⟨rfl, rfl, D.wk, by simpa using D.size, Df⟩⟩
      · have : x ≠ d := fun e => by
          have := (hrd d).2 (by rw [← hso]; exact h1)
          rw [← e, hx] at this; cases this
        exact ⟨T.get_set_ne _ _ this, getD_setIf this⟩
      · have : x = d := by
          have := (hrd x).1 hx
          rw [← hso, h1] at this; exact (Option.some.inj this).symm
        subst this
        rw [T.get_set_same]
        exact ⟨by simp [Array.getD, hds], hv⟩
      · have hxd : x ≠ d := by
          intro e
          rw [e] at hx
          exact absurd hds (Nat.not_lt.2 hx)
        rw [T.get_set_ne _ _ hxd]
        exact D.draw.out x hx
    · have hfin : fr.finish (phys σ v) = { fr with todo := .inRegion ops t :: k.map (physItem σ) } := by
        simp [Frame.finish, D.todo, hop, h1]
      rw [hfin]
      have Df := Dd.fin (TL' := f.tmps) (TP' := fr.tmps) (hh' := hh') e2 e3 e4 e5 e6 e7 (.refl σ) (fun _ _ h => h) hhi rfl (fun x hx => ⟨rfl, rfl⟩) (fun x hx => ?_) (fun x hx => D.draw.out x hx) hnow'
      · exact ⟨⟨hb.fn, hb.kind, hb.mode, hb.wmode, hb.rnd, hb.wrnd, hb.defers, hb.wdefers, hb.kinds⟩, _, _, _, _, _, _, ⟨rfl, rfl, D.wk, D.size, Df⟩⟩
      have := (hrd x).1 hx
      rw [← hso, h1] at this; cases this

include EO in
/-- the value comes, and what could have been otherwise is looked at again -/
theorem finish_sound {f f' : LF} {fr : Frame} {v : Value} {lo hi : Nat} (R : HRel N0 w0 σ h w) (S : FSus E σ lo hi f fr) (hv : Wf σ v) (hhi : hi ≤ h.next) (e : f.finish E h v = some f') : FTop E σ lo h.next h f' (fr.finish (phys σ v)) := by
  obtain ⟨hb, S⟩ := S
  rcases S with hp | ⟨hmode, ops, s, rest, t, k, all, done, names, writes, prior, B, hk, D⟩
  · have hfin : f.fin v = some f' := by
      unfold LF.finish at e
      split at e
      · rename_i ops p rest k htd
        have := hp.wtodo (.ops ops true (p :: rest)) (by rw [htd]; simp)
        cases this
      · exact e
    obtain ⟨h1, h2⟩ := fin_plain hb hp hv hfin
    exact ⟨h1, .inl h2⟩
  · have htd := D.ftodo
    unfold LF.finish at e
    rw [htd] at e
    simp only at e
    cases hf : f.fin v with
    | none => rw [hf] at e; cases e
    | some f1 =>
      rw [hf] at e
      simp only at e
      cases hre : recheck E h f1.tmps ops s.re with
      | false => rw [hre] at e; cases e
      | true =>
        rw [hre] at e
        simp only [cond_true, Option.some.injEq] at e
        subst e
        obtain ⟨_, hn, hall⟩ := D.draw.all_ok
        obtain ⟨b1, all', done', names', writes', prior', B', D'⟩ := fin_draw (hh' := some h) hb D hk hv hhi hf (fun h2 e2 r hr hri hsr hpr hrd q hq hB hanc => by
          cases e2
          intro d v1 hd hv1 hw
          have hqa := D.draw.inv.sub q hq
          have hop : ops[q.i]? = some q.o := by rw [← Array.getElem?_toList]; exact (hall q hqa).op
          have hin : (kindOf E q.o.op = .read ∨ kindOf E q.o.op = .alloc) → q.i ∈ s.re := fun hk => by
            rw [hsr]
            refine List.mem_map.2 ⟨q, List.mem_filter.2 ⟨hq, ?_⟩, rfl⟩
            rw [hanc]
            rcases hk with hk | hk <;> simp [hk]
          refine ⟨fun kr => ?_, fun ka => ?_⟩
          · obtain ⟨v', r1, r2⟩ := (recheck_sound hre q.i (hin (.inl kr)) q.o hop d v1 hd hv1 hw).1 kr
            rw [sameVal_eq 10 _ _ r2]; exact r1
          · obtain ⟨b, ob, ob', mk, a1, a2, a3, a4, a5⟩ := (recheck_sound hre q.i (hin (.inr ka)) q.o hop d v1 hd hv1 hw).2 ka
            refine ⟨b, _, ob, ob', mk, a1, rfl, a3, sameVal_eq 10 _ _ a5, a2, (sameObj_sound a4 (fun r hr => ?_) (fun r hr => ?_)).symm⟩
            · subst hr; exact R.rok b r a2
            · exact ((exAlloc_new EO a3).1 r hr).2)
        have hm1 : f1.mode = .run := by
          rcases fin_some htd hf with ⟨_, _, _, rfl⟩ | ⟨_, rfl⟩ <;> exact hmode
        exact ⟨b1, .inr ⟨hm1, _, _, _, _, _, _, _, _, _, _, D'⟩⟩
end
end Go.Lm

/- The machine does what it had not done. -/
namespace Go.Lm

/-- the temporaries of a list alone -/
def rhoOn (l : List Nat) (t : T Value) : Rho := fun x => match x with
  | .tmp n => if n ∈ l then rho t (.tmp n) else none
  | x => rho t x

theorem rhoOn_eq {ops : Array Oper} {o : Oper} {t : T Value} : ∀ x ∈ o.op.operands.toList, rhoOn (usesOf ops.toList o) t x = rho t x := by
  intro x hx
  cases x with
  | tmp n =>
    have : n ∈ usesOf ops.toList o := List.mem_append_left _ (by unfold Operand.tmps; exact List.mem_filterMap.2 ⟨.tmp n, hx, rfl⟩)
    simp only [rhoOn, if_pos this]
  | _ => rfl

theorem rhoOn_rel {σ : Sig} {l : List Nat} {t : T Value} {fr : Frame} (h : ∀ n ∈ l, fr.tmps.getD n undef = phys σ ((t.get n).getD undefV) ∧ Wf σ ((t.get n).getD undefV)) : RhoRel σ (rhoOn l t) fr.eval := by
  intro x v e
  cases x with
  | tmp n =>
    simp only [rhoOn] at e
    split at e
    · rename_i hn
      obtain ⟨h1, h2⟩ := h n hn
      simp only [rho, Option.some.injEq] at e
      have : v = (t.get n).getD undefV := by
        rw [← e]
        cases t.get n <;> rfl
      rw [this]
      exact ⟨h1, h2⟩
    · cases e
  | const c =>
    simp only [rhoOn, rho] at e
    cases hc : constV c with
    | false => rw [hc] at e; cases e
    | true =>
      rw [hc] at e
      simp only [cond_true, Option.some.injEq] at e
      subst e
      obtain ⟨h1, h2⟩ := phys_const (σ := σ) hc
      exact ⟨h1.symm, h2⟩
  | global g => simp [rhoOn, rho] at e
  | func f =>
    simp only [rhoOn, rho, Option.some.injEq] at e
    subst e
    exact ⟨by simp [Frame.eval, physFn], .func f #[] #[] (by simp) (by simp)⟩

theorem wanted_eq {σ : Sig} {ops : Array Oper} {o : Oper} {TL : T Value} {TP : Array Value} (hu : ∀ x ∈ usesOf ops.toList o, TP.getD x undef = phys σ ((TL.get x).getD undefV)) (hout : ∀ x, TP.size ≤ x → TL.get x = none) :
    Region.wanted o (yielded ops TP) = recheck.wantedL TL ops o := by
  unfold Region.wanted recheck.wantedL
  cases hg : o.guard with
  | none => rfl
  | some g =>
    obtain ⟨j, want⟩ := g
    simp only
    unfold yielded
    cases hd : (ops[j]?).bind (·.dst) with
    | none => rfl
    | some d =>
      simp only [Option.bind_some]
      have hu' := hu d (List.mem_append_right _ (by rw [hg]; simp only [Array.getElem?_toList, hd]; simp))
      rcases Nat.lt_or_ge d TP.size with h | h
      · rw [Array.getD_eq_getD_getElem?, Array.getElem?_eq_getElem h, Option.getD_some] at hu'
        rw [Array.getElem?_eq_getElem h, hu']
        cases hv : TL.get d with
        | none => simp [phys_undef, undef]
        | some v =>
          simp only [Option.getD_some]
          cases v <;> simp
          rename_i a n c
          rcases a with _ | ⟨b, off, _ | o⟩ <;> simp [physSlice]
      · rw [Array.getElem?_eq_none h, hout d h]; rfl

theorem nodup_full : ∀ {l m : List Nat}, l.Nodup → (∀ a ∈ l, a ∈ m) → m.length ≤ l.length → ∀ x ∈ m, x ∈ l
  | [], m, _, _, hl, x, hx => by
    have : m = [] := List.length_eq_zero_iff.1 (by simpa using hl)
    rw [this] at hx; cases hx
  | a :: l, m, hn, hs, hl, x, hx => by
    rw [List.nodup_cons] at hn
    have ham := hs a (by simp)
    by_cases e : x = a
    · simp [e]
    · refine List.mem_cons_of_mem _ (nodup_full (m := m.erase a) hn.2 (fun b hb => ?_) ?_ x ((List.mem_erase_of_ne e).2 hx))
      · have : b ≠ a := fun e => hn.1 (e ▸ hb)
        exact (List.mem_erase_of_ne this).2 (hs b (by simp [hb]))
      · rw [List.length_erase_of_mem ham]
        simp only [List.length_cons] at hl
        omega

section
variable {E : Env} {P : Program} (EO : EnvOK E P) {N0 : Nat} {w0 : World} {h : H}
include EO

theorem catch_one {σ : Sig} {w : World} {lo hi : Nat} {f : LF} {fr : Frame} {cs : List Frame} {ops : Array Oper} {rest : List PStep} {i : Nat} {t : List Nat} {k : List LItem} {all : List PInfo} {done names writes : Nat} {prior : List PInfo} {B : Nat → Prop}
    (R : HRel N0 w0 σ h w) (hb : FB σ f fr) (hmode : f.mode = .run) (D : FDraw E σ lo hi (some h) f fr ops rest (i :: t) k all done names writes prior B) (hi' : done.testBit i = true) :
    ∃ σ' w' fr', Steps P (lone fr cs w) (lone fr' cs w') ∧ HRel N0 w0 σ' h w' ∧ Grow lo σ σ' ∧ FB σ' f fr' ∧ FDraw E σ' lo hi (some h) f fr' ops rest t k all done names writes prior (fun k => B k ∨ k = i) := by
  obtain ⟨_, hn, hall⟩ := D.draw.all_ok
  obtain ⟨q, hq, hqi⟩ := (D.draw.inv.done i).1 hi'
  have hqa := D.draw.inv.sub q hq
  obtain ⟨hBi, ⟨o, ho, hpre⟩, hlin⟩ := D.draw.lin
  have hop : ops[i]? = some q.o := by rw [← Array.getElem?_toList, ← hqi]; exact (hall q hqa).op
  have hoq : o = q.o := by rw [← Array.getElem?_toList, ho] at hop; exact Option.some.inj hop
  subst hoq
  have hBq : ¬ B q.i := by rw [hqi]; exact hBi
  obtain ⟨d, v, hd, hv, hlag⟩ := D.draw.lag q hq hBq
  have huse : ∀ n ∈ usesOf ops.toList q.o, fr.tmps.getD n undef = phys σ ((f.tmps.get n).getD undefV) ∧ Wf σ ((f.tmps.get n).getD undefV) := fun n hn' =>
    D.draw.tmps n (D.draw.lag_free hq hBq hpre hn')
  have RR := rhoOn_rel (σ := σ) huse
  have hwant := wanted_eq (ops := ops) (o := q.o) (fun x hx => (huse x hx).1) D.draw.out
  have hfm : fr.mode = .run := by rw [hb.mode, hmode]; rfl
  have hnd : fr.roundOf = none ∨ ∀ c, q.o.op ≠ .defer c := .inr fun c hc => by
    rcases hlag with ⟨_, _⟩ | ⟨_, ⟨k', _⟩ | k' | ⟨k', _⟩⟩
    · have hne : q.eff = false := by
        cases he : q.eff with
        | false => rfl
        | true => exact absurd (D.draw.effs q hq he) hBq
      have := (hall q hqa).eff
      rw [hne, hc] at this
      simp [kindOf] at this
    all_goals (rw [hc] at k'; simp [kindOf] at k')
  have hfin : ∀ u, fr.finish u = { fr with tmps := fr.tmps.setIfInBounds d u, todo := .inRegion ops t :: k.map (physItem σ) } := fun u => by
    simp [Frame.finish, D.todo, hop, hd]
  have conclude : ∀ (σ' : Sig) (w' : World), σ.Le σ' → (∀ b, σ b = none → ¬ (kindOf E q.o.op = .alloc ∧ numOf v = some b) → σ' b = none) → Wf σ' v → HRel N0 w0 σ' h w' → Grow lo σ σ' →
      step P (lone fr cs w) = .next (lone (fr.finish (phys σ' v)) cs w') →
      ∃ σ' w' fr', Steps P (lone fr cs w) (lone fr' cs w') ∧ HRel N0 w0 σ' h w' ∧ Grow lo σ σ' ∧ FB σ' f fr' ∧ FDraw E σ' lo hi (some h) f fr' ops rest t k all done names writes prior (fun k => B k ∨ k = i) := by
    intro σ' w' hle hnone hwf R' G hst
    have Dc := D.draw.catch hq hqi hd hv hle hnone hwf
    rw [hfin] at hst
    have hb' := hb.le hle
    exact ⟨σ', w', _, .one hst, R', G, ⟨hb'.fn, hb'.kind, hb'.mode, hb'.wmode, hb'.rnd, hb'.wrnd, hb'.defers, hb'.wdefers, hb'.kinds⟩,
      ⟨D.ftodo, by simp only; rw [physItems_le hle D.wk], fun it hit => (D.wk it hit).le hle, by simpa using D.size, Dc⟩⟩
  rcases hlag with ⟨hw, rfl⟩ | ⟨hw, hlag⟩
  · refine conclude σ w (.refl σ) (fun _ h _ => h) (.undef σ) R (.refl _ _) ?_
    rw [phys_undef]
    exact st_skip hfm D.todo hop (by rw [hwant]; exact hw)
  · have hg := st_oper (P := P) (cs := cs) (w := w) hfm D.todo hop (by rw [hwant]; exact hw) hnd
    have hrun : ∀ {u : Value} {w' : World}, (execOp fr.eval q.o).run P w = .ok (.value u) w' → step P (lone fr cs w) = .next (lone (fr.finish u) cs w') := fun hr => st_go (by rw [hg]; exact ap_value hr)
    rcases hlag with ⟨hk, e⟩ | hk | ⟨hk, b, b1, b2, b3, b4⟩
    · rw [← exPure_congr q.o.op rhoOn_eq] at e
      obtain ⟨p1, p2⟩ := pure_sound (P := P) (w := w) EO RR q.o hk e
      exact conclude σ w (.refl σ) (fun _ h _ => h) p2 R (.refl _ _) (hrun p1)
    · obtain ⟨e, _⟩ := D.draw.now h rfl q hq hBq d v hd hv hw
      have e := e hk
      rw [← exRead_congr h q.o.op rhoOn_eq] at e
      obtain ⟨p1, p2⟩ := read_sound EO RR R q.o hk e
      exact conclude σ w (.refl σ) (fun _ h _ => h) p2 R (.refl _ _) (hrun p1)
    · obtain ⟨_, e⟩ := D.draw.now h rfl q hq hBq d v hd hv hw
      obtain ⟨b', hx, ob, ob', mk, a1, a2, a3, a4, a5, a6⟩ := e hk
      rw [b1] at a1; cases a1
      rw [← exAlloc_congr hx q.o.op rhoOn_eq] at a3
      obtain ⟨w', p, m1, m2, m3⟩ := alloc_sound EO RR R q.o a2 hk a3 b4 a5 a6
      rw [← a4] at m1 m3
      refine conclude (σ.put b p) w' (Sig.le_put p b4) (fun b' hb' hne => ?_) m3 m2 (.put b4 b2) (hrun m1)
      unfold Sig.put
      rw [if_neg (fun e => hne ⟨hk, by rw [e]; exact b1⟩)]
      exact hb'

/-- all that it had not done, up to what has not been planned -/
theorem catch_all {lo hi : Nat} {f : LF} {ops : Array Oper} {rest : List PStep} {k : List LItem} {all : List PInfo} {done names writes : Nat} {prior : List PInfo} (hmode : f.mode = .run) :
    ∀ (t : List Nat) (σ : Sig) (w : World) (fr : Frame) (cs : List Frame) (B : Nat → Prop), HRel N0 w0 σ h w → FB σ f fr → FDraw E σ lo hi (some h) f fr ops rest t k all done names writes prior B →
    ∃ σ' w' fr' t' B', Steps P (lone fr cs w) (lone fr' cs w') ∧ HRel N0 w0 σ' h w' ∧ Grow lo σ σ' ∧ FB σ' f fr' ∧ FDraw E σ' lo hi (some h) f fr' ops rest t' k all done names writes prior B' ∧ (t' = [] ∨ ∃ i t2, t' = i :: t2 ∧ done.testBit i = false)
  | [], σ, w, fr, cs, B, R, hb, D => ⟨σ, w, fr, [], B, .refl P _, R, .refl _ _, hb, D, .inl rfl⟩
  | i :: t, σ, w, fr, cs, B, R, hb, D => by
    cases hi' : done.testBit i with
    | false => exact ⟨σ, w, fr, _, B, .refl P _, R, .refl _ _, hb, D, .inr ⟨i, t, rfl, hi'⟩⟩
    | true =>
      obtain ⟨σ1, w1, fr1, s1, R1, g1, b1, D1⟩ := catch_one EO (cs := cs) R hb hmode D hi'
      obtain ⟨σ2, w2, fr2, t2, B2, s2, R2, g2, b2, D2, h2⟩ := catch_all hmode t σ1 w1 fr1 cs _ R1 b1 D1
      exact ⟨σ2, w2, fr2, t2, B2, s1.trans s2, R2, g1.trans g2 (Nat.le_refl _), b2, D2, h2⟩

omit EO in
/-- the first that has not been planned is ready -/
theorem first_ready {σ : Sig} {lo hi : Nat} {hh : Option H} {ops : Array Oper} {all : List PInfo} {done names writes : Nat} {prior : List PInfo} {B : Nat → Prop} {rest : List PStep} {i : Nat} {t : List Nat} {TL : T Value} {TP : Array Value}
    (D : Draw E σ lo hi hh ops all done names writes prior B rest (i :: t) TL TP) (hi' : done.testBit i = false) : ∃ x ∈ Lm.ready done all, x.i = i := by
  obtain ⟨hr, hn, hall⟩ := D.all_ok
  obtain ⟨_, ⟨o, ho, hpre⟩, _⟩ := D.lin
  have hlt : i < ops.toList.length := (List.getElem?_eq_some_iff.1 ho).1
  have : i ∈ all.map (·.i) := by rw [hr]; exact List.mem_range.2 hlt
  obtain ⟨x, hx, rfl⟩ := List.mem_map.1 this
  have hox : o = x.o := by
    have := (hall x hx).op
    rw [ho] at this; exact Option.some.inj this
  subst hox
  exact ⟨x, mem_ready'.2 ⟨hx, hi', isIn_of fun k hk => D.sub k (hpre k (((hall x hx).pre k).1 hk))⟩, rfl⟩

/-- up to the region's end -/
theorem sync_end {σ : Sig} {w : World} {lo hi : Nat} {f : LF} {fr : Frame} {cs : List Frame} {ops : Array Oper} {t : List Nat} {k : List LItem} {all : List PInfo} {done names writes : Nat} {prior : List PInfo} {B : Nat → Prop}
    (R : HRel N0 w0 σ h w) (hb : FB σ f fr) (hmode : f.mode = .run) (D : FDraw E σ lo hi (some h) f fr ops [] t k all done names writes prior B) :
    ∃ σ' w' fr' B', Steps P (lone fr cs w) (lone fr' cs w') ∧ HRel N0 w0 σ' h w' ∧ Grow lo σ σ' ∧ FB σ' f fr' ∧ FDraw E σ' lo hi (some h) f fr' ops [] [] k all done names writes prior B' := by
  obtain ⟨σ', w', fr', t', B', s1, R1, g1, b1, D1, h1⟩ := catch_all EO hmode t σ w fr cs B R hb D
  rcases h1 with rfl | ⟨i, t2, rfl, hi'⟩
  · exact ⟨σ', w', fr', B', s1, R1, g1, b1, D1⟩
  · exfalso
    obtain ⟨x, hx, rfl⟩ := first_ready D1.draw hi'
    obtain ⟨hr, hn, hall⟩ := D1.draw.all_ok
    obtain ⟨pf, hpl⟩ := D1.draw.plan
    rcases planGo_cons hpl with ⟨_, hlen⟩ | ⟨_, _, _, h0, _⟩ | ⟨_, _, _, h0, _⟩
    · have hxa := (mem_ready'.1 hx).1
      -- all have been planned
      have hsub : (prior.map (·.i)) ⊆ (all.map (·.i)) := fun a ha => by
        obtain ⟨q, hq, rfl⟩ := List.mem_map.1 ha
        exact List.mem_map.2 ⟨q, D1.draw.inv.sub q hq, rfl⟩
      have : x.i ∈ prior.map (·.i) := nodup_full D1.draw.inv.nodup (fun a ha => hsub ha) (by simp [hlen]) _ (List.mem_map.2 ⟨x, hxa, rfl⟩)
      obtain ⟨q, hq, hqi⟩ := List.mem_map.1 this
      have := (D1.draw.inv.done x.i).2 ⟨q, hq, hqi⟩
      rw [hi'] at this; cases this
    · cases h0
    · cases h0

/-- up to an operation that acts -/
theorem sync_head {σ : Sig} {w : World} {lo hi : Nat} {f : LF} {fr : Frame} {cs : List Frame} {ops : Array Oper} {s : PStep} {rest : List PStep} {t : List Nat} {k : List LItem} {all : List PInfo} {done names writes : Nat} {prior : List PInfo} {B : Nat → Prop}
    (R : HRel N0 w0 σ h w) (hb : FB σ f fr) (hmode : f.mode = .run) (D : FDraw E σ lo hi (some h) f fr ops (s :: rest) t k all done names writes prior B) (hk : kindOf E s.o.op = .eff) :
    ∃ σ' w' fr' t' B', Steps P (lone fr cs w) (lone fr' cs w') ∧ HRel N0 w0 σ' h w' ∧ Grow lo σ σ' ∧ FB σ' f fr' ∧ FDraw E σ' lo hi (some h) f fr' ops (s :: rest) (s.i :: t') k all done names writes prior B' ∧
      ops[s.i]? = some s.o ∧ (∀ n ∈ usesOf ops.toList s.o, fr'.tmps.getD n undef = phys σ' ((f.tmps.get n).getD undefV) ∧ Wf σ' ((f.tmps.get n).getD undefV)) := by
  obtain ⟨σ', w', fr', t', B', s1, R1, g1, b1, D1, h1⟩ := catch_all EO hmode t σ w fr cs B R hb D
  obtain ⟨hr, hn, hall⟩ := D1.draw.all_ok
  obtain ⟨pf, hpl⟩ := D1.draw.plan
  rcases planGo_cons hpl with ⟨h0, _⟩ | ⟨p, rest', f2, e1, e2, e3, _⟩ | ⟨r, rest', f2, e1, e2, e3, e4, e5, e6, e7⟩
  · cases h0
  · exfalso
    simp only [List.cons.injEq] at e1
    obtain ⟨e1, _⟩ := e1
    have := (hall p (mem_ready'.1 e2).1).eff
    rw [e1] at hk
    rw [hk] at this
    rw [e3] at this; cases this
  · simp only [List.cons.injEq] at e1
    obtain ⟨e1, rfl⟩ := e1
    have hsi : s.i = r.i := by rw [e1]
    have hso : s.o = r.o := by rw [e1]
    have hrm := (mem_ready' (p := r)).1 (by rw [e2]; simp : r ∈ Lm.ready done all)
    have hop : ops[s.i]? = some s.o := by rw [hsi, hso, ← Array.getElem?_toList]; exact (hall r hrm.1).op
    have hti : ∃ t2, t' = s.i :: t2 := by
      rcases h1 with rfl | ⟨i, t2, rfl, hi'⟩
      · exfalso
        have hB := D1.draw.all_done
        have : B' r.i := D1.draw.lin r.i r.o (hall r hrm.1).op fun k hk => by
          obtain ⟨q, hq, hqi⟩ := (D1.draw.inv.done k).1 (isIn_test hrm.2.2 k (((hall r hrm.1).pre k).2 hk))
          rw [← hqi]; exact hB q hq
        have := D1.draw.sub _ this
        rw [hrm.2.1] at this; cases this
      · obtain ⟨x, hx, rfl⟩ := first_ready D1.draw hi'
        rw [e2] at hx
        simp only [List.mem_singleton] at hx
        subst hx
        exact ⟨t2, by rw [hsi]⟩
    obtain ⟨t2, rfl⟩ := hti
    have hpre : ∀ k ∈ preOf r.o, B' k := by
      obtain ⟨_, ⟨o, ho, hpre⟩, _⟩ := D1.draw.lin
      have : o = r.o := by
        rw [← Array.getElem?_toList, ho] at hop
        rw [← hso]; exact Option.some.inj hop
      rw [← this]; exact hpre
    refine ⟨σ', w', fr', t2, B', s1, R1, g1, b1, D1, hop, fun n hn' => ?_⟩
    refine D1.draw.tmps n (D1.draw.head_free hrm.1 hpre e4 ?_)
    rw [(hall r hrm.1).names, Nat.testBit_or, ((hall r hrm.1).uses n).2 (by rw [← hso]; exact hn')]; rfl
end
end Go.Lm

/- What comes behind an operation: the two machines go together. -/
namespace Go.Lm

def BotOK : LF → List LF → Prop
  | f, [] => f.kind = .normal
  | _, c :: cs => BotOK c cs

theorem BotOK.congr {f f' : LF} {cs : List LF} (h : BotOK f cs) (e : f'.kind = f.kind) : BotOK f' cs := by
  cases cs with
  | nil => simpa [BotOK, e] using h
  | cons c cs => exact h

def Joined (E : Env) (N0 : Nat) (w0 : World) (s : LS) (fr : Frame) (crs : List Frame) (w : World) : Prop := BotOK s.f s.cs ∧ Rel E N0 w0 s fr crs w

def Reach (E : Env) (P : Program) (N0 : Nat) (w0 : World) (bot : List Frame) (fr : Frame) (crs : List Frame) (w : World) : Out → Prop
  | .go s' => ∃ fr' crs' w', Steps P (lone fr (crs ++ bot) w) (lone fr' (crs' ++ bot) w') ∧ Joined E N0 w0 s' fr' crs' w'
  | .fork l => ∃ s' ∈ l, ∃ fr' crs' w', Steps P (lone fr (crs ++ bot) w) (lone fr' (crs' ++ bot) w') ∧ Joined E N0 w0 s' fr' crs' w'
  | .done f v h => ∃ fr' w' σ, Steps P (lone fr (crs ++ bot) w) (lone fr' bot w') ∧ fr'.fn = f ∧ fr'.leaving P w' (.returned (phys σ v)) ∧ Wf σ v ∧ HRel N0 w0 σ h w'

theorem Reach.of_steps {E : Env} {P : Program} {N0 : Nat} {w0 : World} {bot : List Frame} {fr fr1 : Frame} {crs crs1 : List Frame} {w w1 : World} {o : Out}
    (s : Steps P (lone fr (crs ++ bot) w) (lone fr1 (crs1 ++ bot) w1)) (r : Reach E P N0 w0 bot fr1 crs1 w1 o) : Reach E P N0 w0 bot fr crs w o := by
  cases o with
  | go s' => obtain ⟨a, b, c, h1, h2⟩ := r; exact ⟨a, b, c, s.trans h1, h2⟩
  | fork l => obtain ⟨s', hs, a, b, c, h1, h2⟩ := r; exact ⟨s', hs, a, b, c, s.trans h1, h2⟩
  | done f v h => obtain ⟨a, b, c, h1, h2⟩ := r; exact ⟨a, b, c, s.trans h1, h2⟩

theorem fin_keeps {f f' : LF} {v : Value} (e : f.fin v = some f') : f'.kind = f.kind ∧ f'.fn = f.fn ∧ f'.mode = f.mode := by
  unfold LF.fin at e
  split at e
  · split at e
    · rename_i p rest k _ d _
      cases hc : Nat.blt d f.nt with
      | false => rw [hc] at e; cases e
      | true => rw [hc] at e; simp only [cond_true, Option.some.injEq] at e; subst e; exact ⟨rfl, rfl, rfl⟩
    · simp only [Option.some.injEq] at e; subst e; exact ⟨rfl, rfl, rfl⟩
  · simp only [Option.some.injEq] at e; subst e; exact ⟨rfl, rfl, rfl⟩
  · simp only [Option.some.injEq] at e; subst e; exact ⟨rfl, rfl, rfl⟩
  · cases e

theorem finish_keeps {E : Env} {h : H} {f f' : LF} {v : Value} (e : f.finish E h v = some f') : f'.kind = f.kind ∧ f'.fn = f.fn ∧ f'.mode = f.mode := by
  unfold LF.finish at e
  split at e
  · split at e
    · rename_i f1 hf
      cases hc : recheck E h f1.tmps _ _ with
      | false => rw [hc] at e; cases e
      | true => rw [hc] at e; simp only [cond_true, Option.some.injEq] at e; subst e; exact fin_keeps hf
    · cases e
  · exact fin_keeps e

theorem listSet_get : ∀ (l : List Value) (i : Nat) (t : T Value) (n : Nat), (listSet i l t).get n = if i ≤ n ∧ n < i + l.length then l[n - i]? else t.get n
  | [], i, t, n => by simp [listSet]; omega
  | v :: l, i, t, n => by
    rw [listSet, listSet_get l (i + 1)]
    by_cases h1 : i + 1 ≤ n ∧ n < i + 1 + l.length
    · rw [if_pos h1, if_pos (by simp; omega)]
      have : n - i = (n - (i + 1)) + 1 := by omega
      rw [this, List.getElem?_cons_succ]
    · rw [if_neg h1, T.get_set]
      by_cases h2 : n = i
      · subst h2
        rw [if_pos rfl, if_pos (by simp)]; simp
      · rw [if_neg h2, if_neg (by simp; omega)]

theorem enter_tmps {σ : Sig} {args : List Value} {nt : Nat} (ha : ∀ v ∈ args, Wf σ v) (hl : args.length ≤ nt) :
    TmpRel σ (listSet 0 args .leaf) ((⟨args.map (phys σ)⟩ : Array Value) ++ Array.replicate (nt - args.length) undef) ∧ ((⟨args.map (phys σ)⟩ : Array Value) ++ Array.replicate (nt - args.length) undef).size = nt := by
  have hsz : ((⟨args.map (phys σ)⟩ : Array Value) ++ Array.replicate (nt - args.length) undef).size = nt := by simp; omega
  refine ⟨⟨fun n hn => ?_, fun n => ?_, fun n hn => ?_⟩, hsz⟩
  · rw [listSet_get, Array.getElem?_append]
    simp only [Nat.zero_le, true_and, Nat.zero_add, Nat.sub_zero, List.size_toArray, List.length_map]
    by_cases h : n < args.length
    · rw [if_pos h, if_pos h]
      simp [h]
    · rw [if_neg h, if_neg h]
      rw [hsz] at hn
      simp only [T.get, Option.getD_none, phys_undef, Array.getElem?_replicate]
      rw [if_pos (by omega)]
  · rw [listSet_get]
    simp only [Nat.zero_le, true_and, Nat.zero_add, Nat.sub_zero]
    by_cases h : n < args.length
    · rw [if_pos h, List.getElem?_eq_getElem h]; exact ha _ (List.getElem_mem h)
    · rw [if_neg h]; exact .undef σ
  · rw [hsz] at hn
    rw [listSet_get]
    simp only [Nat.zero_le, true_and, Nat.zero_add]
    rw [if_neg (by omega)]; rfl

theorem FSus.plain {E : Env} {σ : Sig} {lo hi : Nat} {f : LF} {fr : Frame} (S : FSus E σ lo hi f fr) (h : ∀ ops l k, f.todo ≠ .ops ops true l :: k) : FPlain σ f fr := by
  obtain ⟨_, S⟩ := S
  rcases S with S | ⟨_, ops, s, rest, t, k, all, done, names, writes, prior, B, _, D⟩
  · exact S
  · exact absurd D.ftodo (h _ _ _)

theorem FSus.plainM {E : Env} {σ : Sig} {lo hi : Nat} {f : LF} {fr : Frame} (S : FSus E σ lo hi f fr) (h : f.mode ≠ .run) : FPlain σ f fr := by
  obtain ⟨_, S⟩ := S
  rcases S with S | ⟨hm, _⟩
  · exact S
  · exact absurd hm h

theorem FB.raise {σ : Sig} {f : LF} {fr : Frame} (b : FB σ f fr) {vs : List PanicEntry} (hv : ∀ e ∈ vs, Wf σ e.v) : FB σ (f.raise vs) (fr.raise (vs.map (physP σ))) := by
  have hm := b.mode
  have hw := b.wmode
  unfold LF.raise Frame.raise
  cases hf : f.mode with
  | panicking chain =>
    rw [hf] at hm hw
    rw [hm]
    simp only [physMode]
    refine ⟨b.fn, b.kind, by simp [physMode], fun e he => ?_, b.rnd, b.wrnd, b.defers, b.wdefers, b.kinds⟩
    rcases List.mem_append.1 he with he | he
    · exact hv e he
    · exact hw e he
  | run =>
    rw [hf] at hm
    rw [hm]
    exact ⟨b.fn, b.kind, by simp [physMode], hv, b.rnd, b.wrnd, b.defers, b.wdefers, b.kinds⟩
  | returning =>
    rw [hf] at hm
    rw [hm]
    exact ⟨b.fn, b.kind, by simp [physMode], hv, b.rnd, b.wrnd, b.defers, b.wdefers, b.kinds⟩

theorem FPlain.raise {σ : Sig} {f : LF} {fr : Frame} (b : FPlain σ f fr) (vs us : List PanicEntry) : FPlain σ (f.raise vs) (fr.raise us) := by
  unfold LF.raise Frame.raise
  cases f.mode <;> cases fr.mode <;> exact ⟨b.tmps, b.size, b.todo, b.wtodo⟩

theorem tryRec_none {f c : LF} {rest : List LF} (hk : f.kind = .deferred) (h : tryRec f (c :: rest) = none) : ∀ v older, c.mode ≠ .panicking ({ v, recovered := false, goexit := false } :: older) := by
  intro v older hm
  simp [tryRec, hk, hm] at h

theorem LF.raise_kind (f : LF) (vs : List PanicEntry) : (f.raise vs).kind = f.kind := by
  unfold LF.raise; cases f.mode <;> rfl

section
variable {E : Env} {P : Program} (EO : EnvOK E P) {N0 : Nat} {w0 : World}

include EO in
theorem enter_sound {σ : Sig} {h : H} {g : FuncId} {args : List Value} {kind : CallKind} {f2 : LF} (lo hi : Nat) (ha : ∀ v ∈ args, Wf σ v) (hk : kind = .normal ∨ kind = .deferred) (e : enterF E g args kind = some f2) :
    FTop E σ lo hi h f2 (Frame.enter P g ⟨args.map (phys σ)⟩ kind) ∧ f2.kind = kind ∧ ∃ fn c, E.fn g = some fn ∧ fn.body = some c := by
  unfold enterF at e
  split at e
  · rename_i fn hfn
    split at e
    · rename_i c hc
      cases hl : Nat.ble args.length fn.ntmps with
      | false => rw [hl] at e; cases e
      | true =>
        rw [hl] at e
        simp only [cond_true, Option.some.injEq] at e
        subst e
        have hl' : args.length ≤ fn.ntmps := by rw [nble] at hl; simpa using hl
        obtain ⟨h1, _⟩ := EO.fn g fn hfn
        obtain ⟨t1, t2⟩ := enter_tmps ha hl'
        have hfr : Frame.enter P g ⟨args.map (phys σ)⟩ kind = { fn := g, tmps := (⟨args.map (phys σ)⟩ : Array Value) ++ Array.replicate (fn.ntmps - args.length) undef, todo := [.code c], defers := [], mode := .run, kind } := by
          simp [Frame.enter, h1, hc]
        rw [hfr]
        refine ⟨⟨⟨rfl, rfl, rfl, trivial, rfl, fun l hl => (by cases hl), rfl, by simp, hk⟩, .inl ⟨t1, t2, rfl, fun it hit => ?_⟩⟩, rfl, fn, c, hfn, hc⟩
        simp only [List.mem_singleton] at hit
        subst hit
        exact .code c
    · cases e
  · cases e

theorem FSus.defers {σ : Sig} {lo hi : Nat} {f : LF} {fr : Frame} (S : FSus E σ lo hi f fr) {d : Deferred} (hd : WfD σ d) : FSus E σ lo hi { f with defers := d :: f.defers } { fr with defers := physD σ d :: fr.defers } := by
  obtain ⟨b, S⟩ := S
  refine ⟨⟨b.fn, b.kind, b.mode, b.wmode, b.rnd, b.wrnd, by simp [b.defers], fun x hx => ?_, b.kinds⟩, ?_⟩
  · rcases List.mem_cons.1 hx with rfl | hx
    · exact hd
    · exact b.wdefers x hx
  · rcases S with S | ⟨hm, ops, s, rest, t, k, all, done, names, writes, prior, B, he, D⟩
    · exact .inl ⟨S.tmps, S.size, S.todo, S.wtodo⟩
    · exact .inr ⟨hm, ops, s, rest, t, k, all, done, names, writes, prior, B, he, D.ftodo, D.todo, D.wk, D.size, D.draw⟩

include EO in
theorem onNext_sound {σ : Sig} {w : World} {n : Nat} {s : LS} {fr fr0 : Frame} {wA : World} {crs bot : List Frame} (R : HRel N0 w0 σ s.h w) (hn : n ≤ s.h.next) (S : FSus E σ n s.h.next s.f fr) (U : Susp E σ n s.cs crs) (hbot : BotOK s.f s.cs) {sm : Sem Go.Next}
    (hs : ∀ cs', (stepG P true (gor fr0 cs') wA).bare = (stepG.apply P true fr cs' none sm w).bare) (hcall : ∀ d a b k, fr.todo ≠ .call d true a b :: k) {nx : Next} (A : After E P sm N0 w0 σ s.h w nx) {o : Out} (e : onNext E s nx = some o) :
    Reach E P N0 w0 bot fr0 crs wA o := by
  have hval : ∀ {v : Value} {h' : H} {f' : LF}, Gives P sm N0 w0 σ s.h w v h' → s.f.finish E h' v = some f' →
      ∃ fr' crs' w', Steps P (lone fr0 (crs ++ bot) wA) (lone fr' (crs' ++ bot) w') ∧ Joined E N0 w0 { s with f := f', h := h' } fr' crs' w' := by
    intro v h' f' G hf
    obtain ⟨σ', w', g, run, R', hv, hnx⟩ := G
    have T := finish_sound EO R' (S.grow g (Nat.le_refl _)) hv hnx hf
    have hst : step P (lone fr0 (crs ++ bot) wA) = .next (lone (fr.finish (phys σ' v)) (crs ++ bot) w') := by
      rcases run with run | ⟨run, rfl⟩
      · exact st_go (by rw [hs]; exact ap_value run)
      · rw [phys_undef]
        exact st_go (by rw [hs]; exact ap_skip run)
    exact ⟨_, crs, w', .one hst, hbot.congr (finish_keeps hf).1, σ', n, R', Nat.le_trans hn hnx, T, U.grow g hn⟩
  cases nx with
  | val v h' =>
    simp only [onNext] at e
    cases hf : s.f.finish E h' v with
    | none => rw [hf] at e; cases e
    | some f' =>
      rw [hf] at e
      simp only [Option.map_some, Option.some.injEq] at e
      subst e
      rcases A with G | ⟨rfl, hv, f2, args, run, hc⟩
      · exact hval G hf
      · obtain ⟨en, w'', fr2, ⟨rfl, R''⟩, hcomes, _, hleave⟩ := hc (fr :: (crs ++ bot))
        have T := finish_sound EO R'' S hv (Nat.le_refl _) hf
        have h1 : step P (lone fr0 (crs ++ bot) wA) = .next (lone (Frame.enter P f2 args .normal) (fr :: (crs ++ bot)) w) := st_go (by rw [hs]; exact ap_enter run hcall)
        refine ⟨fr.finish (phys σ v), crs, w'', .head h1 (Steps.trans hcomes (.one (step_leave_returned hleave))), hbot.congr (finish_keeps hf).1, σ, n, R'', hn, T, U⟩
  | alts l =>
    obtain ⟨v, h', hm, G⟩ := A
    simp only [onNext] at e
    rw [Option.map_eq_some_iff] at e
    obtain ⟨l', hl', rfl⟩ := e
    obtain ⟨_, hidx⟩ := mapM_some hl'
    obtain ⟨i, hi, hi'⟩ := List.getElem_of_mem hm
    obtain ⟨y, hy, hy'⟩ := hidx i (v, h') (by rw [List.getElem?_eq_getElem hi, hi'])
    simp only at hy
    cases hf : s.f.finish E h' v with
    | none => rw [hf] at hy; cases hy
    | some f' =>
      rw [hf] at hy
      simp only [Option.map_some, Option.some.injEq] at hy
      subst hy
      exact ⟨_, List.mem_of_getElem? hy', hval G hf⟩
  | enter g args h' =>
    obtain ⟨rfl, ha, hrun⟩ := A
    simp only [onNext] at e
    cases hf : enterF E g args .normal with
    | none => rw [hf] at e; cases e
    | some f2 =>
      rw [hf] at e
      simp only [Option.map_some, Option.some.injEq] at e
      subst e
      obtain ⟨T, _, fn, c, hfn, hc⟩ := enter_sound EO (h := s.h) s.h.next s.h.next ha (.inl rfl) hf
      have run := hrun fn c hfn hc
      exact ⟨_, fr :: crs, w, .one (st_go (by rw [hs]; exact ap_enter run hcall)), hbot, σ, s.h.next, R, Nat.le_refl _, T, n, hn, S, U⟩
  | round l g tmps nt assign body =>
    obtain ⟨a, p, hp, run, t1, t2⟩ := A
    simp only [onNext, Option.some.injEq] at e
    subst e
    have hp1 : FPlain σ (roundF l g tmps nt assign body .normal) (Frame.round (σ.blk l) g a assign body .normal) := ⟨t1, t2, rfl, fun it hit => by
      simp only [roundF, List.mem_cons, List.not_mem_nil, or_false] at hit
      rcases hit with rfl | rfl | rfl
      · exact .code _
      · exact .beginRound
      · exact .code _⟩
    have hb1 : FB σ (roundF l g tmps nt assign body .normal) (Frame.round (σ.blk l) g a assign body .normal) := ⟨rfl, rfl, rfl, trivial, rfl, fun l' hl' => by
      simp only [roundF, Option.some.injEq] at hl'
      subst hl'
      exact ⟨p, hp⟩, rfl, by simp [roundF], .inl rfl⟩
    exact ⟨_, fr :: crs, w, .one (st_go (by rw [hs]; exact ap_round run)), hbot, σ, s.h.next, R, Nat.le_refl _, ⟨hb1, .inl hp1⟩, n, hn, S, U⟩
  | defer d =>
    obtain ⟨hd, run⟩ := A
    simp only [onNext] at e
    have hf1 : ∃ f', LF.finish E s.h { s.f with defers := d :: s.f.defers } undefV = some f' ∧ o = .go { s with f := f' } := by
      split at e
      · rw [Option.map_eq_some_iff] at e
        obtain ⟨f', hf, ho⟩ := e
        exact ⟨f', hf, ho.symm⟩
      · cases e
    obtain ⟨f', hf, rfl⟩ := hf1
    have T := finish_sound EO R (S.defers hd) (.undef σ) (Nat.le_refl _) hf
    rw [phys_undef] at T
    exact ⟨_, crs, w, .one (st_go (by rw [hs]; exact ap_defer run)), hbot.congr (finish_keeps hf).1, σ, n, R, hn, T, U⟩
  | recover =>
    have run : sm.run P w = .ok .recover w := A
    simp only [onNext] at e
    have none_case : tryRec s.f s.cs = none → ∀ f', s.f.finish E s.h .nilIface = some f' → o = .go { s with f := f' } → Reach E P N0 w0 bot fr0 crs wA o := by
      intro hnone f' hf ho
      subst ho
      have T := finish_sound EO R S .nilIface (Nat.le_refl _) hf
      simp only [phys_nilIface] at T
      have htr : tryRecover fr (crs ++ bot) = none := by
        have hb := S.1
        unfold tryRecover
        rw [hb.kind]
        rcases hb.kinds with hk | hk
        · rw [hk]
        · rw [hk]
          cases hcs : s.cs with
          | nil => rw [hcs] at hbot; simp only [BotOK] at hbot; rw [hk] at hbot; cases hbot
          | cons c rest =>
            rw [hcs] at U
            cases crs with
            | nil => exact U.elim
            | cons cfr crest =>
              obtain ⟨m, _, Sc, _⟩ := U
              have hcm := Sc.1.mode
              simp only [List.cons_append, hcm]
              rw [hcs] at hnone
              have hno := tryRec_none hk hnone
              cases hm : c.mode with
              | run => rfl
              | returning => rfl
              | panicking chain =>
                cases chain with
                | nil => rfl
                | cons en older =>
                  obtain ⟨ev, er, eg⟩ := en
                  cases er <;> cases eg
                  · exact absurd hm (hno _ _)
                  all_goals rfl
      exact ⟨_, crs, w, .one (st_go (by rw [hs]; exact ap_recover_none EO.rfr run htr)), hbot.congr (finish_keeps hf).1, σ, n, R, hn, T, U⟩
    cases ht : tryRec s.f s.cs with
    | none =>
      rw [ht] at e
      simp only at e
      rw [Option.map_eq_some_iff] at e
      obtain ⟨f', hf, ho⟩ := e
      exact none_case ht f' hf ho.symm
    | some q =>
      obtain ⟨v, cs'⟩ := q
      rw [ht] at e
      simp only at e
      rw [Option.map_eq_some_iff] at e
      obtain ⟨f', hf, rfl⟩ := e
      have ht0 := ht
      unfold tryRec at ht
      split at ht
      · rename_i c rest hk hcs
        split at ht
        · rename_i pv older hcm
          simp only [Option.some.injEq, Prod.mk.injEq] at ht
          obtain ⟨rfl, rfl⟩ := ht
          rw [hcs] at U hbot
          cases crs with
          | nil => exact U.elim
          | cons cfr crest =>
            obtain ⟨m, hmn, Sc, U'⟩ := U
            have hb := S.1
            have hbc := Sc.1
            have hvw : Wf σ pv := by
              have := hbc.wmode
              rw [hcm] at this
              exact this { v := pv, recovered := false } (by simp)
            have T := finish_sound EO R S hvw (Nat.le_refl _) hf
            have htr : tryRecover fr (cfr :: crest ++ bot) = some (phys σ pv, { cfr with mode := .panicking ({ v := phys σ pv, recovered := true } :: older.map (physP σ)) } :: (crest ++ bot)) := by
              unfold tryRecover
              rw [hb.kind, hk]
              simp only [List.cons_append, hbc.mode, hcm, physMode, List.map_cons, physP]
            have hpl := Sc.plainM (by rw [hcm]; simp)
            refine ⟨_, { cfr with mode := .panicking ({ v := phys σ pv, recovered := true } :: older.map (physP σ)) } :: crest, w, .one (st_go (by rw [hs]; exact ap_recover_some EO.rfr run htr)), ?_, σ, n, R, hn, T, m, hmn, ⟨⟨hbc.fn, hbc.kind, by simp [physMode, physP], fun en hen => ?_, hbc.rnd, hbc.wrnd, hbc.defers, hbc.wdefers, hbc.kinds⟩, .inl ⟨hpl.tmps, hpl.size, hpl.todo, hpl.wtodo⟩⟩, U'⟩
            · have h1 : BotOK c rest := hbot
              exact (BotOK.congr (f' := { c with mode := .panicking ({ v := pv, recovered := true } :: older) }) h1 rfl : BotOK _ rest)
            · have hwm := hbc.wmode
              rw [hcm] at hwm
              rcases List.mem_cons.1 hen with rfl | hen
              · exact hvw
              · exact hwm en (by simp [hen])
        · cases ht
      · cases ht
  | panic v =>
    obtain ⟨hv, run⟩ := A
    simp only [onNext] at e
    have hpl : FPlain σ s.f fr ∧ o = .go { s with f := s.f.raise [{ v, recovered := false }] } := by
      split at e
      · cases e
      · rename_i hno
        simp only [Option.some.injEq] at e
        exact ⟨S.plain fun ops l k ht => hno _ _ _ ht, e.symm⟩
    obtain ⟨hpl, rfl⟩ := hpl
    have hbr := S.1.raise (vs := [{ v, recovered := false }]) (fun e he => by simp only [List.mem_singleton] at he; subst he; exact hv)
    simp only [List.map_cons, List.map_nil, physP] at hbr
    exact ⟨_, crs, w, .one (st_go (by rw [hs]; exact ap_panic run)), hbot.congr (s.f.raise_kind _), σ, n, R, hn, ⟨hbr, .inl (hpl.raise _ _)⟩, U⟩
end
end Go.Lm

/- Operations of regions. -/
namespace Go.Lm

theorem exOp_congr {E : Env} {h : H} {ρ ρ' : Rho} (o : Oper) (hx : ∀ x ∈ o.op.operands.toList, ρ' x = ρ x) : exOp E h ρ' o = exOp E h ρ o := by
  unfold exOp
  split
  · rw [exPure_congr _ hx]
  · rw [exRead_congr _ _ hx]
  · rw [exAlloc_congr _ _ hx]
  · rw [exEff_congr _ _ hx]

section
variable {E : Env} {P : Program} (EO : EnvOK E P) (SO : SpOK E P) {N0 : Nat} {w0 : World}
include EO SO

theorem exOp_sound {σ : Sig} {w : World} {h : H} {ρ : Rho} {r : Operand → Value} (RR : RhoRel σ ρ r) (R : HRel N0 w0 σ h w) {o : Oper} {n : Next} (e : exOp E h ρ o = some n) : After E P (execOp r o) N0 w0 σ h w n := by
  unfold exOp at e
  split at e
  · rename_i hk
    rw [Option.map_eq_some_iff] at e
    obtain ⟨v, e, rfl⟩ := e
    obtain ⟨p1, p2⟩ := pure_sound (P := P) (w := w) EO RR o hk e
    exact .inl ⟨σ, w, .refl _ _, .inl p1, R, p2, Nat.le_refl _⟩
  · rename_i hk
    rw [Option.map_eq_some_iff] at e
    obtain ⟨v, e, rfl⟩ := e
    obtain ⟨p1, p2⟩ := read_sound EO RR R o hk e
    exact .inl ⟨σ, w, .refl _ _, .inl p1, R, p2, Nat.le_refl _⟩
  · rename_i hk
    rw [Option.map_eq_some_iff] at e
    obtain ⟨⟨ob, mk⟩, e, rfl⟩ := e
    have hs := R.none_of_ge (Nat.le_refl h.next)
    have R1 := R.newL ob (exAlloc_new EO e).1
    have hget : (h.new ob).objs.get h.next = some ob := by simp [H.new, T.get_set]
    obtain ⟨w', p, m1, m2, m3⟩ := alloc_sound EO RR R1 o rfl hk e hs hget (SameO.refl ob)
    exact .inl ⟨σ.put h.next p, w', .put hs (Nat.le_refl _), .inl m1, m2, m3, by simp [H.new]⟩
  · exact eff_sound EO SO RR R e

omit EO SO in
theorem new_mono {σ : Sig} {w : World} {h : H} (R : HRel N0 w0 σ h w) (o : LObj) : ∀ b ob, h.objs.get b = some ob → (h.new o).objs.get b = some ob := by
  intro b ob hb
  have := R.got b ob hb
  simp only [H.new]
  rw [T.get_set_ne _ _ (by omega)]
  exact hb

theorem ops_sound {s : LS} {fr : Frame} {crs bot : List Frame} {w : World} (J : Joined E N0 w0 s fr crs w) (hmode : s.f.mode = .run) {ops : Array Oper} {dr : Bool} {p : PStep} {rest : List PStep} {k : List LItem} (ht : s.f.todo = .ops ops dr (p :: rest) :: k) {o : Out}
    (e : cond (recheck.wantedL s.f.tmps ops p.o) (match exOp E s.h (rho s.f.tmps) p.o with | some n => onNext E s n | none => none) ((s.f.fin undefV).map fun f => .go { s with f }) = some o) :
    Reach E P N0 w0 bot fr crs w o := by
  obtain ⟨hbot, σ, n, R, hn, ⟨hb, S⟩, U⟩ := J
  -- what is done when the machine stands before the operation
  have key : ∀ (σ : Sig) (w : World) (fr : Frame) (t : List Nat) (k' : List Item), HRel N0 w0 σ s.h w → FSus E σ n s.h.next s.f fr → Susp E σ n s.cs crs → fr.todo = .inRegion ops (p.i :: t) :: k' → ops[p.i]? = some p.o →
      (∀ n ∈ usesOf ops.toList p.o, fr.tmps.getD n undef = phys σ ((s.f.tmps.get n).getD undefV) ∧ Wf σ ((s.f.tmps.get n).getD undefV)) → (∀ x, fr.tmps.size ≤ x → s.f.tmps.get x = none) →
      (recheck.wantedL s.f.tmps ops p.o = false → ∀ f', s.f.fin undefV = some f' → FTop E σ n s.h.next s.h f' (fr.finish undef)) → Reach E P N0 w0 bot fr crs w o := by
    intro σ w fr t k' R S U htd hop huse hout hskip
    have hfm : fr.mode = .run := by rw [S.1.mode, hmode]; rfl
    have hwant := wanted_eq (ops := ops) (o := p.o) (fun x hx => (huse x hx).1) hout
    cases hw : recheck.wantedL s.f.tmps ops p.o with
    | false =>
      rw [hw] at e hwant
      simp only [cond_false] at e
      rw [Option.map_eq_some_iff] at e
      obtain ⟨f', hf, rfl⟩ := e
      exact ⟨_, crs, w, .one (st_skip hfm htd hop hwant), hbot.congr (fin_keeps hf).1, σ, n, R, hn, hskip hw f' hf, U⟩
    | true =>
      rw [hw] at e hwant
      simp only [cond_true] at e
      split at e
      · rename_i nx hnx
        rw [← exOp_congr p.o rhoOn_eq] at hnx
        have A := exOp_sound EO SO (rhoOn_rel huse) R hnx
        have hnd : fr.roundOf = none ∨ ∀ c, p.o.op ≠ .defer c := by
          cases hro : s.f.roundOf with
          | none => left; rw [S.1.rnd, hro]; rfl
          | some l =>
            right
            intro c hc
            have hk : kindOf E p.o.op = .eff := by rw [hc]; rfl
            unfold exOp at hnx
            rw [hk] at hnx
            simp only [exEff, hc] at hnx
            rw [Option.map_eq_some_iff] at hnx
            obtain ⟨q, _, rfl⟩ := hnx
            simp only [onNext, hro] at e
            cases e
        exact onNext_sound EO R hn S U hbot (fun cs' => by rw [st_oper hfm htd hop hwant hnd]) (fun d a b k hc => by rw [htd] at hc; cases hc) A e
      · cases e
  rcases S with S | ⟨_, ops', rest', todo', k'', all, done, names, writes, prior, B, D⟩
  · have hwi := S.wtodo (.ops ops dr (p :: rest)) (by rw [ht]; simp)
    cases hwi with
    | ops _ _ hops =>
      have hop := hops p (by simp)
      refine key σ w fr (rest.map (·.i)) (k.map (physItem σ)) R ⟨hb, .inl S⟩ U (by rw [S.todo, ht]; simp [physItem]) hop (fun x _ => ⟨S.tmps.getD x, S.tmps.wf x⟩) S.tmps.out (fun _ f' hf => ?_)
      obtain ⟨h1, h2⟩ := fin_plain hb S (.undef σ) hf
      rw [phys_undef] at h1 h2
      exact ⟨h1, .inl h2⟩
  · have hft := D.ftodo
    rw [ht] at hft
    simp only [List.cons.injEq, LItem.ops.injEq] at hft
    obtain ⟨⟨rfl, rfl, rfl⟩, rfl⟩ := hft
    by_cases hk : kindOf E p.o.op = .eff
    · obtain ⟨σ', w', fr', t', B', s1, R1, g1, b1, D1, hop, huse⟩ := sync_head EO (cs := crs ++ bot) R hb hmode D hk
      refine Reach.of_steps s1 (key σ' w' fr' t' _ R1 ⟨b1, .inr ⟨hmode, _, _, _, _, _, _, _, _, _, _, _, hk, D1.ftodo, D1.todo, D1.wk, D1.size, D1.draw.weak⟩⟩ (U.grow g1 (Nat.le_refl _)) D1.todo hop huse D1.draw.out fun hw f' hf => ?_)
      have hm1 : f'.mode = .run := by rw [(fin_keeps hf).2.2]; exact hmode
      obtain ⟨h1, all', done', names', writes', prior', B'', D2⟩ := fin_draw (hh' := some s.h) b1 D1 hk (.undef σ') (Nat.le_refl _) hf (fun h2 e2 r hr hri hsr hpr hrd q hq hB hanc => by
        cases e2
        obtain ⟨_, hn', hall⟩ := D1.draw.all_ok
        have hqa := D1.draw.inv.sub q hq
        have hfar : ∀ x, q.names.testBit x = true → f'.tmps.get x = s.f.tmps.get x := fun x hx => by
          rcases fin_some D1.ftodo hf with ⟨d, h1, _, rfl⟩ | ⟨_, rfl⟩
          · refine T.get_set_ne _ _ fun e => ?_
            subst e
            rcases hpr q hq with h | h
            · rw [hanc] at h; cases h
            · have := and_zero_test h x hx
              rw [(hrd x).2 h1] at this; cases this
          · rfl
        refine (D1.draw.now s.h rfl q hq hB).keep (fun x hx => hfar x ?_) (fun x hx => hfar x ?_) (fun _ _ h => h)
        · rw [(hall q hqa).names, Nat.testBit_or, ((hall q hqa).uses x).2 hx]; rfl
        · rw [(hall q hqa).names, Nat.testBit_or, ((hall q hqa).dst x).2 hx, Bool.or_true])
      rw [phys_undef] at h1 D2
      exact ⟨h1, .inr ⟨hm1, _, _, _, _, _, _, _, _, _, _, D2⟩⟩
    · -- a value alone: the machine waits
      obtain ⟨_, hnn, hall⟩ := D.draw.all_ok
      obtain ⟨pf, hpl⟩ := D.draw.plan
      rcases planGo_cons hpl with ⟨h0, _⟩ | ⟨q, rest', f2, e1, e2, e3, e4, e5, e6, e7, e8⟩ | ⟨r, rest', f2, e1, e2, e3, _⟩
      · cases h0
      · simp only [List.cons.injEq] at e1
        obtain ⟨rfl, rfl⟩ := e1
        simp only at hk e ht
        have hqm := mem_ready'.1 e2
        have hqB : ¬ B q.i := fun hB => by have := D.draw.sub _ hB; rw [hqm.2.1] at this; cases this
        -- what is laid
        have lay : ∀ (v : Value) (h' : H) (f' : LF), s.f.fin v = some f' → HRel N0 w0 σ h' w → s.h.next ≤ h'.next → (∀ b ob, s.h.objs.get b = some ob → h'.objs.get b = some ob) →
            (∀ d, q.o.dst = some d → (∀ x ∈ usesOf ops.toList q.o, (s.f.tmps.set d (some v)).get x = s.f.tmps.get x) → LagW E σ n h'.next ops (s.f.tmps.set d (some v)) q.o ∧ LagN E h' ops (s.f.tmps.set d (some v)) q.o) →
            (∀ b, kindOf E q.o.op = .alloc → numOf v = some b → s.h.next ≤ b) → o = .go { s with f := f', h := h' } → Reach E P N0 w0 bot fr crs w o := by
          intro v h' f' hf R' hnx hm hL hnew ho
          subst ho
          have hqd : q.o.dst ≠ none := by
            intro hnone
            apply e4
            apply Nat.eq_of_testBit_eq
            intro x
            cases hx : q.dst.testBit x with
            | false => simp
            | true =>
              have := ((hall q hqm.1).dst x).1 hx
              rw [hnone] at this; cases this
          rcases fin_some D.ftodo hf with ⟨d, h1, h2, rfl⟩ | ⟨h1, _⟩
          · simp only at h1
            have hag : ∀ x ∈ usesOf ops.toList q.o, (s.f.tmps.set d (some v)).get x = s.f.tmps.get x := fun x hx => by
              refine T.get_set_ne _ _ fun e => ?_
              subst e
              have := and_zero_test e5 x (((hall q hqm.1).uses x).2 hx)
              rw [((hall q hqm.1).dst x).2 h1] at this; cases this
            obtain ⟨hW, hN⟩ := hL d h1 hag
            have D2 := D.draw.add e2 e3 e5 e6 e7 e8 h1 (by rw [D.size]; exact h2) hnx hm hW hN hnew
            refine ⟨fr, crs, w, .refl P _, hbot.congr rfl, σ, n, R', by simp only; omega, ⟨⟨hb.fn, hb.kind, hb.mode, hb.wmode, hb.rnd, hb.wrnd, hb.defers, hb.wdefers, hb.kinds⟩, .inr ⟨hmode, ops, rest, todo', k, all, _, _, _, _, B, rfl, D.todo, D.wk, D.size, D2⟩⟩, U⟩
          · exact absurd h1 hqd
        have keep : ∀ {d : Nat} {v : Value}, (∀ x ∈ usesOf ops.toList q.o, (s.f.tmps.set d (some v)).get x = s.f.tmps.get x) → (∀ x ∈ q.o.op.operands.toList, rho (s.f.tmps.set d (some v)) x = rho s.f.tmps x) ∧ recheck.wantedL (s.f.tmps.set d (some v)) ops q.o = recheck.wantedL s.f.tmps ops q.o := fun h => ⟨uses_rho h, uses_wanted h⟩
        cases hw : recheck.wantedL s.f.tmps ops q.o with
        | false =>
          rw [hw] at e
          simp only [cond_false] at e
          rw [Option.map_eq_some_iff] at e
          obtain ⟨f', hf, rfl⟩ := e
          refine lay undefV s.h f' hf R (Nat.le_refl _) (fun _ _ h => h) (fun d hd hag => ?_) (fun b _ hb => by cases hb) rfl
          obtain ⟨_, k2⟩ := keep hag
          rw [hw] at k2
          exact ⟨⟨d, undefV, hd, T.get_set_same _ _ _, .inl ⟨k2, rfl⟩⟩, fun d' v' _ _ h => by rw [k2] at h; cases h⟩
        | true =>
          rw [hw] at e
          simp only [cond_true] at e
          have hfin : ∀ {h' : H} {v : Value} {f' : LF}, s.f.finish E h' v = some f' → s.f.fin v = some f' := fun {h' v f'} h => by
            unfold LF.finish at h
            rw [ht] at h
            simp only at h
            cases hf : s.f.fin v with
            | none => rw [hf] at h; cases h
            | some f1 => rw [hf] at h; simpa [recheck] using h
          unfold exOp at e
          cases hkk : kindOf E q.o.op with
          | eff => exact absurd hkk hk
          | pure =>
            rw [hkk] at e
            simp only at e
            cases hx : exPure E (rho s.f.tmps) q.o.op with
            | none => rw [hx] at e; cases e
            | some v =>
              rw [hx] at e
              simp only [Option.map_some, onNext] at e
              rw [Option.map_eq_some_iff] at e
              obtain ⟨f', hf, rfl⟩ := e
              refine lay v s.h f' (hfin hf) R (Nat.le_refl _) (fun _ _ h => h) (fun d hd hag => ?_) (fun b hb => by rw [hkk] at hb; cases hb) rfl
              obtain ⟨k1, k2⟩ := keep hag
              rw [hw] at k2
              refine ⟨⟨d, v, hd, T.get_set_same _ _ _, .inr ⟨k2, .inl ⟨hkk, by rw [exPure_congr _ k1]; exact hx⟩⟩⟩, fun d' v' _ _ _ => ⟨fun h => ?_, fun h => ?_⟩⟩
              · rw [hkk] at h; cases h
              · rw [hkk] at h; cases h
          | read =>
            rw [hkk] at e
            simp only at e
            cases hx : exRead E s.h (rho s.f.tmps) q.o.op with
            | none => rw [hx] at e; cases e
            | some v =>
              rw [hx] at e
              simp only [Option.map_some, onNext] at e
              rw [Option.map_eq_some_iff] at e
              obtain ⟨f', hf, rfl⟩ := e
              refine lay v s.h f' (hfin hf) R (Nat.le_refl _) (fun _ _ h => h) (fun d hd hag => ?_) (fun b hb => by rw [hkk] at hb; cases hb) rfl
              obtain ⟨k1, k2⟩ := keep hag
              rw [hw] at k2
              refine ⟨⟨d, v, hd, T.get_set_same _ _ _, .inr ⟨k2, .inr (.inl hkk)⟩⟩, fun d' v' hd' hv' _ => ⟨fun _ => ?_, fun h => ?_⟩⟩
              · rw [hd] at hd'; cases hd'
                rw [T.get_set_same] at hv'; cases hv'
                rw [exRead_congr _ _ k1]; exact hx
              · rw [hkk] at h; cases h
          | alloc =>
            rw [hkk] at e
            simp only at e
            cases hx : exAlloc E s.h (rho s.f.tmps) q.o.op with
            | none => rw [hx] at e; cases e
            | some x =>
              obtain ⟨ob, mk⟩ := x
              rw [hx] at e
              simp only [Option.map_some, onNext] at e
              rw [Option.map_eq_some_iff] at e
              obtain ⟨f', hf, rfl⟩ := e
              obtain ⟨n1, n2⟩ := exAlloc_new EO hx
              refine lay (mk s.h.next) (s.h.new ob) f' (hfin hf) (R.newL ob n1) (by simp [H.new]) (new_mono R ob) (fun d hd hag => ?_) (fun b _ hb => by rw [n2] at hb; cases hb; exact Nat.le_refl _) rfl
              obtain ⟨k1, k2⟩ := keep hag
              rw [hw] at k2
              refine ⟨⟨d, _, hd, T.get_set_same _ _ _, .inr ⟨k2, .inr (.inr ⟨hkk, s.h.next, n2 _, hn, by simp [H.new], R.none_of_ge (Nat.le_refl _)⟩)⟩⟩, fun d' v' hd' hv' _ => ⟨fun h => ?_, fun _ => ?_⟩⟩
              · rw [hkk] at h; cases h
              · rw [hd] at hd'; cases hd'
                rw [T.get_set_same] at hv'; cases hv'
                exact ⟨s.h.next, s.h, ob, ob, mk, n2 _, rfl, by rw [exAlloc_congr _ _ k1]; exact hx, rfl, by simp [H.new, T.get_set], SameO.refl ob⟩
      · exfalso
        simp only [List.cons.injEq] at e1
        obtain ⟨e1, _⟩ := e1
        have := (hall r (mem_ready'.1 (by rw [e2]; simp : r ∈ Lm.ready done all)).1).eff
        rw [e3] at this
        rw [e1] at hk
        apply hk
        simpa using this.symm
end
end Go.Lm

/- Steps of control. -/
namespace Go.Lm

theorem FB.mode_run {σ : Sig} {f : LF} {fr : Frame} (b : FB σ f fr) (h : f.mode = .run) : fr.mode = .run := by rw [b.mode, h]; rfl

theorem FTop.plain {E : Env} {σ : Sig} {lo hi : Nat} {h : H} {f : LF} {fr : Frame} (S : FTop E σ lo hi h f fr) (hno : ∀ ops l k, f.todo ≠ .ops ops true l :: k) : FPlain σ f fr := by
  obtain ⟨_, S⟩ := S
  rcases S with S | ⟨_, ops, rest, t, k, all, done, names, writes, prior, B, D⟩
  · exact S
  · exact absurd D.ftodo (hno _ _ _)

theorem FTop.plainM {E : Env} {σ : Sig} {lo hi : Nat} {h : H} {f : LF} {fr : Frame} (S : FTop E σ lo hi h f fr) (hm : f.mode ≠ .run) : FPlain σ f fr := by
  obtain ⟨_, S⟩ := S
  rcases S with S | ⟨hm', _⟩
  · exact S
  · exact absurd hm' hm

theorem exitTo_map {σ : Sig} (id : Nat) : ∀ (k : List LItem), exitTo id (k.map (physItem σ)) = (exitToL id k).map (List.map (physItem σ)) ∧ ∀ k', exitToL id k = some k' → ∀ it ∈ k', it ∈ k
  | [] => ⟨rfl, fun k' h => by cases h⟩
  | it :: k => by
    obtain ⟨h1, h2⟩ := exitTo_map (σ := σ) id k
    cases it with
    | inBlock id' =>
      simp only [List.map_cons, physItem, exitTo, exitToL, nbeq]
      by_cases e : id' = id
      · subst e
        simp only [beq_self_eq_true, if_true, decide_true, cond_true, Option.map_some]
        exact ⟨trivial, fun k' hk => by cases hk; exact fun it hit => List.mem_cons_of_mem _ hit⟩
      · have : (id' == id) = false := by simpa using e
        simp only [this, Bool.false_eq_true, if_false, e, decide_false, cond_false]
        exact ⟨h1, fun k' hk it hit => List.mem_cons_of_mem _ (h2 k' hk it hit)⟩
    | _ =>
      simp only [List.map_cons, physItem, exitTo, exitToL]
      exact ⟨h1, fun k' hk it hit => List.mem_cons_of_mem _ (h2 k' hk it hit)⟩

theorem gotoIn_map {σ : Sig} (l : Nat) : ∀ (k : List LItem), gotoIn l (k.map (physItem σ)) = (gotoInL l k).map (List.map (physItem σ)) ∧ ∀ k', gotoInL l k = some k' → ∀ it ∈ k', (∃ c, it = .code c) ∨ it ∈ k
  | [] => ⟨rfl, fun k' h => by cases h⟩
  | it :: k => by
    obtain ⟨h1, h2⟩ := gotoIn_map (σ := σ) l k
    cases it with
    | inScope body =>
      simp only [List.map_cons, physItem, gotoIn, gotoInL]
      cases hf : findLabel body l with
      | none => exact ⟨h1, fun k' hk it hit => (h2 k' hk it hit).imp id (List.mem_cons_of_mem _)⟩
      | some rest =>
        refine ⟨rfl, fun k' hk it hit => ?_⟩
        cases hk
        rcases List.mem_cons.1 hit with rfl | hit
        · exact .inl ⟨_, rfl⟩
        · exact .inr hit
    | _ =>
      simp only [List.map_cons, physItem, gotoIn, gotoInL]
      exact ⟨h1, fun k' hk it hit => (h2 k' hk it hit).imp id (List.mem_cons_of_mem _)⟩

theorem dropWhile_physP (σ : Sig) : ∀ l : List PanicEntry, (l.map (physP σ)).dropWhile (!·.goexit) = (l.dropWhile (!·.goexit)).map (physP σ)
  | [] => rfl
  | e :: l => by
    simp only [List.map_cons, List.dropWhile_cons, physP]
    cases he : e.goexit with
    | true => simp [physP, he]
    | false => simp only [Bool.not_false, if_true]; exact dropWhile_physP σ l

section
variable {E : Env} {P : Program} (EO : EnvOK E P) (SO : SpOK E P) {N0 : Nat} {w0 : World}

/-- the frame goes on elsewhere -/
theorem goto_sound {s : LS} {fr : Frame} {crs bot : List Frame} {w w' : World} {σ : Sig} {n : Nat} (hbot : BotOK s.f s.cs) (R : HRel N0 w0 σ s.h w') (hn : n ≤ s.h.next) (hb : FB σ s.f fr) (S : FPlain σ s.f fr) (U : Susp E σ n s.cs crs) {todo : List LItem} (hw : ∀ it ∈ todo, WfItem σ it)
    (hst : step P (lone fr (crs ++ bot) w) = .next (lone { fr with todo := todo.map (physItem σ) } (crs ++ bot) w')) : Reach E P N0 w0 bot fr crs w (.go { s with f := { s.f with todo } }) :=
  ⟨_, crs, w', .one hst, hbot.congr rfl, σ, n, R, hn, ⟨⟨hb.fn, hb.kind, hb.mode, hb.wmode, hb.rnd, hb.wrnd, hb.defers, hb.wdefers, hb.kinds⟩, .inl ⟨S.tmps, S.size, rfl, hw⟩⟩, U⟩

include EO in
theorem ret_sound {s : LS} {fr : Frame} {crs bot : List Frame} {w : World} {σ : Sig} {n : Nat} (hbot : BotOK s.f s.cs) (R : HRel N0 w0 σ s.h w) (hn : n ≤ s.h.next) (hb : FB σ s.f fr) (U : Susp E σ n s.cs crs) {v : Value} (hv : Wf σ v) (hcs : s.cs ≠ []) {o : Out} (e : doRet E s v = some o) :
    ∃ s' fr' crs', o = .go s' ∧ (doReturn P true fr (crs ++ bot) none (phys σ v) w).bare = .go (gor fr' (crs' ++ bot)) w ∧ Joined E N0 w0 s' fr' crs' w := by
  cases hc : s.cs with
  | nil => exact absurd hc hcs
  | cons c rest =>
    rw [hc] at U hbot
    cases crs with
    | nil => exact U.elim
    | cons cfr crest =>
      obtain ⟨m, hmn, Sc, U'⟩ := U
      unfold doRet at e
      rw [hc] at e
      simp only at e
      rcases hb.kinds with hk | hk
      · rw [hk] at e
        simp only at e
        rw [Option.map_eq_some_iff] at e
        obtain ⟨c', hf, rfl⟩ := e
        have hm := finish_keeps hf
        refine ⟨_, cfr.finish (phys σ v), crest, rfl, ?_, BotOK.congr (f' := c') hbot hm.1, σ, m, R, by simp only; omega, ?_, U'⟩
        · simp [doReturn, hb.kind, hk, gor]
        · -- what was known at n is known at the heap's size
          have Sc' : FSus E σ m s.h.next c cfr := by
            obtain ⟨b, Sc⟩ := Sc
            refine ⟨b, Sc.imp id ?_⟩
            rintro ⟨hm, ops, s', rest', t, k, all, done, names, writes, prior, B, he, D⟩
            exact ⟨hm, ops, s', rest', t, k, all, done, names, writes, prior, B, he, D.ftodo, D.todo, D.wk, D.size,
              { D.draw with lag := fun q hq hB => (D.draw.lag q hq hB).keep (fun _ _ => rfl) (fun _ _ => rfl) hn (fun b _ _ _ _ _ _ _ hs => hs), now := fun h e => by cases e }⟩
          exact finish_sound EO R Sc' hv (Nat.le_refl _) hf
      · rw [hk] at e
        simp only at e
        have hmode := Sc.1.mode
        have hwm := Sc.1.wmode
        have fin : ∀ (md : FrameMode), c.mode ≠ .run → WfMode σ md → o = .go { s with f := { c with mode := md }, cs := rest } → (doReturn P true fr (cfr :: crest ++ bot) none (phys σ v) w).bare = .go (gor { cfr with mode := physMode σ md } (crest ++ bot)) w →
            ∃ s' fr' crs', o = .go s' ∧ (doReturn P true fr (cfr :: crest ++ bot) none (phys σ v) w).bare = .go (gor fr' (crs' ++ bot)) w ∧ Joined E N0 w0 s' fr' crs' w := by
          intro md hcm hw ho hd
          have hpl := Sc.plainM hcm
          have hbc := Sc.1
          exact ⟨_, _, crest, ho, hd, BotOK.congr (f := c) (f' := { c with mode := md }) hbot rfl, σ, m, R, by simp only; omega, ⟨⟨hbc.fn, hbc.kind, rfl, hw, hbc.rnd, hbc.wrnd, hbc.defers, hbc.wdefers, hbc.kinds⟩, .inl ⟨hpl.tmps, hpl.size, hpl.todo, hpl.wtodo⟩⟩, U'⟩
        cases hcm : c.mode with
        | run => rw [hcm] at e; cases e
        | returning =>
          rw [hcm] at e hmode
          simp only [Option.some.injEq] at e
          refine fin .returning (by rw [hcm]; simp) trivial (by rw [← e, ← hcm]) ?_
          have : cfr = { cfr with mode := .returning } := by
            have : cfr.mode = .returning := hmode
            rw [← this]
          simp only [doReturn, List.cons_append, hb.kind, hk, hmode, physMode, GStep.bare, gor]
          rw [← this]
        | panicking chain =>
          rw [hcm] at e hmode hwm
          simp only [Option.some.injEq] at e
          have hself : cfr = { cfr with mode := .panicking (chain.map (physP σ)) } := by
            have : cfr.mode = .panicking (chain.map (physP σ)) := hmode
            rw [← this]
          cases chain with
          | nil =>
            simp only at e
            refine fin (.panicking []) (by rw [hcm]; simp) (by simp [WfMode]) (by rw [← e, ← hcm]) ?_
            simp only [doReturn, List.cons_append, hb.kind, hk, hmode, physMode, GStep.bare, gor, List.map_nil]
            rw [List.map_nil] at hself
            rw [← hself]
          | cons en older =>
            obtain ⟨ev, er, eg⟩ := en
            cases er with
            | false =>
              simp only at e
              refine fin (.panicking (⟨ev, false, eg⟩ :: older)) (by rw [hcm]; simp) hwm (by rw [← e, ← hcm]) ?_
              simp only [doReturn, List.cons_append, hb.kind, hk, hmode, physMode, GStep.bare, gor, List.map_cons, physP]
              simp only [List.map_cons, physP] at hself
              rw [← hself]
            | true =>
              simp only at e
              cases hdw : older.dropWhile (!·.goexit) with
              | nil =>
                rw [hdw] at e
                simp only at e
                refine fin .returning (by rw [hcm]; simp) trivial e.symm ?_
                have hd2 := dropWhile_physP σ older
                rw [hdw] at hd2
                simp only [doReturn, List.cons_append, hb.kind, hk, hmode, physMode, GStep.bare, gor, List.map_cons, physP]
                rw [hd2]
                rfl
              | cons x xs =>
                rw [hdw] at e
                simp only at e
                refine fin (.panicking (x :: xs)) (by rw [hcm]; simp) (fun en hen => hwm en (List.mem_cons_of_mem _ ((List.dropWhile_sublist (!·.goexit)).subset (by rw [hdw]; exact hen)))) e.symm ?_
                have hd2 := dropWhile_physP σ older
                rw [hdw] at hd2
                simp only [doReturn, List.cons_append, hb.kind, hk, hmode, physMode, GStep.bare, gor, List.map_cons, physP]
                simp only [physP, List.map_cons] at hd2
                rw [hd2]
end
end Go.Lm

/- Each step of the logical machine. -/
namespace Go.Lm

section
variable {E : Env} {P : Program} (EO : EnvOK E P) (SO : SpOK E P) {N0 : Nat} {w0 : World}

/-- a range-over-func loop's object -/
theorem loop_obj {σ : Sig} {w : World} {h : H} (R : HRel N0 w0 σ h w) {l : Nat} {p : Place} (hp : σ l = some p) {st : LoopState} {pending : Option Code} {fn : FuncId} {tmps : T Value} {nt : Nat} {params : List Tmp} {assign body : Code} {defers : Nat}
    (ho : h.objs.get l = some (.loop st pending fn tmps nt params assign body defers)) :
    ∃ r : Loop, w.heap[p.blk]? = some (.loop r) ∧ r.state = st ∧ r.pending = pending ∧ r.defers = σ.blk defers ∧ (∃ q, σ defers = some q) ∧
      ∀ st' p', HRel N0 w0 σ (h.put l (.loop st' p' fn tmps nt params assign body defers)) { w with heap := w.heap.setIfInBounds p.blk (.loop { r with state := st', pending := p' }) } := by
  obtain ⟨h1, h2, a, h3, h4, h5⟩ := R.obj l p _ hp ho
  have hlt := (R.rng l p hp).2
  refine ⟨_, h3, rfl, rfl, rfl, h2, fun st' p' => R.putObj hp h1 (by simp) _ ⟨h1, h2, a, ?_, h4, h5⟩⟩
  simp [hlt]

theorem run_newObj2 {w : World} (o : Obj) : (newObj o).run P w = .ok w.heap.size (w.alloc o) := rfl

theorem run_getLoop {w : World} {b : Nat} {r : Loop} (h : w.heap[b]? = some (.loop r)) : (Instr.getLoop b).run P w = .ok r w := by
  simp [Instr.getLoop, getObj, Sem.run, h]
theorem run_setObj' {w : World} {b : Nat} {r : Loop} (h : w.heap[b]? = some (.loop r)) (o' : Obj) : (setObj b o').run P w = .ok () { w with heap := w.heap.setIfInBounds b o' } := by
  simp [setObj, Sem.run, h]
theorem run_setDef {w : World} {b : Nat} {r : Option (List Deferred)} (h : w.heap[b]? = some (.deferred r)) (o' : Obj) : (setObj b o').run P w = .ok () { w with heap := w.heap.setIfInBounds b o' } := by
  simp [setObj, Sem.run, h]

/-- the value of results -/
def resVal : List Value → Value
  | [v] => v
  | vs => .tuple ⟨vs⟩

theorem st_unwind {fr : Frame} {cs : List Frame} {w : World} (h : fr.mode ≠ .run) : stepG P true (gor fr cs) w = unwind P true fr cs none w := by
  unfold stepG gor
  simp only

include EO

theorem results_sound {σ : Sig} {w : World} {h : H} (R : HRel N0 w0 σ h w) {t : T Value} {a : Array Value} (T : TmpRel σ t a) : ∀ {l : List ResultVar} {vs : List Value}, resultsL E h t l = some vs →
    (l.mapM (fun | .tmp t => pure (a.getD t undef) | .cell b ty => do loadVar ty (← asAddr (a.getD b undef)) : ResultVar → Sem Value)).run P w = .ok (vs.map (phys σ)) w ∧ ∀ v ∈ vs, Wf σ v
  | [], vs, e => by
    simp only [resultsL, Option.some.injEq] at e
    subst e
    simp
  | .tmp n :: l, vs, e => by
    simp only [resultsL] at e
    split at e
    · rename_i us hus
      simp only [Option.some.injEq] at e
      subst e
      obtain ⟨h1, h2⟩ := results_sound R T hus
      refine ⟨?_, fun v hv' => ?_⟩
      · rw [List.mapM_cons]
        simp only [Sem.run_bind, Sem.run_pure, Result.andThen_ok, h1, List.map_cons, T.getD n]
        cases t.get n <;> rfl
      · rcases List.mem_cons.1 hv' with rfl | hv'
        · have := T.wf n
          cases hn : t.get n with
          | none => rw [hn] at this; exact this
          | some v => rw [hn] at this; exact this
        · exact h2 v hv'
    · cases e
  | .cell b ty :: l, vs, e => by
    simp only [resultsL] at e
    split at e
    · rename_i b0 o hb
      split at e
      · rename_i v us hv hus
        simp only [Option.some.injEq] at e
        subst e
        obtain ⟨h1, h2⟩ := results_sound R T hus
        have hg := T.getD b
        have hwf := T.wf b
        rw [hb] at hg hwf
        simp only [Option.getD_some] at hg hwf
        cases hwf with
        | ptr _ _ p hp =>
          obtain ⟨l1, l2, _⟩ := load_sound EO (P := P) R hp hv
          refine ⟨?_, fun x hx => ?_⟩
          · rw [List.mapM_cons]
            have ha : ∀ a : Addr, (asAddr (.pointer (some a))).run P w = .ok a w := fun _ => rfl
            simp only [Sem.run_bind, hg, phys_ptr, Option.map_some, ha, Sem.run_pure, Result.andThen_ok, Sig.addr, Sig.blk, Sig.dlt, hp, l1, h1, List.map_cons]
          · rcases List.mem_cons.1 hx with rfl | hx
            · exact l2
            · exact h2 x hx
      · cases e
    · cases e

theorem results_run {σ : Sig} {w : World} {h : H} (R : HRel N0 w0 σ h w) {t : T Value} {a : Array Value} (T : TmpRel σ t a) {fn : Func} {vs : List Value} (e : resultsL E h t fn.results.toList = some vs) :
    (results fn a).run P w = .ok (phys σ (resVal vs)) w ∧ Wf σ (resVal vs) := by
  obtain ⟨h1, h2⟩ := results_sound EO (P := P) R T e
  refine ⟨?_, ?_⟩
  · unfold results
    rw [Array.mapM_eq_mapM_toList, map_eq_pure_bind]
    simp only [Sem.run_bind]
    erw [h1]
    simp only [Result.andThen_ok, Sem.run_pure]
    congr 1
    match vs with
    | [] => simp [resVal]
    | [v] => simp [resVal]
    | a :: b :: l => simp [resVal]
  · match vs with
    | [] => exact .tuple _ h2
    | [v] => exact h2 v (by simp)
    | a :: b :: l => exact .tuple _ h2

/-- a frame is left -/
theorem leave_sound {s : LS} {fr : Frame} {crs bot : List Frame} {w : World} {σ : Sig} {n : Nat} (hbot : BotOK s.f s.cs) (R : HRel N0 w0 σ s.h w) (hn : n ≤ s.h.next) (hb : FB σ s.f fr) (S : FPlain σ s.f fr) (U : Susp E σ n s.cs crs) {jump : Option Code} {o : Out} (e : leave E s jump = some o)
    (h1 : fr.roundOf = none → (jump = none ∨ jump = some .ret) → (stepG P true (gor fr (crs ++ bot)) w).bare = .go (gor { fr with mode := .returning } (crs ++ bot)) w)
    (h2 : ∀ l v w', fr.roundOf = some l → (Instr.endRound l jump).run P w = .ok v w' → (stepG P true (gor fr (crs ++ bot)) w).bare = (doReturn P true fr (crs ++ bot) none v w').bare) : Reach E P N0 w0 bot fr crs w o := by
  unfold leave at e
  split at e
  · rename_i hr
    have hfr : fr.roundOf = none := by rw [hb.rnd, hr]; rfl
    have hj : (jump = none ∨ jump = some .ret) ∧ o = .go { s with f := { s.f with mode := .returning } } := by
      split at e
      · simp only [Option.some.injEq] at e; exact ⟨.inl rfl, e.symm⟩
      · simp only [Option.some.injEq] at e; exact ⟨.inr rfl, e.symm⟩
      · cases e
    obtain ⟨hj, rfl⟩ := hj
    exact ⟨_, crs, w, .one (st_go (h1 hfr hj)), hbot.congr rfl, σ, n, R, hn, ⟨⟨hb.fn, hb.kind, rfl, trivial, hb.rnd, hb.wrnd, hb.defers, hb.wdefers, hb.kinds⟩, .inl ⟨S.tmps, S.size, S.todo, S.wtodo⟩⟩, U⟩
  · rename_i l hr
    obtain ⟨p, hp⟩ := hb.wrnd l hr
    have hfr : fr.roundOf = some p.blk := by rw [hb.rnd, hr]; simp [Sig.blk, hp]
    split at e
    · rename_i h' hput
      split at e
      · cases e
      · rename_i hcs
        unfold putLoop at hput
        split at hput
        · rename_i st pending fn tmps nt params assign body defers ho
          simp only [Option.some.injEq] at hput
          subst hput
          obtain ⟨r, g1, g2, g3, g4, g5, g6⟩ := loop_obj R hp ho
          have R' := g6 (cond jump.isNone .ready .done) jump
          have hrun : (Instr.endRound p.blk jump).run P w = .ok (.bool jump.isNone) { w with heap := w.heap.setIfInBounds p.blk (.loop { r with state := (cond jump.isNone .ready .done), pending := jump }) } := by
            simp only [Instr.endRound, Sem.run_bind, run_getLoop g1, Result.andThen_ok, run_setObj' g1, Sem.run_pure]
            cases jump <;> rfl
          have hst := h2 p.blk _ _ hfr hrun
          obtain ⟨s', fr', crs', rfl, hd, J⟩ := ret_sound EO (s := { s with h := s.h.put l (.loop (cond jump.isNone .ready .done) jump fn tmps nt params assign body defers) }) (bot := bot) (P := P) hbot R' hn hb U (.bool jump.isNone) hcs e
          rw [phys_bool] at hd
          exact ⟨fr', crs', _, .one (st_go (by rw [hst, hd])), J⟩
        · cases hput
    · cases e

include SO
set_option maxHeartbeats 1000000 in
theorem range_go {s : LS} {fr : Frame} {crs bot : List Frame} {w : World} {σ : Sig} {n : Nat} (hbot : BotOK s.f s.cs) (hmode : s.f.mode = .run) (hn : n ≤ s.h.next) (hb : FB σ s.f fr) (S : FPlain σ s.f fr) (U : Susp E σ n s.cs crs)
    {g : Operand} {params : Array Tmp} {assign body : Code} {k : List LItem} (ht : s.f.todo = .code (.rangeFunc g params assign body) :: k) {fn : Fn} {first captured : Array Value} (hg : rho s.f.tmps g = some (.func fn first captured))
    {σ1 : Sig} {w1 : World} {h1 : H} {d : Nat} {q : Place} {mark : List Deferred} (R1 : HRel N0 w0 σ1 h1 w1) (g1 : Grow s.h.next σ σ1) (hn1 : s.h.next ≤ h1.next) (hd : σ1 d = some q) (hmark : ∀ x ∈ mark, WfD σ1 x)
    (hrun : (Instr.enterLoop fr.fn fr.tmps params assign body fr.roundOf).run P w = .ok (w1.heap.size, mark.map (physD σ1)) (w1.alloc (.loop { state := .ready, pending := none, fn := fr.fn, tmps := fr.tmps, params, assign, body, defers := σ1.blk d })))
    {nx : Next} (inv : invokeL E (h1.new (.loop .ready none s.f.fn s.f.tmps s.f.nt params.toList assign body d)) (.fn fn captured) (first.toList ++ [.func (.yield h1.next) #[] #[]]) = some nx) {o : Out}
    (e : onNext E { s with f := { s.f with todo := .inRangeFunc h1.next :: k, defers := mark ++ s.f.defers }, h := h1.new (.loop .ready none s.f.fn s.f.tmps s.f.nt params.toList assign body d) } nx = some o) : Reach E P N0 w0 bot fr crs w o := by
  have hfm : fr.mode = .run := hb.mode_run hmode
  have htd : fr.todo = .code (.rangeFunc g params assign body) :: k.map (physItem σ) := by rw [S.todo, ht]; rfl
  have hk : ∀ it ∈ k, WfItem σ it := fun it hit => S.wtodo it (by rw [ht]; simp [hit])
  obtain ⟨p, p1, p2, p3, R2⟩ := new_obj EO R1 (o := .loop .ready none s.f.fn s.f.tmps s.f.nt params.toList assign body d) (ob := .loop { state := .ready, pending := none, fn := fr.fn, tmps := fr.tmps, params, assign, body, defers := σ1.blk d }) (by simp)
    (fun τ p hle hrow hblk => ⟨hrow, ⟨q, hle _ _ hd⟩, fr.tmps, by
      rw [hblk]
      have : (w1.alloc (.loop { state := .ready, pending := none, fn := fr.fn, tmps := fr.tmps, params, assign, body, defers := σ1.blk d })).heap[w1.heap.size]? = some (.loop { state := .ready, pending := none, fn := fr.fn, tmps := fr.tmps, params, assign, body, defers := σ1.blk d }) := by
        show (w1.heap.push _)[w1.heap.size]? = _
        simp
      rw [this, hle.blk hd, hb.fn], S.tmps.le (g1.le.trans hle), S.size⟩)
  have hle2 : σ.Le (σ1.put h1.next p) := g1.le.trans p3.le
  have g2 : Grow s.h.next σ (σ1.put h1.next p) := g1.trans p3 hn1
  generalize hσ2 : σ1.put h1.next p = σ2 at *
  have hblk2 : σ2.blk h1.next = w1.heap.size := by rw [← hσ2]; simp [Sig.blk, Sig.put_same, p1]
  have hp2 : σ2 h1.next = some p := by rw [← hσ2]; exact Sig.put_same _ _ _
  have RR : RhoRel σ (rho s.f.tmps) fr.eval := by
    intro x v hx
    have hx' : rhoOn (match x with | .tmp n => [n] | _ => []) s.f.tmps x = some v := by
      cases x with
      | tmp n => simp only [rhoOn, List.mem_singleton, if_true]; exact hx
      | _ => exact hx
    exact rhoOn_rel (fun m _ => ⟨S.tmps.getD m, S.tmps.wf m⟩) x v hx'
  obtain ⟨v1, v2⟩ := RR g _ hg
  have hfnw : WfFn σ fn ∧ (∀ v ∈ first.toList, Wf σ v) ∧ ∀ v ∈ captured.toList, Wf σ v := by
    cases v2 with
    | func f _ _ ha hc => exact ⟨.func f, ha, hc⟩
    | yield l p h => exact ⟨.yield l p h, by simp, by simp⟩
  obtain ⟨wf1, wf2, wf3⟩ := hfnw
  have wf1' : WfFn σ2 fn := by
    cases wf1 with
    | func f => exact .func f
    | method m => exact .method m
    | yield l p h => exact .yield l p (hle2 _ _ h)
  have A := invokeL_sound EO SO (P := P) R2 (t := .fn fn captured) (args := first.toList ++ [.func (.yield h1.next) #[] #[]]) (fun fn' c' he => by cases he; exact ⟨wf1', fun v hv => (wf3 v hv).le hle2⟩) (fun v hv => by
    rcases List.mem_append.1 hv with hv | hv
    · exact (wf2 v hv).le hle2
    · simp only [List.mem_singleton] at hv
      subst hv
      exact .yield _ p hp2) inv
  -- the machine's frame
  have hcall : (do let dd ← resolve ({ fr with todo := .inRangeFunc w1.heap.size :: k.map (physItem σ), defers := mark.map (physD σ1) ++ fr.defers } : Frame).eval { callee := .value g, args := #[.const (.func (.yield w1.heap.size) #[] #[])], argTypes := #[] } 0; invoke dd.target dd.args : Sem Go.Next).run P
      (w1.alloc (.loop { state := .ready, pending := none, fn := fr.fn, tmps := fr.tmps, params, assign, body, defers := σ1.blk d })) =
      (invoke (physT σ2 (.fn fn captured)) ⟨(first.toList ++ [Value.func (.yield h1.next) #[] #[]]).map (phys σ2)⟩).run P (w1.alloc (.loop { state := .ready, pending := none, fn := fr.fn, tmps := fr.tmps, params, assign, body, defers := σ1.blk d })) := by
    have hev : ({ fr with todo := .inRangeFunc w1.heap.size :: k.map (physItem σ), defers := mark.map (physD σ1) ++ fr.defers } : Frame).eval g = phys σ2 (.func fn first captured) := by
      have : ({ fr with todo := .inRangeFunc w1.heap.size :: k.map (physItem σ), defers := mark.map (physD σ1) ++ fr.defers } : Frame).eval g = fr.eval g := by cases g <;> rfl
      rw [this, v1, phys_le hle2 v2]
    have hyield : phys σ2 (.func (.yield h1.next) #[] #[]) = .func (.yield w1.heap.size) #[] #[] := by simp [physFn, hblk2]
    simp only [resolve, hev, phys_func, Deferred.ofValue, Sem.run_bind, Sem.run_pure, Result.andThen_ok, physT]
    congr 2
    apply Array.ext'
    simp [Frame.eval, physFn, hblk2]
  have A' := After.congr hcall A
  have hb2 := hb.le hle2
  have hs : ∀ cs', (stepG P true (gor fr cs') w).bare = (stepG.apply P true { fr with todo := .inRangeFunc w1.heap.size :: k.map (physItem σ), defers := mark.map (physD σ1) ++ fr.defers } cs' none
      (do let dd ← resolve ({ fr with todo := .inRangeFunc w1.heap.size :: k.map (physItem σ), defers := mark.map (physD σ1) ++ fr.defers } : Frame).eval { callee := .value g, args := #[.const (.func (.yield w1.heap.size) #[] #[])], argTypes := #[] } 0; invoke dd.target dd.args)
      (w1.alloc (.loop { state := .ready, pending := none, fn := fr.fn, tmps := fr.tmps, params, assign, body, defers := σ1.blk d }))).bare := by
    intro cs'
    simp [stepG, gor, hfm, stepG.exec, htd, hrun]
  refine onNext_sound EO (fr := { fr with todo := .inRangeFunc w1.heap.size :: k.map (physItem σ), defers := mark.map (physD σ1) ++ fr.defers }) (s := { s with f := { s.f with todo := .inRangeFunc h1.next :: k, defers := mark ++ s.f.defers }, h := h1.new (.loop .ready none s.f.fn s.f.tmps s.f.nt params.toList assign body d) }) R2 (n := n) (by simp only [H.new]; omega)
    ⟨⟨hb2.fn, hb2.kind, hb2.mode, hb2.wmode, hb2.rnd, hb2.wrnd, ?_, fun x hx => ?_, hb2.kinds⟩, .inl ⟨S.tmps.le hle2, S.size, ?_, fun it hit => ?_⟩⟩ (U.grow g2 hn) (hbot.congr rfl) hs (fun d' a' b' k' hc => by simp at hc) A' e
  · simp only [List.map_append]
    rw [hb2.defers]
    congr 1
    exact List.map_congr_left fun x hx => (physD_le p3.le (hmark x hx)).symm
  · rcases List.mem_append.1 hx with hx | hx
    · exact (hmark x hx).le p3.le
    · exact hb2.wdefers x hx
  · simp only [List.map_cons, physItem, hblk2]
    rw [physItems_le hle2 hk]
  · rcases List.mem_cons.1 hit with rfl | hit
    · exact .inRangeFunc _ p hp2
    · exact (hk it hit).le hle2

set_option maxHeartbeats 1000000 in
theorem lexec_sound {s : LS} {fr : Frame} {crs bot : List Frame} {w : World} (J : Joined E N0 w0 s fr crs w) (hmode : s.f.mode = .run) {o : Out} (e : lexec E s = some o) : Reach E P N0 w0 bot fr crs w o := by
  have J0 := J
  obtain ⟨hbot, σ, n, R, hn, T, U⟩ := J
  have hfm : fr.mode = .run := T.1.mode_run hmode
  unfold lexec at e
  split at e
  · -- the end
    rename_i ht
    have S := T.plain (fun _ _ _ h => by rw [ht] at h; cases h)
    have htd : fr.todo = [] := by rw [S.todo, ht]; rfl
    refine leave_sound EO hbot R hn T.1 S U e (fun hr hj => ?_) (fun l v w' hr hrun => ?_)
    · simp [stepG, gor, hfm, stepG.exec, htd, hr]
    · simp [stepG, gor, hfm, stepG.exec, htd, hr, hrun]
  · rename_i ops dr p l k ht
    exact ops_sound EO SO J0 hmode ht e
  · -- a region's end
    rename_i ops dr k ht
    unfold goTo at e
    simp only [Option.some.injEq] at e
    subst e
    obtain ⟨hb, S⟩ := T
    rcases S with S | ⟨_, ops', rest', todo', k'', all, done, names, writes, prior, B, D⟩
    · have hwi := S.wtodo (.ops ops dr []) (by rw [ht]; simp)
      cases hwi with
      | ops _ _ hops =>
        have htd : fr.todo = .inRegion ops [] :: k.map (physItem σ) := by rw [S.todo, ht]; rfl
        exact goto_sound hbot R hn hb S U (fun it hit => S.wtodo it (by rw [ht]; simp [hit])) (st_go (by simp [stepG, gor, hfm, stepG.exec, htd]))
    · have hft := D.ftodo
      rw [ht] at hft
      simp only [List.cons.injEq, LItem.ops.injEq] at hft
      obtain ⟨⟨rfl, rfl, rfl⟩, rfl⟩ := hft
      obtain ⟨σ', w', fr', B', s1, R1, g1, b1, D1⟩ := sync_end EO (cs := crs ++ bot) R hb hmode D
      have hfm' := b1.mode_run hmode
      have hall := D1.draw.all_done
      have hT : TmpRel σ' s.f.tmps fr'.tmps := ⟨fun x hx => by
          have := (D1.draw.tmps x (fun q hq hB => absurd (hall q hq) hB)).1
          rw [Array.getD_eq_getD_getElem?, Array.getElem?_eq_getElem hx, Option.getD_some] at this
          rw [Array.getElem?_eq_getElem hx, this], fun x => (D1.draw.tmps x (fun q hq hB => absurd (hall q hq) hB)).2, D1.draw.out⟩
      refine Reach.of_steps s1 ⟨{ fr' with todo := k.map (physItem σ') }, crs, w', .one (st_go ?_), hbot.congr rfl, σ', n, R1, hn, ⟨⟨b1.fn, b1.kind, b1.mode, b1.wmode, b1.rnd, b1.wrnd, b1.defers, b1.wdefers, b1.kinds⟩, .inl ⟨hT, D1.size, rfl, D1.wk⟩⟩, U.grow g1 (Nat.le_refl _)⟩
      simp [stepG, gor, hfm', stepG.exec, D1.todo]
  · rename_i id k ht
    have S := T.plain (fun _ _ _ h => by rw [ht] at h; cases h)
    have htd : fr.todo = .inBlock id :: k.map (physItem σ) := by rw [S.todo, ht]; rfl
    unfold goTo at e
    simp only [Option.some.injEq] at e
    subst e
    exact goto_sound hbot R hn T.1 S U (fun it hit => S.wtodo it (by rw [ht]; simp [hit])) (st_go (by simp [stepG, gor, hfm, stepG.exec, htd]))
  · rename_i body k ht
    have S := T.plain (fun _ _ _ h => by rw [ht] at h; cases h)
    have htd : fr.todo = .inScope body :: k.map (physItem σ) := by rw [S.todo, ht]; rfl
    unfold goTo at e
    simp only [Option.some.injEq] at e
    subst e
    exact goto_sound hbot R hn T.1 S U (fun it hit => S.wtodo it (by rw [ht]; simp [hit])) (st_go (by simp [stepG, gor, hfm, stepG.exec, htd]))
  · rename_i body k ht
    have S := T.plain (fun _ _ _ h => by rw [ht] at h; cases h)
    have htd : fr.todo = .inLoop body :: k.map (physItem σ) := by rw [S.todo, ht]; rfl
    unfold goTo at e
    simp only [Option.some.injEq] at e
    subst e
    refine goto_sound hbot R hn T.1 S U (fun it hit => ?_) (st_go (by simp [stepG, gor, hfm, stepG.exec, htd, physItem]))
    simp only [List.mem_cons] at hit
    rcases hit with rfl | rfl | hit
    · exact .code _
    · exact .inLoop _
    · exact S.wtodo it (by rw [ht]; simp [hit])
  · -- code
    rename_i c k ht
    have S := T.plain (fun _ _ _ h => by rw [ht] at h; cases h)
    have htd : fr.todo = .code c :: k.map (physItem σ) := by rw [S.todo, ht]; rfl
    have hk : ∀ it ∈ k, WfItem σ it := fun it hit => S.wtodo it (by rw [ht]; simp [hit])
    split at e
    · refine leave_sound EO hbot R hn T.1 S U e (fun hr hj => ?_) (fun l v w' hr hrun => ?_)
      · simp [stepG, gor, hfm, stepG.exec, htd, hr]
      · simp [stepG, gor, hfm, stepG.exec, htd, hr, hrun]
    · unfold goTo at e
      simp only [Option.some.injEq] at e
      subst e
      exact goto_sound hbot R hn T.1 S U hk (st_go (by simp [stepG, gor, hfm, stepG.exec, htd]))
    · unfold goTo at e
      simp only [Option.some.injEq] at e
      subst e
      exact goto_sound hbot R hn T.1 S U hk (st_go (by simp [stepG, gor, hfm, stepG.exec, htd]))
    · rename_i a b
      unfold goTo at e
      simp only [Option.some.injEq] at e
      subst e
      refine goto_sound hbot R hn T.1 S U (fun it hit => ?_) (st_go (by simp [stepG, gor, hfm, stepG.exec, htd, physItem]))
      simp only [List.mem_cons] at hit
      rcases hit with rfl | rfl | hit
      · exact .code _
      · exact .code _
      · exact hk it hit
    · rename_i c thn els
      split at e
      · rename_i b hc
        unfold goTo at e
        simp only [Option.some.injEq] at e
        subst e
        have hev : fr.eval c = .bool b := by
          have : RhoRel σ (rho s.f.tmps) fr.eval := by
            intro x v hx
            have hx' : rhoOn (match x with | .tmp n => [n] | _ => []) s.f.tmps x = some v := by
              cases x with
              | tmp n => simp only [rhoOn, List.mem_singleton, if_true]; exact hx
              | _ => exact hx
            exact rhoOn_rel (fun m _ => ⟨S.tmps.getD m, S.tmps.wf m⟩) x v hx'
          have := (this c _ hc).1
          rw [this, phys_bool]
        refine goto_sound hbot R hn T.1 S U (fun it hit => ?_) (st_go (by cases b <;> simp [stepG, gor, hfm, stepG.exec, htd, hev, physItem]))
        simp only [List.mem_cons] at hit
        rcases hit with rfl | hit
        · exact .code _
        · exact hk it hit
      · cases e
    · rename_i id body
      unfold goTo at e
      simp only [Option.some.injEq] at e
      subst e
      refine goto_sound hbot R hn T.1 S U (fun it hit => ?_) (st_go (by simp [stepG, gor, hfm, stepG.exec, htd, physItem]))
      simp only [List.mem_cons] at hit
      rcases hit with rfl | rfl | hit
      · exact .code _
      · exact .inBlock _
      · exact hk it hit
    · rename_i body
      unfold goTo at e
      simp only [Option.some.injEq] at e
      subst e
      refine goto_sound hbot R hn T.1 S U (fun it hit => ?_) (st_go (by simp [stepG, gor, hfm, stepG.exec, htd, physItem]))
      simp only [List.mem_cons] at hit
      rcases hit with rfl | rfl | hit
      · exact .code _
      · exact .inLoop _
      · exact hk it hit
    · rename_i body
      unfold goTo at e
      simp only [Option.some.injEq] at e
      subst e
      refine goto_sound hbot R hn T.1 S U (fun it hit => ?_) (st_go (by simp [stepG, gor, hfm, stepG.exec, htd, physItem]))
      simp only [List.mem_cons] at hit
      rcases hit with rfl | rfl | hit
      · exact .code _
      · exact .inScope _
      · exact hk it hit
    · rename_i id
      obtain ⟨x1, x2⟩ := exitTo_map (σ := σ) id k
      split at e
      · rename_i k' hx
        unfold goTo at e
        simp only [Option.some.injEq] at e
        subst e
        rw [hx] at x1
        exact goto_sound hbot R hn T.1 S U (fun it hit => hk it (x2 k' hx it hit)) (st_go (by simp [stepG, gor, hfm, stepG.exec, htd, x1]))
      · rename_i hx
        rw [hx] at x1
        refine leave_sound EO hbot R hn T.1 S U e (fun hr hj => ?_) (fun l v w' hr hrun => ?_)
        · rcases hj with hj | hj <;> cases hj
        · simp [stepG, gor, hfm, stepG.exec, htd, x1, hr, hrun]
    · rename_i l
      obtain ⟨x1, x2⟩ := gotoIn_map (σ := σ) l k
      split at e
      · rename_i k' hx
        unfold goTo at e
        simp only [Option.some.injEq] at e
        subst e
        rw [hx] at x1
        refine goto_sound hbot R hn T.1 S U (fun it hit => ?_) (st_go (by simp [stepG, gor, hfm, stepG.exec, htd, x1]))
        rcases x2 k' hx it hit with ⟨c, rfl⟩ | h
        · exact .code c
        · exact hk it h
      · rename_i hx
        rw [hx] at x1
        refine leave_sound EO hbot R hn T.1 S U e (fun hr hj => ?_) (fun l v w' hr hrun => ?_)
        · rcases hj with hj | hj <;> cases hj
        · simp [stepG, gor, hfm, stepG.exec, htd, x1, hr, hrun]
    · -- a region
      rename_i id ops draw
      cases draw with
      | false =>
        simp only [cond_false, goTo, Option.some.injEq] at e
        subst e
        have hst : (straight ops).map (·.i) = List.range ops.size := by
          unfold straight
          rw [List.map_map]
          apply List.ext_getElem
          · simp
          · intro i h1 h2; simp
        refine goto_sound hbot R hn T.1 S U (fun it hit => ?_) (st_go (by simp [stepG, gor, hfm, stepG.exec, htd, physItem, hst]))
        simp only [List.mem_cons] at hit
        rcases hit with rfl | hit
        · refine .ops _ _ fun p hp => ?_
          unfold straight at hp
          obtain ⟨⟨o, i⟩, hm, rfl⟩ := List.mem_map.1 hp
          have := List.mem_zipIdx_iff_getElem?.1 hm
          simpa using this
        · exact hk it hit
      | true =>
        simp only [cond_true] at e
        cases hpl : plan E ops with
        | none => rw [hpl] at e; cases e
        | some l =>
          rw [hpl] at e
          simp only [goTo, Option.some.injEq] at e
          subst e
          generalize htape : w.tape w.drawn (.order fr.fn id) = tp
          have hst : step P (lone fr (crs ++ bot) w) = .next (lone { fr with todo := .inRegion ops (Region.schedule true ops tp) :: k.map (physItem σ) } (crs ++ bot) w.drew) := by
            refine st_go ?_
            have hmix := EO.mixed
            simp [stepG, gor, hfm, stepG.exec, htd, choose, Sem.run, Question.forced, Question.cut, hmix, htape]
          have hn2 := infos_all E ops.toList
          have D0 : Draw E σ n s.h.next (some s.h) ops (infos E ops.toList 0 ops.toList []) 0 0 0 [] (fun _ => False) l (Region.schedule true ops tp) s.f.tmps fr.tmps := by
            refine ⟨rfl, ⟨_, hpl⟩, PInv.nil _, lin_schedule ops tp, fun i o h => h.elim, fun i h => h.elim, fun q hq => (by cases hq), fun x _ => ⟨S.tmps.getD x, S.tmps.wf x⟩, S.tmps.out, fun q hq => (by cases hq), fun _ _ q hq => (by cases hq), fun q hq => (by cases hq)⟩
          exact ⟨_, crs, _, .one hst, hbot.congr rfl, σ, n, R.drew, hn, ⟨⟨T.1.fn, T.1.kind, T.1.mode, T.1.wmode, T.1.rnd, T.1.wrnd, T.1.defers, T.1.wdefers, T.1.kinds⟩, .inr ⟨hmode, ops, l, _, k, _, _, _, _, _, _, ⟨rfl, rfl, hk, S.size, D0⟩⟩⟩, U⟩
    · -- a loop over a function begins
      rename_i g params assign body
      split at e
      · rename_i fn first captured hg
        cases hr : s.f.roundOf with
        | some l =>
          rw [hr] at e
          simp only at e
          obtain ⟨p, hp⟩ := T.1.wrnd l hr
          have hfr : fr.roundOf = some p.blk := by rw [T.1.rnd, hr]; simp [Sig.blk, hp]
          split at e
          · rename_i d0 h0 mark0 hmm
            split at hmm
            · rename_i st pending fn0 tmps0 nt0 params0 assign0 body0 d ho
              simp only [Option.some.injEq, Prod.mk.injEq] at hmm
              obtain ⟨rfl, rfl, rfl⟩ := hmm
              split at e
              · rename_i nx hnx
                obtain ⟨r, g1, g2, g3, g4, ⟨q, g5⟩, g6⟩ := loop_obj R hp ho
                refine range_go EO SO hbot hmode hn T.1 S U ht hg (mark := []) R (.refl _ _) (Nat.le_refl _) g5 (by simp) ?_ hnx e
                simp only [Instr.enterLoop, hfr, Sem.run_bind, run_getLoop g1, Result.andThen_ok, Sem.run_pure, run_newObj2, g4, List.map_nil]
              · cases e
            · cases hmm
          · cases e
        | none =>
          rw [hr] at e
          simp only at e
          have hfr : fr.roundOf = none := by rw [T.1.rnd, hr]; rfl
          split at e
          · rename_i nx hnx
            obtain ⟨p, p1, p2, p3, R1⟩ := new_obj EO R (o := .deferred (some [])) (ob := .deferred (some [])) (by simp) (fun τ p hle hrow hblk => ⟨hrow, by
              rw [hblk]
              show (w.heap.push _)[w.heap.size]? = _
              simp, fun l hl d hd => by cases hl; cases hd⟩)
            have hpp : (σ.put s.h.next p) s.h.next = some p := Sig.put_same _ _ _
            refine range_go EO SO hbot hmode hn T.1 S U ht hg (mark := [{ target := .collected s.h.next, args := #[] }]) R1 p3 (by simp [H.new]) hpp (fun x hx => ?_) ?_ hnx e
            · simp only [List.mem_singleton] at hx
              subst hx
              exact ⟨.collected _ p hpp, by simp⟩
            · have hblk : (σ.put s.h.next p).blk s.h.next = w.heap.size := by simp [Sig.blk, hpp, p1]
              simp only [Instr.enterLoop, hfr, Sem.run_bind, Result.andThen_ok, Sem.run_pure, run_newObj2, hblk, List.map_cons, List.map_nil, physD]
          · cases e
      · cases e
    · cases e
  · cases e
  · -- a round begins
    rename_i k ht
    have S := T.plain (fun _ _ _ h => by rw [ht] at h; cases h)
    have htd : fr.todo = .beginRound :: k.map (physItem σ) := by rw [S.todo, ht]; rfl
    have hk : ∀ it ∈ k, WfItem σ it := fun it hit => S.wtodo it (by rw [ht]; simp [hit])
    split at e
    · rename_i l hr
      split at e
      · rename_i pending fn tmps nt params assign body defers ho
        simp only [Option.some.injEq] at e
        subst e
        obtain ⟨p, hp⟩ := T.1.wrnd l hr
        have hfr : fr.roundOf = some p.blk := by rw [T.1.rnd, hr]; simp [Sig.blk, hp]
        obtain ⟨r, g1, g2, g3, g4, g5, g6⟩ := loop_obj R hp ho
        have R' := g6 .busy pending
        have hr' : ({ r with state := .busy, pending } : Loop) = { r with state := .busy } := by rw [← g3]
        rw [hr'] at R'
        have hrun : (Instr.beginRound p.blk).run P w = .ok () { w with heap := w.heap.setIfInBounds p.blk (.loop { r with state := .busy }) } := by
          simp only [Instr.beginRound, Sem.run_bind, run_getLoop g1, Result.andThen_ok, run_setObj' g1, g2, Sem.run_pure]
        have hfin : fr.finish undef = { fr with todo := k.map (physItem σ) } := by simp [Frame.finish, htd]
        refine goto_sound (s := { s with h := s.h.put l (.loop .busy pending fn tmps nt params assign body defers) }) hbot R' hn T.1 S U hk (st_go ?_)
        have hs2 : stepG P true (gor fr (crs ++ bot)) w = stepG.apply P true fr (crs ++ bot) none (do fr.roundOf.elim (stuck "beginRound: no round") Instr.beginRound; pure .skip) w := by
          simp [stepG, gor, hfm, stepG.exec, htd]
        rw [hs2, ap_skip (w' := { w with heap := w.heap.setIfInBounds p.blk (.loop { r with state := .busy }) }) (by simp [hfr, hrun]), hfin]
      · cases e
    · cases e
  · -- a loop over a function ends
    rename_i l k ht
    have S := T.plain (fun _ _ _ h => by rw [ht] at h; cases h)
    have hk : ∀ it ∈ k, WfItem σ it := fun it hit => S.wtodo it (by rw [ht]; simp [hit])
    have hwi := S.wtodo (.endRangeFunc l) (by rw [ht]; simp)
    cases hwi with
    | endRangeFunc _ p hp =>
    have htd : fr.todo = .endRangeFunc p.blk :: k.map (physItem σ) := by rw [S.todo, ht]; simp [physItem, Sig.blk, hp]
    split at e
    · rename_i st pending fn tmps nt params assign body defers ho
      split at e
      · cases e
      · rename_i hst
        simp only [Option.some.injEq] at e
        subst e
        obtain ⟨r, g1, g2, g3, g4, g5, g6⟩ := loop_obj R hp ho
        have R' := g6 .exhausted pending
        have hr' : ({ r with state := .exhausted, pending } : Loop) = { r with state := .exhausted } := by rw [← g3]
        rw [hr'] at R'
        have hne : (r.state == LoopState.busy) = false := by
          rw [g2]
          cases st <;> first | rfl | exact absurd rfl hst
        have hrun : (Instr.endLoop p.blk).run P w = .ok pending { w with heap := w.heap.setIfInBounds p.blk (.loop { r with state := .exhausted }) } := by
          simp only [Instr.endLoop, Sem.run_bind, run_getLoop g1, Result.andThen_ok, run_setObj' g1, hne, Bool.false_eq_true, if_false, Sem.run_pure, g3]
        cases pending with
        | none =>
          exact goto_sound (s := { s with h := s.h.put l (.loop .exhausted none fn tmps nt params assign body defers) }) hbot R' hn T.1 S U hk (st_go (by simp [stepG, gor, hfm, stepG.exec, htd, hrun]))
        | some c =>
          refine goto_sound (s := { s with h := s.h.put l (.loop .exhausted (some c) fn tmps nt params assign body defers) }) hbot R' hn T.1 S U (fun it hit => ?_) (st_go (by simp [stepG, gor, hfm, stepG.exec, htd, hrun, physItem]))
          rcases List.mem_cons.1 hit with rfl | hit
          · exact .code _
          · exact hk it hit
    · cases e
end
end Go.Lm

/- Frames that are left; runs. -/
namespace Go.Lm

section
variable {E : Env} {P : Program} (EO : EnvOK E P) (SO : SpOK E P) {N0 : Nat} {w0 : World}
include EO

set_option maxHeartbeats 1000000 in
theorem lunwind_sound {s : LS} {fr : Frame} {crs bot : List Frame} {w : World} (J : Joined E N0 w0 s fr crs w) (hmode : s.f.mode ≠ .run) {o : Out} (e : lunwind E s = some o) : Reach E P N0 w0 bot fr crs w o := by
  obtain ⟨hbot, σ, n, R, hn, T, U⟩ := J
  have hb := T.1
  have S := T.plainM hmode
  have hfm : fr.mode ≠ .run := by
    rw [hb.mode]
    cases hm : s.f.mode with
    | run => exact absurd hm hmode
    | returning => simp [physMode]
    | panicking c => simp [physMode]
  have hcat : fr.catches P = false := by
    unfold Frame.catches
    split
    · rename_i h1 h2
      have := S.todo
      rw [h2] at this
      cases hk : s.f.todo with
      | nil => rw [hk] at this; cases this
      | cons it k => rw [hk] at this; cases it <;> simp [physItem] at this
    · rfl
  unfold lunwind at e
  split at e
  · rename_i d ds hds
    have hfd : fr.defers = physD σ d :: ds.map (physD σ) := by rw [hb.defers, hds]; rfl
    have hdw := hb.wdefers d (by rw [hds]; simp)
    have hdsw : ∀ x ∈ ds, WfD σ x := fun x hx => hb.wdefers x (by rw [hds]; simp [hx])
    split at e
    · rename_i b htg
      have htw := hdw.target
      rw [htg] at htw
      cases htw with
      | collected _ p hp =>
      split at e
      · rename_i calls ho
        simp only [Option.some.injEq] at e
        subst e
        obtain ⟨h1, h2, h3⟩ := R.obj b p _ hp ho
        simp only [Option.map_some] at h2
        have hlt := (R.rng b p hp).2
        have R' := R.putObj hp h1 (ob := .deferred none) (by simp) (.deferred none) ⟨h1, by simp [hlt], fun l hl => by cases hl⟩
        have hblk : σ.blk b = p.blk := by simp [Sig.blk, hp]
        have hpd : physD σ d = { target := .collected p.blk, args := ⟨d.args.toList.map (phys σ)⟩ } := by simp only [physD, htg, hblk]
        rw [hpd] at hfd
        have hrun : (Instr.takeDeferred p.blk).run P w = .ok (calls.map (physD σ)) { w with heap := w.heap.setIfInBounds p.blk (.deferred none) } := by
          have hgo : (getObj p.blk).run P w = .ok (.deferred (some (calls.map (physD σ)))) w := by simp [getObj, Sem.run, h2]
          simp only [Instr.takeDeferred, Sem.run_bind, hgo, Result.andThen_ok, run_setDef h2, Sem.run_pure]
        refine ⟨{ fr with defers := (calls ++ ds).map (physD σ) }, crs, _, .one (st_go ?_), hbot.congr rfl, σ, n, R', hn, ⟨⟨hb.fn, hb.kind, hb.mode, hb.wmode, hb.rnd, hb.wrnd, rfl, fun x hx => ?_, hb.kinds⟩, .inl ⟨S.tmps, S.size, S.todo, S.wtodo⟩⟩, U⟩
        · rw [st_unwind hfm]
          unfold unwind
          simp only [hfd, Sem.runT_eq, hrun, GStep.bare_after, gor, List.map_append]
          rfl
        · rcases List.mem_append.1 hx with hx | hx
          · exact h3 calls rfl x hx
          · exact hdsw x hx
      · cases e
    · rename_i f captured htg
      have htw := hdw.target
      rw [htg] at htw
      cases htw with
      | fn _ _ hf hc =>
      split at e
      · cases e
      · rw [Option.map_eq_some_iff] at e
        obtain ⟨g, hg, rfl⟩ := e
        have hargs : ∀ v ∈ d.args.toList ++ captured.toList, Wf σ v := fun v hv => by
          rcases List.mem_append.1 hv with hv | hv
          · exact hdw.args v hv
          · exact hc v hv
        obtain ⟨Tg, hkg, fn, c, hfn, hbody⟩ := enter_sound EO (h := s.h) s.h.next s.h.next hargs (.inr rfl) hg
        obtain ⟨hpf, hname⟩ := EO.fn f fn hfn
        have h3 : ¬ fn.name = "runtime.NumGoroutine" := by simpa using hname
        have hpd : physD σ d = { target := .fn (.func f) ⟨captured.toList.map (phys σ)⟩, args := ⟨d.args.toList.map (phys σ)⟩ } := by simp only [physD, htg, physFn]
        rw [hpd] at hfd
        have hrun : (invoke (.fn (.func f) ⟨captured.toList.map (phys σ)⟩) ⟨d.args.toList.map (phys σ)⟩).run P w = .ok (.enter f ⟨(d.args.toList ++ captured.toList).map (phys σ)⟩) w := by
          simp only [invoke, callFunc, Sem.run_bind, run_program, Result.andThen_ok, hpf]
          simp [h3, hbody]
        refine ⟨Frame.enter P f ⟨(d.args.toList ++ captured.toList).map (phys σ)⟩ .deferred, { fr with defers := ds.map (physD σ) } :: crs, w, .one (st_go ?_), ?_, σ, s.h.next, R, Nat.le_refl _, Tg, n, hn, ⟨⟨hb.fn, hb.kind, hb.mode, hb.wmode, hb.rnd, hb.wrnd, rfl, hdsw, hb.kinds⟩, .inl ⟨S.tmps, S.size, S.todo, S.wtodo⟩⟩, U⟩
        · rw [st_unwind hfm]
          unfold unwind
          simp only [hfd, callDeferred, Bool.false_and, Bool.false_eq_true, if_false, Sem.runT_eq, hrun, GStep.bare_after, gor, List.cons_append]
          rfl
        · exact BotOK.congr (f := s.f) (f' := { s.f with defers := ds }) hbot rfl
    · cases e
  · rename_i hds
    have hfd : fr.defers = [] := by rw [hb.defers, hds]; rfl
    split at e
    · cases e
    · rename_i chain hm
      have hfr : fr.mode = .panicking (chain.map (physP σ)) := by rw [hb.mode, hm]; rfl
      have hwm := hb.wmode
      rw [hm] at hwm
      split at e
      · rename_i c rest hcs
        rw [hcs] at U hbot
        have hnd : (∀ ops l k, c.todo ≠ .ops ops true l :: k) ∧ o = .go { s with f := c.raise chain, cs := rest } := by
          split at e
          · cases e
          · rename_i hno
            simp only [Option.some.injEq] at e
            exact ⟨fun ops l k ht => hno _ _ _ ht, e.symm⟩
        obtain ⟨hnd, rfl⟩ := hnd
        cases crs with
        | nil => exact U.elim
        | cons cfr crest =>
          obtain ⟨m, hmn, Sc, U'⟩ := U
          refine ⟨cfr.raise (chain.map (physP σ)), crest, w, .one (st_go ?_), BotOK.congr (f := c) hbot (c.raise_kind _), σ, m, R, by simp only; omega, ⟨Sc.1.raise hwm, .inl ((Sc.plain hnd).raise _ _)⟩, U'⟩
          rw [st_unwind hfm]
          unfold unwind
          simp only [hfd, hfr, hcat, Bool.false_eq_true, if_false, List.cons_append, GStep.bare, gor]
      · cases e
    · rename_i hm
      have hfr : fr.mode = .returning := by rw [hb.mode, hm]; rfl
      split at e
      · rename_i fn hfn
        obtain ⟨hpf, _⟩ := EO.fn _ fn hfn
        have hpf' : P.funcs[fr.fn]? = some fn := by rw [hb.fn]; exact hpf
        have hres : ∃ vs, resultsL E s.h s.f.tmps fn.results.toList = some vs ∧ doRet E s (resVal vs) = some o := by
          split at e
          · rename_i v hr; exact ⟨[v], hr, e⟩
          · rename_i vs hno hr
            refine ⟨vs, hr, ?_⟩
            have : resVal vs = .tuple ⟨vs⟩ := by
              match vs, hno with
              | [], _ => rfl
              | [v], hno => exact absurd rfl (hno v)
              | _ :: _ :: _, _ => rfl
            rw [this]; exact e
          · cases e
        obtain ⟨vs, hr, e⟩ := hres
        obtain ⟨r1, r2⟩ := results_run EO (P := P) R S.tmps hr
        by_cases hcs : s.cs = []
        · -- the outermost frame returns
          unfold doRet at e
          rw [hcs] at e
          simp only at e
          split at e
          · rename_i hk
            simp only [Option.some.injEq] at e
            subst e
            have hcr : crs = [] := by
              rw [hcs] at U
              cases crs with
              | nil => rfl
              | cons _ _ => exact U.elim
            subst hcr
            exact ⟨fr, w, σ, .refl P _, hb.fn, ⟨hfr, hfd, by rw [hb.kind, hk], fn, hpf', r1⟩, r2, R⟩
          · cases e
        · obtain ⟨s', fr', crs', rfl, hd, J⟩ := ret_sound EO (bot := bot) (P := P) hbot R hn hb U r2 hcs e
          refine ⟨fr', crs', w, .one (st_go ?_), J⟩
          rw [st_unwind hfm]
          unfold unwind
          simp only [hfd, hfr, hpf', Sem.runT_eq, r1, GStep.bare_after]
          exact hd
      · cases e

include SO in
theorem lstep_sound {s : LS} {fr : Frame} {crs bot : List Frame} {w : World} (J : Joined E N0 w0 s fr crs w) {o : Out} (e : lstep E s = some o) : Reach E P N0 w0 bot fr crs w o := by
  unfold lstep at e
  split at e
  · rename_i hm
    exact lexec_sound EO SO J hm e
  · rename_i hm
    exact lunwind_sound EO J hm e

include SO in
theorem lrun_sound {bot : List Frame} : ∀ (n : Nat) {s : LS} {fr : Frame} {crs : List Frame} {w : World} {o : Out}, Joined E N0 w0 s fr crs w → lrun E n s = some o → Reach E P N0 w0 bot fr crs w o
  | 0, s, fr, crs, w, o, J, e => by
    simp only [lrun, Option.some.injEq] at e
    subst e
    exact ⟨fr, crs, w, .refl P _, J⟩
  | n + 1, s, fr, crs, w, o, J, e => by
    simp only [lrun] at e
    cases hs : lstep E s with
    | none => rw [hs] at e; cases e
    | some o1 =>
      have h1 := lstep_sound EO SO (bot := bot) J hs
      rw [hs] at e
      cases o1 with
      | go s' =>
        simp only at e
        obtain ⟨fr1, crs1, w1, st1, J1⟩ := h1
        exact Reach.of_steps st1 (lrun_sound n J1 e)
      | fork l =>
        simp only [Option.some.injEq] at e
        subst e
        exact h1
      | done f v h =>
        simp only [Option.some.injEq] at e
        subst e
        exact h1

/-- every way that a run may take ends with a value -/
inductive Ends (E : Env) (P : FuncId → Value → H → Prop) : LS → Prop
  | step (n : Nat) (s s' : LS) (h : lrun E n s = some (.go s')) (k : Ends E P s') : Ends E P s
  | fork (n : Nat) (s : LS) (l : List LS) (h : lrun E n s = some (.fork l)) (k : ∀ s' ∈ l, Ends E P s') : Ends E P s
  | done (n : Nat) (s : LS) (f : FuncId) (v : Value) (h' : H) (h : lrun E n s = some (.done f v h')) (k : P f v h') : Ends E P s

include SO in
theorem ends_sound {bot : List Frame} {Q : FuncId → Value → H → Prop} {s : LS} (en : Ends E Q s) : ∀ {fr : Frame} {crs : List Frame} {w : World}, Joined E N0 w0 s fr crs w →
    ∃ f v h, Q f v h ∧ ∃ fr' w' σ, Steps P (lone fr (crs ++ bot) w) (lone fr' bot w') ∧ fr'.fn = f ∧ fr'.leaving P w' (.returned (phys σ v)) ∧ Wf σ v ∧ HRel N0 w0 σ h w' := by
  induction en with
  | step n s s' h k ih =>
    intro fr crs w J
    obtain ⟨fr1, crs1, w1, st1, J1⟩ := lrun_sound EO SO (bot := bot) n J h
    obtain ⟨f, v, h, hq, fr', w', σ, st, r⟩ := ih J1
    exact ⟨f, v, h, hq, fr', w', σ, st1.trans st, r⟩
  | fork n s l h k ih =>
    intro fr crs w J
    obtain ⟨s', hs', fr1, crs1, w1, st1, J1⟩ := lrun_sound EO SO (bot := bot) n J h
    obtain ⟨f, v, h, hq, fr', w', σ, st, r⟩ := ih s' hs' J1
    exact ⟨f, v, h, hq, fr', w', σ, st1.trans st, r⟩
  | done n s f v h' h k =>
    intro fr crs w J
    obtain ⟨fr', w', σ, st, r⟩ := lrun_sound EO SO (bot := bot) n J h
    exact ⟨f, v, h', k, fr', w', σ, st, r⟩

/-- nothing is there -/
def H0 : H := { objs := .leaf, next := 0, cls := .leaf }

omit EO in
theorem HRel.nil (w : World) : HRel w.heap.size w (fun _ => none) H0 w :=
  { lt := fun b p h => (by cases h), got := fun b o h => (by simp [H0, T.get] at h), obj := fun b p o h => (by cases h), row := fun b p h => (by cases h), inj := fun b b' p p' h => (by cases h),
    rng := fun b p h => (by cases h), cls := fun b r h => (by simp [H0, T.get] at h), clsLt := fun c l h => (by simp [H0, T.get] at h), old := fun _ _ => rfl, size := Nat.le_refl _, os := rfl, output := rfl,
    fz := fun b p h => (by cases h), rok := fun b r h => (by simp [H0, T.get] at h), nrow := fun b p h => (by cases h) }

include SO in
/-- A function that is called with nothing of the heap. -/
theorem calls_of_ends {f : FuncId} {args : List Value} {f0 : LF} {Q : FuncId → Value → H → Prop} (ha : ∀ v ∈ args, plainV v = true) (hf : enterF E f args .normal = some f0) (en : Ends E (fun g v h => g = f ∧ Q g v h) { f := f0, cs := [], h := H0 }) (w : World) :
    Calls P f ⟨args⟩ w (fun e W => ∃ v h σ, Q f v h ∧ e = .returned (phys σ v) ∧ Wf σ v ∧ HRel w.heap.size w σ h W) := by
  intro cs
  have hal : args.all plainV = true := List.all_eq_true.2 ha
  obtain ⟨p1, p2⟩ := phys_plains (σ := fun _ => none) hal
  obtain ⟨T, hk, _⟩ := enter_sound EO (h := H0) (σ := fun _ => none) (lo := 0) (hi := 0) p2 (.inl rfl) hf
  rw [p1] at T
  have J : Joined E w.heap.size w { f := f0, cs := [], h := H0 } (Frame.enter P f ⟨args⟩ .normal) [] w := ⟨hk, _, 0, HRel.nil w, Nat.le_refl _, T, trivial⟩
  obtain ⟨g, v, h, ⟨rfl, hq⟩, fr', w', σ, st, hfn, hl, hv, R⟩ := ends_sound EO SO (bot := cs) en J
  exact ⟨.returned (phys σ v), w', fr', ⟨v, h, σ, hq, rfl, hv, R⟩, st, hfn, hl⟩
end
end Go.Lm

/- Runs in pieces, what is dead left out. -/
namespace Go.Lm

/-- the entries that are kept -/
def T.keep {α : Type} : T α → T Bool → T α
  | .node v l r, .node k kl kr => .node (match k with | some true => v | _ => none) (l.keep kl) (r.keep kr)
  | _, _ => .leaf

theorem T.keep_get {α : Type} : ∀ (t : T α) (k : T Bool) (n : Nat) (x : α), (t.keep k).get n = some x → t.get n = some x
  | .leaf, k, n, x, h => by cases k <;> simp [T.keep, T.get] at h
  | .node v l r, .leaf, n, x, h => by simp [T.keep, T.get] at h
  | .node v l r, .node k kl kr, n, x, h => by
    simp only [T.keep, T.get] at h ⊢
    cases h0 : Nat.beq n 0 with
    | true =>
      rw [h0] at h
      simp only [cond_true] at h ⊢
      split at h
      · exact h
      · cases h
    | false =>
      rw [h0] at h
      simp only [cond_false] at h ⊢
      cases h1 : Nat.beq (n % 2) 1 with
      | true =>
        rw [h1] at h
        simp only [cond_true] at h ⊢
        exact T.keep_get l kl _ x h
      | false =>
        rw [h1] at h
        simp only [cond_false] at h ⊢
        exact T.keep_get r kr _ x h

theorem T.keep_get2 {α : Type} : ∀ (t : T α) (k : T Bool) (n : Nat) (x : α), (t.keep k).get n = some x → k.get n = some true
  | .leaf, k, n, x, h => by cases k <;> simp [T.keep, T.get] at h
  | .node v l r, .leaf, n, x, h => by simp [T.keep, T.get] at h
  | .node v l r, .node k kl kr, n, x, h => by
    simp only [T.keep, T.get] at h ⊢
    cases h0 : Nat.beq n 0 with
    | true =>
      rw [h0] at h
      simp only [cond_true] at h ⊢
      split at h
      · rfl
      · cases h
    | false =>
      rw [h0] at h
      simp only [cond_false] at h ⊢
      cases h1 : Nat.beq (n % 2) 1 with
      | true =>
        rw [h1] at h
        simp only [cond_true] at h ⊢
        exact T.keep_get2 l kl _ x h
      | false =>
        rw [h1] at h
        simp only [cond_false] at h ⊢
        exact T.keep_get2 r kr _ x h

def T.mapT {α β : Type} (f : α → β) : T α → T β
  | .leaf => .leaf
  | .node v l r => .node (match v with | some x => some (f x) | none => none) (l.mapT f) (r.mapT f)

theorem T.mapT_get {α β : Type} (f : α → β) : ∀ (t : T α) (n : Nat), (t.mapT f).get n = (t.get n).map f
  | .leaf, n => rfl
  | .node v l r, n => by
    simp only [T.mapT, T.get]
    cases Nat.beq n 0 with
    | true => cases v <;> rfl
    | false =>
      cases Nat.beq (n % 2) 1 with
      | true => exact T.mapT_get f l _
      | false => exact T.mapT_get f r _

def T.allT {α : Type} (p : α → Bool) : T α → Bool
  | .leaf => true
  | .node v l r => (match v with | some x => p x | none => true) && (l.allT p && r.allT p)

theorem T.allT_get {α : Type} {p : α → Bool} : ∀ {t : T α}, t.allT p = true → ∀ n x, t.get n = some x → p x = true
  | .leaf, _, n, x, h => by simp [T.get] at h
  | .node v l r, hb, n, x, h => by
    simp only [T.allT, Bool.and_eq_true] at hb
    obtain ⟨h1, h2, h3⟩ := hb
    simp only [T.get] at h
    cases e : Nat.beq n 0 with
    | true =>
      rw [e] at h
      simp only [cond_true] at h
      rw [h] at h1; exact h1
    | false =>
      rw [e] at h
      simp only [cond_false] at h
      cases e2 : Nat.beq (n % 2) 1 with
      | true => rw [e2] at h; exact T.allT_get h2 _ x h
      | false => rw [e2] at h; exact T.allT_get h3 _ x h

def hasK (k : T Bool) (b : Nat) : Bool := match k.get b with
  | some true => true
  | _ => false

/-- objects are left out, and classes -/
def H.keep (h : H) (k kc : T Bool) : H := { objs := h.objs.keep k, next := h.next, cls := (h.cls.keep kc).mapT (List.filter (hasK k)) }

/-- the classes of what is kept are kept -/
def clsKept (h : H) (kc : T Bool) : LObj → Bool
  | .row r => match h.cls.get r.cls with
    | some _ => hasK kc r.cls
    | none => true
  | _ => true

theorem T.keep_some {α : Type} : ∀ (t : T α) (k : T Bool) (n : Nat) (x : α), t.get n = some x → k.get n = some true → (t.keep k).get n = some x
  | .leaf, k, n, x, h, _ => by simp [T.get] at h
  | .node v l r, .leaf, n, x, _, h => by simp [T.get] at h
  | .node v l r, .node k kl kr, n, x, h, hk => by
    simp only [T.keep, T.get] at h hk ⊢
    cases h0 : Nat.beq n 0 with
    | true =>
      rw [h0] at h hk
      simp only [cond_true] at h hk ⊢
      rw [hk]; exact h
    | false =>
      rw [h0] at h hk
      simp only [cond_false] at h hk ⊢
      cases h1 : Nat.beq (n % 2) 1 with
      | true =>
        rw [h1] at h hk
        simp only [cond_true] at h hk ⊢
        exact T.keep_some l kl _ x h hk
      | false =>
        rw [h1] at h hk
        simp only [cond_false] at h hk ⊢
        exact T.keep_some r kr _ x h hk

theorem HRel.keep {N0 : Nat} {w0 : World} {σ : Sig} {h : H} {w : World} (R : HRel N0 w0 σ h w) (k kc : T Bool) (hc : (h.objs.keep k).allT (clsKept h kc) = true) : HRel N0 w0 σ (h.keep k kc) w := by
  have hk : ∀ b o, (h.keep k kc).objs.get b = some o → h.objs.get b = some o := fun b o ho => T.keep_get _ _ _ _ ho
  have hcl : ∀ c l, (h.keep k kc).cls.get c = some l → ∃ l', h.cls.get c = some l' ∧ l = l'.filter (hasK k) := fun c l hl => by
    simp only [H.keep, T.mapT_get, Option.map_eq_some_iff] at hl
    obtain ⟨l', h1, h2⟩ := hl
    exact ⟨l', T.keep_get _ _ _ _ h1, h2.symm⟩
  exact { R with
    got := fun b o ho => R.got b o (hk b o ho)
    obj := fun b p o hp ho => R.obj b p o hp (hk b o ho)
    cls := fun b r hr => by
      obtain ⟨c1, c2⟩ := R.cls b r (hk b _ hr)
      refine ⟨fun hn => ?_, fun l hl => ?_⟩
      · cases hg : h.cls.get r.cls with
        | none => exact c1 hg
        | some l =>
          exfalso
          have := T.allT_get hc b _ hr
          simp only [clsKept, hg] at this
          have hkc : kc.get r.cls = some true := by
            unfold hasK at this
            split at this
            · rename_i h1; exact h1
            · cases this
          have h2 := T.keep_some _ _ _ _ hg hkc
          simp only [H.keep, T.mapT_get, h2, Option.map_some] at hn
          cases hn
      · obtain ⟨l', h1, h2⟩ := hcl _ _ hl
        rw [h2]
        refine List.mem_filter.2 ⟨c2 l' h1, ?_⟩
        have := T.keep_get2 _ _ _ _ hr
        unfold hasK
        rw [this]
    clsLt := fun c l hl => by
      obtain ⟨l', h1, _⟩ := hcl c l hl
      exact R.clsLt c l' h1
    rok := fun b r hr => R.rok b r (hk b _ hr) }

def plainTop (f : LF) : Bool := match f.todo with
  | .ops _ true _ :: _ => false
  | _ => true

def cutS (k kc : T Bool) (s : LS) : Option LS := cond (plainTop s.f && (s.h.objs.keep k).allT (clsKept s.h kc)) (some { s with h := s.h.keep k kc }) none

def cutO (k kc : T Bool) : Option Out → Option LS
  | some (.go s) => cutS k kc s
  | _ => none

theorem Joined.cut {E : Env} {N0 : Nat} {w0 : World} {s s' : LS} {fr : Frame} {crs : List Frame} {w : World} {k kc : T Bool} (J : Joined E N0 w0 s fr crs w) (e : cutS k kc s = some s') : Joined E N0 w0 s' fr crs w := by
  unfold cutS at e
  cases hp : (plainTop s.f && (s.h.objs.keep k).allT (clsKept s.h kc)) with
  | false => rw [hp] at e; cases e
  | true =>
    rw [hp] at e
    simp only [cond_true, Option.some.injEq] at e
    subst e
    rw [Bool.and_eq_true] at hp
    obtain ⟨hp, hc⟩ := hp
    obtain ⟨hb, σ, n, R, hn, T, U⟩ := J
    have S := T.plain (fun ops l k ht => by unfold plainTop at hp; rw [ht] at hp; cases hp)
    exact ⟨hb, σ, n, R.keep k kc hc, hn, ⟨T.1, .inl S⟩, U⟩

def forkO : Option Out → Option (List LS)
  | some (.fork l) => some l
  | _ => none

def doneO : Option Out → Option (FuncId × Value)
  | some (.done f v _) => some (f, v)
  | _ => none

/-- every way that a run may take ends with a value -/
inductive Comes' (E : Env) (f : FuncId) (v : Value) : LS → Prop
  | step (n : Nat) (k kc : T Bool) (s s' : LS) (h : cutO k kc (lrun E n s) = some s') (g : Comes' E f v s') : Comes' E f v s
  | fork (n : Nat) (s : LS) (l : List LS) (h : forkO (lrun E n s) = some l) (g : ∀ s' ∈ l, Comes' E f v s') : Comes' E f v s
  | done (n : Nat) (s : LS) (h : doneO (lrun E n s) = some (f, v)) : Comes' E f v s

theorem Comes'.fork2 {E : Env} {f : FuncId} {v : Value} (n : Nat) (s a b : LS) (h : forkO (lrun E n s) = some [a, b]) (ga : Comes' E f v a) (gb : Comes' E f v b) : Comes' E f v s :=
  .fork n s [a, b] h fun s' hs => by
    simp only [List.mem_cons, List.not_mem_nil, or_false] at hs
    rcases hs with rfl | rfl
    · exact ga
    · exact gb

section
variable {E : Env} {P : Program} (EO : EnvOK E P) (SO : SpOK E P) {N0 : Nat} {w0 : World}
include EO SO

theorem comes_sound {bot : List Frame} {f : FuncId} {v : Value} {s : LS} (en : Comes' E f v s) : ∀ {fr : Frame} {crs : List Frame} {w : World}, Joined E N0 w0 s fr crs w →
    ∃ h fr' w' σ, Steps P (lone fr (crs ++ bot) w) (lone fr' bot w') ∧ fr'.fn = f ∧ fr'.leaving P w' (.returned (phys σ v)) ∧ Wf σ v ∧ HRel N0 w0 σ h w' := by
  induction en with
  | step n k kc s s' h g ih =>
    intro fr crs w J
    unfold cutO at h
    split at h
    · rename_i s1 h1
      obtain ⟨fr1, crs1, w1, st1, J1⟩ := lrun_sound EO SO (bot := bot) n J h1
      obtain ⟨h, fr', w', σ, st, r⟩ := ih (J1.cut h)
      exact ⟨h, fr', w', σ, st1.trans st, r⟩
    · cases h
  | fork n s l h g ih =>
    intro fr crs w J
    unfold forkO at h
    split at h
    · rename_i l1 h1
      simp only [Option.some.injEq] at h
      subst h
      obtain ⟨s', hs', fr1, crs1, w1, st1, J1⟩ := lrun_sound EO SO (bot := bot) n J h1
      obtain ⟨h, fr', w', σ, st, r⟩ := ih s' hs' J1
      exact ⟨h, fr', w', σ, st1.trans st, r⟩
    · cases h
  | done n s h =>
    intro fr crs w J
    unfold doneO at h
    split at h
    · rename_i f1 v1 h' h1
      simp only [Option.some.injEq, Prod.mk.injEq] at h
      obtain ⟨rfl, rfl⟩ := h
      obtain ⟨fr', w', σ, st, r⟩ := lrun_sound EO SO (bot := bot) n J h1
      exact ⟨h', fr', w', σ, st, r⟩
    · cases h

/-- A function that is called with nothing of the heap, and gives a plain value. -/
theorem calls_of_comes {f : FuncId} {args : List Value} {f0 : LF} {v : Value} (ha : args.all plainV = true) (hf : enterF E f args .normal = some f0) (hv : constV v = true) (en : Comes' E f v { f := f0, cs := [], h := H0 }) (w : World) :
    Calls P f ⟨args⟩ w (fun e W => e = .returned v ∧ (∀ q, q < w.heap.size → W.heap[q]? = w.heap[q]?) ∧ w.heap.size ≤ W.heap.size ∧ W.os = w.os ∧ W.output = w.output) := by
  intro cs
  obtain ⟨p1, p2⟩ := phys_plains (σ := fun _ => none) ha
  obtain ⟨T, hk, _⟩ := enter_sound EO (h := H0) (σ := fun _ => none) (lo := 0) (hi := 0) p2 (.inl rfl) hf
  rw [p1] at T
  have J : Joined E w.heap.size w { f := f0, cs := [], h := H0 } (Frame.enter P f ⟨args⟩ .normal) [] w := ⟨hk, _, 0, HRel.nil w, Nat.le_refl _, T, trivial⟩
  obtain ⟨h, fr', w', σ, st, hfn, hl, _, R⟩ := comes_sound EO SO (bot := cs) en J
  rw [(phys_const (σ := σ) hv).1] at hl
  exact ⟨.returned v, w', fr', ⟨rfl, fun q hq => R.old q hq, R.size, R.os, R.output⟩, st, hfn, hl⟩
end
end Go.Lm

/- Places in code; short names. -/
namespace Go.Lm

def child (b : Nat) (c : Code) : Code := match c with
  | .seq x y => cond (Nat.beq b 0) x y
  | .cond _ x y => cond (Nat.beq b 0) x y
  | .block _ x => x
  | .loop x => x
  | .scope x => x
  | .rangeFunc _ _ x y => cond (Nat.beq b 0) x y
  | c => c

def navN : Nat → Nat → Code → Code
  | 0, _, c => c
  | d + 1, n, c => navN d (n / 2) (child (n % 2) c)

/-- a place in a function's code -/
def nv (f : Func) (d n : Nat) : Code := match f.body with
  | some c => navN d n c
  | none => .skip

def opsOf : Code → Array Oper
  | .region _ ops _ => ops
  | _ => #[]

def strL (ops : Array Oper) (j : Nat) : List PStep := (straight ops).drop j
def plnL (E : Env) (ops : Array Oper) (j : Nat) : List PStep := match plan E ops with
  | some l => l.drop j
  | none => []

def vI (k : IntKind) (n : Nat) : Value := .int k (.ofNat n)
def vM (k : IntKind) (n : Nat) : Value := .int k (.negSucc n)
def v8 (n : Nat) : Value := .int .u8 (.ofNat n)
def vP (b o : Nat) : Value := .pointer (some ⟨b, o, none⟩)
def vS (b o n c : Nat) : Value := .slice (some ⟨b, o, none⟩) n c
def vT (l : List Nat) : Value := .string ⟨⟨l.map UInt8.ofNat⟩⟩
def vB (b : Bool) : Value := .bool b
def at0 {α : Type} : List (Nat × α) → Option α
  | [] => none
  | (n, v) :: l => cond (Nat.beq n 0) (some v) (at0 l)
def odds {α : Type} : List (Nat × α) → List (Nat × α)
  | [] => []
  | (n, v) :: l => cond (Nat.beq (n % 2) 1) ((n / 2, v) :: odds l) (odds l)
def evens {α : Type} : List (Nat × α) → List (Nat × α)
  | [] => []
  | (n, v) :: l => cond (Nat.beq n 0 || Nat.beq (n % 2) 1) (evens l) ((n / 2 - 1, v) :: evens l)
/-- a trie of a list -/
def st {α : Type} : Nat → List (Nat × α) → T α
  | 0, _ => .leaf
  | _ + 1, [] => .leaf
  | f + 1, x :: l => .node (at0 (x :: l)) (st f (odds (x :: l))) (st f (evens (x :: l)))
def ts {α : Type} (l : List (Nat × α)) : T α := st 40 l
def ks (l : List Nat) : T Bool := st 40 (l.map fun n => (n, true))
def cut1 (esz : Nat) : Nat → List Value → List (List Value)
  | 0, _ => []
  | _ + 1, [] => []
  | f + 1, x :: l => (x :: l).take esz :: cut1 esz f ((x :: l).drop esz)
def everyOther {α : Type} : Bool → List α → List α
  | _, [] => []
  | true, x :: l => x :: everyOther false l
  | false, _ :: l => everyOther true l
/-- a trie of all that a list has -/
def bt {α : Type} : Nat → List α → T α
  | 0, _ => .leaf
  | _ + 1, [] => .leaf
  | f + 1, x :: l => .node (some x) (bt f (everyOther true l)) (bt f (everyOther false l))
/-- a row's cells -/
def ck (esz : Nat) (l : List Value) : T (List Value) := bt 40 (cut1 esz l.length l)
def vL (k : IntKind) (l : List Nat) : List Value := l.map (vI k)
def vA (k : IntKind) (l : List Nat) : Value := .agg ⟨vL k l⟩
end Go.Lm

/- Comparing bytes: a function of Go's library without a body. -/
namespace Go.Lm
section
variable {P : Program} {w : World} {σ : Sig} {N0 : Nat} {w0 : World} {h : H}

theorem run_loadBytes (b : Nat) : ∀ (ns : List Int) (o : Nat) (acc : ByteArray), (∀ j n, ns[j]? = some n → w.cell? ⟨b, o + j, none⟩ = some (.int .u8 n)) →
    (Extern.Bytes.loadBytes ⟨b, o, none⟩ ns.length acc).run P w = .ok ⟨acc.data ++ (ns.map fun n => UInt8.ofNat n.toNat).toArray⟩ w
  | [], o, acc, _ => by simp [Extern.Bytes.loadBytes]
  | n :: ns, o, acc, hc => by
    have h0 : w.cell? ⟨b, o, none⟩ = some (.int .u8 n) := hc 0 n rfl
    have hl : (load ⟨b, o, none⟩).run P w = .ok (.int .u8 n) w := by simp [load, Sem.run, h0]
    have ih := run_loadBytes b ns (o + 1) (acc.push n.toNat.toUInt8) (fun j m hj => by
      have := hc (j + 1) m (by simpa using hj)
      rw [show o + 1 + j = o + (j + 1) by omega]
      exact this)
    simp only [List.length_cons, Extern.Bytes.loadBytes, Sem.run_bind, hl, Result.andThen_ok, Addr.add_mid, ih]
    congr 1
    simp [ByteArray.push, Nat.toUInt8]

theorem bytes_sound (R : HRel N0 w0 σ h w) {x : Value} (hx : Wf σ x) {n : Nat} {l : List Value} {bs : List UInt8} (e : srcCells h 1 x = some (n, l)) (hb : bytesOf l = some bs) :
    (Extern.Bytes.bytesOf (phys σ x)).run P w = .ok ⟨⟨bs⟩⟩ w := by
  obtain ⟨ns, h1, h2⟩ := bytesOf_spec hb
  unfold srcCells at e
  split at e
  · rename_i m c
    cases hm : Nat.beq m 0 with
    | false => rw [hm] at e; cases e
    | true =>
      rw [hm] at e
      simp only [cond_true, Option.some.injEq, Prod.mk.injEq] at e
      obtain ⟨rfl, rfl⟩ := e
      have hns : ns = [] := by cases ns with | nil => rfl | cons a l => simp at h1
      subst hns
      subst h2
      simp [physSlice, Extern.Bytes.bytesOf, ByteArray.empty, ByteArray.emptyWithCapacity]
      rfl
  · rename_i b o o' m c
    cases hm : Nat.beq m 0 with
    | false => rw [hm] at e; cases e
    | true =>
      rw [hm] at e
      simp only [cond_true, Option.some.injEq, Prod.mk.injEq] at e
      obtain ⟨rfl, rfl⟩ := e
      have hm0 : m = 0 := by rw [nbeq] at hm; simpa using hm
      subst hm0
      have hns : ns = [] := by cases ns with | nil => rfl | cons a l => simp at h1
      subst hns
      subst h2
      simp [physSlice, Extern.Bytes.bytesOf, Extern.Bytes.loadBytes, ByteArray.empty, ByteArray.emptyWithCapacity]
      rfl
  · rename_i b o m c
    rw [Option.map_eq_some_iff] at e
    obtain ⟨l', hr, he⟩ := e
    simp only [Prod.mk.injEq] at he
    obtain ⟨rfl, rfl⟩ := he
    cases hx with
    | slice _ _ _ _ p hp =>
      obtain ⟨g1, g2, g3, _⟩ := R.readAt hp hr
      have hlen : ns.length = m := by
        have := congrArg List.length h1
        simp at this; omega
      have := run_loadBytes (P := P) (w := w) p.blk ns (p.dlt + o) .empty (fun j n hj => by
        refine g2 j _ ?_
        rw [h1, List.getElem?_map, List.getElem?_map, hj]; simp)
      rw [hlen] at this
      simp only [phys_slice, physSlice, Extern.Bytes.bytesOf, Sig.addr, Sig.blk, Sig.dlt, hp, this]
      congr 1
      rw [h2]
      have h0 : ByteArray.empty.data = #[] := rfl
      rw [h0]
      simp
  · rename_i s
    simp only [Option.some.injEq, Prod.mk.injEq] at e
    obtain ⟨rfl, rfl⟩ := e
    simp only [phys_string, Extern.Bytes.bytesOf, Sem.run_pure]
    congr 1
    have hbs : bs = s.data.toList := by
      rw [h2]
      have h3 : ns = s.data.toList.map fun b => (b.toNat : Int) := by
        have := congrArg (List.map fun v : Value => match v with | .int _ n => n | _ => 0) h1
        simpa [Function.comp_def] using this.symm
      rw [h3, List.map_map]
      simp [Function.comp_def]
    rw [hbs]
  · cases e

/-- what a comparison gives -/
def spCmp (h : H) (args : List Value) : Option Value := match args with
  | [a, b] => match srcCells h 1 a, srcCells h 1 b with
    | some (_, x), some (_, y) => match bytesOf x, bytesOf y with
      | some x, some y => some (goInt (Extern.BytealgCompare.cmp ⟨⟨x⟩⟩ ⟨⟨y⟩⟩))
      | _, _ => none
    | _, _ => none
  | _ => none

theorem spCmp_sound {f : FuncId} {fn : Func} (hf : P.funcs[f]? = some fn) (hname : (fn.name == "runtime.NumGoroutine") = false) (hb : fn.body.isNone = true) (hn : Extern.findNext fn = none) (he : Extern.find fn = some Extern.BytealgCompare.compare)
    (R : HRel N0 w0 σ h w) {args : List Value} (ha : ∀ a ∈ args, Wf σ a) {v : Value} (e : spCmp h args = some v) : Gives P (callFunc f ⟨args.map (phys σ)⟩) N0 w0 σ h w v h := by
  unfold spCmp at e
  split at e
  · rename_i a b
    split at e
    · rename_i n1 x n2 y h1 h2
      split at e
      · rename_i xs ys h3 h4
        simp only [Option.some.injEq] at e
        subst e
        have r1 := bytes_sound (P := P) R (ha a (by simp)) h1 h3
        have r2 := bytes_sound (P := P) R (ha b (by simp)) h2 h4
        refine ⟨σ, w, .refl _ _, .inl ?_, R, .int _ _, Nat.le_refl _⟩
        rw [run_callFunc_extern hf hname hb hn he]
        have hc : ∀ u v : Value, Extern.BytealgCompare.compare ⟨[u, v]⟩ = (do pure (goInt (Extern.BytealgCompare.cmp (← Extern.Bytes.bytesOf u) (← Extern.Bytes.bytesOf v)))) := fun _ _ => rfl
        simp only [List.map_cons, List.map_nil, hc, Sem.run_bind, r1, r2, Result.andThen_ok, Sem.run_pure, goInt, phys_int]
      · cases e
    · cases e
  · cases e

/-! ### Tables -/
def T.All {α : Type} (Q : Nat → α → Prop) : T α → (Nat → Nat) → Prop
  | .leaf, _ => True
  | .node v l r, g => (∀ x, v = some x → Q (g 0) x) ∧ T.All Q l (fun k => g (2 * k + 1)) ∧ T.All Q r (fun k => g (2 * k + 2))

theorem T.All.get {α : Type} {Q : Nat → α → Prop} : ∀ {t : T α} {g : Nat → Nat}, T.All Q t g → ∀ n x, t.get n = some x → Q (g n) x
  | .leaf, g, _, n, x, h => by simp [T.get] at h
  | .node v l r, g, ⟨h1, h2, h3⟩, n, x, h => by
    simp only [T.get, nbeq] at h
    by_cases e : n = 0
    · subst e
      simp only [decide_true, cond_true] at h
      exact h1 x h
    · simp only [e, decide_false, cond_false] at h
      by_cases e2 : n % 2 = 1
      · simp only [e2, decide_true, cond_true] at h
        have := T.All.get h2 (n / 2) x h
        rw [show 2 * (n / 2) + 1 = n by omega] at this
        exact this
      · simp only [e2, decide_false, cond_false] at h
        have := T.All.get h3 (n / 2 - 1) x h
        rw [show 2 * (n / 2 - 1) + 2 = n by omega] at this
        exact this

theorem T.All.some {α : Type} {Q : Nat → α → Prop} {x : α} {l r : T α} {g : Nat → Nat} (h : Q (g 0) x) (hl : T.All Q l (fun k => g (2 * k + 1))) (hr : T.All Q r (fun k => g (2 * k + 2))) : T.All Q (.node (some x) l r) g :=
  ⟨fun y e => by cases e; exact h, hl, hr⟩
theorem T.All.none {α : Type} {Q : Nat → α → Prop} {l r : T α} {g : Nat → Nat} (hl : T.All Q l (fun k => g (2 * k + 1))) (hr : T.All Q r (fun k => g (2 * k + 2))) : T.All Q (.node .none l r) g :=
  ⟨fun y e => (by cases e), hl, hr⟩

def T.allB {α : Type} (p : α → Bool) : T α → Bool
  | .leaf => true
  | .node v l r => (match v with | some x => p x | none => true) && (l.allB p && r.allB p)

theorem T.allB_get {α : Type} {p : α → Bool} : ∀ {t : T α}, t.allB p = true → ∀ n x, t.get n = some x → p x = true
  | .leaf, _, n, x, h => by simp [T.get] at h
  | .node v l r, hb, n, x, h => by
    simp only [T.allB, Bool.and_eq_true] at hb
    obtain ⟨h1, h2, h3⟩ := hb
    simp only [T.get] at h
    cases e : Nat.beq n 0 with
    | true =>
      rw [e] at h
      simp only [cond_true] at h
      rw [h] at h1; exact h1
    | false =>
      rw [e] at h
      simp only [cond_false] at h
      cases e2 : Nat.beq (n % 2) 1 with
      | true => rw [e2] at h; exact T.allB_get h2 _ x h
      | false => rw [e2] at h; exact T.allB_get h3 _ x h

def zeroB (x : TypeInfo × TypeDesc) : Bool := match x.1.zero with
  | some z => constV z && flatV z && Nat.beq (vcells z).length x.1.size
  | none => true
def fieldsB (t : T (TypeInfo × TypeDesc)) (x : TypeInfo × TypeDesc) : Bool := match x.2 with
  | .struct fs => fs.toList.all fun f => (t.get f.type).isSome
  | _ => true
def isStruct : TypeDesc → Bool
  | .struct _ => true
  | _ => false

theorem info_of {t : Nat} {i : TypeInfo} (h : P.types[t]? = some i) : P.info? t = some i := by
  unfold Tables.info?
  have : t < P.types.size := (Array.getElem?_eq_some_iff.1 h).1
  rw [if_pos this, h]

/-- the tables are the program's -/
theorem envOK_of {E : Env} {tyT : T (TypeInfo × TypeDesc)} {fnT : T Func} {egT : T Bool} (hty : E.ty = tyT.get) (hfn : E.fn = fnT.get) (heg : ∀ t, E.eg t = true → egT.get t = some true)
    (h1 : T.All (fun t x => (P.types[t]? = some x.1 ∧ P.underlying t = some x.2) ∧ (isStruct x.2 = true → P.stoodInHeld t = false)) tyT (fun k => k)) (h2 : tyT.allB zeroB = true) (h3 : tyT.allB (fieldsB tyT) = true)
    (h4 : T.All (fun f fn => P.funcs[f]? = some fn) fnT (fun k => k)) (h5 : fnT.allB (fun fn => !(fn.name == "runtime.NumGoroutine")) = true) (h6 : T.All (fun t b => b = true → P.eqGuardType P.depth t = false) egT (fun k => k))
    (h7 : P.follows .mixedOrders = true) (h8 : P.follows .rangeFuncRecover = true) : EnvOK E P := by
  refine ⟨fun t i d e => ?_, fun t i d z e hz => ?_, fun t i d z e hz => ?_, fun t i fs e => ?_, fun t i fs e f hf => ?_, fun t e => ?_, fun f fn e => ?_, h7, h8⟩
  · rw [hty] at e
    have := (h1.get t _ e).1
    exact ⟨info_of this.1, this.2⟩
  · rw [hty] at e
    have := T.allB_get h2 t _ e
    simp only [zeroB, hz, Bool.and_eq_true] at this
    exact this.1
  · rw [hty] at e
    have := T.allB_get h2 t _ e
    simp only [zeroB, hz, Bool.and_eq_true, nbeq, decide_eq_true_eq] at this
    exact this.2
  · rw [hty] at e
    exact (h1.get t _ e).2 rfl
  · rw [hty] at e
    have := T.allB_get h3 t _ e
    simp only [fieldsB, List.all_eq_true] at this
    have := this f hf
    unfold Env.size
    rw [hty]
    cases hg : tyT.get f.type with
    | none => rw [hg] at this; cases this
    | some x => exact ⟨x.1.size, rfl⟩
  · exact h6.get t _ (heg t e) rfl
  · rw [hfn] at e
    have := T.allB_get h5 f _ e
    exact ⟨h4.get f _ e, by simpa using this⟩
end
end Go.Lm

