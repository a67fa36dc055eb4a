import PyProof.Rows.All
import Wide.All
import OpenK.AllK
import Wide.FinOn
import HandS.ForMost
import HandS.Walk
import HandS.Zip
import HandS.Wide
import HandS.Flow
import HandS.TupAny
import HandS.Conv
import HandS.Style
import HandS.Deep
import HandS.WordsDict
import HandS.WordsList
import HandS.SortInts
import HandS.SetFor
import HandS.Small
import HandS.EndBits
import HandS.WideBits
import HandS.IsInst
import HandS.Dict
import HandS.RaiseMore
import PyProof.Rows.BitMore
import PyProof.Rows.StrJoinMade
import PySem.Challenge.RW_payorder_k14_nested_orders_counted
set_option Elab.async false
set_option linter.all false
set_option maxRecDepth 100000
set_option maxHeartbeats 4000000
/-! Dl1: data trees, the store, what they stand for, the judgements. -/
namespace Dl
open PySem PySem.Spec PyProof.Rows L2

/-- a data tree -/
inductive T where
  | non | bl (b : Bool) | int (i : Int) | str (x : Str)
  | tup (xs : List T) | lst (xs : List T) | dct (kvs : List (Key × T))
  | scr (ns : List Int)
/-- what a slot holds: a tree, or the n-th cell of the store -/
inductive W where
  | t (x : T) | r (n : Nat)
inductive Cell where
  | lst (xs : List T) | vec (ws : List W) | dic (kvs : List (Key × T)) | frz (kvs : List (Key × T)) | dead
/-- it can be changed -/
def Cell.can : Cell → Bool
  | .lst _ => true
  | .vec _ => true
  | .dic _ => true
  | _ => false
abbrev Sto := List Cell
abbrev Env := List (Option W)
/-- what a piece of code gives -/
inductive R (α : Type) where
  | ok (a : α) (S : Sto) | ex (c : Str) (v : Option T) (S : Sto) | no
def R.bind {α β : Type} (x : R α) (f : α → Sto → R β) : R β := match x with
  | .ok a S => f a S
  | .ex c v S => .ex c v S
  | .no => .no
theorem R.bind_ok {α β : Type} {a : α} {S : Sto} {f : α → Sto → R β} : (R.ok a S).bind f = f a S := rfl
theorem R.bind_eq {α β : Type} {x : R α} {f : α → Sto → R β} {b : β} {S : Sto} (h : x.bind f = .ok b S) : ∃ a S1, x = .ok a S1 ∧ f a S1 = .ok b S := by
  cases x with
  | ok a S1 => exact ⟨a, S1, rfl, h⟩
  | ex c v S1 => cases h
  | no => cases h
/-- of an option -/
def R.of {α : Type} (o : Option α) (S : Sto) : R α := match o with
  | some a => .ok a S
  | none => .no
theorem R.of_eq {α : Type} {o : Option α} {S S' : Sto} {a : α} (h : R.of o S = .ok a S') : o = some a ∧ S' = S := by
  cases o with
  | none => cases h
  | some b => cases h; exact ⟨rfl, rfl⟩

mutual
inductive Rp (K : PySem.W.Frag) (F : Hp) : T → V → Prop
  | non : Rp K F .non .non
  | bl (b : Bool) : Rp K F (.bl b) (.bl b)
  | int (i : Int) : Rp K F (.int i) (.int i)
  | str (x : Str) : Rp K F (.str x) (.str x)
  | tup {a : Addr} {xs : List T} {vs : List V} : SqT K F a vs → Rps K F xs vs → Rp K F (.tup xs) (.ref a)
  | lst {a : Addr} {xs : List T} {vs : List V} : F a = some (.lst vs) → Rps K F xs vs → Rp K F (.lst xs) (.ref a)
  | dct {a : Addr} {kvs : List (Key × T)} {us : List (Key × V)} : F a = some (.dK us) → Rpk K F kvs us → Rp K F (.dct kvs) (.ref a)
  | scr {a : Addr} {ns : List Int} : SqL K F a (ns.map V.int) → Rp K F (.scr ns) (.ref a)
inductive Rps (K : PySem.W.Frag) (F : Hp) : List T → List V → Prop
  | nil : Rps K F [] []
  | cons {x : T} {v : V} {xs : List T} {vs : List V} : Rp K F x v → Rps K F xs vs → Rps K F (x :: xs) (v :: vs)
inductive Rpk (K : PySem.W.Frag) (F : Hp) : List (Key × T) → List (Key × V) → Prop
  | nil : Rpk K F [] []
  | cons {k : Key} {x : T} {v : V} {xs : List (Key × T)} {vs : List (Key × V)} : Rp K F x v → Rpk K F xs vs → Rpk K F ((k, x) :: xs) ((k, v) :: vs)
end

theorem Same.sqT {K : PySem.W.Frag} {H H' : Hp} {a : Addr} {xs : List V} (e : Same H H') (h : SqT K H a xs) : SqT K H' a xs := by
  rcases h with (h | ⟨o, h⟩) | h
  · exact .inl (.inl (e _ _ h))
  · exact .inl (.inr ⟨o, e _ _ h⟩)
  · exact .inr h
mutual
theorem Rp.mono {K : PySem.W.Frag} {F F' : Hp} (s : Same F F') {x : T} {v : V} : Rp K F x v → Rp K F' x v
  | .non => .non
  | .bl b => .bl b
  | .int i => .int i
  | .str x => .str x
  | .tup h hs => .tup (Same.sqT s h) (Rps.mono s hs)
  | .lst h hs => .lst (s _ _ h) (Rps.mono s hs)
  | .dct h hs => .dct (s _ _ h) (Rpk.mono s hs)
  | .scr h => .scr (s.seq h)
theorem Rps.mono {K : PySem.W.Frag} {F F' : Hp} (s : Same F F') {xs : List T} {vs : List V} : Rps K F xs vs → Rps K F' xs vs
  | .nil => .nil
  | .cons h hs => .cons (Rp.mono s h) (Rps.mono s hs)
theorem Rpk.mono {K : PySem.W.Frag} {F F' : Hp} (s : Same F F') {xs : List (Key × T)} {vs : List (Key × V)} : Rpk K F xs vs → Rpk K F' xs vs
  | .nil => .nil
  | .cons h hs => .cons (Rp.mono s h) (Rpk.mono s hs)
end
section
variable {K : PySem.W.Frag} {F : Hp}
theorem Rps.length : ∀ {xs : List T} {vs : List V}, Rps K F xs vs → xs.length = vs.length
  | _, _, .nil => rfl
  | _, _, .cons _ h => by rw [List.length_cons, List.length_cons, Rps.length h]
theorem Rps.get : ∀ {xs : List T} {vs : List V} {i : Nat} {x : T}, Rps K F xs vs → xs[i]? = some x → ∃ v, vs[i]? = some v ∧ Rp K F x v
  | _, _, _, _, .nil, e => by simp at e
  | _, _, 0, _, .cons r _, e => by simp at e; subst e; exact ⟨_, rfl, r⟩
  | _, _, i + 1, x, .cons _ t, e => by
    obtain ⟨u, h1, h2⟩ := Rps.get (i := i) (x := x) t (by simpa using e)
    exact ⟨u, by simpa using h1, h2⟩
theorem Rps.append : ∀ {xs ys : List T} {us ws : List V}, Rps K F xs us → Rps K F ys ws → Rps K F (xs ++ ys) (us ++ ws)
  | _, _, _, _, .nil, s => s
  | _, _, _, _, .cons r t, s => .cons r (Rps.append t s)
theorem Rps.take : ∀ {xs : List T} {us : List V} (n : Nat), Rps K F xs us → Rps K F (xs.take n) (us.take n)
  | _, _, 0, _ => .nil
  | _, _, _ + 1, .nil => .nil
  | _, _, n + 1, .cons r t => .cons r (Rps.take n t)
theorem Rps.drop : ∀ {xs : List T} {us : List V} (n : Nat), Rps K F xs us → Rps K F (xs.drop n) (us.drop n)
  | _, _, 0, r => r
  | _, _, _ + 1, .nil => .nil
  | _, _, n + 1, .cons _ t => Rps.drop n t
theorem Rps.set {x : T} {u : V} (r : Rp K F x u) : ∀ {xs : List T} {us : List V} (i : Nat), Rps K F xs us → Rps K F (xs.set i x) (us.set i u)
  | _, _, _, .nil => .nil
  | _, _, 0, .cons _ t => .cons r t
  | _, _, i + 1, .cons q t => .cons q (Rps.set r i t)
theorem Rps.eraseIdx : ∀ {xs : List T} {us : List V} (i : Nat), Rps K F xs us → Rps K F (xs.eraseIdx i) (us.eraseIdx i)
  | _, _, _, .nil => .nil
  | _, _, 0, .cons _ t => t
  | _, _, i + 1, .cons q t => .cons q (Rps.eraseIdx i t)
theorem Rps.reverse {xs : List T} {us : List V} (h : Rps K F xs us) : Rps K F xs.reverse us.reverse := by
  have : ∀ (xs : List T) (us : List V), Rps K F xs us → ∀ (ys : List T) (ws : List V), Rps K F ys ws → Rps K F (xs.reverse ++ ys) (us.reverse ++ ws) := by
    intro xs
    induction xs with
    | nil => intro us h ys ws q; cases h; simpa using q
    | cons x xs ih =>
      intro us h ys ws q
      cases h with
      | cons r t =>
        rw [List.reverse_cons, List.reverse_cons, List.append_assoc, List.append_assoc]
        exact ih _ t _ _ (.cons r q)
  simpa using this xs us h [] [] .nil
theorem Rps.ints : ∀ (ns : List Int), Rps K F (ns.map T.int) (ns.map V.int)
  | [] => .nil
  | n :: ns => .cons (.int n) (Rps.ints ns)
theorem Rps.bls : ∀ (ns : List Bool), Rps K F (ns.map T.bl) (ns.map V.bl)
  | [] => .nil
  | n :: ns => .cons (.bl n) (Rps.bls ns)
theorem Rps.ints_inv : ∀ {ns : List Int} {vs : List V}, Rps K F (ns.map T.int) vs → vs = ns.map V.int
  | [], _, .nil => rfl
  | n :: ns, _, .cons r t => by cases r; rw [Rps.ints_inv t]; rfl
theorem Rps.bls_inv : ∀ {ns : List Bool} {vs : List V}, Rps K F (ns.map T.bl) vs → vs = ns.map V.bl
  | [], _, .nil => rfl
  | n :: ns, _, .cons r t => by cases r; rw [Rps.bls_inv t]; rfl
theorem Rps.strs_inv : ∀ {ns : List Str} {vs : List V}, Rps K F (ns.map T.str) vs → vs = ns.map V.str
  | [], _, .nil => rfl
  | n :: ns, _, .cons r t => by cases r; rw [Rps.strs_inv t]; rfl
end

/-- a slot's word -/
def RpW (K : PySem.W.Frag) (F : Hp) (μ : List Addr) (w : W) (v : V) : Prop := match w with
  | .t x => Rp K F x v
  | .r n => ∃ p, μ[n]? = some p ∧ v = .ref p
inductive RpWs (K : PySem.W.Frag) (F : Hp) (μ : List Addr) : List W → List V → Prop
  | nil : RpWs K F μ [] []
  | cons {x : W} {v : V} {xs : List W} {vs : List V} : RpW K F μ x v → RpWs K F μ xs vs → RpWs K F μ (x :: xs) (v :: vs)
/-- what stands at p for a cell -/
def RpC (K : PySem.W.Frag) (H F : Hp) (μ : List Addr) (p : Addr) (c : Cell) : Prop := match c with
  | .dead => True
  | .lst xs => F p = none ∧ ∃ vs, H p = some (.lst vs) ∧ Rps K F xs vs
  | .vec ws => F p = none ∧ ∃ vs, H p = some (.lst vs) ∧ RpWs K F μ ws vs
  | .dic kvs => F p = none ∧ ∃ us, H p = some (.dK us) ∧ Rpk K F kvs us
  | .frz kvs => F p = none ∧ ∃ us, (∃ o, H p = some (.frz o (.dK us))) ∧ Rpk K F kvs us
/-- the state: F what is frozen, μ where the cells stand -/
structure Rs (K : PySem.W.Frag) (H : Hp) (S : Sto) (F : Hp) (μ : List Addr) : Prop where
  sub : Same F H
  len : μ.length = S.length
  cell : ∀ (n : Nat) (c : Cell) (p : Addr), S[n]? = some c → μ[n]? = some p → RpC K H F μ p c
  there : ∀ (n : Nat) (p : Addr), μ[n]? = some p → H p ≠ none
  nd : ∀ (m n : Nat) (p : Addr), μ[m]? = some p → μ[n]? = some p → m = n
/-- the slots -/
structure RpSt (K : PySem.W.Frag) (F : Hp) (μ : List Addr) (σ : L2.St) (ρ : Env) : Prop where
  len : ρ.length = σ.length
  get : ∀ (i : Nat) (w : W), ρ[i]? = some (some w) → ∃ v, σ[i]? = some (some v) ∧ RpW K F μ w v
/-- how the state goes on -/
structure Gr (H F : Hp) (μ : List Addr) (H' F' : Hp) (μ' : List Addr) : Prop where
  same : Same F F'
  pre : ∃ ν, μ' = μ ++ ν
  keep : ∀ p o, H p = some o → F p = none → p ∉ μ → H' p = some o ∧ F' p = none ∧ p ∉ μ'
  lk : ∀ p o u, H p = some (.frz o u) → H' p = some (.frz o u)
section
variable {K : PySem.W.Frag} {H H' H2 F F' F2 : Hp} {μ μ' μ2 : List Addr} {S S' : Sto}
theorem Gr.refl : Gr H F μ H F μ := ⟨Same.refl _, ⟨[], by simp⟩, fun _ _ h1 h2 h3 => ⟨h1, h2, h3⟩, fun _ _ _ h => h⟩
theorem Gr.trans (a : Gr H F μ H' F' μ') (b : Gr H' F' μ' H2 F2 μ2) : Gr H F μ H2 F2 μ2 :=
  ⟨a.same.trans b.same, by
    obtain ⟨x, rfl⟩ := a.pre
    obtain ⟨y, rfl⟩ := b.pre
    exact ⟨x ++ y, by rw [List.append_assoc]⟩, fun p o h1 h2 h3 => by
    obtain ⟨q1, q2, q3⟩ := a.keep p o h1 h2 h3
    exact b.keep p o q1 q2 q3, fun p o u e => b.lk p o u (a.lk p o u e)⟩
theorem pre_get {n : Nat} {p : Addr} (h : ∃ ν, μ' = μ ++ ν) (e : μ[n]? = some p) : μ'[n]? = some p := by
  obtain ⟨ν, rfl⟩ := h
  have := (List.getElem?_eq_some_iff.mp e).1
  rw [List.getElem?_append_left this]; exact e
theorem RpW.mono {w : W} {v : V} (s : Same F F') (p : ∃ ν, μ' = μ ++ ν) (h : RpW K F μ w v) : RpW K F' μ' w v := by
  cases w with
  | t x => exact Rp.mono s h
  | r n => obtain ⟨q, e, z⟩ := h; exact ⟨q, pre_get p e, z⟩
theorem RpW.gr {w : W} {v : V} (g : Gr H F μ H' F' μ') (h : RpW K F μ w v) : RpW K F' μ' w v := h.mono g.same g.pre
theorem RpWs.mono (s : Same F F') (p : ∃ ν, μ' = μ ++ ν) : ∀ {ws : List W} {vs : List V}, RpWs K F μ ws vs → RpWs K F' μ' ws vs
  | _, _, .nil => .nil
  | _, _, .cons h t => .cons (h.mono s p) (RpWs.mono s p t)
theorem RpWs.gr {ws : List W} {vs : List V} (g : Gr H F μ H' F' μ') (h : RpWs K F μ ws vs) : RpWs K F' μ' ws vs := h.mono g.same g.pre
theorem RpWs.length : ∀ {ws : List W} {vs : List V}, RpWs K F μ ws vs → ws.length = vs.length
  | _, _, .nil => rfl
  | _, _, .cons _ h => by rw [List.length_cons, List.length_cons, RpWs.length h]
theorem RpWs.get : ∀ {xs : List W} {vs : List V} {i : Nat} {x : W}, RpWs K F μ xs vs → xs[i]? = some x → ∃ v, vs[i]? = some v ∧ RpW K F μ x v
  | _, _, _, _, .nil, e => by simp at e
  | _, _, 0, _, .cons r _, e => by simp at e; subst e; exact ⟨_, rfl, r⟩
  | _, _, i + 1, x, .cons _ t, e => by
    obtain ⟨u, h1, h2⟩ := RpWs.get (i := i) (x := x) t (by simpa using e)
    exact ⟨u, by simpa using h1, h2⟩
theorem RpWs.append : ∀ {xs ys : List W} {us ws : List V}, RpWs K F μ xs us → RpWs K F μ ys ws → RpWs K F μ (xs ++ ys) (us ++ ws)
  | _, _, _, _, .nil, s => s
  | _, _, _, _, .cons r t, s => .cons r (RpWs.append t s)
theorem RpWs.set {x : W} {u : V} (r : RpW K F μ x u) : ∀ {xs : List W} {us : List V} (i : Nat), RpWs K F μ xs us → RpWs K F μ (xs.set i x) (us.set i u)
  | _, _, _, .nil => .nil
  | _, _, 0, .cons _ t => .cons r t
  | _, _, i + 1, .cons q t => .cons q (RpWs.set r i t)
theorem RpWs.trees : ∀ {xs : List T} {vs : List V}, RpWs K F μ (xs.map W.t) vs → Rps K F xs vs
  | [], _, .nil => .nil
  | _ :: _, _, .cons r t => .cons r (RpWs.trees t)
theorem RpWs.of_trees : ∀ {xs : List T} {vs : List V}, Rps K F xs vs → RpWs K F μ (xs.map W.t) vs
  | _, _, .nil => .nil
  | _, _, .cons r t => .cons r (RpWs.of_trees t)
theorem RpSt.mono {σ : L2.St} {ρ : Env} (s : Same F F') (p : ∃ ν, μ' = μ ++ ν) (h : RpSt K F μ σ ρ) : RpSt K F' μ' σ ρ :=
  ⟨h.len, fun i w e => let ⟨v, h1, h2⟩ := h.get i w e; ⟨v, h1, h2.mono s p⟩⟩
theorem RpSt.gr {σ : L2.St} {ρ : Env} (g : Gr H F μ H' F' μ') (h : RpSt K F μ σ ρ) : RpSt K F' μ' σ ρ := h.mono g.same g.pre
theorem RpSt.set {σ : L2.St} {ρ : Env} {w : W} {v : V} (i : Nat) (h : RpSt K F μ σ ρ) (r : RpW K F μ w v) : RpSt K F μ (σ.set i (some v)) (ρ.set i (some w)) := by
  refine ⟨by simpa using h.len, fun j w' e => ?_⟩
  by_cases hj : j = i
  · subst hj
    have hl : j < ρ.length := by
      have := (List.getElem?_eq_some_iff.mp e).1
      simpa using this
    rw [List.getElem?_set_self hl] at e
    cases e
    exact ⟨v, by rw [List.getElem?_set_self (by rw [← h.len]; exact hl)], r⟩
  · rw [List.getElem?_set_ne (Ne.symm hj)] at e
    obtain ⟨v', h1, h2⟩ := h.get j w' e
    exact ⟨v', by rw [List.getElem?_set_ne (Ne.symm hj)]; exact h1, h2⟩
theorem RpSt.forget {σ : L2.St} {ρ : Env} (i : Nat) (h : RpSt K F μ σ ρ) : RpSt K F μ (σ.set i none) (ρ.set i none) := by
  refine ⟨by simpa using h.len, fun j w' e => ?_⟩
  by_cases hj : j = i
  · subst hj
    have hl : j < ρ.length := by
      have := (List.getElem?_eq_some_iff.mp e).1
      simpa using this
    rw [List.getElem?_set_self hl] at e
    cases e
  · rw [List.getElem?_set_ne (Ne.symm hj)] at e
    obtain ⟨v', h1, h2⟩ := h.get j w' e
    exact ⟨v', by rw [List.getElem?_set_ne (Ne.symm hj)]; exact h1, h2⟩
/-- a new thing, frozen at once -/
theorem Rs.mem_ne {p q : Addr} {n : Nat} (h : Rs K H S F μ) (hp : H p = none) (e : μ[n]? = some q) : q ≠ p := fun z => h.there n q e (by rw [z]; exact hp)
theorem Rs.notF {p : Addr} (h : Rs K H S F μ) (hp : H p = none) : F p = none := by
  cases e : F p with
  | none => rfl
  | some o => rw [h.sub _ _ e] at hp; cases hp
theorem Rs.notM {p : Addr} (h : Rs K H S F μ) (hp : H p = none) : p ∉ μ := fun z => by
  obtain ⟨n, hn⟩ := List.getElem?_of_mem z
  exact h.there n p hn hp
theorem Rs.new {p : Addr} (o : HO) (h : Rs K H S F μ) (hp : H p = none) : Rs K (upd H p o) S (upd F p o) μ ∧ Gr H F μ (upd H p o) (upd F p o) μ := by
  have nF := h.notF hp
  have sm : Same F (upd F p o) := fun b u e => by rw [upd_ne (ne_of_none e nF)]; exact e
  refine ⟨⟨fun b u e => ?_, h.len, fun n c q e1 e2 => ?_, fun n q e => ?_, h.nd⟩, ⟨sm, ⟨[], by simp⟩, fun b u h1 h2 h3 => ?_, fun b o u e => by rw [upd_ne (ne_of_none e hp)]; exact e⟩⟩
  · by_cases z : b = p
    · subst z; rw [upd_same] at e ⊢; exact e
    · rw [upd_ne z] at e ⊢; exact h.sub _ _ e
  · have ne := h.mem_ne hp e2
    have q0 := h.cell n c q e1 e2
    cases c with
    | dead => trivial
    | lst xs => obtain ⟨a, vs, b, r⟩ := q0; exact ⟨by rw [upd_ne ne]; exact a, vs, by rw [upd_ne ne]; exact b, r.mono sm⟩
    | vec ws => obtain ⟨a, vs, b, r⟩ := q0; exact ⟨by rw [upd_ne ne]; exact a, vs, by rw [upd_ne ne]; exact b, r.mono sm ⟨[], by simp⟩⟩
    | dic kvs => obtain ⟨a, vs, b, r⟩ := q0; exact ⟨by rw [upd_ne ne]; exact a, vs, by rw [upd_ne ne]; exact b, r.mono sm⟩
    | frz kvs => obtain ⟨a, vs, ⟨o', b⟩, r⟩ := q0; exact ⟨by rw [upd_ne ne]; exact a, vs, ⟨o', by rw [upd_ne ne]; exact b⟩, r.mono sm⟩
  · rw [upd_ne (h.mem_ne hp e)]; exact h.there n q e
  · have ne : b ≠ p := ne_of_none h1 hp
    rw [upd_ne ne, upd_ne ne]; exact ⟨h1, h2, h3⟩
/-- a thing tracked by nobody comes in: only the heap grows -/
theorem Rs.heap {p : Addr} (o : HO) (h : Rs K H S F μ) (hp : F p = none) (hm : p ∉ μ) : Rs K (upd H p o) S F μ := by
  refine ⟨fun b u e => by rw [upd_ne (ne_of_none e hp)]; exact h.sub _ _ e, h.len, fun n c q e1 e2 => ?_, fun n q e => ?_, h.nd⟩
  · have ne : q ≠ p := fun z => hm (z ▸ List.mem_of_getElem? e2)
    have q0 := h.cell n c q e1 e2
    cases c with
    | dead => trivial
    | lst xs => obtain ⟨a, vs, b, r⟩ := q0; exact ⟨a, vs, by rw [upd_ne ne]; exact b, r⟩
    | vec ws => obtain ⟨a, vs, b, r⟩ := q0; exact ⟨a, vs, by rw [upd_ne ne]; exact b, r⟩
    | dic kvs => obtain ⟨a, vs, b, r⟩ := q0; exact ⟨a, vs, by rw [upd_ne ne]; exact b, r⟩
    | frz kvs => obtain ⟨a, vs, ⟨o', b⟩, r⟩ := q0; exact ⟨a, vs, ⟨o', by rw [upd_ne ne]; exact b⟩, r⟩
  · have ne : q ≠ p := fun z => hm (z ▸ List.mem_of_getElem? e)
    rw [upd_ne ne]; exact h.there n q e
/-- .. and is frozen -/
theorem Rs.freeze {p : Addr} {o : HO} (h : Rs K H S F μ) (hH : H p = some o) (hp : F p = none) (hm : p ∉ μ) : Rs K H S (upd F p o) μ := by
  have sm : Same F (upd F p o) := fun b u e => by rw [upd_ne (ne_of_none e hp)]; exact e
  refine ⟨fun b u e => ?_, h.len, fun n c q e1 e2 => ?_, h.there, h.nd⟩
  · by_cases z : b = p
    · subst z; rw [upd_same] at e; rw [hH]; exact e
    · rw [upd_ne z] at e; exact h.sub _ _ e
  · have ne : q ≠ p := fun z => hm (z ▸ List.mem_of_getElem? e2)
    have q0 := h.cell n c q e1 e2
    cases c with
    | dead => trivial
    | lst xs => obtain ⟨a, vs, b, r⟩ := q0; exact ⟨by rw [upd_ne ne]; exact a, vs, b, r.mono sm⟩
    | vec ws => obtain ⟨a, vs, b, r⟩ := q0; exact ⟨by rw [upd_ne ne]; exact a, vs, b, r.mono sm ⟨[], by simp⟩⟩
    | dic kvs => obtain ⟨a, vs, b, r⟩ := q0; exact ⟨by rw [upd_ne ne]; exact a, vs, b, r.mono sm⟩
    | frz kvs => obtain ⟨a, vs, ⟨o', b⟩, r⟩ := q0; exact ⟨by rw [upd_ne ne]; exact a, vs, ⟨o', b⟩, r.mono sm⟩
/-- a cell comes in -/
theorem Rs.box {p : Addr} {c : Cell} (h : Rs K H S F μ) (hH : H p ≠ none) (hm : p ∉ μ) (hc : RpC K H F (μ ++ [p]) p c) : Rs K H (S ++ [c]) F (μ ++ [p]) := by
  refine ⟨h.sub, by simp [h.len], fun n c' q e1 e2 => ?_, fun n q e => ?_, fun m n q e1 e2 => ?_⟩
  · by_cases hn : n < S.length
    · rw [List.getElem?_append_left hn] at e1
      rw [List.getElem?_append_left (by rw [h.len]; exact hn)] at e2
      have q0 := h.cell n c' q e1 e2
      cases c' with
      | dead => trivial
      | lst xs => exact q0
      | vec ws => obtain ⟨a, vs, b, r⟩ := q0; exact ⟨a, vs, b, r.mono (Same.refl _) ⟨[p], rfl⟩⟩
      | dic kvs => exact q0
      | frz kvs => exact q0
    · have hl := (List.getElem?_eq_some_iff.mp e1).1
      simp at hl
      have en : n = S.length := by omega
      subst en
      rw [List.getElem?_append_right (Nat.le_refl _)] at e1
      rw [← h.len, List.getElem?_append_right (Nat.le_refl _)] at e2
      simp at e1 e2
      subst e1; subst e2
      exact hc
  · by_cases hn : n < μ.length
    · rw [List.getElem?_append_left hn] at e; exact h.there n q e
    · have hl := (List.getElem?_eq_some_iff.mp e).1
      simp at hl
      have en : n = μ.length := by omega
      subst en
      rw [List.getElem?_append_right (Nat.le_refl _)] at e
      simp at e
      subst e; exact hH
  · have key : ∀ k, (μ ++ [p])[k]? = some q → (k < μ.length ∧ μ[k]? = some q) ∨ (k = μ.length ∧ q = p) := fun k e => by
      by_cases hn : k < μ.length
      · rw [List.getElem?_append_left hn] at e; exact .inl ⟨hn, e⟩
      · have hl := (List.getElem?_eq_some_iff.mp e).1
        simp at hl
        have en : k = μ.length := by omega
        subst en
        rw [List.getElem?_append_right (Nat.le_refl _)] at e
        simp at e
        exact .inr ⟨rfl, e.symm⟩
    rcases key m e1 with ⟨a1, a2⟩ | ⟨a1, a2⟩ <;> rcases key n e2 with ⟨b1, b2⟩ | ⟨b1, b2⟩
    · exact h.nd m n q a2 b2
    · subst b2; exact absurd (List.mem_of_getElem? a2) hm
    · subst a2; exact absurd (List.mem_of_getElem? b2) hm
    · omega
/-- the n-th cell is written -/
theorem Rs.put {p : Addr} {n : Nat} {c c' : Cell} {o : HO} (h : Rs K H S F μ) (hS : S[n]? = some c) (hd : c.can = true) (hμ : μ[n]? = some p) (hc : RpC K (upd H p o) F μ p c') : Rs K (upd H p o) (S.set n c') F μ ∧ Gr H F μ (upd H p o) F μ := by
  have hl := (List.getElem?_eq_some_iff.mp hS).1
  have nF : F p = none := by
    have q0 := h.cell n c p hS hμ
    cases c with
    | dead => cases hd
    | lst xs => exact q0.1
    | vec ws => exact q0.1
    | dic kvs => exact q0.1
    | frz kvs => cases hd
  have nFz : ∀ o' u, H p ≠ some (.frz o' u) := fun o' u z => by
    have q0 := h.cell n c p hS hμ
    cases c with
    | dead => cases hd
    | frz kvs => cases hd
    | lst xs => obtain ⟨_, vs, b, _⟩ := q0; rw [b] at z; cases z
    | vec ws => obtain ⟨_, vs, b, _⟩ := q0; rw [b] at z; cases z
    | dic kvs => obtain ⟨_, vs, b, _⟩ := q0; rw [b] at z; cases z
  refine ⟨⟨fun b u e => by rw [upd_ne (ne_of_none e nF)]; exact h.sub _ _ e, by simpa using h.len, fun m c2 q e1 e2 => ?_, fun m q e => ?_, h.nd⟩, ⟨Same.refl _, ⟨[], by simp⟩, fun b u h1 h2 h3 => ?_, fun b o' u e => by
    by_cases z : b = p
    · exact absurd (z ▸ e : H p = _) (nFz o' u)
    · rw [upd_ne z]; exact e⟩⟩
  · by_cases hm : m = n
    · subst hm
      rw [List.getElem?_set_self hl] at e1
      rw [hμ] at e2
      cases e1; cases e2
      exact hc
    · rw [List.getElem?_set_ne (Ne.symm hm)] at e1
      have ne : q ≠ p := fun z => hm (h.nd m n q e2 (by rw [z]; exact hμ))
      have q0 := h.cell m c2 q e1 e2
      cases c2 with
      | dead => trivial
      | lst xs => obtain ⟨a, vs, b, r⟩ := q0; exact ⟨a, vs, by rw [upd_ne ne]; exact b, r⟩
      | vec ws => obtain ⟨a, vs, b, r⟩ := q0; exact ⟨a, vs, by rw [upd_ne ne]; exact b, r⟩
      | dic kvs => obtain ⟨a, vs, b, r⟩ := q0; exact ⟨a, vs, by rw [upd_ne ne]; exact b, r⟩
      | frz kvs => obtain ⟨a, vs, ⟨o', b⟩, r⟩ := q0; exact ⟨a, vs, ⟨o', by rw [upd_ne ne]; exact b⟩, r⟩
  · by_cases z : q = p
    · rw [z, upd_same]; exact fun z => nomatch z
    · rw [upd_ne z]; exact h.there m q e
  · have ne : b ≠ p := fun z => h3 (z ▸ List.mem_of_getElem? hμ)
    rw [upd_ne ne]; exact ⟨h1, h2, h3⟩
end

/-- a word as data: shallow in the heap, deep in what is frozen -/
inductive Rv (K : PySem.W.Frag) (H F : Hp) : T → V → Prop
  | non : Rv K H F .non .non
  | bl (b : Bool) : Rv K H F (.bl b) (.bl b)
  | int (i : Int) : Rv K H F (.int i) (.int i)
  | str (x : Str) : Rv K H F (.str x) (.str x)
  | tup {a : Addr} {xs : List T} {vs : List V} : SqT K F a vs → Rps K F xs vs → Rv K H F (.tup xs) (.ref a)
  | lst {a : Addr} {xs : List T} {vs : List V} : H a = some (.lst vs) → Rps K F xs vs → Rv K H F (.lst xs) (.ref a)
  | dct {a : Addr} {kvs : List (Key × T)} {us : List (Key × V)} : Rd H a (.dK us) → Rpk K F kvs us → Rv K H F (.dct kvs) (.ref a)
  | scr {a : Addr} {ns : List Int} : SqL K H a (ns.map V.int) → Rv K H F (.scr ns) (.ref a)
inductive Rvs (K : PySem.W.Frag) (H F : Hp) : List T → List V → Prop
  | nil : Rvs K H F [] []
  | cons {x : T} {v : V} {xs : List T} {vs : List V} : Rv K H F x v → Rvs K H F xs vs → Rvs K H F (x :: xs) (v :: vs)
/-- all trees -/
def toTs : List W → Option (List T)
  | [] => some []
  | .t x :: r => (toTs r).map (x :: ·)
  | .r _ :: _ => none
theorem toTs_map (xs : List T) : toTs (xs.map W.t) = some xs := by
  induction xs with
  | nil => rfl
  | cons x xs ih => rw [List.map_cons, toTs, ih]; rfl
theorem toTs_some : ∀ {ws : List W} {xs : List T}, toTs ws = some xs → ws = xs.map W.t
  | [], xs, h => by cases h; rfl
  | .t x :: r, xs, h => by
    cases e : toTs r with
    | none => rw [toTs, e] at h; cases h
    | some ys => rw [toTs, e] at h; cases h; rw [toTs_some e]; rfl
  | .r _ :: _, xs, h => by cases h
/-- a word read as data -/
def Cell.view : Cell → Option T
  | .lst xs => some (.lst xs)
  | .vec ws => (toTs ws).map T.lst
  | .dic kvs => some (.dct kvs)
  | .frz kvs => some (.dct kvs)
  | .dead => none
def view (S : Sto) : W → Option T
  | .t x => some x
  | .r n => S[n]?.bind Cell.view
def views (S : Sto) : List W → Option (List T)
  | [] => some []
  | w :: r => (view S w).bind fun x => (views S r).map (x :: ·)
section
variable {K : PySem.W.Frag} {H F : Hp} {μ : List Addr} {S : Sto}
theorem Rv.rp {x : T} {v : V} (s : Same F H) (hd : ∀ kvs, x ≠ .dct kvs) (h : Rv K H F x v) : Rp K H x v := by
  cases h with
  | non => exact .non
  | bl b => exact .bl b
  | int i => exact .int i
  | str x => exact .str x
  | tup a r => exact .tup (Same.sqT s a) (r.mono s)
  | lst a r => exact .lst a (r.mono s)
  | dct a r => exact absurd rfl (hd _)
  | scr a => exact .scr a
theorem Rp.rv {x : T} {v : V} (s : Same F H) (h : Rp K F x v) : Rv K H F x v := by
  cases h with
  | non => exact .non
  | bl b => exact .bl b
  | int i => exact .int i
  | str x => exact .str x
  | tup a r => exact .tup a r
  | lst a r => exact .lst (s _ _ a) r
  | dct a r => exact .dct (.inl (s _ _ a)) r
  | scr a => exact .scr (s.seq a)
theorem view_rv {w : W} {v : V} {x : T} (h : Rs K H S F μ) (r : RpW K F μ w v) (e : view S w = some x) : Rv K H F x v := by
  cases w with
  | t y => cases e; exact Rp.rv h.sub r
  | r n =>
    obtain ⟨p, hp, rfl⟩ := r
    have e : S[n]?.bind Cell.view = some x := e
    cases q : S[n]? with
    | none => rw [q] at e; cases e
    | some c =>
      rw [q] at e
      have e : c.view = some x := e
      have q0 := h.cell n c p q hp
      cases c with
      | dead => cases e
      | lst xs => cases e; obtain ⟨_, vs, b, r⟩ := q0; exact .lst b r
      | vec ws =>
        obtain ⟨_, vs, b, r⟩ := q0
        cases z : toTs ws with
        | none => simp [Cell.view, z] at e
        | some ys =>
          simp [Cell.view, z] at e
          subst e
          rw [toTs_some z] at r
          exact .lst b r.trees
      | dic kvs => cases e; obtain ⟨_, vs, b, r⟩ := q0; exact .dct (.inl b) r
      | frz kvs => cases e; obtain ⟨_, vs, ⟨o', b⟩, r⟩ := q0; exact .dct (.inr ⟨o', b⟩) r
theorem views_rv : ∀ {ws : List W} {vs : List V} {xs : List T}, Rs K H S F μ → RpWs K F μ ws vs → views S ws = some xs → Rvs K H F xs vs
  | _, _, _, h, .nil, e => by cases e; exact .nil
  | _, _, _, h, .cons (x := w) (xs := ws) r t, e => by
    unfold views at e
    cases q : view S w with
    | none => rw [q] at e; cases e
    | some x =>
      rw [q] at e
      cases q2 : views S ws with
      | none => simp [q2] at e
      | some ys =>
        simp [q2] at e
        subst e
        exact .cons (view_rv h r q) (views_rv h t q2)
end

/-- room for k more levels of calls, and nobody is being shown -/
structure RoomG (k : Nat) (A : Around) : Prop extends Room k A where
  gd : A.guards = some []
theorem RoomG.less {j k : Nat} {A : Around} (r : RoomG k A) (h : j ≤ k) : RoomG j A := ⟨r.toRoom.mono h, r.gd⟩
theorem RoomG.call {k : Nat} {A : Around} (r : RoomG (k + 1) A) (env : PySem.Env) : RoomG k (A.deeper env) := ⟨r.toRoom.deeper env, r.gd⟩

/-! ### the judgements -/
def WPE (X : Cx) (e : Expr) (σ : L2.St) (H : Hp) (Q : VK) : Prop := ∀ (pins : List (Addr × Obj)) (s : Shared), Inv X pins σ H s → wpAny (model X.prog X.w) X.A (eval e X.env) (EP X pins σ Q) X.xe s
def WPT (X : Cx) (e : Expr) (σ : L2.St) (H : Hp) (Q : Bool → Hp → Prop) : Prop := ∀ (pins : List (Addr × Obj)) (s : Shared), Inv X pins σ H s → wpAny (model X.prog X.w) X.A (isTrue e X.env (eval e X.env)) (TP X pins σ Q) X.xe s
def WPW (X : Cx) (e : Expr) (σ : L2.St) (H : Hp) (Q : Bool → Hp → Prop) : Prop := ∀ (whole : Sem Value) (pins : List (Addr × Obj)) (s : Shared), Inv X pins σ H s → wpAny (model X.prog X.w) X.A (isTrue e X.env whole) (TP X pins σ Q) X.xe s
def WPA (X : Cx) (es : List Expr) (σ : L2.St) (H : Hp) (Q : List V → Hp → Prop) : Prop := ∀ (pos : Pos) (pins : List (Addr × Obj)) (s : Shared), Inv X pins σ H s → wpAny (model X.prog X.w) X.A (spliced (backTo pos (starEach es X.env))) (AP X pins σ Q) X.xe s
def WPS (X : Cx) (st : Stmt) (D : Ends) (σ : L2.St) (H : Hp) : Prop := ∀ (pins : List (Addr × Obj)) (s : Shared), Inv X pins σ H s → wpAny (model X.prog X.w) X.A (exec st X.env) (SP X pins D) X.xe s
def WPSs (X : Cx) (st : List Stmt) (D : Ends) (σ : L2.St) (H : Hp) : Prop := ∀ (pins : List (Addr × Obj)) (s : Shared), Inv X pins σ H s → wpAny (model X.prog X.w) X.A (execs st X.env) (SP X pins D) X.xe s
def WPG (X : Cx) (tg : Expr) (v : V) (σ : L2.St) (H : Hp) (Q : L2.St → Hp → Prop) : Prop := ∀ (pins : List (Addr × Obj)) (s : Shared) (u : Value), Inv X pins σ H s → RelV v u → wpAny (model X.prog X.w) X.A (assign tg X.env u) (fun _ s' => ∃ σ' H', Inv X pins σ' H' s' ∧ Q σ' H') X.xe s
section
variable {X : Cx}
theorem peW {e : Expr} : PE X e (WPE X e) := ⟨fun pins s _ _ _ I h => h pins s I⟩
theorem ptW {e : Expr} : PT X e (WPT X e) := ⟨fun pins s _ _ _ I h => h pins s I⟩
theorem pwW {e : Expr} : PW X e (WPW X e) := ⟨fun wh pins s _ _ _ I h => h wh pins s I⟩
theorem paW {es : List Expr} : PA X es (WPA X es) := ⟨fun pos pins s _ _ _ I h => h pos pins s I⟩
theorem psW {st : Stmt} : PS X st (WPS X st) := ⟨fun pins s _ _ _ I h => h pins s I⟩
theorem pssW {st : List Stmt} : PSs X st (WPSs X st) := ⟨fun pins s _ _ _ I h => h pins s I⟩
theorem pgW {tg : Expr} : PG X tg (WPG X tg) := ⟨fun pins s _ _ _ u _ I r h => h pins s u I r⟩
theorem wpe {e : Expr} {t : TE} {σ : L2.St} {H : Hp} {Q : VK} (h : PE X e t) (q : t σ H Q) : WPE X e σ H Q := fun pins s I => h.run pins s σ H Q I q
theorem wpt {e : Expr} {t : TT} {σ : L2.St} {H : Hp} {Q : Bool → Hp → Prop} (h : PT X e t) (q : t σ H Q) : WPT X e σ H Q := fun pins s I => h.run pins s σ H Q I q
theorem wpw {e : Expr} {t : TT} {σ : L2.St} {H : Hp} {Q : Bool → Hp → Prop} (h : PW X e t) (q : t σ H Q) : WPW X e σ H Q := fun wh pins s I => h.run wh pins s σ H Q I q
theorem wpa {es : List Expr} {t : TA} {σ : L2.St} {H : Hp} {Q : List V → Hp → Prop} (h : PA X es t) (q : t σ H Q) : WPA X es σ H Q := fun pos pins s I => h.run pos pins s σ H Q I q
theorem wps {st : Stmt} {t : TS} {σ : L2.St} {H : Hp} {D : Ends} (h : PS X st t) (q : t D σ H) : WPS X st D σ H := fun pins s I => h.run pins s σ H D I q
theorem wpss {st : List Stmt} {t : TS} {σ : L2.St} {H : Hp} {D : Ends} (h : PSs X st t) (q : t D σ H) : WPSs X st D σ H := fun pins s I => h.run pins s σ H D I q
theorem wpg {tg : Expr} {t : TG} {v : V} {σ : L2.St} {H : Hp} {Q : L2.St → Hp → Prop} (h : PG X tg t) (q : t v σ H Q) : WPG X tg v σ H Q := fun pins s u I r => h.run pins s σ H v u Q I r q
theorem WPE.imp {e : Expr} {σ : L2.St} {H : Hp} {Q Q' : VK} (h : WPE X e σ H Q) (f : ∀ v H', Q v H' → Q' v H') : WPE X e σ H Q' :=
  fun pins s I => thn (h pins s I) fun _ _ ⟨v, H', I', r, q⟩ => ⟨v, H', I', r, f v H' q⟩
end
abbrev Ex := Env → Sto → R W
abbrev Exs := Env → Sto → R (List W)
abbrev Tx := Env → Sto → R Bool
/-- an expression -/
def DE (X : Cx) (e : Expr) (f : Ex) : Prop := ∀ (σ : L2.St) (H : Hp) (ρ : Env) (S : Sto) (F : Hp) (μ : List Addr) (w : W) (S' : Sto) (Q : VK), Rs X.K H S F μ → RpSt X.K F μ σ ρ → f ρ S = .ok w S' →
  (∀ v H' F' μ', Rs X.K H' S' F' μ' → Gr H F μ H' F' μ' → RpW X.K F' μ' w v → Q v H') → WPE X e σ H Q
def DA (X : Cx) (es : List Expr) (f : Exs) : Prop := ∀ (σ : L2.St) (H : Hp) (ρ : Env) (S : Sto) (F : Hp) (μ : List Addr) (ws : List W) (S' : Sto) (Q : List V → Hp → Prop), Rs X.K H S F μ → RpSt X.K F μ σ ρ → f ρ S = .ok ws S' →
  (∀ vs H' F' μ', Rs X.K H' S' F' μ' → Gr H F μ H' F' μ' → RpWs X.K F' μ' ws vs → Q vs H') → WPA X es σ H Q
def DT (X : Cx) (e : Expr) (f : Tx) : Prop := ∀ (σ : L2.St) (H : Hp) (ρ : Env) (S : Sto) (F : Hp) (μ : List Addr) (b : Bool) (S' : Sto) (Q : Bool → Hp → Prop), Rs X.K H S F μ → RpSt X.K F μ σ ρ → f ρ S = .ok b S' →
  (∀ H' F' μ', Rs X.K H' S' F' μ' → Gr H F μ H' F' μ' → Q b H') → WPT X e σ H Q
def DW (X : Cx) (e : Expr) (f : Tx) : Prop := ∀ (σ : L2.St) (H : Hp) (ρ : Env) (S : Sto) (F : Hp) (μ : List Addr) (b : Bool) (S' : Sto) (Q : Bool → Hp → Prop), Rs X.K H S F μ → RpSt X.K F μ σ ρ → f ρ S = .ok b S' →
  (∀ H' F' μ', Rs X.K H' S' F' μ' → Gr H F μ H' F' μ' → Q b H') → WPW X e σ H Q
/-- what a statement gives -/
inductive O where
  | nx (ρ : Env) (S : Sto) | rt (w : W) (S : Sto) | bk (ρ : Env) (S : Sto) | ct (ρ : Env) (S : Sto) | ex (c : Str) (v : Option T) (S : Sto) | no
abbrev Sx := Env → Sto → O
def O.holds (K : PySem.W.Frag) (H F : Hp) (μ : List Addr) (D : Ends) (o : O) : Prop := match o with
  | .nx ρ' S' => ∀ σ' H' F' μ', Rs K H' S' F' μ' → Gr H F μ H' F' μ' → RpSt K F' μ' σ' ρ' → D.nx σ' H'
  | .bk ρ' S' => ∀ σ' H' F' μ', Rs K H' S' F' μ' → Gr H F μ H' F' μ' → RpSt K F' μ' σ' ρ' → D.bk σ' H'
  | .ct ρ' S' => ∀ σ' H' F' μ', Rs K H' S' F' μ' → Gr H F μ H' F' μ' → RpSt K F' μ' σ' ρ' → D.ct σ' H'
  | .rt w S' => ∀ v H' F' μ', Rs K H' S' F' μ' → Gr H F μ H' F' μ' → RpW K F' μ' w v → D.rt v H'
  | .ex _ _ _ => False
  | .no => False
def DS (X : Cx) (st : Stmt) (g : Sx) : Prop := ∀ (σ : L2.St) (H : Hp) (ρ : Env) (S : Sto) (F : Hp) (μ : List Addr) (D : Ends), Rs X.K H S F μ → RpSt X.K F μ σ ρ → (g ρ S).holds X.K H F μ D → WPS X st D σ H
def DSs (X : Cx) (st : List Stmt) (g : Sx) : Prop := ∀ (σ : L2.St) (H : Hp) (ρ : Env) (S : Sto) (F : Hp) (μ : List Addr) (D : Ends), Rs X.K H S F μ → RpSt X.K F μ σ ρ → (g ρ S).holds X.K H F μ D → WPSs X st D σ H
theorem O.holds_gr {K : PySem.W.Frag} {H F H1 F1 : Hp} {μ μ1 : List Addr} {D : Ends} {o : O} (g : Gr H F μ H1 F1 μ1) (h : o.holds K H F μ D) : o.holds K H1 F1 μ1 D := by
  cases o with
  | nx ρ S => exact fun σ' H' F' μ' a b c => h σ' H' F' μ' a (g.trans b) c
  | bk ρ S => exact fun σ' H' F' μ' a b c => h σ' H' F' μ' a (g.trans b) c
  | ct ρ S => exact fun σ' H' F' μ' a b c => h σ' H' F' μ' a (g.trans b) c
  | rt w S => exact fun v H' F' μ' a b c => h v H' F' μ' a (g.trans b) c
  | ex _ _ _ => exact h
  | no => exact h
end Dl

/-! Dl2: expressions. -/
namespace Dl
open PySem PySem.Spec PyProof.Rows L2

def cap : Nat := 16777216
theorem cap_eq : sizeLine = cap := sizeLine_eq
section
variable {X : Cx} {e a b c : Expr} {es : List Expr} {fa fb fc f : Ex} {fs : Exs} {ft fu : Tx} {pos : Pos}

/-! ### names, constants -/
def eVar (i : Nat) : Ex := fun ρ S => match ρ[i]? with
  | some (some w) => .ok w S
  | _ => .no
def eC (x : T) : Ex := fun _ S => .ok (.t x) S
theorem de_var {i : Nat} {x : Str} (hN : X.N[i]? = some x := by rfl) (hv : Vis X.env.scope x := by first | exact Or.inl rfl | exact Or.inr (Or.inl rfl) | exact Or.inr (Or.inr rfl)) (hd : (x == ("__debug__" : Str)) = false := by decide)
    (hcd : (x == ("__classdict__" : Str)) = false := by decide) : DE X (.Name x pos) (eVar i) := by
  intro σ H ρ S F μ w S' Q h hs e hQ
  unfold eVar at e
  split at e
  · rename_i w' hw
    cases e
    obtain ⟨v, h1, h2⟩ := hs.get i _ hw
    exact wpe (pe_var hN hv hd hcd) ⟨v, h1, hQ v H F μ h Gr.refl h2⟩
  · cases e
theorem de_const {x : T} {v : V} (hp : ∀ K F, Rp K F x v) (h : PE X e (tC v)) : DE X e (eC x) := by
  intro σ H ρ S F μ w S' Q h1 hs e hQ
  cases e
  exact wpe h (hQ v H F μ h1 Gr.refl (hp _ _))
theorem de_int {i : Int} {j : Nat} : DE X (.Constant (.int i) j pos) (eC (.int i)) := de_const (fun _ _ => .int i) pe_int
theorem de_bl {i : Bool} {j : Nat} : DE X (.Constant (.bool i) j pos) (eC (.bl i)) := de_const (fun _ _ => .bl i) pe_bl
theorem de_non {j : Nat} : DE X (.Constant .none j pos) (eC .non) := de_const (fun _ _ => .non) pe_non
theorem de_str {i : Str} {j : Nat} : DE X (.Constant (.str i) j pos) (eC (.str i)) := de_const (fun _ _ => .str i) pe_str
theorem de_gint {x : Str} {i : Int} {t : Tok} (hg : Gl X x) (hm : X.mg x = some (.int i t)) (hd : (x == ("__debug__" : Str)) = false := by decide) : DE X (.Name x pos) (eC (.int i)) :=
  de_const (fun _ _ => .int i) (pe_glob hg hm ⟨t, rfl⟩ hd)

/-! ### argument lists -/
def aNil : Exs := fun _ S => .ok [] S
def aCons (f : Ex) (g : Exs) : Exs := fun ρ S => (f ρ S).bind fun w S1 => (g ρ S1).bind fun ws S2 => .ok (w :: ws) S2
theorem da_nil : DA X [] aNil := by
  intro σ H ρ S F μ ws S' Q h hs e hQ
  cases e
  exact wpa pa_nil (hQ [] H F μ h Gr.refl .nil)
theorem da_cons (h1 : DE X e f) (h2 : DA X es fs) (hs : starEach (e :: es) X.env = (false, eval e X.env) :: starEach es X.env := by rfl) : DA X (e :: es) (aCons f fs) := by
  intro σ H ρ S F μ ws S' Q h hr e hQ
  obtain ⟨w, S1, e1, e⟩ := R.bind_eq e
  obtain ⟨ws', S2, e2, e⟩ := R.bind_eq e
  cases e
  refine wpa (pa_cons peW paW hs) (h1 σ H ρ S F μ w S1 _ h hr e1 fun v H1 F1 μ1 r1 g1 q1 => ?_)
  exact h2 σ H1 ρ S1 F1 μ1 ws' S' _ r1 (hr.gr g1) e2 fun vs H2 F2 μ2 r2 g2 q2 => hQ (v :: vs) H2 F2 μ2 r2 (g1.trans g2) (.cons (q1.gr g2) q2)

/-! ### tuples, lists -/
def treeOf (g : List T → T) (ws : List W) : Option W := if ws.length ≤ cap then (toTs ws).map fun xs => .t (g xs) else none
def eTup (fs : Exs) : Ex := fun ρ S => (fs ρ S).bind fun ws S1 => R.of (treeOf T.tup ws) S1
def eLst (fs : Exs) : Ex := fun ρ S => (fs ρ S).bind fun ws S1 => R.of (treeOf T.lst ws) S1
theorem treeOf_eq {g : List T → T} {ws : List W} {w : W} (h : treeOf g ws = some w) : ws.length ≤ cap ∧ ∃ xs, ws = xs.map W.t ∧ w = .t (g xs) := by
  unfold treeOf at h
  split at h
  · rename_i hl
    cases q : toTs ws with
    | none => rw [q] at h; cases h
    | some xs => rw [q] at h; cases h; exact ⟨hl, xs, toTs_some q, rfl⟩
  · cases h
theorem de_tup {k : Nat} (h : DA X es fs) : DE X (.Tuple es k pos) (eTup fs) := by
  intro σ H ρ S F μ w S' Q h0 hr e hQ
  obtain ⟨ws, S1, e1, e⟩ := R.bind_eq e
  obtain ⟨e2, rfl⟩ := R.of_eq e
  obtain ⟨hl, xs, rfl, rfl⟩ := treeOf_eq e2
  refine wpe (pe_tup paW) (h σ H ρ S F μ _ S' _ h0 hr e1 fun vs H1 F1 μ1 r1 g1 q1 => ⟨by rw [← q1.length, cap_eq]; exact hl, fun p hp => ?_⟩)
  obtain ⟨r2, g2⟩ := r1.new (.tup vs) hp
  exact hQ _ _ _ _ r2 (g1.trans g2) (show Rp _ _ _ _ from .tup (SqT.of upd_same) (q1.trees.mono g2.same))
theorem de_lst (h : DA X es fs) : DE X (.List es pos) (eLst fs) := by
  intro σ H ρ S F μ w S' Q h0 hr e hQ
  obtain ⟨ws, S1, e1, e⟩ := R.bind_eq e
  obtain ⟨e2, rfl⟩ := R.of_eq e
  obtain ⟨hl, xs, rfl, rfl⟩ := treeOf_eq e2
  refine wpe (pe_lst paW) (h σ H ρ S F μ _ S' _ h0 hr e1 fun vs H1 F1 μ1 r1 g1 q1 => ⟨by rw [← q1.length, cap_eq]; exact hl, fun p hp => ?_⟩)
  obtain ⟨r2, g2⟩ := r1.new (.lst vs) hp
  exact hQ _ _ _ _ r2 (g1.trans g2) (show Rp _ _ _ _ from .lst upd_same (q1.trees.mono g2.same))
/-- a list display whose list is a cell -/
def eLstB (fs : Exs) : Ex := fun ρ S => (fs ρ S).bind fun ws S1 => if ws.length ≤ cap then (match toTs ws with
  | some xs => .ok (.r S1.length) (S1 ++ [.lst xs])
  | none => .no) else .no
def eVecB (fs : Exs) : Ex := fun ρ S => (fs ρ S).bind fun ws S1 => if ws.length ≤ cap then .ok (.r S1.length) (S1 ++ [.vec ws]) else .no
theorem Rs.boxNew {K : PySem.W.Frag} {H F : Hp} {μ : List Addr} {S : Sto} {p : Addr} {o : HO} {cl : Cell} (h : Rs K H S F μ) (hp : H p = none) (hc : RpC K (upd H p o) F (μ ++ [p]) p cl) :
    Rs K (upd H p o) (S ++ [cl]) F (μ ++ [p]) ∧ Gr H F μ (upd H p o) F (μ ++ [p]) ∧ RpW K F (μ ++ [p]) (.r S.length) (.ref p) := by
  have nF := h.notF hp
  have nM := h.notM hp
  refine ⟨(h.heap o nF nM).box (by rw [upd_same]; exact fun z => nomatch z) nM hc, ⟨Same.refl _, ⟨[p], rfl⟩, fun b u h1 h2 h3 => ?_, fun b o' u e => by rw [upd_ne (ne_of_none e hp)]; exact e⟩, ⟨p, by rw [← h.len]; simp, rfl⟩⟩
  have ne : b ≠ p := ne_of_none h1 hp
  exact ⟨by rw [upd_ne ne]; exact h1, h2, by simp [h3, ne]⟩
theorem de_lstB (h : DA X es fs) : DE X (.List es pos) (eLstB fs) := by
  intro σ H ρ S F μ w S' Q h0 hr e hQ
  obtain ⟨ws, S1, e1, e⟩ := R.bind_eq e
  split at e
  · rename_i hl
    cases q : toTs ws with
    | none => rw [q] at e; cases e
    | some xs =>
      rw [q] at e
      cases e
      have q := toTs_some q
      subst q
      refine wpe (pe_lst paW) (h σ H ρ S F μ _ S1 _ h0 hr e1 fun vs H1 F1 μ1 r1 g1 q1 => ⟨by rw [← q1.length, cap_eq]; exact hl, fun p hp => ?_⟩)
      obtain ⟨r2, g2, rr⟩ := r1.boxNew (cl := .lst xs) (o := .lst vs) hp ⟨r1.notF hp, vs, upd_same, q1.trees⟩
      exact hQ _ _ _ _ r2 (g1.trans g2) rr
  · cases e
theorem de_vecB (h : DA X es fs) : DE X (.List es pos) (eVecB fs) := by
  intro σ H ρ S F μ w S' Q h0 hr e hQ
  obtain ⟨ws, S1, e1, e⟩ := R.bind_eq e
  split at e
  · rename_i hl
    cases e
    refine wpe (pe_lst paW) (h σ H ρ S F μ _ S1 _ h0 hr e1 fun vs H1 F1 μ1 r1 g1 q1 => ⟨by rw [← q1.length, cap_eq]; exact hl, fun p hp => ?_⟩)
    obtain ⟨r2, g2, rr⟩ := r1.boxNew (cl := .vec ws) (o := .lst vs) hp ⟨r1.notF hp, vs, upd_same, q1.mono (Same.refl _) ⟨[p], rfl⟩⟩
    exact hQ _ _ _ _ r2 (g1.trans g2) rr
  · cases e

/-! ### operators -/
/-- what comes out: a tree, new or old -/
def Res (K : PySem.W.Frag) (H : Hp) (S : Sto) (F : Hp) (μ : List Addr) (c : T) (Q : VK) : Prop := ∀ v H' F', Rs K H' S F' μ → Gr H F μ H' F' μ → Rp K F' c v → Q v H'
section
variable {K : PySem.W.Frag} {H F : Hp} {μ : List Addr} {S : Sto} {Q : VK} {x c : T} {v : V}
theorem Res.same (h : Rs K H S F μ) (q : Res K H S F μ c Q) (r : Rp K F c v) : Q v H := q v H F h Gr.refl r
theorem Res.lst {xs : List T} {vs : List V} {p : Addr} (h : Rs K H S F μ) (q : Res K H S F μ (.lst xs) Q) (r : Rps K F xs vs) (hp : H p = none) : Q (.ref p) (upd H p (.lst vs)) := by
  obtain ⟨r2, g2⟩ := h.new (.lst vs) hp
  exact q _ _ _ r2 g2 (.lst upd_same (r.mono g2.same))
theorem Res.tup {xs : List T} {vs : List V} {p : Addr} (h : Rs K H S F μ) (q : Res K H S F μ (.tup xs) Q) (r : Rps K F xs vs) (hp : H p = none) : Q (.ref p) (upd H p (.tup vs)) := by
  obtain ⟨r2, g2⟩ := h.new (.tup vs) hp
  exact q _ _ _ r2 g2 (.tup (SqT.of upd_same) (r.mono g2.same))
end
def OpD (X : Cx) (f : Value → Value → Sem Value) (g : T → T → Option T) : Prop := ∃ r : R2, OpR X f r ∧ ∀ (H : Hp) (S : Sto) (F : Hp) (μ : List Addr) (x y : T) (v u : V) (c : T) (Q : VK),
  Rs X.K H S F μ → Rv X.K H F x v → Rv X.K H F y u → g x y = some c → Res X.K H S F μ c Q → r v u H Q
/-- two operands, then g on what they are -/
def e2 (g : T → T → Option T) (fa fb : Ex) : Ex := fun ρ S => (fa ρ S).bind fun w1 S1 => (fb ρ S1).bind fun w2 S2 => R.of ((view S2 w1).bind fun x => (view S2 w2).bind fun y => (g x y).map W.t) S2
theorem e2_eq {g : T → T → Option T} {ρ : Env} {S S' : Sto} {w : W} (h : e2 g fa fb ρ S = .ok w S') : ∃ w1 S1 w2 x y c, fa ρ S = .ok w1 S1 ∧ fb ρ S1 = .ok w2 S' ∧ view S' w1 = some x ∧ view S' w2 = some y ∧ g x y = some c ∧ w = .t c := by
  obtain ⟨w1, S1, h1, h⟩ := R.bind_eq h
  obtain ⟨w2, S2, h2, h⟩ := R.bind_eq h
  obtain ⟨h3, rfl⟩ := R.of_eq h
  cases q1 : view S' w1 with
  | none => rw [q1] at h3; cases h3
  | some x =>
    cases q2 : view S' w2 with
    | none => rw [q1, q2] at h3; cases h3
    | some y =>
      rw [q1, q2] at h3
      cases q3 : g x y with
      | none =>
        have h3 : (g x y).map W.t = some w := h3
        rw [q3] at h3; cases h3
      | some c =>
        have h3 : (g x y).map W.t = some w := h3
        rw [q3] at h3; cases h3
        exact ⟨w1, S1, w2, x, y, c, h1, h2, q1, q2, q3, rfl⟩
theorem two_run {g : T → T → Option T} {r : R2} (hr : ∀ (H : Hp) (S : Sto) (F : Hp) (μ : List Addr) (x y : T) (v u : V) (c : T) (Q : VK), Rs X.K H S F μ → Rv X.K H F x v → Rv X.K H F y u → g x y = some c → Res X.K H S F μ c Q → r v u H Q)
    (ha : DE X a fa) (hb : DE X b fb) {σ : L2.St} {H : Hp} {ρ : Env} {S : Sto} {F : Hp} {μ : List Addr} {w : W} {S' : Sto} {Q : VK} (h : Rs X.K H S F μ) (hs : RpSt X.K F μ σ ρ) (e : e2 g fa fb ρ S = .ok w S')
    (hQ : ∀ v H' F' μ', Rs X.K H' S' F' μ' → Gr H F μ H' F' μ' → RpW X.K F' μ' w v → Q v H') : tOp r (WPE X a) (WPE X b) σ H Q := by
  obtain ⟨w1, S1, w2, x, y, c, h1, h2, h3, h4, h5, rfl⟩ := e2_eq e
  refine ha σ H ρ S F μ w1 S1 _ h hs h1 fun v H1 F1 μ1 r1 g1 q1 => ?_
  refine hb σ H1 ρ S1 F1 μ1 w2 S' _ r1 (hs.gr g1) h2 fun u H2 F2 μ2 r2 g2 q2 => ?_
  refine hr H2 S' F2 μ2 x y v u c Q r2 (view_rv r2 (q1.gr g2) h3) (view_rv r2 q2 h4) h5 fun z H3 F3 r3 g3 q3 => ?_
  exact hQ z H3 F3 μ2 r3 ((g1.trans g2).trans g3) q3
theorem de_op {op : Operator} {g : T → T → Option T} (ho : OpD X (binaryOp op) g) (ha : DE X a fa) (hb : DE X b fb) : DE X (.BinOp a op b pos) (e2 g fa fb) := by
  obtain ⟨r, h1, h2⟩ := ho
  intro σ H ρ S F μ w S' Q h hs e hQ
  exact wpe (pe_op h1 peW peW) (two_run h2 ha hb h hs e hQ)
theorem de_cmp {op : CmpOp} {g : T → T → Option T} (ho : OpD X (compareOp op) g) (ha : DE X a fa) (hb : DE X b fb) (hm : behindInMarks op b = false := by first | exact nomark _ | rfl) : DE X (.Compare a [op] [b] pos) (e2 g fa fb) := by
  obtain ⟨r, h1, h2⟩ := ho
  intro σ H ρ S F μ w S' Q h hs e hQ
  exact wpe (pe_cmpR h1 peW peW hm) (two_run h2 ha hb h hs e hQ)
/-- a tree that is a truth value -/
def asB : W → Option Bool
  | .t (.bl b) => some b
  | _ => none
def tE (f : Ex) : Tx := fun ρ S => (f ρ S).bind fun w S1 => R.of (asB w) S1
theorem tE_eq {ρ : Env} {S S' : Sto} {k : Bool} (h : tE f ρ S = .ok k S') : f ρ S = .ok (.t (.bl k)) S' := by
  obtain ⟨w, S1, h1, h⟩ := R.bind_eq h
  obtain ⟨h2, rfl⟩ := R.of_eq h
  unfold asB at h2
  split at h2
  · cases h2; exact h1
  · cases h2
theorem dt_cmp {op : CmpOp} {g : T → T → Option T} (ho : OpD X (compareOp op) g) (ha : DE X a fa) (hb : DE X b fb) (hm : behindInMarks op b = false := by first | exact nomark _ | rfl) : DT X (.Compare a [op] [b] pos) (tE (e2 g fa fb)) := by
  obtain ⟨r, h1, h2⟩ := ho
  intro σ H ρ S F μ k S' Q h hs e hQ
  refine wpt (pt_cmpR h1 peW peW hm) (two_run h2 ha hb h hs (tE_eq e) fun v H' F' μ' r' g' q' => ?_)
  have q' : Rp X.K F' (.bl k) v := q'
  cases q'
  exact ⟨k, rfl, hQ H' F' μ' r' g'⟩
/-- an expression that gives a truth value, as a test -/
theorem dt_val (ha : DE X a fa) (he : ∀ whole, isTrue a X.env whole = (do let v ← whole; standAt a.pos; holding [v] (truthy v)) := by intro _; rfl) : DT X a (tE fa) := by
  intro σ H ρ S F μ k S' Q h hs e hQ
  refine wpt (pt_val peW he) (ha σ H ρ S F μ _ S' _ h hs (tE_eq e) fun v H' F' μ' r' g' q' => ?_)
  have q' : Rp X.K F' (.bl k) v := q'
  cases q'
  exact ⟨k, rfl, hQ H' F' μ' r' g'⟩
/-- a op b op' c -/
def e3 (g g' : T → T → Option T) (fa fb fc : Ex) : Ex := fun ρ S => (fa ρ S).bind fun w1 S1 => (fb ρ S1).bind fun w2 S2 =>
  (R.of ((view S2 w1).bind fun x => (view S2 w2).bind fun y => g x y) S2).bind fun z S3 => match z with
    | .bl true => (fc ρ S3).bind fun w3 S4 => R.of ((view S4 w2).bind fun y => (view S4 w3).bind fun z => (g' y z).map W.t) S4
    | .bl false => .ok (.t (.bl false)) S3
    | _ => .no
theorem bind2 {α β γ : Type} {x : Option α} {y : Option β} {k : α → β → Option γ} {c : γ} (h : (x.bind fun a => y.bind fun b => k a b) = some c) : ∃ a b, x = some a ∧ y = some b ∧ k a b = some c := by
  cases x with
  | none => cases h
  | some a => cases y with
    | none => cases h
    | some b => exact ⟨a, b, rfl, rfl, h⟩
theorem map1 {α β : Type} {x : Option α} {k : α → β} {c : β} (h : x.map k = some c) : ∃ a, x = some a ∧ c = k a := by
  cases x with
  | none => cases h
  | some a => cases h; exact ⟨a, rfl, rfl⟩
theorem chain_run {g g' : T → T → Option T} {r r' : R2} (hr : ∀ (H : Hp) (S : Sto) (F : Hp) (μ : List Addr) (x y : T) (v u : V) (c : T) (Q : VK), Rs X.K H S F μ → Rv X.K H F x v → Rv X.K H F y u → g x y = some c → Res X.K H S F μ c Q → r v u H Q)
    (hr' : ∀ (H : Hp) (S : Sto) (F : Hp) (μ : List Addr) (x y : T) (v u : V) (c : T) (Q : VK), Rs X.K H S F μ → Rv X.K H F x v → Rv X.K H F y u → g' x y = some c → Res X.K H S F μ c Q → r' v u H Q)
    (ha : DE X a fa) (hb : DE X b fb) (hc : DE X c fc) {σ : L2.St} {H : Hp} {ρ : Env} {S : Sto} {F : Hp} {μ : List Addr} {w : W} {S' : Sto} {Q : VK} (h : Rs X.K H S F μ) (hs : RpSt X.K F μ σ ρ) (e : e3 g g' fa fb fc ρ S = .ok w S')
    (hQ : ∀ v H' F' μ', Rs X.K H' S' F' μ' → Gr H F μ H' F' μ' → RpW X.K F' μ' w v → Q v H') : tChain r r' (WPE X a) (WPE X b) (WPE X c) σ H Q := by
  obtain ⟨w1, S1, h1, ea⟩ := R.bind_eq e
  clear e
  obtain ⟨w2, S2, h2, eb⟩ := R.bind_eq ea
  clear ea
  obtain ⟨z, S3, h3, e⟩ := R.bind_eq eb
  clear eb
  obtain ⟨h3, rfl⟩ := R.of_eq h3
  obtain ⟨x, y, hx, hy, hg⟩ := bind2 h3
  refine ha σ H ρ S F μ w1 S1 _ h hs h1 fun v H1 F1 μ1 r1 g1 q1 => ?_
  refine hb σ H1 ρ S1 F1 μ1 w2 _ _ r1 (hs.gr g1) h2 fun u H2 F2 μ2 r2 g2 q2 => ?_
  refine hr H2 _ F2 μ2 x y v u z _ r2 (view_rv r2 (q1.gr g2) hx) (view_rv r2 q2 hy) hg fun z' H3 F3 r3 g3 q3 => ?_
  split at e
  · cases q3
    obtain ⟨w3, S4, h4, e⟩ := R.bind_eq e
    obtain ⟨h5, rfl⟩ := R.of_eq e
    obtain ⟨y', z2, hy', hz, hg'⟩ := bind2 h5
    obtain ⟨c', hc', rfl⟩ := map1 hg'
    refine ⟨true, rfl, ?_⟩
    rw [if_pos rfl]
    refine hc σ H3 ρ _ F3 μ2 w3 _ _ r3 (((hs.gr g1).gr g2).gr g3) h4 fun t H4 F4 μ4 r4 g4 q4 => ?_
    refine hr' H4 _ F4 μ4 y' z2 u t c' Q r4 (view_rv r4 ((q2.gr g3).gr g4) hy') (view_rv r4 q4 hz) hc' fun t' H5 F5 r5 g5 q5 => ?_
    exact hQ t' H5 F5 μ4 r5 ((((g1.trans g2).trans g3).trans g4).trans g5) q5
  · cases q3
    cases e
    refine ⟨false, rfl, ?_⟩
    rw [if_neg Bool.false_ne_true]
    exact hQ _ H3 F3 μ2 r3 ((g1.trans g2).trans g3) (show Rp _ _ _ _ from .bl false)
  · cases e
theorem de_chain {op op' : CmpOp} {g g' : T → T → Option T} (ho : OpD X (compareOp op) g) (ho' : OpD X (compareOp op') g') (ha : DE X a fa) (hb : DE X b fb) (hc : DE X c fc) (hm : lastMarks [op, op'] [b, c] = false := by with_unfolding_all rfl) :
    DE X (.Compare a [op, op'] [b, c] pos) (e3 g g' fa fb fc) := by
  obtain ⟨r, h1, h2⟩ := ho
  obtain ⟨r', h1', h2'⟩ := ho'
  intro σ H ρ S F μ w S' Q h hs e hQ
  exact wpe (pe_chain h1 h1' peW peW peW hm) (chain_run h2 h2' ha hb hc h hs e hQ)
theorem dt_chain {op op' : CmpOp} {g g' : T → T → Option T} (ho : OpD X (compareOp op) g) (ho' : OpD X (compareOp op') g') (ha : DE X a fa) (hb : DE X b fb) (hc : DE X c fc) (hm : lastMarks [op, op'] [b, c] = false := by with_unfolding_all rfl) :
    DT X (.Compare a [op, op'] [b, c] pos) (tE (e3 g g' fa fb fc)) := by
  obtain ⟨r, h1, h2⟩ := ho
  obtain ⟨r', h1', h2'⟩ := ho'
  intro σ H ρ S F μ k S' Q h hs e hQ
  refine wpt (pt_chain h1 h1' peW peW peW hm) (chain_run h2 h2' ha hb hc h hs (tE_eq e) fun v H' F' μ' r' g' q' => ?_)
  have q' : Rp X.K F' (.bl k) v := q'
  cases q'
  exact ⟨k, rfl, hQ H' F' μ' r' g'⟩

/-! ### and, or, not, if -/
variable {rest : List Expr}
def tAndD (f g : Tx) : Tx := fun ρ S => (f ρ S).bind fun k S1 => if k then g ρ S1 else .ok false S1
def tOrD (f g : Tx) : Tx := fun ρ S => (f ρ S).bind fun k S1 => if k then .ok true S1 else g ρ S1
def tNotD (f : Tx) : Tx := fun ρ S => (f ρ S).bind fun k S1 => .ok (!k) S1
theorem dw_pt (h : DW X e ft) : DT X e ft := by
  intro σ H ρ S F μ k S' Q h0 hs e hQ
  exact wpt (pwW).pt (h σ H ρ S F μ k S' Q h0 hs e hQ)
theorem dw_and1 (h : DT X a ft) : DW X (.BoolOp .And [a] pos) ft := by
  intro σ H ρ S F μ k S' Q h0 hs e hQ
  exact wpw (pw_and1 ptW) (h σ H ρ S F μ k S' Q h0 hs e hQ)
theorem dw_or1 (h : DT X a ft) : DW X (.BoolOp .Or [a] pos) ft := by
  intro σ H ρ S F μ k S' Q h0 hs e hQ
  exact wpw (pw_or1 ptW) (h σ H ρ S F μ k S' Q h0 hs e hQ)
theorem dw_and (h : DT X a ft) (h' : DW X (.BoolOp .And (b :: rest) pos) fu) : DW X (.BoolOp .And (a :: b :: rest) pos) (tAndD ft fu) := by
  intro σ H ρ S F μ k S' Q h0 hs e hQ
  obtain ⟨k1, S1, e1, e⟩ := R.bind_eq e
  refine wpw (pw_and ptW pwW) (h σ H ρ S F μ k1 S1 _ h0 hs e1 fun H1 F1 μ1 r1 g1 => ?_)
  cases k1 with
  | true => exact iteT (h' σ H1 ρ S1 F1 μ1 k S' Q r1 (hs.gr g1) e fun H2 F2 μ2 r2 g2 => hQ H2 F2 μ2 r2 (g1.trans g2))
  | false => cases e; exact iteF (hQ H1 F1 μ1 r1 g1)
theorem dw_or (h : DT X a ft) (h' : DW X (.BoolOp .Or (b :: rest) pos) fu) : DW X (.BoolOp .Or (a :: b :: rest) pos) (tOrD ft fu) := by
  intro σ H ρ S F μ k S' Q h0 hs e hQ
  obtain ⟨k1, S1, e1, e⟩ := R.bind_eq e
  refine wpw (pw_or ptW pwW) (h σ H ρ S F μ k1 S1 _ h0 hs e1 fun H1 F1 μ1 r1 g1 => ?_)
  cases k1 with
  | false => exact iteF (h' σ H1 ρ S1 F1 μ1 k S' Q r1 (hs.gr g1) e fun H2 F2 μ2 r2 g2 => hQ H2 F2 μ2 r2 (g1.trans g2))
  | true => cases e; exact iteT (hQ H1 F1 μ1 r1 g1)
theorem dt_not (h : DT X a ft) : DT X (.UnaryOp .Not a pos) (tNotD ft) := by
  intro σ H ρ S F μ k S' Q h0 hs e hQ
  obtain ⟨k1, S1, e1, e⟩ := R.bind_eq e
  cases e
  exact wpt (pt_not ptW) (h σ H ρ S F μ k1 S' _ h0 hs e1 fun H1 F1 μ1 r1 g1 => hQ H1 F1 μ1 r1 g1)
def eAnd (f g : Ex) : Ex := fun ρ S => (tE f ρ S).bind fun k S1 => if k then g ρ S1 else .ok (.t (.bl false)) S1
def eOr (f g : Ex) : Ex := fun ρ S => (tE f ρ S).bind fun k S1 => if k then .ok (.t (.bl true)) S1 else g ρ S1
def eNot (f : Ex) : Ex := fun ρ S => (tE f ρ S).bind fun k S1 => .ok (.t (.bl (!k))) S1
theorem de_one {op : BoolOp} (h : DE X a fa) : DE X (.BoolOp op [a] pos) fa := by
  intro σ H ρ S F μ w S' Q h0 hs e hQ
  exact wpe (pe_one peW) (h σ H ρ S F μ w S' Q h0 hs e hQ)
theorem de_and (h : DE X a fa) (h' : DE X (.BoolOp .And (b :: rest) pos) fb) : DE X (.BoolOp .And (a :: b :: rest) pos) (eAnd fa fb) := by
  intro σ H ρ S F μ w S' Q h0 hs e hQ
  obtain ⟨k1, S1, e1, e⟩ := R.bind_eq e
  refine wpe (pe_and peW peW) (h σ H ρ S F μ _ S1 _ h0 hs (tE_eq e1) fun v H1 F1 μ1 r1 g1 q1 => ?_)
  have q1 : Rp X.K F1 (.bl k1) v := q1
  cases q1
  refine ⟨k1, rfl, ?_⟩
  cases k1 with
  | true => exact iteT (h' σ H1 ρ S1 F1 μ1 w S' Q r1 (hs.gr g1) e fun v H2 F2 μ2 r2 g2 => hQ v H2 F2 μ2 r2 (g1.trans g2))
  | false => cases e; exact iteF (hQ _ H1 F1 μ1 r1 g1 (show Rp _ _ _ _ from .bl false))
theorem de_or (h : DE X a fa) (h' : DE X (.BoolOp .Or (b :: rest) pos) fb) : DE X (.BoolOp .Or (a :: b :: rest) pos) (eOr fa fb) := by
  intro σ H ρ S F μ w S' Q h0 hs e hQ
  obtain ⟨k1, S1, e1, e⟩ := R.bind_eq e
  refine wpe (pe_or peW peW) (h σ H ρ S F μ _ S1 _ h0 hs (tE_eq e1) fun v H1 F1 μ1 r1 g1 q1 => ?_)
  have q1 : Rp X.K F1 (.bl k1) v := q1
  cases q1
  refine ⟨k1, rfl, ?_⟩
  cases k1 with
  | false => exact iteF (h' σ H1 ρ S1 F1 μ1 w S' Q r1 (hs.gr g1) e fun v H2 F2 μ2 r2 g2 => hQ v H2 F2 μ2 r2 (g1.trans g2))
  | true => cases e; exact iteT (hQ _ H1 F1 μ1 r1 g1 (show Rp _ _ _ _ from .bl true))
theorem de_not (h : DE X a fa) : DE X (.UnaryOp .Not a pos) (eNot fa) := by
  intro σ H ρ S F μ w S' Q h0 hs e hQ
  obtain ⟨k1, S1, e1, e⟩ := R.bind_eq e
  cases e
  refine wpe (pe_not peW) (h σ H ρ S F μ _ S' _ h0 hs (tE_eq e1) fun v H1 F1 μ1 r1 g1 q1 => ?_)
  have q1 : Rp X.K F1 (.bl k1) v := q1
  cases q1
  exact ⟨k1, rfl, hQ _ H1 F1 μ1 r1 g1 (show Rp _ _ _ _ from .bl _)⟩
def eIf (t : Tx) (f g : Ex) : Ex := fun ρ S => (t ρ S).bind fun k S1 => if k then f ρ S1 else g ρ S1
theorem de_if (ht : DT X c ft) (h : DE X a fa) (h' : DE X b fb) : DE X (.IfExp c a b pos) (eIf ft fa fb) := by
  intro σ H ρ S F μ w S' Q h0 hs e hQ
  obtain ⟨k1, S1, e1, e⟩ := R.bind_eq e
  refine wpe (pe_ifExp ptW peW peW) (ht σ H ρ S F μ k1 S1 _ h0 hs e1 fun H1 F1 μ1 r1 g1 => ?_)
  cases k1 with
  | true => exact iteT (h σ H1 ρ S1 F1 μ1 w S' Q r1 (hs.gr g1) e fun v H2 F2 μ2 r2 g2 => hQ v H2 F2 μ2 r2 (g1.trans g2))
  | false => exact iteF (h' σ H1 ρ S1 F1 μ1 w S' Q r1 (hs.gr g1) e fun v H2 F2 μ2 r2 g2 => hQ v H2 F2 μ2 r2 (g1.trans g2))
end
end Dl

/-! Dl3: the operators. -/
namespace Dl
open PySem PySem.Spec PyProof.Rows L2

/-! ### trees as plain data -/
mutual
def toPy : T → PyData
  | .non => .none
  | .bl b => .bool b
  | .int i => .int i
  | .str x => .str x
  | .tup xs => .tuple (toPys xs)
  | .lst xs => .list (toPys xs)
  | .dct _ => .dict []
  | .scr _ => .dict []
def toPys : List T → List PyData
  | [] => []
  | x :: xs => toPy x :: toPys xs
end
mutual
/-- no dict, no script within -/
def lay : T → Bool
  | .str x => PyData.canLay0 (.str x)
  | .tup xs => lays xs
  | .lst xs => lays xs
  | .dct _ => false
  | .scr _ => false
  | _ => true
def lays : List T → Bool
  | [] => true
  | x :: xs => lay x && lays xs
end
mutual
def dep : T → Nat
  | .tup xs => deps xs + 1
  | .lst xs => deps xs + 1
  | _ => 0
def deps : List T → Nat
  | [] => 0
  | x :: xs => max (dep x) (deps xs)
end
mutual
def eqT : T → T → Bool
  | .non, .non => true
  | .bl a, .bl b => a == b
  | .bl a, .int j => (if a then 1 else 0) == j
  | .int i, .bl b => i == (if b then 1 else 0)
  | .int i, .int j => i == j
  | .str x, .str y => x == y
  | .lst xs, .lst ys => eqTs xs ys
  | .tup xs, .tup ys => eqTs xs ys
  | _, _ => false
def eqTs : List T → List T → Bool
  | [], [] => true
  | x :: xs, y :: ys => eqT x y && eqTs xs ys
  | _, _ => false
end
mutual
theorem eqT_py : ∀ x y : T, PyData.eqv (toPy x) (toPy y) = eqT x y
  | .non, y => by cases y <;> simp [toPy, PyData.eqv, eqT]
  | .bl a, y => by cases y <;> simp [toPy, PyData.eqv, eqT]
  | .int i, y => by cases y <;> simp [toPy, PyData.eqv, eqT]
  | .str x, y => by cases y <;> simp [toPy, PyData.eqv, eqT]
  | .tup xs, y => by
    cases y with
    | tup ys => simp only [toPy, PyData.eqv, eqT]; exact eqTs_py xs ys
    | _ => simp [toPy, PyData.eqv, eqT]
  | .lst xs, y => by
    cases y with
    | lst ys => simp only [toPy, PyData.eqv, eqT]; exact eqTs_py xs ys
    | _ => simp [toPy, PyData.eqv, eqT]
  | .dct xs, y => by cases y <;> simp [toPy, PyData.eqv, eqT]
  | .scr xs, y => by cases y <;> simp [toPy, PyData.eqv, eqT]
theorem eqTs_py : ∀ xs ys : List T, PyData.eqvAll (toPys xs) (toPys ys) = eqTs xs ys
  | [], [] => by simp [toPys, PyData.eqvAll, eqTs]
  | [], _ :: _ => by simp [toPys, PyData.eqvAll, eqTs]
  | _ :: _, [] => by simp [toPys, PyData.eqvAll, eqTs]
  | x :: xs, y :: ys => by simp only [toPys, PyData.eqvAll, eqTs]; rw [eqT_py x y, eqTs_py xs ys]
end
mutual
theorem lay_py : ∀ x : T, (toPy x).canLay0 = lay x
  | .non => by simp [toPy, PyData.canLay0, lay]
  | .bl _ => by simp [toPy, PyData.canLay0, lay]
  | .int _ => by simp [toPy, PyData.canLay0, lay]
  | .str _ => by simp [toPy, lay]
  | .tup xs => by simp only [toPy, PyData.canLay0, lay]; exact lays_py xs
  | .lst xs => by simp only [toPy, PyData.canLay0, lay]; exact lays_py xs
  | .dct _ => by simp [toPy, PyData.canLay0, lay]
  | .scr _ => by simp [toPy, PyData.canLay0, lay]
theorem lays_py : ∀ xs : List T, PyData.canLayAll0 (toPys xs) = lays xs
  | [] => by simp [toPys, PyData.canLayAll0, lays]
  | x :: xs => by simp only [toPys, PyData.canLayAll0, lays]; rw [lay_py x, lays_py xs]
end
mutual
theorem dep_py : ∀ x : T, lay x = true → (toPy x).depth = dep x
  | .non, _ => by simp [toPy, PyData.depth, dep]
  | .bl _, _ => by simp [toPy, PyData.depth, dep]
  | .int _, _ => by simp [toPy, PyData.depth, dep]
  | .str _, _ => by simp [toPy, PyData.depth, dep]
  | .tup xs, h => by simp only [toPy, PyData.depth, dep]; rw [deps_py xs (by simpa [lay] using h)]
  | .lst xs, h => by simp only [toPy, PyData.depth, dep]; rw [deps_py xs (by simpa [lay] using h)]
  | .dct _, h => by simp [lay] at h
  | .scr _, h => by simp [lay] at h
theorem deps_py : ∀ xs : List T, lays xs = true → PyData.depthAll (toPys xs) = deps xs
  | [], _ => by simp [toPys, PyData.depthAll, deps]
  | x :: xs, h => by
    have h' : lay x = true ∧ lays xs = true := by simpa [lays] using h
    simp only [toPys, PyData.depthAll, deps]; rw [dep_py x h'.1, deps_py xs h'.2]
end
def shp (x : T) : Bool := lay x && decide (dep x ≤ 60)
theorem shp_py {x : T} (h : shp x = true) : SeqAt.shaped (toPy x) = true := by
  unfold shp at h
  simp only [Bool.and_eq_true, decide_eq_true_eq] at h
  unfold SeqAt.shaped
  rw [lay_py, h.1, dep_py x h.1]
  simp; omega
mutual
theorem rp_dp {K : PySem.W.Frag} {F : Hp} : ∀ {x : T} {v : V}, Rp K F x v → lay x = true → Dp K F v (toPy x)
  | _, _, .non, _ => .non
  | _, _, .bl b, _ => .bl b
  | _, _, .int i, _ => .int i
  | _, _, .str x, _ => .str x
  | _, _, .tup h r, l => .tup h (rps_dp r (by simpa [lay] using l))
  | _, _, .lst h r, l => .lst (SqL.of h) (rps_dp r (by simpa [lay] using l))
  | _, _, .dct h r, l => by simp [lay] at l
  | _, _, .scr h, l => by simp [lay] at l
theorem rps_dp {K : PySem.W.Frag} {F : Hp} : ∀ {x : List T} {v : List V}, Rps K F x v → lays x = true → DpAll K F v (toPys x)
  | _, _, .nil, _ => .nil
  | _, _, .cons h r, l => by
    have l' := l
    simp only [lays, Bool.and_eq_true] at l'
    exact .cons (rp_dp h l'.1) (rps_dp r l'.2)
end

section
variable {X : Cx}
theorem opD_of {f : Value → Value → Sem Value} {g : T → T → Option T} {r : R2} (h : OpR X f r) (q : ∀ (H : Hp) (S : Sto) (F : Hp) (μ : List Addr) (x y : T) (v u : V) (c : T) (Q : VK),
  Rs X.K H S F μ → Rv X.K H F x v → Rv X.K H F y u → g x y = some c → Res X.K H S F μ c Q → r v u H Q) : OpD X f g := ⟨r, h, q⟩

/-! ### arithmetic -/
def gAdd : T → T → Option T
  | .int i, .int j => some (.int (i + j))
  | .lst xs, .lst ys => if xs.length + ys.length ≤ cap then some (.lst (xs ++ ys)) else none
  | .tup xs, .tup ys => if xs.length + ys.length ≤ cap then some (.tup (xs ++ ys)) else none
  | .str x, .str y => if x.length + y.length ≤ cap then some (.str (x ++ y)) else none
  | _, _ => none
theorem od_add : OpD X (binaryOp .Add) gAdd := by
  refine opD_of (((op_add (X := X)).or op_cat).or ((op_catA (X := X)).or op_add_str)) ?_
  intro H S F μ x y v u c Q h rx ry e q
  unfold gAdd at e
  split at e
  · cases e; cases rx; cases ry
    exact .inl (.inl ⟨_, _, rfl, rfl, q.same h (.int _)⟩)
  · split at e
    · rename_i hl
      cases e; cases rx with
      | lst a r => cases ry with
        | lst a' r' =>
          exact .inl (.inr ⟨_, _, _, _, rfl, rfl, a, a', by rw [← r.length, ← r'.length, cap_eq]; exact hl, fun p hp => q.lst h (r.append r') hp⟩)
    · cases e
  · split at e
    · rename_i hl
      cases e; cases rx with
      | tup a r => cases ry with
        | tup a' r' =>
          have sa := Same.sqT h.sub a
          have sb := Same.sqT h.sub a'
          refine .inr (.inl ⟨_, _, _, _, rfl, rfl, sa, sb, by rw [← r.length, ← r'.length, cap_eq]; exact hl, fun z => ?_, fun _ z => ?_, fun _ _ p hp => q.tup h (r.append r') hp⟩)
          · subst z; cases r
            exact q.same h (.tup a' r')
          · subst z; cases r'
            rw [List.append_nil] at q
            exact q.same h (.tup a r)
    · cases e
  · split at e
    · rename_i hl
      cases e; cases rx; cases ry
      exact .inr (.inr ⟨_, _, rfl, rfl, by rw [cap_eq]; exact hl, q.same h (.str _)⟩)
    · cases e
  · cases e

theorem od_int {op : Operator} {C : Int → Int → Prop} {g : T → T → Option T} {k : Int → Int → Int} (ho : OpR X (binaryOp op) (rI C fun i j => .int (k i j)))
    (hg : ∀ x y c, g x y = some c → ∃ i j, x = .int i ∧ y = .int j ∧ C i j ∧ c = .int (k i j)) : OpD X (binaryOp op) g := by
  refine opD_of ho ?_
  intro H S F μ x y v u c Q h rx ry e q
  obtain ⟨i, j, rfl, rfl, hc, rfl⟩ := hg x y c e
  cases rx; cases ry
  exact ⟨i, j, rfl, rfl, hc, q.same h (.int _)⟩
def gSub : T → T → Option T
  | .int i, .int j => some (.int (i - j))
  | _, _ => none
theorem od_sub : OpD X (binaryOp .Sub) gSub := by
  refine opD_of op_sub ?_
  intro H S F μ x y v u c Q h rx ry e q
  unfold gSub at e
  split at e
  · cases e; cases rx; cases ry
    exact ⟨_, _, rfl, rfl, q.same h (.int _)⟩
  · cases e
def big : Int := 18446744073709551616
theorem big_eq : big = 2 ^ 64 := by decide
def smallI (i : Int) : Bool := decide (i.natAbs < 18446744073709551616)
theorem small_ok {i : Int} (h : smallI i = true) : -(2 ^ 64) < i ∧ i < 2 ^ 64 := by
  unfold smallI at h
  simp only [Bool.and_eq_true, decide_eq_true_eq] at h
  omega
def gMul : T → T → Option T
  | .int i, .int j => if smallI i || smallI j then some (.int (i * j)) else none
  | .lst xs, .int k => if 0 ≤ k ∧ k < 1000000 ∧ xs.length * k.toNat ≤ cap then some (.lst (List.replicate k.toNat xs).flatten) else none
  | _, _ => none
theorem rep_rps {K : PySem.W.Frag} {F : Hp} {xs : List T} {vs : List V} (r : Rps K F xs vs) : ∀ k : Nat, Rps K F (List.replicate k xs).flatten (List.replicate k vs).flatten
  | 0 => by simpa using Rps.nil
  | k + 1 => by
    rw [List.replicate_succ, List.replicate_succ, List.flatten_cons, List.flatten_cons]
    exact r.append (rep_rps r k)
theorem od_mul : OpD X (binaryOp .Mult) gMul := by
  refine opD_of ((op_mul (X := X)).or op_rep) ?_
  intro H S F μ x y v u c Q h rx ry e q
  unfold gMul at e
  split at e
  · split at e
    · rename_i hc
      cases e; cases rx; cases ry
      refine .inl ⟨_, _, rfl, rfl, ?_, q.same h (.int _)⟩
      simp only [Bool.or_eq_true] at hc
      exact hc.elim (fun z => .inl (small_ok z)) fun z => .inr (small_ok z)
    · cases e
  · split at e
    · rename_i hc
      cases e; cases ry; cases rx with
      | lst a r =>
        refine .inr ⟨_, _, _, rfl, rfl, a, by omega, by omega, by rw [← r.length, cap_eq]; exact hc.2.2, fun p hp => q.lst h (rep_rps r _) hp⟩
    · cases e
  · cases e
def gDiv : T → T → Option T
  | .int i, .int j => if 0 < j ∧ j.natAbs < 18446744073709551616 then some (.int (i / j)) else none
  | _, _ => none
theorem od_div : OpD X (binaryOp .FloorDiv) gDiv := od_int op_fdivW fun x y c e => by
  unfold gDiv at e
  split at e
  · split at e
    · rename_i hc
      cases e
      refine ⟨_, _, rfl, rfl, wide_div hc.1 (b := 64) ?_ (by decide) (by decide), rfl⟩
      have h2 := hc.2
      have h1 := hc.1
      have h3 : (2:Nat) ^ 64 = 18446744073709551616 := by decide
      omega
    · cases e
  · cases e
def gMod : T → T → Option T
  | .int i, .int j => if 0 < j then some (.int (i % j)) else none
  | _, _ => none
theorem od_mod : OpD X (binaryOp .Mod) gMod := od_int op_mod fun x y c e => by
  unfold gMod at e
  split at e
  · split at e
    · rename_i hc
      cases e
      exact ⟨_, _, rfl, rfl, hc, rfl⟩
    · cases e
  · cases e
def cpow (i j : Int) : Bool := decide (0 ≤ j) && decide (j.natAbs ≤ 1000000) && decide (i.natAbs < 18446744073709551616)
theorem cpow_ok {i j : Int} (h : cpow i j = true) : CPow i j := by
  unfold cpow at h
  simp only [Bool.and_eq_true, decide_eq_true_eq] at h
  refine ⟨h.1.1, by omega, ?_⟩
  have : (2:Nat) ^ 64 = 18446744073709551616 := by decide
  omega
def gPow : T → T → Option T
  | .int i, .int j => if cpow i j then some (.int (i ^ j.toNat)) else none
  | _, _ => none
theorem od_pow : OpD X (binaryOp .Pow) gPow := od_int op_pow fun x y c e => by
  unfold gPow at e
  split at e
  · split at e
    · rename_i hc
      cases e
      exact ⟨_, _, rfl, rfl, cpow_ok hc, rfl⟩
    · cases e
  · cases e
def gShl : T → T → Option T
  | .int i, .int j => if cpow i j then some (.int (i * 2 ^ j.toNat)) else none
  | _, _ => none
theorem od_shl : OpD X (binaryOp .LShift) gShl := od_int op_shl fun x y c e => by
  unfold gShl at e
  split at e
  · split at e
    · rename_i hc
      cases e
      exact ⟨_, _, rfl, rfl, cpow_ok hc, rfl⟩
    · cases e
  · cases e
def gShr : T → T → Option T
  | .int i, .int j => if 0 ≤ j then some (.int (i / 2 ^ j.toNat)) else none
  | _, _ => none
theorem od_shr : OpD X (binaryOp .RShift) gShr := od_int op_shr fun x y c e => by
  unfold gShr at e
  split at e
  · split at e
    · rename_i hc
      cases e
      exact ⟨_, _, rfl, rfl, hc, rfl⟩
    · cases e
  · cases e
def gAnd : T → T → Option T
  | .int i, .int j => some (.int (Builtin.bitAnd i j))
  | _, _ => none
def gOr : T → T → Option T
  | .int i, .int j => some (.int (Builtin.bitOr i j))
  | _, _ => none
theorem od_and : OpD X (binaryOp .BitAnd) gAnd := by
  refine opD_of op_and ?_
  intro H S F μ x y v u c Q h rx ry e q
  unfold gAnd at e
  split at e
  · cases e; cases rx; cases ry
    exact ⟨_, _, rfl, rfl, q.same h (.int _)⟩
  · cases e
theorem od_or : OpD X (binaryOp .BitOr) gOr := by
  refine opD_of op_or ?_
  intro H S F μ x y v u c Q h rx ry e q
  unfold gOr at e
  split at e
  · cases e; cases rx; cases ry
    exact ⟨_, _, rfl, rfl, q.same h (.int _)⟩
  · cases e

/-! ### comparisons -/
/-- ints -/
def intsOf : List T → Option (List Int)
  | [] => some []
  | .int i :: r => (intsOf r).map (i :: ·)
  | _ :: _ => none
def bls : List T → Option (List Bool)
  | [] => some []
  | .bl i :: r => (bls r).map (i :: ·)
  | _ :: _ => none
theorem intsOf_map (ns : List Int) : intsOf (ns.map T.int) = some ns := by
  induction ns with
  | nil => rfl
  | cons n r ih => rw [List.map_cons, intsOf, ih]; rfl
theorem bls_map (ns : List Bool) : bls (ns.map T.bl) = some ns := by
  induction ns with
  | nil => rfl
  | cons n r ih => rw [List.map_cons, bls, ih]; rfl
theorem intsOf_some : ∀ {xs : List T} {ns : List Int}, intsOf xs = some ns → xs = ns.map T.int
  | [], _, h => by cases h; rfl
  | .int i :: r, ns, h => by
    obtain ⟨ms, hm, rfl⟩ := map1 (show (intsOf r).map (i :: ·) = some ns from h)
    rw [intsOf_some hm]; rfl
  | .non :: _, _, h => by cases h
  | .bl _ :: _, _, h => by cases h
  | .str _ :: _, _, h => by cases h
  | .tup _ :: _, _, h => by cases h
  | .lst _ :: _, _, h => by cases h
  | .dct _ :: _, _, h => by cases h
  | .scr _ :: _, _, h => by cases h
theorem bls_some : ∀ {xs : List T} {ns : List Bool}, bls xs = some ns → xs = ns.map T.bl
  | [], _, h => by cases h; rfl
  | .bl i :: r, ns, h => by
    obtain ⟨ms, hm, rfl⟩ := map1 (show (bls r).map (i :: ·) = some ns from h)
    rw [bls_some hm]; rfl
  | .non :: _, _, h => by cases h
  | .int _ :: _, _, h => by cases h
  | .str _ :: _, _, h => by cases h
  | .tup _ :: _, _, h => by cases h
  | .lst _ :: _, _, h => by cases h
  | .dct _ :: _, _, h => by cases h
  | .scr _ :: _, _, h => by cases h
def gCmp (p : Int → Int → Bool) : T → T → Option T
  | .int i, .int j => some (.bl (p i j))
  | _, _ => none
theorem od_cmp {op : CmpOp} {p : Int → Int → Bool} (ho : OpR X (compareOp op) (rI0 fun i j => .bl (p i j))) : OpD X (compareOp op) (gCmp p) := by
  refine opD_of ho ?_
  intro H S F μ x y v u c Q h rx ry e q
  unfold gCmp at e
  split at e
  · cases e; cases rx; cases ry
    exact ⟨_, _, rfl, rfl, q.same h (.bl _)⟩
  · cases e
def gLt : T → T → Option T
  | .int i, .int j => some (.bl (decide (i < j)))
  | .tup xs, .tup ys => (intsOf xs).bind fun ns => (intsOf ys).map fun ms => .bl (HT.lexLt ns ms)
  | _, _ => none
abbrev gLe : T → T → Option T := gCmp fun i j => decide (i ≤ j)
abbrev gGt : T → T → Option T := gCmp fun i j => decide (j < i)
abbrev gGe : T → T → Option T := gCmp fun i j => decide (j ≤ i)
theorem od_lt {k : Nat} (hr : RoomG k X.A) : OpD X (compareOp .Lt) gLt := by
  refine opD_of ((op_lt (X := X)).or (op_ltT (by have := hr.units; omega))) ?_
  intro H S F μ x y v u c Q h rx ry e q
  unfold gLt at e
  split at e
  · cases e; cases rx; cases ry
    exact .inl ⟨_, _, rfl, rfl, q.same h (.bl _)⟩
  · rename_i xs ys
    cases h1 : intsOf xs with
    | none => rw [h1] at e; cases e
    | some ns =>
      cases h2 : intsOf ys with
      | none => rw [h1, h2] at e; cases e
      | some ms =>
        rw [h1, h2] at e
        cases e
        have e1 := intsOf_some h1
        have e2 := intsOf_some h2
        subst e1 e2
        cases rx with
        | tup a r => cases ry with
          | tup a' r' =>
            cases r.ints_inv
            cases r'.ints_inv
            exact .inr ⟨_, _, ns, ms, rfl, rfl, Same.sqT h.sub a, Same.sqT h.sub a', q.same h (.bl _)⟩
  · cases e
theorem od_le {k : Nat} (_ : RoomG k X.A) : OpD X (compareOp .LtE) gLe := od_cmp op_le
theorem od_gt {k : Nat} (_ : RoomG k X.A) : OpD X (compareOp .Gt) gGt := od_cmp op_gt
theorem od_ge {k : Nat} (_ : RoomG k X.A) : OpD X (compareOp .GtE) gGe := od_cmp op_ge
def gEq (x y : T) : Option T := match x, y with
  | .str a, .str b => some (.bl (decide (a = b)))
  | x, y => if shp x && shp y then some (.bl (eqT x y)) else none
def gNe (x y : T) : Option T := match x, y with
  | .str a, .str b => some (.bl (!decide (a = b)))
  | x, y => if shp x && shp y then some (.bl (!eqT x y)) else none
theorem shp_nd {x : T} (h : shp x = true) (kvs : List (Key × T)) : x ≠ .dct kvs := by
  rintro rfl
  simp [shp, lay] at h
theorem shp_lay {x : T} (h : shp x = true) : lay x = true := by
  unfold shp at h
  simp only [Bool.and_eq_true] at h
  exact h.1
theorem od_eq {k : Nat} (hr : RoomG k X.A) : OpD X (compareOp .Eq) gEq := by
  refine opD_of ((op_eq (X := X)).or (op_eqD hr.units)) ?_
  intro H S F μ x y v u c Q h rx ry e q
  unfold gEq at e
  split at e
  · cases e; cases rx; cases ry
    refine .inl ⟨rfl, ?_⟩
    have hd : ∀ a b : Str, decide (V.str a = V.str b) = decide (a = b) := fun a b => by simp
    rw [hd]
    exact q.same h (.bl _)
  split at e
  · rename_i hc
    cases e
    simp only [Bool.and_eq_true] at hc
    refine .inr ⟨toPy _, toPy _, rp_dp (rx.rp h.sub (shp_nd hc.1)) (shp_lay hc.1), rp_dp (ry.rp h.sub (shp_nd hc.2)) (shp_lay hc.2), shp_py hc.1, shp_py hc.2, ?_⟩
    rw [eqT_py]
    exact q.same h (.bl _)
  · cases e
theorem od_ne {k : Nat} (hr : RoomG k X.A) : OpD X (compareOp .NotEq) gNe := by
  refine opD_of ((op_ne (X := X)).or (op_neD hr.units)) ?_
  intro H S F μ x y v u c Q h rx ry e q
  unfold gNe at e
  split at e
  · cases e; cases rx; cases ry
    refine .inl ⟨rfl, ?_⟩
    have hd : ∀ a b : Str, decide (V.str a = V.str b) = decide (a = b) := fun a b => by simp
    rw [hd]
    exact q.same h (.bl _)
  split at e
  · rename_i hc
    cases e
    simp only [Bool.and_eq_true] at hc
    refine .inr ⟨toPy _, toPy _, rp_dp (rx.rp h.sub (shp_nd hc.1)) (shp_lay hc.1), rp_dp (ry.rp h.sub (shp_nd hc.2)) (shp_lay hc.2), shp_py hc.1, shp_py hc.2, ?_⟩
    rw [eqT_py]
    exact q.same h (.bl _)
  · cases e
/-- None, a truth value, an int, a text -/
def flat : T → Bool
  | .non | .bl _ | .int _ | .str _ => true
  | _ => false
def seqOf : T → Option (List T)
  | .lst xs => some xs
  | .tup xs => some xs
  | _ => none
theorem flat_v {K : PySem.W.Frag} {F : Hp} {x : T} {v : V} (r : Rp K F x v) (f : flat x = true) : flatV v = true := by
  cases r <;> first | rfl | cases f
theorem flat_eq {K : PySem.W.Frag} {F : Hp} {x y : T} {v u : V} (r : Rp K F x v) (r' : Rp K F y u) (f : flat x = true) (f' : flat y = true) : eqV v u = eqT x y := by
  cases r <;> first | (cases f; done) | (cases r' <;> first | (cases f'; done) | (simp [eqV, eqT]; done) | (simp only [eqV, eqT]; first | rfl | (split <;> simp_all)))

theorem seq_rv {K : PySem.W.Frag} {H F : Hp} {x : T} {v : V} {xs : List T} (s : Same F H) (r : Rv K H F x v) (e : seqOf x = some xs) : ∃ p vs, v = .ref p ∧ (SqL K H p vs ∨ SqT K H p vs) ∧ Rps K F xs vs := by
  cases r with
  | lst a r => cases e; exact ⟨_, _, rfl, .inl (SqL.of a), r⟩
  | tup a r => cases e; exact ⟨_, _, rfl, .inr (Same.sqT s a), r⟩
  | _ => cases e
theorem flats_v {K : PySem.W.Frag} {F : Hp} : ∀ {xs : List T} {vs : List V}, Rps K F xs vs → xs.all flat = true → vs.all flatV = true
  | _, _, .nil, _ => rfl
  | _, _, .cons r t, h => by
    simp only [List.all_cons, Bool.and_eq_true] at h ⊢
    exact ⟨flat_v r h.1, flats_v t h.2⟩
theorem inV_T {K : PySem.W.Frag} {F : Hp} {x : T} {v : V} (r : Rp K F x v) (f : flat x = true) : ∀ {xs : List T} {vs : List V}, Rps K F xs vs → xs.all flat = true → inV v vs = xs.any fun y => eqT y x
  | _, _, .nil, _ => rfl
  | _, _, .cons r' t, h => by
    simp only [List.all_cons, Bool.and_eq_true] at h
    have ih := inV_T r f t h.2
    unfold inV at ih ⊢
    rw [List.any_cons, List.any_cons, ih, flat_eq r' r h.1 f]
def keyOf : T → Option Key
  | .int i => some (.inl i)
  | .str x => some (.inr x)
  | _ => none
def lookK (kvs : List (Key × T)) (k : Key) : Option T := match kvs with
  | [] => none
  | (k', x) :: r => if k' = k then some x else lookK r k
def memT (x y : T) : Option Bool := match y with
  | .dct kvs => (keyOf x).map fun k => (lookK kvs k).isSome
  | y => (seqOf y).bind fun ys => if flat x && ys.all flat then some (ys.any fun z => eqT z x) else none
def gIn (x y : T) : Option T := (memT x y).map T.bl
def gNotIn (x y : T) : Option T := (memT x y).map fun b => T.bl (!b)
theorem valV_look {K : PySem.W.Frag} {F : Hp} : ∀ {kvs : List (Key × T)} {us : List (Key × V)} {k : Key}, Rpk K F kvs us → (∀ x, lookK kvs k = some x → ∃ v, valV us k = some v ∧ Rp K F x v) ∧ (lookK kvs k = none → valV us k = none)
  | _, _, k, .nil => ⟨fun x h => (by cases h), fun _ => rfl⟩
  | _, _, k, .cons (k := k') (x := x) (v := v) (xs := xs) (vs := vs) r t => by
    have ih := valV_look (k := k) t
    by_cases e : k' = k
    · subst e
      refine ⟨fun y h => ?_, fun h => ?_⟩
      · simp [lookK] at h; subst h
        exact ⟨v, by simp [valV], r⟩
      · simp [lookK] at h
    · refine ⟨fun y h => ?_, fun h => ?_⟩
      · simp [lookK, e] at h
        obtain ⟨v', h1, h2⟩ := ih.1 y h
        exact ⟨v', by simp [valV, e]; simpa [valV] using h1, h2⟩
      · simp [lookK, e] at h
        have := ih.2 h
        simp [valV, e]; simpa [valV] using this
theorem key_rv {K : PySem.W.Frag} {H F : Hp} {x : T} {v : V} {k : Key} (r : Rv K H F x v) (e : keyOf x = some k) : v = kV k := by
  cases r <;> cases e <;> rfl
theorem look_some {K : PySem.W.Frag} {F : Hp} {kvs : List (Key × T)} {us : List (Key × V)} {k : Key} (r : Rpk K F kvs us) : (valV us k).isSome = (lookK kvs k).isSome := by
  have h := valV_look (k := k) r
  cases e : lookK kvs k with
  | none => rw [h.2 e]; rfl
  | some x => obtain ⟨v, h1, _⟩ := h.1 x e; rw [h1]; rfl
def rDIn : R2 := fun x y H Q => ∃ a o, y = .ref a ∧ DGet H a x o ∧ Q (.bl o.isSome) H
def rDNotIn : R2 := fun x y H Q => ∃ a o, y = .ref a ∧ DGet H a x o ∧ Q (.bl (!o.isSome)) H
theorem op_din (hu : X.A.units + 1 < cLine) : OpR X (compareOp .In) rDIn := by
  intro pins s σ H x y v u Q I rx ry h
  obtain ⟨a, o, rfl, g, q⟩ := h
  cases ry
  exact d_in hu I g rx fun s' I' => ⟨.bl _, H, I', rfl, q⟩
theorem op_dnotin (hu : X.A.units + 1 < cLine) : OpR X (compareOp .NotIn) rDNotIn := by
  intro pins s σ H x y v u Q I rx ry h
  obtain ⟨a, o, rfl, g, q⟩ := h
  cases ry
  exact d_notIn hu I g rx fun s' I' => ⟨.bl _, H, I', rfl, q⟩
theorem dget_rd {H : Hp} {a : Addr} {kvs : List (Key × V)} {k : Key} (e : Rd H a (.dK kvs)) : DGet H a (kV k) (valV kvs k) := .inl ⟨kvs, k, e, rfl, rfl⟩
theorem mem_run {neg : Bool} {H F : Hp} {S : Sto} {μ : List Addr} {x y : T} {v u : V} {b : Bool} {Q : VK} (h : Rs X.K H S F μ) (rx : Rv X.K H F x v) (ry : Rv X.K H F y u) (e : memT x y = some b) (q : Q (.bl (if neg then !b else b)) H) :
    rIn X.K neg v u H Q ∨ (if neg then rDNotIn v u H Q else rDIn v u H Q) := by
  unfold memT at e
  split at e
  · obtain ⟨k, hk, rfl⟩ := map1 e
    cases ry with
    | dct hd r =>
      right
      rw [key_rv rx hk]
      have e := look_some (k := k) r
      cases neg with
      | true => exact ⟨_, _, rfl, dget_rd hd, by rw [e]; exact q⟩
      | false => exact ⟨_, _, rfl, dget_rd hd, by rw [e]; exact q⟩
  · left
    cases q1 : seqOf y with
    | none => rw [q1] at e; cases e
    | some ys =>
      rw [q1] at e
      have e : (if flat x && ys.all flat then some (ys.any fun z => eqT z x) else none) = some b := e
      split at e
      · rename_i hc
        cases e
        simp only [Bool.and_eq_true] at hc
        obtain ⟨p, vs, rfl, hs, r⟩ := seq_rv h.sub ry q1
        have rp : Rp X.K H x v := rx.rp h.sub (fun kvs z => by subst z; simp [flat] at hc)
        refine ⟨p, vs, rfl, hs, flat_v rp hc.1, flats_v r hc.2, ?_⟩
        rw [inV_T rp hc.1 (r.mono h.sub) hc.2]
        exact q
      · cases e
theorem od_in {k : Nat} (hr : RoomG k X.A) : OpD X (compareOp .In) gIn := by
  refine opD_of ((op_in_seq (X := X)).or (op_din (hu_of hr.toRoom))) ?_
  intro H S F μ x y v u c Q h rx ry e q
  obtain ⟨b, hb, rfl⟩ := map1 e
  exact mem_run (neg := false) h rx ry hb (q.same h (.bl _))
theorem od_notin {k : Nat} (hr : RoomG k X.A) : OpD X (compareOp .NotIn) gNotIn := by
  refine opD_of ((op_notIn_seq (X := X)).or (op_dnotin (hu_of hr.toRoom))) ?_
  intro H S F μ x y v u c Q h rx ry e q
  obtain ⟨b, hb, rfl⟩ := map1 e
  exact mem_run (neg := true) h rx ry hb (q.same h (.bl _))
/-- x is None -/
def isN : T → Bool
  | .non => true
  | _ => false
def gIs (x y : T) : Option T := if isN y then some (.bl (isN x)) else none
def gIsNot (x y : T) : Option T := if isN y then some (.bl (!isN x)) else none
theorem isN_rv {K : PySem.W.Frag} {H F : Hp} {x : T} {v : V} (r : Rv K H F x v) : decide (v = .non) = isN x := by
  cases r <;> rfl
theorem od_is : OpD X (compareOp .Is) gIs := by
  refine opD_of op_isN ?_
  intro H S F μ x y v u c Q h rx ry e q
  unfold gIs at e
  split at e
  · rename_i hc
    cases e
    refine ⟨?_, ?_⟩
    · have := isN_rv ry
      rw [hc] at this
      simpa using this
    · rw [isN_rv rx]; exact q.same h (.bl _)
  · cases e
theorem od_isnot : OpD X (compareOp .IsNot) gIsNot := by
  refine opD_of op_notN ?_
  intro H S F μ x y v u c Q h rx ry e q
  unfold gIsNot at e
  split at e
  · rename_i hc
    cases e
    refine ⟨?_, ?_⟩
    · have := isN_rv ry
      rw [hc] at this
      simpa using this
    · rw [isN_rv rx]; exact q.same h (.bl _)
  · cases e
end
end Dl

/-! Dl4: subscripts, calls of built-ins, methods. -/
namespace Dl
open PySem PySem.Spec PyProof.Rows L2

/-! ### a[b] -/
def asI : W → Option Int
  | .t (.int i) => some i
  | _ => none
def Cell.at : Cell → Int → Option W
  | .lst xs, i => (atI xs i).map W.t
  | .vec ws, i => atI ws i
  | _, _ => none
def ixT (x y : T) : Option T := match x, y with
  | .tup xs, .int i => atI xs i
  | .lst xs, .int i => atI xs i
  | .str z, .int i => if z.length ≤ cap then (atI z.cps.toList i).map fun c => .str ⟨#[c]⟩ else none
  | .dct kvs, k => (keyOf k).bind fun k => lookK kvs k
  | _, _ => none
def ixW (S : Sto) (w : W) (y : T) : Option W := match w with
  | .t x => (ixT x y).map W.t
  | .r n => S[n]?.bind fun c => match c, y with
    | .dic kvs, k => (keyOf k).bind fun k => (lookK kvs k).map W.t
    | .frz kvs, k => (keyOf k).bind fun k => (lookK kvs k).map W.t
    | c, .int i => c.at i
    | _, _ => none
def eIx (fa fb : Ex) : Ex := fun ρ S => (fa ρ S).bind fun w1 S1 => (fb ρ S1).bind fun w2 S2 => R.of ((view S2 w2).bind fun y => ixW S2 w1 y) S2
theorem atI_rps {K : PySem.W.Frag} {F : Hp} {xs : List T} {vs : List V} {i : Int} {x : T} (r : Rps K F xs vs) (e : atI xs i = some x) : ∃ v, atI vs i = some v ∧ Rp K F x v := by
  unfold atI at e ⊢
  rw [← r.length]
  cases q : ixN xs.length i with
  | none => rw [q] at e; cases e
  | some j =>
    rw [q] at e
    have e : xs[j]? = some x := e
    exact r.get e
theorem atI_rpws {K : PySem.W.Frag} {F : Hp} {μ : List Addr} {xs : List W} {vs : List V} {i : Int} {x : W} (r : RpWs K F μ xs vs) (e : atI xs i = some x) : ∃ v, atI vs i = some v ∧ RpW K F μ x v := by
  unfold atI at e ⊢
  rw [← r.length]
  cases q : ixN xs.length i with
  | none => rw [q] at e; cases e
  | some j =>
    rw [q] at e
    have e : xs[j]? = some x := e
    exact r.get e
section
variable {X : Cx}
def rIxD : R2 := fun x y H Q => ∃ a v, x = .ref a ∧ DGet H a y (some v) ∧ Q v H
theorem ix_dict (hu : X.A.units + 1 < cLine) : IxR X rIxD := by
  intro value slice pins s σ H x y v u Q I rx ry h hs
  obtain ⟨a, w, rfl, g, q⟩ := h
  cases rx
  exact tail_any (dict_typeIs I g) PySem.F.slot_dict_getitem.lookup (d_getItem hu I g ry fun w' s3 I3 rw' => ⟨w, H, I3, rw', q⟩) hs
def rIxA (K : PySem.W.Frag) : R2 := fun x y H Q => rIx K x y H Q ∨ rIxD x y H Q
theorem ixT_run {H F : Hp} {S : Sto} {μ : List Addr} {x y z : T} {v u : V} {Q : VK} (h : Rs X.K H S F μ) (rx : Rv X.K H F x v) (ry : Rv X.K H F y u) (e : ixT x y = some z) (q : Res X.K H S F μ z Q) : rIxA X.K v u H Q := by
  unfold ixT at e
  split at e
  · cases ry
    cases rx with
    | tup a r =>
      obtain ⟨w, h1, h2⟩ := atI_rps r e
      exact .inl (.inr (.inl ⟨_, _, _, w, rfl, rfl, Same.sqT h.sub a, h1, q.same h h2⟩))
  · cases ry
    cases rx with
    | lst a r =>
      obtain ⟨w, h1, h2⟩ := atI_rps r e
      exact .inl (.inl ⟨_, _, _, w, rfl, rfl, SqL.of a, h1, q.same h h2⟩)
  · split at e
    · rename_i hl
      cases ry; cases rx
      obtain ⟨c, hc, rfl⟩ := map1 e
      exact .inl (.inr (.inr ⟨_, _, c, rfl, rfl, by rw [cap_eq]; exact hl, hc, q.same h (.str _)⟩))
    · cases e
  · cases rx with
    | dct a r =>
      rename_i kvs k us a'
      cases hk : keyOf y with
      | none => rw [hk] at e; cases e
      | some key =>
        rw [hk] at e
        obtain ⟨w, h1, h2⟩ := (valV_look (k := key) r).1 z e
        refine .inr ⟨_, w, rfl, ?_, q.same h h2⟩
        rw [key_rv ry hk, ← h1]
        exact dget_rd a
  · cases e
variable {a b e : Expr} {es : List Expr} {fa fb f : Ex} {fs : Exs} {pos : Pos}
theorem de_ix {k : Nat} (hr : RoomG k X.A) (ha : DE X a fa) (hb : DE X b fb) (hs : PlainIx b := by exact fun _ _ => rfl) : DE X (.Subscript a b pos) (eIx fa fb) := by
  intro σ H ρ S F μ w S' Q h hs' ee hQ
  obtain ⟨w1, S1, h1, ea⟩ := R.bind_eq ee
  clear ee
  obtain ⟨w2, S2, h2, eb⟩ := R.bind_eq ea
  clear ea
  obtain ⟨h3, rfl⟩ := R.of_eq eb
  cases qy : view S' w2 with
  | none => rw [qy] at h3; cases h3
  | some y =>
    rw [qy] at h3
    have h3 : ixW S' w1 y = some w := h3
    refine wpe (pe_ix (ix_seq.or (ix_dict (hu_of hr.toRoom))) peW peW hs) ?_
    refine ha σ H ρ S F μ w1 S1 _ h hs' h1 fun v H1 F1 μ1 r1 g1 q1 => ?_
    refine hb σ H1 ρ S1 F1 μ1 w2 S' _ r1 (hs'.gr g1) h2 fun u H2 F2 μ2 r2 g2 q2 => ?_
    have ry := view_rv r2 q2 qy
    have fin : ∀ {v'}, RpW X.K F2 μ2 w v' → Q v' H2 := fun r => hQ _ H2 F2 μ2 r2 (g1.trans g2) r
    have q1 := q1.gr g2
    cases w1 with
    | t x =>
      obtain ⟨z, hz, rfl⟩ := map1 h3
      exact ixT_run r2 (Rp.rv r2.sub q1) ry hz fun v' H3 F3 r3 g3 q3 => hQ v' H3 F3 μ2 r3 ((g1.trans g2).trans g3) q3
    | r n =>
      obtain ⟨p, hp, rfl⟩ := q1
      replace h3 : (S'[n]?.bind fun c => match c, y with
        | .dic kvs, k => (keyOf k).bind fun k => (lookK kvs k).map W.t
        | .frz kvs, k => (keyOf k).bind fun k => (lookK kvs k).map W.t
        | c, .int i => c.at i
        | _, _ => none) = some w := h3
      cases qc : S'[n]? with
      | none => rw [qc] at h3; cases h3
      | some c =>
        rw [qc] at h3
        have q0 := r2.cell n c p qc hp
        cases c with
        | dead => cases y <;> cases h3
        | lst xs =>
          obtain ⟨_, vs, hv, r⟩ := q0
          cases ry with
          | int i =>
            obtain ⟨x, hx, rfl⟩ := map1 (show (atI xs i).map W.t = some w from h3)
            obtain ⟨v', e1, e2⟩ := atI_rps r hx
            exact .inl (.inl ⟨_, _, _, v', rfl, rfl, SqL.of hv, e1, fin e2⟩)
          | _ => cases h3
        | vec ws =>
          obtain ⟨_, vs, hv, r⟩ := q0
          cases ry with
          | int i =>
            obtain ⟨v', e1, e2⟩ := atI_rpws r (show atI ws i = some w from h3)
            exact .inl (.inl ⟨_, _, _, v', rfl, rfl, SqL.of hv, e1, fin e2⟩)
          | _ => cases h3
        | dic kvs =>
          obtain ⟨_, us, hv, r⟩ := q0
          replace h3 : ((keyOf y).bind fun k => (lookK kvs k).map W.t) = some w := by
            cases y <;> exact h3
          cases hk : keyOf y with
          | none => rw [hk] at h3; cases h3
          | some key =>
            rw [hk] at h3
            obtain ⟨x, hx, rfl⟩ := map1 (show (lookK kvs key).map W.t = some w from h3)
            obtain ⟨v', e1, e2⟩ := (valV_look (k := key) r).1 x hx
            refine .inr ⟨_, v', rfl, ?_, fin e2⟩
            rw [key_rv ry hk, ← e1]
            exact DGet.k hv
        | frz kvs =>
          obtain ⟨_, us, ⟨o', hv⟩, r⟩ := q0
          replace h3 : ((keyOf y).bind fun k => (lookK kvs k).map W.t) = some w := by
            cases y <;> exact h3
          cases hk : keyOf y with
          | none => rw [hk] at h3; cases h3
          | some key =>
            rw [hk] at h3
            obtain ⟨x, hx, rfl⟩ := map1 (show (lookK kvs key).map W.t = some w from h3)
            obtain ⟨v', e1, e2⟩ := (valV_look (k := key) r).1 x hx
            refine .inr ⟨_, v', rfl, ?_, fin e2⟩
            rw [key_rv ry hk, ← e1]
            exact dget_rd (.inr ⟨o', hv⟩)

/-! ### slices -/
abbrev Ox := Env → Sto → R (Option Int)
def DO (X : Cx) (o : Option Expr) (f : Ox) : Prop := ∀ (σ : L2.St) (H : Hp) (ρ : Env) (S : Sto) (F : Hp) (μ : List Addr) (i : Option Int) (S' : Sto) (Q : Option Int → Hp → Prop), Rs X.K H S F μ → RpSt X.K F μ σ ρ → f ρ S = .ok i S' →
  (∀ H' F' μ', Rs X.K H' S' F' μ' → Gr H F μ H' F' μ' → Q i H') → ∃ t, PO X o t ∧ t σ H Q
def oNone : Ox := fun _ S => .ok none S
def oSome (f : Ex) : Ox := fun ρ S => (f ρ S).bind fun w S1 => R.of ((asI w).map some) S1
theorem do_none : DO X none oNone := by
  intro σ H ρ S F μ i S' Q h hs e hQ
  cases e
  exact ⟨tNoPart, po_none, hQ H F μ h Gr.refl⟩
theorem asI_eq {w : W} {i : Int} (h : asI w = some i) : w = .t (.int i) := by
  unfold asI at h
  split at h
  · cases h; rfl
  · cases h
def POW (X : Cx) (o : Option Expr) (σ : L2.St) (H : Hp) (Q : Option Int → Hp → Prop) : Prop := ∀ (pins : List (Addr × Obj)) (s : Shared), Inv X pins σ H s →
  wpAny (model X.prog X.w) X.A (evalPart o X.env) (fun u s' => ∃ o H', Inv X pins σ H' s' ∧ IsPart u o ∧ Q o H') X.xe s
theorem poW {o : Option Expr} : PO X o (POW X o) := ⟨fun pins s σ H Q I h => h pins s I⟩
theorem powOf {o : Option Expr} {t : TO} {σ : L2.St} {H : Hp} {Q : Option Int → Hp → Prop} (h : PO X o t) (q : t σ H Q) : POW X o σ H Q := fun pins s I => h.run pins s σ H Q I q
theorem DO.pow {o : Option Expr} {f : Ox} (hd : DO X o f) {σ : L2.St} {H : Hp} {ρ : Env} {S : Sto} {F : Hp} {μ : List Addr} {i : Option Int} {S' : Sto} {Q : Option Int → Hp → Prop} (h : Rs X.K H S F μ) (hs : RpSt X.K F μ σ ρ) (e : f ρ S = .ok i S')
    (hQ : ∀ H' F' μ', Rs X.K H' S' F' μ' → Gr H F μ H' F' μ' → Q i H') : POW X o σ H Q := by
  obtain ⟨t, p, k⟩ := hd σ H ρ S F μ i S' Q h hs e hQ
  exact powOf p k
theorem do_some (ha : DE X a fa) : DO X (some a) (oSome fa) := by
  intro σ H ρ S F μ i S' Q h hs e hQ
  obtain ⟨w, S1, h1, e⟩ := R.bind_eq e
  obtain ⟨h2, rfl⟩ := R.of_eq e
  obtain ⟨j, hj, rfl⟩ := map1 h2
  cases asI_eq hj
  refine ⟨_, po_some peW, ha σ H ρ S F μ _ S' _ h hs h1 fun v H' F' μ' r' g' q' => ?_⟩
  have q' : Rp X.K F' (.int j) v := q'
  cases q'
  exact ⟨j, rfl, hQ H' F' μ' r' g'⟩
def cutL {α : Type} (xs : List α) (lo hi : Option Int) : List α := (xs.drop (HT.sIx xs.length 0 lo)).take (HT.sIx xs.length xs.length hi - HT.sIx xs.length 0 lo)
def gSl (x : T) (lo hi : Option Int) : Option T := match x with
  | .lst xs => some (.lst (cutL xs lo hi))
  | .tup xs => some (.tup (cutL xs lo hi))
  | _ => none
def eSl (fa : Ex) (l u : Ox) : Ex := fun ρ S => (fa ρ S).bind fun w S1 => (l ρ S1).bind fun lo S2 => (u ρ S2).bind fun hi S3 => R.of ((view S3 w).bind fun x => (gSl x lo hi).map W.t) S3
theorem cut_rps {K : PySem.W.Frag} {F : Hp} {xs : List T} {vs : List V} (r : Rps K F xs vs) (lo hi : Option Int) : Rps K F (cutL xs lo hi) (cutV vs lo hi) := by
  unfold cutL cutV
  rw [← r.length]
  exact (r.drop _).take _
theorem de_slice {lo hi : Option Expr} {p2 : Pos} {l u : Ox} (ha : DE X a fa) (hl : DO X lo l) (hu : DO X hi u) : DE X (.Subscript a (.Slice lo hi none p2) pos) (eSl fa l u) := by
  intro σ H ρ S F μ w S' Q h hs ee hQ
  obtain ⟨w1, S1, h1, ea⟩ := R.bind_eq ee
  clear ee
  obtain ⟨i, S2, h2, eb⟩ := R.bind_eq ea
  clear ea
  obtain ⟨j, S3, h3, ec⟩ := R.bind_eq eb
  clear eb
  obtain ⟨h4, rfl⟩ := R.of_eq ec
  cases qy : view S' w1 with
  | none => rw [qy] at h4; cases h4
  | some x =>
    rw [qy] at h4
    obtain ⟨c, hc, rfl⟩ := map1 (show (gSl x i j).map W.t = some w from h4)
    refine wpe (pe_slice ((sl_tupA (X := X)).or sl_list) peW poW poW) ?_
    refine ha σ H ρ S F μ w1 S1 _ h hs h1 fun v H1 F1 μ1 r1 g1 q1 => ?_
    refine DO.pow hl r1 (hs.gr g1) h2 fun H2 F2 μ2 r2 g2 => ?_
    refine DO.pow hu r2 ((hs.gr g1).gr g2) h3 fun H3 F3 μ3 r3 g3 => ?_
    have gg := (g1.trans g2).trans g3
    have rx := view_rv r3 ((q1.gr g2).gr g3) qy
    have q : Res X.K H3 S' F3 μ3 c Q := fun v' H4 F4 r4 g4 q4 => hQ v' H4 F4 μ3 r4 (gg.trans g4) q4
    unfold gSl at hc
    split at hc
    · cases hc
      cases rx with
      | lst hv r => exact .inr ⟨_, _, rfl, SqL.of hv, fun p hp => q.lst r3 (cut_rps r i j) hp⟩
    · rename_i xs
      cases hc
      cases rx with
      | tup hv r =>
        rename_i pa vs
        refine .inl ⟨_, _, rfl, Same.sqT r3.sub hv, fun z => ?_, fun _ p hp => q.tup r3 (cut_rps r i j) hp⟩
        refine q.same r3 ?_
        have : cutL xs i j = xs := by
          unfold cutL
          rw [r.length, z.1, z.2, List.drop_zero, Nat.sub_zero, ← r.length, List.take_length]
        rw [this]
        exact .tup hv r
    · cases hc

/-! ### calls of built-ins -/
def CallD (X : Cx) (f : Value) (g : List T → Option T) : Prop := ∃ r, CallR X f r ∧ ∀ (H : Hp) (S : Sto) (F : Hp) (μ : List Addr) (xs : List T) (vs : List V) (c : T) (Q : VK),
  Rs X.K H S F μ → Rvs X.K H F xs vs → g xs = some c → Res X.K H S F μ c Q → r vs H Q
/-- .. that give a new list -/
def CallL (X : Cx) (f : Value) (g : List T → Option (List T)) : Prop := ∃ r, CallR X f r ∧ ∀ (H : Hp) (S : Sto) (F : Hp) (μ : List Addr) (xs : List T) (vs : List V) (ys : List T) (Q : VK),
  Rs X.K H S F μ → Rvs X.K H F xs vs → g xs = some ys → (∀ (p : Addr) (us : List V), H p = none → Rps X.K F ys us → Q (.ref p) (upd H p (.lst us))) → r vs H Q
theorem CallL.toD {f : Value} {g : List T → Option (List T)} (h : CallL X f g) : CallD X f (fun xs => (g xs).map T.lst) := by
  obtain ⟨r, h1, h2⟩ := h
  refine ⟨r, h1, fun H S F μ xs vs c Q hs rv e q => ?_⟩
  obtain ⟨ys, hy, rfl⟩ := map1 e
  exact h2 H S F μ xs vs ys Q hs rv hy fun p us hp ru => q.lst hs ru hp
def eCall (g : List T → Option T) (fs : Exs) : Ex := fun ρ S => (fs ρ S).bind fun ws S1 => R.of ((views S1 ws).bind fun xs => (g xs).map W.t) S1
def eCallB (g : List T → Option (List T)) (fs : Exs) : Ex := fun ρ S => (fs ρ S).bind fun ws S1 => match (views S1 ws).bind g with
  | some ys => .ok (.r S1.length) (S1 ++ [.lst ys])
  | none => .no
theorem call_run {g : List T → Option T} {r : List V → Hp → VK → Prop} (hr : ∀ (H : Hp) (S : Sto) (F : Hp) (μ : List Addr) (xs : List T) (vs : List V) (c : T) (Q : VK), Rs X.K H S F μ → Rvs X.K H F xs vs → g xs = some c → Res X.K H S F μ c Q → r vs H Q)
    (ha : DA X es fs) {σ : L2.St} {H : Hp} {ρ : Env} {S : Sto} {F : Hp} {μ : List Addr} {w : W} {S' : Sto} {Q : VK} (h : Rs X.K H S F μ) (hs : RpSt X.K F μ σ ρ) (e : eCall g fs ρ S = .ok w S')
    (hQ : ∀ v H' F' μ', Rs X.K H' S' F' μ' → Gr H F μ H' F' μ' → RpW X.K F' μ' w v → Q v H') : tCB r (WPA X es) σ H Q := by
  obtain ⟨ws, S1, h1, e⟩ := R.bind_eq e
  obtain ⟨h2, rfl⟩ := R.of_eq e
  cases q : views S' ws with
  | none => rw [q] at h2; cases h2
  | some xs =>
    rw [q] at h2
    obtain ⟨c, hc, rfl⟩ := map1 (show (g xs).map W.t = some w from h2)
    refine ha σ H ρ S F μ ws S' _ h hs h1 fun vs H1 F1 μ1 r1 g1 q1 => ?_
    exact hr H1 S' F1 μ1 xs vs c Q r1 (views_rv r1 q1 q) hc fun v H2 F2 r2 g2 q2 => hQ v H2 F2 μ1 r2 (g1.trans g2) q2
theorem callB_run {g : List T → Option (List T)} {r : List V → Hp → VK → Prop} (hr : ∀ (H : Hp) (S : Sto) (F : Hp) (μ : List Addr) (xs : List T) (vs : List V) (ys : List T) (Q : VK),
      Rs X.K H S F μ → Rvs X.K H F xs vs → g xs = some ys → (∀ (p : Addr) (us : List V), H p = none → Rps X.K F ys us → Q (.ref p) (upd H p (.lst us))) → r vs H Q)
    (ha : DA X es fs) {σ : L2.St} {H : Hp} {ρ : Env} {S : Sto} {F : Hp} {μ : List Addr} {w : W} {S' : Sto} {Q : VK} (h : Rs X.K H S F μ) (hs : RpSt X.K F μ σ ρ) (e : eCallB g fs ρ S = .ok w S')
    (hQ : ∀ v H' F' μ', Rs X.K H' S' F' μ' → Gr H F μ H' F' μ' → RpW X.K F' μ' w v → Q v H') : tCB r (WPA X es) σ H Q := by
  obtain ⟨ws, S1, h1, e⟩ := R.bind_eq e
  cases q : views S1 ws with
  | none => rw [q] at e; cases e
  | some xs =>
    cases q2 : g xs with
    | none => simp [q, q2] at e
    | some ys =>
      simp only [q, Option.bind_some, q2] at e
      cases e
      refine ha σ H ρ S F μ ws S1 _ h hs h1 fun vs H1 F1 μ1 r1 g1 q1 => ?_
      refine hr H1 S1 F1 μ1 xs vs ys Q r1 (views_rv r1 q1 q) q2 fun p us hp ru => ?_
      obtain ⟨r2, g2, rr⟩ := r1.boxNew (cl := .lst ys) (o := .lst us) hp ⟨r1.notF hp, us, upd_same, ru⟩
      exact hQ _ _ _ _ r2 (g1.trans g2) rr
variable {x : Str} {p : Pos} {id : String}
theorem de_callB {g : List T → Option T} (hc : CallD X (.builtin id) g) (hg : Gl X x) (hm : X.mg x = none) (hv : bootBuiltins x = some (.builtin id)) (ha : DA X (e :: es) fs) (hn : x ≠ "__name__" := by decide) (hdb : (x == ("__debug__" : Str)) = false := by decide)
    (he : starEach (e :: es) X.env = (false, eval e X.env) :: starEach es X.env := by rfl) (hpl : (backTo pos (starEach es X.env)).any (·.1) = false := by rfl) : DE X (.Call (.Name x p) (e :: es) [] pos) (eCall g fs) := by
  obtain ⟨r, h1, h2⟩ := hc
  intro σ H ρ S F μ w S' Q h hs ee hQ
  exact wpe (pe_callB h1 hg hm hv paW hn hdb he hpl) (call_run h2 ha h hs ee hQ)
theorem de_callTy {g : List T → Option T} (hc : CallD X (.type id) g) (hg : Gl X x) (hm : X.mg x = none) (hv : bootBuiltins x = some (.type id)) (ha : DA X (e :: es) fs) (hn : x ≠ "__name__" := by decide) (hdb : (x == ("__debug__" : Str)) = false := by decide)
    (he : starEach (e :: es) X.env = (false, eval e X.env) :: starEach es X.env := by rfl) (hpl : (backTo pos (starEach es X.env)).any (·.1) = false := by rfl) : DE X (.Call (.Name x p) (e :: es) [] pos) (eCall g fs) := by
  obtain ⟨r, h1, h2⟩ := hc
  intro σ H ρ S F μ w S' Q h hs ee hQ
  exact wpe (pe_callTy h1 hg hm hv paW hn hdb he hpl) (call_run h2 ha h hs ee hQ)
theorem de_callLB {g : List T → Option (List T)} (hc : CallL X (.builtin id) g) (hg : Gl X x) (hm : X.mg x = none) (hv : bootBuiltins x = some (.builtin id)) (ha : DA X (e :: es) fs) (hn : x ≠ "__name__" := by decide) (hdb : (x == ("__debug__" : Str)) = false := by decide)
    (he : starEach (e :: es) X.env = (false, eval e X.env) :: starEach es X.env := by rfl) (hpl : (backTo pos (starEach es X.env)).any (·.1) = false := by rfl) : DE X (.Call (.Name x p) (e :: es) [] pos) (eCallB g fs) := by
  obtain ⟨r, h1, h2⟩ := hc
  intro σ H ρ S F μ w S' Q h hs ee hQ
  exact wpe (pe_callB h1 hg hm hv paW hn hdb he hpl) (callB_run h2 ha h hs ee hQ)
theorem de_callLTy {g : List T → Option (List T)} (hc : CallL X (.type id) g) (hg : Gl X x) (hm : X.mg x = none) (hv : bootBuiltins x = some (.type id)) (ha : DA X (e :: es) fs) (hn : x ≠ "__name__" := by decide) (hdb : (x == ("__debug__" : Str)) = false := by decide)
    (he : starEach (e :: es) X.env = (false, eval e X.env) :: starEach es X.env := by rfl) (hpl : (backTo pos (starEach es X.env)).any (·.1) = false := by rfl) : DE X (.Call (.Name x p) (e :: es) [] pos) (eCallB g fs) := by
  obtain ⟨r, h1, h2⟩ := hc
  intro σ H ρ S F μ w S' Q h hs ee hQ
  exact wpe (pe_callTy h1 hg hm hv paW hn hdb he hpl) (callB_run h2 ha h hs ee hQ)

theorem rvs1 {K : PySem.W.Frag} {H F : Hp} {x : T} {vs : List V} (r : Rvs K H F [x] vs) : ∃ v, vs = [v] ∧ Rv K H F x v := by
  cases r with
  | cons a b => cases b; exact ⟨_, rfl, a⟩
theorem rvs2 {K : PySem.W.Frag} {H F : Hp} {x y : T} {vs : List V} (r : Rvs K H F [x, y] vs) : ∃ v u, vs = [v, u] ∧ Rv K H F x v ∧ Rv K H F y u := by
  cases r with
  | cons a b => cases b with
    | cons c d => cases d; exact ⟨_, _, rfl, a, c⟩
def bLen : List T → Option T
  | [.lst xs] => some (.int xs.length)
  | [.tup xs] => some (.int xs.length)
  | [.scr xs] => some (.int xs.length)
  | [.str x] => if x.length ≤ cap then some (.int x.length) else none
  | _ => none
theorem Rpk.length {K : PySem.W.Frag} {F : Hp} : ∀ {xs : List (Key × T)} {vs : List (Key × V)}, Rpk K F xs vs → xs.length = vs.length
  | _, _, .nil => rfl
  | _, _, .cons _ h => by rw [List.length_cons, List.length_cons, Rpk.length h]
theorem cd_len : CallD X (.builtin "len") bLen := by
  refine ⟨_, call_len, fun H S F μ xs vs c Q h rv e q => ?_⟩
  unfold bLen at e
  split at e <;> try cases e
  · obtain ⟨v, rfl, r⟩ := rvs1 rv
    cases r with
    | lst a r => exact ⟨_, _, rfl, .inl ⟨_, SqL.of a, rfl⟩, by rw [← r.length]; exact q.same h (.int _)⟩
  · obtain ⟨v, rfl, r⟩ := rvs1 rv
    cases r with
    | tup a r => exact ⟨_, _, rfl, .inr ⟨_, Same.sqT h.sub a, rfl⟩, by rw [← r.length]; exact q.same h (.int _)⟩
  · obtain ⟨v, rfl, r⟩ := rvs1 rv
    cases r with
    | scr a => exact ⟨_, _, rfl, .inl ⟨_, a, rfl⟩, by rw [List.length_map]; exact q.same h (.int _)⟩
  · split at e
    · rename_i hl
      cases e
      obtain ⟨v, rfl, r⟩ := rvs1 rv
      cases r
      exact ⟨_, _, rfl, ⟨by rw [cap_eq]; exact hl, rfl⟩, q.same h (.int _)⟩
    · cases e
def bAbs : List T → Option T
  | [.int i] => some (.int (if i < 0 then -i else i))
  | _ => none
theorem cd_abs : CallD X (.builtin "abs") bAbs := by
  refine ⟨_, call_abs, fun H S F μ xs vs c Q h rv e q => ?_⟩
  unfold bAbs at e
  split at e <;> cases e
  obtain ⟨v, rfl, r⟩ := rvs1 rv
  cases r
  exact ⟨_, rfl, q.same h (.int _)⟩
def bList : List T → Option (List T)
  | [.lst xs] => some xs
  | [.tup xs] => some xs
  | _ => none
theorem cl_list : CallL X (.type "list") bList := by
  refine ⟨_, call_list_of, fun H S F μ xs vs c Q h rv e q => ?_⟩
  unfold bList at e
  split at e <;> cases e
  · obtain ⟨v, rfl, r⟩ := rvs1 rv
    cases r with
    | lst a r => exact ⟨_, _, rfl, .inl (SqL.of a), fun l hl => q l _ hl r⟩
  · obtain ⟨v, rfl, r⟩ := rvs1 rv
    cases r with
    | tup a r => exact ⟨_, _, rfl, .inr (Same.sqT h.sub a), fun l hl => q l _ hl r⟩
def bTuple : List T → Option T
  | [.lst xs] => some (.tup xs)
  | [.tup xs] => some (.tup xs)
  | _ => none
theorem cd_tuple : CallD X (.type "tuple") bTuple := by
  refine ⟨_, call_tuple_of, fun H S F μ xs vs c Q h rv e q => ?_⟩
  unfold bTuple at e
  split at e <;> cases e
  · obtain ⟨v, rfl, r⟩ := rvs1 rv
    cases r with
    | lst a r => exact ⟨_, _, rfl, .inl ⟨SqL.of a, fun l hl => q.tup h r hl⟩⟩
  · obtain ⟨v, rfl, r⟩ := rvs1 rv
    cases r with
    | tup a r => exact ⟨_, _, rfl, .inr ⟨Same.sqT h.sub a, q.same h (.tup a r)⟩⟩
/-- of a list of ints -/
def onInts (k : List Int → Option T) : List T → Option T
  | [.lst xs] => (intsOf xs).bind k
  | _ => none
def onBls (k : List Bool → Option T) : List T → Option T
  | [.lst xs] => (bls xs).bind k
  | _ => none
theorem onInts_eq {k : List Int → Option T} {xs : List T} {c : T} (h : onInts k xs = some c) : ∃ ns, xs = [.lst (ns.map T.int)] ∧ k ns = some c := by
  unfold onInts at h
  split at h
  · rename_i ys
    cases q : intsOf ys with
    | none => rw [q] at h; cases h
    | some ns => rw [q] at h; exact ⟨ns, by rw [intsOf_some q], show k ns = some c from h⟩
  · cases h
theorem onBls_eq {k : List Bool → Option T} {xs : List T} {c : T} (h : onBls k xs = some c) : ∃ ns, xs = [.lst (ns.map T.bl)] ∧ k ns = some c := by
  unfold onBls at h
  split at h
  · rename_i ys
    cases q : bls ys with
    | none => rw [q] at h; cases h
    | some ns => rw [q] at h; exact ⟨ns, by rw [bls_some q], show k ns = some c from h⟩
  · cases h
def bSum : List T → Option T := onInts fun ns => some (.int ns.sum)
theorem cd_sum (hc : X.calm = true) : CallD X (.builtin "sum") bSum := by
  refine ⟨_, cr_sum hc, fun H S F μ xs vs c Q h rv e q => ?_⟩
  obtain ⟨ns, rfl, e2⟩ := onInts_eq e
  cases e2
  obtain ⟨v, rfl, r⟩ := rvs1 rv
  cases r with
  | lst a r =>
    cases r.ints_inv
    exact ⟨_, ns, rfl, SqL.of a, q.same h (.int _)⟩
def bAll : List T → Option T := onBls fun bs => some (.bl (bs.all fun b => b))
def bAny : List T → Option T := onBls fun bs => some (.bl (bs.any fun b => b))
theorem cd_all (hc : X.calm = true) : CallD X (.builtin "all") bAll := by
  refine ⟨_, cr_all hc, fun H S F μ xs vs c Q h rv e q => ?_⟩
  obtain ⟨ns, rfl, e2⟩ := onBls_eq e
  cases e2
  obtain ⟨v, rfl, r⟩ := rvs1 rv
  cases r with
  | lst a r =>
    cases r.bls_inv
    exact ⟨_, ns, rfl, SqL.of a, q.same h (.bl _)⟩
theorem cd_any (hc : X.calm = true) : CallD X (.builtin "any") bAny := by
  refine ⟨_, cr_any hc, fun H S F μ xs vs c Q h rv e q => ?_⟩
  obtain ⟨ns, rfl, e2⟩ := onBls_eq e
  cases e2
  obtain ⟨v, rfl, r⟩ := rvs1 rv
  cases r with
  | lst a r =>
    cases r.bls_inv
    exact ⟨_, ns, rfl, SqL.of a, q.same h (.bl _)⟩
end
end Dl

/-! Dl5: methods that change a cell, targets, patterns. -/
namespace Dl
open PySem PySem.Spec PyProof.Rows L2

def live (S : Sto) (n : Nat) : Bool := match S[n]? with
  | some (.lst _) => true
  | some (.vec _) => true
  | _ => false
section
variable {X : Cx}
/-- a method of a list in a cell, one argument: what it gives, what the cell is then -/
def MtC (X : Cx) (id : String) (k : Sto → Cell → W → Option (W × Cell)) : Prop := ∃ r, MtR X id r ∧ ∀ (H : Hp) (S : Sto) (F : Hp) (μ : List Addr) (n : Nat) (p : Addr) (c : Cell) (w : W) (v : V) (w' : W) (c' : Cell) (Q : VK),
  Rs X.K H S F μ → S[n]? = some c → μ[n]? = some p → RpW X.K F μ w v → k S c w = some (w', c') →
  (∀ v' o, RpC X.K (upd H p o) F μ p c' → RpW X.K F μ w' v' → Q v' (upd H p o)) → r (.ref p) [v] H Q
def MtC0 (X : Cx) (id : String) (k : Cell → Option (W × Cell)) : Prop := ∃ r, MtR X id r ∧ ∀ (H : Hp) (S : Sto) (F : Hp) (μ : List Addr) (n : Nat) (p : Addr) (c : Cell) (w' : W) (c' : Cell) (Q : VK),
  Rs X.K H S F μ → S[n]? = some c → μ[n]? = some p → k c = some (w', c') →
  (∀ v' o, RpC X.K (upd H p o) F μ p c' → RpW X.K F μ w' v' → Q v' (upd H p o)) → r (.ref p) [] H Q
def eM1 (k : Sto → Cell → W → Option (W × Cell)) (fo fa : Ex) : Ex := fun ρ S => (fo ρ S).bind fun w S1 => match w with
  | .r n => if live S1 n then (fa ρ S1).bind fun v S2 => match S2[n]?.bind fun c => k S2 c v with
    | some (w', c) => .ok w' (S2.set n c)
    | none => .no else .no
  | .t _ => .no
def eM0 (k : Cell → Option (W × Cell)) (fo : Ex) : Ex := fun ρ S => (fo ρ S).bind fun w S1 => match w with
  | .r n => if live S1 n then (match S1[n]?.bind k with
    | some (w', c) => .ok w' (S1.set n c)
    | none => .no) else .no
  | .t _ => .no
theorem live_list {K : PySem.W.Frag} {H F : Hp} {S : Sto} {μ : List Addr} {n : Nat} {p : Addr} (h : Rs K H S F μ) (hl : live S n = true) (hp : μ[n]? = some p) : ∃ vs, H p = some (.lst vs) := by
  unfold live at hl
  split at hl
  · rename_i xs e
    obtain ⟨_, vs, hv, _⟩ := h.cell n _ p e hp
    exact ⟨vs, hv⟩
  · rename_i xs e
    obtain ⟨_, vs, hv, _⟩ := h.cell n _ p e hp
    exact ⟨vs, hv⟩
  · cases hl
variable {a b o e : Expr} {es : List Expr} {fa fb fo f : Ex} {fs : Exs} {pos apos cpos : Pos} {name : Str} {id : String}
theorem de_m1 {k : Sto → Cell → W → Option (W × Cell)} (slot : Slot "list" name id) (hty : typeOf (.builtin id) = pure (.type "method_descriptor")) (hm : MtC X id k) (hnd : ∀ S c w x, k S c w = some x → c.can = true) (ho : DE X o fo) (ha : DE X e fa)
    (hbase : attributeBase o name X.env (eval o X.env) = eval o X.env := by rfl)
    (hfew : ((backTo cpos (starEach [e] X.env)).all (fun x => !x.1) && (backToKw cpos (keywordEach [] X.env)).all (fun x => x.1.isSome)
      && decide (([e] : List Expr).length + ([] : List Keyword).length + (if ([] : List Keyword).isEmpty then 0 else 1) < 30)) = true := by rfl)
    (hline : (apos.endLine == cpos.line) = true := by rfl) (hs : starEach [e] X.env = (false, eval e X.env) :: starEach [] X.env := by rfl) :
    DE X (.Call (.Attribute o name apos) [e] [] cpos) (eM1 k fo fa) := by
  obtain ⟨r, m1, m2⟩ := hm
  intro σ H ρ S F μ w S' Q h hs' ee hQ
  obtain ⟨w1, S1, h1, ea⟩ := R.bind_eq ee
  clear ee
  cases w1 with
  | t x => cases ea
  | r n =>
    replace ea : (if live S1 n then (fa ρ S1).bind fun v S2 => match S2[n]?.bind fun c => k S2 c v with
      | some (w', c) => .ok w' (S2.set n c)
      | none => .no else .no) = R.ok w S' := ea
    split at ea
    · rename_i hl
      obtain ⟨v, S2, h2, eb⟩ := R.bind_eq ea
      clear ea
      cases hc : S2[n]? with
      | none => rw [hc] at eb; cases eb
      | some c =>
        rw [hc] at eb
        cases hk : k S2 c v with
        | none => simp [hk] at eb
        | some wc =>
          obtain ⟨w', c'⟩ := wc
          simp only [Option.bind_some, hk] at eb
          cases eb
          refine wpe (pe_bm PySem.F.plainAttrs_list slot hty m1 peW (pa_cons peW pa_nil hs) hbase hfew hline hs) ?_
          refine ho σ H ρ S F μ _ S1 _ h hs' h1 fun vo H1 F1 μ1 r1 g1 q1 => ?_
          obtain ⟨p, hp, rfl⟩ := q1
          obtain ⟨vs, hv⟩ := live_list r1 hl hp
          refine ⟨.inl ⟨rfl, vs, SqL.of hv⟩, ?_⟩
          refine ha σ H1 ρ S1 F1 μ1 v S2 _ r1 (hs'.gr g1) h2 fun va H2 F2 μ2 r2 g2 q2 => ?_
          have hp2 := pre_get g2.pre hp
          refine m2 H2 S2 F2 μ2 n p c v va w c' Q r2 hc hp2 q2 hk fun v' ob hC hW => ?_
          obtain ⟨r3, g3⟩ := r2.put hc (hnd _ _ _ _ hk) hp2 hC
          exact hQ v' _ F2 μ2 r3 ((g1.trans g2).trans g3) hW
    · cases ea
theorem de_m0 {k : Cell → Option (W × Cell)} (slot : Slot "list" name id) (hty : typeOf (.builtin id) = pure (.type "method_descriptor")) (hm : MtC0 X id k) (hnd : ∀ c x, k c = some x → c.can = true) (ho : DE X o fo)
    (hbase : attributeBase o name X.env (eval o X.env) = eval o X.env := by rfl) (hline : (apos.endLine == cpos.line) = true := by rfl) :
    DE X (.Call (.Attribute o name apos) [] [] cpos) (eM0 k fo) := by
  obtain ⟨r, m1, m2⟩ := hm
  intro σ H ρ S F μ w S' Q h hs' ee hQ
  obtain ⟨w1, S1, h1, ea⟩ := R.bind_eq ee
  clear ee
  cases w1 with
  | t x => cases ea
  | r n =>
    replace ea : (if live S1 n then (match S1[n]?.bind k with
      | some (w', c) => .ok w' (S1.set n c)
      | none => .no) else .no) = R.ok w S' := ea
    split at ea
    · rename_i hl
      cases hc : S1[n]? with
      | none => rw [hc] at ea; cases ea
      | some c =>
        rw [hc] at ea
        cases hk : k c with
        | none => simp [hk] at ea
        | some wc =>
          obtain ⟨w', c'⟩ := wc
          simp only [Option.bind_some, hk] at ea
          cases ea
          refine wpe (pe_bm0 PySem.F.plainAttrs_list slot hty m1 peW hbase hline) ?_
          refine ho σ H ρ S F μ _ S1 _ h hs' h1 fun vo H1 F1 μ1 r1 g1 q1 => ?_
          obtain ⟨p, hp, rfl⟩ := q1
          obtain ⟨vs, hv⟩ := live_list r1 hl hp
          refine ⟨.inl ⟨rfl, vs, SqL.of hv⟩, ?_⟩
          refine m2 H1 S1 F1 μ1 n p c w c' Q r1 hc hp hk fun v' ob hC hW => ?_
          obtain ⟨r3, g3⟩ := r1.put hc (hnd _ _ hk) hp hC
          exact hQ v' _ F1 μ1 r3 (g1.trans g3) hW
    · cases ea
def kAppend (_ : Sto) (c : Cell) (w : W) : Option (W × Cell) := match c, w with
  | .lst xs, .t x => if xs.length < cap then some (.t .non, .lst (xs ++ [x])) else none
  | .vec ws, w => if ws.length < cap then some (.t .non, .vec (ws ++ [w])) else none
  | _, _ => none
theorem mc_append : MtC X "list.append" kAppend := by
  refine ⟨rAppend, mt_append, fun H S F μ n p c w v w' c' Q h hc hp rw' e q => ?_⟩
  have q0 := h.cell n c p hc hp
  unfold kAppend at e
  split at e
  · split at e
    · rename_i hl
      cases e
      obtain ⟨nF, vs, hv, r⟩ := q0
      refine ⟨p, vs, v, rfl, rfl, hv, by rw [← r.length, cap_eq]; exact hl, q .non _ ⟨nF, _, upd_same, r.append (.cons rw' .nil)⟩ (show Rp _ _ _ _ from .non)⟩
    · cases e
  · split at e
    · rename_i hl
      cases e
      obtain ⟨nF, vs, hv, r⟩ := q0
      refine ⟨p, vs, v, rfl, rfl, hv, by rw [← r.length, cap_eq]; exact hl, q .non _ ⟨nF, _, upd_same, r.append (.cons rw' .nil)⟩ (show Rp _ _ _ _ from .non)⟩
    · cases e
  · cases e
theorem kAppend_nd : ∀ S c w x, kAppend S c w = some x → c.can = true := by
  intro S c w x h
  cases c <;> first | rfl | (cases w <;> cases h)
/-- xs.append(e) -/
theorem de_append (ho : DE X o fo) (ha : DE X e fa) (hbase : attributeBase o "append" X.env (eval o X.env) = eval o X.env := by rfl)
    (hfew : ((backTo cpos (starEach [e] X.env)).all (fun x => !x.1) && (backToKw cpos (keywordEach [] X.env)).all (fun x => x.1.isSome)
      && decide (([e] : List Expr).length + ([] : List Keyword).length + (if ([] : List Keyword).isEmpty then 0 else 1) < 30)) = true := by rfl)
    (hline : (apos.endLine == cpos.line) = true := by rfl) (hs : starEach [e] X.env = (false, eval e X.env) :: starEach [] X.env := by rfl) :
    DE X (.Call (.Attribute o "append" apos) [e] [] cpos) (eM1 kAppend fo fa) := de_m1 PySem.F.slot_list_append PySem.F.type_list_append mc_append kAppend_nd ho ha hbase hfew hline hs
def kPop (c : Cell) : Option (W × Cell) := match c with
  | .lst xs => xs.getLast?.map fun x => (.t x, .lst xs.dropLast)
  | _ => none
theorem dropLast_rps {K : PySem.W.Frag} {F : Hp} {xs : List T} {vs : List V} (r : Rps K F xs vs) : Rps K F xs.dropLast vs.dropLast := by
  rw [List.dropLast_eq_take, List.dropLast_eq_take, r.length]
  exact r.take _
theorem mc_pop : MtC0 X "list.pop" kPop := by
  refine ⟨rPop, mt_pop, fun H S F μ n p c w' c' Q h hc hp e q => ?_⟩
  have q0 := h.cell n c p hc hp
  unfold kPop at e
  split at e
  · rename_i xs
    obtain ⟨x, hx, e2⟩ := map1 e
    cases e2
    obtain ⟨nF, vs, hv, r⟩ := q0
    rw [List.getLast?_eq_getElem?] at hx
    obtain ⟨v, h1, h2⟩ := r.get hx
    refine ⟨p, vs, v, rfl, rfl, hv, by rw [← r.length]; exact h1, q v _ ⟨nF, _, upd_same, dropLast_rps r⟩ h2⟩
  · cases e
theorem kPop_nd : ∀ c x, kPop c = some x → c.can = true := by
  intro c x h
  cases c <;> first | rfl | cases h
theorem de_pop (ho : DE X o fo) (hbase : attributeBase o "pop" X.env (eval o X.env) = eval o X.env := by rfl) (hline : (apos.endLine == cpos.line) = true := by rfl) :
    DE X (.Call (.Attribute o "pop" apos) [] [] cpos) (eM0 kPop fo) := de_m0 PySem.F.slot_list_pop PySem.F.type_list_pop mc_pop kPop_nd ho hbase hline
def kPopAt (_ : Sto) (c : Cell) (w : W) : Option (W × Cell) := match c, w with
  | .lst xs, .t (.int i) => if i.natAbs < 1000000000 then (ixN xs.length i).bind fun j => (xs[j]?).map fun x => (.t x, .lst (xs.eraseIdx j)) else none
  | _, _ => none
theorem mc_popAt : MtC X "list.pop" kPopAt := by
  refine ⟨rPopAt, mt_popAt, fun H S F μ n p c w v w' c' Q h hc hp rw' e q => ?_⟩
  have q0 := h.cell n c p hc hp
  unfold kPopAt at e
  split at e
  · rename_i xs i
    split at e
    · rename_i hb
      cases hj : ixN xs.length i with
      | none => rw [hj] at e; cases e
      | some j =>
        rw [hj] at e
        obtain ⟨x, hx, e2⟩ := map1 (show (xs[j]?).map (fun x => ((W.t x, Cell.lst (xs.eraseIdx j)) : W × Cell)) = some (w', c') from e)
        cases e2
        obtain ⟨nF, vs, hv, r⟩ := q0
        obtain ⟨u, h1, h2⟩ := r.get hx
        have rw'' : Rp X.K F (.int i) v := rw'
        cases rw''
        obtain ⟨h3, h4, h5, h6⟩ := ixN_seq hj
        exact ⟨p, vs, i, j, u, rfl, rfl, hv, by omega, by omega, by rw [← r.length]; exact h3, h1, q u _ ⟨nF, _, upd_same, r.eraseIdx j⟩ h2⟩
    · cases e
  · cases e
theorem kPopAt_nd : ∀ S c w x, kPopAt S c w = some x → c.can = true := by
  intro S c w x h
  cases c <;> first | rfl | (cases w <;> cases h)
theorem de_popAt (ho : DE X o fo) (ha : DE X e fa) (hbase : attributeBase o "pop" X.env (eval o X.env) = eval o X.env := by rfl)
    (hfew : ((backTo cpos (starEach [e] X.env)).all (fun x => !x.1) && (backToKw cpos (keywordEach [] X.env)).all (fun x => x.1.isSome)
      && decide (([e] : List Expr).length + ([] : List Keyword).length + (if ([] : List Keyword).isEmpty then 0 else 1) < 30)) = true := by rfl)
    (hline : (apos.endLine == cpos.line) = true := by rfl) (hs : starEach [e] X.env = (false, eval e X.env) :: starEach [] X.env := by rfl) :
    DE X (.Call (.Attribute o "pop" apos) [e] [] cpos) (eM1 kPopAt fo fa) := de_m1 PySem.F.slot_list_pop PySem.F.type_list_pop mc_popAt kPopAt_nd ho ha hbase hfew hline hs
def kExtend (S : Sto) (c : Cell) (w : W) : Option (W × Cell) := match c, view S w with
  | .lst xs, some (.lst ys) => if xs.length + ys.length ≤ cap then some (.t .non, .lst (xs ++ ys)) else none
  | _, _ => none
theorem mc_extend : MtC X "list.extend" kExtend := by
  refine ⟨rExtend, mt_extend, fun H S F μ n p c w v w' c' Q h hc hp rw' e q => ?_⟩
  have q0 := h.cell n c p hc hp
  unfold kExtend at e
  split at e
  · rename_i xs ys hy
    split at e
    · rename_i hl
      cases e
      obtain ⟨nF, vs, hv, r⟩ := q0
      have ry := view_rv h rw' hy
      cases ry with
      | lst ha ra =>
        exact ⟨p, _, vs, _, rfl, rfl, hv, ha, by rw [← r.length, ← ra.length, cap_eq]; exact hl, q .non _ ⟨nF, _, upd_same, r.append ra⟩ (show Rp _ _ _ _ from .non)⟩
    · cases e
  · cases e
theorem kExtend_nd : ∀ S c w x, kExtend S c w = some x → c.can = true := by
  intro S c w x h
  unfold kExtend at h
  split at h <;> first | rfl | cases h
theorem de_extend (ho : DE X o fo) (ha : DE X e fa) (hbase : attributeBase o "extend" X.env (eval o X.env) = eval o X.env := by rfl)
    (hfew : ((backTo cpos (starEach [e] X.env)).all (fun x => !x.1) && (backToKw cpos (keywordEach [] X.env)).all (fun x => x.1.isSome)
      && decide (([e] : List Expr).length + ([] : List Keyword).length + (if ([] : List Keyword).isEmpty then 0 else 1) < 30)) = true := by rfl)
    (hline : (apos.endLine == cpos.line) = true := by rfl) (hs : starEach [e] X.env = (false, eval e X.env) :: starEach [] X.env := by rfl) :
    DE X (.Call (.Attribute o "extend" apos) [e] [] cpos) (eM1 kExtend fo fa) := de_m1 PySem.F.slot_list_extend PySem.F.type_list_extend mc_extend kExtend_nd ho ha hbase hfew hline hs
/-- the first place of k -/
def placeOf (k : Int) : List Int → Option Nat
  | [] => none
  | n :: r => if n = k then some 0 else (placeOf k r).map (· + 1)
theorem placeOf_some {k : Int} : ∀ {ns : List Int} {j : Nat}, placeOf k ns = some j → ns[j]? = some k ∧ ∀ m : Nat, m < j → ns[m]? ≠ some k
  | [], j, h => by cases h
  | n :: r, j, h => by
    unfold placeOf at h
    split at h
    · rename_i e
      cases h
      exact ⟨by simp [e], fun m hm => absurd hm (Nat.not_lt_zero _)⟩
    · rename_i e
      obtain ⟨i, hi, rfl⟩ := map1 h
      obtain ⟨h1, h2⟩ := placeOf_some hi
      refine ⟨by simpa using h1, fun m hm => ?_⟩
      cases m with
      | zero => simpa using e
      | succ m => simpa using h2 m (by omega)
def kRemove (_ : Sto) (c : Cell) (w : W) : Option (W × Cell) := match c, w with
  | .lst xs, .t (.int i) => (intsOf xs).bind fun ns => (placeOf i ns).map fun j => (.t .non, .lst ((ns.eraseIdx j).map T.int))
  | _, _ => none
theorem mc_remove : MtC X "list.remove" kRemove := by
  refine ⟨rRemI, mt_remove, fun H S F μ n p c w v w' c' Q h hc hp rw' e q => ?_⟩
  have q0 := h.cell n c p hc hp
  unfold kRemove at e
  split at e
  · rename_i xs i
    cases hn : intsOf xs with
    | none => rw [hn] at e; cases e
    | some ns =>
      rw [hn] at e
      obtain ⟨j, hj, e2⟩ := map1 (show (placeOf i ns).map (fun j => ((W.t T.non, Cell.lst ((ns.eraseIdx j).map T.int)) : W × Cell)) = some (w', c') from e)
      cases e2
      obtain ⟨nF, vs, hv, r⟩ := q0
      rw [intsOf_some hn] at r
      cases r.ints_inv
      have rw'' : Rp X.K F (.int i) v := rw'
      cases rw''
      obtain ⟨h1, h2⟩ := placeOf_some hj
      exact ⟨p, ns, i, j, rfl, rfl, hv, h1, h2, q .non _ ⟨nF, _, upd_same, Rps.ints _⟩ (show Rp _ _ _ _ from .non)⟩
  · cases e
theorem kRemove_nd : ∀ S c w x, kRemove S c w = some x → c.can = true := by
  intro S c w x h
  cases c <;> first | rfl | (cases w <;> cases h)
theorem de_remove (ho : DE X o fo) (ha : DE X e fa) (hbase : attributeBase o "remove" X.env (eval o X.env) = eval o X.env := by rfl)
    (hfew : ((backTo cpos (starEach [e] X.env)).all (fun x => !x.1) && (backToKw cpos (keywordEach [] X.env)).all (fun x => x.1.isSome)
      && decide (([e] : List Expr).length + ([] : List Keyword).length + (if ([] : List Keyword).isEmpty then 0 else 1) < 30)) = true := by rfl)
    (hline : (apos.endLine == cpos.line) = true := by rfl) (hs : starEach [e] X.env = (false, eval e X.env) :: starEach [] X.env := by rfl) :
    DE X (.Call (.Attribute o "remove" apos) [e] [] cpos) (eM1 kRemove fo fa) := de_m1 PySem.F.slot_list_remove PySem.F.type_list_remove mc_remove kRemove_nd ho ha hbase hfew hline hs

/-! ### targets -/
abbrev Gx := W → Env → Sto → R Env
def DG (X : Cx) (tg : Expr) (g : Gx) : Prop := ∀ (σ : L2.St) (H : Hp) (ρ : Env) (S : Sto) (F : Hp) (μ : List Addr) (w : W) (v : V) (ρ' : Env) (S' : Sto) (Q : L2.St → Hp → Prop), Rs X.K H S F μ → RpSt X.K F μ σ ρ → RpW X.K F μ w v → g w ρ S = .ok ρ' S' →
  (∀ σ' H' F' μ', Rs X.K H' S' F' μ' → Gr H F μ H' F' μ' → RpSt X.K F' μ' σ' ρ' → Q σ' H') → WPG X tg v σ H Q
def gNm (i : Nat) : Gx := fun w ρ S => .ok (ρ.set i (some w)) S
theorem dg_name {i : Nat} {x : Str} (hN : X.N.Nodup) (hi : X.N[i]? = some x := by rfl) (hx : Loc X.env.scope x := by first | exact Or.inl rfl | exact Or.inr rfl) (hf : X.fn x = true ∨ X.env.scope.names.lookup x = some .local := by first | exact .inl rfl | exact .inr rfl) : DG X (.Name x pos) (gNm i) := by
  intro σ H ρ S F μ w v ρ' S' Q h hs rw' e hQ
  cases e
  exact wpg (pg_name hN hi hx hf) (hQ _ H F μ h Gr.refl (hs.set i rw'))
def putT (kvs : List (Key × T)) (k : Key) (x : T) : List (Key × T) := match kvs with
  | [] => [(k, x)]
  | (k', y) :: r => if k' = k then (k', x) :: r.map (fun kv => if kv.1 = k then (kv.1, x) else kv) else (k', y) :: putT r k x
theorem map_rpk {K : PySem.W.Frag} {F : Hp} {k : Key} {x : T} {v : V} (rx : Rp K F x v) : ∀ {kvs : List (Key × T)} {us : List (Key × V)}, Rpk K F kvs us → Rpk K F (kvs.map fun kv => if kv.1 = k then (kv.1, x) else kv) (us.map fun kv => if kv.1 = k then (kv.1, v) else kv)
  | _, _, .nil => .nil
  | _, _, .cons (k := k') r t => by
    rw [List.map_cons, List.map_cons]
    by_cases e : k' = k
    · rw [if_pos e, if_pos e]; exact .cons rx (map_rpk rx t)
    · rw [if_neg e, if_neg e]; exact .cons r (map_rpk rx t)
theorem putK_cons {k k' : Key} {u v : V} {r : List (Key × V)} : putK ((k', u) :: r) k v = if k' = k then (k', v) :: r.map (fun kv => if kv.1 = k then (kv.1, v) else kv) else (k', u) :: putK r k v := by
  unfold putK
  by_cases e : k' = k
  · simp [e]
  · have d : decide (((k', u) : Key × V).1 = k) = false := decide_eq_false e
    rw [List.any_cons, d, Bool.false_or, if_neg e, List.map_cons, if_neg (show ¬ ((k', u) : Key × V).1 = k from e), List.cons_append]
    split <;> rfl
theorem put_rpk {K : PySem.W.Frag} {F : Hp} {k : Key} {x : T} {v : V} (rx : Rp K F x v) : ∀ {kvs : List (Key × T)} {us : List (Key × V)}, Rpk K F kvs us → Rpk K F (putT kvs k x) (putK us k v)
  | _, _, .nil => .cons rx .nil
  | _, _, .cons (k := k') r t => by
    rw [putK_cons]
    unfold putT
    by_cases e : k' = k
    · rw [if_pos e, if_pos e]; exact .cons rx (map_rpk rx t)
    · rw [if_neg e, if_neg e]; exact .cons r (put_rpk rx t)
/-- a cell with one place or key written -/
def Cell.put (c : Cell) (y : T) (w : W) : Option Cell := match c, y, w with
  | .lst xs, .int i, .t x => (ixN xs.length i).map fun j => .lst (xs.set j x)
  | .vec ws, .int i, w => (ixN ws.length i).map fun j => .vec (ws.set j w)
  | .dic kvs, k, .t x => if kvs.length < cap then (keyOf k).map fun k => .dic (putT kvs k x) else none
  | _, _, _ => none
def gSubD (fo fi : Ex) : Gx := fun w ρ S => (fo ρ S).bind fun wo S1 => (fi ρ S1).bind fun wi S2 => match wo with
  | .r n => (match (view S2 wi).bind fun y => S2[n]?.bind fun c => c.put y w with
    | some c => .ok ρ (S2.set n c)
    | none => .no)
  | .t _ => .no
theorem psetOr {t t' : TSet} (h : PSet X t) (h' : PSet X t') : PSet X (fun o i v H Q => t o i v H Q ∨ t' o i v H Q) := by
  intro pins s σ H o i v ov iv u Q I r1 r2 r3 q
  rcases q with q | q
  · exact h pins s σ H o i v ov iv u Q I r1 r2 r3 q
  · exact h' pins s σ H o i v ov iv u Q I r1 r2 r3 q
def rSetA : TSet := fun o i v H Q => rSetL o i v H Q ∨ rSetD o i v H Q
/-- the store, by the cell -/
theorem put_run {H F : Hp} {S : Sto} {μ : List Addr} {n : Nat} {p : Addr} {c c' : Cell} {w : W} {v vi : V} {y : T} {Q : Hp → Prop} (h : Rs X.K H S F μ) (hc : S[n]? = some c) (hp : μ[n]? = some p) (rv : RpW X.K F μ w v) (ri : Rv X.K H F y vi) (e : c.put y w = some c')
    (q : ∀ o, RpC X.K (upd H p o) F μ p c' → Q (upd H p o)) : rSetA (.ref p) vi v H Q := by
  have q0 := h.cell n c p hc hp
  unfold Cell.put at e
  split at e
  · obtain ⟨j, hj, rfl⟩ := map1 e
    obtain ⟨nF, vs, hv, r⟩ := q0
    cases ri
    exact .inl ⟨p, vs, _, j, rfl, rfl, hv, by rw [← r.length]; exact hj, q _ ⟨nF, _, upd_same, r.set rv j⟩⟩
  · obtain ⟨j, hj, rfl⟩ := map1 e
    obtain ⟨nF, vs, hv, r⟩ := q0
    cases ri
    exact .inl ⟨p, vs, _, j, rfl, rfl, hv, by rw [← r.length]; exact hj, q _ ⟨nF, _, upd_same, r.set rv j⟩⟩
  · split at e
    · rename_i hl
      obtain ⟨k, hk, rfl⟩ := map1 e
      obtain ⟨nF, us, hv, r⟩ := q0
      refine .inr ⟨p, _, rfl, ?_, q _ ⟨nF, _, upd_same, put_rpk rv r⟩⟩
      rw [key_rv ri hk]
      exact DPut.k hv (by rw [← r.length, cap_eq]; exact hl)
    · cases e
  · cases e
theorem put_nd {c c' : Cell} {y : T} {w : W} (h : c.put y w = some c') : c.can = true := by
  cases c <;> first | rfl | (cases y <;> cases w <;> cases h)
theorem dg_sub {k : Nat} {i : Expr} {fi : Ex} (hr : RoomG k X.A) (ho : DE X o fo) (hi : DE X i fi)
    (ha : ∀ v, assign (.Subscript o i pos) X.env v = (do
      let ov ← holding [v] (eval o X.env)
      let iv ← holding [v, ov] (eval i X.env)
      standAt pos
      holding [v, ov, iv] (setItem ov iv v)
      release [v, ov, iv] []) := by intro _; rfl) : DG X (.Subscript o i pos) (gSubD fo fi) := by
  intro σ H ρ S F μ w v ρ' S' Q h hs rw' ee hQ
  obtain ⟨wo, S1, h1, ea⟩ := R.bind_eq ee
  clear ee
  obtain ⟨wi, S2, h2, eb⟩ := R.bind_eq ea
  clear ea
  cases wo with
  | t _ => cases eb
  | r n =>
    cases hy : view S2 wi with
    | none => simp [hy] at eb
    | some y =>
      cases hc : S2[n]? with
      | none => simp [hy, hc] at eb
      | some c =>
        cases hk : c.put y w with
        | none => simp [hy, hc, hk] at eb
        | some c' =>
          simp only [hy, hc, hk, Option.bind_some] at eb
          cases eb
          refine wpg (pg_sub peW peW (psetOr set_list (set_dict (hu_of hr.toRoom))) ha) ?_
          refine ho σ H ρ S F μ _ S1 _ h hs h1 fun vo H1 F1 μ1 r1 g1 q1 => ?_
          refine hi σ H1 ρ S1 F1 μ1 wi S2 _ r1 (hs.gr g1) h2 fun vi H2 F2 μ2 r2 g2 q2 => ?_
          obtain ⟨p, hp, rfl⟩ := q1.gr g2
          refine put_run r2 hc hp ((rw'.gr g1).gr g2) (view_rv r2 q2 hy) hk fun ob hC => ?_
          obtain ⟨r3, g3⟩ := r2.put hc (put_nd hk) hp hC
          exact hQ σ _ F2 μ2 r3 ((g1.trans g2).trans g3) ((hs.gr g1).gr g2)
end
end Dl

/-! Dl6: patterns, what is walked, statements, loops, comprehensions. -/
namespace Dl
open PySem PySem.Spec PyProof.Rows L2

inductive Pat where
  | nm (i : Nat) | tp (ps : List Pat)
inductive Item where
  | one (w : W) | tp (ws : List W)
mutual
def Pat.slots : Pat → List Nat
  | .nm i => [i]
  | .tp ps => Pat.slotsAll ps
def Pat.slotsAll : List Pat → List Nat
  | [] => []
  | p :: ps => p.slots ++ Pat.slotsAll ps
end
mutual
def bindW : Pat → W → Env → Option Env
  | .nm i, w, ρ => some (ρ.set i (some w))
  | .tp ps, .t (.tup xs), ρ => bindWs ps (xs.map W.t) ρ
  | .tp _, _, _ => none
def bindWs : List Pat → List W → Env → Option Env
  | [], [], ρ => some ρ
  | p :: ps, w :: ws, ρ => (bindW p w ρ).bind fun ρ1 => bindWs ps ws ρ1
  | _, _, _ => none
end
def bindI (p : Pat) (it : Item) (ρ : Env) : Option Env := match it, p with
  | .one w, p => bindW p w ρ
  | .tp ws, .tp ps => bindWs ps ws ρ
  | .tp ws, .nm i => (toTs ws).map fun xs => ρ.set i (some (.t (.tup xs)))
def Agree (is : List Nat) (σ σ' : L2.St) : Prop := σ'.length = σ.length ∧ ∀ j, j ∉ is → σ'[j]? = σ[j]?
theorem Agree.refl (is : List Nat) (σ : L2.St) : Agree is σ σ := ⟨rfl, fun _ _ => rfl⟩
def WPGs (X : Cx) (ts : List Expr) (vs : List V) (σ : L2.St) (H : Hp) (Q : L2.St → Hp → Prop) : Prop := ∀ (pins : List (Addr × Obj)) (s : Shared) (us : List Value), Inv X pins σ H s → Vals vs us →
  wpAny (model X.prog X.w) X.A (assignInOrder ((assignEach ts X.env).map (·.2)) us) (fun _ s' => ∃ σ' H', Inv X pins σ' H' s' ∧ Q σ' H') X.xe s
section
variable {X : Cx}
theorem pgsW {ts : List Expr} : PGs X ts (WPGs X ts) := ⟨fun pins s _ _ _ us _ I r h => h pins s us I r⟩
theorem wpgs {ts : List Expr} {t : TGs} {vs : List V} {σ : L2.St} {H : Hp} {Q : L2.St → Hp → Prop} (h : PGs X ts t) (q : t vs σ H Q) : WPGs X ts vs σ H Q := fun pins s us I r => h.run pins s σ H vs us Q I r q
def DPat (X : Cx) (tg : Expr) (p : Pat) : Prop := ∀ (σ : L2.St) (H : Hp) (ρ : Env) (S : Sto) (F : Hp) (μ : List Addr) (w : W) (v : V) (ρ' : Env) (Q : L2.St → Hp → Prop), Rs X.K H S F μ → RpSt X.K F μ σ ρ → RpW X.K F μ w v → bindW p w ρ = some ρ' →
  (∀ σ', RpSt X.K F μ σ' ρ' → Agree p.slots σ σ' → Q σ' H) → WPG X tg v σ H Q
def DPats (X : Cx) (ts : List Expr) (ps : List Pat) : Prop := ∀ (σ : L2.St) (H : Hp) (ρ : Env) (S : Sto) (F : Hp) (μ : List Addr) (ws : List W) (vs : List V) (ρ' : Env) (Q : L2.St → Hp → Prop), Rs X.K H S F μ → RpSt X.K F μ σ ρ → RpWs X.K F μ ws vs → bindWs ps ws ρ = some ρ' →
  (∀ σ', RpSt X.K F μ σ' ρ' → Agree (Pat.slotsAll ps) σ σ' → Q σ' H) → WPGs X ts vs σ H Q
variable {pos : Pos} {tg e : Expr} {ts : List Expr} {p : Pat} {ps : List Pat}
theorem dp_name {i : Nat} {x : Str} (hN : X.N.Nodup) (hi : X.N[i]? = some x := by rfl) (hx : Loc X.env.scope x := by first | exact Or.inl rfl | exact Or.inr rfl) (hf : X.fn x = true ∨ X.env.scope.names.lookup x = some .local := by first | exact .inl rfl | exact .inr rfl) : DPat X (.Name x pos) (.nm i) := by
  intro σ H ρ S F μ w v ρ' Q h hs rw' e hQ
  simp only [bindW, Option.some.injEq] at e
  subst e
  refine wpg (pg_name hN hi hx hf) (hQ _ (hs.set i rw') ⟨by simp, fun j hj => ?_⟩)
  rw [List.getElem?_set_ne]
  simp only [Pat.slots, List.mem_singleton] at hj
  omega
theorem dps_nil : DPats X [] [] := by
  intro σ H ρ S F μ ws vs ρ' Q h hs rw' e hQ
  cases rw' with
  | nil =>
    simp only [bindWs, Option.some.injEq] at e
    subst e
    exact wpgs pgs_nil ⟨rfl, hQ σ hs (Agree.refl _ _)⟩
  | cons _ _ => simp [bindWs] at e
theorem dps_cons (h1 : DPat X tg p) (h2 : DPats X ts ps) (hst : (assignEach (tg :: ts) X.env).map (·.2) = assign tg X.env :: (assignEach ts X.env).map (·.2) := by rfl) : DPats X (tg :: ts) (p :: ps) := by
  intro σ H ρ S F μ ws vs ρ' Q h hs rw' e hQ
  cases rw' with
  | nil => simp [bindWs] at e
  | cons r t =>
    rename_i w v ws vs
    have e : (bindW p w ρ).bind (fun ρ1 => bindWs ps ws ρ1) = some ρ' := by simpa [bindWs] using e
    cases q : bindW p w ρ with
    | none => rw [q] at e; cases e
    | some ρ1 =>
      rw [q] at e
      refine wpgs (pgs_cons pgW pgsW hst) ⟨v, vs, rfl, h1 σ H ρ S F μ w v ρ1 _ h hs r q fun σ1 s1 a1 => ?_⟩
      refine h2 σ1 H ρ1 S F μ ws vs ρ' Q h s1 t e fun σ2 s2 a2 => hQ σ2 s2 ⟨a2.1.trans a1.1, fun j hj => ?_⟩
      simp only [Pat.slotsAll, List.mem_append, not_or] at hj
      rw [a2.2 j hj.2, a1.2 j hj.1]
theorem tup_run {k n : Nat} (hc : X.calm = true) (h : DPats X ts ps) (hn : (assignEach ts X.env).length = n) (hst : (assignEach ts X.env).findIdx? (·.1) = none) (hl : ps.length = n) {σ : L2.St} {H : Hp} {ρ : Env} {S : Sto} {F : Hp} {μ : List Addr} {ws : List W} {vs : List V} {a : Addr} {ρ' : Env} {Q : L2.St → Hp → Prop}
    (h0 : Rs X.K H S F μ) (hs : RpSt X.K F μ σ ρ) (ha : SqT X.K H a vs) (rw' : RpWs X.K F μ ws vs) (e : bindWs ps ws ρ = some ρ') (hQ : ∀ σ', RpSt X.K F μ σ' ρ' → Agree (Pat.slotsAll ps) σ σ' → Q σ' H) : WPG X (.Tuple ts k pos) (.ref a) σ H Q := by
  have len : ∀ (ps : List Pat) (ws : List W) (ρ ρ' : Env), bindWs ps ws ρ = some ρ' → ps.length = ws.length := by
    intro ps
    induction ps with
    | nil => intro ws ρ ρ' e; cases ws with
      | nil => rfl
      | cons _ _ => simp [bindWs] at e
    | cons p ps ih => intro ws ρ ρ' e; cases ws with
      | nil => simp [bindWs] at e
      | cons w ws =>
        have e : (bindW p w ρ).bind (fun ρ1 => bindWs ps ws ρ1) = some ρ' := by simpa [bindWs] using e
        cases q : bindW p w ρ with
        | none => rw [q] at e; cases e
        | some ρ1 => rw [q] at e; rw [List.length_cons, List.length_cons, ih _ _ _ e]
  refine wpg (pg_tup hc pgsW hn hst) ⟨a, vs, rfl, ha, ?_, h σ H ρ S F μ ws vs ρ' Q h0 hs rw' e hQ⟩
  rw [← rw'.length, ← len _ _ _ _ e, hl]
theorem dp_tup {k n : Nat} (hc : X.calm = true) (h : DPats X ts ps) (hn : (assignEach ts X.env).length = n := by rfl) (hst : (assignEach ts X.env).findIdx? (·.1) = none := by rfl) (hl : ps.length = n := by rfl) : DPat X (.Tuple ts k pos) (.tp ps) := by
  intro σ H ρ S F μ w v ρ' Q h0 hs rw' e hQ
  cases w with
  | r _ => simp [bindW] at e
  | t x =>
    cases x with
    | tup xs =>
      have e : bindWs ps (xs.map W.t) ρ = some ρ' := by simpa [bindW] using e
      have rw' : Rp X.K F (.tup xs) v := rw'
      cases rw' with
      | tup a r => exact tup_run hc h hn hst hl h0 hs (Same.sqT h0.sub a) (RpWs.of_trees r) e fun σ' s' a' => hQ σ' s' a'
    | _ => simp [bindW] at e
/-- what a walk hands over, H0 the heap ahead of it -/
def VI (K : PySem.W.Frag) (H0 H F : Hp) (μ : List Addr) (it : Item) (v : V) : Prop := match it with
  | .one w => RpW K F μ w v
  | .tp ws => ∃ a vs, v = .ref a ∧ H0 a = none ∧ H a = some (.tup vs) ∧ RpWs K F μ ws vs
def DItem (X : Cx) (tg : Expr) (p : Pat) : Prop := ∀ (σ : L2.St) (H0 H : Hp) (ρ : Env) (S : Sto) (F : Hp) (μ : List Addr) (it : Item) (v : V) (ρ' : Env) (Q : L2.St → Hp → Prop), Rs X.K H0 S F μ → Rs X.K H S F μ → Gr H0 F μ H F μ → RpSt X.K F μ σ ρ → VI X.K H0 H F μ it v → bindI p it ρ = some ρ' →
  (∀ σ' F', Rs X.K H S F' μ → Gr H0 F μ H F' μ → RpSt X.K F' μ σ' ρ' → Agree p.slots σ σ' → Q σ' H) → WPG X tg v σ H Q
theorem Gr.frz {H0 H F F' : Hp} {μ μ' : List Addr} {a : Addr} {o : HO} (g : Gr H0 F μ H F' μ') (ha : H0 a = none) (hF : F' a = none) : Gr H0 F μ H (upd F' a o) μ' :=
  ⟨fun b u e => by
    have q := g.same b u e
    rw [upd_ne (ne_of_none q hF)]; exact q, g.pre, fun b u h1 h2 h3 => by
    obtain ⟨q1, q2, q3⟩ := g.keep b u h1 h2 h3
    exact ⟨q1, by rw [upd_ne (ne_of_none h1 ha)]; exact q2, q3⟩, g.lk⟩
theorem Gr.updH {H0 H F F' : Hp} {μ μ' : List Addr} {a : Addr} {o : HO} (g : Gr H0 F μ H F' μ') (ha : H0 a = none) : Gr H0 F μ (upd H a o) F' μ' :=
  ⟨g.same, g.pre, fun b u h1 h2 h3 => by
    obtain ⟨q1, q2, q3⟩ := g.keep b u h1 h2 h3
    exact ⟨by rw [upd_ne (ne_of_none h1 ha)]; exact q1, q2, q3⟩, fun b o' u e => by rw [upd_ne (ne_of_none e ha)]; exact g.lk b o' u e⟩
theorem di_name {i : Nat} {x : Str} (hN : X.N.Nodup) (hi : X.N[i]? = some x := by rfl) (hx : Loc X.env.scope x := by first | exact Or.inl rfl | exact Or.inr rfl) (hf : X.fn x = true ∨ X.env.scope.names.lookup x = some .local := by first | exact .inl rfl | exact .inr rfl) : DItem X (.Name x pos) (.nm i) := by
  intro σ H0 H ρ S F μ it v ρ' Q h0 h g hs hv e hQ
  cases it with
  | one w => exact dp_name hN hi hx hf σ H ρ S F μ w v ρ' Q h hs hv e fun σ' s' a' => hQ σ' F h g s' a'
  | tp ws =>
    obtain ⟨a, vs, rfl, n0, ha, r⟩ := hv
    obtain ⟨xs, hx', rfl⟩ := map1 (show (toTs ws).map (fun xs => ρ.set i (some (W.t (.tup xs)))) = some ρ' from e)
    have := toTs_some hx'
    subst this
    have nF := h0.notF n0
    have nM := h0.notM n0
    have sm : Same F (upd F a (.tup vs)) := fun b u e => by rw [upd_ne (ne_of_none e nF)]; exact e
    refine wpg (pg_name hN hi hx hf) (hQ _ (upd F a (.tup vs)) (h.freeze ha nF nM) (g.frz n0 nF) ((hs.mono sm ⟨[], by simp⟩).set i (show Rp _ _ _ _ from .tup (SqT.of upd_same) (r.trees.mono sm))) ⟨by simp, fun j hj => ?_⟩)
    rw [List.getElem?_set_ne]
    simp only [Pat.slots, List.mem_singleton] at hj
    omega
theorem di_tup {k n : Nat} (hc : X.calm = true) (h : DPats X ts ps) (hn : (assignEach ts X.env).length = n := by rfl) (hst : (assignEach ts X.env).findIdx? (·.1) = none := by rfl) (hl : ps.length = n := by rfl) : DItem X (.Tuple ts k pos) (.tp ps) := by
  intro σ H0 H ρ S F μ it v ρ' Q h0 h1 g hs hv e hQ
  cases it with
  | one w => exact dp_tup hc h hn hst hl σ H ρ S F μ w v ρ' Q h1 hs hv e fun σ' s' a' => hQ σ' F h1 g s' a'
  | tp ws =>
    obtain ⟨a, vs, rfl, n0, ha, r⟩ := hv
    exact tup_run hc h hn hst hl h1 hs (SqT.of ha) r e fun σ' s' a' => hQ σ' F h1 g s' a'

/-! ### equality of trees, as a test -/
mutual
def beqT : T → T → Bool
  | .non, .non => true
  | .bl a, .bl b => a == b
  | .int i, .int j => decide (i = j)
  | .str x, .str y => decide (x = y)
  | .tup xs, .tup ys => beqTs xs ys
  | .lst xs, .lst ys => beqTs xs ys
  | .dct xs, .dct ys => beqKs xs ys
  | .scr xs, .scr ys => decide (xs = ys)
  | _, _ => false
def beqTs : List T → List T → Bool
  | [], [] => true
  | x :: xs, y :: ys => beqT x y && beqTs xs ys
  | _, _ => false
def beqKs : List (Key × T) → List (Key × T) → Bool
  | [], [] => true
  | (k, x) :: xs, (k', y) :: ys => decide (k = k') && beqT x y && beqKs xs ys
  | _, _ => false
end
mutual
theorem beqT_eq : ∀ {x y : T}, beqT x y = true → x = y
  | .non, y, h => by cases y <;> first | rfl | (simp [beqT] at h)
  | .bl a, y, h => by cases y <;> first | (simp [beqT] at h; rw [h]; done) | (simp [beqT] at h)
  | .int a, y, h => by cases y <;> first | (simp [beqT] at h; rw [h]; done) | (simp [beqT] at h)
  | .str a, y, h => by cases y <;> first | (simp [beqT] at h; rw [h]; done) | (simp [beqT] at h)
  | .scr a, y, h => by cases y <;> first | (simp [beqT] at h; rw [h]; done) | (simp [beqT] at h)
  | .tup xs, y, h => by
    cases y with
    | tup ys => simp only [beqT] at h; rw [beqTs_eq h]
    | _ => simp [beqT] at h
  | .lst xs, y, h => by
    cases y with
    | lst ys => simp only [beqT] at h; rw [beqTs_eq h]
    | _ => simp [beqT] at h
  | .dct xs, y, h => by
    cases y with
    | dct ys => simp only [beqT] at h; rw [beqKs_eq h]
    | _ => simp [beqT] at h
theorem beqTs_eq : ∀ {xs ys : List T}, beqTs xs ys = true → xs = ys
  | [], [], _ => rfl
  | [], _ :: _, h => by simp [beqTs] at h
  | _ :: _, [], h => by simp [beqTs] at h
  | x :: xs, y :: ys, h => by
    simp only [beqTs, Bool.and_eq_true] at h
    rw [beqT_eq h.1, beqTs_eq h.2]
theorem beqKs_eq : ∀ {xs ys : List (Key × T)}, beqKs xs ys = true → xs = ys
  | [], [], _ => rfl
  | [], _ :: _, h => by simp [beqKs] at h
  | _ :: _, [], h => by simp [beqKs] at h
  | (k, x) :: xs, (k', y) :: ys, h => by
    simp only [beqKs, Bool.and_eq_true, decide_eq_true_eq] at h
    rw [h.1.1, beqT_eq h.1.2, beqKs_eq h.2]
end
mutual
theorem beqT_self : ∀ x : T, beqT x x = true
  | .non => by simp [beqT]
  | .bl _ => by simp [beqT]
  | .int _ => by simp [beqT]
  | .str _ => by simp [beqT]
  | .scr _ => by simp [beqT]
  | .tup xs => by simp only [beqT]; exact beqTs_self xs
  | .lst xs => by simp only [beqT]; exact beqTs_self xs
  | .dct xs => by simp only [beqT]; exact beqKs_self xs
theorem beqTs_self : ∀ xs : List T, beqTs xs xs = true
  | [] => by simp [beqTs]
  | x :: xs => by simp only [beqTs, Bool.and_eq_true]; exact ⟨beqT_self x, beqTs_self xs⟩
theorem beqKs_self : ∀ xs : List (Key × T), beqKs xs xs = true
  | [] => by simp [beqKs]
  | (k, x) :: xs => by simp only [beqKs, Bool.and_eq_true, decide_eq_true_eq]; exact ⟨⟨trivial, beqT_self x⟩, beqKs_self xs⟩
end
def beqW : W → W → Bool
  | .t x, .t y => beqT x y
  | .r m, .r n => decide (m = n)
  | _, _ => false
def beqWs : List W → List W → Bool
  | [], [] => true
  | x :: xs, y :: ys => beqW x y && beqWs xs ys
  | _, _ => false
theorem beqW_eq {x y : W} (h : beqW x y = true) : x = y := by
  cases x <;> cases y <;> simp [beqW] at h
  · rw [beqT_eq h]
  · rw [h]
theorem beqWs_eq : ∀ {xs ys : List W}, beqWs xs ys = true → xs = ys
  | [], [], _ => rfl
  | [], _ :: _, h => by simp [beqWs] at h
  | _ :: _, [], h => by simp [beqWs] at h
  | x :: xs, y :: ys, h => by
    simp only [beqWs, Bool.and_eq_true] at h
    rw [beqW_eq h.1, beqWs_eq h.2]
theorem beqW_self (x : W) : beqW x x = true := by
  cases x
  · exact beqT_self _
  · simp [beqW]
theorem beqWs_self : ∀ xs : List W, beqWs xs xs = true
  | [] => rfl
  | x :: xs => by simp only [beqWs, Bool.and_eq_true]; exact ⟨beqW_self x, beqWs_self xs⟩
def sameL (xs : List T) : Option Cell → Bool
  | some (.lst ys) => beqTs ys xs
  | _ => false
def sameV (xs : List W) : Option Cell → Bool
  | some (.vec ys) => beqWs ys xs
  | _ => false
theorem sameL_eq {xs : List T} {c : Option Cell} (h : sameL xs c = true) : c = some (.lst xs) := by
  unfold sameL at h
  split at h
  · rw [beqTs_eq h]
  · cases h
theorem sameV_eq {xs : List W} {c : Option Cell} (h : sameV xs c = true) : c = some (.vec xs) := by
  unfold sameV at h
  split at h
  · rw [beqWs_eq h]
  · cases h
theorem sameL_self (xs : List T) : sameL xs (some (.lst xs)) = true := beqTs_self xs
theorem sameV_self (xs : List W) : sameV xs (some (.vec xs)) = true := beqWs_self xs

/-! ### what is walked -/
/-- the items, and what must stand while they are walked -/
structure Walked where
  l : List Item
  g : Sto → Bool
abbrev Srcx := Env → Sto → R Walked
def gTrue : Sto → Bool := fun _ => true
structure Wk (K : PySem.W.Frag) (J : It) (its : Walked) (H F : Hp) (μ : List Addr) : Prop where
  goes : ∀ (H2 : Hp) (S2 : Sto) (F2 : Hp) (μ2 : List Addr) (i : Nat), Rs K H2 S2 F2 μ2 → Gr H F μ H2 F2 μ2 → its.g S2 = true → i < its.l.length → J.go i H2
  stop : ∀ (H2 : Hp) (S2 : Sto) (F2 : Hp) (μ2 : List Addr), Rs K H2 S2 F2 μ2 → Gr H F μ H2 F2 μ2 → its.g S2 = true → J.stop its.l.length H2
  yld : ∀ (H2 : Hp) (S2 : Sto) (F2 : Hp) (μ2 : List Addr) (i : Nat) (it : Item) (x : V) (H3 : Hp), Rs K H2 S2 F2 μ2 → Gr H F μ H2 F2 μ2 → its.g S2 = true → its.l[i]? = some it → J.yld i H2 x H3 → Rs K H3 S2 F2 μ2 ∧ Gr H2 F2 μ2 H3 F2 μ2 ∧ VI K H2 H3 F2 μ2 it x
def WPI (X : Cx) (tg iter : Expr) (σ : L2.St) (H : Hp) (R : It → Hp → Prop) : Prop := ∀ (pins : List (Addr × Obj)) (s : Shared), Inv X pins σ H s →
  wpAny (model X.prog X.w) X.A (eval iter X.env) (fun v s1 => wpAny (model X.prog X.w) X.A (pyIter v) (PIE X pins σ tg R) X.xe s1) X.xe s
theorem piW {iter : Expr} : PI X tg iter (WPI X tg iter) := ⟨fun pins s _ _ _ I h => h pins s I⟩
theorem wpi {iter : Expr} {t : TI} {σ : L2.St} {H : Hp} {R : It → Hp → Prop} (h : PI X tg iter t) (q : t σ H R) : WPI X tg iter σ H R := fun pins s I => h.run pins s σ H R I q
def DI (X : Cx) (tg iter : Expr) (src : Srcx) : Prop := ∀ (σ : L2.St) (H : Hp) (ρ : Env) (S : Sto) (F : Hp) (μ : List Addr) (its : Walked) (S' : Sto) (R' : It → Hp → Prop), Rs X.K H S F μ → RpSt X.K F μ σ ρ → src ρ S = .ok its S' →
  (∀ J H' F' μ', Rs X.K H' S' F' μ' → Gr H F μ H' F' μ' → Wk X.K J its H' F' μ' → its.g S' = true → R' J H') → WPI X tg iter σ H R'
variable {iter a b : Expr} {fa fb f : Ex} {fs : Exs} {es : List Expr}
/-- a list or a tuple -/
inductive SK where
  | l | t
def SqK (k : SK) (K : PySem.W.Frag) (H : Hp) (a : Addr) (vs : List V) : Prop := match k with
  | .l => SqL K H a vs
  | .t => SqT K H a vs
/-- the words of a list, of a tuple -/
def cont (S : Sto) : W → Option (SK × List W × (Sto → Bool))
  | .t (.lst xs) => some (.l, xs.map W.t, gTrue)
  | .t (.tup xs) => some (.t, xs.map W.t, gTrue)
  | .t (.scr ns) => some (.l, ns.map fun n => .t (.int n), gTrue)
  | .r n => match S[n]? with
    | some (.lst xs) => some (.l, xs.map W.t, fun S' => sameL xs S'[n]?)
    | some (.vec ws) => some (.l, ws, fun S' => sameV ws S'[n]?)
    | _ => none
  | _ => none
structure SeqAt (k : SK) (K : PySem.W.Frag) (ws : List W) (g : Sto → Bool) (F : Hp) (μ : List Addr) (a : Addr) : Prop where
  at_ : ∀ (H2 : Hp) (S2 : Sto) (F2 : Hp) (μ2 : List Addr), Rs K H2 S2 F2 μ2 → Same F F2 → (∃ ν, μ2 = μ ++ ν) → g S2 = true → ∃ vs, SqK k K H2 a vs ∧ RpWs K F2 μ2 ws vs
theorem cont_seq {K : PySem.W.Frag} {H F : Hp} {S : Sto} {μ : List Addr} {w : W} {v : V} {k : SK} {ws : List W} {g : Sto → Bool} (r : RpW K F μ w v) (e : cont S w = some (k, ws, g)) : (∃ a, v = .ref a ∧ SeqAt k K ws g F μ a) ∧ g S = true := by
  unfold cont at e
  split at e
  · cases e
    have r : Rp K F (.lst _) v := r
    cases r with
    | lst hv rs => exact ⟨⟨_, rfl, ⟨fun H2 S2 F2 μ2 r2 s p _ => ⟨_, SqL.of (r2.sub _ _ (s _ _ hv)), RpWs.of_trees (rs.mono s)⟩⟩⟩, rfl⟩
  · cases e
    have r : Rp K F (.tup _) v := r
    cases r with
    | tup hv rs => exact ⟨⟨_, rfl, ⟨fun H2 S2 F2 μ2 r2 s p _ => ⟨_, Same.sqT (s.trans r2.sub) hv, RpWs.of_trees (rs.mono s)⟩⟩⟩, rfl⟩
  · cases e
    have r : Rp K F (.scr _) v := r
    cases r with
    | scr hv =>
      refine ⟨⟨_, rfl, ⟨fun H2 S2 F2 μ2 r2 s p _ => ⟨_, (s.trans r2.sub).seq hv, ?_⟩⟩⟩, rfl⟩
      have := RpWs.of_trees (K := K) (F := F2) (μ := μ2) (Rps.ints (K := K) (F := F2) ‹List Int›)
      rw [List.map_map] at this
      exact this
  · rename_i n
    obtain ⟨p, hp, rfl⟩ := r
    split at e
    · rename_i xs hc
      cases e
      refine ⟨⟨p, rfl, ⟨fun H2 S2 F2 μ2 r2 s pr hg => ?_⟩⟩, by show sameL xs S[n]? = true; rw [hc]; exact sameL_self xs⟩
      obtain ⟨_, vs, hv, r⟩ := r2.cell n _ p (sameL_eq hg) (pre_get pr hp)
      exact ⟨vs, SqL.of hv, RpWs.of_trees r⟩
    · rename_i xs hc
      cases e
      refine ⟨⟨p, rfl, ⟨fun H2 S2 F2 μ2 r2 s pr hg => ?_⟩⟩, by show sameV _ S[n]? = true; rw [hc]; exact sameV_self _⟩
      obtain ⟨_, vs, hv, r⟩ := r2.cell n _ p (sameV_eq hg) (pre_get pr hp)
      exact ⟨vs, SqL.of hv, r⟩
    · cases e
  · cases e
def ItK (k : SK) (K : PySem.W.Frag) (a : Addr) : It := match k with
  | .l => Itl K a
  | .t => Itt K a
def iSeq (K : PySem.W.Frag) (tl : TE) : TI := fun σ H R => tl σ H fun x H1 => ∃ a k, x = .ref a ∧ (∃ xs, SqK k K H1 a xs) ∧ R (ItK k K a) H1
theorem pi_seq {l : Expr} {tl : TE} (hl : PE X l tl) : PI X tg l (iSeq X.K tl) := by
  refine ⟨fun pins s σ H R I h => ?_⟩
  refine thn (hl.run pins s σ H _ I h) fun v s1 ⟨x, H1, I1, r1, q1⟩ => ?_
  obtain ⟨a, k, e, ⟨xs, hq⟩, q⟩ := q1
  subst e
  cases r1
  cases k with
  | l =>
    obtain ⟨its, rv, p, hz⟩ := I1.list hq
    refine wpAny_pyIter_list p.isList ?_
    refine ⟨s1.heap.objs.size, [s1.heap.objs.size], _, _, H1, rfl, I1.kept (t' := s1.toks) fun b o e => Heap.get?_push_of_some _ e, turn_list a _, ⟨_, Heap.get?_push_size _ rfl, rfl, rfl⟩, fun b hb => ?_, q⟩
    have e : b = s1.heap.objs.size := by simpa using hb
    subst e
    exact I1.fpOk (Nat.le_refl _) (I1.hok.fresh (Nat.le_refl _))
  | t =>
    obtain ⟨its, rv, p, hz⟩ := I1.tuple hq
    refine wpAny_pyIter_tuple (show s1.heap.IsTuple a its.toArray from p) ?_
    refine ⟨s1.heap.objs.size, [s1.heap.objs.size], _, _, H1, rfl, I1.kept (t' := s1.toks) fun b o e => Heap.get?_push_of_some _ e, turn_tuple a _, ⟨_, Heap.get?_push_size _ rfl, rfl, rfl⟩, fun b hb => ?_, q⟩
    have e : b = s1.heap.objs.size := by simpa using hb
    subst e
    exact I1.fpOk (Nat.le_refl _) (I1.hok.fresh (Nat.le_refl _))
def srcS (f : Ex) : Srcx := fun ρ S => (f ρ S).bind fun w S1 => R.of ((cont S1 w).map fun c => ⟨c.2.1.map Item.one, c.2.2⟩) S1
theorem wk_seq {K : PySem.W.Frag} {H F : Hp} {μ : List Addr} {a : Addr} {k : SK} {ws : List W} {g : Sto → Bool} (h : SeqAt k K ws g F μ a) : Wk K (ItK k K a) ⟨ws.map Item.one, g⟩ H F μ := by
  refine ⟨fun H2 S2 F2 μ2 i r2 gr hg hi => ?_, fun H2 S2 F2 μ2 r2 gr hg => ?_, fun H2 S2 F2 μ2 i it x H3 r2 gr hg hi hy => ?_⟩
  · obtain ⟨vs, sq, rw'⟩ := h.at_ H2 S2 F2 μ2 r2 gr.same gr.pre hg
    have hi : i < (ws.map Item.one).length := hi
    rw [List.length_map, rw'.length] at hi
    cases k with
    | l => exact walk_list.goes i H2 hi sq
    | t => exact walk_tup.goes i H2 hi sq
  · obtain ⟨vs, sq, rw'⟩ := h.at_ H2 S2 F2 μ2 r2 gr.same gr.pre hg
    show (ItK k K a).stop (ws.map Item.one).length H2
    rw [List.length_map, rw'.length]
    cases k with
    | l => exact walk_list.stops H2 sq
    | t => exact walk_tup.stops H2 sq
  · obtain ⟨vs, sq, rw'⟩ := h.at_ H2 S2 F2 μ2 r2 gr.same gr.pre hg
    have hi : (ws.map Item.one)[i]? = some it := hi
    rw [List.getElem?_map] at hi
    obtain ⟨y, hy', rfl⟩ := map1 hi
    obtain ⟨v, h1, h2⟩ := rw'.get hy'
    have key : H3 = H2 ∧ vs[i]? = some x := by
      cases k with
      | l => exact ⟨hy.1, hy.2 vs sq⟩
      | t => exact ⟨hy.1, hy.2 vs sq⟩
    obtain ⟨rfl, hx⟩ := key
    rw [h1] at hx
    cases hx
    exact ⟨r2, Gr.refl, h2⟩
theorem ds_seq (ha : DE X a fa) : DI X tg a (srcS fa) := by
  intro σ H ρ S F μ its S' R' h hs e hQ
  obtain ⟨w, S1, h1, e⟩ := R.bind_eq e
  obtain ⟨h2, rfl⟩ := R.of_eq e
  obtain ⟨⟨k, ws, g⟩, hc, rfl⟩ := map1 h2
  refine wpi (pi_seq peW) (ha σ H ρ S F μ _ S' _ h hs h1 fun v H1 F1 μ1 r1 g1 q1 => ?_)
  obtain ⟨⟨p, rfl, sq⟩, hg⟩ := cont_seq (H := H1) q1 hc
  obtain ⟨vs, hq, _⟩ := sq.at_ H1 S' F1 μ1 r1 (Same.refl _) ⟨[], by simp⟩ hg
  exact ⟨p, k, rfl, ⟨vs, hq⟩, hQ _ H1 F1 μ1 r1 g1 (wk_seq sq) hg⟩
/-- range -/
def rngI (lo : Int) (n : Nat) : List Item := (List.range n).map fun i => .one (.t (.int (lo + (i : Nat))))
theorem wk_range {K : PySem.W.Frag} {H F : Hp} {μ : List Addr} {lo : Int} {n : Nat} : Wk K (Itr lo n) ⟨rngI lo n, gTrue⟩ H F μ := by
  have hl : (rngI lo n).length = n := by unfold rngI; rw [List.length_map, List.length_range]
  refine ⟨fun H2 S2 F2 μ2 i r2 s _ hi => (show i < n from by rw [← hl]; exact hi), fun H2 S2 F2 μ2 r2 s _ => (show n ≤ (rngI lo n).length from by rw [hl]; exact Nat.le_refl n), fun H2 S2 F2 μ2 i it x H3 r2 s _ hi hy => ?_⟩
  have hi : (rngI lo n)[i]? = some it := hi
  have hi' := (List.getElem?_eq_some_iff.mp hi).1
  rw [hl] at hi'
  unfold rngI at hi
  rw [List.getElem?_map, List.getElem?_range hi'] at hi
  cases hi
  obtain ⟨rfl, rfl⟩ := hy
  exact ⟨r2, Gr.refl, (show Rp _ _ _ _ from .int _)⟩
def rlim (i : Int) : Bool := decide (i.natAbs < 4000000000000000000)
theorem rlim_ok {i : Int} (h : rlim i = true) : -(2 ^ 62) ≤ i ∧ i < 2 ^ 62 := by
  unfold rlim at h
  simp only [Bool.and_eq_true, decide_eq_true_eq] at h
  omega
def rng1 : List W → Option Walked
  | [.t (.int j)] => if rlim j then some ⟨rngI 0 j.toNat, gTrue⟩ else none
  | _ => none
def rng2 : List W → Option Walked
  | [.t (.int i), .t (.int j)] => if rlim i && rlim j then some ⟨rngI i (j - i).toNat, gTrue⟩ else none
  | _ => none
def srcR1 (fs : Exs) : Srcx := fun ρ S => (fs ρ S).bind fun ws S1 => R.of (rng1 ws) S1
def srcR2 (fs : Exs) : Srcx := fun ρ S => (fs ρ S).bind fun ws S1 => R.of (rng2 ws) S1
theorem ds_range1 {q : Pos} (hg : Gl X "range") (hm : X.mg "range" = none) (ha : DA X [a] fs) (hs : starEach [a] X.env = [(false, eval a X.env)] := by rfl) : DI X tg (.Call (.Name "range" q) [a] [] pos) (srcR1 fs) := by
  intro σ H ρ S F μ its S' R' h hs' e hQ
  obtain ⟨ws, S1, h1, e⟩ := R.bind_eq e
  obtain ⟨h2, rfl⟩ := R.of_eq e
  unfold rng1 at h2
  split at h2
  · split at h2
    · rename_i j hj
      cases h2
      refine wpi (pi_range1 hg hm paW hs) (ha σ H ρ S F μ _ S' _ h hs' h1 fun vs H1 F1 μ1 r1 g1 q1 => ?_)
      cases q1 with
      | cons a b =>
        cases b
        have a : Rp X.K F1 (.int j) _ := a
        cases a
        obtain ⟨z1, z2⟩ := rlim_ok hj
        exact ⟨j, rfl, z1, z2, hQ _ H1 F1 μ1 r1 g1 wk_range rfl⟩
    · cases h2
  · cases h2
theorem ds_range2 {q : Pos} (hg : Gl X "range") (hm : X.mg "range" = none) (ha : DA X [a, b] fs) (hs : starEach [a, b] X.env = [(false, eval a X.env), (false, eval b X.env)] := by rfl) (hs2 : starEach [b] X.env = [(false, eval b X.env)] := by rfl) : DI X tg (.Call (.Name "range" q) [a, b] [] pos) (srcR2 fs) := by
  intro σ H ρ S F μ its S' R' h hs' e hQ
  obtain ⟨ws, S1, h1, e⟩ := R.bind_eq e
  obtain ⟨h2, rfl⟩ := R.of_eq e
  unfold rng2 at h2
  split at h2
  · split at h2
    · rename_i i j hj
      cases h2
      simp only [Bool.and_eq_true] at hj
      refine wpi (pi_range2 hg hm paW hs hs2) (ha σ H ρ S F μ _ S' _ h hs' h1 fun vs H1 F1 μ1 r1 g1 q1 => ?_)
      cases q1 with
      | cons a b =>
        cases b with
        | cons b c =>
          cases c
          have a : Rp X.K F1 (.int i) _ := a
          have b : Rp X.K F1 (.int j) _ := b
          cases a; cases b
          obtain ⟨z1, z2⟩ := rlim_ok hj.1
          obtain ⟨z3, z4⟩ := rlim_ok hj.2
          exact ⟨i, j, rfl, ⟨z1, z2, z3, z4⟩, hQ _ H1 F1 μ1 r1 g1 wk_range rfl⟩
    · cases h2
  · cases h2
end
end Dl

/-! Dl7: statements, loops, comprehensions. -/
namespace Dl
open PySem PySem.Spec PyProof.Rows L2

section
variable {X : Cx} {pos : Pos} {tg e c a b : Expr} {ts es : List Expr} {st : Stmt} {rest body els : List Stmt} {f fa fb : Ex} {ft : Tx} {fs : Exs} {g g2 : Sx} {gt : Gx} {p : Pat}

/-! ### blocks -/
def sNil : Sx := fun ρ S => .nx ρ S
def sCons (g g2 : Sx) : Sx := fun ρ S => match g ρ S with
  | .nx ρ1 S1 => g2 ρ1 S1
  | o => o
theorem dss_nil : DSs X [] sNil := by
  intro σ H ρ S F μ D h hs q
  exact wpss pss_nil (q σ H F μ h Gr.refl hs)
theorem dss_one (h1 : DS X st g) : DSs X [st] g := by
  intro σ H ρ S F μ D h hs q
  exact wpss (pss_one psW) (h1 σ H ρ S F μ D h hs q)
theorem dss_cons (h1 : DS X st g) (h2 : DSs X rest g2) : DSs X (st :: rest) (sCons g g2) := by
  intro σ H ρ S F μ D h hs q
  refine wpss (pss_cons psW pssW) (h1 σ H ρ S F μ { D with nx := WPSs X rest D } h hs ?_)
  unfold sCons at q
  cases e : g ρ S with
  | nx ρ1 S1 =>
    rw [e] at q
    exact fun σ' H' F' μ' r' g' s' => h2 σ' H' ρ1 S1 F' μ' D r' s' (O.holds_gr g' q)
  | rt w S1 => rw [e] at q; exact q
  | bk ρ1 S1 => rw [e] at q; exact q
  | ct ρ1 S1 => rw [e] at q; exact q
  | ex _ _ _ => rw [e] at q; exact q
  | no => rw [e] at q; exact q
/-- what an expression's end makes of a statement -/
def thenS {α : Type} (r : R α) (k : α → Sto → O) : O := match r with
  | .ok a S => k a S
  | .ex c v S => .ex c v S
  | .no => .no
theorem thenS_holds {α : Type} {K : PySem.W.Frag} {H F : Hp} {μ : List Addr} {D : Ends} {r : R α} {k : α → Sto → O} (h : (thenS r k).holds K H F μ D) : ∃ a S, r = .ok a S ∧ (k a S).holds K H F μ D := by
  cases r with
  | ok a S => exact ⟨a, S, rfl, h⟩
  | ex _ _ _ => exact False.elim h
  | no => exact False.elim h
def sExpr (f : Ex) : Sx := fun ρ S => thenS (f ρ S) fun _ S1 => .nx ρ S1
theorem ds_expr (he : DE X e f) (hs : swapsWith e none pos.line X.env = pure false := by rfl) : DS X (.Expr e pos) (sExpr f) := by
  intro σ H ρ S F μ D h hs' q
  obtain ⟨w, S1, h1, q⟩ := thenS_holds q
  exact wps (ps_expr peW hs) (he σ H ρ S F μ w S1 _ h hs' h1 fun v H' F' μ' r' g' q' => q σ H' F' μ' r' g' (hs'.gr g'))
def sRet (f : Ex) : Sx := fun ρ S => thenS (f ρ S) fun w S1 => .rt w S1
theorem ds_ret (he : DE X e f) : DS X (.Return (some e) pos) (sRet f) := by
  intro σ H ρ S F μ D h hs' q
  obtain ⟨w, S1, h1, q⟩ := thenS_holds q
  exact wps (ps_ret peW) (he σ H ρ S F μ w S1 _ h hs' h1 fun v H' F' μ' r' g' q' => q v H' F' μ' r' g' q')
def sRetN : Sx := fun _ S => .rt (.t .non) S
theorem ds_retN : DS X (.Return none pos) sRetN := by
  intro σ H ρ S F μ D h hs' q
  exact wps ps_retN (q .non H F μ h Gr.refl (show Rp _ _ _ _ from .non))
def sPass : Sx := fun ρ S => .nx ρ S
theorem ds_pass : DS X (.Pass pos) sPass := by
  intro σ H ρ S F μ D h hs' q
  exact wps ps_pass (q σ H F μ h Gr.refl hs')
def sBreak : Sx := fun ρ S => .bk ρ S
theorem ds_break : DS X (.Break pos) sBreak := by
  intro σ H ρ S F μ D h hs' q
  exact wps ps_break (q σ H F μ h Gr.refl hs')
def sCont : Sx := fun ρ S => .ct ρ S
theorem ds_cont : DS X (.Continue pos) sCont := by
  intro σ H ρ S F μ D h hs' q
  exact wps ps_continue (q σ H F μ h Gr.refl hs')
/-- never reached -/
def sNo : Sx := fun _ _ => .no
theorem ds_no : DS X st sNo := by
  intro σ H ρ S F μ D h hs' q
  exact False.elim q
def sIf (t : Tx) (g g2 : Sx) : Sx := fun ρ S => thenS (t ρ S) fun k S1 => if k then g ρ S1 else g2 ρ S1
theorem ds_if (hc : DT X c ft) (h1 : DSs X body g) (h2 : DSs X els g2) : DS X (.If c body els pos) (sIf ft g g2) := by
  intro σ H ρ S F μ D h hs' q
  obtain ⟨k, S1, e1, q⟩ := thenS_holds q
  refine wps (ps_if ptW pssW pssW) (hc σ H ρ S F μ k S1 _ h hs' e1 fun H1 F1 μ1 r1 g1 => ?_)
  cases k with
  | true => exact iteT (h1 σ H1 ρ S1 F1 μ1 D r1 (hs'.gr g1) (O.holds_gr g1 q))
  | false => exact iteF (h2 σ H1 ρ S1 F1 μ1 D r1 (hs'.gr g1) (O.holds_gr g1 q))
/-- name = e -/
def sSet (i : Nat) (f : Ex) : Sx := fun ρ S => thenS (f ρ S) fun w S1 => .nx (ρ.set i (some w)) S1
theorem ds_set {i : Nat} {x : Str} {px : Pos} (hN : X.N.Nodup) (he : DE X e f) (hi : X.N[i]? = some x := by rfl) (hx : Loc X.env.scope x := by first | exact Or.inl rfl | exact Or.inr rfl) (hs : swapsWith e (some (.Name x px)) pos.line X.env = pure false := by rfl) (hf : X.fn x = true ∨ X.env.scope.names.lookup x = some .local := by first | exact .inl rfl | exact .inr rfl) :
    DS X (.Assign [.Name x px] e pos) (sSet i f) := by
  intro σ H ρ S F μ D h hs' q
  obtain ⟨w, S1, h1, q⟩ := thenS_holds q
  exact wps (ps_set hN hi hx peW hs hf) (he σ H ρ S F μ w S1 _ h hs' h1 fun v H' F' μ' r' g' q' => q _ H' F' μ' r' g' ((hs'.gr g').set i q'))
/-- target = e -/
def sAsg (f : Ex) (gt : Gx) : Sx := fun ρ S => thenS (f ρ S) fun w S1 => thenS (gt w ρ S1) fun ρ2 S2 => .nx ρ2 S2
theorem ds_asg (he : DE X e f) (hg : DG X tg gt) (hs : swapsWithSole [tg] e pos.line X.env = pure false := by rfl) (hw : swappedStores [tg] e X.env = pure none := by rfl) (h1 : (assignEach [tg] X.env).map (·.2) = [assign tg X.env] := by rfl) : DS X (.Assign [tg] e pos) (sAsg f gt) := by
  intro σ H ρ S F μ D h hs' q
  obtain ⟨w, S1, e1, q⟩ := thenS_holds q
  obtain ⟨ρ2, S2, e2, q⟩ := thenS_holds q
  refine wps (ps_asg peW pgW hs hw h1) (he σ H ρ S F μ w S1 _ h hs' e1 fun v H' F' μ' r' g' q' => ?_)
  exact hg σ H' ρ S1 F' μ' w v ρ2 S2 _ r' (hs'.gr g') q' e2 fun σ2 H2 F2 μ2 r2 g2 s2 => q σ2 H2 F2 μ2 r2 (g'.trans g2) s2
def gPat (p : Pat) : Gx := fun w ρ S => R.of (bindW p w ρ) S
theorem dg_pat (h : DPat X tg p) : DG X tg (gPat p) := by
  intro σ H ρ S F μ w v ρ' S' Q h0 hs rw' e hQ
  obtain ⟨e2, rfl⟩ := R.of_eq e
  exact h σ H ρ S' F μ w v ρ' Q h0 hs rw' e2 fun σ' s' _ => hQ σ' H F μ h0 Gr.refl s'
/-- a, b = x, y: two plain names -/
def sPar (i j : Nat) (fs : Exs) : Sx := fun ρ S => thenS (fs ρ S) fun ws S1 => match ws with
  | [w, u] => .nx ((ρ.set i (some w)).set j (some u)) S1
  | _ => .no
theorem ds_par {i j : Nat} {x y : Str} {px py pt : Pos} {kt k2 pt2} (hc : X.calm = true) (hN : X.N.Nodup) (ha : DA X [a, b] fs) (hi : X.N[i]? = some x := by rfl) (hj : X.N[j]? = some y := by rfl) (hij : i ≠ j := by decide)
    (hx : X.env.scope.names.lookup x = some .local := by rfl) (hy : X.env.scope.names.lookup y = some .local := by rfl)
    (hw : swappedStores [.Tuple [.Name x px, .Name y py] kt pt] (.Tuple [a, b] k2 pt2) X.env = pure (some [x, y]) := by rfl)
    (hs : swapsWithSole [.Tuple [.Name x px, .Name y py] kt pt] (.Tuple [a, b] k2 pt2) pos.line X.env = pure false := by rfl) :
    DS X (.Assign [.Tuple [.Name x px, .Name y py] kt pt] (.Tuple [a, b] k2 pt2) pos) (sPar i j fs) := by
  intro σ H ρ S F μ D h hs' q
  obtain ⟨ws, S1, e1, q⟩ := thenS_holds q
  split at q
  · refine wps (ps_par hc hN hi hj hij hx hy paW hw hs) (ha σ H ρ S F μ _ S1 _ h hs' e1 fun vs H' F' μ' r' g' q' => ?_)
    cases q' with
    | cons q1 q2 =>
      cases q2 with
      | cons q2 q3 =>
        cases q3
        exact ⟨_, _, rfl, q _ H' F' μ' r' g' (((hs'.gr g').set i q1).set j q2)⟩
  · exact False.elim q

/-! ### while -/
def loopS (k : Env → Sto → O) (o : O) : O := match o with
  | .nx ρ S => k ρ S
  | .ct ρ S => k ρ S
  | .bk ρ S => .nx ρ S
  | o => o
theorem loop_holds {K : PySem.W.Frag} {H F : Hp} {μ : List Addr} {D : Ends} {k : Env → Sto → O} {o : O} {N : L2.St → Hp → Prop} (h : (loopS k o).holds K H F μ D)
    (hN : ∀ ρ2 S2, (k ρ2 S2).holds K H F μ D → ∀ σ' H' F' μ', Rs K H' S2 F' μ' → Gr H F μ H' F' μ' → RpSt K F' μ' σ' ρ2 → N σ' H') : o.holds K H F μ { D with nx := N, ct := N, bk := D.nx } := by
  cases o with
  | nx ρ S => exact hN ρ S h
  | ct ρ S => exact hN ρ S h
  | bk ρ S => exact h
  | rt w S => exact h
  | ex _ _ _ => exact h
  | no => exact h
def whL (t : Tx) (g : Sx) : Nat → Sx
  | 0, _, _ => .no
  | n + 1, ρ, S => thenS (t ρ S) fun b S1 => if b then loopS (whL t g n) (g ρ S1) else .nx ρ S1
theorem ds_while {L : Nat} (hc : DT X c ft) (hb : DSs X body g) (hp : PassesOwn (model X.prog X.w) X.A X.env X.xe := by exact PassesOwn.never) : DS X (.While c body [] pos) (whL ft g L) := by
  intro σ H ρ S F μ D h hs' q
  refine wps (ps_while hp ptW pssW) ⟨fun m σ H => ∃ ρ S F μ, Rs X.K H S F μ ∧ RpSt X.K F μ σ ρ ∧ (whL ft g m ρ S).holds X.K H F μ D, ⟨L, ρ, S, F, μ, h, hs', q⟩, ?_⟩
  rintro m σ H ⟨ρ, S, F, μ, h, hs', q⟩
  cases m with
  | zero => exact False.elim q
  | succ n =>
    obtain ⟨k, S1, e1, q⟩ := thenS_holds (show (thenS (ft ρ S) fun b S1 => if b then loopS (whL ft g n) (g ρ S1) else .nx ρ S1).holds X.K H F μ D from q)
    refine hc σ H ρ S F μ k S1 _ h hs' e1 fun H1 F1 μ1 r1 g1 => ?_
    cases k with
    | false => exact iteF (q σ H1 F1 μ1 r1 g1 (hs'.gr g1))
    | true =>
      refine iteT ⟨fun σ H => ∃ ρ S F μ, Rs X.K H S F μ ∧ RpSt X.K F μ σ ρ ∧ (whL ft g n ρ S).holds X.K H F μ D, fun σ' H' z => ⟨n, Nat.lt_succ_self n, z⟩, ?_⟩
      refine hb σ H1 ρ S1 F1 μ1 _ r1 (hs'.gr g1) ?_
      exact loop_holds (O.holds_gr g1 q) fun ρ2 S2 q2 σ' H' F' μ' r' g' s' => ⟨ρ2, S2, F', μ', r', s', O.holds_gr g' q2⟩

/-! ### for -/
def forL (gd : Sto → Bool) (p : Pat) (g : Sx) : List Item → Sx
  | [], ρ, S => if gd S then .nx ρ S else .no
  | it :: r, ρ, S => if gd S then (match bindI p it ρ with
    | none => .no
    | some ρ1 => loopS (forL gd p g r) (g ρ1 S)) else .no
def sFor (src : Srcx) (p : Pat) (g : Sx) : Sx := fun ρ S => thenS (src ρ S) fun its S1 => forL its.g p g its.l ρ S1
theorem if_holds {K : PySem.W.Frag} {H F : Hp} {μ : List Addr} {D : Ends} {c : Bool} {o : O} (h : (if c = true then o else O.no).holds K H F μ D) : c = true ∧ o.holds K H F μ D := by
  cases c with
  | true => exact ⟨rfl, h⟩
  | false => exact False.elim h
theorem ds_for {iter : Expr} {src : Srcx} (hc : X.calm = true) (hi : DI X tg iter src) (hg : DItem X tg p) (hb : DSs X body g) (hp : PassesOwn (model X.prog X.w) X.A X.env X.xe := by exact PassesOwn.never)
    (hs : ∀ x, foldedSetIterable iter X.env x = pure x := by intro _; rfl) : DS X (.For tg iter body [] pos) (sFor src p g) := by
  intro σ H ρ S F μ D h hs' q
  obtain ⟨its, S1, e1, q⟩ := thenS_holds q
  refine wps (ps_for hp hc piW pgW pssW hs) (hi σ H ρ S F μ its S1 _ h hs' e1 fun J H1 F1 μ1 r1 g1 wk g0 => ?_)
  refine ⟨fun i m σ H => m = its.l.length - i ∧ i ≤ its.l.length ∧ ∃ ρ S F μ, Rs X.K H S F μ ∧ RpSt X.K F μ σ ρ ∧ Gr H1 F1 μ1 H F μ ∧ (forL its.g p g (its.l.drop i) ρ S).holds X.K H F μ D,
    ⟨its.l.length, by simp, Nat.zero_le _, ρ, S1, F1, μ1, r1, hs'.gr g1, Gr.refl, O.holds_gr g1 (by simpa using q)⟩, ?_⟩
  rintro i m σ2 H2 ⟨rfl, hi2, ρ2, S2, F2, μ2, r2, s2, sm, q2⟩
  by_cases hlt : i < its.l.length
  · rw [List.drop_eq_getElem_cons hlt] at q2
    obtain ⟨gd, q2⟩ := if_holds q2
    refine .inr ⟨wk.goes H2 S2 F2 μ2 i r2 sm gd hlt, _, fun σ' H' z => z, fun x H3 y => ?_⟩
    have hit : its.l[i]? = some its.l[i] := by simp [hlt]
    obtain ⟨r3, g3, vi⟩ := wk.yld H2 S2 F2 μ2 i its.l[i] x H3 r2 sm gd hit y
    cases eb : bindI p its.l[i] ρ2 with
    | none => rw [eb] at q2; exact False.elim q2
    | some ρ3 =>
      rw [eb] at q2
      refine hg σ2 H2 H3 ρ2 S2 F2 μ2 its.l[i] x ρ3 _ r2 r3 g3 s2 vi eb fun σ4 F4 r4 g4 s4 ag => ?_
      refine hb σ4 H3 ρ3 S2 F4 μ2 _ r4 s4 ?_
      refine loop_holds (O.holds_gr g4 q2) fun ρ5 S5 q5 σ' H' F' μ' r' g' s' => ?_
      refine ⟨_, by omega, rfl, hlt, ρ5, S5, F', μ', r', s', (sm.trans g4).trans g', O.holds_gr g' q5⟩
  · have ei : i = its.l.length := by omega
    subst ei
    rw [List.drop_length] at q2
    obtain ⟨gd, q2⟩ := if_holds q2
    exact .inl ⟨wk.stop H2 S2 F2 μ2 r2 sm gd, q2 σ2 H2 F2 μ2 r2 Gr.refl s2⟩

/-! ### comprehensions -/
def wipeE (ρ : Env) : List Nat → Env
  | [] => ρ
  | v :: vs => (wipeE ρ vs).set v none
theorem wipe_st {K : PySem.W.Frag} {F : Hp} {μ : List Addr} {σ : L2.St} {ρ : Env} (h : RpSt K F μ σ ρ) : ∀ vs : List Nat, RpSt K F μ (wipe σ vs) (wipeE ρ vs)
  | [] => h
  | v :: vs => (wipe_st h vs).forget v
theorem wipe_agree {σ σ' : L2.St} : ∀ {vs : List Nat}, Agree vs σ σ' → wipe σ' vs = wipe σ vs := by
  intro vs h
  have key : ∀ (τ : L2.St) (vs : List Nat) (j : Nat), (wipe τ vs)[j]? = if j ∈ vs then (if j < τ.length then some none else none) else τ[j]? := by
    intro τ vs
    induction vs with
    | nil => intro j; simp [wipe]
    | cons v vs ih =>
      intro j
      unfold wipe
      by_cases e : j = v
      · subst e
        rw [List.getElem?_set, if_pos rfl, if_pos (List.mem_cons_self), wipe_length]
      · rw [List.getElem?_set_ne (Ne.symm e), ih j]
        simp [e]
  refine List.ext_getElem? fun j => ?_
  rw [key, key, h.1]
  by_cases m : j ∈ vs
  · rw [if_pos m, if_pos m]
  · rw [if_neg m, if_neg m]; exact h.2 j m
theorem wipe_wipe (σ : L2.St) (vs : List Nat) : wipe (wipe σ vs) vs = wipe σ vs := by
  refine wipe_agree ⟨wipe_length σ vs, fun j hj => ?_⟩
  induction vs with
  | nil => rfl
  | cons v vs ih =>
    simp only [List.mem_cons, not_or] at hj
    unfold wipe
    rw [List.getElem?_set_ne (Ne.symm hj.1)]
    exact ih hj.2
def compL (gd : Sto → Bool) (p : Pat) (t : Tx) (f : Ex) : List Item → Env → Sto → R (List T)
  | [], _, S => if gd S then .ok [] S else .no
  | it :: r, ρ, S => if gd S then (match bindI p it ρ with
    | none => .no
    | some ρ1 => (t ρ1 S).bind fun k S1 => if k then (f ρ1 S1).bind fun w S2 => match w with
        | .t x => (compL gd p t f r ρ S2).bind fun xs S3 => .ok (x :: xs) S3
        | .r _ => .no
      else compL gd p t f r ρ S1) else .no
theorem if_ok {α : Type} {c : Bool} {r : R α} {a : α} {S : Sto} (h : (if c = true then r else R.no) = .ok a S) : c = true ∧ r = .ok a S := by
  cases c with
  | true => exact ⟨rfl, h⟩
  | false => cases h
def eComp (vs : List Nat) (src : Srcx) (p : Pat) (t : Tx) (f : Ex) : Ex := fun ρ S => (src ρ S).bind fun its S1 => if its.l.length ≤ cap then (compL its.g p t f its.l (wipeE ρ vs) S1).bind fun xs S2 => .ok (.t (.lst xs)) S2 else .no
def eCompB (vs : List Nat) (src : Srcx) (p : Pat) (t : Tx) (f : Ex) : Ex := fun ρ S => (src ρ S).bind fun its S1 => if its.l.length ≤ cap then (compL its.g p t f its.l (wipeE ρ vs) S1).bind fun xs S2 => .ok (.r S2.length) (S2 ++ [.lst xs]) else .no
def tTrue : Tx := fun _ S => .ok true S
def DTs (X : Cx) (ifs : List Expr) (f : Tx) : Prop := ∀ (σ : L2.St) (H : Hp) (ρ : Env) (S : Sto) (F : Hp) (μ : List Addr) (b : Bool) (S' : Sto) (Q : Bool → Hp → Prop), Rs X.K H S F μ → RpSt X.K F μ σ ρ → f ρ S = .ok b S' →
  (∀ H' F' μ', Rs X.K H' S' F' μ' → Gr H F μ H' F' μ' → Q b H') → ∃ t, PTs X ifs t ∧ t σ H Q
theorem dts_nil : DTs X [] tTrue := by
  intro σ H ρ S F μ b S' Q h hs e hQ
  cases e
  exact ⟨tYes, pts_nil, hQ H F μ h Gr.refl⟩
theorem dts_one (h : DT X c ft) : DTs X [c] ft := by
  intro σ H ρ S F μ b S' Q h0 hs e hQ
  exact ⟨_, pts_one ptW, h σ H ρ S F μ b S' Q h0 hs e hQ⟩
def WPTs (X : Cx) (ifs : List Expr) (σ : L2.St) (H : Hp) (Q : Bool → Hp → Prop) : Prop := ∃ t, PTs X ifs t ∧ t σ H Q
theorem ptsW {ifs : List Expr} : PTs X ifs (WPTs X ifs) := ⟨fun pins s σ H Q I ⟨t, h, q⟩ => h.run pins s σ H Q I q⟩
/-- the context of a comprehension's block -/
abbrev bk (X : Cx) (scope : Scope) (s : Shared) (H : Hp) (C : Addr) (cl : List (Str × Addr)) (fp : List Addr) : Cx := X.blk s H scope (compEnvC scope cl C X.env) fp
theorem comp_run {iter elt : Expr} {src : Srcx} {ifs : List Expr} {scope : Scope} {vs : List Nat} (hi : DI X tg iter src)
    (hg : ∀ s H C cl fp, DItem (bk X scope s H C cl fp) tg p) (ht : ∀ s H C cl fp, DTs (bk X scope s H C cl fp) ifs ft) (he : ∀ s H C cl fp, DE (bk X scope s H C cl fp) elt f) (hv : ∀ j ∈ p.slots, j ∈ vs)
    {σ : L2.St} {H : Hp} {ρ : Env} {S : Sto} {F : Hp} {μ : List Addr} {its : Walked} {S1 S2 : Sto} {xs : List T} {Q : VK} (h : Rs X.K H S F μ) (hs : RpSt X.K F μ σ ρ) (e1 : src ρ S = .ok its S1) (hl : its.l.length ≤ cap) (e2 : compL its.g p ft f its.l (wipeE ρ vs) S1 = .ok xs S2)
    (hQ : ∀ D acc H' F' μ', Rs X.K H' S2 F' μ' → Gr H F μ H' F' μ' → H' D = some (.lst acc) → H D = none → F' D = none → D ∉ μ' → Rps X.K F' xs acc → Q (.ref D) H') :
    tLc (WPI X tg iter) (fun x σ' H' Q' => ∀ s H C cl fp, WPG (bk X scope s H C cl fp) tg x σ' H' Q') (fun σ' H' Q' => ∀ s H C cl fp, WPTs (bk X scope s H C cl fp) ifs σ' H' Q') (fun σ' H' Q' => ∀ s H C cl fp, WPE (bk X scope s H C cl fp) elt σ' H' Q') vs σ H Q := by
  refine hi σ H ρ S F μ its S1 _ h hs e1 fun J H1 F1 μ1 r1 g1 wk g0 => ?_
  intro D hD
  have hD0 : H D = none := by
    cases q : H D with
    | none => rfl
    | some o =>
      by_cases hF : F D = none
      · by_cases hM : D ∈ μ
        · exfalso
          obtain ⟨n, hn⟩ := List.getElem?_of_mem hM
          exact r1.there n D (pre_get g1.pre hn) hD
        · have := (g1.keep D o q hF hM).1
          rw [hD] at this; cases this
      · exfalso
        cases z : F D with
        | none => exact hF z
        | some u =>
          have := r1.sub _ _ (g1.same _ _ z)
          rw [hD] at this; cases this
  have sw := wipe_st (hs.gr g1) vs
  refine ⟨fun i m H => m = its.l.length - i ∧ i ≤ its.l.length ∧ ∃ S F μ acc accT rest, Rs X.K H S F μ ∧ Gr H1 F1 μ1 H F μ ∧ H D = some (.lst acc) ∧ F D = none ∧ D ∉ μ ∧ Rps X.K F accT acc ∧ acc.length ≤ i ∧ compL its.g p ft f (its.l.drop i) (wipeE ρ vs) S = .ok rest S2 ∧ accT ++ rest = xs,
    ⟨its.l.length, by simp, Nat.zero_le _, S1, F1, μ1, [], [], xs, r1.heap _ (r1.notF hD) (r1.notM hD), Gr.updH Gr.refl hD, upd_same, r1.notF hD, r1.notM hD, .nil, Nat.le_refl _, by simpa using e2, rfl⟩, ?_⟩
  rintro i m H2 ⟨rfl, hi2, S3, F2, μ2, acc, accT, rest, r2, g2, hD2, nF, nM, ra, la, q2, exs⟩
  by_cases hlt : i < its.l.length
  · rw [List.drop_eq_getElem_cons hlt] at q2
    obtain ⟨gd, q2⟩ := if_ok q2
    refine .inr ⟨wk.goes H2 S3 F2 μ2 i r2 g2 gd hlt, _, fun H' z => z, fun x H3 y => ?_⟩
    have hit : its.l[i]? = some its.l[i] := by simp [hlt]
    obtain ⟨r3, g3, vi⟩ := wk.yld H2 S3 F2 μ2 i its.l[i] x H3 r2 g2 gd hit y
    cases eb : bindI p its.l[i] (wipeE ρ vs) with
    | none => rw [eb] at q2; cases q2
    | some ρ3 =>
      rw [eb] at q2
      obtain ⟨k, S4, et, q3⟩ := R.bind_eq q2
      clear q2
      intro s0 H0 C0 cl0 fp0
      refine hg s0 H0 C0 cl0 fp0 (wipe σ vs) H2 H3 (wipeE ρ vs) S3 F2 μ2 its.l[i] x ρ3 _ r2 r3 g3 (sw.gr g2) vi eb fun σ4 F4 r4 g4 s4 ag => ?_
      refine ⟨by
        have : Agree vs (wipe σ vs) σ4 := ⟨ag.1, fun j hj => ag.2 j fun z => hj (hv j z)⟩
        rw [wipe_agree this, wipe_wipe], ?_⟩
      intro s1 H0' C1 cl1 fp1
      refine ht s1 H0' C1 cl1 fp1 σ4 H3 ρ3 S3 F4 μ2 k S4 _ r4 s4 et fun H5 F5 μ5 r5 g5 => ?_
      have gg := (g2.trans g4).trans g5
      obtain ⟨d3, f3, m3⟩ := g4.keep D _ hD2 nF nM
      obtain ⟨d5, f5, m5⟩ := g5.keep D _ d3 f3 m3
      have ra5 := (ra.mono g4.same).mono g5.same
      cases k with
      | false =>
        rw [if_neg Bool.false_ne_true]
        simp only [Bool.false_eq_true, if_false] at q3
        exact ⟨_, by omega, rfl, hlt, S4, F5, μ5, acc, accT, rest, r5, gg, d5, f5, m5, ra5, by omega, q3, exs⟩
      | true =>
        rw [if_pos rfl]
        simp only [if_true] at q3
        obtain ⟨w, S6, ew, q4⟩ := R.bind_eq q3
        clear q3
        intro s2 H0'' C2 cl2 fp2
        refine he s2 H0'' C2 cl2 fp2 σ4 H5 ρ3 S4 F5 μ5 w S6 _ r5 (s4.gr g5) ew fun y6 H6 F6 μ6 r6 g6 q6 => ?_
        cases w with
        | r _ => cases q4
        | t z =>
          obtain ⟨xs', S7, ec, e7⟩ := R.bind_eq q4
          cases e7
          obtain ⟨d6, f6, m6⟩ := g6.keep D _ d5 f5 m5
          refine ⟨acc, d6, by have := cap_eq; omega, _, by omega, rfl, hlt, S6, F6, μ6, acc ++ [y6], accT ++ [z], xs', r6.heap _ f6 m6, Gr.updH (gg.trans g6) hD, upd_same, f6, m6, (ra5.mono g6.same).append (.cons q6 .nil), by rw [List.length_append]; show acc.length + 1 ≤ i + 1; omega, ec, by rw [List.append_assoc]; exact exs⟩
  · have ei : i = its.l.length := by omega
    subst ei
    rw [List.drop_length] at q2
    obtain ⟨gd, q2⟩ := if_ok q2
    cases q2
    rw [List.append_nil] at exs
    subst exs
    exact .inl ⟨wk.stop H2 _ F2 μ2 r2 g2 gd, hQ D acc H2 F2 μ2 r2 (g1.trans g2) hD2 hD0 nF nM ra⟩
theorem compT_run {K : PySem.W.Frag} {H H' F F' : Hp} {μ μ' : List Addr} {S2 : Sto} {D : Addr} {acc : List V} {xs : List T} {Q : VK} (hQ : ∀ v H' F' μ', Rs K H' S2 F' μ' → Gr H F μ H' F' μ' → RpW K F' μ' (.t (.lst xs)) v → Q v H')
    (r : Rs K H' S2 F' μ') (g : Gr H F μ H' F' μ') (d : H' D = some (.lst acc)) (d0 : H D = none) (f0 : F' D = none) (m0 : D ∉ μ') (ra : Rps K F' xs acc) : Q (.ref D) H' := by
  have sm : Same F' (upd F' D (.lst acc)) := fun b u e => by rw [upd_ne (ne_of_none e f0)]; exact e
  exact hQ _ H' (upd F' D (.lst acc)) μ' (r.freeze d f0 m0) (g.frz d0 f0) (show Rp _ _ _ _ from .lst upd_same (ra.mono sm))
theorem compB_run {K : PySem.W.Frag} {H H' F F' : Hp} {μ μ' : List Addr} {S2 : Sto} {D : Addr} {acc : List V} {xs : List T} {Q : VK} (hQ : ∀ v H' F' μ', Rs K H' (S2 ++ [.lst xs]) F' μ' → Gr H F μ H' F' μ' → RpW K F' μ' (.r S2.length) v → Q v H')
    (r : Rs K H' S2 F' μ') (g : Gr H F μ H' F' μ') (d : H' D = some (.lst acc)) (d0 : H D = none) (f0 : F' D = none) (m0 : D ∉ μ') (ra : Rps K F' xs acc) : Q (.ref D) H' := by
  refine hQ _ H' F' (μ' ++ [D]) (r.box (by rw [d]; exact fun z => nomatch z) m0 ⟨f0, acc, d, ra⟩) ⟨g.same, ?_, fun b u h1 h2 h3 => ?_, g.lk⟩ ⟨D, by rw [← r.len]; simp, rfl⟩
  · obtain ⟨ν, rfl⟩ := g.pre
    exact ⟨ν ++ [D], by rw [List.append_assoc]⟩
  · obtain ⟨q1, q2, q3⟩ := g.keep b u h1 h2 h3
    have ne : b ≠ D := ne_of_none h1 d0
    exact ⟨q1, q2, by simp [q3, ne]⟩
section
variable {iter elt : Expr} {src : Srcx} {ifs : List Expr} {scope : Scope} {own : List (Str × Nat)}
theorem de_comp (hc : X.calm = true) (hN : X.N.Nodup) (hi : DI X tg iter src) (ok : blkC X.N X.env.scope scope own = true)
    (hg : ∀ s H C cl fp, DItem (bk X scope s H C cl fp) tg p) (ht : ∀ s H C cl fp, DTs (bk X scope s H C cl fp) ifs ft) (he : ∀ s H C cl fp, DE (bk X scope s H C cl fp) elt f) (hv : ∀ j ∈ p.slots, j ∈ own.map (·.2) := by decide) (hs : ∀ x, foldedSetIterable iter X.env x = pure x := by intro _; rfl) :
    DE X (.ListComp elt [⟨tg, iter, ifs, 0⟩] scope pos) (eComp (own.map (·.2)) src p ft f) := by
  intro σ H ρ S F μ w S' Q h hs' e hQ
  obtain ⟨its, S1, e1, e⟩ := R.bind_eq e
  split at e
  · rename_i hl
    obtain ⟨xs, S2, e2, e⟩ := R.bind_eq e
    cases e
    refine wpe (pe_lc hc hN piW (blkOk_by ok) (fun s H C cl fp => ⟨fun pins s' σ H v u Q I r q => q _ _ _ _ _ pins s' u I r⟩) (fun s H C cl fp => ⟨fun pins s' σ H Q I q => ptsW.run pins s' σ H Q I (q _ _ _ _ _)⟩) (fun s H C cl fp => ⟨fun pins s' σ H Q I q => q _ _ _ _ _ pins s' I⟩) hs)
      (comp_run hi hg ht he hv h hs' e1 hl e2 fun D acc H' F' μ' r g d d0 f0 m0 ra => compT_run hQ r g d d0 f0 m0 ra)
  · cases e
theorem de_compB (hc : X.calm = true) (hN : X.N.Nodup) (hi : DI X tg iter src) (ok : blkC X.N X.env.scope scope own = true)
    (hg : ∀ s H C cl fp, DItem (bk X scope s H C cl fp) tg p) (ht : ∀ s H C cl fp, DTs (bk X scope s H C cl fp) ifs ft) (he : ∀ s H C cl fp, DE (bk X scope s H C cl fp) elt f) (hv : ∀ j ∈ p.slots, j ∈ own.map (·.2) := by decide) (hs : ∀ x, foldedSetIterable iter X.env x = pure x := by intro _; rfl) :
    DE X (.ListComp elt [⟨tg, iter, ifs, 0⟩] scope pos) (eCompB (own.map (·.2)) src p ft f) := by
  intro σ H ρ S F μ w S' Q h hs' e hQ
  obtain ⟨its, S1, e1, e⟩ := R.bind_eq e
  split at e
  · rename_i hl
    obtain ⟨xs, S2, e2, e⟩ := R.bind_eq e
    cases e
    refine wpe (pe_lc hc hN piW (blkOk_by ok) (fun s H C cl fp => ⟨fun pins s' σ H v u Q I r q => q _ _ _ _ _ pins s' u I r⟩) (fun s H C cl fp => ⟨fun pins s' σ H Q I q => ptsW.run pins s' σ H Q I (q _ _ _ _ _)⟩) (fun s H C cl fp => ⟨fun pins s' σ H Q I q => q _ _ _ _ _ pins s' I⟩) hs)
      (comp_run hi hg ht he hv h hs' e1 hl e2 fun D acc H' F' μ' r g d d0 f0 m0 ra => compB_run hQ r g d d0 f0 m0 ra)
  · cases e
/-- y = [..], y a local, on one line -/
theorem ds_setComp {i : Nat} {y : Str} {py spos : Pos} (hc : X.calm = true) (hN : X.N.Nodup) (hi : DI X tg iter src) (ok : blkC X.N X.env.scope scope own = true)
    (hg : ∀ s H C cl fp, DItem (bk X scope s H C cl fp) tg p) (ht : ∀ s H C cl fp, DTs (bk X scope s H C cl fp) ifs ft) (he : ∀ s H C cl fp, DE (bk X scope s H C cl fp) elt f)
    (hk : X.env.scope.kind = .function) (ha : (scope.names.any fun (n, k) => n == y && (k == .local || k == .cell)) = false) (hy : X.N[i]? = some y := by rfl) (hyl : X.env.scope.names.lookup y = some .local := by rfl) (hl : (py.line == pos.line) = true := by rfl)
    (hv : ∀ j ∈ p.slots, j ∈ own.map (·.2) := by decide) (hs : ∀ x, foldedSetIterable iter X.env x = pure x := by intro _; rfl) :
    DS X (.Assign [.Name y py] (.ListComp elt [⟨tg, iter, ifs, 0⟩] scope pos) spos) (sSet i (eComp (own.map (·.2)) src p ft f)) := by
  intro σ H ρ S F μ D h hs' q
  obtain ⟨w, S', e, q⟩ := thenS_holds q
  obtain ⟨its, S1, e1, e⟩ := R.bind_eq e
  split at e
  · rename_i hl'
    obtain ⟨xs, S2, e2, e⟩ := R.bind_eq e
    cases e
    refine wps (ps_setLc hc hN hy hyl (sw_true hk hyl hl ha) piW (blkOk_by ok) (fun s H C cl fp => ⟨fun pins s' σ H v u Q I r q => q _ _ _ _ _ pins s' u I r⟩) (fun s H C cl fp => ⟨fun pins s' σ H Q I q => ptsW.run pins s' σ H Q I (q _ _ _ _ _)⟩) (fun s H C cl fp => ⟨fun pins s' σ H Q I q => q _ _ _ _ _ pins s' I⟩) hs)
      (comp_run hi hg ht he hv h hs' e1 hl' e2 fun D' acc H' F' μ' r g d d0 f0 m0 ra => compT_run (Q := fun x H1 => gName i x σ H1 D.nx) (fun v H'' F'' μ'' r'' g'' rr => q _ H'' F'' μ'' r'' g'' ((hs'.gr g'').set i rr)) r g d d0 f0 m0 ra)
  · cases e
theorem ds_setCompB {i : Nat} {y : Str} {py spos : Pos} (hc : X.calm = true) (hN : X.N.Nodup) (hi : DI X tg iter src) (ok : blkC X.N X.env.scope scope own = true)
    (hg : ∀ s H C cl fp, DItem (bk X scope s H C cl fp) tg p) (ht : ∀ s H C cl fp, DTs (bk X scope s H C cl fp) ifs ft) (he : ∀ s H C cl fp, DE (bk X scope s H C cl fp) elt f)
    (hk : X.env.scope.kind = .function) (ha : (scope.names.any fun (n, k) => n == y && (k == .local || k == .cell)) = false) (hy : X.N[i]? = some y := by rfl) (hyl : X.env.scope.names.lookup y = some .local := by rfl) (hl : (py.line == pos.line) = true := by rfl)
    (hv : ∀ j ∈ p.slots, j ∈ own.map (·.2) := by decide) (hs : ∀ x, foldedSetIterable iter X.env x = pure x := by intro _; rfl) :
    DS X (.Assign [.Name y py] (.ListComp elt [⟨tg, iter, ifs, 0⟩] scope pos) spos) (sSet i (eCompB (own.map (·.2)) src p ft f)) := by
  intro σ H ρ S F μ D h hs' q
  obtain ⟨w, S', e, q⟩ := thenS_holds q
  obtain ⟨its, S1, e1, e⟩ := R.bind_eq e
  split at e
  · rename_i hl'
    obtain ⟨xs, S2, e2, e⟩ := R.bind_eq e
    cases e
    refine wps (ps_setLc hc hN hy hyl (sw_true hk hyl hl ha) piW (blkOk_by ok) (fun s H C cl fp => ⟨fun pins s' σ H v u Q I r q => q _ _ _ _ _ pins s' u I r⟩) (fun s H C cl fp => ⟨fun pins s' σ H Q I q => ptsW.run pins s' σ H Q I (q _ _ _ _ _)⟩) (fun s H C cl fp => ⟨fun pins s' σ H Q I q => q _ _ _ _ _ pins s' I⟩) hs)
      (comp_run hi hg ht he hv h hs' e1 hl' e2 fun D' acc H' F' μ' r g d d0 f0 m0 ra => compB_run (Q := fun x H1 => gName i x σ H1 D.nx) (fun v H'' F'' μ'' r'' g'' rr => q _ H'' F'' μ'' r'' g'' ((hs'.gr g'').set i rr)) r g d d0 f0 m0 ra)
  · cases e
end
end
end Dl

/-! Dl8: defs, their calls, the law's end. -/
namespace Dl
open PySem PySem.Spec PyProof.Rows L2

def refsOf : List W → List Nat
  | [] => []
  | .r n :: r => n :: refsOf r
  | .t _ :: r => refsOf r
def okc (c c' : Cell) : Bool := match c' with
  | .vec ws => (match c with
    | .vec ws0 => decide (refsOf ws = refsOf ws0)
    | _ => false)
  | _ => true
/-- the cells that stood before bear no new references -/
def truncOk : Sto → Sto → Bool
  | [], _ => true
  | c :: S, c' :: S' => okc c c' && truncOk S S'
  | _ :: _, [] => false
theorem truncOk_get : ∀ {S S' : Sto} {n : Nat} {c c' : Cell}, truncOk S S' = true → S[n]? = some c → S'[n]? = some c' → okc c c' = true
  | [], _, n, c, c', _, h, _ => by simp at h
  | _ :: _, [], n, c, c', h, _, _ => by simp [truncOk] at h
  | a :: S, b :: S', 0, c, c', h, h1, h2 => by
    simp at h1 h2
    subst h1; subst h2
    simp only [truncOk, Bool.and_eq_true] at h
    exact h.1
  | a :: S, b :: S', n + 1, c, c', h, h1, h2 => by
    simp at h1 h2
    simp only [truncOk, Bool.and_eq_true] at h
    exact truncOk_get h.2 h1 h2
theorem truncOk_len : ∀ {S S' : Sto}, truncOk S S' = true → S.length ≤ S'.length
  | [], _, _ => Nat.zero_le _
  | _ :: _, [], h => by simp [truncOk] at h
  | a :: S, b :: S', h => by
    simp only [truncOk, Bool.and_eq_true] at h
    have := truncOk_len h.2
    simp only [List.length_cons]; omega
theorem refs_lt {K : PySem.W.Frag} {F : Hp} {μ : List Addr} : ∀ {ws : List W} {vs : List V}, RpWs K F μ ws vs → ∀ n ∈ refsOf ws, n < μ.length
  | _, _, .nil, n, h => by cases h
  | _, _, .cons (x := x) r t, n, h => by
    cases x with
    | t _ => exact refs_lt t n h
    | r m =>
      obtain ⟨p, e, _⟩ := r
      rcases List.mem_cons.mp h with rfl | h
      · exact (List.getElem?_eq_some_iff.mp e).1
      · exact refs_lt t n h
theorem RpWs.cutμ {K : PySem.W.Frag} {F : Hp} {μ ν : List Addr} : ∀ {ws : List W} {vs : List V}, RpWs K F (μ ++ ν) ws vs → (∀ n ∈ refsOf ws, n < μ.length) → RpWs K F μ ws vs
  | _, _, .nil, _ => .nil
  | _, _, .cons (x := x) r t, h => by
    cases x with
    | t _ => exact .cons r (RpWs.cutμ t h)
    | r m =>
      obtain ⟨p, e, z⟩ := r
      refine .cons ⟨p, ?_, z⟩ (RpWs.cutμ t fun n hn => h n (List.mem_cons_of_mem _ hn))
      rw [List.getElem?_append_left (h m (List.mem_cons_self))] at e
      exact e
theorem Rs.trunc {K : PySem.W.Frag} {H H' F F' : Hp} {μ ν : List Addr} {S S' : Sto} (h : Rs K H S F μ) (h' : Rs K H' S' F' (μ ++ ν)) (ok : truncOk S S' = true) : Rs K H' (S'.take S.length) F' μ := by
  have hl := truncOk_len ok
  refine ⟨h'.sub, by rw [List.length_take, Nat.min_eq_left hl]; exact h.len, fun n c p e1 e2 => ?_, fun n p e => ?_, fun m n p e1 e2 => ?_⟩
  · have hn : n < S.length := by
      have := (List.getElem?_eq_some_iff.mp e1).1
      rw [List.length_take] at this; omega
    rw [List.getElem?_take_of_lt hn] at e1
    have e3 : (μ ++ ν)[n]? = some p := by rw [List.getElem?_append_left (by rw [h.len]; exact hn)]; exact e2
    have q := h'.cell n c p e1 e3
    cases c with
    | dead => trivial
    | lst xs => exact q
    | dic kvs => exact q
    | frz kvs => exact q
    | vec ws =>
      obtain ⟨a, vs, b, r⟩ := q
      refine ⟨a, vs, b, r.cutμ ?_⟩
      have e0 : S[n]? = some S[n] := by simp [hn]
      have o := truncOk_get ok e0 e1
      cases e4 : S[n] with
      | vec ws0 =>
        rw [e4] at o e0
        have o : refsOf ws = refsOf ws0 := of_decide_eq_true o
        rw [o]
        have q0 := h.cell n _ p e0 e2
        obtain ⟨_, vs0, _, r0⟩ := q0
        exact refs_lt r0
      | dead => rw [e4] at o; cases o
      | lst _ => rw [e4] at o; cases o
      | dic _ => rw [e4] at o; cases o
      | frz _ => rw [e4] at o; cases o
  · exact h'.there n p (pre_get ⟨ν, rfl⟩ e)
  · exact h'.nd m n p (pre_get ⟨ν, rfl⟩ e1) (pre_get ⟨ν, rfl⟩ e2)
/-- what a def hands back: a new list is frozen -/
def Cell.tree : Cell → Option T
  | .lst xs => some (.lst xs)
  | .dic kvs => some (.dct kvs)
  | _ => none
def finW (S S' : Sto) : W → Option W
  | .t x => some (.t x)
  | .r n => if n < S.length then some (.r n) else (S'[n]?.bind Cell.tree).map W.t
def callF (g : Sx) (ρ : Env) : Sto → R W := fun S => match g ρ S with
  | .rt w S' => if truncOk S S' then R.of (finW S S' w) (S'.take S.length) else .no
  | .nx _ S' => if truncOk S S' then .ok (.t .non) (S'.take S.length) else .no
  | .ex c v S' => if truncOk S S' then .ex c v (S'.take S.length) else .no
  | _ => .no
/-- .. all cells kept -/
def callK (g : Sx) (ρ : Env) : Sto → R W := fun S => match g ρ S with
  | .rt w S' => .ok w S'
  | .nx _ S' => .ok (.t .non) S'
  | .ex c v S' => .ex c v S'
  | _ => .no
abbrev Den := List W → Sto → R W
def envOf (N : Nat) (ws : List W) : Env := ws.map some ++ List.replicate (N - ws.length) none
def fnF (n N : Nat) (g : Sx) : Den := fun ws S => if ws.length = n then callF g (envOf N ws) S else .no
def fnK (n N : Nat) (g : Sx) : Den := fun ws S => if ws.length = n then callK g (envOf N ws) S else .no
/-- the promise: as the denotation says -/
def spD (K : PySem.W.Frag) (n : Nat) (den : Den) : Sp := fun vs H Q _ => ∃ (ws : List W) (S : Sto) (F : Hp) (μ : List Addr) (w : W) (S' : Sto), Rs K H S F μ ∧ RpWs K F μ ws vs ∧ ws.length = n ∧ den ws S = .ok w S' ∧
  ∀ v H' F' μ', Rs K H' S' F' μ' → Gr H F μ H' F' μ' → RpW K F' μ' w v → Q v H'
theorem start_st {K : PySem.W.Frag} {F : Hp} {μ : List Addr} {N : List Str} {ws : List W} {vs : List V} (r : RpWs K F μ ws vs) : RpSt K F μ (L2.start N vs) (envOf N.length ws) := by
  unfold L2.start envOf
  have hl := r.length
  refine ⟨by simp [hl], fun i w e => ?_⟩
  by_cases hi : i < ws.length
  · rw [List.getElem?_append_left (by simpa using hi), List.getElem?_map] at e
    obtain ⟨w', hw, e2⟩ := map1 e
    cases e2
    obtain ⟨v, h1, h2⟩ := r.get hw
    exact ⟨v, by rw [List.getElem?_append_left (by simp; omega), List.getElem?_map, h1]; rfl, h2⟩
  · rw [List.getElem?_append_right (by simpa using hi), List.getElem?_replicate] at e
    split at e <;> cases e
section
variable {P : Program} {w : World} {K : PySem.W.Frag} {mg : Str → Option Value} {base : Heap} {x qual : Str} {st : Stmt} {f : Addr} {fd : FuncData} {N ps : List Str} {k : Nat} {g : Sx}
/-- the body's end, as the def's end -/
theorem end_holds {H F : Hp} {μ : List Addr} {S : Sto} {ρ : Env} {Q : VK} {r : W} {S' : Sto} (h : Rs K H S F μ) (e : callF g ρ S = .ok r S')
    (hQ : ∀ v H' F' μ', Rs K H' S' F' μ' → Gr H F μ H' F' μ' → RpW K F' μ' r v → Q v H') : (g ρ S).holds K H F μ { nx := fun _ H' => Q .non H', rt := Q } := by
  unfold callF at e
  cases q : g ρ S with
  | nx ρ1 S1 =>
    rw [q] at e
    obtain ⟨ok, e⟩ := if_ok e
    cases e
    intro σ' H' F' μ' r' g' s'
    obtain ⟨ν, rfl⟩ := g'.pre
    exact hQ .non H' F' μ (h.trunc r' ok) ⟨g'.same, ⟨[], by simp⟩, fun b o a1 a2 a3 => let ⟨z1, z2, _⟩ := g'.keep b o a1 a2 a3; ⟨z1, z2, a3⟩, g'.lk⟩ (show Rp _ _ _ _ from .non)
  | rt w1 S1 =>
    rw [q] at e
    obtain ⟨ok, e⟩ := if_ok e
    obtain ⟨e2, rfl⟩ := R.of_eq e
    intro v H' F' μ' r' g' q'
    obtain ⟨ν, rfl⟩ := g'.pre
    have gg : Gr H F μ H' F' μ := ⟨g'.same, ⟨[], by simp⟩, fun b o a1 a2 a3 => let ⟨z1, z2, _⟩ := g'.keep b o a1 a2 a3; ⟨z1, z2, a3⟩, g'.lk⟩
    have rt := h.trunc r' ok
    cases w1 with
    | t y =>
      cases e2
      exact hQ v H' F' μ rt gg q'
    | r n =>
      have e2 : (if n < S.length then some (W.r n) else (S1[n]?.bind Cell.tree).map W.t) = some r := e2
      obtain ⟨p, hp, rfl⟩ := q'
      split at e2
      · rename_i hn
        cases e2
        rw [List.getElem?_append_left (by rw [h.len]; exact hn)] at hp
        exact hQ _ H' F' μ rt gg ⟨p, hp, rfl⟩
      · rename_i hn
        cases hc : S1[n]? with
        | none => rw [hc] at e2; cases e2
        | some c =>
          rw [hc] at e2
          have nM : p ∉ μ := fun z => by
            obtain ⟨m, hm⟩ := List.getElem?_of_mem z
            have := r'.nd m n p (pre_get ⟨ν, rfl⟩ hm) hp
            have hm' := (List.getElem?_eq_some_iff.mp hm).1
            rw [h.len] at hm'; omega
          have q0 := r'.cell n c p hc hp
          obtain ⟨y, hy, rfl⟩ := map1 (show (c.tree).map W.t = some r from e2)
          have nH : ∀ o, H p ≠ some o ∨ F p ≠ none := fun o => by
            by_cases z : H p = some o
            · right
              intro zF
              have := (g'.keep p o z zF nM).2.2
              exact this (List.mem_of_getElem? hp)
            · exact .inl z
          cases c with
          | dead => cases hy
          | vec _ => cases hy
          | frz _ => cases hy
          | lst xs =>
            cases hy
            obtain ⟨nF, vs, hv, rr⟩ := q0
            have sm : Same F' (upd F' p (.lst vs)) := fun b u e => by rw [upd_ne (ne_of_none e nF)]; exact e
            refine hQ _ H' (upd F' p (.lst vs)) μ (rt.freeze hv nF nM) ⟨gg.same.trans sm, gg.pre, fun b o a1 a2 a3 => ?_, gg.lk⟩ (show Rp _ _ _ _ from .lst upd_same (rr.mono sm))
            obtain ⟨z1, z2, z3⟩ := gg.keep b o a1 a2 a3
            have ne : b ≠ p := fun z => by
              subst z
              rcases nH o with y | y
              · exact y a1
              · exact y a2
            exact ⟨z1, by rw [upd_ne ne]; exact z2, z3⟩
          | dic kvs =>
            cases hy
            obtain ⟨nF, vs, hv, rr⟩ := q0
            have sm : Same F' (upd F' p (.dK vs)) := fun b u e => by rw [upd_ne (ne_of_none e nF)]; exact e
            refine hQ _ H' (upd F' p (.dK vs)) μ (rt.freeze hv nF nM) ⟨gg.same.trans sm, gg.pre, fun b o a1 a2 a3 => ?_, gg.lk⟩ (show Rp _ _ _ _ from .dct upd_same (rr.mono sm))
            obtain ⟨z1, z2, z3⟩ := gg.keep b o a1 a2 a3
            have ne : b ≠ p := fun z => by
              subst z
              rcases nH o with y | y
              · exact y a1
              · exact y a2
            exact ⟨z1, by rw [upd_ne ne]; exact z2, z3⟩
  | bk _ _ => rw [q] at e; cases e
  | ct _ _ => rw [q] at e; cases e
  | ex _ _ _ =>
    rw [q] at e
    obtain ⟨_, e⟩ := if_ok e
    cases e
  | no => rw [q] at e; cases e
theorem endK_holds {H F : Hp} {μ : List Addr} {S : Sto} {ρ : Env} {Q : VK} {r : W} {S' : Sto} (e : callK g ρ S = .ok r S')
    (hQ : ∀ v H' F' μ', Rs K H' S' F' μ' → Gr H F μ H' F' μ' → RpW K F' μ' r v → Q v H') : (g ρ S).holds K H F μ { nx := fun _ H' => Q .non H', rt := Q } := by
  unfold callK at e
  cases q : g ρ S with
  | nx ρ1 S1 => rw [q] at e; cases e; exact fun σ' H' F' μ' r' g' s' => hQ .non H' F' μ' r' g' (show Rp _ _ _ _ from .non)
  | rt w1 S1 => rw [q] at e; cases e; exact hQ
  | bk _ _ => rw [q] at e; cases e
  | ct _ _ => rw [q] at e; cases e
  | ex _ _ _ => rw [q] at e; cases e
  | no => rw [q] at e; cases e
theorem spD_len {n : Nat} {den : Den} (hn : n = ps.length) : ∀ vs H Q E, spD K n den vs H Q E → vs.length = ps.length := by
  rintro vs H Q E ⟨ws, S, F, μ, r, S', _, rw', hl, _⟩
  rw [← rw'.length, hl, hn]
/-- a def does what sp says, wherever there is room (as L2's FnOk, but nobody is being shown) -/
structure FnG (P : Program) (w : World) (K : PySem.W.Frag) (mg : Str → Option Value) (base : Heap) (k : Nat) (f : Addr) (fd : FuncData) (ps : List Str) (sp : Sp) : Prop where
  many : ∀ vs H Q E, sp vs H Q E → vs.length = ps.length
  runs : ∀ (A : Around) (up : List PySem.Env) (z : Shared) (H : Hp) (given : Args) (us : List Value) (vs : List V) (Q : VK) (E : XK), RoomG k A → Env0 P w K mg base A up z H → BindsTo z fd given (ps.zip us) → Vals vs us →
    sp vs H Q E → codeAny (model P w) A (.call (.ref f) given) (CR CX0 up P w H z Q E) z
/-- a def of the text: what its body must do -/
theorem fnG_of (F : Fun K x qual st f fd) {sp : Sp} (T : FnScope N ps (defScope st)) (many : ∀ vs H Q E, sp vs H Q E → vs.length = ps.length)
    (inside : ∀ (cdv : Value) (A : Around) (up : List PySem.Env) (z : Shared) (H : Hp) (vs : List V) (Q : VK) (E : XK), RoomG k (A.deeper (envOfC qual (defScope st) z.heap.objs.size f cdv)) → sp vs H Q E →
      ∃ t, PSs (cxOf CX0 P w K mg base N qual (defScope st) f cdv A up z H E).nox (defBody st) t ∧ t { nx := fun _ H' => Q .non H', rt := Q } (L2.start N vs) H) : FnG P w K mg base (k + 1) f fd ps sp := by
  obtain ⟨oc, od, kV, doc, pm, an, cdv, ct, osl, rfl, lk, hcd⟩ := F.ex
  refine ⟨many, fun A up z H given us vs Q E room e0 bound rel wish => ?_⟩
  have old : ∀ b o, base.get? b = some o → z.heap.get? b = some o := fun b o e => (e0.bs b o e).1
  have kin : K.In z.heap := e0.mod.kin.keeps old
  have kinds : ∀ y ∈ ps.zip us, (defScope st).names.lookup y.1 = some .local ∨ ((defScope st).names.lookup y.1 = some .cell ∧ ((cellsFrom (z.heap.objs.size + 1) (defScope st).names []).lookup y.1).isSome = true) := by
    rintro ⟨n, v⟩ hy
    exact (T.par n (List.of_mem_zip hy).1).elim .inl fun q => .inr ⟨q, PySem.W.cellsFrom_some _ _ _ (.inl q)⟩
  refine codeAny_call_function room.toRoom.depth (kin _ _ lk) rfl T.co T.gen rfl (PySem.W.codeRec_of kin hcd) (bound _ _ _ _ (wpAny_newFunctionEnv_cells T.kind kinds fun env he z1 inn => ?_))
  subst he
  refine ⟨(e0.mod.nolimit.keeps old).keeps inn.toInCall.keep, codeAny_func ?_⟩
  obtain ⟨t, ht, hq⟩ := inside cdv A up z H vs Q E (room.call _) wish
  have J0 := inv_start (CX := CX0) (E := E) T room.toRoom.hd e0 (many _ _ _ _ wish) rel inn
  refine wpAny_mono (ht.nox.run [] z1 (L2.start N vs) H _ J0 hq) (fun fl z' got => ?_) fun _ _ got => got
  cases fl with
  | ret u => obtain ⟨v, σ', H', J, rv, q⟩ := got; exact ⟨v, H', J.os, J.bare, J.base, J.hok, rv, q⟩
  | next => obtain ⟨σ', H', J, q⟩ := got; exact ⟨V.non, H', J.os, J.bare, J.base, J.hok, rfl, q⟩
  | brk => obtain ⟨_, _, _, q⟩ := got; exact q.elim
  | cont => obtain ⟨_, _, _, q⟩ := got; exact q.elim
/-- a def, by its body's derivation -/
theorem fn_ok (F : Fun K x qual st f fd) (S : FnScope N ps (defScope st))
    (hb : ∀ (cdv : Value) (A : Around) (outer : List PySem.Env) (s : Shared) (H : Hp) (E : XK), RoomG k (A.deeper (envOfC qual (defScope st) s.heap.objs.size f cdv)) → DSs (cxOf CX0 P w K mg base N qual (defScope st) f cdv A outer s H E).nox (defBody st) g) :
    FnG P w K mg base (k + 1) f fd ps (spD K ps.length (fnF ps.length N.length g)) := by
  refine fnG_of F S (spD_len rfl) fun cdv A outer s H vs Q E hr h => ?_
  obtain ⟨ws, S0, F0, μ, r, S', h0, rw', hl, e, hQ⟩ := h
  refine ⟨_, pssW, hb cdv A outer s H E hr (L2.start N vs) H (envOf N.length ws) S0 F0 μ _ h0 (start_st rw') ?_⟩
  unfold fnF at e
  rw [if_pos hl] at e
  exact end_holds h0 e hQ
theorem fn_okK (F : Fun K x qual st f fd) (S : FnScope N ps (defScope st))
    (hb : ∀ (cdv : Value) (A : Around) (outer : List PySem.Env) (s : Shared) (H : Hp) (E : XK), RoomG k (A.deeper (envOfC qual (defScope st) s.heap.objs.size f cdv)) → DSs (cxOf CX0 P w K mg base N qual (defScope st) f cdv A outer s H E).nox (defBody st) g) :
    FnG P w K mg base (k + 1) f fd ps (spD K ps.length (fnK ps.length N.length g)) := by
  refine fnG_of F S (spD_len rfl) fun cdv A outer s H vs Q E hr h => ?_
  obtain ⟨ws, S0, F0, μ, r, S', h0, rw', hl, e, hQ⟩ := h
  refine ⟨_, pssW, hb cdv A outer s H E hr (L2.start N vs) H (envOf N.length ws) S0 F0 μ _ h0 (start_st rw') ?_⟩
  unfold fnK at e
  rw [if_pos hl] at e
  exact endK_holds e hQ
end
section
variable {X : Cx} {CX : CXT} {k n : Nat} {f : Addr} {fd : FuncData} {ps : List Str} {den : Den} {x : Str} {p pos : Pos} {e : Expr} {es : List Expr} {fs : Exs}
/-- a call of such a def -/
theorem pe_callG {sp : Sp} {t : TA} (F : FnG X.prog X.w X.K X.mg X.base k f fd ps sp) (hr : RoomG k X.A) (hg : Gl X x) (hm : X.mg x = some (.ref f)) (hk : PySem.W.keepIn X.K (.ref f) = true) (hb : Binds X.K fd ps [])
    (ha : PA X (e :: es) t) (hdb : (x == ("__debug__" : Str)) = false) (he : starEach (e :: es) X.env = (false, eval e X.env) :: starEach es X.env) (hpl : (backTo pos (starEach es X.env)).any (·.1) = false) :
    PE X (.Call (.Name x p) (e :: es) [] pos) (fun σ H Q => t σ H fun vs H1 => sp vs H1 Q E0) := by
  refine ⟨fun pins s σ H Q I h => wpAny_Call_Name_kw (ld_glob I hg hm (PySem.W.callWith_K (h₀ := X.base) I.ok.mod.kin hk (thn (ha.run pos pins s σ H _ I h) fun us s1 got => ?_) he hpl) hdb)⟩
  obtain ⟨vs, H1, I1, rel, wish⟩ := got
  refine ⟨I1.kIn, wpAny_call (codeAny_mono (F.runs X.A X.stack s1 H1 ⟨us, []⟩ us vs Q E0 hr I1.env0 ?_ rel wish) fun r s' hq => ?_)⟩
  · have bd := hb s1 us I1.kIn (by rw [List.append_nil, ← rel.length]; exact F.many _ _ _ _ wish)
    rw [List.append_nil] at bd
    exact bd
  · match r, hq with
    | .error e, hq => exact (show False from hq).elim
    | .ok (.ret u), hq => exact I1.after hq
    | .ok .next, hq => exact (show False from hq).elim
    | .ok .brk, hq => exact (show False from hq).elim
    | .ok .cont, hq => exact (show False from hq).elim
def eFn (n : Nat) (den : Den) (fs : Exs) : Ex := fun ρ S => (fs ρ S).bind fun ws S1 => if ws.length = n then den ws S1 else .no
/-- f(e, ..) -/
theorem de_call (F : FnG X.prog X.w X.K X.mg X.base k f fd ps (spD X.K n den)) (hr : RoomG k X.A) (hg : Gl X x) (hm : X.mg x = some (.ref f)) (hk : PySem.W.keepIn X.K (.ref f) = true) (hb : Binds X.K fd ps [])
    (ha : DA X (e :: es) fs) (hdb : (x == ("__debug__" : Str)) = false := by decide) (he : starEach (e :: es) X.env = (false, eval e X.env) :: starEach es X.env := by rfl) (hpl : (backTo pos (starEach es X.env)).any (·.1) = false := by rfl) :
    DE X (.Call (.Name x p) (e :: es) [] pos) (eFn n den fs) := by
  intro σ H ρ S F' μ r S' Q h hs ee hQ
  obtain ⟨ws, S1, h1, ee⟩ := R.bind_eq ee
  split at ee
  · rename_i hl
    refine wpe (pe_callG F hr hg hm hk hb paW hdb he hpl) (ha σ H ρ S F' μ ws S1 _ h hs h1 fun vs H1 F1 μ1 r1 g1 q1 => ?_)
    exact ⟨ws, S1, F1, μ1, r, S', r1, q1, hl, ee, fun v H2 F2 μ2 r2 g2 q2 => hQ v H2 F2 μ2 r2 (g1.trans g2) q2⟩
  · cases ee
end
/-- the law's promise, from its denotation -/
theorem law_sp {K : PySem.W.Frag} {den : Den} {H : Hp} {a : Addr} {ns : List Int} {S' : Sto} (hS : SqL K H a (ns.map V.int)) (e : den [.t (.scr ns)] [] = .ok (.t (.bl true)) S') : spD K 1 den [.ref a] H (fun v _ => v = .bl true) fun _ _ _ => False := by
  refine ⟨[.t (.scr ns)], [], H, [], _, S', ⟨Same.refl _, rfl, fun n c p e _ => by simp at e, fun n p e => by simp at e, fun m n p e _ => by simp at e⟩, .cons (show Rp _ _ _ _ from .scr hS) .nil, rfl, e, fun v H' F' μ' _ _ q => ?_⟩
  have q : Rp K F' (.bl true) v := q
  cases q
  rfl
end Dl
namespace Dl
open PySem PySem.Spec PyProof.Rows L2
/-- the turns that a while is given -/
def LL : Nat := 1048576
/-- a def as its callers meet it -/
structure Cl (P : Program) (w : World) (K : PySem.W.Frag) (mg : Str → Option Value) (base : Heap) (k : Nat) (x : Str) (n : Nat) (den : Den) : Prop where
  ex : ∃ (f : Addr) (fd : FuncData) (ps : List Str), FnG P w K mg base k f fd ps (spD K n den) ∧ mg x = some (.ref f) ∧ PySem.W.keepIn K (.ref f) = true ∧ Binds K fd ps []
theorem de_callC {X : Cx} {k n : Nat} {den : Den} {x : Str} {p pos : Pos} {e : Expr} {es : List Expr} {fs : Exs} (C : Cl X.prog X.w X.K X.mg X.base k x n den) (hr : RoomG k X.A) (hg : Gl X x)
    (ha : DA X (e :: es) fs) (hdb : (x == ("__debug__" : Str)) = false := by decide) (he : starEach (e :: es) X.env = (false, eval e X.env) :: starEach es X.env := by rfl) (hpl : (backTo pos (starEach es X.env)).any (·.1) = false := by rfl) :
    DE X (.Call (.Name x p) (e :: es) [] pos) (eFn n den fs) := by
  obtain ⟨f, fd, ps, F, hm, hk, hb⟩ := C.ex
  exact de_call F hr hg hm hk hb ha hdb he hpl
/-- the built-ins that the texts name -/
structure Bt (mg : Str → Option Value) : Prop where
  len : mg "len" = none
  range : mg "range" = none
  abs : mg "abs" = none
  tuple : mg "tuple" = none
  list : mg "list" = none
  isinstance : mg "isinstance" = none
  int_ : mg "int" = none
  bool : mg "bool" = none
  str : mg "str" = none
  dict : mg "dict" = none
  zip : mg "zip" = none
  enumerate : mg "enumerate" = none
  sorted : mg "sorted" = none
  set : mg "set" = none
  all : mg "all" = none
  any : mg "any" = none
  sum : mg "sum" = none
  min : mg "min" = none
  max : mg "max" = none
  repr : mg "repr" = none
theorem fn_no {P : Program} {w : World} {K : PySem.W.Frag} {mg : Str → Option Value} {base : Heap} {k : Nat} {f : Addr} {fd : FuncData} {ps : List Str} {n : Nat} : FnG P w K mg base k f fd ps (spD K n fun _ _ => .no) :=
  ⟨fun vs H Q E ⟨_, _, _, _, _, _, _, _, _, e, _⟩ => (nomatch e), fun _ _ _ _ _ _ _ _ _ _ _ _ _ ⟨_, _, _, _, _, _, _, _, _, e, _⟩ => (nomatch e)⟩
end Dl

/-! Dl9: locked dicts, more operators, more calls. -/
namespace SrtO
open PySem PySem.Spec PyProof.Rows
section
variable {prog : Program} {w : World} {A : Around} {E : Value → Shared → Prop} {s : Shared}
/-- a tuple's items, collected into a new list -/
theorem gather_tup {tp : Addr} {items : List Value} {Q : List Value → Shared → Prop} (ht : s.heap.IsTuple tp items.toArray) (few : items.length ≤ sizeLine)
    (done : Q items { s with heap := (s.heap.push (seqObj "list" #[] 0)).update s.heap.objs.size (Obj.mapSeq (· ++ items.toArray)) }) : wpAny (model prog w) A (collect (.ref tp)) Q E s := by
  obtain ⟨ob, hob, cls, n, dat⟩ := id ht
  unfold collect
  refine wpAny_bind (wpAny_runValue (codeAny_builtin entry_proto_collect' ?_))
  show wpAny _ _ (do again (.builtin "list.__iadd__" ⟨[← newList [], .ref tp], []⟩)) _ _ s
  refine wpAny_bind (wpAny_newList (wpAny_pure ⟨Code.quiet_builtin _ (by decide +kernel), codeAny_builtin entry_list_iadd' ?_⟩))
  show wpAny _ _ (Builtin.List.listExtendWith (.ref s.heap.objs.size) (.ref tp) (.ref s.heap.objs.size)) _ _ { s with heap := s.heap.push (seqObj "list" #[] 0) }
  unfold Builtin.List.listExtendWith
  have there : (s.heap.push (seqObj "list" #[] 0)).get? tp = some ob := Heap.get?_push_of_some _ hob
  refine wpAny_bind (wpAny_typeOf (T := "tuple") ⟨ob, there, cls⟩ ?_)
  rw [if_pos (by rw [show (Value.type "tuple" == Value.type "tuple") = true from by rfl, Bool.or_true])]
  refine wpAny_bind (listItems_at there dat ?_)
  refine wpAny_bind (listItems_at (xs := #[]) (n := 0) (Heap.get?_push_size _ rfl) rfl ?_)
  rw [if_neg (by simp)]
  refine wpAny_bind (listUpdate_at (xs := #[]) (n := 0) (Heap.get?_push_size _ rfl) rfl ?_ (Nat.zero_le _) (by show (#[] ++ items.toArray).size ≤ sizeLine + 1; rw [Array.empty_append, List.size_toArray]; omega))
  refine wpAny_pure ?_
  show wpAny (model prog w) A (do
      let o ← load s.heap.objs.size
      match o.data with
      | .seq xs _ => pure xs.toList
      | _ => unsupported "internal:collect") Q E { s with heap := (s.heap.push (seqObj "list" #[] 0)).update s.heap.objs.size (Obj.mapSeq (· ++ items.toArray)) }
  refine wpAny_bind (wpAny_load (get?_update_seq (Heap.get?_push_size _ rfl) _) ?_)
  show wpAny _ _ (pure ((#[] : Array Value) ++ items.toArray).toList) Q E _
  have e : ((#[] : Array Value) ++ items.toArray).toList = items := by simp
  rw [e]
  exact wpAny_pure done
/-- sorted(t), t a tuple -/
theorem sorted_tup {tp : Addr} {items : List Value} {before : Value → Value → Bool} {Q : Value → Shared → Prop} (O : Swo before) (ht : s.heap.IsTuple tp items.toArray) (few : items.length ≤ sizeLine)
    (hS : 2 ≤ items.length → ∀ (h₁ : Heap) (a : Addr), h₁.get? a = some (seqObj "list" items.toArray 0) → (∀ b o, s.heap.get? b = some o → b ≠ a ∧ h₁.get? b = some o) → SortableO prog w A.in1.in1 { s with heap := h₁ } a items before)
    (done : ∀ out : List Value, Srtd before out → Stb before out items → Q (.ref (s.heap.objs.size + 1)) { s with heap := sortedAll s.heap items out.toArray }) :
    wpAny (model prog w) A (call (.builtin "sorted") [.ref tp]) Q E s := by
  refine Calls.call_function_entry kind_sorted plain_sorted entry_sorted (args_sorted1 _) ?_
  unfold Builtin.«sorted»
  refine wpAny_bind (m := checkCount "sorted" 1 1 _) (wpAny_pure (wpAny_bind (gather_tup ht few (wpAny_bind (wpAny_newList ?_ few)))))
  let hp := (s.heap.push (seqObj "list" #[] 0)).update s.heap.objs.size (Obj.mapSeq (· ++ items.toArray))
  have size1 : hp.objs.size = s.heap.objs.size + 1 := by show Array.size (Heap.objs (Heap.update _ _ _)) = _; rw [Heap.size_update, size_push']
  have new1 : (hp.push (seqObj "list" items.toArray 0)).get? (s.heap.objs.size + 1) = some (seqObj "list" items.toArray 0) := by
    rw [← size1]; exact Heap.get?_push_size _ rfl
  have old1 : ∀ b o, s.heap.get? b = some o → b ≠ s.heap.objs.size + 1 ∧ (hp.push (seqObj "list" items.toArray 0)).get? b = some o := fun b o q => by
    have lt : b < s.heap.objs.size := Heap.lt_size q
    refine ⟨Nat.ne_of_lt (Nat.lt_succ_of_lt lt), Heap.get?_push_of_some _ ?_⟩
    show Heap.get? (Heap.update _ _ _) b = some o
    rw [Heap.get?_update_ne _ _ _ _ (Nat.ne_of_lt lt)]
    exact Heap.get?_push_of_some _ q
  show wpAny _ _ _ _ _ { s with heap := hp.push (seqObj "list" items.toArray 0) }
  rw [show ((s.heap.push (seqObj "list" #[] 0)).update s.heap.objs.size (Obj.mapSeq (· ++ items.toArray))).objs.size = s.heap.objs.size + 1 from size1]
  refine wpAny_bind (wpAny_holding (wpAny_call_entry slot_list_sort ⟨_, new1, rfl⟩ entry_list_sort (list_sort_ord O new1 few (fun two => hS two _ _ new1 old1) fun out sd sb => ⟨_, rfl, ?_⟩) (args_list_sort _)))
  exact wpAny_pure ⟨_, rfl, done out sd sb⟩
end
end SrtO
namespace Dl
open PySem PySem.Spec PyProof.Rows L2

section
variable {K : PySem.W.Frag} {H F : Hp} {μ : List Addr} {S : Sto}
/-- the n-th cell is written, told by what stands there -/
theorem Rs.putG {p : Addr} {n : Nat} {c' : Cell} {o : HO} (h : Rs K H S F μ) (hl : n < S.length) (nF : F p = none) (hμ : μ[n]? = some p) (hc : RpC K (upd H p o) F μ p c') : Rs K (upd H p o) (S.set n c') F μ := by
  refine ⟨fun b u e => by rw [upd_ne (ne_of_none e nF)]; exact h.sub _ _ e, by simpa using h.len, fun m c2 q e1 e2 => ?_, fun m q e => ?_, h.nd⟩
  · by_cases hm : m = n
    · subst hm
      rw [List.getElem?_set_self hl] at e1
      rw [hμ] at e2
      cases e1; cases e2
      exact hc
    · rw [List.getElem?_set_ne (Ne.symm hm)] at e1
      have ne : q ≠ p := fun z => hm (h.nd m n q e2 (by rw [z]; exact hμ))
      have q0 := h.cell m c2 q e1 e2
      cases c2 with
      | dead => trivial
      | lst xs => obtain ⟨a, vs, b, r⟩ := q0; exact ⟨a, vs, by rw [upd_ne ne]; exact b, r⟩
      | vec ws => obtain ⟨a, vs, b, r⟩ := q0; exact ⟨a, vs, by rw [upd_ne ne]; exact b, r⟩
      | dic kvs => obtain ⟨a, vs, b, r⟩ := q0; exact ⟨a, vs, by rw [upd_ne ne]; exact b, r⟩
      | frz kvs => obtain ⟨a, vs, ⟨o', b⟩, r⟩ := q0; exact ⟨a, vs, ⟨o', by rw [upd_ne ne]; exact b⟩, r⟩
  · by_cases z : q = p
    · rw [z, upd_same]; exact fun z => nomatch z
    · rw [upd_ne z]; exact h.there m q e
/-- the lock is taken off -/
theorem unlock_rs {H' F' : Hp} {μ' : List Addr} {S' : Sto} {p : Addr} {n : Nat} {od : Obj} {kvs kvs' : List (Key × T)} {us : List (Key × V)} (h : Rs K H S F μ) (hn : S[n]? = some (.dic kvs)) (hp : μ[n]? = some p) (hH : H p = some (.dK us)) (hr : Rpk K F kvs us)
    (h' : Rs K H' S' F' μ') (g : Gr (upd H p (.frz od (.dK us))) F μ H' F' μ') (hn' : S'[n]? = some (.frz kvs')) : H' p = some (.frz od (.dK us)) ∧ Rs K (upd H' p (.dK us)) (S'.set n (.dic kvs)) F' μ' ∧ Gr H F μ (upd H' p (.dK us)) F' μ' := by
  have hp' := pre_get g.pre hp
  obtain ⟨nF, _⟩ := h'.cell n _ p hn' hp'
  refine ⟨g.lk p od _ upd_same, h'.putG (List.getElem?_eq_some_iff.mp hn').1 nF hp' ⟨nF, us, upd_same, hr.mono g.same⟩, ⟨g.same, g.pre, fun b o h1 h2 h3 => ?_, fun b o u e => ?_⟩⟩
  · have ne : b ≠ p := fun z => h3 (z ▸ List.mem_of_getElem? hp)
    obtain ⟨q1, q2, q3⟩ := g.keep b o (by rw [upd_ne ne]; exact h1) h2 h3
    exact ⟨by rw [upd_ne ne]; exact q1, q2, q3⟩
  · have ne : b ≠ p := fun z => by rw [z, hH] at e; cases e
    rw [upd_ne ne]
    exact g.lk b o u (by rw [upd_ne ne]; exact e)
end
/-- the lock's end -/
def unl (n : Nat) (kvs : List (Key × T)) (S : Sto) : Option Sto := match S[n]? with
  | some (.frz _) => some (S.set n (.dic kvs))
  | _ => none
theorem unl_eq {n : Nat} {kvs : List (Key × T)} {S S' : Sto} (h : unl n kvs S = some S') : ∃ kvs', S[n]? = some (.frz kvs') ∧ S' = S.set n (.dic kvs) := by
  unfold unl at h
  split at h
  · rename_i k e; cases h; exact ⟨_, e, rfl⟩
  · cases h
def unlO (n : Nat) (kvs : List (Key × T)) (o : O) : O := match o with
  | .nx ρ S => match unl n kvs S with
    | some S' => .nx ρ S'
    | none => .no
  | .rt w S => match unl n kvs S with
    | some S' => .rt w S'
    | none => .no
  | .bk ρ S => match unl n kvs S with
    | some S' => .bk ρ S'
    | none => .no
  | .ct ρ S => match unl n kvs S with
    | some S' => .ct ρ S'
    | none => .no
  | _ => .no
/-- a statement that walks through the dict of a slot -/
def sLock (i : Nat) (g : Sx) : Sx := fun ρ S => match ρ[i]? with
  | some (some (.r n)) => (match S[n]? with
    | some (.dic kvs) => unlO n kvs (g ρ (S.set n (.frz kvs)))
    | _ => .no)
  | _ => .no
def eLock (i : Nat) (f : Ex) : Ex := fun ρ S => match ρ[i]? with
  | some (some (.r n)) => (match S[n]? with
    | some (.dic kvs) => (f ρ (S.set n (.frz kvs))).bind fun w S1 => (match unl n kvs S1 with
      | some S2 => .ok w S2
      | none => .no)
    | _ => .no)
  | _ => .no
section
variable {X : Cx} {st : Stmt} {e a b o : Expr} {es : List Expr} {g : Sx} {f fa fb : Ex} {fs : Exs} {pos : Pos} {i : Nat}
theorem ds_lock (i : Nat) (h : DS X st g) : DS X st (sLock i g) := by
  intro σ H ρ S F μ D h0 hs q
  unfold sLock at q
  split at q
  · rename_i n hi
    split at q
    · rename_i kvs hn
      obtain ⟨v, hv, p, hp, rfl⟩ := hs.get i _ hi
      obtain ⟨nF, us, hH, hr⟩ := h0.cell n _ p hn hp
      refine wps (ps_lock psW) ⟨p, _, hH, trivial, fun od => ?_⟩
      have hl := (List.getElem?_eq_some_iff.mp hn).1
      have r1 : Rs X.K (upd H p (.frz od (.dK us))) (S.set n (.frz kvs)) F μ := h0.putG hl nF hp ⟨nF, us, ⟨od, upd_same⟩, hr⟩
      refine h σ _ ρ _ F μ _ r1 hs ?_
      unfold unlO at q
      split at q
      · rename_i ρ' S' eq
        rw [eq]
        intro σ' H' F' μ' r' g' s'
        split at q
        · rename_i S2 eu
          obtain ⟨kvs', hn', rfl⟩ := unl_eq eu
          obtain ⟨z1, z2, z3⟩ := unlock_rs h0 hn hp hH hr r' g' hn'
          exact ⟨z1, q σ' _ F' μ' z2 z3 s'⟩
        · exact False.elim q
      · rename_i w' S' eq
        rw [eq]
        intro v' H' F' μ' r' g' s'
        split at q
        · rename_i S2 eu
          obtain ⟨kvs', hn', rfl⟩ := unl_eq eu
          obtain ⟨z1, z2, z3⟩ := unlock_rs h0 hn hp hH hr r' g' hn'
          exact ⟨z1, q v' _ F' μ' z2 z3 s'⟩
        · exact False.elim q
      · rename_i ρ' S' eq
        rw [eq]
        intro σ' H' F' μ' r' g' s'
        split at q
        · rename_i S2 eu
          obtain ⟨kvs', hn', rfl⟩ := unl_eq eu
          obtain ⟨z1, z2, z3⟩ := unlock_rs h0 hn hp hH hr r' g' hn'
          exact ⟨z1, q σ' _ F' μ' z2 z3 s'⟩
        · exact False.elim q
      · rename_i ρ' S' eq
        rw [eq]
        intro σ' H' F' μ' r' g' s'
        split at q
        · rename_i S2 eu
          obtain ⟨kvs', hn', rfl⟩ := unl_eq eu
          obtain ⟨z1, z2, z3⟩ := unlock_rs h0 hn hp hH hr r' g' hn'
          exact ⟨z1, q σ' _ F' μ' z2 z3 s'⟩
        · exact False.elim q
      · exact False.elim q
    · exact False.elim q
  · exact False.elim q
theorem de_lock (i : Nat) (h : DE X e f) : DE X e (eLock i f) := by
  intro σ H ρ S F μ w S' Q h0 hs ee hQ
  unfold eLock at ee
  split at ee
  · rename_i n hi
    split at ee
    · rename_i kvs hn
      obtain ⟨w1, S1, e1, e2⟩ := R.bind_eq ee
      split at e2
      · rename_i S2 eu
        cases e2
        obtain ⟨kvs', hn', rfl⟩ := unl_eq eu
        obtain ⟨v, hv, p, hp, rfl⟩ := hs.get i _ hi
        obtain ⟨nF, us, hH, hr⟩ := h0.cell n _ p hn hp
        refine wpe (pe_lock peW) ⟨p, _, hH, trivial, fun od => ?_⟩
        have hl := (List.getElem?_eq_some_iff.mp hn).1
        have r1 : Rs X.K (upd H p (.frz od (.dK us))) (S.set n (.frz kvs)) F μ := h0.putG hl nF hp ⟨nF, us, ⟨od, upd_same⟩, hr⟩
        refine h σ _ ρ _ F μ _ _ _ r1 hs e1 fun v' H' F' μ' r' g' s' => ?_
        obtain ⟨z1, z2, z3⟩ := unlock_rs h0 hn hp hH hr r' g' hn'
        exact ⟨z1, hQ v' _ F' μ' z2 z3 s'⟩
      · cases e2
    · cases ee
  · cases ee
/-- the keys of a locked dict -/
def keyT : Key → T
  | .inl i => .int i
  | .inr x => .str x
def gFrz (n : Nat) : Sto → Bool := fun S => match S[n]? with
  | some (.frz _) => true
  | _ => false
def frzOf (i : Nat) (ρ : Env) (S : Sto) : Option (Nat × List (Key × T)) := match ρ[i]? with
  | some (some (.r n)) => (match S[n]? with
    | some (.frz kvs) => some (n, kvs)
    | _ => none)
  | _ => none
def srcD (i : Nat) : Srcx := fun ρ S => match frzOf i ρ S with
  | some (n, kvs) => .ok ⟨kvs.map fun kv => .one (.t (keyT kv.1)), gFrz n⟩ S
  | none => .no
def srcIt (i : Nat) : Srcx := fun ρ S => match frzOf i ρ S with
  | some (n, kvs) => .ok ⟨kvs.map fun kv => .tp [.t (keyT kv.1), .t kv.2], gFrz n⟩ S
  | none => .no
theorem frzOf_eq {i : Nat} {ρ : Env} {S : Sto} {n : Nat} {kvs : List (Key × T)} (h : frzOf i ρ S = some (n, kvs)) : ρ[i]? = some (some (.r n)) ∧ S[n]? = some (.frz kvs) := by
  unfold frzOf at h
  split at h
  · rename_i m hm
    split at h
    · rename_i k hk; cases h; exact ⟨hm, hk⟩
    · cases h
  · cases h
theorem Rpk.get {K : PySem.W.Frag} {F : Hp} : ∀ {kvs : List (Key × T)} {us : List (Key × V)} {i : Nat} {kv : Key × T}, Rpk K F kvs us → kvs[i]? = some kv → ∃ v, us[i]? = some (kv.1, v) ∧ Rp K F kv.2 v
  | _, _, _, _, .nil, e => by simp at e
  | _, _, 0, _, .cons r _, e => by simp at e; subst e; exact ⟨_, rfl, r⟩
  | _, _, i + 1, x, .cons _ t, e => by
    obtain ⟨u, h1, h2⟩ := Rpk.get (i := i) (kv := x) t (by simpa using e)
    exact ⟨u, by simpa using h1, h2⟩
theorem keyT_rp {K : PySem.W.Frag} {F : Hp} (k : Key) : Rp K F (keyT k) (kV k) := by
  cases k with
  | inl i => exact .int i
  | inr x => exact .str x
variable {tg : Expr}
theorem wk_keys {K : PySem.W.Frag} {H F : Hp} {μ : List Addr} {p : Addr} {o : Obj} {n : Nat} {kvs : List (Key × T)} {us : List (Key × V)} (hH : H p = some (.frz o (.dK us))) (hr : Rpk K F kvs us) :
    Wk K (Itk p o us) ⟨kvs.map fun kv => .one (.t (keyT kv.1)), gFrz n⟩ H F μ := by
  have hl := Rpk.length hr
  refine ⟨fun H2 S2 F2 μ2 i r2 gr hg hi => ⟨gr.lk _ _ _ hH, by simpa [← hl] using hi⟩, fun H2 S2 F2 μ2 r2 gr hg => ⟨gr.lk _ _ _ hH, by simp [← hl]⟩, fun H2 S2 F2 μ2 i it x H3 r2 gr hg hi hy => ?_⟩
  have hi : (kvs.map fun kv => Item.one (.t (keyT kv.1)))[i]? = some it := hi
  rw [List.getElem?_map] at hi
  obtain ⟨kv, hk, rfl⟩ := map1 hi
  obtain ⟨rfl, k, v, e, rfl⟩ := hy
  obtain ⟨u, h1, h2⟩ := hr.get hk
  rw [h1] at e
  cases e
  exact ⟨r2, Gr.refl, keyT_rp _⟩
theorem wk_items {K : PySem.W.Frag} {H F : Hp} {μ : List Addr} {p : Addr} {o : Obj} {n : Nat} {kvs : List (Key × T)} {us : List (Key × V)} (hH : H p = some (.frz o (.dK us))) (hr : Rpk K F kvs us) :
    Wk K (Iti p o us) ⟨kvs.map fun kv => .tp [.t (keyT kv.1), .t kv.2], gFrz n⟩ H F μ := by
  have hl := Rpk.length hr
  refine ⟨fun H2 S2 F2 μ2 i r2 gr hg hi => ⟨gr.lk _ _ _ hH, by simpa [← hl] using hi⟩, fun H2 S2 F2 μ2 r2 gr hg => ⟨gr.lk _ _ _ hH, by simp [← hl]⟩, fun H2 S2 F2 μ2 i it x H3 r2 gr hg hi hy => ?_⟩
  have hi : (kvs.map fun kv => Item.tp [.t (keyT kv.1), .t kv.2])[i]? = some it := hi
  rw [List.getElem?_map] at hi
  obtain ⟨kv, hk, rfl⟩ := map1 hi
  obtain ⟨T, k, v, e, rfl, hT, rfl⟩ := hy
  obtain ⟨u, h1, h2⟩ := hr.get hk
  rw [h1] at e
  cases e
  exact ⟨r2.heap _ (r2.notF hT) (r2.notM hT), Gr.updH Gr.refl hT, T, _, rfl, hT, upd_same, .cons (keyT_rp _) (.cons (show Rp _ _ _ _ from h2.mono gr.same) .nil)⟩
theorem ds_dict {x : Str} (hN : X.N[i]? = some x := by rfl) (hv : Vis X.env.scope x := by first | exact Or.inl rfl | exact Or.inr (Or.inl rfl) | exact Or.inr (Or.inr rfl)) (hd : (x == ("__debug__" : Str)) = false := by decide)
    (hcd : (x == ("__classdict__" : Str)) = false := by decide) : DI X tg (.Name x pos) (srcD i) := by
  intro σ H ρ S F μ its S' R' h hs e hQ
  unfold srcD at e
  split at e
  · rename_i n kvs hf
    cases e
    obtain ⟨h1, h2⟩ := frzOf_eq hf
    obtain ⟨v, hv', p, hp, rfl⟩ := hs.get i _ h1
    obtain ⟨nF, us, ⟨o, hH⟩, hr⟩ := h.cell n _ p h2 hp
    exact wpi (pi_keys (pe_var hN hv hd hcd)) ⟨_, hv', p, o, rfl, .inl ⟨us, hH, hQ _ H F μ h Gr.refl (wk_keys hH hr) (by show gFrz n S = true; unfold gFrz; rw [h2])⟩⟩
  · cases e
theorem ds_items {x : Str} {elts : List Expr} {kk : Nat} {tpos p1 apos cpos : Pos} (hN : X.N[i]? = some x := by rfl) (hv : Vis X.env.scope x := by first | exact Or.inl rfl | exact Or.inr (Or.inl rfl) | exact Or.inr (Or.inr rfl)) (hd : (x == ("__debug__" : Str)) = false := by decide)
    (hcd : (x == ("__classdict__" : Str)) = false := by decide) (hbase : attributeBase (.Name x p1) "items" X.env (eval (.Name x p1) X.env) = eval (.Name x p1) X.env := by rfl) (hline : (apos.endLine == cpos.line) = true := by rfl) :
    DI X (.Tuple elts kk tpos) (.Call (.Attribute (.Name x p1) "items" apos) [] [] cpos) (srcIt i) := by
  intro σ H ρ S F μ its S' R' h hs e hQ
  unfold srcIt at e
  split at e
  · rename_i n kvs hf
    cases e
    obtain ⟨h1, h2⟩ := frzOf_eq hf
    obtain ⟨v, hv', p, hp, rfl⟩ := hs.get i _ h1
    obtain ⟨nF, us, ⟨o, hH⟩, hr⟩ := h.cell n _ p h2 hp
    exact wpi (pi_items (pe_var hN hv hd hcd) hbase hline) ⟨_, hv', p, o, us, rfl, hH, hQ _ H F μ h Gr.refl (wk_items hH hr) (by show gFrz n S = true; unfold gFrz; rw [h2])⟩
  · cases e
end

/-! ### new lists as cells -/
def OpL (X : Cx) (f : Value → Value → Sem Value) (g : T → T → Option (List T)) : Prop := ∃ r : R2, OpR X f r ∧ ∀ (H : Hp) (S : Sto) (F : Hp) (μ : List Addr) (x y : T) (v u : V) (ys : List T) (Q : VK),
  Rs X.K H S F μ → Rv X.K H F x v → Rv X.K H F y u → g x y = some ys → (∀ (p : Addr) (us : List V), H p = none → Rps X.K F ys us → Q (.ref p) (upd H p (.lst us))) → r v u H Q
def e2L (g : T → T → Option (List T)) (fa fb : Ex) : Ex := fun ρ S => (fa ρ S).bind fun w1 S1 => (fb ρ S1).bind fun w2 S2 => match (view S2 w1).bind fun x => (view S2 w2).bind fun y => g x y with
  | some ys => .ok (.r S2.length) (S2 ++ [.lst ys])
  | none => .no
section
variable {X : Cx} {a b e : Expr} {es : List Expr} {fa fb f : Ex} {fs : Exs} {pos : Pos}
theorem de_opB {op : Operator} {g : T → T → Option (List T)} (ho : OpL X (binaryOp op) g) (ha : DE X a fa) (hb : DE X b fb) : DE X (.BinOp a op b pos) (e2L g fa fb) := by
  obtain ⟨r, h1, h2⟩ := ho
  intro σ H ρ S F μ w S' Q h hs ee hQ
  obtain ⟨w1, S1, e1, ea⟩ := R.bind_eq ee
  obtain ⟨w2, S2, e2, eb⟩ := R.bind_eq ea
  clear ee ea
  split at eb
  · rename_i ys hy
    cases eb
    obtain ⟨x, y, hx, hy', hg⟩ := bind2 hy
    refine wpe (pe_op h1 peW peW) ?_
    refine ha σ H ρ S F μ w1 S1 _ h hs e1 fun v H1 F1 μ1 r1 g1 q1 => ?_
    refine hb σ H1 ρ S1 F1 μ1 w2 S2 _ r1 (hs.gr g1) e2 fun u H2 F2 μ2 r2 g2 q2 => ?_
    refine h2 H2 S2 F2 μ2 x y v u ys _ r2 (view_rv r2 (q1.gr g2) hx) (view_rv r2 q2 hy') hg fun p us hp ru => ?_
    obtain ⟨r3, g3, rr⟩ := r2.boxNew (cl := .lst ys) (o := .lst us) hp ⟨r2.notF hp, us, upd_same, ru⟩
    exact hQ _ _ _ _ r3 ((g1.trans g2).trans g3) rr
  · cases eb
def gCat : T → T → Option (List T)
  | .lst xs, .lst ys => if xs.length + ys.length ≤ cap then some (xs ++ ys) else none
  | _, _ => none
def gRep : T → T → Option (List T)
  | .lst xs, .int k => if 0 ≤ k ∧ k < 1000000 ∧ xs.length * k.toNat ≤ cap then some (List.replicate k.toNat xs).flatten else none
  | _, _ => none
theorem ol_cat : OpL X (binaryOp .Add) gCat := by
  refine ⟨_, op_cat, fun H S F μ x y v u ys Q h rx ry e q => ?_⟩
  unfold gCat at e
  split at e
  · split at e
    · rename_i hl
      cases e; cases rx with
      | lst a r => cases ry with
        | lst a' r' => exact ⟨_, _, _, _, rfl, rfl, a, a', by rw [← r.length, ← r'.length, cap_eq]; exact hl, fun p hp => q p _ hp (r.append r')⟩
    · cases e
  · cases e
theorem ol_rep : OpL X (binaryOp .Mult) gRep := by
  refine ⟨_, op_rep, fun H S F μ x y v u ys Q h rx ry e q => ?_⟩
  unfold gRep at e
  split at e
  · split at e
    · rename_i hc
      cases e; cases ry; cases rx with
      | lst a r => exact ⟨_, _, _, rfl, rfl, a, by omega, by omega, by rw [← r.length, cap_eq]; exact hc.2.2, fun p hp => q p _ hp (rep_rps r _)⟩
    · cases e
  · cases e

/-! ### one operand -/
def e1 (g : T → Option T) (fa : Ex) : Ex := fun ρ S => (fa ρ S).bind fun w S1 => R.of ((view S1 w).bind fun x => (g x).map W.t) S1
theorem e1_eq {g : T → Option T} {ρ : Env} {S S' : Sto} {w : W} (h : e1 g fa ρ S = .ok w S') : ∃ w1 x c, fa ρ S = .ok w1 S' ∧ view S' w1 = some x ∧ g x = some c ∧ w = .t c := by
  obtain ⟨w1, S1, h1, h⟩ := R.bind_eq h
  obtain ⟨h3, rfl⟩ := R.of_eq h
  cases q1 : view S' w1 with
  | none => rw [q1] at h3; cases h3
  | some x =>
    rw [q1] at h3
    obtain ⟨c, hc, rfl⟩ := map1 (show (g x).map W.t = some w from h3)
    exact ⟨w1, x, c, h1, q1, hc, rfl⟩
def gNeg : T → Option T
  | .int i => some (.int (-i))
  | _ => none
theorem de_neg (ha : DE X a fa) : DE X (.UnaryOp .USub a pos) (e1 gNeg fa) := by
  intro σ H ρ S F μ w S' Q h hs ee hQ
  obtain ⟨w1, x, c, h1, h2, h3, rfl⟩ := e1_eq ee
  refine wpe (pe_un un_neg peW) (ha σ H ρ S F μ w1 S' _ h hs h1 fun v H1 F1 μ1 r1 g1 q1 => ?_)
  have rv := view_rv r1 q1 h2
  unfold gNeg at h3
  split at h3
  · cases h3; cases rv
    exact ⟨_, rfl, hQ _ H1 F1 μ1 r1 g1 (show Rp _ _ _ _ from .int _)⟩
  · cases h3
def gBitLen : T → Option T
  | .int i => some (.int (Builtin.Int.intBits i : Nat))
  | _ => none
theorem de_bitLen {o : Expr} {fo : Ex} {apos : Pos} (ho : DE X o fo) (hbase : attributeBase o "bit_length" X.env (eval o X.env) = eval o X.env := by rfl) (hline : (apos.endLine == pos.line) = true := by rfl) : DE X (.Call (.Attribute o "bit_length" apos) [] [] pos) (e1 gBitLen fo) := by
  intro σ H ρ S F μ w S' Q h hs ee hQ
  obtain ⟨w1, x, c, h1, h2, h3, rfl⟩ := e1_eq ee
  refine wpe (pe_bits peW hbase hline) (ho σ H ρ S F μ w1 S' _ h hs h1 fun v H1 F1 μ1 r1 g1 q1 => ?_)
  have rv := view_rv r1 q1 h2
  unfold gBitLen at h3
  split at h3
  · cases h3; cases rv
    exact ⟨_, rfl, hQ _ H1 F1 μ1 r1 g1 (show Rp _ _ _ _ from .int _)⟩
  · cases h3

/-! ### calls -/
def lst1 (g : List T → Option (List T)) : List T → Option T := fun xs => (g xs).map T.lst
/-- sorted, of ints -/
def isort : List Int → List Int
  | [] => []
  | x :: r => insI x (isort r)
where
  insI (x : Int) : List Int → List Int
    | [] => [x]
    | y :: r => if x ≤ y then x :: y :: r else y :: insI x r
theorem insI_perm (x : Int) : ∀ r, (isort.insI x r).Perm (x :: r)
  | [] => List.Perm.refl _
  | y :: r => by
    unfold isort.insI
    split
    · exact List.Perm.refl _
    · exact ((insI_perm x r).cons y).trans (List.Perm.swap x y r)
theorem isort_perm : ∀ r, (isort r).Perm r
  | [] => List.Perm.refl _
  | x :: r => (insI_perm x (isort r)).trans ((isort_perm r).cons x)
theorem insI_sorted (x : Int) : ∀ r : List Int, r.Pairwise (· ≤ ·) → (isort.insI x r).Pairwise (· ≤ ·)
  | [], _ => by simp [isort.insI]
  | y :: r, h => by
    unfold isort.insI
    obtain ⟨h1, h2⟩ := List.pairwise_cons.mp h
    split
    · rename_i hx
      refine List.pairwise_cons.mpr ⟨fun z hz => ?_, h⟩
      rcases List.mem_cons.mp hz with rfl | hz
      · exact hx
      · exact Int.le_trans hx (h1 z hz)
    · rename_i hx
      refine List.pairwise_cons.mpr ⟨fun z hz => ?_, insI_sorted x r h2⟩
      rcases List.mem_cons.mp ((insI_perm x r).mem_iff.mp hz) with rfl | hz
      · omega
      · exact h1 z hz
theorem isort_sorted : ∀ r, (isort r).Pairwise (· ≤ ·)
  | [] => .nil
  | x :: r => insI_sorted x _ (isort_sorted r)
theorem sorted_uniq : ∀ {xs ys : List Int}, xs.Perm ys → xs.Pairwise (· ≤ ·) → ys.Pairwise (· ≤ ·) → xs = ys := fun h h1 h2 => h.eq_of_pairwise (fun a b _ _ h3 h4 => by omega) h1 h2
def bSorted : List T → Option (List T)
  | [.lst xs] => (intsOf xs).map fun ns => (isort ns).map T.int
  | [.tup xs] => (intsOf xs).map fun ns => (isort ns).map T.int
  | _ => none
/-- sorted(t), a tuple of ints -/
def rSortedIT (K : PySem.W.Frag) : List V → Hp → VK → Prop := fun vs H Q => ∃ (a : Addr) (ns : List Int), vs = [V.ref a] ∧ SqT K H a (ns.map V.int) ∧
  ∀ (ms : List Int) (p : Addr), ms.Perm ns → ms.Pairwise (· ≤ ·) → H p = none → Q (.ref p) (upd H p (.lst (ms.map V.int)))
theorem cr_sortedIT : CallR X (.builtin "sorted") (rSortedIT X.K) := by
  intro pins s σ H vs us Q I r h
  obtain ⟨a, ns, rfl, ht, q⟩ := h
  obtain ⟨its, rv, tp, few⟩ := I.tuple ht
  rw [Vals.ref1 r]
  have hin := rv.ints
  refine SrtO.sorted_tup SrtO.swo_int (show s.heap.IsTuple a its.toArray from tp) (by rw [← rv.length]; exact few) (fun two h₁ a' _ _ => SrtO.ints_sortable hin two) fun out sd sb => ?_
  obtain ⟨k1, k2, k3⟩ := SrtO.ints_out hin sd sb
  obtain ⟨ep, at1⟩ := PyProof.Rows.sortedAll_at s.heap its out.toArray
  have few' : ((out.map SrtO.iv).map V.int).length ≤ sizeLine := by
    rw [List.length_map] at few
    rw [List.length_map, k2.length_eq]
    exact few
  exact ⟨.ref _, upd H (s.heap.objs.size + 1) (.lst ((out.map SrtO.iv).map V.int)), I.laid (t' := s.toks) (fun _ _ => PyProof.Rows.sortedAll_old) (Nat.le_succ _) ⟨few', out, ep, vals_of_ints k1, at1⟩, rfl, q _ _ k2 k3 (I.hok.fresh (Nat.le_succ _))⟩
theorem cl_sorted {k : Nat} (_ : RoomG k X.A) : CallL X (.builtin "sorted") bSorted := by
  refine ⟨_, (cr_sortedI (X := X)).or cr_sortedIT, fun H S F μ xs vs ys Q h rv e q => ?_⟩
  unfold bSorted at e
  split at e
  · rename_i zs
    obtain ⟨ns, hn, rfl⟩ := map1 e
    have := intsOf_some hn
    subst this
    obtain ⟨v, rfl, r⟩ := rvs1 rv
    cases r with
    | lst a r =>
      cases r.ints_inv
      refine .inl ⟨_, ns, rfl, SqL.of a, fun ns' p hp hs hn => ?_⟩
      have := sorted_uniq (hp.trans (isort_perm ns).symm) hs (isort_sorted ns)
      subst this
      exact q p _ hn (Rps.ints _)
  · rename_i zs
    obtain ⟨ns, hn, rfl⟩ := map1 e
    have := intsOf_some hn
    subst this
    obtain ⟨v, rfl, r⟩ := rvs1 rv
    cases r with
    | tup a r =>
      cases r.ints_inv
      refine .inr ⟨_, ns, rfl, Same.sqT h.sub a, fun ns' p hp hs hn => ?_⟩
      have := sorted_uniq (hp.trans (isort_perm ns).symm) hs (isort_sorted ns)
      subst this
      exact q p _ hn (Rps.ints _)
  · cases e
/-- list(range(..)) -/
def rngV (a b : Int) : List T := (List.range (b - a).toNat).map fun i => T.int (a + (i : Nat))
theorem rgV_rps {K : PySem.W.Frag} {F : Hp} (a b : Int) : Rps K F (rngV a b) (rgV a b) := by
  have := Rps.ints (K := K) (F := F) ((List.range (b - a).toNat).map fun i => (a + (i : Nat) : Int))
  rw [List.map_map, List.map_map] at this
  exact this
def rok (a b : Int) : Bool := rlim a && rlim b && decide ((b - a).toNat ≤ cap)
theorem rok_ok {a b : Int} (h : rok a b = true) : RgOk a b := by
  unfold rok at h
  simp only [Bool.and_eq_true, decide_eq_true_eq] at h
  obtain ⟨z1, z2⟩ := rlim_ok h.1.1
  obtain ⟨z3, z4⟩ := rlim_ok h.1.2
  exact ⟨z1, z2, z3, z4, h.2⟩
def lrg : List W → Option (Int × Int)
  | [.t (.int j)] => if rok 0 j then some (0, j) else none
  | [.t (.int i), .t (.int j)] => if rok i j then some (i, j) else none
  | _ => none
def eListR1 (fs : Exs) : Ex := fun ρ S => (fs ρ S).bind fun ws S1 => R.of ((lrg ws).map fun ab => .t (.lst (rngV ab.1 ab.2))) S1
def eListR1B (fs : Exs) : Ex := fun ρ S => (fs ρ S).bind fun ws S1 => match lrg ws with
  | some ab => .ok (.r S1.length) (S1 ++ [.lst (rngV ab.1 ab.2)])
  | none => .no
abbrev eListR2 := eListR1
abbrev eListR2B := eListR1B
theorem lrg1 {a b : Int} {x : W} (h : lrg [x] = some (a, b)) : x = .t (.int b) ∧ a = 0 ∧ rok a b = true := by
  unfold lrg at h
  split at h
  · rename_i j hj
    split at h
    · rename_i hr; cases h; cases hj; exact ⟨rfl, rfl, hr⟩
    · cases h
  · rename_i i j hj; cases hj
  · cases h
theorem lrg2 {a b : Int} {x y : W} (h : lrg [x, y] = some (a, b)) : x = .t (.int a) ∧ y = .t (.int b) ∧ rok a b = true := by
  unfold lrg at h
  split at h
  · rename_i j hj; cases hj
  · rename_i i j hj
    split at h
    · rename_i hr; cases h; cases hj; exact ⟨rfl, rfl, hr⟩
    · cases h
  · cases h
/-- range(i), range(i, j), by the argument list -/
def tRgA (ta : TA) : L2.St → Hp → (Int → Int → Hp → Prop) → Prop := fun σ H Q => ta σ H fun vs H1 => (∃ n, vs = [.int n] ∧ Q 0 n H1) ∨ ∃ i j, vs = [.int i, .int j] ∧ Q i j H1
theorem prgA {ta : TA} {p : Pos} (hg : Gl X "range") (hm : X.mg "range" = none) (ha : PA X (e :: es) ta) (he : starEach (e :: es) X.env = (false, eval e X.env) :: starEach es X.env := by rfl) (hpl : (backTo pos (starEach es X.env)).any (·.1) = false := by rfl) :
    PRg X (.Call (.Name "range" p) (e :: es) [] pos) (tRgA ta) := by
  intro pins s σ H Q I h
  refine Call_ (ld_blt I hg hm boot_range (PyProof.Rows.callWith_type1 (thn (ha.run pos pins s σ H _ I h) fun us s2 ⟨vs, H2, I2, r, q⟩ => ?_) he hpl))
  rcases q with ⟨n, rfl, q⟩ | ⟨i, j, rfl, q⟩
  · obtain ⟨u, rfl, t, rfl⟩ := vals1 r
    exact call_range_1 ⟨_, 0, n, _, _, _, H2, rfl, IsRange.new _ _ _ _ _ _ _, I2.kept fun b u e => Heap.get?_push_of_some _ e, q⟩
  · obtain ⟨u, u', rfl, ⟨t, rfl⟩, ⟨t', rfl⟩⟩ := vals2 r
    exact call_range_2 ⟨_, i, j, _, _, _, H2, rfl, IsRange.new _ _ _ _ _ _ _, I2.kept fun b u e => Heap.get?_push_of_some _ e, q⟩
theorem lrg_run {ws : List W} {vs : List V} {K : PySem.W.Frag} {F : Hp} {μ : List Addr} {ab : Int × Int} {H : Hp} {Q : Int → Int → Hp → Prop} (r : RpWs K F μ ws vs) (h : lrg ws = some ab) (q : rok ab.1 ab.2 = true → Q ab.1 ab.2 H) :
    (∃ n, vs = [V.int n] ∧ Q 0 n H) ∨ ∃ i j, vs = [V.int i, V.int j] ∧ Q i j H := by
  cases r with
  | nil => cases h
  | @cons x v ws vs r1 r =>
    cases r with
    | nil =>
      obtain ⟨a, b⟩ := ab
      obtain ⟨rfl, rfl, ok⟩ := lrg1 h
      have r1 : Rp K F (.int b) v := r1
      cases r1
      exact .inl ⟨b, rfl, q ok⟩
    | @cons y u ws vs r2 r =>
      cases r with
      | nil =>
        obtain ⟨a, b⟩ := ab
        obtain ⟨rfl, rfl, ok⟩ := lrg2 h
        have r1 : Rp K F (.int a) v := r1
        have r2 : Rp K F (.int b) u := r2
        cases r1; cases r2
        exact .inr ⟨a, b, rfl, q ok⟩
      | cons r3 r =>
        unfold lrg at h
        split at h
        · rename_i hj; cases hj
        · rename_i hj; cases hj
        · cases h
theorem de_listR1 {pl pr pos2 : Pos} (hc : X.calm = true) (hg : Gl X "list") (hm : X.mg "list" = none) (hg2 : Gl X "range") (hm2 : X.mg "range" = none) (ha : DA X (e :: es) fs)
    (he : starEach (e :: es) X.env = (false, eval e X.env) :: starEach es X.env := by rfl) (hpl : (backTo pos2 (starEach es X.env)).any (·.1) = false := by rfl)
    (na : starEach [Expr.Call (.Name "range" pr) (e :: es) [] pos2] X.env = (false, eval (Expr.Call (.Name "range" pr) (e :: es) [] pos2) X.env) :: starEach [] X.env := by rfl) :
    DE X (.Call (.Name "list" pl) [.Call (.Name "range" pr) (e :: es) [] pos2] [] pos) (eListR1 fs) := by
  intro σ H ρ S F μ w S' Q h hs ee hQ
  obtain ⟨ws, S1, e1, ea⟩ := R.bind_eq ee
  obtain ⟨e2, rfl⟩ := R.of_eq ea
  obtain ⟨ab, hab, rfl⟩ := map1 e2
  refine wpe (pe_listRg hc hg hm (prgA hg2 hm2 paW he hpl) na) (ha σ H ρ S F μ ws S' _ h hs e1 fun vs H1 F1 μ1 r1 g1 q1 => ?_)
  refine lrg_run (H := H1) (Q := fun a b H2 => RgOk a b ∧ ∀ (q : Addr), H2 q = none → Q (V.ref q) (upd H2 q (HO.lst (rgV a b)))) q1 hab fun ok => ⟨rok_ok ok, fun p hp => ?_⟩
  obtain ⟨r2, g2⟩ := r1.new (.lst (rgV ab.1 ab.2)) hp
  exact hQ _ _ _ _ r2 (g1.trans g2) (show Rp _ _ _ _ from .lst upd_same (rgV_rps _ _))
theorem de_listR1B {pl pr pos2 : Pos} (hc : X.calm = true) (hg : Gl X "list") (hm : X.mg "list" = none) (hg2 : Gl X "range") (hm2 : X.mg "range" = none) (ha : DA X (e :: es) fs)
    (he : starEach (e :: es) X.env = (false, eval e X.env) :: starEach es X.env := by rfl) (hpl : (backTo pos2 (starEach es X.env)).any (·.1) = false := by rfl)
    (na : starEach [Expr.Call (.Name "range" pr) (e :: es) [] pos2] X.env = (false, eval (Expr.Call (.Name "range" pr) (e :: es) [] pos2) X.env) :: starEach [] X.env := by rfl) :
    DE X (.Call (.Name "list" pl) [.Call (.Name "range" pr) (e :: es) [] pos2] [] pos) (eListR1B fs) := by
  intro σ H ρ S F μ w S' Q h hs ee hQ
  obtain ⟨ws, S1, e1, ea⟩ := R.bind_eq ee
  split at ea
  · rename_i ab hab
    cases ea
    refine wpe (pe_listRg hc hg hm (prgA hg2 hm2 paW he hpl) na) (ha σ H ρ S F μ ws S1 _ h hs e1 fun vs H1 F1 μ1 r1 g1 q1 => ?_)
    refine lrg_run (H := H1) (Q := fun a b H2 => RgOk a b ∧ ∀ (q : Addr), H2 q = none → Q (V.ref q) (upd H2 q (HO.lst (rgV a b)))) q1 hab fun ok => ⟨rok_ok ok, fun p hp => ?_⟩
    obtain ⟨r2, g2, rr⟩ := r1.boxNew (cl := .lst (rngV ab.1 ab.2)) (o := .lst (rgV ab.1 ab.2)) hp ⟨r1.notF hp, _, upd_same, rgV_rps _ _⟩
    exact hQ _ _ _ _ r2 (g1.trans g2) rr
  · cases ea

/-! ### min, max -/
def minI : List Int → Int
  | [] => 0
  | [x] => x
  | x :: r => if x ≤ minI r then x else minI r
def maxI : List Int → Int
  | [] => 0
  | [x] => x
  | x :: r => if maxI r ≤ x then x else maxI r
theorem minI_spec : ∀ {ns : List Int}, ns ≠ [] → minI ns ∈ ns ∧ ∀ y ∈ ns, minI ns ≤ y
  | [x], _ => ⟨by simp [minI], fun y hy => by simp at hy; subst hy; simp [minI]⟩
  | x :: z :: r, _ => by
    obtain ⟨h1, h2⟩ := minI_spec (ns := z :: r) (by simp)
    rw [minI]
    · split
      · rename_i hx
        refine ⟨List.mem_cons_self, fun y hy => ?_⟩
        rcases List.mem_cons.mp hy with rfl | hy
        · exact Int.le_refl _
        · exact Int.le_trans hx (h2 y hy)
      · rename_i hx
        refine ⟨List.mem_cons_of_mem _ h1, fun y hy => ?_⟩
        rcases List.mem_cons.mp hy with rfl | hy
        · omega
        · exact h2 y hy
    · simp
theorem maxI_spec : ∀ {ns : List Int}, ns ≠ [] → maxI ns ∈ ns ∧ ∀ y ∈ ns, y ≤ maxI ns
  | [x], _ => ⟨by simp [maxI], fun y hy => by simp at hy; subst hy; simp [maxI]⟩
  | x :: z :: r, _ => by
    obtain ⟨h1, h2⟩ := maxI_spec (ns := z :: r) (by simp)
    rw [maxI]
    · split
      · rename_i hx
        refine ⟨List.mem_cons_self, fun y hy => ?_⟩
        rcases List.mem_cons.mp hy with rfl | hy
        · exact Int.le_refl _
        · exact Int.le_trans (h2 y hy) hx
      · rename_i hx
        refine ⟨List.mem_cons_of_mem _ h1, fun y hy => ?_⟩
        rcases List.mem_cons.mp hy with rfl | hy
        · omega
        · exact h2 y hy
    · simp
def bMin : List T → Option T
  | [.int i, .int j] => some (.int (if j < i then j else i))
  | [.lst xs] => (intsOf xs).bind fun ns => if ns.isEmpty then none else some (.int (minI ns))
  | _ => none
def bMax : List T → Option T
  | [.int i, .int j] => some (.int (if j > i then j else i))
  | [.lst xs] => (intsOf xs).bind fun ns => if ns.isEmpty then none else some (.int (maxI ns))
  | _ => none
theorem cd_min (hc : X.calm = true) : CallD X (.builtin "min") bMin := by
  refine ⟨_, (call_min2 hc).or (cr_min hc), fun H S F μ xs vs c Q h rv e q => ?_⟩
  unfold bMin at e
  split at e
  · cases e
    obtain ⟨v, u, rfl, r1, r2⟩ := rvs2 rv
    cases r1; cases r2
    exact .inl ⟨_, _, rfl, q.same h (.int _)⟩
  · rename_i ys
    cases hn : intsOf ys with
    | none => rw [hn] at e; cases e
    | some ns =>
      rw [hn] at e
      have e : (if ns.isEmpty then none else some (T.int (minI ns))) = some c := e
      split at e
      · cases e
      · rename_i hne
        cases e
        have := intsOf_some hn
        subst this
        obtain ⟨v, rfl, r⟩ := rvs1 rv
        cases r with
        | lst a r =>
          cases r.ints_inv
          have hne : ns ≠ [] := fun z => hne (by rw [z]; rfl)
          refine .inr ⟨_, ns, rfl, SqL.of a, List.length_pos_iff.mpr hne, fun m h1 h2 => ?_⟩
          obtain ⟨h3, h4⟩ := minI_spec hne
          have : m = minI ns := by have := h2 _ h3; have := h4 _ h1; omega
          rw [this]
          exact q.same h (.int _)
  · cases e
theorem cd_max (hc : X.calm = true) : CallD X (.builtin "max") bMax := by
  refine ⟨_, (call_max2 hc).or (cr_max hc), fun H S F μ xs vs c Q h rv e q => ?_⟩
  unfold bMax at e
  split at e
  · cases e
    obtain ⟨v, u, rfl, r1, r2⟩ := rvs2 rv
    cases r1; cases r2
    exact .inl ⟨_, _, rfl, q.same h (.int _)⟩
  · rename_i ys
    cases hn : intsOf ys with
    | none => rw [hn] at e; cases e
    | some ns =>
      rw [hn] at e
      have e : (if ns.isEmpty then none else some (T.int (maxI ns))) = some c := e
      split at e
      · cases e
      · rename_i hne
        cases e
        have := intsOf_some hn
        subst this
        obtain ⟨v, rfl, r⟩ := rvs1 rv
        cases r with
        | lst a r =>
          cases r.ints_inv
          have hne : ns ≠ [] := fun z => hne (by rw [z]; rfl)
          refine .inr ⟨_, ns, rfl, SqL.of a, List.length_pos_iff.mpr hne, fun m h1 h2 => ?_⟩
          obtain ⟨h3, h4⟩ := maxI_spec hne
          have : m = maxI ns := by have := h2 _ h3; have := h4 _ h1; omega
          rw [this]
          exact q.same h (.int _)
  · cases e
end
end Dl

/-! DlE: the law's end over FnG. -/
namespace Dl
open PySem PySem.Spec PyProof.Rows L2

/-- what the claim wants of the one call -/
def Good (P : Program) (w : World) (fa a : Addr) (z : Shared) : Prop :=
  codeAny (model P w) callerA (.call (.ref fa) ⟨[.ref a], []⟩) (fun r z' => r = .ok (.ret (.bool true)) ∧ OldK z.heap z'.heap ∧ z'.os = z.os ∧ AllBare z'.gens) z
/-- from an abstract heap that tracks the script at the most -/
theorem good_from {P : Program} {w : World} {K : PySem.W.Frag} {mg mb : Str → Option Value} {k : Nat} {fa a : Addr} {fd : FuncData} {x : Str} {sp : Sp} {z : Shared} {vs : List Value} {H : Hp}
    (kin : K.In z.heap) (nsm : z.heap.Ns mainGlobals mg) (nsb : z.heap.Ns builtinsNs mb) (boot : ∀ y : Str, y ≠ "__name__" → mb y = bootBuiltins y) (free : z.heap.NoLimit) (gens : z.gens = #[])
    (scr : z.heap.get? a = some { cls := .type "list", data := .seq vs.toArray }) (room : RoomG k callerA)
    (F : ∀ base : Heap, K.In base → base.Ns mainGlobals mg → FnG P w K mg base k fa fd [x] sp) (bound : ∀ (y : Shared) (u : Value), BindsTo y fd ⟨[u], []⟩ [(x, u)])
    (only : Only H) (wish : sp [.ref a] H (fun v _ => v = .bl true) fun _ _ _ => False) (hok : HOk P w H z.heap) (just : ∀ b, H b ≠ none → b = a) (notK : H a ≠ none → K.lookup a = none) : Good P w fa a z := by
  have none_of : ∀ {b : Addr}, b ≠ a → H b = none := fun {b} ne => by
    cases e : H b with
    | none => rfl
    | some u => exact absurd (just b (by rw [e]; exact fun q => nomatch q)) ne
  have dict_ne : ∀ {b : Addr} {o : Obj} {es : Array DictEntry} {ep : Nat}, z.heap.get? b = some o → o.data = .dict es ep → b ≠ a := by
    rintro b o es ep e d rfl
    rw [scr] at e
    cases e
    exact nomatch (show Data.seq vs.toArray _ = Data.dict es ep from d)
  have look_ne : ∀ {b : Addr} {o : Obj}, K.lookup b = some o → H b = none := fun {b o} e => by
    by_cases ne : b = a
    · subst ne
      cases q : H b with
      | none => rfl
      | some u => rw [notK (by rw [q]; exact fun q => nomatch q)] at e; cases e
    · exact none_of ne
  have names : ∀ {b : Addr} {m : Str → Option Value}, z.heap.Ns b m → (hidT z.heap H).Ns b m := by
    rintro b m ⟨o, es, ep, e, d, r⟩
    exact ⟨o, es, ep, hidT_get e (none_of (dict_ne e d)), d, r⟩
  have kinB : K.In (hidT z.heap H) := fun b o e => hidT_get (kin b o e) (look_ne e)
  have mods : Mod K mg (hidT z.heap H) := ⟨kinB, names nsm, ⟨mb, names nsb, boot⟩, by obtain ⟨mc, h1, h2⟩ := free; exact ⟨mc, names h1, h2⟩⟩
  have start0 : Env0 P w K mg (hidT z.heap H) callerA [] z H := ⟨rfl, mods, fun _ _ e => of_hidT e, Nat.le_of_eq (hidT_size _ _), trivial, fun b hb => (List.not_mem_nil (show b ∈ ([] : List Addr) from hb)).elim, hok, .of_eq gens⟩
  refine codeAny_mono ((F _ kinB (names nsm)).runs callerA [] z H ⟨[.ref a], []⟩ [.ref a] [.ref a] _ _ room start0 (bound z (.ref a)) (.cons rfl .nil) wish) fun r z' got => ?_
  match r, got with
  | .error e, got => exact (show False from got).elim
  | .ok .next, got => exact (show False from got).elim
  | .ok .brk, got => exact (show False from got).elim
  | .ok .cont, got => exact (show False from got).elim
  | .ok (.ret u), got =>
    obtain ⟨v, H', os, bare, un, hok', rel, (q : v = .bl true)⟩ := got
    subst q
    cases (show u = Value.bool true from rel)
    refine ⟨rfl, OldK.of_keep fun b o e => ?_, os, bare⟩
    rcases only b with n | ⟨ob, xs, y⟩
    · exact un.keep b o e n (fun m => (List.not_mem_nil (show b ∈ ([] : List Addr) from m)).elim) (List.not_mem_nil)
    · obtain ⟨e1, _⟩ := hok b _ y
      obtain ⟨e2, _⟩ := hok' b _ (un.frzs b ob _ y)
      rw [e] at e1
      cases e1
      exact e2
theorem good_law {P : Program} {w : World} {K : PySem.W.Frag} {mg mb : Str → Option Value} {k : Nat} {fa a : Addr} {fd : FuncData} {x : Str} {sp : Sp} {z : Shared} {vs : List Value} {ns : List Int}
    (kin : K.In z.heap) (nsm : z.heap.Ns mainGlobals mg) (nsb : z.heap.Ns builtinsNs mb) (boot : ∀ y : Str, y ≠ "__name__" → mb y = bootBuiltins y) (free : z.heap.NoLimit) (gens : z.gens = #[])
    (scr : z.heap.get? a = some { cls := .type "list", data := .seq vs.toArray }) (hin : IntsAre vs ns) (few : ns.length ≤ sizeLine) (room : RoomG k callerA)
    (F : ∀ base : Heap, K.In base → base.Ns mainGlobals mg → FnG P w K mg base k fa fd [x] sp) (bound : ∀ (y : Shared) (u : Value), BindsTo y fd ⟨[u], []⟩ [(x, u)])
    (wish : ∀ H : Hp, Only H → SqL K H a (ns.map V.int) → sp [.ref a] H (fun v _ => v = .bl true) fun _ _ _ => False) : Good P w fa a z := by
  have rel := vals_ints hin
  cases hk : K.lookup a with
  | some o =>
    have e := kin a o hk
    rw [scr] at e
    cases e
    have only : Only fun _ => none := fun _ => .inl rfl
    exact good_from kin nsm nsb boot free gens scr room F bound only (wish _ only (.inr ⟨_, vs.toArray, _, hk, rfl, rfl, rfl, by rw [List.size_toArray, hin.length]; exact few, by simpa using rel⟩))
      (fun b u q => nomatch (show (none : Option HO) = some u from q)) (fun b q => absurd rfl q) fun q => absurd rfl q
  | none =>
    let tr : HO := .frz { cls := .type "list", data := .seq vs.toArray } (.lst (ns.map V.int))
    let H : Hp := upd (fun _ => none) a tr
    have at_a : H a = some tr := upd_same
    have off : ∀ b, b ≠ a → H b = none := fun b ne => upd_ne ne
    have only : Only H := fun b => by
      by_cases ne : b = a
      · subst ne; exact .inr ⟨_, _, at_a⟩
      · exact .inl (off b ne)
    refine good_from kin nsm nsb boot free gens scr room F bound only (wish _ only (.inl (.inr ⟨_, at_a⟩))) (fun b u q => ?_) (fun b q => ?_) fun _ => hk
    · by_cases ne : b = a
      · subst ne
        rw [at_a] at q
        cases q
        exact ⟨scr, by rw [List.length_map]; exact few, vs, _, rel, scr⟩
      · rw [off b ne] at q; cases q
    · by_cases ne : b = a
      · exact ne
      · exact absurd (off b ne) q
/-- the law, by its def's promise -/
theorem walkG {l : PySem.W.OpenLaw} {n k : Nat} {q : Program} {loose : List Str} {XP : (Str → Option Value) → Heap → Prop} {YP : World → Heap → Prop} {d : DefRec} {K : Params → PySem.W.Frag} {x : Str} {den : Den}
    (hn : l.most = some n) (hn2 : n ≤ sizeLine) (hdf : d.params.defaults = []) (room : RoomG k callerA) (hY : ∀ (w : World) (h : Heap), YP w h → (K w.params).In h)
    (F : ∀ (w : World) (mg : Str → Option Value) (fa : Addr) (h : Heap), (K w.params).In h → h.Ns mainGlobals mg → mg d.name = some (.ref fa) →
      ∃ fd : FuncData, (∀ (s : Shared) (u : Value), BindsTo s fd ⟨[u], []⟩ [(x, u)]) ∧ ∀ base : Heap, (K w.params).In base → base.Ns mainGlobals mg → FnG l.prog w (K w.params) mg base k fa fd [x] (spD (K w.params) 1 den))
    (plain : ∀ ns : List Int, ns.length ≤ n → (∀ z ∈ ns, Builtin.Int.intBits z ≤ 1048576) → ∃ S', den [.t (.scr ns)] [] = .ok (.t (.bl true)) S') :
    PySem.W.WalkO q loose XP YP l.row.toRowW d [] (fun f vs => PySem.call f vs) := by
  refine Att.attach_callB hn hdf fun w s₀ z mg mb fa o pm cd doc a vs ns G Y _ _ _ named scr hin few bits gens => ?_
  obtain ⟨fd, bound, FF⟩ := F w mg fa _ (hY w _ Y) G.T.g named
  obtain ⟨S', e⟩ := plain ns few bits
  exact good_law (hY w _ Y) G.T.g G.T.b G.T.builtins G.T.nolimit gens scr hin (Nat.le_trans few hn2) room FF bound fun H _ hS => law_sp hS e
end Dl

/-! Dl10: zip, enumerate, isinstance, dict displays, get, repr. -/
namespace Dl
open PySem PySem.Spec PyProof.Rows L2

section
variable {X : Cx} {tg e a b o c : Expr} {es : List Expr} {f fa fb fo fc : Ex} {fs : Exs} {pos : Pos}
/-! ### zip, enumerate -/
def sameK : SK → SK → Bool
  | .l, .l => true
  | .t, .t => true
  | _, _ => false
def zipW (ws us : List W) : List Item := (ws.zip us).map fun p => .tp [p.1, p.2]
def zip2 (S : Sto) : List W → Option Walked
  | [w1, w2] => (cont S w1).bind fun c1 => (cont S w2).bind fun c2 => if sameK c1.1 c2.1 then some ⟨zipW c1.2.1 c2.2.1, fun S => c1.2.2 S && c2.2.2 S⟩ else none
  | _ => none
def srcZ2 (fs : Exs) : Srcx := fun ρ S => (fs ρ S).bind fun ws S1 => R.of (zip2 S1 ws) S1
def ItzK (k : SK) (K : PySem.W.Frag) (a b : Addr) : It := match k with
  | .l => Itz K a b
  | .t => RZ.ItzT K a b
theorem zip_at {ws us : List W} {i : Nat} {it : Item} (h : (zipW ws us)[i]? = some it) : ∃ x y, ws[i]? = some x ∧ us[i]? = some y ∧ it = .tp [x, y] := by
  unfold zipW at h
  rw [List.getElem?_map] at h
  obtain ⟨p, hp, rfl⟩ := map1 h
  obtain ⟨h1, h2⟩ := List.getElem?_zip_eq_some.mp hp
  exact ⟨p.1, p.2, h1, h2, rfl⟩
theorem wk_zip {K : PySem.W.Frag} {H F : Hp} {μ : List Addr} {a b : Addr} {k : SK} {ws us : List W} {g g' : Sto → Bool} (h : SeqAt k K ws g F μ a) (h' : SeqAt k K us g' F μ b) : Wk K (ItzK k K a b) ⟨zipW ws us, fun S => g S && g' S⟩ H F μ := by
  have hlen : (zipW ws us).length = min ws.length us.length := by unfold zipW; rw [List.length_map, List.length_zip]
  refine ⟨fun H2 S2 F2 μ2 i r2 gr hg hi => ?_, fun H2 S2 F2 μ2 r2 gr hg => ?_, fun H2 S2 F2 μ2 i it x H3 r2 gr hg hi hy => ?_⟩
  · have hg : (g S2 && g' S2) = true := hg
    simp only [Bool.and_eq_true] at hg
    obtain ⟨vs, sq, rw1⟩ := h.at_ H2 S2 F2 μ2 r2 gr.same gr.pre hg.1
    obtain ⟨vs', sq', rw2⟩ := h'.at_ H2 S2 F2 μ2 r2 gr.same gr.pre hg.2
    have hi : i < (zipW ws us).length := hi
    rw [hlen, rw1.length, rw2.length] at hi
    have h1 : vs[i]? = some vs[i] := List.getElem?_eq_getElem (by omega)
    have h2 : vs'[i]? = some vs'[i] := List.getElem?_eq_getElem (by omega)
    cases k with
    | l => exact ⟨vs, vs', _, _, sq, sq', h1, h2⟩
    | t => exact ⟨vs, vs', _, _, sq, sq', h1, h2⟩
  · have hg : (g S2 && g' S2) = true := hg
    simp only [Bool.and_eq_true] at hg
    obtain ⟨vs, sq, rw1⟩ := h.at_ H2 S2 F2 μ2 r2 gr.same gr.pre hg.1
    obtain ⟨vs', sq', rw2⟩ := h'.at_ H2 S2 F2 μ2 r2 gr.same gr.pre hg.2
    show (ItzK k K a b).stop (zipW ws us).length H2
    rw [hlen, rw1.length, rw2.length]
    cases k with
    | l => exact ⟨vs, vs', sq, sq', by omega⟩
    | t => exact ⟨vs, vs', sq, sq', by omega⟩
  · have hg : (g S2 && g' S2) = true := hg
    simp only [Bool.and_eq_true] at hg
    obtain ⟨vs, sq, rw1⟩ := h.at_ H2 S2 F2 μ2 r2 gr.same gr.pre hg.1
    obtain ⟨vs', sq', rw2⟩ := h'.at_ H2 S2 F2 μ2 r2 gr.same gr.pre hg.2
    obtain ⟨p, q, hp, hq, rfl⟩ := zip_at hi
    obtain ⟨v, h1, h2⟩ := rw1.get hp
    obtain ⟨u, h3, h4⟩ := rw2.get hq
    have key : ∃ T, x = .ref T ∧ H2 T = none ∧ H3 = upd H2 T (.tup [v, u]) := by
      cases k with
      | l =>
        obtain ⟨T, x1, y1, z1, z2, z3, z4, z5⟩ := hy
        have e1 := z4 vs sq
        have e2 := z5 vs' sq'
        rw [h1] at e1; rw [h3] at e2
        cases e1; cases e2
        exact ⟨T, z1, z2, z3⟩
      | t =>
        obtain ⟨T, x1, y1, z1, z2, z3, z4, z5⟩ := hy
        have e1 := z4 vs sq
        have e2 := z5 vs' sq'
        rw [h1] at e1; rw [h3] at e2
        cases e1; cases e2
        exact ⟨T, z1, z2, z3⟩
    obtain ⟨T, rfl, hT, rfl⟩ := key
    exact ⟨r2.heap _ (r2.notF hT) (r2.notM hT), Gr.updH Gr.refl hT, T, _, rfl, hT, upd_same, .cons h2 (.cons h4 .nil)⟩
theorem ds_zip2 {q tpos : Pos} {elts : List Expr} {kk : Nat} (hg : Gl X "zip") (hm : X.mg "zip" = none) (ha : DA X [a, b] fs)
    (hs : starEach [a, b] X.env = (false, eval a X.env) :: starEach [b] X.env := by rfl) (hpl : (backTo pos (starEach [b] X.env)).any (·.1) = false := by rfl) :
    DI X (.Tuple elts kk tpos) (.Call (.Name "zip" q) [a, b] [] pos) (srcZ2 fs) := by
  intro σ H ρ S F μ its S' R' h hs' e hQ
  obtain ⟨ws, S1, h1, e⟩ := R.bind_eq e
  obtain ⟨h2, rfl⟩ := R.of_eq e
  unfold zip2 at h2
  split at h2
  · rename_i w1 w2
    obtain ⟨c1, c2, q1, q2, h3⟩ := bind2 h2
    obtain ⟨k1, us1, g1⟩ := c1
    obtain ⟨k2, us2, g2⟩ := c2
    split at h3
    · rename_i hk
      cases h3
      have hk : k1 = k2 := by
        cases k1 <;> cases k2 <;> first | rfl | cases hk
      subst hk
      refine wpi (RZ.pi_zipA hg hm paW hs hpl) (ha σ H ρ S F μ _ S' _ h hs' h1 fun vs H1 F1 μ1 r1 g3 q3 => ?_)
      cases q3 with
      | cons ra q3 => cases q3 with
        | cons rb q3 =>
          cases q3
          obtain ⟨⟨p1, rfl, sq1⟩, gg1⟩ := cont_seq (H := H1) ra q1
          obtain ⟨⟨p2, rfl, sq2⟩, gg2⟩ := cont_seq (H := H1) rb q2
          obtain ⟨xs, s1, _⟩ := sq1.at_ H1 S' F1 μ1 r1 (Same.refl _) ⟨[], by simp⟩ gg1
          obtain ⟨ys, s2, _⟩ := sq2.at_ H1 S' F1 μ1 r1 (Same.refl _) ⟨[], by simp⟩ gg2
          have fin := fun J => hQ J H1 F1 μ1 r1 g3
          have gt : (fun S => g1 S && g2 S) S' = true := by simp only [gg1, gg2, Bool.and_self]
          cases k1 with
          | l => exact ⟨p1, p2, xs, ys, rfl, .inl ⟨s1, s2, fin _ (wk_zip sq1 sq2) gt⟩⟩
          | t => exact ⟨p1, p2, xs, ys, rfl, .inr ⟨s1, s2, fin _ (wk_zip sq1 sq2) gt⟩⟩
    · cases h3
  · cases h2

/-! ### isinstance -/
def tyT : T → String
  | .non => "NoneType"
  | .bl _ => "bool"
  | .int _ => "int"
  | .str _ => "str"
  | .tup _ => "tuple"
  | .lst _ => "list"
  | .dct _ => "dict"
  | .scr _ => "list"
theorem sqT_tyx {K : PySem.W.Frag} {H : Hp} {a : Addr} {vs : List V} (h : SqT K H a vs) : TyX K H (.ref a) (.type "tuple") := by
  rcases h with (h | ⟨o, h⟩) | h
  · exact .base (.tup h)
  · exact .fTuple h
  · obtain ⟨o, _, _, h1, h2, _⟩ := h
    exact .kTuple h1 h2
theorem sqL_tyx {K : PySem.W.Frag} {H : Hp} {a : Addr} {vs : List V} (h : SqL K H a vs) : TyX K H (.ref a) (.type "list") := by
  rcases h with (h | ⟨o, h⟩) | h
  · exact .base (.lst h)
  · exact .base (.frz h)
  · obtain ⟨o, _, _, h1, h2, _⟩ := h
    exact .kList h1 h2
theorem tyx_rv {K : PySem.W.Frag} {H F : Hp} {x : T} {v : V} (s : Same F H) (r : Rv K H F x v) : TyX K H v (.type (tyT x)) := by
  cases r with
  | non => exact .base .non
  | bl b => exact .base (.bl b)
  | int i => exact .base (.int i)
  | str x => exact .base (.str x)
  | tup a r => exact sqT_tyx (Same.sqT s a)
  | lst a r => exact .base (.lst a)
  | dct a r =>
    rcases a with a | ⟨o, a⟩
    · exact .base (.dK a)
    · exact .fDict a
  | scr a => exact sqL_tyx a
theorem pe_tyName {x : Str} {id : String} (hg : Gl X x) (hm : X.mg x = none) (hv : bootBuiltins x = some (.type id)) (hn : x ≠ "__name__" := by decide) (hd : (x == ("__debug__" : Str)) = false := by decide) : PE X (.Name x pos) (tC (.ty id)) :=
  ⟨fun pins s σ H Q I h => ld_blt I hg hm hv ⟨.ty id, H, I, rfl, h⟩ hn hd⟩
def isiS (s c : String) : Bool := s == c || (s == "bool" && c == "int")
def isiB (x : T) (c : String) : Bool := isiS (tyT x) c
def okC (c : String) : Bool := c == "int" || c == "bool" || c == "str" || c == "tuple" || c == "list" || c == "dict"
theorem kit_isi (x : T) {c : String} (h : okC c = true) : kitB (tyT x) c = some (isiB x c) := by
  simp only [okC, Bool.or_eq_true, beq_iff_eq] at h
  rcases h with ((((rfl | rfl) | rfl) | rfl) | rfl) | rfl <;> cases x <;> simp only [tyT, isiB] <;> decide +kernel
def gIsi (c : String) (x : T) : Option T := some (.bl (isiB x c))
theorem de_isi {x2 : Str} {id : String} {p1 p2 : Pos} (hg : Gl X "isinstance") (hm : X.mg "isinstance" = none) (hg2 : Gl X x2) (hm2 : X.mg x2 = none) (hv2 : bootBuiltins x2 = some (.type id)) (hok : okC id = true) (hn2 : x2 ≠ "__name__") (ha : DE X a fa)
    (hd2 : (x2 == ("__debug__" : Str)) = false := by decide) (he : starEach [a, .Name x2 p2] X.env = (false, eval a X.env) :: starEach [.Name x2 p2] X.env := by rfl) (he2 : starEach [.Name x2 p2] X.env = (false, eval (.Name x2 p2) X.env) :: starEach [] X.env := by rfl)
    (hpl : (backTo pos (starEach [.Name x2 p2] X.env)).any (·.1) = false := by rfl) : DE X (.Call (.Name "isinstance" p1) [a, .Name x2 p2] [] pos) (e1 (gIsi id) fa) := by
  intro σ H ρ S F μ w S' Q h hs ee hQ
  obtain ⟨w1, x, c, h1, h2, h3, rfl⟩ := e1_eq ee
  cases h3
  refine wpe (pe_callB call_isi hg hm PyProof.Rows.boot_isinstance (pa_cons peW (pa_cons (pe_tyName hg2 hm2 hv2 hn2 hd2) pa_nil he2) he) (by decide) (by decide) he hpl) (ha σ H ρ S F μ w1 S' _ h hs h1 fun v H1 F1 μ1 r1 g1 q1 => ?_)
  exact ⟨v, _, _, _, _, rfl, .ty id, tyx_rv r1.sub (view_rv r1 q1 h2), kit_ty (kit_isi x hok), hQ _ H1 F1 μ1 r1 g1 (show Rp _ _ _ _ from .bl _)⟩
def gIsiT (cs : List String) (x : T) : Option T := some (.bl (cs.any fun c => isiB x c))
theorem kit_any {K : PySem.W.Frag} (x : T) : ∀ {cs : List String}, (∀ c ∈ cs, okC c = true) → PySem.W.kitAny K (.type (tyT x)) (cs.map Value.type) = some (cs.any fun c => isiB x c)
  | [], _ => kitAny_nil
  | c :: cs, h => by
    rw [List.map_cons, List.any_cons]
    refine kitAny_cons (kit_ty (kit_isi x (h c List.mem_cons_self))) (fun e => ?_) (fun e => by rw [e]; rfl)
    rw [e, Bool.false_or]
    exact kit_any x fun d hd => h d (List.mem_cons_of_mem _ hd)
theorem de_isiT2 {x2 x3 : Str} {id id3 : String} {p1 p2 p3 p4 : Pos} {k4 : Nat} (hg : Gl X "isinstance") (hm : X.mg "isinstance" = none) (hg2 : Gl X x2) (hm2 : X.mg x2 = none) (hg3 : Gl X x3) (hm3 : X.mg x3 = none) (ha : DE X a fa)
    (hv2 : bootBuiltins x2 = some (.type id) := by decide +kernel) (hv3 : bootBuiltins x3 = some (.type id3) := by decide +kernel) (hok : okC id = true := by decide) (hok3 : okC id3 = true := by decide) (hn2 : x2 ≠ "__name__" := by decide) (hn3 : x3 ≠ "__name__" := by decide)
    (hd2 : (x2 == ("__debug__" : Str)) = false := by decide) (hd3 : (x3 == ("__debug__" : Str)) = false := by decide)
    (he : starEach [a, .Tuple [.Name x2 p2, .Name x3 p3] k4 p4] X.env = (false, eval a X.env) :: starEach [.Tuple [.Name x2 p2, .Name x3 p3] k4 p4] X.env := by rfl)
    (he2 : starEach [.Tuple [.Name x2 p2, .Name x3 p3] k4 p4] X.env = (false, eval (.Tuple [.Name x2 p2, .Name x3 p3] k4 p4) X.env) :: starEach [] X.env := by rfl)
    (he3 : starEach [.Name x2 p2, .Name x3 p3] X.env = (false, eval (.Name x2 p2) X.env) :: starEach [.Name x3 p3] X.env := by rfl) (he4 : starEach [.Name x3 p3] X.env = (false, eval (.Name x3 p3) X.env) :: starEach [] X.env := by rfl)
    (hpl : (backTo pos (starEach [.Tuple [.Name x2 p2, .Name x3 p3] k4 p4] X.env)).any (·.1) = false := by rfl) : DE X (.Call (.Name "isinstance" p1) [a, .Tuple [.Name x2 p2, .Name x3 p3] k4 p4] [] pos) (e1 (gIsiT [id, id3]) fa) := by
  intro σ H ρ S F μ w S' Q h hs ee hQ
  obtain ⟨w1, x, c, h1, h2, h3, rfl⟩ := e1_eq ee
  cases h3
  refine wpe (pe_callB call_isiT hg hm PyProof.Rows.boot_isinstance (pa_cons peW (pa_cons (pe_tup (pa_cons (pe_tyName hg2 hm2 hv2 hn2 hd2) (pa_cons (pe_tyName hg3 hm3 hv3 hn3 hd3) pa_nil he4) he3)) pa_nil he2) he) (by decide) (by decide) he hpl) (ha σ H ρ S F μ w1 S' _ h hs h1 fun v H1 F1 μ1 r1 g1 q1 => ?_)
  refine ⟨by simp only [List.length_cons, List.length_nil]; rw [sizeLine_eq]; decide, fun p hp => ?_⟩
  have r2 := r1.heap (.tup [.ty id, .ty id3]) (r1.notF hp) (r1.notM hp)
  have g2 : Gr H1 F1 μ1 (upd H1 p (.tup [.ty id, .ty id3])) F1 μ1 := Gr.updH Gr.refl hp
  refine ⟨v, p, [.ty id, .ty id3], .type (tyT x), [.type id, .type id3], _, rfl, upd_same, .cons (.ty id) (.cons (.ty id3) .nil), tyx_rv r2.sub (view_rv r2 (q1.gr g2) h2), kit_any x (cs := [id, id3]) ?_, hQ _ _ F1 μ1 r2 (g1.trans g2) (show Rp _ _ _ _ from .bl _)⟩
  intro c hc
  simp only [List.mem_cons, List.not_mem_nil, or_false] at hc
  rcases hc with rfl | rfl
  · exact hok
  · exact hok3

/-! ### dicts -/
def eDictB : Ex := fun _ S => .ok (.r S.length) (S ++ [.dic []])
theorem de_dictB : DE X (.Dict [] [] pos) eDictB := by
  intro σ H ρ S F μ w S' Q h hs e hQ
  cases e
  refine wpe pe_dnewK fun p hp => ?_
  obtain ⟨r2, g2, rr⟩ := h.boxNew (cl := .dic []) (o := .dK []) hp ⟨h.notF hp, [], upd_same, .nil⟩
  exact hQ _ _ _ _ r2 g2 rr
def eDict0 : Ex := fun _ S => .ok (.t (.dct [])) S
theorem de_dict0 : DE X (.Dict [] [] pos) eDict0 := by
  intro σ H ρ S F μ w S' Q h hs e hQ
  cases e
  refine wpe pe_dnewK fun p hp => ?_
  obtain ⟨r2, g2⟩ := h.new (.dK []) hp
  exact hQ _ _ _ _ r2 g2 (show Rp _ _ _ _ from .dct upd_same .nil)
def keyW (S : Sto) (w : W) : Option Key := (view S w).bind keyOf
/-- {k: v} -/
def eDict1B (fa fb : Ex) : Ex := fun ρ S => (fa ρ S).bind fun w1 S1 => (fb ρ S1).bind fun w2 S2 => match keyW S2 w1, w2 with
  | some k, .t x => .ok (.r S2.length) (S2 ++ [.dic [(k, x)]])
  | _, _ => .no
theorem de_dict1B (ha : DE X a fa) (hb : DE X b fb) : DE X (.Dict [some a] [b] pos) (eDict1B fa fb) := by
  intro σ H ρ S F μ w S' Q h hs ee hQ
  obtain ⟨w1, S1, e1, ea⟩ := R.bind_eq ee
  obtain ⟨w2, S2, e2, eb⟩ := R.bind_eq ea
  clear ee ea
  split at eb
  · rename_i k x hk
    cases eb
    refine wpe (pe_disp (pps_cons peW peW pps_nil) rfl rfl (by simp) (by simp)) fun p hp => ?_
    have r0 := h.heap (.dK []) (h.notF hp) (h.notM hp)
    have g0 : Gr H F μ (upd H p (.dK [])) F μ := Gr.updH Gr.refl hp
    refine ha σ _ ρ S F μ w1 S1 _ r0 hs e1 fun v H1 F1 μ1 r1 g1 q1 => ?_
    refine hb σ H1 ρ S1 F1 μ1 _ S2 _ r1 (hs.gr g1) e2 fun u H2 F2 μ2 r2 g2 q2 => ?_
    have q2 : Rp X.K F2 x u := q2
    obtain ⟨z1, z2, z3⟩ := (g1.trans g2).keep p _ upd_same (h.notF hp) (h.notM hp)
    unfold keyW at hk
    cases hx : view S2 w1 with
    | none => rw [hx] at hk; cases hk
    | some y =>
      rw [hx] at hk
      refine ⟨z1, [(k, u)], ?_, by simp, ?_⟩
      · rw [key_rv (view_rv r2 (q1.gr g2) hx) hk]; rfl
      · have r3 := (r2.heap (.dK [(k, u)]) z2 z3).box (p := p) (c := .dic [(k, x)]) (by rw [upd_same]; exact fun z => nomatch z) z3 ⟨z2, [(k, u)], upd_same, .cons q2 .nil⟩
        refine hQ _ _ F2 (μ2 ++ [p]) r3 ⟨(g1.trans g2).same, ?_, fun b' o' h1 h2 h3 => ?_, fun b' o' u' e' => ?_⟩ ⟨p, by rw [← r2.len]; simp, rfl⟩
        · obtain ⟨ν, rfl⟩ := (g1.trans g2).pre
          exact ⟨ν ++ [p], by rw [List.append_assoc]⟩
        · have ne : b' ≠ p := ne_of_none h1 hp
          obtain ⟨y1, y2, y3⟩ := ((g0.trans g1).trans g2).keep b' o' h1 h2 h3
          exact ⟨by rw [upd_ne ne]; exact y1, y2, by simp [y3, ne]⟩
        · have ne : b' ≠ p := ne_of_none e' hp
          rw [upd_ne ne]
          exact ((g0.trans g1).trans g2).lk b' o' u' e'
  · cases eb
def getW (S : Sto) (wd wk wz : W) : Option W := (view S wd).bind fun d => match d with
  | .dct kvs => (keyW S wk).map fun k => match lookK kvs k with
    | some x => .t x
    | none => wz
  | _ => none
def isDct : Option T → Bool
  | some (.dct _) => true
  | _ => false
def eGet (fo fa fb : Ex) : Ex := fun ρ S => (fo ρ S).bind fun wd S1 => if isDct (view S1 wd) then (fa ρ S1).bind fun w1 S2 => (fb ρ S2).bind fun w2 S3 => R.of (getW S3 wd w1 w2) S3 else .no
/-- d.get(k, z) -/
theorem de_get {k : Nat} {apos cpos : Pos} (hr : RoomG k X.A) (ho : DE X o fo) (ha : DE X a fa) (hb : DE X b fb) (hbase : attributeBase o "get" X.env (eval o X.env) = eval o X.env := by rfl)
    (hfew : ((backTo cpos (starEach [a, b] X.env)).all (fun x => !x.1) && (backToKw cpos (keywordEach [] X.env)).all (fun x => x.1.isSome)
      && decide (([a, b] : List Expr).length + ([] : List Keyword).length + (if ([] : List Keyword).isEmpty then 0 else 1) < 30)) = true := by rfl)
    (hline : (apos.endLine == cpos.line) = true := by rfl) (hs3 : backTo cpos (starEach [a, b] X.env) = [(false, eval a X.env), (false, eval b X.env)] := by rfl) :
    DE X (.Call (.Attribute o "get" apos) [a, b] [] cpos) (eGet fo fa fb) := by
  intro σ H ρ S F μ w S' Q h hs ee hQ
  obtain ⟨wd, S1, e1, ea⟩ := R.bind_eq ee
  clear ee
  split at ea
  · rename_i hd
    obtain ⟨w1, S2, e2, eb⟩ := R.bind_eq ea
    obtain ⟨w2, S3, e3, ec⟩ := R.bind_eq eb
    clear ea eb
    obtain ⟨h4, rfl⟩ := R.of_eq ec
    refine wpe (pe_dget2 (hu_of hr.toRoom) peW peW peW ⟨hbase, hfew, hline, hs3⟩) ?_
    refine ho σ H ρ S F μ wd S1 _ h hs e1 fun v H1 F1 μ1 r1 g1 q1 => ?_
    unfold isDct at hd
    split at hd
    · rename_i kvs1 hv1
      have rv1 := view_rv r1 q1 hv1
      cases rv1 with
      | dct ad rd =>
        refine ⟨_, rfl, .inl ⟨_, ad⟩, ?_⟩
        refine ha σ H1 ρ S1 F1 μ1 w1 S2 _ r1 (hs.gr g1) e2 fun u H2 F2 μ2 r2 g2 q2 => ?_
        refine hb σ H2 ρ S2 F2 μ2 w2 S' _ r2 ((hs.gr g1).gr g2) e3 fun t H3 F3 μ3 r3 g3 q3 => ?_
        unfold getW at h4
        cases hx : view S' wd with
        | none => rw [hx] at h4; cases h4
        | some d =>
          rw [hx] at h4
          have rv := view_rv r3 ((q1.gr g2).gr g3) hx
          cases d with
          | dct kvs =>
            obtain ⟨key, hk, rfl⟩ := map1 h4
            cases rv with
            | dct ad2 rd2 =>
              unfold keyW at hk
              cases hy : view S' w1 with
              | none => rw [hy] at hk; cases hk
              | some y =>
                rw [hy] at hk
                have ek := key_rv (view_rv r3 (q2.gr g3) hy) hk
                refine ⟨_, by rw [ek]; exact dget_rd ad2, ?_⟩
                have lk := valV_look (k := key) rd2
                cases hl : lookK kvs key with
                | none =>
                  rw [lk.2 hl]
                  rw [hl] at hQ
                  exact hQ _ H3 F3 μ3 r3 ((g1.trans g2).trans g3) q3
                | some z =>
                  obtain ⟨vz, k1, k2⟩ := lk.1 z hl
                  rw [k1]
                  rw [hl] at hQ
                  exact hQ _ H3 F3 μ3 r3 ((g1.trans g2).trans g3) k2
          | _ => cases h4
    · cases hd
  · cases ea

/-! ### repr -/
def bRepr : List T → Option T
  | [x] => if shp x && (toPy x).showable && decide ((toPy x).shown.length ≤ cap) then (match x with
    | .tup _ => some (.str (toPy x).shown)
    | .lst _ => some (.str (toPy x).shown)
    | _ => none) else none
  | _ => none
def rRepr (K : PySem.W.Frag) : List V → Hp → VK → Prop := fun xs H Q => ∃ (a : Addr) (d : PyData), xs = [.ref a] ∧ Dp K H (.ref a) d ∧ SeqAt.shaped d = true ∧ d.canLay0 = true ∧ d.showable = true ∧ d.shown.length ≤ sizeLine ∧ d.depth ≤ 60 ∧ Q (.str d.shown) H
theorem cr_repr {k : Nat} (hr : RoomG k X.A) : CallR X (.builtin "repr") (rRepr X.K) := by
  intro pins s σ H xs us Q I r h
  obtain ⟨a, d, rfl, hd, _, hl, hsh, hz, dep, q⟩ := h
  obtain ⟨u, rfl, ru⟩ := vals1 r
  obtain rfl : u = Value.ref a := ru
  obtain ⟨as, rd⟩ := Dp.reads I d _ _ hd rfl
  refine PySem.repr_of_reads' rd hsh (PySem.PyData.noDict_hsm (PySem.PyData.hasDict_of_canLay d hl)) hr.gd ?_ (fun _ _ e => e) (fun h' u tk hk => ⟨.str d.shown, H, I.kept hk, ⟨_, rfl⟩, q⟩) hz
  have := hr.toRoom.un
  omega
theorem cd_repr {k : Nat} (hr : RoomG k X.A) : CallD X (.builtin "repr") bRepr := by
  refine ⟨_, cr_repr hr, fun H S F μ xs vs c Q h rv e q => ?_⟩
  unfold bRepr at e
  split at e
  · rename_i x
    split at e
    · rename_i hc
      simp only [Bool.and_eq_true, decide_eq_true_eq] at hc
      obtain ⟨⟨h1, h2⟩, h3⟩ := hc
      have hlay := shp_lay h1
      have hdep : (toPy x).depth ≤ 60 := by
        rw [dep_py x hlay]
        unfold shp at h1
        simp only [Bool.and_eq_true, decide_eq_true_eq] at h1
        exact h1.2
      obtain ⟨v, rfl, r⟩ := rvs1 rv
      have dp := rp_dp (r.rp h.sub (shp_nd h1)) hlay
      cases r with
      | tup a r => cases e; exact ⟨_, _, rfl, dp, shp_py h1, by rw [lay_py]; exact hlay, h2, by rw [cap_eq]; exact h3, hdep, q.same h (.str _)⟩
      | lst a r => cases e; exact ⟨_, _, rfl, dp, shp_py h1, by rw [lay_py]; exact hlay, h2, by rw [cap_eq]; exact h3, hdep, q.same h (.str _)⟩
      | _ => cases e
    · cases e
  · cases e
end
end Dl

/-! DkA: the deck's defs and other defs that many laws share, as denotations (printed by gen.py). -/
namespace Dl
open PySem
def RD : Nat := 40
def b_mask_of : Sx := sRet (eCall bSum (aCons (eComp [1] (srcS (eVar 0)) (.nm 1) (tTrue) (e2 gShl (eC (.int 1)) (eVar 1))) (aNil)))
def d_mask_of : Den := fnF 1 2 b_mask_of
def b_masks_of : Sx := sRet (eComp [1] (srcS (eIx (eVar 0) (eC (.int 1)))) (.nm 1) (tTrue) (eFn 1 (d_mask_of) (aCons (eVar 1) (aNil))))
def d_masks_of : Den := fnF 1 2 b_masks_of
def b_is_simple : Sx := sCons (sSet 3 (eCall (lst1 bSorted) (aCons (eComp [4] (srcS (eVar 0)) (.nm 4) (tE (e2 gEq (e2 gAnd (e2 gShr (eVar 4) (eVar 2)) (eC (.int 1))) (eC (.int 1)))) (e2 gAnd (eVar 4) (eVar 1))) (aNil))))
  (sRet (eCall bAll (aCons (eComp [5, 6] (srcZ2 (aCons (eVar 3) (aCons (eSl (eVar 3) (oSome (eC (.int 1))) oNone) (aNil)))) (.tp [.nm 5, .nm 6]) (tTrue) (e2 gEq (e2 gAnd (eVar 5) (eVar 6)) (eVar 5))) (aNil))))
def d_is_simple : Den := fnF 3 7 b_is_simple
def b_simple_digits : Sx := sRet (eComp [2] (srcR1 (aCons (e1 gBitLen (eVar 1)) (aNil))) (.nm 2) (tAndD (tE (e2 gEq (e2 gAnd (e2 gShr (eVar 1) (eVar 2)) (eC (.int 1))) (eC (.int 1)))) (tE (eFn 3 (d_is_simple) (aCons (eVar 0) (aCons (eVar 1) (aCons (eVar 2) (aNil))))))) (eVar 2))
def d_simple_digits : Den := fnF 2 3 b_simple_digits
def b_counts_from (d_counts_from : Nat → Den) (n : Nat) : Sx := sCons (sIf (tE (e2 gEq (eVar 1) (eC (.int 0)))) (sRet (eC (.int 1))) (sNil))
  (sCons (sIf (tE (e2 gNotIn (eVar 1) (eVar 2))) (sAsg (eCall bSum (aCons (eComp [3] (srcS (eFn 2 (d_simple_digits) (aCons (eVar 0) (aCons (eVar 1) (aNil))))) (.nm 3) (tTrue) (eFn 3 (d_counts_from n) (aCons (eVar 0) (aCons (e2 gSub (eVar 1) (e2 gShl (eC (.int 1)) (eVar 3))) (aCons (eVar 2) (aNil)))))) (aNil))) (gSubD (eVar 2) (eVar 1))) (sNil))
  (sRet (eIx (eVar 2) (eVar 1))))
def d_counts_from : Nat → Den
  | 0 => fun _ _ => .no
  | n + 1 => fnF 3 4 (b_counts_from (fun _ => d_counts_from n) n)
def b_count_nested_orders : Sx := sRet (eFn 3 (d_counts_from RD) (aCons (eFn 1 (d_masks_of) (aCons (eVar 0) (aNil))) (aCons (e2 gSub (e2 gShl (eC (.int 1)) (eIx (eVar 0) (eC (.int 0)))) (eC (.int 1))) (aCons (eDictB) (aNil)))))
def d_count_nested_orders : Den := fnF 1 1 b_count_nested_orders
def b__law_deck : Sx := sCons (sSet 1 (eComp [2] (srcS (eVar 0)) (.nm 2) (tTrue) (eCall bAbs (aCons (eVar 2) (aNil)))))
  (sRet (eVecB (aCons (eCompB [2] (srcS (eVar 1)) (.nm 2) (tE (e2 gGe (eVar 2) (e2 gPow (eC (.int 10)) (eC (.int 18))))) (eVar 2)) (aCons (e2L gCat (eVar 1) (eLst (aCons (e2 gAdd (eCall bLen (aCons (eVar 1) (aNil))) (eC (.int 7))) (aNil)))) (aCons (eC (.int 0)) (aNil))))))
def d__law_deck : Den := fnK 1 3 b__law_deck
def b__law_next : Sx := sCons (whL (tE (e2 gNe (eIx (eVar 0) (eC (.int 0))) (eLst (aNil)))) (sCons (sSet 4 (eIx (eIx (eVar 0) (eC (.int 0))) (eC (.int 0))))
  (sCons (sIf (tE (e2 gGt (eVar 4) (eC (.int 0)))) (sCons (sAsg (e2 gDiv (eVar 4) (eVar 1)) (gSubD (eIx (eVar 0) (eC (.int 0))) (eC (.int 0))))
  (sRet (e2 gMod (eVar 4) (eVar 1)))) (sNil))
  (sExpr (eM1 kPopAt (eIx (eVar 0) (eC (.int 0))) (eC (.int 0)))))) LL)
  (sCons (sAsg (e2 gAdd (eIx (eVar 0) (eC (.int 2))) (eC (.int 1))) (gSubD (eVar 0) (eC (.int 2))))
  (sCons (sSet 2 (e2 gMod (eIx (eIx (eVar 0) (eC (.int 1))) (e2 gMod (eIx (eVar 0) (eC (.int 2))) (eCall bLen (aCons (eIx (eVar 0) (eC (.int 1))) (aNil))))) (eC (.int 2147483647))))
  (sCons (sSet 3 (e2 gAdd (e2 gAdd (e2 gMul (eVar 2) (e2 gAdd (eC (.int 48271)) (e2 gMul (eC (.int 69621)) (eIx (eVar 0) (eC (.int 2)))))) (e2 gMul (e2 gMul (eC (.int 40014)) (eIx (eVar 0) (eC (.int 2)))) (eIx (eVar 0) (eC (.int 2))))) (eC (.int 79))))
  (sCons (sSet 3 (e2 gMod (eVar 3) (eC (.int 2147483629))))
  (sRet (e2 gMod (e2 gDiv (e2 gMod (e2 gMul (eVar 3) (eVar 3)) (eC (.int 2147483587))) (eC (.int 16))) (eVar 1)))))))
def d__law_next : Den := fnF 2 5 b__law_next
def b__law_one : Sx := sRet (eIx (eVar 1) (eFn 2 (d__law_next) (aCons (eVar 0) (aCons (eCall bLen (aCons (eVar 1) (aNil))) (aNil)))))
def d__law_one : Den := fnF 2 2 b__law_one
def b__law_same (d__law_same : Nat → Den) (n : Nat) : Sx := sCons (sIf (tE (e1 (gIsiT ["tuple", "list"]) (eVar 1))) (sCons (sIf (tE (e2 gNe (e1 (gIsi "tuple") (eVar 0)) (e1 (gIsi "tuple") (eVar 1)))) (sRet (eC (.bl false))) (sNil))
  (sCons (sIf (tE (e2 gNe (e1 (gIsi "list") (eVar 0)) (e1 (gIsi "list") (eVar 1)))) (sRet (eC (.bl false))) (sNil))
  (sCons (sIf (tE (e2 gNe (eCall bLen (aCons (eVar 0) (aNil))) (eCall bLen (aCons (eVar 1) (aNil))))) (sRet (eC (.bl false))) (sNil))
  (sRet (e2 gEq (eComp [2] (srcR1 (aCons (eCall bLen (aCons (eVar 1) (aNil))) (aNil))) (.nm 2) (tNotD (tE (eFn 2 (d__law_same n) (aCons (eIx (eVar 0) (eVar 2)) (aCons (eIx (eVar 1) (eVar 2)) (aNil)))))) (eVar 2)) (eLst (aNil))))))) (sNil))
  (sCons (sIf (tE (e1 (gIsi "dict") (eVar 1))) (sRet (eAnd (e1 (gIsi "dict") (eVar 0)) (e2 gEq (eVar 0) (eVar 1)))) (sNil))
  (sCons (sIf (tE (e2 gIs (eVar 1) (eC .non))) (sRet (e2 gIs (eVar 0) (eC .non))) (sNil))
  (sCons (sIf (tE (e1 (gIsi "str") (eVar 1))) (sRet (eAnd (e1 (gIsi "str") (eVar 0)) (e2 gEq (eVar 0) (eVar 1)))) (sNil))
  (sRet (eAnd (e1 (gIsi "int") (eVar 0)) (eAnd (e2 gEq (e1 (gIsi "bool") (eVar 0)) (e1 (gIsi "bool") (eVar 1))) (e2 gEq (eVar 0) (eVar 1))))))))
def d__law_same : Nat → Den
  | 0 => fun _ _ => .no
  | n + 1 => fnF 2 3 (b__law_same (fun _ => d__law_same n) n)
def b__law_part : Sx := sRet (eCall bTuple (aCons (eComp [3] (srcS (eVar 1)) (.nm 3) (tE (e2 gGe (eFn 2 (d__law_next) (aCons (eVar 0) (aCons (eC (.int 4)) (aNil)))) (eVar 2))) (eVar 3)) (aNil)))
def d__law_part : Den := fnF 3 4 b__law_part
def b__law_shuffled : Sx := sCons (sPar 2 3 (aCons (eListR1B (aCons (eVar 1) (aNil))) (aCons (eLstB (aNil)) (aNil))))
  (sCons (whL (tE (e2 gNe (eVar 2) (eLst (aNil)))) (sExpr (eM1 kAppend (eVar 3) (eM1 kPopAt (eVar 2) (eFn 2 (d__law_next) (aCons (eVar 0) (aCons (eCall bLen (aCons (eVar 2) (aNil))) (aNil))))))) LL)
  (sRet (eCall bTuple (aCons (eVar 3) (aNil)))))
def d__law_shuffled : Den := fnF 2 4 b__law_shuffled
def b__law_intervals : Sx := sCons (sPar 3 4 (aCons (eFn 2 (d__law_shuffled) (aCons (eVar 0) (aCons (eVar 1) (aNil)))) (aCons (eLstB (aNil)) (aNil))))
  (sCons (sFor (srcR1 (aCons (eVar 2) (aNil))) (.nm 5) (sCons (sSet 6 (eFn 2 (d__law_next) (aCons (eVar 0) (aCons (eVar 1) (aNil)))))
  (sExpr (eM1 kAppend (eVar 4) (eCall bTuple (aCons (eCall (lst1 bSorted) (aCons (eSl (eVar 3) (oSome (eVar 6)) (oSome (e2 gAdd (e2 gAdd (eVar 6) (eC (.int 1))) (eFn 2 (d__law_next) (aCons (eVar 0) (aCons (eVar 1) (aNil))))))) (aNil))) (aNil)))))))
  (sRet (eTup (aCons (eVar 1) (aCons (eCall bTuple (aCons (eVar 4) (aNil))) (aNil))))))
def d__law_intervals : Den := fnF 3 7 b__law_intervals
def b__law_around : Sx := sCons (sPar 3 4 (aCons (eFn 2 (d__law_shuffled) (aCons (eVar 0) (aCons (eVar 1) (aNil)))) (aCons (e2 gAdd (eC (.int 3)) (eFn 2 (d__law_next) (aCons (eVar 0) (aCons (eC (.int 3)) (aNil))))) (aNil))))
  (sCons (sSet 5 (eLstB (aNil)))
  (sCons (sFor (srcR1 (aCons (eVar 2) (aNil))) (.nm 6) (sIf (tAndD (tE (e2 gLe (eVar 4) (eVar 1))) (tE (e2 gLt (eVar 6) (eVar 4)))) (sExpr (eM1 kAppend (eVar 5) (eCall bTuple (aCons (eCall (lst1 bSorted) (aCons (e2 gAdd (eLst (aCons (eIx (eVar 3) (eVar 6)) (aCons (eIx (eVar 3) (e2 gMod (e2 gAdd (eVar 6) (eC (.int 1))) (eVar 4))) (aNil)))) (eCall (lst1 bList) (aCons (eFn 3 (d__law_part) (aCons (eVar 0) (aCons (eSl (eVar 3) (oSome (eVar 4)) oNone) (aCons (eC (.int 3)) (aNil))))) (aNil)))) (aNil))) (aNil))))) (sExpr (eM1 kAppend (eVar 5) (eFn 3 (d__law_part) (aCons (eVar 0) (aCons (eListR1 (aCons (eVar 1) (aNil))) (aCons (e2 gAdd (eC (.int 1)) (eFn 2 (d__law_next) (aCons (eVar 0) (aCons (eC (.int 3)) (aNil))))) (aNil)))))))))
  (sRet (eTup (aCons (eVar 1) (aCons (eCall bTuple (aCons (eComp [6] (srcR1 (aCons (eVar 2) (aNil))) (.nm 6) (tTrue) (eM1 kPopAt (eVar 5) (eFn 2 (d__law_next) (aCons (eVar 0) (aCons (eCall bLen (aCons (eVar 5) (aNil))) (aNil)))))) (aNil))) (aNil)))))))
def d__law_around : Den := fnF 3 7 b__law_around
def b__law_any : Sx := sCons (sPar 3 4 (aCons (eFn 2 (d__law_next) (aCons (eVar 0) (aCons (eC (.int 4)) (aNil)))) (aCons (eLstB (aNil)) (aNil))))
  (sCons (sFor (srcR1 (aCons (eVar 2) (aNil))) (.nm 5) (sIf (tAndD (tE (e2 gNe (eVar 4) (eLst (aNil)))) (tE (e2 gEq (eFn 2 (d__law_next) (aCons (eVar 0) (aCons (eC (.int 6)) (aNil)))) (eC (.int 0))))) (sExpr (eM1 kAppend (eVar 4) (eFn 2 (d__law_one) (aCons (eVar 0) (aCons (eVar 4) (aNil)))))) (sExpr (eM1 kAppend (eVar 4) (eFn 3 (d__law_part) (aCons (eVar 0) (aCons (eListR1 (aCons (eVar 1) (aNil))) (aCons (eVar 3) (aNil)))))))))
  (sRet (eTup (aCons (eVar 1) (aCons (eCall bTuple (aCons (eVar 4) (aNil))) (aNil))))))
def d__law_any : Den := fnF 3 6 b__law_any
def b__law_table : Sx := sCons (sPar 1 2 (aCons (e2 gAdd (eC (.int 1)) (eFn 2 (d__law_next) (aCons (eVar 0) (aCons (eVar 1) (aNil))))) (aCons (eFn 2 (d__law_next) (aCons (eVar 0) (aCons (e2 gAdd (eVar 2) (eC (.int 1))) (aNil)))) (aNil))))
  (sCons (sSet 3 (eFn 2 (d__law_next) (aCons (eVar 0) (aCons (eC (.int 5)) (aNil)))))
  (sCons (sIf (tE (e2 gLt (eVar 3) (eC (.int 2)))) (sRet (eFn 3 (d__law_intervals) (aCons (eVar 0) (aCons (eVar 1) (aCons (eVar 2) (aNil)))))) (sNil))
  (sRet (eIf (tE (e2 gEq (eVar 3) (eC (.int 2)))) (eFn 3 (d__law_around) (aCons (eVar 0) (aCons (eVar 1) (aCons (eVar 2) (aNil))))) (eFn 3 (d__law_any) (aCons (eVar 0) (aCons (eVar 1) (aCons (eVar 2) (aNil)))))))))
def d__law_table : Den := fnF 3 4 b__law_table
end Dl

/-! DkB: the words, applied; what the deck's defs give. -/
namespace Dl
open PySem

section
variable (ρ : Env) (S : Sto) (f fa fb fc : Ex) (fs : Exs) (ft fu : Tx) (g g2 : Sx) (i j k : Nat) (x y : T) (w u : W)
@[simp] theorem bind_ok' {α β : Type} (a : α) (S : Sto) (h : α → Sto → R β) : (R.ok a S).bind h = h a S := rfl
@[simp] theorem thenS_ok {α : Type} (a : α) (S : Sto) (h : α → Sto → O) : thenS (R.ok a S) h = h a S := rfl
@[simp] theorem of_some {α : Type} (a : α) (S : Sto) : R.of (some a) S = .ok a S := rfl
@[simp] theorem of_none {α : Type} (S : Sto) : R.of (none : Option α) S = .no := rfl
@[simp] theorem loopS_nx (h : Env → Sto → O) : loopS h (.nx ρ S) = h ρ S := rfl
@[simp] theorem loopS_ct (h : Env → Sto → O) : loopS h (.ct ρ S) = h ρ S := rfl
@[simp] theorem loopS_bk (h : Env → Sto → O) : loopS h (.bk ρ S) = .nx ρ S := rfl
@[simp] theorem loopS_rt (h : Env → Sto → O) : loopS h (.rt w S) = .rt w S := rfl
@[simp] theorem ap_var : eVar i ρ S = (match ρ[i]? with
  | some (some w) => .ok w S
  | _ => .no) := rfl
@[simp] theorem ap_C : eC x ρ S = .ok (.t x) S := rfl
@[simp] theorem ap_aNil : aNil ρ S = .ok [] S := rfl
@[simp] theorem ap_aCons : aCons f fs ρ S = (f ρ S).bind fun w S1 => (fs ρ S1).bind fun ws S2 => .ok (w :: ws) S2 := rfl
@[simp] theorem ap_eTup : eTup fs ρ S = (fs ρ S).bind fun ws S1 => R.of (treeOf T.tup ws) S1 := rfl
@[simp] theorem ap_eLst : eLst fs ρ S = (fs ρ S).bind fun ws S1 => R.of (treeOf T.lst ws) S1 := rfl
@[simp] theorem ap_e2 (h : T → T → Option T) : e2 h fa fb ρ S = (fa ρ S).bind fun w1 S1 => (fb ρ S1).bind fun w2 S2 => R.of ((view S2 w1).bind fun x => (view S2 w2).bind fun y => (h x y).map W.t) S2 := rfl
@[simp] theorem ap_e1 (h : T → Option T) : e1 h fa ρ S = (fa ρ S).bind fun w S1 => R.of ((view S1 w).bind fun x => (h x).map W.t) S1 := rfl
@[simp] theorem ap_tE : tE f ρ S = (f ρ S).bind fun w S1 => R.of (asB w) S1 := rfl
@[simp] theorem ap_tAnd : tAndD ft fu ρ S = (ft ρ S).bind fun k S1 => if k then fu ρ S1 else .ok false S1 := rfl
@[simp] theorem ap_tOr : tOrD ft fu ρ S = (ft ρ S).bind fun k S1 => if k then .ok true S1 else fu ρ S1 := rfl
@[simp] theorem ap_tNot : tNotD ft ρ S = (ft ρ S).bind fun k S1 => .ok (!k) S1 := rfl
@[simp] theorem ap_tTrue : tTrue ρ S = .ok true S := rfl
@[simp] theorem ap_eAnd : eAnd fa fb ρ S = (tE fa ρ S).bind fun k S1 => if k then fb ρ S1 else .ok (.t (.bl false)) S1 := rfl
@[simp] theorem ap_eOr : eOr fa fb ρ S = (tE fa ρ S).bind fun k S1 => if k then .ok (.t (.bl true)) S1 else fb ρ S1 := rfl
@[simp] theorem ap_eNot : eNot fa ρ S = (tE fa ρ S).bind fun k S1 => .ok (.t (.bl (!k))) S1 := rfl
@[simp] theorem ap_eIf : eIf ft fa fb ρ S = (ft ρ S).bind fun k S1 => if k then fa ρ S1 else fb ρ S1 := rfl
@[simp] theorem ap_eIx : eIx fa fb ρ S = (fa ρ S).bind fun w1 S1 => (fb ρ S1).bind fun w2 S2 => R.of ((view S2 w2).bind fun y => ixW S2 w1 y) S2 := rfl
@[simp] theorem ap_oNone : oNone ρ S = .ok none S := rfl
@[simp] theorem ap_oSome : oSome f ρ S = (f ρ S).bind fun w S1 => R.of ((asI w).map some) S1 := rfl
@[simp] theorem ap_eSl (l u : Ox) : eSl fa l u ρ S = (fa ρ S).bind fun w S1 => (l ρ S1).bind fun lo S2 => (u ρ S2).bind fun hi S3 => R.of ((view S3 w).bind fun x => (gSl x lo hi).map W.t) S3 := rfl
@[simp] theorem ap_eCall (h : List T → Option T) : eCall h fs ρ S = (fs ρ S).bind fun ws S1 => R.of ((views S1 ws).bind fun xs => (h xs).map W.t) S1 := rfl
@[simp] theorem ap_eFn (n : Nat) (den : Den) : eFn n den fs ρ S = (fs ρ S).bind fun ws S1 => if ws.length = n then den ws S1 else .no := rfl
@[simp] theorem ap_sNil : sNil ρ S = .nx ρ S := rfl
@[simp] theorem ap_sCons : sCons g g2 ρ S = (match g ρ S with
  | .nx ρ1 S1 => g2 ρ1 S1
  | o => o) := rfl
@[simp] theorem ap_sExpr : sExpr f ρ S = thenS (f ρ S) fun _ S1 => .nx ρ S1 := rfl
@[simp] theorem ap_sRet : sRet f ρ S = thenS (f ρ S) fun w S1 => .rt w S1 := rfl
@[simp] theorem ap_sIf : sIf ft g g2 ρ S = thenS (ft ρ S) fun k S1 => if k then g ρ S1 else g2 ρ S1 := rfl
@[simp] theorem ap_sSet : sSet i f ρ S = thenS (f ρ S) fun w S1 => .nx (ρ.set i (some w)) S1 := rfl
@[simp] theorem ap_sAsg (gt : Gx) : sAsg f gt ρ S = thenS (f ρ S) fun w S1 => thenS (gt w ρ S1) fun ρ2 S2 => .nx ρ2 S2 := rfl
@[simp] theorem ap_gPat (p : Pat) : gPat p w ρ S = R.of (bindW p w ρ) S := rfl
@[simp] theorem ap_sPar : sPar i j fs ρ S = thenS (fs ρ S) fun ws S1 => (match ws with
  | [w, u] => .nx ((ρ.set i (some w)).set j (some u)) S1
  | _ => .no) := rfl
@[simp] theorem ap_sFor (src : Srcx) (p : Pat) : sFor src p g ρ S = thenS (src ρ S) fun its S1 => forL its.g p g its.l ρ S1 := rfl
@[simp] theorem ap_eComp (vs : List Nat) (src : Srcx) (p : Pat) : eComp vs src p ft f ρ S = (src ρ S).bind fun its S1 => if its.l.length ≤ cap then (compL its.g p ft f its.l (wipeE ρ vs) S1).bind fun xs S2 => .ok (.t (.lst xs)) S2 else .no := rfl
@[simp] theorem ap_srcS : srcS f ρ S = (f ρ S).bind fun w S1 => R.of ((cont S1 w).map fun c => ⟨c.2.1.map Item.one, c.2.2⟩) S1 := rfl
@[simp] theorem ap_srcR1 : srcR1 fs ρ S = (fs ρ S).bind fun ws S1 => R.of (rng1 ws) S1 := rfl
@[simp] theorem ap_srcR2 : srcR2 fs ρ S = (fs ρ S).bind fun ws S1 => R.of (rng2 ws) S1 := rfl
@[simp] theorem ap_srcZ2 : srcZ2 fs ρ S = (fs ρ S).bind fun ws S1 => R.of (zip2 S1 ws) S1 := rfl
@[simp] theorem ap_listR1 : eListR1 fs ρ S = (fs ρ S).bind fun ws S1 => R.of ((lrg ws).map fun ab => .t (.lst (rngV ab.1 ab.2))) S1 := rfl
@[simp] theorem ap_listR1B : eListR1B fs ρ S = (fs ρ S).bind fun ws S1 => (match lrg ws with
  | some ab => .ok (.r S1.length) (S1 ++ [.lst (rngV ab.1 ab.2)])
  | none => .no) := rfl
@[simp] theorem ap_m1 (h : Sto → Cell → W → Option (W × Cell)) : eM1 h fa fb ρ S = (fa ρ S).bind fun w S1 => (match w with
  | .r n => if live S1 n then (fb ρ S1).bind fun v S2 => (match S2[n]?.bind fun c => h S2 c v with
    | some (w', c) => .ok w' (S2.set n c)
    | none => .no) else .no
  | .t _ => .no) := rfl
@[simp] theorem ap_gSub : gSubD fa fb w ρ S = (fa ρ S).bind fun wo S1 => (fb ρ S1).bind fun wi S2 => (match wo with
  | .r n => (match (view S2 wi).bind fun y => S2[n]?.bind fun c => c.put y w with
    | some c => .ok ρ (S2.set n c)
    | none => .no)
  | .t _ => .no) := rfl
@[simp] theorem view_t : view S (.t x) = some x := rfl
@[simp] theorem view_r : view S (.r i) = S[i]?.bind Cell.view := rfl
@[simp] theorem cv_lst (xs : List T) : Cell.view (.lst xs) = some (.lst xs) := rfl
@[simp] theorem cv_dic (xs : List (L2.Key × T)) : Cell.view (.dic xs) = some (.dct xs) := rfl
@[simp] theorem views_nil : views S [] = some [] := rfl
@[simp] theorem views_cons (r : List W) : views S (w :: r) = (view S w).bind fun x => (views S r).map (x :: ·) := rfl
@[simp] theorem asB_bl (b : Bool) : asB (.t (.bl b)) = some b := rfl
@[simp] theorem asI_int (b : Int) : asI (.t (.int b)) = some b := rfl
@[simp] theorem ix_lst (xs : List T) (n : Int) : ixW S (.t (.lst xs)) (.int n) = (L2.atI xs n).map W.t := rfl
@[simp] theorem ix_tup (xs : List T) (n : Int) : ixW S (.t (.tup xs)) (.int n) = (L2.atI xs n).map W.t := rfl
@[simp] theorem ix_r (n : Int) : ixW S (.r i) (.int n) = S[i]?.bind fun c => (match c, T.int n with
    | .dic kvs, k => (keyOf k).bind fun k => (lookK kvs k).map W.t
    | .frz kvs, k => (keyOf k).bind fun k => (lookK kvs k).map W.t
    | c, .int i => c.at i
    | _, _ => none) := rfl
@[simp] theorem at_lst (xs : List T) (n : Int) : Cell.at (.lst xs) n = (L2.atI xs n).map W.t := rfl
@[simp] theorem at_vec (xs : List W) (n : Int) : Cell.at (.vec xs) n = L2.atI xs n := rfl
@[simp] theorem add_int (a b : Int) : gAdd (.int a) (.int b) = some (.int (a + b)) := rfl
@[simp] theorem sub_int (a b : Int) : gSub (.int a) (.int b) = some (.int (a - b)) := rfl
@[simp] theorem mul_int (a b : Int) : gMul (.int a) (.int b) = if smallI a || smallI b then some (.int (a * b)) else none := rfl
@[simp] theorem div_int (a b : Int) : gDiv (.int a) (.int b) = if 0 < b ∧ b.natAbs < 18446744073709551616 then some (.int (a / b)) else none := rfl
@[simp] theorem mod_int (a b : Int) : gMod (.int a) (.int b) = if 0 < b then some (.int (a % b)) else none := rfl
@[simp] theorem pow_int (a b : Int) : gPow (.int a) (.int b) = if cpow a b then some (.int (a ^ b.toNat)) else none := rfl
@[simp] theorem shl_int (a b : Int) : gShl (.int a) (.int b) = if cpow a b then some (.int (a * 2 ^ b.toNat)) else none := rfl
@[simp] theorem shr_int (a b : Int) : gShr (.int a) (.int b) = if 0 ≤ b then some (.int (a / 2 ^ b.toNat)) else none := rfl
@[simp] theorem and_int (a b : Int) : gAnd (.int a) (.int b) = some (.int (Builtin.bitAnd a b)) := rfl
@[simp] theorem cmp_int (p : Int → Int → Bool) (a b : Int) : gCmp p (.int a) (.int b) = some (.bl (p a b)) := rfl
@[simp] theorem lt_int (a b : Int) : gLt (.int a) (.int b) = some (.bl (decide (a < b))) := rfl
@[simp] theorem lt_tup (ns ms : List Int) : gLt (.tup (ns.map T.int)) (.tup (ms.map T.int)) = some (.bl (HT.lexLt ns ms)) := by
  simp [gLt, intsOf_map]
@[simp] theorem sorted_lst (ns : List Int) : bSorted [.lst (ns.map T.int)] = some ((isort ns).map T.int) := by
  simp [bSorted, intsOf_map]
@[simp] theorem sorted_tup (ns : List Int) : bSorted [.tup (ns.map T.int)] = some ((isort ns).map T.int) := by
  simp [bSorted, intsOf_map]
@[simp] theorem len_lst (xs : List T) : bLen [.lst xs] = some (.int xs.length) := rfl
@[simp] theorem len_tup (xs : List T) : bLen [.tup xs] = some (.int xs.length) := rfl
@[simp] theorem tuple_lst (xs : List T) : bTuple [.lst xs] = some (.tup xs) := rfl
@[simp] theorem list_tup (xs : List T) : bList [.tup xs] = some xs := rfl
@[simp] theorem bI_nm : bindI (.nm i) (.one w) ρ = some (ρ.set i (some w)) := rfl
@[simp] theorem bW_nm : bindW (.nm i) w ρ = some (ρ.set i (some w)) := rfl
@[simp] theorem bI_tp (ps : List Pat) (ws : List W) : bindI (.tp ps) (.tp ws) ρ = bindWs ps ws ρ := rfl
@[simp] theorem bI_tup (ps : List Pat) (xs : List T) : bindI (.tp ps) (.one (.t (.tup xs))) ρ = bindWs ps (xs.map W.t) ρ := by simp [bindI, bindW]
@[simp] theorem bW_tup (ps : List Pat) (xs : List T) : bindW (.tp ps) (.t (.tup xs)) ρ = bindWs ps (xs.map W.t) ρ := by simp [bindW]
@[simp] theorem bWs_nil : bindWs [] [] ρ = some ρ := by simp [bindWs]
@[simp] theorem bWs_cons (p : Pat) (ps : List Pat) (ws : List W) : bindWs (p :: ps) (w :: ws) ρ = (bindW p w ρ).bind fun ρ1 => bindWs ps ws ρ1 := by simp [bindWs]
@[simp] theorem tree1 (h : List T → T) (xs : List T) (hl : xs.length ≤ cap) : treeOf h (xs.map W.t) = some (.t (h xs)) := by
  unfold treeOf
  rw [List.length_map, if_pos hl, toTs_map]; rfl
@[simp] theorem tree0 (h : List T → T) : treeOf h [] = some (.t (h [])) := rfl
@[simp] theorem tree_1 (h : List T → T) : treeOf h [.t x] = some (.t (h [x])) := rfl
@[simp] theorem tree_2 (h : List T → T) : treeOf h [.t x, .t y] = some (.t (h [x, y])) := rfl
@[simp] theorem tree_3 (h : List T → T) (z : T) : treeOf h [.t x, .t y, .t z] = some (.t (h [x, y, z])) := rfl
@[simp] theorem wipe0 : wipeE ρ [] = ρ := rfl
@[simp] theorem wipe1 (vs : List Nat) : wipeE ρ (i :: vs) = (wipeE ρ vs).set i none := rfl
@[simp] theorem cont_lst (xs : List T) : cont S (.t (.lst xs)) = some (.l, xs.map W.t, gTrue) := rfl
@[simp] theorem cont_tup (xs : List T) : cont S (.t (.tup xs)) = some (.t, xs.map W.t, gTrue) := rfl
@[simp] theorem cont_scr (ns : List Int) : cont S (.t (.scr ns)) = some (.l, ns.map fun n => .t (.int n), gTrue) := rfl
@[simp] theorem gTrue_eq : gTrue S = true := rfl
@[simp] theorem lst1_eq (h : List T → Option (List T)) (xs : List T) : lst1 h xs = (h xs).map T.lst := rfl
end
theorem atI0 {α : Type} (x : α) (r : List α) : L2.atI (x :: r) 0 = some x := by
  simp [L2.atI, L2.ixN]
theorem atI_nat' {α : Type} {xs : List α} {n : Nat} (h : n < xs.length) : L2.atI xs (n : Int) = some xs[n] := by
  have h1 : (0 : Int) ≤ n := Int.natCast_nonneg n
  have h2 : (n : Int) < xs.length := by omega
  simp [L2.atI, L2.ixN, h1, h2, h]
theorem atI_int {α : Type} {xs : List α} {n : Int} (h0 : 0 ≤ n) (h : n < xs.length) : L2.atI xs n = some (xs[n.toNat]'(by omega)) := by
  obtain ⟨m, rfl⟩ := Int.eq_ofNat_of_zero_le h0
  rw [atI_nat' (by omega)]
  simp
/-! ### a def's end -/
theorem okc_self (c : Cell) : okc c c = true := by
  cases c <;> simp [okc]
theorem truncOk_app : ∀ (S l : Sto), truncOk S (S ++ l) = true
  | [], _ => by simp [truncOk]
  | c :: S, l => by
    rw [List.cons_append]
    simp only [truncOk, Bool.and_eq_true]
    exact ⟨okc_self c, truncOk_app S l⟩
/-- a def that changes nothing -/
theorem fn_rt {n N : Nat} {g : Sx} {ws : List W} {S l : Sto} {x : T} (hn : ws.length = n) (h : g (envOf N ws) S = .rt (.t x) (S ++ l)) : fnF n N g ws S = .ok (.t x) S := by
  unfold fnF callF
  rw [if_pos hn, h]
  simp only [truncOk_app, if_true, finW, of_some]
  rw [List.take_left']
  rfl
theorem fn_rt0 {n N : Nat} {g : Sx} {ws : List W} {S : Sto} {x : T} (hn : ws.length = n) (h : g (envOf N ws) S = .rt (.t x) S) : fnF n N g ws S = .ok (.t x) S := fn_rt (l := []) hn (by rw [List.append_nil]; exact h)
/-! ### lists of ints -/
theorem lays_ints : ∀ ns : List Int, lays (ns.map T.int) = true
  | [] => by simp [lays]
  | n :: r => by simp [lays, lay, lays_ints r]
theorem deps_ints : ∀ ns : List Int, deps (ns.map T.int) ≤ 1
  | [] => by simp [deps]
  | n :: r => by
    have := deps_ints r
    simp [deps, dep]; omega
theorem shp_ints (ns : List Int) : shp (.lst (ns.map T.int)) = true := by
  have := deps_ints ns
  simp [shp, lay, lays_ints, dep]
  omega
theorem eqTs_ints : ∀ ns ms : List Int, eqTs (ns.map T.int) (ms.map T.int) = decide (ns = ms)
  | [], [] => by simp [eqTs]
  | [], _ :: _ => by simp [eqTs]
  | _ :: _, [] => by simp [eqTs]
  | n :: ns, m :: ms => by
    have := eqTs_ints ns ms
    by_cases h : n = m <;> simp [eqTs, eqT, this, h]
theorem ne_nil (ns : List Int) : gNe (.lst (ns.map T.int)) (.lst []) = some (.bl (decide (ns ≠ []))) := by
  have h1 := shp_ints ns
  have h2 := shp_ints []
  have h3 := eqTs_ints ns []
  rw [List.map_nil] at h2 h3
  simp only [gNe, h1, h2, Bool.and_self, if_true, eqT, h3]
  simp
end Dl

/-! DkC: the deck. -/
namespace Dl
open PySem

structure Deck where
  ds : List Int
  cs : List Int
  n : Int
def dk (δ : Deck) (Z : Sto) : Sto := .lst (δ.ds.map T.int) :: .lst (δ.cs.map T.int) :: .vec [.r 0, .r 1, .t (.int δ.n)] :: Z
structure Deck.Ok (δ : Deck) (b : Int) : Prop where
  ds : δ.ds.length ≤ 64
  cs0 : 0 < δ.cs.length
  cs1 : δ.cs.length ≤ 64
  n0 : 0 ≤ δ.n
  n1 : δ.n ≤ b
theorem Deck.Ok.mono {δ : Deck} {b c : Int} (h : δ.Ok b) (l : b ≤ c) : δ.Ok c := ⟨h.ds, h.cs0, h.cs1, h.n0, Int.le_trans h.n1 l⟩
section
variable (δ : Deck) (Z : Sto)
@[simp] theorem dk0 : (dk δ Z)[0]? = some (.lst (δ.ds.map T.int)) := rfl
@[simp] theorem dk1 : (dk δ Z)[1]? = some (.lst (δ.cs.map T.int)) := rfl
@[simp] theorem dk2 : (dk δ Z)[2]? = some (.vec [.r 0, .r 1, .t (.int δ.n)]) := rfl
@[simp] theorem dkl0 : live (dk δ Z) 0 = true := rfl
@[simp] theorem dkl2 : live (dk δ Z) 2 = true := rfl
@[simp] theorem dks0 (xs : List Int) : (dk δ Z).set 0 (.lst (xs.map T.int)) = dk ⟨xs, δ.cs, δ.n⟩ Z := rfl
@[simp] theorem dks2 (n : Int) : (dk δ Z).set 2 (.vec [.r 0, .r 1, .t (.int n)]) = dk ⟨δ.ds, δ.cs, n⟩ Z := rfl
@[simp] theorem vi0 (a b c : W) : L2.atI [a, b, c] 0 = some a := by simp [L2.atI, L2.ixN]
@[simp] theorem vi1 (a b c : W) : L2.atI [a, b, c] 1 = some b := by simp [L2.atI, L2.ixN]
@[simp] theorem vi2 (a b c : W) : L2.atI [a, b, c] 2 = some c := by simp [L2.atI, L2.ixN]
theorem dk_trunc (δ' : Deck) (l : Sto) : truncOk (dk δ Z) (dk δ' Z ++ l) = true := by
  simp only [dk, List.cons_append, truncOk, Bool.and_eq_true]
  exact ⟨rfl, rfl, rfl, truncOk_app Z l⟩
theorem dk_take (δ' : Deck) (l : Sto) : (dk δ' Z ++ l).take (dk δ Z).length = dk δ' Z := by
  rw [List.take_left']
  rfl
end
/-- a def that draws -/
theorem fn_dk {n N : Nat} {g : Sx} {ws : List W} {δ δ' : Deck} {Z l : Sto} {x : T} (hn : ws.length = n) (h : g (envOf N ws) (dk δ Z) = .rt (.t x) (dk δ' Z ++ l)) : fnF n N g ws (dk δ Z) = .ok (.t x) (dk δ' Z) := by
  unfold fnF callF
  rw [if_pos hn, h]
  simp only [dk_trunc, if_true, finW, of_some, dk_take]
theorem fn_dk0 {n N : Nat} {g : Sx} {ws : List W} {δ δ' : Deck} {Z : Sto} {x : T} (hn : ws.length = n) (h : g (envOf N ws) (dk δ Z) = .rt (.t x) (dk δ' Z)) : fnF n N g ws (dk δ Z) = .ok (.t x) (dk δ' Z) := fn_dk (l := []) hn (by rw [List.append_nil]; exact h)
theorem put_vec2 (n : Int) (a b c : W) : Cell.put (.vec [a, b, c]) (.int 2) (.t (.int n)) = some (.vec [a, b, .t (.int n)]) := by
  simp [Cell.put, L2.ixN]
theorem put_ints0 (d : Int) (ds : List Int) (v : Int) : Cell.put (.lst ((d :: ds).map T.int)) (.int 0) (.t (.int v)) = some (.lst ((v :: ds).map T.int)) := by
  simp [Cell.put, L2.ixN]
theorem pop_ints0 (S : Sto) (d : Int) (ds : List Int) : kPopAt S (.lst ((d :: ds).map T.int)) (.t (.int 0)) = some (.t (.int d), .lst (ds.map T.int)) := by
  simp [kPopAt, L2.ixN]
/-- the turns of the digits -/
abbrev nxT : Tx := tE (e2 gNe (eIx (eVar 0) (eC (.int 0))) (eLst aNil))
abbrev nxB : Sx := sCons (sSet 4 (eIx (eIx (eVar 0) (eC (.int 0))) (eC (.int 0))))
  (sCons (sIf (tE (e2 gGt (eVar 4) (eC (.int 0)))) (sCons (sAsg (e2 gDiv (eVar 4) (eVar 1)) (gSubD (eIx (eVar 0) (eC (.int 0))) (eC (.int 0))))
  (sRet (e2 gMod (eVar 4) (eVar 1)))) (sNil))
  (sExpr (eM1 kPopAt (eIx (eVar 0) (eC (.int 0))) (eC (.int 0)))))
theorem nx_loop {m : Int} (h0 : 0 < m) (h1 : m < 18446744073709551616) (Z : Sto) (cs : List Int) (n : Int) : ∀ (ds : List Int) (L : Nat) (x : Option W), ds.length < L →
    (∃ v ds', whL nxT nxB L [some (.r 2), some (.t (.int m)), none, none, x] (dk ⟨ds, cs, n⟩ Z) = .rt (.t (.int v)) (dk ⟨ds', cs, n⟩ Z) ∧ 0 ≤ v ∧ v < m ∧ ds'.length ≤ ds.length) ∨
    ∃ x', whL nxT nxB L [some (.r 2), some (.t (.int m)), none, none, x] (dk ⟨ds, cs, n⟩ Z) = .nx [some (.r 2), some (.t (.int m)), none, none, x'] (dk ⟨[], cs, n⟩ Z)
  | [], 0, _, h => absurd h (Nat.lt_irrefl _)
  | [], L + 1, x, _ => by
    refine .inr ⟨x, ?_⟩
    have e := ne_nil []
    rw [List.map_nil] at e
    simp [whL, e]
  | d :: ds, 0, _, h => absurd h (Nat.not_lt_zero _)
  | d :: ds, L + 1, x, h => by
    have h1' : m.natAbs < 18446744073709551616 := by omega
    have hl : ds.length < L := by simpa using h
    have e := ne_nil (d :: ds)
    have p0 := put_ints0 d ds (d / m)
    have p1 := fun S => pop_ints0 S d ds
    rw [List.map_cons] at e p0 p1
    have s0 := fun (xs : List Int) => dks0 ⟨d :: ds, cs, n⟩ Z xs
    by_cases hd : 0 < d
    · refine .inl ⟨d % m, d / m :: ds, ?_, Int.emod_nonneg _ (by omega), Int.emod_lt_of_pos _ h0, by simp⟩
      have s0 := s0 (d / m :: ds)
      simp [whL, e, atI0, hd, h0, h1', p0] 
      exact s0
    · rcases nx_loop h0 h1 Z cs n ds L (some (.t (.int d))) hl with ⟨v, ds', h2, h3, h4, h5⟩ | ⟨x', h2⟩
      · refine .inl ⟨v, ds', ?_, h3, h4, by simp; omega⟩
        simp [whL, e, atI0, hd, h0, h1', p1]
        exact h2
      · refine .inr ⟨x', ?_⟩
        simp [whL, e, atI0, hd, h0, h1', p1]
        exact h2
/-- a draw below m -/
theorem next_ok {δ : Deck} {b m : Int} (Z : Sto) (h : δ.Ok b) (hb : b < 1000000000000) (h0 : 0 < m) (h1 : m < 18446744073709551616) :
    ∃ v δ', d__law_next [.r 2, .t (.int m)] (dk δ Z) = .ok (.t (.int v)) (dk δ' Z) ∧ 0 ≤ v ∧ v < m ∧ δ'.Ok (b + 1) := by
  obtain ⟨ds, cs, n⟩ := δ
  have hL : ds.length < LL := Nat.lt_of_le_of_lt h.ds (by decide)
  rcases nx_loop h0 h1 Z cs n ds LL none hL with ⟨v, ds', h2, h3, h4, h5⟩ | ⟨x', h2⟩
  · refine ⟨v, ⟨ds', cs, n⟩, fn_dk0 rfl ?_, h3, h4, ⟨Nat.le_trans h5 h.ds, h.cs0, h.cs1, h.n0, Int.le_trans h.n1 (by omega)⟩⟩
    unfold b__law_next
    rw [ap_sCons]
    rw [show envOf 5 [W.r 2, .t (.int m)] = [some (.r 2), some (.t (.int m)), none, none, none] from rfl, h2]
  · have n0 : 0 ≤ n := h.n0
    have n1 : n ≤ b := h.n1
    have c0 : 0 < cs.length := h.cs0
    have k1 : (0 : Int) < cs.length := by omega
    have k2 : 0 ≤ (n + 1) % (cs.length : Int) := Int.emod_nonneg _ (by omega)
    have k3 : (n + 1) % (cs.length : Int) < cs.length := Int.emod_lt_of_pos _ k1
    have a1 : L2.atI (cs.map T.int) ((n + 1) % (cs.length : Int)) = some (.int (cs[((n + 1) % (cs.length : Int)).toNat]'(by omega))) := by
      rw [atI_int k2 (by rw [List.length_map]; exact k3)]
      simp
    generalize cs[((n + 1) % (cs.length : Int)).toNat]'(by omega) = c at a1
    let cell := c % 2147483647
    have hc0 : 0 ≤ cell := Int.emod_nonneg _ (by decide)
    have hc1 : cell < 2147483647 := Int.emod_lt_of_pos _ (by decide)
    have q1 : smallI cell = true := by simp [smallI]; omega
    have q2 : smallI 69621 = true := by decide
    have q3 : smallI 40014 = true := by decide
    have q4 : smallI (n + 1) = true := by simp [smallI]; omega
    let mixed := (cell * (48271 + 69621 * (n + 1)) + 40014 * (n + 1) * (n + 1) + 79) % 2147483629
    have hm0 : 0 ≤ mixed := Int.emod_nonneg _ (by decide)
    have hm1 : mixed < 2147483629 := Int.emod_lt_of_pos _ (by decide)
    have q5 : smallI mixed = true := by simp [smallI]; omega
    refine ⟨mixed * mixed % 2147483587 / 16 % m, ⟨[], cs, n + 1⟩, fn_dk0 rfl ?_, Int.emod_nonneg _ (by omega), Int.emod_lt_of_pos _ h0, ⟨by simp, h.cs0, h.cs1, by show 0 ≤ n + 1; omega, by show n + 1 ≤ b + 1; omega⟩⟩
    unfold b__law_next
    rw [ap_sCons]
    rw [show envOf 5 [W.r 2, .t (.int m)] = [some (.r 2), some (.t (.int m)), none, none, none] from rfl, h2]
    have q1' : smallI (c % 2147483647) = true := q1
    have q5' : smallI ((c % 2147483647 * (48271 + 69621 * (n + 1)) + 40014 * (n + 1) * (n + 1) + 79) % 2147483629) = true := q5
    simp [put_vec2, c0, a1, h0, q2, q3, q4, q1', q5', mixed, cell]
end Dl

/-! DkD: what the deck's defs give. -/
namespace Dl
open PySem

def tI (xs : List Int) : T := .tup (xs.map T.int)
def lI (xs : List Int) : T := .lst (xs.map T.int)
/-! ### cells behind the deck -/
section
variable (δ : Deck) (Z l : Sto) (a b c : Cell)
@[simp] theorem dk_len : (dk δ Z).length = Z.length + 3 := rfl
@[simp] theorem dk_app : dk δ Z ++ l = dk δ (Z ++ l) := rfl
@[simp high] theorem dk_get (k : Nat) : (dk δ Z)[k + 3]? = Z[k]? := rfl
@[simp high] theorem dk_set (k : Nat) : (dk δ Z).set (k + 3) c = dk δ (Z.set k c) := rfl
@[simp high] theorem lc0 : (Z ++ a :: l)[Z.length]? = some a := by simp
@[simp high] theorem lc1 : (Z ++ a :: b :: l)[Z.length + 1]? = some b := by simp
@[simp high] theorem ls0 : (Z ++ a :: l).set Z.length c = Z ++ c :: l := by simp
@[simp high] theorem ls1 : (Z ++ a :: b :: l).set (Z.length + 1) c = Z ++ a :: c :: l := by simp
end
@[simp] theorem live_eq (S : Sto) (n : Nat) (xs : List T) (h : S[n]? = some (.lst xs)) : live S n = true := by unfold live; rw [h]
theorem fn_dk' {n N : Nat} {g : Sx} {ws : List W} {δ δ' : Deck} {Z l : Sto} {x : T} (hn : ws.length = n) (h : g (envOf N ws) (dk δ Z) = .rt (.t x) (dk δ' (Z ++ l))) : fnF n N g ws (dk δ Z) = .ok (.t x) (dk δ' Z) := fn_dk hn h

/-! ### _law_part -/
theorem part_loop {share : Int} {wi : Option W} {Z : Sto} : ∀ (xs : List Int) (δ : Deck) (b : Int), δ.Ok b → b + xs.length < 1000000000000 →
    ∃ (ys : List Int) (δ' : Deck), compL gTrue (.nm 3) (tE (e2 gGe (eFn 2 (d__law_next) (aCons (eVar 0) (aCons (eC (.int 4)) (aNil)))) (eVar 2))) (eVar 3) (xs.map fun x => Item.one (.t (.int x))) [some (.r 2), wi, some (.t (.int share)), none] (dk δ Z) = .ok (ys.map T.int) (dk δ' Z)
      ∧ ys.Sublist xs ∧ δ'.Ok (b + xs.length)
  | [], δ, b, h, hb => ⟨[], δ, by simp [compL], .slnil, by simpa using h⟩
  | x :: xs, δ, b, h, hb => by
    have hl : ((x :: xs).length : Int) = xs.length + 1 := by simp
    rw [hl] at hb ⊢
    obtain ⟨v, δ1, q1, v0, v1, h1⟩ := next_ok (m := 4) Z h (by omega) (by decide) (by decide)
    obtain ⟨ys, δ2, q2, s2, h2⟩ := part_loop (share := share) (wi := wi) (Z := Z) xs δ1 (b + 1) h1 (by omega)
    by_cases hv : share ≤ v
    · refine ⟨x :: ys, δ2, ?_, s2.cons₂ x, h2.mono (by omega)⟩
      simp [compL, q1, hv, q2]
    · refine ⟨ys, δ2, ?_, s2.cons x, h2.mono (by omega)⟩
      simp [compL, q1, hv, q2]
theorem part_ok {share : Int} {Z : Sto} {xs : List Int} {δ : Deck} {b : Int} (h : δ.Ok b) (hb : b + xs.length < 1000000000000) (hc : xs.length ≤ cap) (k : List T → T) (hk : k = T.lst ∨ k = T.tup) :
    ∃ (ys : List Int) (δ' : Deck), d__law_part [.r 2, .t (k (xs.map T.int)), .t (.int share)] (dk δ Z) = .ok (.t (tI ys)) (dk δ' Z) ∧ ys.Sublist xs ∧ δ'.Ok (b + xs.length) := by
  obtain ⟨ys, δ2, q2, s2, h2⟩ := part_loop (share := share) (wi := some (.t (k (xs.map T.int)))) (Z := Z) xs δ b h hb
  refine ⟨ys, δ2, fn_dk0 rfl ?_, s2, h2⟩
  have q2' : compL gTrue (.nm 3) (tE (e2 gGe (eFn 2 (d__law_next) (aCons (eVar 0) (aCons (eC (.int 4)) (aNil)))) (eVar 2))) (eVar 3) (List.map (Item.one ∘ W.t ∘ T.int) xs) [some (.r 2), some (.t (k (xs.map T.int))), some (.t (.int share)), none] (dk δ Z) = .ok (ys.map T.int) (dk δ2 Z) := q2
  unfold b__law_part
  rcases hk with rfl | rfl
  · simp [envOf, hc, q2', tI]
  · simp [envOf, hc, q2', tI]

/-! ### _law_shuffled -/
abbrev shT : Tx := tE (e2 gNe (eVar 2) (eLst (aNil)))
abbrev shB : Sx := sExpr (eM1 kAppend (eVar 3) (eM1 kPopAt (eVar 2) (eFn 2 (d__law_next) (aCons (eVar 0) (aCons (eCall bLen (aCons (eVar 2) (aNil))) (aNil))))))
theorem erase_map {α β : Type} (f : α → β) : ∀ (xs : List α) (i : Nat), (xs.map f).eraseIdx i = (xs.eraseIdx i).map f
  | [], _ => rfl
  | _ :: _, 0 => rfl
  | x :: xs, i + 1 => by simp [erase_map f xs i]
def nats (n : Nat) : List Int := (List.range n).map Int.ofNat
theorem cons_erase : ∀ (xs : List Int) (i : Nat) (h : i < xs.length), (xs[i] :: xs.eraseIdx i).Perm xs
  | [], i, h => absurd h (Nat.not_lt_zero _)
  | x :: xs, 0, _ => List.Perm.refl _
  | x :: xs, i + 1, h => by
    have := cons_erase xs i (by simpa using h)
    simp only [List.getElem_cons_succ, List.eraseIdx_cons_succ]
    exact (List.Perm.swap _ _ _).trans (this.cons x)
theorem pop_int (S : Sto) {xs : List Int} {v : Int} (h0 : 0 ≤ v) (h1 : v < xs.length) (h2 : v < 1000000000) :
    kPopAt S (.lst (xs.map T.int)) (.t (.int v)) = some (.t (.int (xs[v.toNat]'(by omega))), .lst ((xs.eraseIdx v.toNat).map T.int)) := by
  have h3 : v.natAbs < 1000000000 := by omega
  have h4 : v.toNat < xs.length := by omega
  simp [kPopAt, L2.ixN, h0, h1, h2, h3, h4, erase_map]
theorem sh_loop {Z : Sto} {wc : Option W} : ∀ (n : Nat) (left found : List Int) (δ : Deck) (b : Int) (L : Nat), left.length = n → δ.Ok b → b + n < 1000000000000 → n < L → left.length + found.length ≤ 1000 →
    ∃ (out : List Int) (δ' : Deck), whL shT shB L [some (.r 2), wc, some (.r (Z.length + 3)), some (.r (Z.length + 1 + 3))] (dk δ (Z ++ [.lst (left.map T.int), .lst (found.map T.int)])) =
      .nx [some (.r 2), wc, some (.r (Z.length + 3)), some (.r (Z.length + 1 + 3))] (dk δ' (Z ++ [.lst [], .lst (out.map T.int)])) ∧ out.Perm (found ++ left) ∧ δ'.Ok (b + n)
  | _, _, _, _, _, 0, _, _, _, h, _ => absurd h (Nat.not_lt_zero _)
  | 0, left, found, δ, b, L + 1, hn, h, hb, hL, hc => by
    have : left = [] := List.length_eq_zero_iff.mp hn
    subst this
    refine ⟨found, δ, ?_, by simp, by simpa using h⟩
    have e := ne_nil []
    rw [List.map_nil] at e
    simp [whL, e]
  | n + 1, left, found, δ, b, L + 1, hn, h, hb, hL, hc => by
    obtain ⟨v, δ1, q1, v0, v1, h1⟩ := next_ok (m := left.length) (Z ++ [.lst (left.map T.int), .lst (found.map T.int)]) h (by omega) (by omega) (by omega)
    have hv : v.toNat < left.length := by omega
    have hp := fun S => pop_int (S := S) (xs := left) v0 v1 (by omega)
    have el : (left.eraseIdx v.toNat).length = n := by rw [List.length_eraseIdx, if_pos hv]; omega
    obtain ⟨out, δ2, q2, p2, h2⟩ := sh_loop (Z := Z) (wc := wc) n (left.eraseIdx v.toNat) (found ++ [left[v.toNat]]) δ1 (b + 1) L el h1 (by omega) (by omega) (by rw [el]; simp; omega)
    refine ⟨out, δ2, ?_, ?_, h2.mono (by omega)⟩
    · have hne : left ≠ [] := fun z => by subst z; simp at hn
      have hcl : found.length < cap := Nat.lt_of_le_of_lt (show found.length ≤ 1000 by omega) (by decide)
      have e3 := ne_nil left
      rw [List.map_append] at q2
      simp [whL, e3, hne, q1, hp, kAppend, hcl]
      exact q2
    · refine p2.trans ?_
      rw [List.append_assoc]
      exact List.Perm.append_left _ (cons_erase left v.toNat hv)
theorem sCons_nx {g g2 : Sx} {ρ ρ1 : Env} {S S1 : Sto} (h : g ρ S = .nx ρ1 S1) : sCons g g2 ρ S = g2 ρ1 S1 := by
  show (match g ρ S with
    | .nx ρ1 S1 => g2 ρ1 S1
    | o => o) = _
  rw [h]
theorem ap_lstB0 (ρ : Env) (S : Sto) : eLstB aNil ρ S = .ok (.r S.length) (S ++ [.lst []]) := by
  unfold eLstB
  simp only [ap_aNil, bind_ok', toTs]
  rw [if_pos (show ([] : List W).length ≤ cap from Nat.zero_le _)]
theorem r1B (ρ : Env) (S : Sto) (j : Int) (h : rok 0 j = true) (fs : Exs) (e : fs ρ S = .ok [.t (.int j)] S) : eListR1B fs ρ S = .ok (.r S.length) (S ++ [.lst (rngV 0 j)]) := by
  rw [ap_listR1B, e]
  simp only [bind_ok', lrg, h, if_true]
theorem LL_big {m : Nat} (h : m ≤ 1000) : m < LL := Nat.lt_of_le_of_lt h (by decide)
theorem cap_big {m : Nat} (h : m ≤ 100000) : m ≤ cap := Nat.le_trans h (by decide)
theorem shuffled_ok {Z : Sto} {n : Int} {δ : Deck} {b : Int} (h : δ.Ok b) (hb : b + n < 1000000000000) (n0 : 0 ≤ n) (n1 : n ≤ 1000) :
    ∃ (out : List Int) (δ' : Deck), d__law_shuffled [.r 2, .t (.int n)] (dk δ Z) = .ok (.t (tI out)) (dk δ' Z) ∧ out.Perm (nats n.toNat) ∧ δ'.Ok (b + n) := by
  obtain ⟨m, rfl⟩ := Int.eq_ofNat_of_zero_le n0
  have hL : m < LL := LL_big (by omega)
  have hr : rok 0 (m : Int) = true := by
    have : m ≤ cap := cap_big (by omega)
    simp [rok, rlim, this]; omega
  have hv : rngV 0 (m : Int) = List.map T.int (nats m) := by simp [rngV, nats]
  unfold d__law_shuffled b__law_shuffled
  generalize LL = L at hL ⊢
  obtain ⟨out, δ2, q2, p2, h2⟩ := sh_loop (Z := Z) (wc := some (.t (.int (m : Int)))) m (nats m) [] δ b L (by simp [nats]) h (by omega) hL (by simp [nats]; omega)
  rw [List.map_nil] at q2
  refine ⟨out, δ2, fn_dk' (l := [.lst [], .lst (out.map T.int)]) rfl ?_, by simpa using p2, h2⟩
  have q1 : sPar 2 3 (aCons (eListR1B (aCons (eVar 1) (aNil))) (aCons (eLstB (aNil)) (aNil))) (envOf 4 [W.r 2, .t (.int (m : Int))]) (dk δ Z) =
      .nx [some (.r 2), some (.t (.int (m : Int))), some (.r (Z.length + 3)), some (.r (Z.length + 1 + 3))] (dk δ (Z ++ [.lst ((nats m).map T.int), .lst []])) := by
    rw [ap_sPar, ap_aCons, r1B _ _ (m : Int) hr _ (by simp [envOf]), hv]
    simp only [bind_ok', ap_aCons, ap_lstB0, ap_aNil, thenS_ok, dk_app, dk_len]
    simp [envOf]
  rw [sCons_nx q1, sCons_nx q2]
  simp [tI]
end Dl

/-! DkE: drawn tables. -/
namespace Dl
open PySem

/-- an offer of a table of d demands -/
structure OffOk (d : Int) (o : List Int) : Prop where
  asc : o.Pairwise (· < ·)
  rng : ∀ x ∈ o, 0 ≤ x ∧ x < d
theorem isort_strict {xs : List Int} (h : xs.Nodup) : (isort xs).Pairwise (· < ·) := by
  have h1 := isort_sorted xs
  have h2 : (isort xs).Nodup := (isort_perm xs).nodup_iff.mpr h
  exact (h1.and h2).imp fun ⟨a, b⟩ => by have : _ ≠ _ := b; omega
theorem nats_asc (n : Nat) : (nats n).Pairwise (· < ·) := by
  unfold nats
  rw [List.pairwise_map]
  exact List.pairwise_lt_range.imp fun h => by simpa using h
theorem nats_nodup (n : Nat) : (nats n).Nodup := (nats_asc n).imp fun h => by omega
theorem nats_mem {n : Nat} {x : Int} : x ∈ nats n ↔ 0 ≤ x ∧ x < n := by
  unfold nats
  simp only [List.mem_map, List.mem_range]
  constructor
  · rintro ⟨i, h, rfl⟩; exact ⟨by simp, by simp; omega⟩
  · rintro ⟨h1, h2⟩; exact ⟨x.toNat, by omega, by simp; omega⟩
theorem nats_len (n : Nat) : (nats n).length = n := by simp [nats]
theorem rngI_nats (n : Nat) : rngI 0 n = (nats n).map fun k => Item.one (.t (.int k)) := by
  simp [rngI, nats]
theorem cutL_map {α β : Type} (f : α → β) (xs : List α) (lo hi : Option Int) : cutL (xs.map f) lo hi = (cutL xs lo hi).map f := by
  simp [cutL, List.map_take, List.map_drop]
theorem cutL_sub {α : Type} (xs : List α) (lo hi : Option Int) : (cutL xs lo hi).Sublist xs := by
  unfold cutL
  exact (List.take_sublist _ _).trans (List.drop_sublist _ _)
@[simp] theorem sl_tI (xs : List Int) (lo hi : Option Int) : gSl (tI xs) lo hi = some (tI (cutL xs lo hi)) := by
  simp [gSl, tI, cutL_map]
@[simp] theorem srt_tI (xs : List Int) : bSorted [tI xs] = some ((isort xs).map T.int) := sorted_tup xs
theorem off_sub {d : Int} {xs ys : List Int} (h : OffOk d xs) (s : ys.Sublist xs) : OffOk d ys := ⟨h.asc.sublist s, fun x hx => h.rng x (s.subset hx)⟩
theorem off_nats (n : Nat) : OffOk n (nats n) := ⟨nats_asc n, fun x hx => nats_mem.mp hx⟩
theorem off_sort {d : Int} {xs : List Int} (h : xs.Nodup) (r : ∀ x ∈ xs, 0 ≤ x ∧ x < d) : OffOk d (isort xs) := ⟨isort_strict h, fun x hx => r x ((isort_perm xs).mem_iff.mp hx)⟩
theorem perm_rng {n : Nat} {xs : List Int} (p : xs.Perm (nats n)) : xs.Nodup ∧ (∀ x ∈ xs, 0 ≤ x ∧ x < n) ∧ xs.length = n :=
  ⟨p.nodup_iff.mpr (nats_nodup n), fun x hx => nats_mem.mp (p.mem_iff.mp hx), by rw [p.length_eq, nats_len]⟩
/-! ### _law_intervals -/
abbrev ivB : Sx := sCons (sSet 6 (eFn 2 (d__law_next) (aCons (eVar 0) (aCons (eVar 1) (aNil)))))
  (sExpr (eM1 kAppend (eVar 4) (eCall bTuple (aCons (eCall (lst1 bSorted) (aCons (eSl (eVar 3) (oSome (eVar 6)) (oSome (e2 gAdd (e2 gAdd (eVar 6) (eC (.int 1))) (eFn 2 (d__law_next) (aCons (eVar 0) (aCons (eVar 1) (aNil))))))) (aNil))) (aNil)))))
theorem iv_loop {Z : Sto} {d : Int} {wo : Option W} {order : List Int} (d0 : 0 < d) (d1 : d ≤ 1000) (nd : order.Nodup) (rg : ∀ x ∈ order, 0 ≤ x ∧ x < d) : ∀ (ks : List Int) (δ : Deck) (b : Int) (found : List (List Int)) (x5 x6 : Option W),
    δ.Ok b → b + 2 * ks.length < 1000000000000 → (∀ o ∈ found, OffOk d o) → found.length + ks.length ≤ 1000 →
    ∃ (out : List (List Int)) (δ' : Deck) (y5 y6 : Option W), forL gTrue (.nm 5) ivB (ks.map fun k => Item.one (.t (.int k))) [some (.r 2), some (.t (.int d)), wo, some (.t (tI order)), some (.r (Z.length + 3)), x5, x6] (dk δ (Z ++ [.lst (found.map tI)])) =
      .nx [some (.r 2), some (.t (.int d)), wo, some (.t (tI order)), some (.r (Z.length + 3)), y5, y6] (dk δ' (Z ++ [.lst (out.map tI)])) ∧ (∀ o ∈ out, OffOk d o) ∧ out.length = found.length + ks.length ∧ δ'.Ok (b + 2 * ks.length)
  | [], δ, b, found, x5, x6, h, hb, hf, hc => ⟨found, δ, x5, x6, by simp [forL], hf, by simp, by simpa using h⟩
  | k :: ks, δ, b, found, x5, x6, h, hb, hf, hc => by
    have hl : ((k :: ks).length : Int) = ks.length + 1 := by simp
    rw [hl] at hb ⊢
    have hc' : found.length + (ks.length + 1) ≤ 1000 := by simpa using hc
    obtain ⟨v, δ1, q1, v0, v1, h1⟩ := next_ok (m := d) (Z ++ [.lst (found.map tI)]) h (by omega) d0 (by omega)
    obtain ⟨u, δ2, q2, u0, u1, h2⟩ := next_ok (m := d) (Z ++ [.lst (found.map tI)]) h1 (by omega) d0 (by omega)
    let o := isort (cutL order (some v) (some (v + 1 + u)))
    have ho : OffOk d o := off_sort (nd.sublist (cutL_sub _ _ _)) fun x hx => rg x ((cutL_sub _ _ _).subset hx)
    obtain ⟨out, δ3, y5, y6, q3, r1, r2, r3⟩ := iv_loop d0 d1 nd rg ks δ2 (b + 1 + 1) (found ++ [o]) (some (.t (.int k))) (some (.t (.int v))) h2 (by omega) (fun x hx => by
      rcases List.mem_append.mp hx with hx | hx
      · exact hf x hx
      · rw [List.mem_singleton.mp hx]; exact ho) (by simp; omega)
    refine ⟨out, δ3, y5, y6, ?_, r1, by rw [r2]; simp; omega, r3.mono (by omega)⟩
    have hcl : found.length < cap := Nat.lt_of_lt_of_le (show found.length < 1000 by omega) (cap_big (by decide))
    rw [List.map_append] at q3
    rw [List.map_cons]
    unfold forL
    simp [q1, q2, kAppend, hcl]
    exact q3
theorem intervals_ok {Z : Sto} {d k : Int} {δ : Deck} {b : Int} (h : δ.Ok b) (hb : b < 999999000000) (d0 : 0 < d) (d1 : d ≤ 1000) (k0 : 0 ≤ k) (k1 : k ≤ 1000) :
    ∃ (out : List (List Int)) (δ' : Deck), d__law_intervals [.r 2, .t (.int d), .t (.int k)] (dk δ Z) = .ok (.t (.tup [.int d, .tup (out.map tI)])) (dk δ' Z) ∧ (∀ o ∈ out, OffOk d o) ∧ (out.length : Int) = k ∧ δ'.Ok (b + d + 2 * k) := by
  obtain ⟨n, rfl⟩ := Int.eq_ofNat_of_zero_le k0
  obtain ⟨order, δ1, q1, p1, h1⟩ := shuffled_ok (Z := Z) (n := d) h (by omega) (by omega) d1
  obtain ⟨nd, rg, _⟩ := perm_rng p1
  have rg' : ∀ x ∈ order, 0 ≤ x ∧ x < d := fun x hx => by have := rg x hx; omega
  obtain ⟨out, δ2, y5, y6, q2, r1, r2, r3⟩ := iv_loop (Z := Z) (d := d) (wo := some (.t (.int (n : Int)))) (order := order) d0 d1 nd rg' (nats n) δ1 (b + d) [] none none h1 (by rw [nats_len]; omega) (fun o ho => by simp at ho) (by rw [nats_len]; simp; omega)
  rw [nats_len] at r2 r3
  refine ⟨out, δ2, fn_dk' (l := [.lst (out.map tI)]) rfl ?_, r1, by rw [r2]; simp, r3⟩
  have q0 : sPar 3 4 (aCons (eFn 2 (d__law_shuffled) (aCons (eVar 0) (aCons (eVar 1) (aNil)))) (aCons (eLstB (aNil)) (aNil))) (envOf 7 [W.r 2, .t (.int d), .t (.int (n : Int))]) (dk δ Z) =
      .nx [some (.r 2), some (.t (.int d)), some (.t (.int (n : Int))), some (.t (tI order)), some (.r (Z.length + 3)), none, none] (dk δ1 (Z ++ [.lst []])) := by
    simp [envOf, q1, ap_lstB0]
  have q3 : sFor (srcR1 (aCons (eVar 2) (aNil))) (.nm 5) ivB [some (.r 2), some (.t (.int d)), some (.t (.int (n : Int))), some (.t (tI order)), some (.r (Z.length + 3)), none, none] (dk δ1 (Z ++ [.lst []])) =
      .nx [some (.r 2), some (.t (.int d)), some (.t (.int (n : Int))), some (.t (tI order)), some (.r (Z.length + 3)), y5, y6] (dk δ2 (Z ++ [.lst (out.map tI)])) := by
    have hr : rlim (n : Int) = true := by simp [rlim]; omega
    rw [List.map_nil] at q2
    simp [rng1, hr, rngI_nats]
    exact q2
  have hcl : out.length ≤ cap := cap_big (by rw [r2]; simp; omega)
  unfold b__law_intervals
  rw [sCons_nx q0, sCons_nx q3]
  simp
end Dl

/-! DkF: drawn tables, the other two ways. -/
namespace Dl
open PySem

@[simp] theorem eq_int (a b : Int) : gEq (.int a) (.int b) = some (.bl (decide (a = b))) := by
  simp [gEq, shp, lay, dep, eqT]
  by_cases h : a = b <;> simp [h]
theorem lay_tI (xs : List Int) : lay (tI xs) = true := by simp [tI, lay, lays_ints]
theorem dep_tI (xs : List Int) : dep (tI xs) ≤ 2 := by
  have := deps_ints xs
  simp [tI, dep]; omega
theorem lays_tIs : ∀ os : List (List Int), lays (os.map tI) = true
  | [] => by simp [lays]
  | o :: r => by simp [lays, lay_tI, lays_tIs r]
theorem deps_tIs : ∀ os : List (List Int), deps (os.map tI) ≤ 2
  | [] => by simp [deps]
  | o :: r => by
    have := deps_tIs r
    have := dep_tI o
    simp [deps]; omega
theorem ne_nil_tI (os : List (List Int)) : gNe (.lst (os.map tI)) (.lst []) = some (.bl (decide (os ≠ []))) := by
  have h1 : shp (.lst (os.map tI)) = true := by
    have := deps_tIs os
    simp [shp, lay, lays_tIs, dep]; omega
  have h2 : shp (.lst []) = true := shp_ints []
  cases os with
  | nil => simp [gNe, h2, eqT, eqTs]
  | cons o r => rw [List.map_cons] at h1 ⊢; simp [gNe, h1, h2, eqT, eqTs]
/-- one of a cell's items -/
theorem one_cell {Z : Sto} {xs : List (List Int)} {δ : Deck} {b : Int} (h : δ.Ok b) (hb : b < 1000000000000) (ne : xs ≠ []) (few : xs.length ≤ 1000) :
    ∃ (o : List Int) (δ' : Deck), d__law_one [.r 2, .r (Z.length + 3)] (dk δ (Z ++ [.lst (xs.map tI)])) = .ok (.t (tI o)) (dk δ' (Z ++ [.lst (xs.map tI)])) ∧ o ∈ xs ∧ δ'.Ok (b + 1) := by
  have hp := List.length_pos_iff.mpr ne
  obtain ⟨v, δ1, q1, v0, v1, h1⟩ := next_ok (m := xs.length) (Z ++ [.lst (xs.map tI)]) h hb (by omega) (by omega)
  have hv : v.toNat < xs.length := by omega
  refine ⟨xs[v.toNat], δ1, fn_dk0 rfl ?_, List.getElem_mem hv, h1⟩
  have a1 : L2.atI (xs.map tI) v = some (tI xs[v.toNat]) := by
    rw [atI_int v0 (by rw [List.length_map]; exact v1)]
    simp
  unfold b__law_one
  simp [envOf, q1, a1]
/-! ### _law_any -/
abbrev anB : Sx := sIf (tAndD (tE (e2 gNe (eVar 4) (eLst (aNil)))) (tE (e2 gEq (eFn 2 (d__law_next) (aCons (eVar 0) (aCons (eC (.int 6)) (aNil)))) (eC (.int 0))))) (sExpr (eM1 kAppend (eVar 4) (eFn 2 (d__law_one) (aCons (eVar 0) (aCons (eVar 4) (aNil))))))
  (sExpr (eM1 kAppend (eVar 4) (eFn 3 (d__law_part) (aCons (eVar 0) (aCons (eListR1 (aCons (eVar 1) (aNil))) (aCons (eVar 3) (aNil)))))))
theorem listR1_ok {ρ : Env} {S : Sto} {d : Int} {fs : Exs} (e : fs ρ S = .ok [.t (.int d)] S) (d0 : 0 ≤ d) (d1 : d ≤ 1000) : eListR1 fs ρ S = .ok (.t (.lst ((nats d.toNat).map T.int))) S := by
  have hr : rok 0 d = true := by
    have : d.toNat ≤ cap := cap_big (by omega)
    simp [rok, rlim, this]; omega
  rw [ap_listR1, e]
  simp [lrg, hr, rngV, nats]
theorem lrg_ok {d : Int} (d0 : 0 ≤ d) (d1 : d ≤ 1000) : lrg [.t (.int d)] = some (0, d) ∧ rngV 0 d = (nats d.toNat).map T.int := by
  have hr : rok 0 d = true := by
    have : d.toNat ≤ cap := cap_big (by omega)
    simp [rok, rlim, this]; omega
  simp [lrg, hr, rngV, nats]
theorem part_rng {Z : Sto} {d share : Int} {δ : Deck} {b : Int} (h : δ.Ok b) (hb : b + d < 1000000000000) (d0 : 0 ≤ d) (d1 : d ≤ 1000) :
    ∃ (ys : List Int) (δ' : Deck), d__law_part [.r 2, .t (.lst ((nats d.toNat).map T.int)), .t (.int share)] (dk δ Z) = .ok (.t (tI ys)) (dk δ' Z) ∧ OffOk d ys ∧ δ'.Ok (b + d) := by
  obtain ⟨ys, δ1, q1, s1, h1⟩ := part_ok (share := share) (Z := Z) (xs := nats d.toNat) h (by rw [nats_len]; omega) (cap_big (by rw [nats_len]; omega)) T.lst (.inl rfl)
  rw [nats_len] at h1
  have hd : ((d.toNat : Nat) : Int) = d := by omega
  exact ⟨ys, δ1, q1, by have := off_sub (off_nats d.toNat) s1; rw [hd] at this; exact this, h1.mono (by omega)⟩
theorem an_loop {Z : Sto} {d share : Int} {wo : Option W} (d0 : 0 ≤ d) (d1 : d ≤ 1000) : ∀ (ks : List Int) (δ : Deck) (b : Int) (found : List (List Int)) (x5 : Option W),
    δ.Ok b → b + (d + 2) * ks.length < 1000000000000 → (∀ o ∈ found, OffOk d o) → found.length + ks.length ≤ 1000 →
    ∃ (out : List (List Int)) (δ' : Deck) (y5 : Option W), forL gTrue (.nm 5) anB (ks.map fun k => Item.one (.t (.int k))) [some (.r 2), some (.t (.int d)), wo, some (.t (.int share)), some (.r (Z.length + 3)), x5] (dk δ (Z ++ [.lst (found.map tI)])) =
      .nx [some (.r 2), some (.t (.int d)), wo, some (.t (.int share)), some (.r (Z.length + 3)), y5] (dk δ' (Z ++ [.lst (out.map tI)])) ∧ (∀ o ∈ out, OffOk d o) ∧ out.length = found.length + ks.length ∧ δ'.Ok (b + (d + 2) * ks.length)
  | [], δ, b, found, x5, h, hb, hf, hc => ⟨found, δ, x5, by simp [forL], hf, by simp, by simpa using h⟩
  | k :: ks, δ, b, found, x5, h, hb, hf, hc => by
    have hl : (d + 2) * ((k :: ks).length : Int) = (d + 2) * ks.length + d + 2 := by
      rw [List.length_cons]
      have : (((ks.length + 1 : Nat)) : Int) = ks.length + 1 := by simp
      rw [this, Int.mul_add]; omega
    rw [hl] at hb ⊢
    have hm : 0 ≤ (d + 2) * (ks.length : Int) := Int.mul_nonneg (by omega) (by omega)
    have hc' : found.length + (ks.length + 1) ≤ 1000 := by simpa using hc
    have hcl : found.length < cap := Nat.lt_of_lt_of_le (show found.length < 1000 by omega) (cap_big (by decide))
    have nn := ne_nil_tI found
    -- what is appended
    suffices step : ∃ (o : List Int) (δ1 : Deck), OffOk d o ∧ δ1.Ok (b + d + 2) ∧ anB [some (.r 2), some (.t (.int d)), wo, some (.t (.int share)), some (.r (Z.length + 3)), some (.t (.int k))] (dk δ (Z ++ [.lst (found.map tI)])) =
        .nx [some (.r 2), some (.t (.int d)), wo, some (.t (.int share)), some (.r (Z.length + 3)), some (.t (.int k))] (dk δ1 (Z ++ [.lst ((found ++ [o]).map tI)])) by
      obtain ⟨o, δ1, ho, h1, q1⟩ := step
      obtain ⟨out, δ3, y5, q3, r1, r2, r3⟩ := an_loop (Z := Z) (share := share) (wo := wo) d0 d1 ks δ1 (b + d + 2) (found ++ [o]) (some (.t (.int k))) h1 (by omega) (fun x hx => by
        rcases List.mem_append.mp hx with hx | hx
        · exact hf x hx
        · rw [List.mem_singleton.mp hx]; exact ho) (by simp; omega)
      refine ⟨out, δ3, y5, ?_, r1, by rw [r2]; simp; omega, r3.mono (by omega)⟩
      rw [List.map_cons]
      unfold forL
      simp only [gTrue_eq, if_true, bI_nm, List.set_cons_succ, List.set_cons_zero]
      rw [q1, loopS_nx]
      exact q3
    by_cases ne : found = []
    · obtain ⟨ys, δ1, q1, ho, h1⟩ := part_rng (share := share) (Z := Z ++ [.lst (found.map tI)]) h (by omega) d0 d1
      refine ⟨ys, δ1, ho, h1.mono (by omega), ?_⟩
      subst ne
      rw [List.map_nil] at nn q1
      obtain ⟨l1, l2⟩ := lrg_ok d0 d1
      have c0 : 0 < cap := by decide
      simp [nn, l1, l2, q1, kAppend, c0]
    · obtain ⟨v, δ1, q1, v0, v1, h1⟩ := next_ok (m := 6) (Z ++ [.lst (found.map tI)]) h (by omega) (by decide) (by decide)
      by_cases v0 : v = 0
      · obtain ⟨o, δ2, q2, mo, h2⟩ := one_cell (Z := Z) (xs := found) h1 (by omega) ne (by omega)
        refine ⟨o, δ2, hf o mo, h2.mono (by omega), ?_⟩
        simp [nn, ne, q1, v0, q2, kAppend, hcl]
      · obtain ⟨ys, δ2, q2, ho, h2⟩ := part_rng (share := share) (Z := Z ++ [.lst (found.map tI)]) h1 (by omega) d0 d1
        refine ⟨ys, δ2, ho, h2.mono (by omega), ?_⟩
        obtain ⟨l1, l2⟩ := lrg_ok d0 d1
        simp [nn, ne, q1, v0, l1, l2, q2, kAppend, hcl]
theorem any_ok {Z : Sto} {d k : Int} {δ : Deck} {b : Int} (h : δ.Ok b) (hb : b < 999999000000) (d0 : 0 < d) (d1 : d ≤ 20) (k0 : 0 ≤ k) (k1 : k ≤ 20) :
    ∃ (out : List (List Int)) (δ' : Deck), d__law_any [.r 2, .t (.int d), .t (.int k)] (dk δ Z) = .ok (.t (.tup [.int d, .tup (out.map tI)])) (dk δ' Z) ∧ (∀ o ∈ out, OffOk d o) ∧ (out.length : Int) = k ∧ δ'.Ok (b + 1000) := by
  obtain ⟨n, rfl⟩ := Int.eq_ofNat_of_zero_le k0
  obtain ⟨share, δ1, q1, s0, s1, h1⟩ := next_ok (m := 4) Z h (by omega) (by decide) (by decide)
  have hm : (d + 2) * (n : Int) ≤ 22 * 20 := Int.mul_le_mul (by omega) (by omega) (by omega) (by omega)
  have hm0 : 0 ≤ (d + 2) * (n : Int) := Int.mul_nonneg (by omega) (by omega)
  obtain ⟨out, δ2, y5, q2, r1, r2, r3⟩ := an_loop (Z := Z) (d := d) (share := share) (wo := some (.t (.int (n : Int)))) (by omega) (by omega) (nats n) δ1 (b + 1) [] none h1 (by rw [nats_len]; omega) (fun o ho => by simp at ho) (by rw [nats_len]; simp; omega)
  rw [nats_len] at r2 r3
  refine ⟨out, δ2, fn_dk' (l := [.lst (out.map tI)]) rfl ?_, r1, by rw [r2]; simp, r3.mono (by omega)⟩
  have q0 : sPar 3 4 (aCons (eFn 2 (d__law_next) (aCons (eVar 0) (aCons (eC (.int 4)) (aNil)))) (aCons (eLstB (aNil)) (aNil))) (envOf 6 [W.r 2, .t (.int d), .t (.int (n : Int))]) (dk δ Z) =
      .nx [some (.r 2), some (.t (.int d)), some (.t (.int (n : Int))), some (.t (.int share)), some (.r (Z.length + 3)), none] (dk δ1 (Z ++ [.lst []])) := by
    simp [envOf, q1, ap_lstB0]
  have q3 : sFor (srcR1 (aCons (eVar 2) (aNil))) (.nm 5) anB [some (.r 2), some (.t (.int d)), some (.t (.int (n : Int))), some (.t (.int share)), some (.r (Z.length + 3)), none] (dk δ1 (Z ++ [.lst []])) =
      .nx [some (.r 2), some (.t (.int d)), some (.t (.int (n : Int))), some (.t (.int share)), some (.r (Z.length + 3)), y5] (dk δ2 (Z ++ [.lst (out.map tI)])) := by
    have hr : rlim (n : Int) = true := by simp [rlim]; omega
    rw [List.map_nil] at q2
    simp only [ap_sFor, ap_srcR1, ap_aCons, ap_aNil, ap_var, bind_ok', rng1, hr, rngI_nats, if_true, of_some, thenS_ok, List.getElem?_cons_succ, List.getElem?_cons_zero, Int.toNat_natCast]
    exact q2
  have hcl : out.length ≤ cap := cap_big (by rw [r2]; simp; omega)
  unfold b__law_any
  rw [sCons_nx q0, sCons_nx q3]
  simp
/-! ### _law_around -/
abbrev arB : Sx := sIf (tAndD (tE (e2 gLe (eVar 4) (eVar 1))) (tE (e2 gLt (eVar 6) (eVar 4)))) (sExpr (eM1 kAppend (eVar 5) (eCall bTuple (aCons (eCall (lst1 bSorted) (aCons (e2 gAdd (eLst (aCons (eIx (eVar 3) (eVar 6)) (aCons (eIx (eVar 3) (e2 gMod (e2 gAdd (eVar 6) (eC (.int 1))) (eVar 4))) (aNil)))) (eCall (lst1 bList) (aCons (eFn 3 (d__law_part) (aCons (eVar 0) (aCons (eSl (eVar 3) (oSome (eVar 4)) oNone) (aCons (eC (.int 3)) (aNil))))) (aNil)))) (aNil))) (aNil))))) (sExpr (eM1 kAppend (eVar 5) (eFn 3 (d__law_part) (aCons (eVar 0) (aCons (eListR1 (aCons (eVar 1) (aNil))) (aCons (e2 gAdd (eC (.int 1)) (eFn 2 (d__law_next) (aCons (eVar 0) (aCons (eC (.int 3)) (aNil))))) (aNil)))))))
theorem part_tI {Z : Sto} {share : Int} {xs : List Int} {δ : Deck} {b : Int} (h : δ.Ok b) (hb : b + xs.length < 1000000000000) (hc : xs.length ≤ cap) :
    ∃ (ys : List Int) (δ' : Deck), d__law_part [.r 2, .t (tI xs), .t (.int share)] (dk δ Z) = .ok (.t (tI ys)) (dk δ' Z) ∧ ys.Sublist xs ∧ δ'.Ok (b + xs.length) := part_ok h hb hc T.tup (.inr rfl)
theorem cut_from {α : Type} (xs : List α) {n : Nat} : cutL xs (some (n : Int)) none = xs.drop n := by
  unfold cutL
  rw [HT.sIx_nat, HT.sIx_none]
  by_cases h : n ≤ xs.length
  · rw [Nat.min_eq_left h, ← List.length_drop, List.take_length]
  · have h1 : xs.drop n = [] := List.drop_eq_nil_of_le (by omega)
    rw [Nat.min_eq_right (by omega), h1]; simp
@[simp] theorem at_tI {S : Sto} (xs : List Int) (n : Int) : ixW S (.t (tI xs)) (.int n) = (L2.atI (xs.map T.int) n).map W.t := rfl
@[simp] theorem list_tI (xs : List Int) : bList [tI xs] = some (xs.map T.int) := rfl
@[simp] theorem add_lst2 (x y : Int) (xs : List Int) : gAdd (.lst [.int x, .int y]) (.lst (xs.map T.int)) = if xs.length + 2 ≤ cap then some (.lst ((x :: y :: xs).map T.int)) else none := by
  simp [gAdd, Nat.add_comm]
theorem ar_loop {Z : Sto} {d sz : Int} {wo : Option W} {order : List Int} (d0 : 0 < d) (d1 : d ≤ 1000) (z0 : 3 ≤ sz) (z1 : sz < 1000) (nd : order.Nodup) (rg : ∀ x ∈ order, 0 ≤ x ∧ x < d) (len : (order.length : Int) = d) : ∀ (ks : List Int) (δ : Deck) (b : Int) (found : List (List Int)) (x6 : Option W),
    (∀ k ∈ ks, 0 ≤ k) → δ.Ok b → b + (d + 2) * ks.length < 1000000000000 → (∀ o ∈ found, OffOk d o) → found.length + ks.length ≤ 1000 →
    ∃ (out : List (List Int)) (δ' : Deck) (y6 : Option W), forL gTrue (.nm 6) arB (ks.map fun k => Item.one (.t (.int k))) [some (.r 2), some (.t (.int d)), wo, some (.t (tI order)), some (.t (.int sz)), some (.r (Z.length + 3)), x6] (dk δ (Z ++ [.lst (found.map tI)])) =
      .nx [some (.r 2), some (.t (.int d)), wo, some (.t (tI order)), some (.t (.int sz)), some (.r (Z.length + 3)), y6] (dk δ' (Z ++ [.lst (out.map tI)])) ∧ (∀ o ∈ out, OffOk d o) ∧ out.length = found.length + ks.length ∧ δ'.Ok (b + (d + 2) * ks.length)
  | [], δ, b, found, x6, _, h, hb, hf, hc => ⟨found, δ, x6, by simp [forL], hf, by simp, by simpa using h⟩
  | k :: ks, δ, b, found, x6, hk, h, hb, hf, hc => by
    have k0 : 0 ≤ k := hk k List.mem_cons_self
    have hl : (d + 2) * ((k :: ks).length : Int) = (d + 2) * ks.length + d + 2 := by
      rw [List.length_cons]
      have : (((ks.length + 1 : Nat)) : Int) = ks.length + 1 := by simp
      rw [this, Int.mul_add]; omega
    rw [hl] at hb ⊢
    have hm : 0 ≤ (d + 2) * (ks.length : Int) := Int.mul_nonneg (by omega) (by omega)
    have hc' : found.length + (ks.length + 1) ≤ 1000 := by simpa using hc
    have hcl : found.length < cap := Nat.lt_of_lt_of_le (show found.length < 1000 by omega) (cap_big (by decide))
    suffices step : ∃ (o : List Int) (δ1 : Deck), OffOk d o ∧ δ1.Ok (b + d + 2) ∧ arB [some (.r 2), some (.t (.int d)), wo, some (.t (tI order)), some (.t (.int sz)), some (.r (Z.length + 3)), some (.t (.int k))] (dk δ (Z ++ [.lst (found.map tI)])) =
        .nx [some (.r 2), some (.t (.int d)), wo, some (.t (tI order)), some (.t (.int sz)), some (.r (Z.length + 3)), some (.t (.int k))] (dk δ1 (Z ++ [.lst ((found ++ [o]).map tI)])) by
      obtain ⟨o, δ1, ho, h1, q1⟩ := step
      obtain ⟨out, δ3, y6, q3, r1, r2, r3⟩ := ar_loop (Z := Z) (wo := wo) d0 d1 z0 z1 nd rg len ks δ1 (b + d + 2) (found ++ [o]) (some (.t (.int k))) (fun x hx => hk x (List.mem_cons_of_mem _ hx)) h1 (by omega) (fun x hx => by
        rcases List.mem_append.mp hx with hx | hx
        · exact hf x hx
        · rw [List.mem_singleton.mp hx]; exact ho) (by simp; omega)
      refine ⟨out, δ3, y6, ?_, r1, by rw [r2]; simp; omega, r3.mono (by omega)⟩
      rw [List.map_cons]
      unfold forL
      simp only [gTrue_eq, if_true, bI_nm, List.set_cons_succ, List.set_cons_zero]
      rw [q1, loopS_nx]
      exact q3
    have other : ¬ (sz ≤ d ∧ k < sz) → ∃ (o : List Int) (δ1 : Deck), OffOk d o ∧ δ1.Ok (b + d + 2) ∧ arB [some (.r 2), some (.t (.int d)), wo, some (.t (tI order)), some (.t (.int sz)), some (.r (Z.length + 3)), some (.t (.int k))] (dk δ (Z ++ [.lst (found.map tI)])) =
        .nx [some (.r 2), some (.t (.int d)), wo, some (.t (tI order)), some (.t (.int sz)), some (.r (Z.length + 3)), some (.t (.int k))] (dk δ1 (Z ++ [.lst ((found ++ [o]).map tI)])) := fun hn => by
      obtain ⟨v, δ1, q1, v0, v1, h1⟩ := next_ok (m := 3) (Z ++ [.lst (found.map tI)]) h (by omega) (by decide) (by decide)
      obtain ⟨ys, δ2, q2, ho, h2⟩ := part_rng (share := 1 + v) (Z := Z ++ [.lst (found.map tI)]) h1 (by omega) (by omega) d1
      obtain ⟨l1, l2⟩ := lrg_ok (d := d) (by omega) d1
      refine ⟨ys, δ2, ho, h2.mono (by omega), ?_⟩
      by_cases c1 : sz ≤ d
      · have c2 : ¬ k < sz := fun z => hn ⟨c1, z⟩
        simp [c1, c2, l1, l2, q1, q2, kAppend, hcl]
      · simp [c1, l1, l2, q1, q2, kAppend, hcl]
    by_cases c1 : sz ≤ d
    · by_cases c2 : k < sz
      · have z2 : 0 ≤ (k + 1) % sz := Int.emod_nonneg _ (by omega)
        have z3 : (k + 1) % sz < sz := Int.emod_lt_of_pos _ (by omega)
        have z4 : (k + 1) % sz ≠ k := by
          by_cases e : k + 1 = sz
          · rw [e, Int.emod_self]; omega
          · rw [Int.emod_eq_of_lt (by omega) (by omega)]; omega
        have i1 : k.toNat < order.length := by omega
        have i2 : ((k + 1) % sz).toNat < order.length := by omega
        have a1 : L2.atI (order.map T.int) k = some (.int order[k.toNat]) := by
          rw [atI_int k0 (by rw [List.length_map]; omega)]; simp
        have a2 : L2.atI (order.map T.int) ((k + 1) % sz) = some (.int order[((k + 1) % sz).toNat]) := by
          rw [atI_int z2 (by rw [List.length_map]; omega)]; simp
        have es : ((sz.toNat : Nat) : Int) = sz := by omega
        have cf := cut_from order (n := sz.toNat)
        rw [es] at cf
        have ld : (order.drop sz.toNat).length = order.length - sz.toNat := List.length_drop
        obtain ⟨ys, δ1, q1, s1, h1⟩ := part_tI (share := 3) (Z := Z ++ [.lst (found.map tI)]) (xs := order.drop sz.toNat) h (by omega) (cap_big (by omega))
        let o := isort (order[k.toNat] :: order[((k + 1) % sz).toNat] :: ys)
        have hmem : ∀ y ∈ ys, ∃ (j : Nat) (hj : j < order.length), sz.toNat ≤ j ∧ order[j] = y := fun y hy => by
          obtain ⟨j, hj, e⟩ := List.mem_iff_getElem.mp (s1.subset hy)
          rw [List.getElem_drop] at e
          exact ⟨sz.toNat + j, by rw [ld] at hj; omega, by omega, e⟩
        have uniq : ∀ {i j : Nat} (hi : i < order.length) (hj : j < order.length), order[i] = order[j] → i = j := fun {i j} hi hj e => by
          rcases Nat.lt_trichotomy i j with l | l | l
          · exact absurd e (List.pairwise_iff_getElem.mp nd i j hi hj l)
          · exact l
          · exact absurd e.symm (List.pairwise_iff_getElem.mp nd j i hj hi l)
        have ho : OffOk d o := by
          refine off_sort ?_ fun x hx => ?_
          · refine List.nodup_cons.mpr ⟨fun hx => ?_, List.nodup_cons.mpr ⟨fun hx => ?_, (nd.sublist (List.drop_sublist _ _)).sublist s1⟩⟩
            · rcases List.mem_cons.mp hx with e | hx
              · have := uniq i1 i2 e
                omega
              · obtain ⟨j, hj, h1, h2⟩ := hmem _ hx
                have := uniq hj i1 h2
                omega
            · obtain ⟨j, hj, h1, h2⟩ := hmem _ hx
              have := uniq hj i2 h2
              omega
          · rcases List.mem_cons.mp hx with rfl | hx
            · exact rg _ (List.getElem_mem i1)
            · rcases List.mem_cons.mp hx with rfl | hx
              · exact rg _ (List.getElem_mem i2)
              · exact rg _ ((List.drop_sublist _ _).subset (s1.subset hx))
        refine ⟨o, δ1, ho, h1.mono (by omega), ?_⟩
        have hy : ys.length + 2 ≤ cap := by
          have := s1.length_le
          exact cap_big (by omega)
        have sl := sorted_lst (order[k.toNat] :: order[((k + 1) % sz).toNat] :: ys)
        rw [List.map_cons, List.map_cons] at sl
        have zp : 0 < sz := by omega
        simp [c1, c2, zp, a1, a2, cf, q1, hy, sl, kAppend, hcl]
        rfl
      · exact other fun z => c2 z.2
    · exact other fun z => c1 z.1
/-- the pops at the end -/
theorem pops_ok {Z : Sto} {ρ0 : Env} (w1 w2 w3 w4 : Option W) : ∀ (ks : List Int) (δ : Deck) (b : Int) (found : List (List Int)), found.length = ks.length → ks.length ≤ 1000 → δ.Ok b → b + ks.length < 1000000000000 →
    ∃ (out : List (List Int)) (δ' : Deck), compL gTrue (.nm 6) tTrue (eM1 kPopAt (eVar 5) (eFn 2 (d__law_next) (aCons (eVar 0) (aCons (eCall bLen (aCons (eVar 5) (aNil))) (aNil))))) (ks.map fun k => Item.one (.t (.int k)))
      [some (.r 2), w1, w2, w3, w4, some (.r (Z.length + 3)), none] (dk δ (Z ++ [.lst (found.map tI)])) = .ok (out.map tI) (dk δ' (Z ++ [.lst []])) ∧ (∀ o ∈ out, o ∈ found) ∧ out.length = ks.length ∧ δ'.Ok (b + ks.length)
  | [], δ, b, found, hl, _, h, hb => by
    have : found = [] := List.length_eq_zero_iff.mp hl
    subst this
    exact ⟨[], δ, by simp [compL], fun o ho => by simp at ho, rfl, by simpa using h⟩
  | k :: ks, δ, b, found, hl, hc, h, hb => by
    have hl1 : ((k :: ks).length : Int) = ks.length + 1 := by simp
    rw [hl1] at hb ⊢
    have hfl : found.length = ks.length + 1 := by simpa using hl
    obtain ⟨v, δ1, q1, v0, v1, h1⟩ := next_ok (m := found.length) (Z ++ [.lst (found.map tI)]) h (by omega) (by omega) (by simp at hc; omega)
    have hv : v.toNat < found.length := by omega
    have hk : ks.length ≤ 1000 := by simp at hc; omega
    obtain ⟨out, δ2, q2, m2, l2, h2⟩ := pops_ok (Z := Z) (ρ0 := ρ0) w1 w2 w3 w4 ks δ1 (b + 1) (found.eraseIdx v.toNat) (by rw [List.length_eraseIdx, if_pos hv]; omega) hk h1 (by omega)
    refine ⟨found[v.toNat] :: out, δ2, ?_, fun o ho => ?_, by simp [l2], h2.mono (by omega)⟩
    · have hp : ∀ S, kPopAt S (.lst (found.map tI)) (.t (.int v)) = some (.t (tI found[v.toNat]), .lst ((found.eraseIdx v.toNat).map tI)) := fun S => by
        have h3 : v.natAbs < 1000000000 := by omega
        simp [kPopAt, L2.ixN, v0, v1, hv, h3, erase_map]
      rw [List.map_cons]
      unfold compL
      simp [q1, hp]
      rw [q2]
      rfl
    · rcases List.mem_cons.mp ho with rfl | ho
      · exact List.getElem_mem hv
      · exact List.mem_of_mem_eraseIdx (m2 o ho)
theorem around_ok {Z : Sto} {d k : Int} {δ : Deck} {b : Int} (h : δ.Ok b) (hb : b < 999999000000) (d0 : 0 < d) (d1 : d ≤ 20) (k0 : 0 ≤ k) (k1 : k ≤ 20) :
    ∃ (out : List (List Int)) (δ' : Deck), d__law_around [.r 2, .t (.int d), .t (.int k)] (dk δ Z) = .ok (.t (.tup [.int d, .tup (out.map tI)])) (dk δ' Z) ∧ (∀ o ∈ out, OffOk d o) ∧ (out.length : Int) = k ∧ δ'.Ok (b + 1000) := by
  obtain ⟨n, rfl⟩ := Int.eq_ofNat_of_zero_le k0
  obtain ⟨order, δ1, q1, p1, h1⟩ := shuffled_ok (Z := Z) (n := d) h (by omega) (by omega) (by omega)
  obtain ⟨nd, rg, len⟩ := perm_rng p1
  have rg' : ∀ x ∈ order, 0 ≤ x ∧ x < d := fun x hx => by have := rg x hx; omega
  obtain ⟨v, δ2, q2, v0, v1, h2⟩ := next_ok (m := 3) Z h1 (by omega) (by decide) (by decide)
  have hm : (d + 2) * (n : Int) ≤ 22 * 20 := Int.mul_le_mul (by omega) (by omega) (by omega) (by omega)
  have hm0 : 0 ≤ (d + 2) * (n : Int) := Int.mul_nonneg (by omega) (by omega)
  obtain ⟨out, δ3, y6, q3, r1, r2, r3⟩ := ar_loop (Z := Z) (d := d) (sz := 3 + v) (wo := some (.t (.int (n : Int)))) (order := order) d0 (by omega) (by omega) (by omega) nd rg' (by omega) (nats n) δ2 (b + d + 1) [] none
    (fun k hk => (nats_mem.mp hk).1) h2 (by rw [nats_len]; omega) (fun o ho => by simp at ho) (by rw [nats_len]; simp; omega)
  rw [nats_len] at r2 r3
  have r2' : out.length = n := by simpa using r2
  obtain ⟨out2, δ4, q4, m4, l4, h4⟩ := pops_ok (Z := Z) (ρ0 := []) (some (.t (.int d))) (some (.t (.int (n : Int)))) (some (.t (tI order))) (some (.t (.int (3 + v)))) (nats n) δ3 _ out (by rw [r2', nats_len]) (by rw [nats_len]; omega) r3 (by rw [nats_len]; omega)
  rw [nats_len] at l4 h4
  refine ⟨out2, δ4, fn_dk' (l := [.lst []]) rfl ?_, fun o ho => r1 o (m4 o ho), by rw [l4], h4.mono (by omega)⟩
  have q0 : sPar 3 4 (aCons (eFn 2 (d__law_shuffled) (aCons (eVar 0) (aCons (eVar 1) (aNil)))) (aCons (e2 gAdd (eC (.int 3)) (eFn 2 (d__law_next) (aCons (eVar 0) (aCons (eC (.int 3)) (aNil))))) (aNil))) (envOf 7 [W.r 2, .t (.int d), .t (.int (n : Int))]) (dk δ Z) =
      .nx [some (.r 2), some (.t (.int d)), some (.t (.int (n : Int))), some (.t (tI order)), some (.t (.int (3 + v))), none, none] (dk δ2 Z) := by
    simp [envOf, q1, q2]
  have q5 : sSet 5 (eLstB aNil) [some (.r 2), some (.t (.int d)), some (.t (.int (n : Int))), some (.t (tI order)), some (.t (.int (3 + v))), none, none] (dk δ2 Z) =
      .nx [some (.r 2), some (.t (.int d)), some (.t (.int (n : Int))), some (.t (tI order)), some (.t (.int (3 + v))), some (.r (Z.length + 3)), none] (dk δ2 (Z ++ [.lst []])) := by
    simp [ap_lstB0]
  have hr : rlim (n : Int) = true := by simp [rlim]; omega
  have q6 : sFor (srcR1 (aCons (eVar 2) (aNil))) (.nm 6) arB [some (.r 2), some (.t (.int d)), some (.t (.int (n : Int))), some (.t (tI order)), some (.t (.int (3 + v))), some (.r (Z.length + 3)), none] (dk δ2 (Z ++ [.lst []])) =
      .nx [some (.r 2), some (.t (.int d)), some (.t (.int (n : Int))), some (.t (tI order)), some (.t (.int (3 + v))), some (.r (Z.length + 3)), y6] (dk δ3 (Z ++ [.lst (out.map tI)])) := by
    rw [List.map_nil] at q3
    simp only [ap_sFor, ap_srcR1, ap_aCons, ap_aNil, ap_var, bind_ok', rng1, hr, rngI_nats, if_true, of_some, thenS_ok, List.getElem?_cons_succ, List.getElem?_cons_zero, Int.toNat_natCast]
    exact q3
  have hcn : n ≤ cap := cap_big (by omega)
  unfold b__law_around
  rw [sCons_nx q0, sCons_nx q5, sCons_nx q6]
  simp only [ap_sRet, ap_eTup, ap_eCall, ap_eComp, ap_srcR1, ap_aCons, ap_aNil, ap_var, bind_ok', rng1, hr, rngI_nats, if_true, of_some, thenS_ok, List.getElem?_cons_succ, List.getElem?_cons_zero, Int.toNat_natCast, List.length_map, nats_len, if_pos hcn, wipe0, wipe1, List.set_cons_succ, List.set_cons_zero]
  rw [q4]
  simp
/-! ### _law_table -/
theorem table_ok {Z : Sto} {dm om : Int} {δ : Deck} {b : Int} (h : δ.Ok b) (hb : b < 999990000000) (d0 : 0 < dm) (d1 : dm ≤ 20) (o0 : 0 ≤ om) (o1 : om ≤ 20) :
    ∃ (d : Int) (out : List (List Int)) (δ' : Deck), d__law_table [.r 2, .t (.int dm), .t (.int om)] (dk δ Z) = .ok (.t (.tup [.int d, .tup (out.map tI)])) (dk δ' Z) ∧ 1 ≤ d ∧ d ≤ dm ∧ (∀ o ∈ out, OffOk d o) ∧ (out.length : Int) ≤ om ∧ δ'.Ok (b + 2000) := by
  obtain ⟨v, δ1, q1, v0, v1, h1⟩ := next_ok (m := dm) Z h (by omega) d0 (by omega)
  obtain ⟨k, δ2, q2, k0, k1, h2⟩ := next_ok (m := om + 1) Z h1 (by omega) (by omega) (by omega)
  obtain ⟨way, δ3, q3, w0, w1, h3⟩ := next_ok (m := 5) Z h2 (by omega) (by decide) (by decide)
  have fin : ∀ (out : List (List Int)) (δ' : Deck), b__law_table (envOf 4 [W.r 2, .t (.int dm), .t (.int om)]) (dk δ Z) = .rt (.t (.tup [.int (1 + v), .tup (out.map tI)])) (dk δ' Z) → (∀ o ∈ out, OffOk (1 + v) o) → (out.length : Int) = k → δ'.Ok (b + 2000) →
      ∃ (d : Int) (out : List (List Int)) (δ' : Deck), d__law_table [.r 2, .t (.int dm), .t (.int om)] (dk δ Z) = .ok (.t (.tup [.int d, .tup (out.map tI)])) (dk δ' Z) ∧ 1 ≤ d ∧ d ≤ dm ∧ (∀ o ∈ out, OffOk d o) ∧ (out.length : Int) ≤ om ∧ δ'.Ok (b + 2000) :=
    fun out δ' e r1 r2 r3 => ⟨1 + v, out, δ', fn_dk0 rfl e, by omega, by omega, r1, by omega, r3⟩
  by_cases c1 : way < 2
  · obtain ⟨out, δ4, q4, r1, r2, r3⟩ := intervals_ok (Z := Z) (d := 1 + v) (k := k) h3 (by omega) (by omega) (by omega) k0 (by omega)
    refine fin out δ4 ?_ r1 r2 (r3.mono (by omega))
    unfold b__law_table
    simp [envOf, q1, q2, q3, c1, q4]
  · by_cases c2 : way = 2
    · obtain ⟨out, δ4, q4, r1, r2, r3⟩ := around_ok (Z := Z) (d := 1 + v) (k := k) h3 (by omega) (by omega) (by omega) k0 (by omega)
      refine fin out δ4 ?_ r1 r2 (r3.mono (by omega))
      unfold b__law_table
      subst c2
      simp [envOf, q1, q2, q3, q4]
    · obtain ⟨out, δ4, q4, r1, r2, r3⟩ := any_ok (Z := Z) (d := 1 + v) (k := k) h3 (by omega) (by omega) (by omega) k0 (by omega)
      refine fin out δ4 ?_ r1 r2 (r3.mono (by omega))
      unfold b__law_table
      simp [envOf, q1, q2, q3, c1, c2, q4]
end Dl

/-! DkG: the deck that a script makes; ints are the same. -/
namespace Dl
open PySem

theorem compL_pure {p : Pat} {t : Tx} {f : Ex} {ρ : Env} {S : Sto} {α : Type} (enc : α → Item) (c : α → Bool) (φ : α → T) : ∀ (xs : List α),
    (∀ x ∈ xs, ∃ ρ1, bindI p (enc x) ρ = some ρ1 ∧ t ρ1 S = .ok (c x) S ∧ (c x = true → f ρ1 S = .ok (.t (φ x)) S)) → compL gTrue p t f (xs.map enc) ρ S = .ok ((xs.filter c).map φ) S
  | [], _ => by simp [compL]
  | x :: xs, h => by
    obtain ⟨ρ1, h1, h2, h3⟩ := h x List.mem_cons_self
    have ih := compL_pure enc c φ xs fun y hy => h y (List.mem_cons_of_mem _ hy)
    rw [List.map_cons]
    unfold compL
    cases hc : c x with
    | true => simp [h1, h2, hc, h3 hc, ih]
    | false => simp [h1, h2, hc, ih]
theorem compL_all {p : Pat} {f : Ex} {ρ : Env} {S : Sto} {α : Type} (enc : α → Item) (φ : α → T) (xs : List α) (h : ∀ x ∈ xs, ∃ ρ1, bindI p (enc x) ρ = some ρ1 ∧ f ρ1 S = .ok (.t (φ x)) S) : compL gTrue p tTrue f (xs.map enc) ρ S = .ok (xs.map φ) S := by
  have := compL_pure (t := tTrue) (f := f) (p := p) (ρ := ρ) (S := S) enc (fun _ => true) φ xs fun x hx => by
    obtain ⟨ρ1, h1, h2⟩ := h x hx
    exact ⟨ρ1, h1, rfl, fun _ => h2⟩
  rw [List.filter_eq_self.mpr (fun _ _ => rfl)] at this
  exact this
/-- the deck of a script -/
theorem deck_ok {ns : List Int} (h : ns.length ≤ 63) : ∃ δ : Deck, d__law_deck [.t (.scr ns)] [] = .ok (.r 2) (dk δ []) ∧ δ.Ok 0 := by
  let cs : List Int := ns.map fun i => if i < 0 then -i else i
  let ds : List Int := cs.filter fun c => decide (10 ^ 18 ≤ c)
  have lc : cs.length = ns.length := by simp [cs]
  refine ⟨⟨ds, cs ++ [(cs.length : Int) + 7], 0⟩, ?_, ⟨?_, by simp, by simp [lc]; omega, Int.le_refl 0, Int.le_refl 0⟩⟩
  · have c1 : compL gTrue (.nm 2) tTrue (eCall bAbs (aCons (eVar 2) aNil)) (ns.map fun n => Item.one (.t (.int n))) [some (.t (.scr ns)), none, none] [] = .ok (ns.map fun i => T.int (if i < 0 then -i else i)) [] :=
      compL_all (fun n => Item.one (.t (.int n))) _ ns fun x _ => ⟨[some (.t (.scr ns)), none, some (.t (.int x))], rfl, by simp [bAbs]⟩
    have pw : cpow 10 18 = true := by decide
    have pw2 : (10 : Int) ^ (18 : Int).toNat = 10 ^ 18 := by decide
    have c2 : compL gTrue (.nm 2) (tE (e2 gGe (eVar 2) (e2 gPow (eC (.int 10)) (eC (.int 18))))) (eVar 2) (cs.map fun n => Item.one (.t (.int n))) [some (.t (.scr ns)), some (.t (.lst (cs.map T.int))), none] [] = .ok (ds.map T.int) [] :=
      compL_pure (fun n => Item.one (.t (.int n))) (fun c => decide (10 ^ 18 ≤ c)) T.int cs fun x _ => ⟨[some (.t (.scr ns)), some (.t (.lst (cs.map T.int))), some (.t (.int x))], rfl, by
        simp only [ap_tE, ap_e2, ap_var, ap_C, bind_ok', view_t, Option.bind_some, pow_int, pw, pw2, if_true, Option.map_some, of_some, List.getElem?_cons_succ, List.getElem?_cons_zero, cmp_int, asB_bl], fun _ => rfl⟩
    have e1 : sSet 1 (eComp [2] (srcS (eVar 0)) (.nm 2) (tTrue) (eCall bAbs (aCons (eVar 2) (aNil)))) (envOf 3 [W.t (.scr ns)]) [] = .nx [some (.t (.scr ns)), some (.t (.lst (cs.map T.int))), none] [] := by
      have hl : ns.length ≤ cap := cap_big (by omega)
      simp only [ap_sSet, ap_eComp, ap_srcS, ap_var, bind_ok', cont_scr, Option.map_some, of_some, envOf, List.map_map, List.length_map]
      simp [hl]
      rw [show (List.map (Item.one ∘ fun n => W.t (T.int n)) ns) = ns.map fun n => Item.one (.t (.int n)) from rfl, c1]
      simp [cs]
    have hlc : cs.length ≤ cap := cap_big (by rw [lc]; omega)
    have hlc2 : cs.length + 1 ≤ cap := cap_big (by rw [lc]; omega)
    have e2 : eCompB [2] (srcS (eVar 1)) (.nm 2) (tE (e2 gGe (eVar 2) (e2 gPow (eC (.int 10)) (eC (.int 18))))) (eVar 2) [some (.t (.scr ns)), some (.t (.lst (cs.map T.int))), none] [] = .ok (.r 0) [.lst (ds.map T.int)] := by
      unfold eCompB
      simp only [ap_srcS, ap_var, bind_ok', cont_lst, Option.map_some, of_some, List.map_map, List.length_map, List.getElem?_cons_succ, List.getElem?_cons_zero, if_pos hlc, wipe0, wipe1, List.set_cons_succ, List.set_cons_zero]
      rw [show (List.map (Item.one ∘ W.t ∘ T.int) cs) = cs.map fun n => Item.one (.t (.int n)) from rfl, c2]
      rfl
    unfold d__law_deck fnK callK b__law_deck
    rw [if_pos (show [W.t (T.scr ns)].length = 1 from rfl), sCons_nx e1]
    simp only [ap_sRet, eVecB, ap_aCons, e2, bind_ok', e2L, ap_var, List.getElem?_cons_succ, List.getElem?_cons_zero, ap_eLst, ap_aNil, ap_e2, ap_eCall, views_cons, views_nil, view_t, Option.bind_some, Option.map_some, len_lst, of_some, ap_C, add_int, tree_1, gCat,
      List.length_map, List.length_cons, List.length_nil, if_pos hlc2]
    rw [if_pos (show 3 ≤ cap by decide)]
    simp [dk]
  · exact Nat.le_trans (List.length_filter_le _ _) (by rw [lc]; omega)
/-- ints are the same -/
theorem same_int (n : Nat) (a : Int) (S : Sto) : d__law_same (n + 1) [.t (.int a), .t (.int a)] S = .ok (.t (.bl true)) S := by
  have i1 : ∀ cs : List String, gIsiT cs (.int a) = some (.bl (cs.any fun c => isiS "int" c)) := fun _ => rfl
  have i2 : ∀ c : String, gIsi c (.int a) = some (.bl (isiS "int" c)) := fun _ => rfl
  refine fn_rt0 rfl ?_
  have b1 : gEq (.bl false) (.bl false) = some (.bl true) := by simp [gEq, shp, lay, dep, eqT]
  have s1 : isiS "int" "int" = true := by decide
  have s2 : isiS "int" "bool" = false := by decide
  have s3 : isiS "int" "str" = false := by decide
  have s4 : isiS "int" "dict" = false := by decide
  have s5 : isiS "int" "tuple" = false := by decide
  have s6 : isiS "int" "list" = false := by decide
  have g1 : gIs (.int a) .non = some (.bl false) := rfl
  unfold b__law_same
  simp [envOf, i1, i2, s1, s2, s3, s4, s5, s6, g1, b1]
end Dl

/-! KcA: k14's own defs, as denotations (printed by gen.py). -/
namespace Dl
open PySem
def b__law_is_free : Sx := sCons (sSet 3 (eCall (lst1 bSorted) (aCons (eComp [4] (srcS (eVar 0)) (.nm 4) (tE (e2 gEq (e2 gAnd (e2 gShr (eVar 4) (eVar 2)) (eC (.int 1))) (eC (.int 1)))) (e2 gAnd (eVar 4) (eVar 1))) (aNil))))
  (sRet (e2 gEq (eComp [5, 6] (srcZ2 (aCons (eVar 3) (aCons (eSl (eVar 3) (oSome (eC (.int 1))) oNone) (aNil)))) (.tp [.nm 5, .nm 6]) (tE (e2 gNe (e2 gAnd (eVar 5) (eVar 6)) (eVar 5))) (eC (.int 1))) (eLst (aNil))))
def d__law_is_free : Den := fnF 3 7 b__law_is_free
def b__law_ways : Sx := sCons (sPar 1 2 (aCons (eComp [9] (srcS (eIx (eVar 0) (eC (.int 1)))) (.nm 9) (tTrue) (eCall bSum (aCons (eComp [7] (srcS (eVar 9)) (.nm 7) (tTrue) (e2 gShl (eC (.int 1)) (eVar 7))) (aNil)))) (aCons (e2 gSub (e2 gShl (eC (.int 1)) (eIx (eVar 0) (eC (.int 0)))) (eC (.int 1))) (aNil))))
  (sCons (sSet 3 (eDict1B (eC (.int 0)) (eC (.int 1))))
  (sCons (sFor (srcR1 (aCons (eIx (eVar 0) (eC (.int 0))) (aNil))) (.nm 4) (sCons (sSet 5 (eDictB))
  (sCons (sLock 3 (sFor (srcD 3) (.nm 6) (sFor (srcR1 (aCons (eIx (eVar 0) (eC (.int 0))) (aNil))) (.nm 7) (sIf (tAndD (tE (e2 gEq (e2 gAnd (e2 gShr (eVar 6) (eVar 7)) (eC (.int 1))) (eC (.int 0)))) (tE (eFn 3 (d__law_is_free) (aCons (eVar 1) (aCons (e2 gSub (eVar 2) (eVar 6)) (aCons (eVar 7) (aNil))))))) (sCons (sSet 8 (e2 gAdd (eVar 6) (e2 gShl (eC (.int 1)) (eVar 7))))
  (sAsg (e2 gAdd (eGet (eVar 5) (eVar 8) (eC (.int 0))) (eIx (eVar 3) (eVar 6))) (gSubD (eVar 5) (eVar 8)))) (sNil)))))
  (sSet 3 (eVar 5)))))
  (sRet (eCall bSum (aCons (eLock 3 (eComp [6] (srcD 3) (.nm 6) (tTrue) (eIx (eVar 3) (eVar 6)))) (aNil))))))
def d__law_ways : Den := fnF 1 10 b__law_ways
end Dl

/-! Kc: masks, simple demands, the count of nested orders. -/
namespace Dl
open PySem

/-! ### bits -/
def bitI (r d : Int) : Bool := decide (Builtin.bitAnd (r / 2 ^ d.toNat) 1 = 1)
theorem and_one (x : Nat) : Builtin.bitAnd (x : Int) 1 = ((x % 2 : Nat) : Int) := by
  rw [PyProof.Rows.bitAnd_pp (Int.natCast_nonneg _) (by decide)]
  have : (1 : Int).toNat = 1 := rfl
  rw [this, Int.toNat_natCast, Nat.and_one_is_mod]
theorem bitI_nat (r d : Nat) : bitI (r : Int) (d : Int) = r.testBit d := by
  unfold bitI
  have e : ((r : Int) / 2 ^ (d : Int).toNat) = ((r / 2 ^ d : Nat) : Int) := by rw [Int.toNat_natCast]; simp
  rw [e, and_one, Nat.testBit_eq_decide_div_mod_eq]
  have h2 : r / 2 ^ d % 2 < 2 := Nat.mod_lt _ (by decide)
  generalize r / 2 ^ d % 2 = z at h2
  by_cases h : z = 1
  · subst h; rfl
  · have : z = 0 := by omega
    subst this; rfl
/-! ### simple -/
def nestd (xs : List Int) : Bool := (xs.zip (xs.drop 1)).all fun p => decide (Builtin.bitAnd p.1 p.2 = p.1)
def pick (masks : List Int) (rest d : Int) : List Int := isort ((masks.filter fun m => bitI m d).map fun m => Builtin.bitAnd m rest)
def smp (masks : List Int) (rest d : Int) : Bool := nestd (pick masks rest d)
theorem pick_len (masks : List Int) (rest d : Int) : (pick masks rest d).length ≤ masks.length := by
  unfold pick
  rw [(isort_perm _).length_eq, List.length_map]
  exact List.length_filter_le _ _
theorem zipW_ints (xs ys : List Int) : zipW (xs.map fun x => W.t (.int x)) (ys.map fun x => W.t (.int x)) = (xs.zip ys).map fun p => Item.tp [.t (.int p.1), .t (.int p.2)] := by
  unfold zipW
  rw [List.zip_map, List.map_map]
  rfl
theorem all_bls (bs : List Bool) : bAll [.lst (bs.map T.bl)] = some (.bl (bs.all fun b => b)) := by
  simp [bAll, onBls, bls_map]
theorem sum_ints (ns : List Int) : bSum [.lst (ns.map T.int)] = some (.int ns.sum) := by
  simp [bSum, onInts, intsOf_map]
abbrev pkT : Tx := tE (e2 gEq (e2 gAnd (e2 gShr (eVar 4) (eVar 2)) (eC (.int 1))) (eC (.int 1)))
abbrev pkE : Ex := eComp [4] (srcS (eVar 0)) (.nm 4) pkT (e2 gAnd (eVar 4) (eVar 1))
theorem pk_run {masks : List Int} {rest d : Int} (hd : 0 ≤ d) (hl : masks.length ≤ cap) (S : Sto) :
    pkE (envOf 7 [.t (.lst (masks.map T.int)), .t (.int rest), .t (.int d)]) S = .ok (.t (.lst (((masks.filter fun m => bitI m d).map fun m => Builtin.bitAnd m rest).map T.int))) S := by
  have c1 := compL_pure (p := .nm 4) (t := pkT) (f := e2 gAnd (eVar 4) (eVar 1)) (ρ := [some (.t (.lst (masks.map T.int))), some (.t (.int rest)), some (.t (.int d)), none, none, none, none]) (S := S)
    (fun m : Int => Item.one (.t (.int m))) (fun m => bitI m d) (fun m => T.int (Builtin.bitAnd m rest)) masks fun m _ => ⟨[some (.t (.lst (masks.map T.int))), some (.t (.int rest)), some (.t (.int d)), none, some (.t (.int m)), none, none], rfl, by
      simp [hd, bitI], fun _ => by simp⟩
  simp only [ap_eComp, ap_srcS, ap_var, envOf, List.map_cons, List.map_nil, List.cons_append, List.nil_append, List.length_cons, List.length_nil, List.getElem?_cons_zero, bind_ok', cont_lst, Option.map_some, of_some, List.map_map, List.length_map, if_pos hl, wipe0, wipe1, List.replicate, List.set_cons_succ, List.set_cons_zero]
  rw [show (List.map (Item.one ∘ W.t ∘ T.int) masks) = masks.map fun n => Item.one (.t (.int n)) from rfl]
  rw [c1]
  rfl
theorem cut1 (xs : List T) : cutL xs (some 1) none = xs.drop 1 := cut_from xs (n := 1)
theorem simple_ok {masks : List Int} {rest d : Int} (hd : 0 ≤ d) (hl : masks.length ≤ 100000) (S : Sto) :
    d_is_simple [.t (.lst (masks.map T.int)), .t (.int rest), .t (.int d)] S = .ok (.t (.bl (smp masks rest d))) S := by
  have hl' : masks.length ≤ cap := cap_big hl
  refine fn_rt0 rfl ?_
  have e1 : sSet 3 (eCall (lst1 bSorted) (aCons pkE aNil)) (envOf 7 [.t (.lst (masks.map T.int)), .t (.int rest), .t (.int d)]) S =
      .nx [some (.t (.lst (masks.map T.int))), some (.t (.int rest)), some (.t (.int d)), some (.t (.lst ((pick masks rest d).map T.int))), none, none, none] S := by
    simp only [ap_sSet, ap_eCall, ap_aCons, pk_run hd hl', ap_aNil, bind_ok', views_cons, views_nil, view_t, Option.bind_some, Option.map_some, lst1_eq, sorted_lst, of_some, thenS_ok]
    rfl
  have hx : (pick masks rest d).length ≤ cap := Nat.le_trans (pick_len _ _ _) hl'
  have hsmp : smp masks rest d = nestd (pick masks rest d) := rfl
  rw [hsmp]
  unfold b_is_simple
  rw [sCons_nx e1]
  clear e1 hsmp
  generalize pick masks rest d = xs at hx ⊢
  have c1 := compL_all (p := .tp [.nm 5, .nm 6]) (f := e2 gEq (e2 gAnd (eVar 5) (eVar 6)) (eVar 5)) (ρ := [some (.t (.lst (masks.map T.int))), some (.t (.int rest)), some (.t (.int d)), some (.t (.lst (xs.map T.int))), none, none, none]) (S := S)
    (fun p : Int × Int => Item.tp [.t (.int p.1), .t (.int p.2)]) (fun p => T.bl (decide (Builtin.bitAnd p.1 p.2 = p.1))) (xs.zip (xs.drop 1)) fun p _ => ⟨[some (.t (.lst (masks.map T.int))), some (.t (.int rest)), some (.t (.int d)), some (.t (.lst (xs.map T.int))), none, some (.t (.int p.1)), some (.t (.int p.2))], by simp, by simp⟩
  have hz : (xs.zip (xs.drop 1)).length ≤ cap := by rw [List.length_zip]; exact Nat.le_trans (Nat.min_le_left _ _) hx
  have z1 : zip2 S [.t (.lst (xs.map T.int)), .t (.lst ((xs.map T.int).drop 1))] = some ⟨(xs.zip (xs.drop 1)).map fun p => Item.tp [.t (.int p.1), .t (.int p.2)], gTrue⟩ := by
    rw [← List.map_drop]
    simp only [zip2, cont_lst, Option.bind_some, sameK, if_true, List.map_map]
    rw [show (List.map (W.t ∘ T.int) xs) = xs.map fun x => W.t (.int x) from rfl, show (List.map (W.t ∘ T.int) (xs.drop 1)) = (xs.drop 1).map fun x => W.t (.int x) from rfl, zipW_ints]
    rfl
  have gS : gSl (.lst (xs.map T.int)) (some 1) none = some (.lst ((xs.map T.int).drop 1)) := by simp only [gSl, cut1]
  simp only [ap_sRet, ap_eCall, ap_eComp, ap_srcZ2, ap_aCons, ap_eSl, ap_var, ap_aNil, ap_oSome, ap_oNone, ap_C, asI_int, bind_ok', List.getElem?_cons_succ, List.getElem?_cons_zero, Option.map_some, of_some, view_t, Option.bind_some, gS, z1, List.length_map, if_pos hz, wipe0, wipe1, List.set_cons_succ, List.set_cons_zero]
  rw [c1]
  simp only [bind_ok', views_cons, views_nil, view_t, Option.bind_some, Option.map_some]
  have ab := all_bls ((xs.zip (xs.drop 1)).map fun p => decide (Builtin.bitAnd p.1 p.2 = p.1))
  rw [List.map_map] at ab
  rw [show (List.map (fun p : Int × Int => T.bl (decide (Builtin.bitAnd p.1 p.2 = p.1))) (xs.zip (xs.drop 1))) = List.map (T.bl ∘ fun p : Int × Int => decide (Builtin.bitAnd p.1 p.2 = p.1)) (xs.zip (xs.drop 1)) from rfl, ab]
  simp [nestd, List.all_map]
  rfl
theorem filter_nil {xs : List (Int × Int)} (q : Int × Int → Bool) : (xs.filter fun p => !q p) = [] ↔ xs.all q = true := by
  induction xs with
  | nil => simp
  | cons x r ih =>
    cases h : q x with
    | true => simp [h]
    | false => simp [h]
@[simp] theorem ne_int (a b : Int) : gNe (.int a) (.int b) = some (.bl (decide (a ≠ b))) := by
  simp [gNe, shp, lay, dep, eqT]
  by_cases h : a = b <;> simp [h]
theorem ones_eq {α : Type} (l : List α) : gEq (.lst (l.map fun _ => T.int 1)) (.lst []) = some (.bl l.isEmpty) := by
  have h1 := shp_ints (l.map fun _ => (1 : Int))
  rw [List.map_map] at h1
  have h1 : shp (.lst (l.map fun _ => T.int 1)) = true := h1
  have h2 : shp (.lst []) = true := shp_ints []
  cases l with
  | nil => simp [gEq, h2, eqT, eqTs]
  | cons x r => rw [List.map_cons] at h1 ⊢; simp [gEq, h1, h2, eqT, eqTs]
theorem free_ok {masks : List Int} {rest d : Int} (hd : 0 ≤ d) (hl : masks.length ≤ 100000) (S : Sto) :
    d__law_is_free [.t (.lst (masks.map T.int)), .t (.int rest), .t (.int d)] S = .ok (.t (.bl (smp masks rest d))) S := by
  have hl' : masks.length ≤ cap := cap_big hl
  refine fn_rt0 rfl ?_
  have e1 : sSet 3 (eCall (lst1 bSorted) (aCons pkE aNil)) (envOf 7 [.t (.lst (masks.map T.int)), .t (.int rest), .t (.int d)]) S =
      .nx [some (.t (.lst (masks.map T.int))), some (.t (.int rest)), some (.t (.int d)), some (.t (.lst ((pick masks rest d).map T.int))), none, none, none] S := by
    simp only [ap_sSet, ap_eCall, ap_aCons, pk_run hd hl', ap_aNil, bind_ok', views_cons, views_nil, view_t, Option.bind_some, Option.map_some, lst1_eq, sorted_lst, of_some, thenS_ok]
    rfl
  have hx : (pick masks rest d).length ≤ cap := Nat.le_trans (pick_len _ _ _) hl'
  have hsmp : smp masks rest d = nestd (pick masks rest d) := rfl
  rw [hsmp]
  unfold b__law_is_free
  rw [sCons_nx e1]
  clear e1 hsmp
  generalize pick masks rest d = xs at hx ⊢
  have c1 := compL_pure (p := .tp [.nm 5, .nm 6]) (t := tE (e2 gNe (e2 gAnd (eVar 5) (eVar 6)) (eVar 5))) (f := eC (.int 1)) (ρ := [some (.t (.lst (masks.map T.int))), some (.t (.int rest)), some (.t (.int d)), some (.t (.lst (xs.map T.int))), none, none, none]) (S := S)
    (fun p : Int × Int => Item.tp [.t (.int p.1), .t (.int p.2)]) (fun p => !decide (Builtin.bitAnd p.1 p.2 = p.1)) (fun _ => T.int 1) (xs.zip (xs.drop 1)) fun p _ => ⟨[some (.t (.lst (masks.map T.int))), some (.t (.int rest)), some (.t (.int d)), some (.t (.lst (xs.map T.int))), none, some (.t (.int p.1)), some (.t (.int p.2))], by simp, by simp, by simp⟩
  have hz : (xs.zip (xs.drop 1)).length ≤ cap := by rw [List.length_zip]; exact Nat.le_trans (Nat.min_le_left _ _) hx
  have z1 : zip2 S [.t (.lst (xs.map T.int)), .t (.lst ((xs.map T.int).drop 1))] = some ⟨(xs.zip (xs.drop 1)).map fun p => Item.tp [.t (.int p.1), .t (.int p.2)], gTrue⟩ := by
    rw [← List.map_drop]
    simp only [zip2, cont_lst, Option.bind_some, sameK, if_true, List.map_map]
    rw [show (List.map (W.t ∘ T.int) xs) = xs.map fun x => W.t (.int x) from rfl, show (List.map (W.t ∘ T.int) (xs.drop 1)) = (xs.drop 1).map fun x => W.t (.int x) from rfl, zipW_ints]
    rfl
  have gS : gSl (.lst (xs.map T.int)) (some 1) none = some (.lst ((xs.map T.int).drop 1)) := by simp only [gSl, cut1]
  simp only [ap_sRet, ap_e2, ap_eLst, tree0, ap_eComp, ap_srcZ2, ap_aCons, ap_eSl, ap_var, ap_aNil, ap_oSome, ap_oNone, ap_C, asI_int, bind_ok', List.getElem?_cons_succ, List.getElem?_cons_zero, Option.map_some, of_some, view_t, Option.bind_some, gS, z1, List.length_map, if_pos hz, wipe0, wipe1, List.set_cons_succ, List.set_cons_zero]
  rw [c1]
  simp only [bind_ok', view_t, Option.bind_some, ones_eq, Option.map_some, of_some, thenS_ok]
  have q := filter_nil (xs := xs.zip (xs.drop 1)) fun p => decide (Builtin.bitAnd p.1 p.2 = p.1)
  unfold nestd
  cases hb : (xs.zip (xs.drop 1)).all fun p => decide (Builtin.bitAnd p.1 p.2 = p.1) with
  | true => rw [q.mpr hb]; rfl
  | false =>
    cases hf : (xs.zip (xs.drop 1)).filter fun p => !decide (Builtin.bitAnd p.1 p.2 = p.1) with
    | nil => rw [q.mp hf] at hb; cases hb
    | cons x r => rfl
/-! ### digits, masks -/
def digs (masks : List Int) (n : Nat) (rest : Int) : List Int := (nats n).filter fun d => bitI rest d && smp masks rest d
theorem digits_ok {masks : List Int} {rest : Int} (hl : masks.length ≤ 100000) (hb : Builtin.Int.intBits rest ≤ 1000) (S : Sto) :
    d_simple_digits [.t (.lst (masks.map T.int)), .t (.int rest)] S = .ok (.t (.lst ((digs masks (Builtin.Int.intBits rest) rest).map T.int))) S := by
  refine fn_rt0 rfl ?_
  generalize hn : Builtin.Int.intBits rest = n at hb
  have c1 := compL_pure (p := .nm 2) (t := tAndD (tE (e2 gEq (e2 gAnd (e2 gShr (eVar 1) (eVar 2)) (eC (.int 1))) (eC (.int 1)))) (tE (eFn 3 (d_is_simple) (aCons (eVar 0) (aCons (eVar 1) (aCons (eVar 2) (aNil))))))) (f := eVar 2) (ρ := [some (.t (.lst (masks.map T.int))), some (.t (.int rest)), none]) (S := S)
    (fun d : Int => Item.one (.t (.int d))) (fun d => bitI rest d && smp masks rest d) T.int (nats n) fun d hd => by
      have hd0 : 0 ≤ d := (nats_mem.mp hd).1
      refine ⟨[some (.t (.lst (masks.map T.int))), some (.t (.int rest)), some (.t (.int d))], rfl, ?_, fun _ => rfl⟩
      have s1 := simple_ok (masks := masks) (rest := rest) hd0 hl S
      cases hbit : bitI rest d with
      | true =>
        have h1 : Builtin.bitAnd (rest / 2 ^ d.toNat) 1 = 1 := of_decide_eq_true hbit
        simp [hd0, h1, s1]
      | false =>
        have h1 : ¬ Builtin.bitAnd (rest / 2 ^ d.toNat) 1 = 1 := of_decide_eq_false hbit
        simp [hd0, h1]
  have hnc : n ≤ cap := cap_big (by omega)
  have hr : rlim (n : Int) = true := by simp [rlim]; omega
  have gb : gBitLen (.int rest) = some (.int (n : Int)) := by simp [gBitLen, hn]
  unfold b_simple_digits
  simp only [ap_sRet, ap_eComp, ap_srcR1, ap_aCons, ap_aNil, ap_e1, ap_var, bind_ok', envOf, List.map_cons, List.map_nil, List.cons_append, List.nil_append, List.length_cons, List.length_nil, List.getElem?_cons_zero, List.getElem?_cons_succ, view_t, Option.bind_some, gb, Option.map_some, of_some, rng1, hr, if_true, rngI_nats, List.length_map, nats_len, Int.toNat_natCast, if_pos hnc, wipe0, wipe1, List.replicate, List.set_cons_succ, List.set_cons_zero]
  rw [c1]
  rfl
def maskI (o : List Int) : Int := (o.map fun x => 2 ^ x.toNat).sum
theorem mask_ok {o : List Int} (ho : ∀ x ∈ o, 0 ≤ x ∧ x < 1000) (hl : o.length ≤ 100000) (S : Sto) : d_mask_of [.t (tI o)] S = .ok (.t (.int (maskI o))) S := by
  refine fn_rt0 rfl ?_
  have c1 := compL_all (p := .nm 1) (f := e2 gShl (eC (.int 1)) (eVar 1)) (ρ := [some (.t (tI o)), none]) (S := S) (fun x : Int => Item.one (.t (.int x))) (fun x => T.int (2 ^ x.toNat)) o fun x hx => by
    obtain ⟨h0, h1⟩ := ho x hx
    have hp : cpow 1 x = true := by simp [cpow]; omega
    exact ⟨[some (.t (tI o)), some (.t (.int x))], rfl, by simp [hp]⟩
  have hlc : o.length ≤ cap := cap_big hl
  have sm := sum_ints (o.map fun x => 2 ^ x.toNat)
  rw [List.map_map] at sm
  unfold b_mask_of
  have ct : cont S (.t (tI o)) = some (.t, (o.map T.int).map W.t, gTrue) := rfl
  simp only [ap_sRet, ap_eCall, ap_eComp, ap_srcS, ap_aCons, ap_aNil, ap_var, bind_ok', envOf, List.map_cons, List.map_nil, List.cons_append, List.nil_append, List.length_cons, List.length_nil, List.getElem?_cons_zero, ct, Option.map_some, of_some, List.map_map, List.length_map, if_pos hlc, wipe0, wipe1, List.replicate, List.set_cons_succ, List.set_cons_zero]
  rw [show (List.map (Item.one ∘ W.t ∘ T.int) o) = o.map fun x => Item.one (.t (.int x)) from rfl, c1]
  simp only [bind_ok', views_cons, views_nil, view_t, Option.bind_some, Option.map_some]
  rw [show (List.map (fun x : Int => T.int (2 ^ x.toNat)) o) = List.map (T.int ∘ fun x : Int => 2 ^ x.toNat) o from rfl, sm]
  rfl
end Dl

/-! Kd: sets as masks; the count with its memory. -/
namespace Dl
open PySem

/-! ### sets as masks -/
theorem tb_ge {r d : Nat} (h : r.testBit d = true) : 2 ^ d ≤ r := by
  rcases Nat.lt_or_ge r (2 ^ d) with l | l
  · rw [Nat.testBit_lt_two_pow l] at h; cases h
  · exact l
theorem tb_sub {r d : Nat} (h : r.testBit d = true) (e : Nat) : (r - 2 ^ d).testBit e = (decide (e ≠ d) && r.testBit e) := by
  have hge := tb_ge h
  obtain ⟨s, rfl⟩ : ∃ s, r = 2 ^ d + s := ⟨r - 2 ^ d, by omega⟩
  rw [Nat.add_sub_cancel_left]
  rcases Nat.lt_trichotomy e d with l | l | l
  · rw [Nat.testBit_two_pow_add_gt l]
    simp [Nat.ne_of_lt l]
  · subst l
    rw [Nat.testBit_two_pow_add_eq] at h
    simp at h
    simp [h]
  · have hne : e ≠ d := Nat.ne_of_gt l
    simp only [hne, ne_eq, not_false_eq_true, decide_true, Bool.true_and]
    have ht : 2 ^ d ≤ (2 ^ d + s) % 2 ^ e := tb_ge (by rw [Nat.testBit_mod_two_pow, h]; simp [l])
    rw [Nat.testBit_eq_decide_div_mod_eq, Nat.testBit_eq_decide_div_mod_eq]
    have hp : 0 < 2 ^ e := Nat.two_pow_pos e
    have h1 := Nat.div_add_mod (2 ^ d + s) (2 ^ e)
    have h2 := Nat.mod_lt (2 ^ d + s) hp
    generalize (2 ^ d + s) / 2 ^ e = q at *
    generalize (2 ^ d + s) % 2 ^ e = t at *
    have h3 : s = 2 ^ e * q + (t - 2 ^ d) := by omega
    have h4 : s / 2 ^ e = q := by
      rw [h3, Nat.mul_add_div hp, Nat.div_eq_of_lt (Nat.lt_of_le_of_lt (Nat.sub_le _ _) h2), Nat.add_zero]
    rw [h4]
def pc (n : Nat) (r : Int) : Nat := ((nats n).filter (bitI r)).length
theorem filter_ne {d : Int} : ∀ {l : List Int}, l.Nodup → d ∈ l → (l.filter fun x => decide (x ≠ d)).length + 1 = l.length
  | [], _, h => by cases h
  | x :: l, nd, h => by
    obtain ⟨h1, h2⟩ := List.nodup_cons.mp nd
    by_cases e : x = d
    · subst e
      have : (l.filter fun y => decide (y ≠ x)) = l := List.filter_eq_self.mpr fun y hy => by
        have : y ≠ x := fun z => h1 (z ▸ hy)
        simp [this]
      rw [List.filter_cons]
      simp only [ne_eq, not_true_eq_false, decide_false, Bool.false_eq_true, if_false]
      simp only [ne_eq] at this
      rw [this, List.length_cons]
    · have hm : d ∈ l := by
        rcases List.mem_cons.mp h with z | z
        · exact absurd z.symm e
        · exact z
      have ih := filter_ne h2 hm
      rw [List.filter_cons]
      simp only [ne_eq, e, not_false_eq_true, decide_true, if_true, List.length_cons]
      simp only [ne_eq] at ih
      omega
theorem pc_sub {n r d : Nat} (h : r.testBit d = true) (hd : d < n) : pc n ((r - 2 ^ d : Nat) : Int) + 1 = pc n (r : Int) := by
  unfold pc
  have e : (nats n).filter (bitI ((r - 2 ^ d : Nat) : Int)) = ((nats n).filter (bitI (r : Int))).filter fun x => decide (x ≠ (d : Int)) := by
    rw [List.filter_filter]
    refine List.filter_congr fun x hx => ?_
    obtain ⟨i, hi⟩ : ∃ i : Nat, x = i := ⟨x.toNat, by have := (nats_mem.mp hx).1; omega⟩
    subst hi
    rw [bitI_nat, bitI_nat, tb_sub h]
    congr 1
    exact decide_eq_decide.mpr (by omega)
  rw [e]
  refine filter_ne ((nats_nodup n).sublist List.filter_sublist) (List.mem_filter.mpr ⟨nats_mem.mpr ⟨by omega, by omega⟩, ?_⟩)
  rw [bitI_nat]
  exact h
theorem pc_zero {n r : Nat} (hr : r < 2 ^ n) (h : pc n (r : Int) = 0) : r = 0 := by
  refine Nat.eq_of_testBit_eq fun i => ?_
  rw [Nat.zero_testBit]
  rcases Nat.lt_or_ge i n with l | l
  · cases hb : r.testBit i with
    | false => rfl
    | true =>
      have hm : (i : Int) ∈ (nats n).filter (bitI (r : Int)) := List.mem_filter.mpr ⟨nats_mem.mpr ⟨by omega, by omega⟩, by rw [bitI_nat]; exact hb⟩
      have := List.length_pos_of_mem hm
      unfold pc at h
      omega
  · exact Nat.testBit_lt_two_pow (Nat.lt_of_lt_of_le hr (Nat.pow_le_pow_right (by decide) l))
theorem pc_zero' (n : Nat) : pc n (0 : Nat) = 0 := by
  unfold pc
  rw [List.filter_eq_nil_iff.mpr]
  · rfl
  · intro x hx
    obtain ⟨i, hi⟩ : ∃ i : Nat, x = i := ⟨x.toNat, by have := (nats_mem.mp hx).1; omega⟩
    subst hi
    rw [bitI_nat]
    simp
theorem pc_full (n : Nat) : pc n ((2 ^ n - 1 : Nat) : Int) = n := by
  unfold pc
  rw [List.filter_eq_self.mpr, nats_len]
  intro x hx
  obtain ⟨i, hi⟩ : ∃ i : Nat, x = i := ⟨x.toNat, by have := (nats_mem.mp hx).1; omega⟩
  subst hi
  rw [bitI_nat, Nat.testBit_two_pow_sub_one]
  have := (nats_mem.mp hx).2
  simp; omega
/-! ### digits -/
theorem digs_mem {masks : List Int} {n r : Nat} {d : Int} (h : d ∈ digs masks n (r : Int)) : ∃ i : Nat, d = i ∧ i < n ∧ r.testBit i = true ∧ smp masks r d = true := by
  obtain ⟨h1, h2⟩ := List.mem_filter.mp h
  obtain ⟨i, hi⟩ : ∃ i : Nat, d = i := ⟨d.toNat, by have := (nats_mem.mp h1).1; omega⟩
  subst hi
  rw [Bool.and_eq_true, bitI_nat] at h2
  exact ⟨i, rfl, by have := (nats_mem.mp h1).2; omega, h2.1, h2.2⟩
theorem digs_len (masks : List Int) (n : Nat) (r : Int) : (digs masks n r).length ≤ pc n r := by
  unfold digs pc
  have : (nats n).filter (fun d => bitI r d && smp masks r d) = ((nats n).filter (bitI r)).filter (smp masks r) := by
    rw [List.filter_filter]
    exact List.filter_congr fun x _ => Bool.and_comm _ _
  rw [this]
  exact List.length_filter_le _ _
theorem nats_take {m n : Nat} (h : m ≤ n) (q : Int → Bool) (hq : ∀ i : Nat, m ≤ i → q i = false) : (nats n).filter q = (nats m).filter q := by
  induction n with
  | zero => have : m = 0 := by omega
            subst this; rfl
  | succ n ih =>
    by_cases e : m = n + 1
    · subst e; rfl
    · have hs : nats (n + 1) = nats n ++ [(n : Int)] := by simp [nats, List.range_succ]
      rw [hs, List.filter_append, ih (by omega)]
      simp [hq n (by omega)]
theorem bits_nat {r n : Nat} (hr : r < 2 ^ n) : Builtin.Int.intBits (r : Int) ≤ n ∧ ∀ i : Nat, Builtin.Int.intBits (r : Int) ≤ i → r.testBit i = false := by
  unfold Builtin.Int.intBits
  by_cases h : r = 0
  · subst h
    exact ⟨by simp, fun i _ => by simp⟩
  · have hb : ((r : Int) == 0) = false := by simp; omega
    simp only [hb, Bool.false_eq_true, if_false, Int.natAbs_natCast]
    have hl : r < 2 ^ (r.log2 + 1) := Nat.lt_log2_self
    have hg : 2 ^ r.log2 ≤ r := Nat.log2_self_le h
    refine ⟨?_, fun i hi => Nat.testBit_lt_two_pow (Nat.lt_of_lt_of_le hl (Nat.pow_le_pow_right (by decide) hi))⟩
    have : r.log2 < n := by
      rcases Nat.lt_or_ge r.log2 n with l | l
      · exact l
      · have := Nat.pow_le_pow_right (show 0 < 2 by decide) l
        omega
    omega
theorem digs_eq {masks : List Int} {n r : Nat} (hr : r < 2 ^ n) : digs masks (Builtin.Int.intBits (r : Int)) r = digs masks n r := by
  obtain ⟨h1, h2⟩ := bits_nat hr
  unfold digs
  exact (nats_take h1 _ fun i hi => by rw [bitI_nat, h2 i hi]; rfl).symm
/-! ### the number of ways -/
def FN (masks : List Int) (n : Nat) : Nat → Int → Int
  | 0, _ => 1
  | k + 1, r => ((digs masks n r).map fun d => FN masks n k (r - 2 ^ d.toNat)).sum
/-! ### dicts of ints -/
def enc (m : List (Int × Int)) : List (L2.Key × T) := m.map fun p => (.inl p.1, .int p.2)
def lookI : List (Int × Int) → Int → Option Int
  | [], _ => none
  | (k', x) :: r, k => if k' = k then some x else lookI r k
def putI : List (Int × Int) → Int → Int → List (Int × Int)
  | [], k, v => [(k, v)]
  | (k', y) :: r, k, v => if k' = k then (k', v) :: r.map (fun kv => if kv.1 = k then (kv.1, v) else kv) else (k', y) :: putI r k v
theorem lookK_enc : ∀ (m : List (Int × Int)) (k : Int), lookK (enc m) (.inl k) = (lookI m k).map T.int
  | [], _ => rfl
  | (k', x) :: r, k => by
    have ih := lookK_enc r k
    unfold enc at ih ⊢
    rw [List.map_cons, lookK, lookI]
    by_cases h : k' = k
    · simp [h]
    · have h2 : ¬ (Sum.inl k' : L2.Key) = .inl k := fun z => h (Sum.inl.inj z)
      rw [if_neg h2, if_neg h, ih]
theorem putT_enc : ∀ (m : List (Int × Int)) (k v : Int), putT (enc m) (.inl k) (.int v) = enc (putI m k v)
  | [], _, _ => rfl
  | (k', x) :: r, k, v => by
    have ih := putT_enc r k v
    unfold enc at ih ⊢
    rw [List.map_cons, putT, putI]
    by_cases h : k' = k
    · subst h
      rw [if_pos rfl, if_pos rfl, List.map_cons, List.map_map, List.map_map]
      congr 1
      refine List.map_congr_left fun p _ => ?_
      by_cases e : p.1 = k'
      · simp [e]
      · simp [e]
    · have h2 : ¬ (Sum.inl k' : L2.Key) = .inl k := fun z => h (Sum.inl.inj z)
      rw [if_neg h2, if_neg h, ih, List.map_cons]
theorem enc_len (m : List (Int × Int)) : (enc m).length = m.length := by simp [enc]
theorem putI_mem {k v : Int} : ∀ {m : List (Int × Int)} {p : Int × Int}, p ∈ putI m k v → p ∈ m ∨ p = (k, v)
  | [], p, h => by simp [putI] at h; exact .inr h
  | (k', y) :: r, p, h => by
    unfold putI at h
    split at h
    · rename_i e
      subst e
      rcases List.mem_cons.mp h with h | h
      · exact .inr h
      · obtain ⟨q, hq, rfl⟩ := List.mem_map.mp h
        by_cases e : q.1 = k'
        · rw [if_pos e]; right; rw [e]
        · rw [if_neg e]; exact .inl (List.mem_cons_of_mem _ hq)
    · rcases List.mem_cons.mp h with h | h
      · exact .inl (h ▸ List.mem_cons_self)
      · rcases putI_mem h with h | h
        · exact .inl (List.mem_cons_of_mem _ h)
        · exact .inr h
theorem putI_look (k v : Int) : ∀ m : List (Int × Int), lookI (putI m k v) k = some v
  | [] => by simp [putI, lookI]
  | (k', y) :: r => by
    unfold putI
    split
    · rename_i e; simp [lookI, e]
    · rename_i e; simp [lookI, e, putI_look k v r]
theorem putI_len (k v : Int) : ∀ m : List (Int × Int), (putI m k v).length ≤ m.length + 1
  | [] => by simp [putI]
  | (k', y) :: r => by
    unfold putI
    split
    · simp
    · have := putI_len k v r
      simp only [List.length_cons]; omega
theorem lookI_mem {k v : Int} : ∀ {m : List (Int × Int)}, lookI m k = some v → (k, v) ∈ m
  | [], h => by cases h
  | (k', y) :: r, h => by
    unfold lookI at h
    split at h
    · rename_i e; subst e; cases h; exact List.mem_cons_self
    · exact List.mem_cons_of_mem _ (lookI_mem h)
end Dl

/-! Ke: counts_from, count_nested_orders. -/
namespace Dl
open PySem

def MemoOk (masks : List Int) (n : Nat) (m : List (Int × Int)) : Prop := ∀ p ∈ m, ∃ r : Nat, r < 2 ^ n ∧ p.1 = (r : Int) ∧ p.2 = FN masks n (pc n (r : Int)) (r : Int)
def CC : Nat → Nat
  | 0 => 0
  | k + 1 => (k + 1) * CC k + 1
theorem CC_mono (k : Nat) : CC k ≤ CC (k + 1) := by
  show CC k ≤ (k + 1) * CC k + 1
  have : CC k * 1 ≤ CC k * (k + 1) := Nat.mul_le_mul_left _ (by omega)
  rw [Nat.mul_comm (k + 1)]; omega
/-- a def that changes one dict -/
theorem truncOk_set {S : Sto} {m : Nat} {kvs : List (L2.Key × T)} : truncOk S (S.set m (.dic kvs)) = true := by
  induction S generalizing m with
  | nil => simp [truncOk]
  | cons c S ih =>
    cases m with
    | zero =>
      simp only [List.set_cons_zero, truncOk, Bool.and_eq_true]
      refine ⟨rfl, ?_⟩
      have := truncOk_app S []
      rwa [List.append_nil] at this
    | succ m =>
      simp only [List.set_cons_succ, truncOk, Bool.and_eq_true]
      exact ⟨okc_self c, ih⟩
theorem fn_set {n N : Nat} {g : Sx} {ws : List W} {S : Sto} {m : Nat} {k1 k2 : List (L2.Key × T)} {x : T} (hn : ws.length = n) (h : g (envOf N ws) (S.set m (.dic k1)) = .rt (.t x) (S.set m (.dic k2))) :
    fnF n N g ws (S.set m (.dic k1)) = .ok (.t x) (S.set m (.dic k2)) := by
  unfold fnF callF
  rw [if_pos hn, h]
  have e : S.set m (.dic k2) = (S.set m (.dic k1)).set m (.dic k2) := by rw [List.set_set]
  have t : truncOk (S.set m (.dic k1)) (S.set m (.dic k2)) = true := by rw [e]; exact truncOk_set
  have l : (S.set m (.dic k2)).take (S.set m (.dic k1)).length = S.set m (.dic k2) := by
    rw [List.length_set]
    exact List.take_of_length_le (by rw [List.length_set]; exact Nat.le_refl _)
  simp only [t, if_true, finW, of_some, l]
abbrev cfE (j : Nat) : Ex := eFn 3 (d_counts_from j) (aCons (eVar 0) (aCons (e2 gSub (eVar 1) (e2 gShl (eC (.int 1)) (eVar 3))) (aCons (eVar 2) (aNil))))
theorem cf_comp {masks : List Int} {n k j : Nat} {r : Nat} {S : Sto} {m : Nat}
    (ih : ∀ (r' : Nat), r' < 2 ^ n → pc n (r' : Int) = k → ∀ kvs, MemoOk masks n kvs → kvs.length + CC k ≤ cap → ∃ kvs', d_counts_from j [.t (.lst (masks.map T.int)), .t (.int r'), .r m] (S.set m (.dic (enc kvs))) = .ok (.t (.int (FN masks n k r'))) (S.set m (.dic (enc kvs'))) ∧ MemoOk masks n kvs' ∧ kvs'.length ≤ kvs.length + CC k)
    (hr : r < 2 ^ n) (hn : n ≤ 1000) (hp : pc n (r : Int) = k + 1) : ∀ (ds : List Int), (∀ d ∈ ds, d ∈ digs masks n (r : Int)) → ∀ kvs, MemoOk masks n kvs → kvs.length + ds.length * CC k ≤ cap →
    ∃ kvs', compL gTrue (.nm 3) tTrue (cfE j) (ds.map fun d => Item.one (.t (.int d))) [some (.t (.lst (masks.map T.int))), some (.t (.int r)), some (.r m), none] (S.set m (.dic (enc kvs))) =
      .ok ((ds.map fun d => FN masks n k ((r : Int) - 2 ^ d.toNat)).map T.int) (S.set m (.dic (enc kvs'))) ∧ MemoOk masks n kvs' ∧ kvs'.length ≤ kvs.length + ds.length * CC k
  | [], _, kvs, ok, room => ⟨kvs, by simp [compL], ok, by simp⟩
  | d :: ds, hm, kvs, ok, room => by
    obtain ⟨i, rfl, hi, hb, hs⟩ := digs_mem (hm d List.mem_cons_self)
    have hge := tb_ge hb
    have e1 : ((r : Int) - 2 ^ ((i : Int)).toNat) = ((r - 2 ^ i : Nat) : Int) := by
      rw [Int.toNat_natCast, Int.ofNat_sub hge]; simp
    have hk : pc n ((r - 2 ^ i : Nat) : Int) = k := by have := pc_sub hb hi; omega
    have hmul : (ds.length + 1) * CC k = ds.length * CC k + CC k := Nat.succ_mul _ _
    rw [List.length_cons, hmul] at room
    obtain ⟨k1, q1, ok1, l1⟩ := ih (r - 2 ^ i) (Nat.lt_of_le_of_lt (Nat.sub_le _ _) hr) hk kvs ok (by omega)
    obtain ⟨k2, q2, ok2, l2⟩ := cf_comp ih hr hn hp ds (fun x hx => hm x (List.mem_cons_of_mem _ hx)) k1 ok1 (by omega)
    refine ⟨k2, ?_, ok2, by rw [List.length_cons, hmul]; omega⟩
    have hc : cpow 1 (i : Int) = true := by simp [cpow]; omega
    rw [List.map_cons]
    unfold compL
    have e2' : ((1 : Int) * 2 ^ ((i : Int)).toNat) = 2 ^ ((i : Int)).toNat := Int.one_mul _
    simp only [gTrue_eq, if_true, bI_nm, List.set_cons_succ, List.set_cons_zero, ap_tTrue, bind_ok', ap_eFn, ap_aCons, ap_aNil, ap_var, ap_e2, ap_C, List.getElem?_cons_succ, List.getElem?_cons_zero, view_t, Option.bind_some, shl_int, hc, e2', Option.map_some, of_some, sub_int, e1, List.length_cons, List.length_nil, q1]
    rw [q2]
    simp only [bind_ok', List.map_cons, e1]
theorem counts_ok {masks : List Int} {n : Nat} (hl : masks.length ≤ 100000) (hn : n ≤ 1000) : ∀ (j k : Nat), k < j → ∀ (r : Nat), r < 2 ^ n → pc n (r : Int) = k → ∀ (S : Sto) (m : Nat), m < S.length → ∀ kvs, MemoOk masks n kvs → kvs.length + CC k ≤ cap →
    ∃ kvs', d_counts_from j [.t (.lst (masks.map T.int)), .t (.int r), .r m] (S.set m (.dic (enc kvs))) = .ok (.t (.int (FN masks n k r))) (S.set m (.dic (enc kvs'))) ∧ MemoOk masks n kvs' ∧ kvs'.length ≤ kvs.length + CC k
  | 0, k, h, _, _, _, _, _, _, _, _, _ => absurd h (Nat.not_lt_zero _)
  | j + 1, 0, _, r, hr, hp, S, m, hm, kvs, ok, room => by
    have h0 := pc_zero hr hp
    subst h0
    refine ⟨kvs, fn_set rfl ?_, ok, by omega⟩
    unfold b_counts_from
    simp [envOf, FN]
  | j + 1, k + 1, hk, r, hr, hp, S, m, hm, kvs, ok, room => by
    have hne : (r : Int) ≠ 0 := fun z => by
      have : r = 0 := by omega
      subst this
      rw [pc_zero'] at hp
      omega
    have at0 : ∀ kv : List (L2.Key × T), (S.set m (.dic kv))[m]? = some (.dic kv) := fun kv => by rw [List.getElem?_set_self hm]
    let ρ : Env := [some (.t (.lst (masks.map T.int))), some (.t (.int r)), some (.r m), none]
    have s1 : ∀ Z, sIf (tE (e2 gEq (eVar 1) (eC (.int 0)))) (sRet (eC (.int 1))) sNil ρ Z = .nx ρ Z := fun Z => by
      have hne' : ¬ r = 0 := fun z => hne (by rw [z]; rfl)
      simp [ρ, hne']
    -- the end: the memory read
    have fin : ∀ kvs', MemoOk masks n kvs' → (∃ v, lookI kvs' r = some v) → sRet (eIx (eVar 2) (eVar 1)) ρ (S.set m (.dic (enc kvs'))) = .rt (.t (.int (FN masks n (k + 1) r))) (S.set m (.dic (enc kvs'))) := fun kvs' ok' ⟨v, hv⟩ => by
      obtain ⟨r2, _, e1, e2⟩ := ok' _ (lookI_mem hv)
      have e1 : (r : Int) = r2 := e1
      have e2 : v = FN masks n (pc n (r2 : Int)) r2 := e2
      rw [← e1, hp] at e2
      have lk := lookK_enc kvs' r
      rw [hv, e2] at lk
      simp [ρ, at0, keyOf, lk]
    have hin : gNotIn (.int r) (.dct (enc kvs)) = some (.bl (!(lookI kvs r).isSome)) := by
      simp [gNotIn, memT, keyOf, lookK_enc]
    cases hlk : lookI kvs r with
    | some v =>
      refine ⟨kvs, fn_set rfl ?_, ok, by omega⟩
      unfold b_counts_from
      have s2 : sIf (tE (e2 gNotIn (eVar 1) (eVar 2))) (sAsg (eCall bSum (aCons (eComp [3] (srcS (eFn 2 (d_simple_digits) (aCons (eVar 0) (aCons (eVar 1) (aNil))))) (.nm 3) (tTrue) (cfE j)) (aNil))) (gSubD (eVar 2) (eVar 1))) sNil ρ (S.set m (.dic (enc kvs))) = .nx ρ (S.set m (.dic (enc kvs))) := by
        rw [hlk] at hin
        simp [ρ, at0, hin]
      show sCons _ (sCons _ _) ρ _ = _
      rw [sCons_nx (s1 _), sCons_nx s2]
      exact fin kvs ok ⟨v, hlk⟩
    | none =>
      have hcc : CC (k + 1) = (k + 1) * CC k + 1 := rfl
      have hdl : (digs masks n (r : Int)).length ≤ k + 1 := by rw [← hp]; exact digs_len _ _ _
      have hmul : (digs masks n (r : Int)).length * CC k ≤ (k + 1) * CC k := Nat.mul_le_mul_right _ hdl
      obtain ⟨kvs', q1, ok1, l1⟩ := cf_comp (masks := masks) (n := n) (k := k) (j := j) (r := r) (S := S) (m := m)
        (fun r' hr' hp' kvs0 ok0 room0 => counts_ok hl hn j k (by omega) r' hr' hp' S m hm kvs0 ok0 room0) hr hn hp (digs masks n (r : Int)) (fun d hd => hd) kvs ok (by omega)
      let tot : Int := ((digs masks n (r : Int)).map fun d => FN masks n k ((r : Int) - 2 ^ d.toNat)).sum
      have ok2 : MemoOk masks n (putI kvs' r tot) := fun p hpm => by
        rcases putI_mem hpm with h | h
        · exact ok1 p h
        · subst h
          exact ⟨r, hr, rfl, by rw [hp]; rfl⟩
      refine ⟨putI kvs' r tot, fn_set rfl ?_, ok2, by have := putI_len r tot kvs'; omega⟩
      unfold b_counts_from
      have hb : Builtin.Int.intBits (r : Int) ≤ 1000 := Nat.le_trans (bits_nat hr).1 hn
      have dg := fun Z => digits_ok (masks := masks) (rest := r) hl hb Z
      rw [digs_eq hr] at dg
      have hdc : (digs masks n (r : Int)).length ≤ cap := by
        have : k + 1 ≤ n := by
          rw [← hp]; unfold pc
          exact Nat.le_trans (List.length_filter_le _ _) (by rw [nats_len]; exact Nat.le_refl _)
        exact cap_big (by omega)
      have sm := sum_ints ((digs masks n (r : Int)).map fun d => FN masks n k ((r : Int) - 2 ^ d.toNat))
      have hlt : (enc kvs').length < cap := by rw [enc_len]; omega
      have hput : Cell.put (.dic (enc kvs')) (.int r) (.t (.int tot)) = some (.dic (enc (putI kvs' r tot))) := by
        simp only [Cell.put, if_pos hlt, keyOf, Option.map_some, putT_enc]
      have s2 : sIf (tE (e2 gNotIn (eVar 1) (eVar 2))) (sAsg (eCall bSum (aCons (eComp [3] (srcS (eFn 2 (d_simple_digits) (aCons (eVar 0) (aCons (eVar 1) (aNil))))) (.nm 3) (tTrue) (cfE j)) (aNil))) (gSubD (eVar 2) (eVar 1))) sNil ρ (S.set m (.dic (enc kvs))) = .nx ρ (S.set m (.dic (enc (putI kvs' r tot)))) := by
        rw [hlk] at hin
        have hmid : eComp [3] (srcS (eFn 2 (d_simple_digits) (aCons (eVar 0) (aCons (eVar 1) (aNil))))) (.nm 3) (tTrue) (cfE j) ρ (S.set m (.dic (enc kvs))) = .ok (.t (.lst (((digs masks n (r : Int)).map fun d => FN masks n k ((r : Int) - 2 ^ d.toNat)).map T.int))) (S.set m (.dic (enc kvs'))) := by
          simp only [ap_eComp, ap_srcS, ap_eFn, ap_aCons, ap_aNil, ap_var, bind_ok', ρ, List.getElem?_cons_succ, List.getElem?_cons_zero, List.length_cons, List.length_nil, if_true, dg, cont_lst, Option.map_some, of_some, List.map_map, List.length_map, if_pos hdc, wipe0, wipe1, List.set_cons_succ, List.set_cons_zero]
          rw [show (List.map (Item.one ∘ W.t ∘ T.int) (digs masks n (r : Int))) = (digs masks n (r : Int)).map fun d => Item.one (.t (.int d)) from rfl]
          rw [q1]
          rw [List.map_map]
          rfl
        have htest : tE (e2 gNotIn (eVar 1) (eVar 2)) ρ (S.set m (.dic (enc kvs))) = .ok true (S.set m (.dic (enc kvs))) := by
          simp [ρ, at0, hin]
        rw [ap_sIf, htest, thenS_ok, if_pos rfl, ap_sAsg, ap_eCall, ap_aCons, hmid]
        simp only [bind_ok', ap_aNil, views_cons, views_nil, view_t, Option.bind_some, Option.map_some, sm, of_some, thenS_ok, ap_gSub, ap_var, ρ, List.getElem?_cons_succ, List.getElem?_cons_zero, at0]
        rw [hput]
        simp only [thenS_ok, List.set_set]
      show sCons _ (sCons _ _) ρ _ = _
      rw [sCons_nx (s1 _), sCons_nx s2]
      exact fin _ ok2 ⟨_, putI_look _ _ _⟩
/-! ### count_nested_orders -/
theorem masks_ok {d : Int} {os : List (List Int)} (ho : ∀ o ∈ os, (∀ x ∈ o, 0 ≤ x ∧ x < 1000) ∧ o.length ≤ 100000) (hl : os.length ≤ 100000) (S : Sto) :
    d_masks_of [.t (.tup [.int d, .tup (os.map tI)])] S = .ok (.t (.lst ((os.map maskI).map T.int))) S := by
  refine fn_rt0 rfl ?_
  have c1 := compL_all (p := .nm 1) (f := eFn 1 (d_mask_of) (aCons (eVar 1) (aNil))) (ρ := [some (.t (.tup [.int d, .tup (os.map tI)])), none]) (S := S) (fun o : List Int => Item.one (.t (tI o))) (fun o => T.int (maskI o)) os fun o hx => by
    obtain ⟨h0, h1⟩ := ho o hx
    exact ⟨[some (.t (.tup [.int d, .tup (os.map tI)])), some (.t (tI o))], rfl, by simp [mask_ok h0 h1]⟩
  have hlc : os.length ≤ cap := cap_big hl
  have a1 : L2.atI [T.int d, .tup (os.map tI)] 1 = some (.tup (os.map tI)) := by simp [L2.atI, L2.ixN]
  unfold b_masks_of
  simp only [ap_sRet, ap_eComp, ap_srcS, ap_eIx, ap_C, ap_var, bind_ok', envOf, List.map_cons, List.map_nil, List.cons_append, List.nil_append, List.length_cons, List.length_nil, List.getElem?_cons_zero, view_t, Option.bind_some, ix_tup, a1, cont_tup, Option.map_some, of_some, List.map_map, List.length_map, if_pos hlc, wipe0, wipe1, List.replicate, List.set_cons_succ, List.set_cons_zero]
  rw [show (List.map (Item.one ∘ W.t ∘ tI) os) = os.map fun o => Item.one (.t (tI o)) from rfl, c1]
  simp only [bind_ok', thenS_ok]
  rfl
theorem count_ok {d : Nat} {os : List (List Int)} (hd : d ≤ 8) (ho : ∀ o ∈ os, (∀ x ∈ o, 0 ≤ x ∧ x < 1000) ∧ o.length ≤ 100000) (hl : os.length ≤ 100000) (S : Sto) :
    d_count_nested_orders [.t (.tup [.int d, .tup (os.map tI)])] S = .ok (.t (.int (FN (os.map maskI) d d ((2 ^ d - 1 : Nat) : Int)))) S := by
  have hr : 2 ^ d - 1 < 2 ^ d := by have := Nat.two_pow_pos d; omega
  have hcc : CC d ≤ cap := by
    have : ∀ i : Nat, i ≤ 8 → CC i ≤ 200000 := by decide
    exact Nat.le_trans (this d hd) (by decide)
  obtain ⟨kvs', q1, _, _⟩ := counts_ok (masks := os.map maskI) (n := d) (by rw [List.length_map]; exact hl) (by omega) RD d (Nat.lt_of_le_of_lt hd (by decide)) (2 ^ d - 1) hr (pc_full d) (S ++ [.dic []]) S.length (by simp) [] (fun p h => by cases h) (by simpa using hcc)
  have e0 : (S ++ [Cell.dic []]).set S.length (.dic (enc [])) = S ++ [.dic []] := by simp [enc]
  have e1 : (S ++ [Cell.dic []]).set S.length (.dic (enc kvs')) = S ++ [.dic (enc kvs')] := by simp
  rw [e0, e1] at q1
  have a0 : L2.atI [T.int d, .tup (os.map tI)] 0 = some (.int d) := by simp [L2.atI, L2.ixN]
  have hc : cpow 1 (d : Int) = true := by simp [cpow]; omega
  have e2' : ((1 : Int) * 2 ^ ((d : Int)).toNat - 1) = ((2 ^ d - 1 : Nat) : Int) := by
    rw [Int.toNat_natCast, Int.one_mul, Int.ofNat_sub (Nat.two_pow_pos d)]; simp
  have mk := masks_ok (d := d) (os := os) ho hl S
  refine fn_rt (l := [.dic (enc kvs')]) rfl ?_
  have inner : eFn 3 (d_counts_from RD) (aCons (eFn 1 (d_masks_of) (aCons (eVar 0) (aNil))) (aCons (e2 gSub (e2 gShl (eC (.int 1)) (eIx (eVar 0) (eC (.int 0)))) (eC (.int 1))) (aCons (eDictB) (aNil)))) (envOf 1 [.t (.tup [.int d, .tup (os.map tI)])]) S =
      .ok (.t (.int (FN (os.map maskI) d d ((2 ^ d - 1 : Nat) : Int)))) (S ++ [.dic (enc kvs')]) := by
    generalize d_counts_from RD = den at q1 ⊢
    have ei : eIx (eVar 0) (eC (.int 0)) (envOf 1 [.t (.tup [.int d, .tup (os.map tI)])]) S = .ok (.t (.int d)) S := by
      simp only [ap_eIx, ap_C, ap_var, bind_ok', envOf, List.map_cons, List.map_nil, List.cons_append, List.nil_append, List.getElem?_cons_zero, view_t, Option.bind_some, ix_tup, a0, Option.map_some, of_some]
    have es : e2 gSub (e2 gShl (eC (.int 1)) (eIx (eVar 0) (eC (.int 0)))) (eC (.int 1)) (envOf 1 [.t (.tup [.int d, .tup (os.map tI)])]) S = .ok (.t (.int ((2 ^ d - 1 : Nat) : Int))) S := by
      rw [ap_e2, ap_e2]
      simp only [ap_C, ei, bind_ok', view_t, Option.bind_some, shl_int, hc, if_true, Option.map_some, of_some, sub_int, e2']
    have em : eFn 1 (d_masks_of) (aCons (eVar 0) (aNil)) (envOf 1 [.t (.tup [.int d, .tup (os.map tI)])]) S = .ok (.t (.lst ((os.map maskI).map T.int))) S := by
      simp only [ap_eFn, ap_aCons, ap_aNil, ap_var, bind_ok', envOf, List.map_cons, List.map_nil, List.cons_append, List.nil_append, List.getElem?_cons_zero, List.length_cons, List.length_nil, if_true, mk]
    have ed : eDictB (envOf 1 [.t (.tup [.int d, .tup (os.map tI)])]) S = .ok (.r S.length) (S ++ [.dic []]) := rfl
    rw [ap_eFn, ap_aCons, em, bind_ok', ap_aCons, es, bind_ok', ap_aCons, ed, bind_ok', ap_aNil]
    simp only [bind_ok', List.length_cons, List.length_nil, if_true, q1]
  unfold b_count_nested_orders
  rw [ap_sRet, inner]
  rfl
end Dl

/-! Kf: the law's own count, layer by layer. -/
namespace Dl
open PySem

/-! ### dicts with weights -/
structure KeyOk (n : Nat) (m : List (Int × Int)) : Prop where
  nd : (m.map (·.1)).Nodup
  rg : ∀ p ∈ m, ∃ r : Nat, p.1 = (r : Int) ∧ r < 2 ^ n
theorem asc_few : ∀ {xs : List Int} {a N : Int}, xs.Pairwise (· < ·) → (∀ x ∈ xs, a ≤ x ∧ x < N) → a ≤ N → a + xs.length ≤ N
  | [], a, N, _, _, h => by simpa using h
  | x :: xs, a, N, h1, h2, h3 => by
    obtain ⟨h4, h5⟩ := List.pairwise_cons.mp h1
    have hx := h2 x List.mem_cons_self
    have := asc_few (a := x + 1) (N := N) h5 (fun y hy => ⟨by have := h4 y hy; omega, (h2 y (List.mem_cons_of_mem _ hy)).2⟩) (by omega)
    rw [List.length_cons]
    have hc : (((xs.length + 1 : Nat)) : Int) = xs.length + 1 := by simp
    rw [hc]; omega
theorem KeyOk.few {n : Nat} {m : List (Int × Int)} (h : KeyOk n m) : m.length ≤ 2 ^ n := by
  have h1 := asc_few (a := 0) (N := ((2 ^ n : Nat) : Int)) (isort_strict h.nd) (fun x hx => by
    have := (isort_perm _).mem_iff.mp hx
    obtain ⟨p, hp, rfl⟩ := List.mem_map.mp this
    obtain ⟨r, e, hr⟩ := h.rg p hp
    rw [e]; exact ⟨Int.natCast_nonneg _, Int.ofNat_lt.mpr hr⟩) (Int.natCast_nonneg _)
  rw [(isort_perm _).length_eq, List.length_map] at h1
  omega
def Wt (f : Int → Int) (l : List (Int × Int)) : Int := (l.map fun p => p.2 * f p.1).sum
theorem putI_keys (k v : Int) : ∀ {m : List (Int × Int)}, (m.map (·.1)).Nodup → ((putI m k v).map (·.1)).Nodup ∧ (∀ x, x ∈ (putI m k v).map (·.1) ↔ x ∈ m.map (·.1) ∨ x = k)
  | [], _ => by simp [putI]
  | (k', y) :: r, h => by
    rw [List.map_cons] at h
    obtain ⟨h1, h2⟩ := List.nodup_cons.mp h
    unfold putI
    by_cases e : k' = k
    · subst e
      have hm : (r.map fun kv => if kv.1 = k' then (kv.1, v) else kv) = r := by
        have : ∀ p ∈ r, (if p.1 = k' then (p.1, v) else p) = p := fun p hp => by
          have : p.1 ≠ k' := fun z => h1 (z ▸ List.mem_map.mpr ⟨p, hp, rfl⟩)
          rw [if_neg this]
        exact (List.map_congr_left this).trans (List.map_id' r)
      rw [if_pos rfl, hm]
      exact ⟨h, fun x => by simp only [List.map_cons, List.mem_cons]; exact ⟨fun z => .inl z, fun z => z.elim id fun z => .inl z⟩⟩
    · rw [if_neg e]
      obtain ⟨i1, i2⟩ := putI_keys k v h2
      refine ⟨?_, fun x => ?_⟩
      · rw [List.map_cons]
        exact List.nodup_cons.mpr ⟨fun z => ((i2 k').mp z).elim h1 e, i1⟩
      · rw [List.map_cons, List.mem_cons, i2, List.map_cons, List.mem_cons]
        exact ⟨fun z => z.elim (fun z => .inl (.inl z)) fun z => z.elim (fun z => .inl (.inr z)) .inr, fun z => z.elim (fun z => z.elim .inl fun z => .inr (.inl z)) fun z => .inr (.inr z)⟩
theorem putI_wt (f : Int → Int) (k v : Int) : ∀ {m : List (Int × Int)}, (m.map (·.1)).Nodup → Wt f (putI m k v) = Wt f m - (lookI m k).getD 0 * f k + v * f k
  | [], _ => by simp [putI, Wt, lookI]
  | (k', y) :: r, h => by
    rw [List.map_cons] at h
    obtain ⟨h1, h2⟩ := List.nodup_cons.mp h
    unfold putI lookI
    by_cases e : k' = k
    · subst e
      have hm : (r.map fun kv => if kv.1 = k' then (kv.1, v) else kv) = r := by
        have : ∀ p ∈ r, (if p.1 = k' then (p.1, v) else p) = p := fun p hp => by
          have : p.1 ≠ k' := fun z => h1 (z ▸ List.mem_map.mpr ⟨p, hp, rfl⟩)
          rw [if_neg this]
        exact (List.map_congr_left this).trans (List.map_id' r)
      rw [if_pos rfl, hm, if_pos rfl]
      simp only [Wt, List.map_cons, List.sum_cons, Option.getD_some]
      omega
    · rw [if_neg e, if_neg e]
      have ih := putI_wt f k v h2
      simp only [Wt, List.map_cons, List.sum_cons] at ih ⊢
      rw [ih]; omega
def addI (m : List (Int × Int)) (k c : Int) : List (Int × Int) := putI m k ((lookI m k).getD 0 + c)
theorem addI_wt (f : Int → Int) (k c : Int) {m : List (Int × Int)} (h : (m.map (·.1)).Nodup) : Wt f (addI m k c) = Wt f m + c * f k := by
  unfold addI
  rw [putI_wt f k _ h, Int.add_mul]; omega
theorem addI_ok {n : Nat} {m : List (Int × Int)} (h : KeyOk n m) {r : Nat} (hr : r < 2 ^ n) (c : Int) : KeyOk n (addI m (r : Int) c) := by
  refine ⟨(putI_keys _ _ h.nd).1, fun p hp => ?_⟩
  rcases putI_mem hp with hp | rfl
  · exact h.rg p hp
  · exact ⟨r, rfl, hr⟩
theorem lookI_nd : ∀ {m : List (Int × Int)} {p : Int × Int}, (m.map (·.1)).Nodup → p ∈ m → lookI m p.1 = some p.2
  | [], p, _, h => by cases h
  | (k', y) :: r, p, nd, h => by
    rw [List.map_cons] at nd
    obtain ⟨h1, h2⟩ := List.nodup_cons.mp nd
    unfold lookI
    rcases List.mem_cons.mp h with rfl | h
    · rw [if_pos rfl]
    · have : k' ≠ p.1 := fun z => h1 (z ▸ List.mem_map.mpr ⟨p, h, rfl⟩)
      rw [if_neg this]
      exact lookI_nd h2 h
/-! ### a turn -/
theorem bit0 (r : Nat) (d : Nat) : decide (Builtin.bitAnd ((r : Int) / 2 ^ ((d : Int)).toNat) 1 = 0) = !r.testBit d := by
  have e : ((r : Int) / 2 ^ (d : Int).toNat) = ((r / 2 ^ d : Nat) : Int) := by rw [Int.toNat_natCast]; simp
  rw [e, and_one, Nat.testBit_eq_decide_div_mod_eq]
  have h2 : r / 2 ^ d % 2 < 2 := Nat.mod_lt _ (by decide)
  generalize r / 2 ^ d % 2 = z at h2
  by_cases h : z = 1
  · subst h; rfl
  · have : z = 0 := by omega
    subst this; rfl
theorem comp_bit {n g d : Nat} (hg : g < 2 ^ n) (hd : d < n) : (2 ^ n - 1 - g).testBit d = !g.testBit d := by
  have : 2 ^ n - 1 - g = 2 ^ n - (g + 1) := by omega
  rw [this, Nat.testBit_two_pow_sub_succ hg]
  simp [hd]
def innI (masks : List Int) (n g : Nat) (c : Int) : List Nat → List (Int × Int) → List (Int × Int)
  | [], fur => fur
  | d :: ds, fur => innI masks n g c ds (if !g.testBit d && smp masks ((2 ^ n - 1 - g : Nat) : Int) d then addI fur ((g + 2 ^ d : Nat) : Int) c else fur)
theorem new_key {n g d : Nat} (hg : g < 2 ^ n) (hd : d < n) (hb : g.testBit d = false) : g + 2 ^ d < 2 ^ n := by
  have h1 : (2 ^ n - 1 - g).testBit d = true := by rw [comp_bit hg hd, hb]; rfl
  have := tb_ge h1
  omega
theorem innI_ok {masks : List Int} {n g : Nat} {c : Int} (hg : g < 2 ^ n) : ∀ {ds : List Nat} {fur : List (Int × Int)}, (∀ d ∈ ds, d < n) → KeyOk n fur → KeyOk n (innI masks n g c ds fur)
  | [], fur, _, h => h
  | d :: ds, fur, hd, h => by
    unfold innI
    refine innI_ok hg (fun x hx => hd x (List.mem_cons_of_mem _ hx)) ?_
    split
    · rename_i hc
      rw [Bool.and_eq_true] at hc
      exact addI_ok h (new_key hg (hd d List.mem_cons_self) (by simpa using hc.1)) c
    · exact h
theorem innI_wt {masks : List Int} {n g : Nat} {c : Int} (f : Int → Int) (hg : g < 2 ^ n) : ∀ {ds : List Nat} {fur : List (Int × Int)}, (∀ d ∈ ds, d < n) → KeyOk n fur →
    Wt f (innI masks n g c ds fur) = Wt f fur + c * ((ds.filter fun d => !g.testBit d && smp masks ((2 ^ n - 1 - g : Nat) : Int) d).map fun d => f ((g + 2 ^ d : Nat) : Int)).sum
  | [], fur, _, h => by simp [innI]
  | d :: ds, fur, hd, h => by
    have hd' : ∀ x ∈ ds, x < n := fun x hx => hd x (List.mem_cons_of_mem _ hx)
    unfold innI
    cases hc : !g.testBit d && smp masks ((2 ^ n - 1 - g : Nat) : Int) d with
    | true =>
      rw [if_pos rfl]
      have hc' := hc
      rw [Bool.and_eq_true] at hc'
      rw [innI_wt f hg hd' (addI_ok h (new_key hg (hd d List.mem_cons_self) (by simpa using hc'.1)) c), addI_wt f _ c h.nd, List.filter_cons_of_pos (by exact hc), List.map_cons, List.sum_cons, Int.mul_add]
      omega
    | false =>
      rw [if_neg (by simp), innI_wt f hg hd' h, List.filter_cons_of_neg (by rw [hc]; simp)]
theorem digs_comp {masks : List Int} {n g : Nat} (hg : g < 2 ^ n) : digs masks n ((2 ^ n - 1 - g : Nat) : Int) = ((List.range n).filter fun d => !g.testBit d && smp masks ((2 ^ n - 1 - g : Nat) : Int) d).map Int.ofNat := by
  unfold digs nats
  rw [List.filter_map]
  congr 1
  refine List.filter_congr fun d hd => ?_
  have : d < n := List.mem_range.mp hd
  show (bitI ((2 ^ n - 1 - g : Nat) : Int) ((d : Nat) : Int) && _) = _
  rw [bitI_nat, comp_bit hg this]
  rfl
theorem inn_FN {masks : List Int} {n g : Nat} {c : Int} (k : Nat) (hg : g < 2 ^ n) {fur : List (Int × Int)} (h : KeyOk n fur) :
    Wt (fun x => FN masks n k (((2 ^ n - 1 : Nat) : Int) - x)) (innI masks n g c (List.range n) fur) = Wt (fun x => FN masks n k (((2 ^ n - 1 : Nat) : Int) - x)) fur + c * FN masks n (k + 1) (((2 ^ n - 1 : Nat) : Int) - g) := by
  rw [innI_wt _ hg (fun d hd => List.mem_range.mp hd) h]
  congr 2
  have e : (((2 ^ n - 1 : Nat) : Int) - (g : Int)) = ((2 ^ n - 1 - g : Nat) : Int) := by omega
  rw [e]
  show _ = ((digs masks n ((2 ^ n - 1 - g : Nat) : Int)).map fun d => FN masks n k (((2 ^ n - 1 - g : Nat) : Int) - 2 ^ d.toNat)).sum
  rw [digs_comp hg, List.map_map]
  congr 1
  refine List.map_congr_left fun d hd => ?_
  have hm := (List.mem_filter.mp hd).2
  have hdn := List.mem_range.mp (List.mem_filter.mp hd).1
  rw [Bool.and_eq_true] at hm
  have hk := new_key hg hdn (by simpa using hm.1)
  show FN masks n k _ = FN masks n k (((2 ^ n - 1 - g : Nat) : Int) - 2 ^ ((d : Int)).toNat)
  congr 1
  rw [Int.toNat_natCast]
  have : ((2 ^ d : Nat) : Int) = (2 : Int) ^ d := by simp
  rw [← this]
  omega
/-- one turn, in plain words -/
def stepI (masks : List Int) (n : Nat) : List (Int × Int) → List (Int × Int) → List (Int × Int)
  | [], fur => fur
  | p :: r, fur => stepI masks n r (innI masks n p.1.toNat p.2 (List.range n) fur)
theorem stepI_ok {masks : List Int} {n : Nat} : ∀ {lay fur : List (Int × Int)}, (∀ p ∈ lay, ∃ r : Nat, p.1 = (r : Int) ∧ r < 2 ^ n) → KeyOk n fur → KeyOk n (stepI masks n lay fur)
  | [], fur, _, h => h
  | p :: r, fur, hl, h => by
    obtain ⟨g, e, hg⟩ := hl p List.mem_cons_self
    unfold stepI
    rw [e, Int.toNat_natCast]
    exact stepI_ok (fun q hq => hl q (List.mem_cons_of_mem _ hq)) (innI_ok hg (fun d hd => List.mem_range.mp hd) h)
theorem stepI_wt {masks : List Int} {n : Nat} (k : Nat) : ∀ {lay fur : List (Int × Int)}, (∀ p ∈ lay, ∃ r : Nat, p.1 = (r : Int) ∧ r < 2 ^ n) → KeyOk n fur →
    Wt (fun x => FN masks n k (((2 ^ n - 1 : Nat) : Int) - x)) (stepI masks n lay fur) = Wt (fun x => FN masks n k (((2 ^ n - 1 : Nat) : Int) - x)) fur + Wt (fun x => FN masks n (k + 1) (((2 ^ n - 1 : Nat) : Int) - x)) lay
  | [], fur, _, h => by simp [stepI, Wt]
  | p :: r, fur, hl, h => by
    obtain ⟨g, e, hg⟩ := hl p List.mem_cons_self
    have hl' : ∀ q ∈ r, ∃ r : Nat, q.1 = (r : Int) ∧ r < 2 ^ n := fun q hq => hl q (List.mem_cons_of_mem _ hq)
    unfold stepI
    rw [e, Int.toNat_natCast, stepI_wt k hl' (innI_ok hg (fun d hd => List.mem_range.mp hd) h), inn_FN k hg h]
    simp only [Wt, List.map_cons, List.sum_cons, e]
    omega
end Dl

/-! Kg: the run of the law's own count. -/
namespace Dl
open PySem

theorem ap_get (fo fa fb : Ex) (ρ : Env) (S : Sto) : eGet fo fa fb ρ S = (fo ρ S).bind fun wd S1 => if isDct (view S1 wd) then (fa ρ S1).bind fun w1 S2 => (fb ρ S2).bind fun w2 S3 => R.of (getW S3 wd w1 w2) S3 else .no := rfl
@[simp] theorem cv_frz (xs : List (L2.Key × T)) : Cell.view (.frz xs) = some (.dct xs) := rfl
abbrev wyIn : Sx := sIf (tAndD (tE (e2 gEq (e2 gAnd (e2 gShr (eVar 6) (eVar 7)) (eC (.int 1))) (eC (.int 0)))) (tE (eFn 3 (d__law_is_free) (aCons (eVar 1) (aCons (e2 gSub (eVar 2) (eVar 6)) (aCons (eVar 7) (aNil))))))) (sCons (sSet 8 (e2 gAdd (eVar 6) (e2 gShl (eC (.int 1)) (eVar 7))))
  (sAsg (e2 gAdd (eGet (eVar 5) (eVar 8) (eC (.int 0))) (eIx (eVar 3) (eVar 6))) (gSubD (eVar 5) (eVar 8)))) (sNil)
def wr (tab : W) (masks : List Int) (n a : Nat) (x4 : Option W) (b : Nat) (x6 x7 x8 : Option W) : Env := [some tab, some (.t (.lst (masks.map T.int))), some (.t (.int ((2 ^ n - 1 : Nat) : Int))), some (.r a), x4, some (.r b), x6, x7, x8, none]
section
variable {tab : W} {masks : List Int} {n a b : Nat} {x4 : Option W} {Y : Sto} {lay : List (Int × Int)}
theorem wy_in (hl : masks.length ≤ 100000) (hn : n ≤ 20) (hab : a ≠ b) (hb : b < Y.length) (ha : Y[a]? = some (.frz (enc lay))) {g : Nat} {c : Int} (hg : g < 2 ^ n) (hc : lookI lay (g : Int) = some c) :
    ∀ (ds : List Nat) (fur : List (Int × Int)) (x7 x8 : Option W), (∀ d ∈ ds, d < n) → KeyOk n fur →
    ∃ y7 y8, forL gTrue (.nm 7) wyIn (ds.map fun (d : Nat) => Item.one (.t (.int (d : Int)))) (wr tab masks n a x4 b (some (.t (.int g))) x7 x8) (Y.set b (.dic (enc fur))) = .nx (wr tab masks n a x4 b (some (.t (.int g))) y7 y8) (Y.set b (.dic (enc (innI masks n g c ds fur))))
  | [], fur, x7, x8, _, _ => ⟨x7, x8, by simp [forL, innI]⟩
  | d :: ds, fur, x7, x8, hd, hf => by
    have hdn := hd d List.mem_cons_self
    have hd' : ∀ x ∈ ds, x < n := fun x hx => hd x (List.mem_cons_of_mem _ hx)
    have eg : (((2 ^ n - 1 : Nat) : Int) - (g : Int)) = ((2 ^ n - 1 - g : Nat) : Int) := by omega
    have b0 := bit0 g d
    have sh : ∀ Z, e2 gAnd (e2 gShr (eVar 6) (eVar 7)) (eC (.int 1)) (wr tab masks n a x4 b (some (.t (.int g))) (some (.t (.int d))) x8) Z = .ok (.t (.int (Builtin.bitAnd ((g : Int) / 2 ^ ((d : Int)).toNat) 1))) Z := fun Z => by
      have : (0 : Int) ≤ (d : Int) := Int.natCast_nonneg d
      simp only [wr, ap_e2, ap_var, ap_C, List.getElem?_cons_succ, List.getElem?_cons_zero, bind_ok', view_t, Option.bind_some, shr_int, if_pos this, Option.map_some, of_some, and_int]
    have fr := fun Z => free_ok (masks := masks) (rest := ((2 ^ n - 1 - g : Nat) : Int)) (d := (d : Int)) (Int.natCast_nonneg d) hl Z
    have tst : ∀ Z, tAndD (tE (e2 gEq (e2 gAnd (e2 gShr (eVar 6) (eVar 7)) (eC (.int 1))) (eC (.int 0)))) (tE (eFn 3 (d__law_is_free) (aCons (eVar 1) (aCons (e2 gSub (eVar 2) (eVar 6)) (aCons (eVar 7) (aNil)))))) (wr tab masks n a x4 b (some (.t (.int g))) (some (.t (.int d))) x8) Z =
        .ok (!g.testBit d && smp masks ((2 ^ n - 1 - g : Nat) : Int) d) Z := fun Z => by
      rw [ap_tAnd, ap_tE, ap_e2, sh]
      simp only [ap_C, bind_ok', view_t, Option.bind_some, eq_int, Option.map_some, of_some, asB_bl, b0]
      cases hbt : g.testBit d with
      | true => rfl
      | false =>
        simp only [Bool.not_false, if_true, Bool.true_and]
        simp only [wr, ap_tE, ap_eFn, ap_aCons, ap_aNil, ap_e2, ap_var, List.getElem?_cons_succ, List.getElem?_cons_zero, bind_ok', view_t, Option.bind_some, sub_int, eg, Option.map_some, of_some, List.length_cons, List.length_nil, if_true, fr, asB_bl]
    unfold innI
    cases hcd : !g.testBit d && smp masks ((2 ^ n - 1 - g : Nat) : Int) d with
    | false =>
      obtain ⟨y7, y8, q⟩ := wy_in hl hn hab hb ha hg hc ds fur (some (.t (.int d))) x8 hd' hf
      refine ⟨y7, y8, ?_⟩
      rw [List.map_cons]
      unfold forL
      simp only [gTrue_eq, if_true, bI_nm]
      rw [show (wr tab masks n a x4 b (some (.t (.int g))) x7 x8).set 7 (some (.t (.int d))) = wr tab masks n a x4 b (some (.t (.int g))) (some (.t (.int d))) x8 from rfl]
      have body : wyIn (wr tab masks n a x4 b (some (.t (.int g))) (some (.t (.int d))) x8) (Y.set b (.dic (enc fur))) = .nx (wr tab masks n a x4 b (some (.t (.int g))) (some (.t (.int d))) x8) (Y.set b (.dic (enc fur))) := by
        show sIf _ _ _ _ _ = _
        rw [ap_sIf, tst, hcd]
        rfl
      rw [body, loopS_nx]
      exact q
    | true =>
      have hcd' := hcd
      rw [Bool.and_eq_true] at hcd'
      have hk := new_key hg hdn (by simpa using hcd'.1)
      let fur' := addI fur ((g + 2 ^ d : Nat) : Int) c
      have hf' : KeyOk n fur' := addI_ok hf hk c
      obtain ⟨y7, y8, q⟩ := wy_in hl hn hab hb ha hg hc ds fur' (some (.t (.int d))) (some (.t (.int ((g + 2 ^ d : Nat) : Int)))) hd' hf'
      refine ⟨y7, y8, ?_⟩
      have ek : ((g : Int) + 1 * 2 ^ ((d : Int)).toNat) = ((g + 2 ^ d : Nat) : Int) := by rw [Int.toNat_natCast]; simp
      have hcp : cpow 1 (d : Int) = true := by simp [cpow]; omega
      have atb : (Y.set b (.dic (enc fur)))[b]? = some (.dic (enc fur)) := by rw [List.getElem?_set_self hb]
      have ata : (Y.set b (.dic (enc fur)))[a]? = some (.frz (enc lay)) := by rw [List.getElem?_set_ne (Ne.symm hab)]; exact ha
      have lka := lookK_enc lay (g : Int)
      rw [hc] at lka
      have lkb := lookK_enc fur ((g + 2 ^ d : Nat) : Int)
      have few : (enc fur).length < cap := by
        rw [enc_len]
        have h1 := hf.few
        have h2 : 2 ^ n ≤ 2 ^ 20 := Nat.pow_le_pow_right (by decide) hn
        have h3 : 2 ^ 20 < cap := by decide
        omega
      have s8 : sSet 8 (e2 gAdd (eVar 6) (e2 gShl (eC (.int 1)) (eVar 7))) (wr tab masks n a x4 b (some (.t (.int g))) (some (.t (.int d))) x8) (Y.set b (.dic (enc fur))) =
          .nx (wr tab masks n a x4 b (some (.t (.int g))) (some (.t (.int d))) (some (.t (.int ((g + 2 ^ d : Nat) : Int))))) (Y.set b (.dic (enc fur))) := by
        simp only [wr, ap_sSet, ap_e2, ap_var, ap_C, List.getElem?_cons_succ, List.getElem?_cons_zero, bind_ok', view_t, Option.bind_some, shl_int, hcp, if_true, Option.map_some, of_some, add_int, ek, thenS_ok, List.set_cons_succ, List.set_cons_zero]
      have gt : eGet (eVar 5) (eVar 8) (eC (.int 0)) (wr tab masks n a x4 b (some (.t (.int g))) (some (.t (.int d))) (some (.t (.int ((g + 2 ^ d : Nat) : Int))))) (Y.set b (.dic (enc fur))) = .ok (.t (.int ((lookI fur ((g + 2 ^ d : Nat) : Int)).getD 0))) (Y.set b (.dic (enc fur))) := by
        have vb : view (Y.set b (.dic (enc fur))) (.r b) = some (.dct (enc fur)) := by rw [view_r, atb]; rfl
        simp only [wr, ap_get, ap_var, ap_C, List.getElem?_cons_succ, List.getElem?_cons_zero, bind_ok', vb, isDct, if_true, getW, keyW, view_t, Option.bind_some, keyOf, Option.map_some, lkb]
        cases hlk : lookI fur ((g + 2 ^ d : Nat) : Int) with
        | none => rfl
        | some v => rfl
      have ix : eIx (eVar 3) (eVar 6) (wr tab masks n a x4 b (some (.t (.int g))) (some (.t (.int d))) (some (.t (.int ((g + 2 ^ d : Nat) : Int))))) (Y.set b (.dic (enc fur))) = .ok (.t (.int c)) (Y.set b (.dic (enc fur))) := by
        simp only [wr, ap_eIx, ap_var, List.getElem?_cons_succ, List.getElem?_cons_zero, bind_ok', view_t, Option.bind_some, ix_r, ata, keyOf, lka, Option.map_some, of_some]
      have hput : Cell.put (.dic (enc fur)) (.int ((g + 2 ^ d : Nat) : Int)) (.t (.int ((lookI fur ((g + 2 ^ d : Nat) : Int)).getD 0 + c))) = some (.dic (enc fur')) := by
        simp only [Cell.put, if_pos few, keyOf, Option.map_some, putT_enc]
        rfl
      have as : sAsg (e2 gAdd (eGet (eVar 5) (eVar 8) (eC (.int 0))) (eIx (eVar 3) (eVar 6))) (gSubD (eVar 5) (eVar 8)) (wr tab masks n a x4 b (some (.t (.int g))) (some (.t (.int d))) (some (.t (.int ((g + 2 ^ d : Nat) : Int))))) (Y.set b (.dic (enc fur))) =
          .nx (wr tab masks n a x4 b (some (.t (.int g))) (some (.t (.int d))) (some (.t (.int ((g + 2 ^ d : Nat) : Int))))) (Y.set b (.dic (enc fur'))) := by
        rw [ap_sAsg, ap_e2, gt, bind_ok', ix, bind_ok']
        simp only [view_t, Option.bind_some, add_int, Option.map_some, of_some, thenS_ok, ap_gSub]
        simp only [wr, ap_var, List.getElem?_cons_succ, List.getElem?_cons_zero, bind_ok', view_t, Option.bind_some, atb, hput, thenS_ok, List.set_set]
      rw [List.map_cons]
      unfold forL
      simp only [gTrue_eq, if_true, bI_nm]
      rw [show (wr tab masks n a x4 b (some (.t (.int g))) x7 x8).set 7 (some (.t (.int d))) = wr tab masks n a x4 b (some (.t (.int g))) (some (.t (.int d))) x8 from rfl]
      have body : wyIn (wr tab masks n a x4 b (some (.t (.int g))) (some (.t (.int d))) x8) (Y.set b (.dic (enc fur))) = .nx (wr tab masks n a x4 b (some (.t (.int g))) (some (.t (.int d))) (some (.t (.int ((g + 2 ^ d : Nat) : Int))))) (Y.set b (.dic (enc fur'))) := by
        show sIf _ _ _ _ _ = _
        rw [ap_sIf, tst, hcd, thenS_ok, if_pos rfl, sCons_nx s8, as]
      rw [body, loopS_nx]
      exact q
abbrev wyRow : Sx := sFor (srcR1 (aCons (eIx (eVar 0) (eC (.int 0))) (aNil))) (.nm 7) wyIn
theorem nats_items (n : Nat) : (nats n).map (fun k => Item.one (.t (.int k))) = (List.range n).map fun (d : Nat) => Item.one (.t (.int (d : Int))) := by
  simp [nats]
theorem tab_ix {os : List (List Int)} (ρ : Env) (S : Sto) : eIx (eVar 0) (eC (.int 0)) (some (.t (.tup [.int (n : Int), .tup (os.map tI)])) :: ρ) S = .ok (.t (.int (n : Int))) S := by
  have a0 : L2.atI [T.int n, .tup (os.map tI)] 0 = some (.int n) := by simp [L2.atI, L2.ixN]
  simp only [ap_eIx, ap_C, ap_var, bind_ok', List.getElem?_cons_zero, view_t, Option.bind_some, ix_tup, a0, Option.map_some, of_some]
theorem wy_row {os : List (List Int)} (hl : masks.length ≤ 100000) (hn : n ≤ 20) (hab : a ≠ b) (hb : b < Y.length) (ha : Y[a]? = some (.frz (enc lay))) {g : Nat} {c : Int} (hg : g < 2 ^ n) (hc : lookI lay (g : Int) = some c) (fur : List (Int × Int)) (x7 x8 : Option W) (hf : KeyOk n fur) :
    ∃ y7 y8, wyRow (wr (.t (.tup [.int (n : Int), .tup (os.map tI)])) masks n a x4 b (some (.t (.int g))) x7 x8) (Y.set b (.dic (enc fur))) = .nx (wr (.t (.tup [.int (n : Int), .tup (os.map tI)])) masks n a x4 b (some (.t (.int g))) y7 y8) (Y.set b (.dic (enc (innI masks n g c (List.range n) fur)))) := by
  obtain ⟨y7, y8, q⟩ := wy_in (tab := .t (.tup [.int (n : Int), .tup (os.map tI)])) (x4 := x4) hl hn hab hb ha hg hc (List.range n) fur x7 x8 (fun d hd => List.mem_range.mp hd) hf
  refine ⟨y7, y8, ?_⟩
  have hr : rlim (n : Int) = true := by simp [rlim]; omega
  show sFor _ _ _ _ _ = _
  rw [ap_sFor, ap_srcR1, ap_aCons, show (wr (.t (.tup [.int (n : Int), .tup (os.map tI)])) masks n a x4 b (some (.t (.int g))) x7 x8) = some (.t (.tup [.int (n : Int), .tup (os.map tI)])) :: [some (.t (.lst (masks.map T.int))), some (.t (.int ((2 ^ n - 1 : Nat) : Int))), some (.r a), x4, some (.r b), some (.t (.int g)), x7, x8, none] from rfl, tab_ix]
  simp only [bind_ok', ap_aNil, rng1, hr, if_true, rngI_nats, nats_items, of_some, thenS_ok, Int.toNat_natCast]
  exact q
theorem wy_keys {os : List (List Int)} (hl : masks.length ≤ 100000) (hn : n ≤ 20) (hab : a ≠ b) (hb : b < Y.length) (ha : Y[a]? = some (.frz (enc lay))) (hk : KeyOk n lay) :
    ∀ (l : List (Int × Int)) (fur : List (Int × Int)) (x6 x7 x8 : Option W), (∀ p ∈ l, p ∈ lay) → KeyOk n fur →
    ∃ y6 y7 y8, forL (gFrz a) (.nm 6) wyRow (l.map fun p => Item.one (.t (.int p.1))) (wr (.t (.tup [.int (n : Int), .tup (os.map tI)])) masks n a x4 b x6 x7 x8) (Y.set b (.dic (enc fur))) =
      .nx (wr (.t (.tup [.int (n : Int), .tup (os.map tI)])) masks n a x4 b y6 y7 y8) (Y.set b (.dic (enc (stepI masks n l fur))))
  | [], fur, x6, x7, x8, _, _ => by
    have ata : (Y.set b (.dic (enc fur)))[a]? = some (.frz (enc lay)) := by rw [List.getElem?_set_ne (Ne.symm hab)]; exact ha
    exact ⟨x6, x7, x8, by simp [forL, stepI, gFrz, ata]⟩
  | p :: l, fur, x6, x7, x8, hs, hf => by
    have ata : (Y.set b (.dic (enc fur)))[a]? = some (.frz (enc lay)) := by rw [List.getElem?_set_ne (Ne.symm hab)]; exact ha
    have gf : gFrz a (Y.set b (.dic (enc fur))) = true := by unfold gFrz; rw [ata]
    have hp := hs p List.mem_cons_self
    obtain ⟨g, e, hg⟩ := hk.rg p hp
    have hc := lookI_nd hk.nd hp
    rw [e] at hc
    obtain ⟨y7, y8, q1⟩ := wy_row (os := os) (x4 := x4) hl hn hab hb ha hg hc fur x7 x8 hf
    obtain ⟨z6, z7, z8, q2⟩ := wy_keys (os := os) hl hn hab hb ha hk l (innI masks n g p.2 (List.range n) fur) (some (.t (.int g))) y7 y8 (fun x hx => hs x (List.mem_cons_of_mem _ hx)) (innI_ok hg (fun d hd => List.mem_range.mp hd) hf)
    refine ⟨z6, z7, z8, ?_⟩
    have es : stepI masks n (p :: l) fur = stepI masks n l (innI masks n g p.2 (List.range n) fur) := by
      show stepI masks n l (innI masks n p.1.toNat p.2 (List.range n) fur) = _
      rw [e, Int.toNat_natCast]
    rw [es, List.map_cons, e]
    unfold forL
    rw [gf, if_pos rfl]
    simp only [bI_nm]
    rw [show (wr (.t (.tup [.int (n : Int), .tup (os.map tI)])) masks n a x4 b x6 x7 x8).set 6 (some (.t (.int (g : Int)))) = wr (.t (.tup [.int (n : Int), .tup (os.map tI)])) masks n a x4 b (some (.t (.int (g : Int)))) x7 x8 from rfl, q1, loopS_nx]
    exact q2
theorem enc_items (lay : List (Int × Int)) : ((enc lay).map fun kv => Item.one (.t (keyT kv.1))) = lay.map fun p => Item.one (.t (.int p.1)) := by
  unfold enc
  rw [List.map_map]
  rfl
theorem set_back {Y : Sto} {a : Nat} {c : Cell} (h : Y[a]? = some c) : Y.set a c = Y := by
  refine List.ext_getElem? fun i => ?_
  by_cases e : i = a
  · subst e
    rw [List.getElem?_set_self (List.getElem?_eq_some_iff.mp h).1, h]
  · rw [List.getElem?_set_ne (Ne.symm e)]
abbrev wyTurn : Sx := sCons (sSet 5 (eDictB))
  (sCons (sLock 3 (sFor (srcD 3) (.nm 6) wyRow))
  (sSet 3 (eVar 5)))
theorem wy_turn {os : List (List Int)} (hl : masks.length ≤ 100000) (hn : n ≤ 20) (ha : Y[a]? = some (.dic (enc lay))) (hk : KeyOk n lay) (x5 x6 x7 x8 : Option W) :
    ∃ y6 y7 y8, wyTurn [some (.t (.tup [.int (n : Int), .tup (os.map tI)])), some (.t (.lst (masks.map T.int))), some (.t (.int ((2 ^ n - 1 : Nat) : Int))), some (.r a), x4, x5, x6, x7, x8, none] Y =
      .nx (wr (.t (.tup [.int (n : Int), .tup (os.map tI)])) masks n Y.length x4 Y.length y6 y7 y8) (Y ++ [.dic (enc (stepI masks n lay []))]) := by
  have hal := (List.getElem?_eq_some_iff.mp ha).1
  let Y1 : Sto := (Y ++ [Cell.dic []]).set a (.frz (enc lay))
  have hl1 : Y.length < Y1.length := by show _ < (List.set _ _ _).length; rw [List.length_set]; simp
  have ha1 : Y1[a]? = some (.frz (enc lay)) := by rw [List.getElem?_set_self (by simp; omega)]
  have hb1 : Y1[Y.length]? = some (.dic (enc [])) := by rw [List.getElem?_set_ne (by omega)]; simp [enc]
  obtain ⟨y6, y7, y8, q⟩ := wy_keys (x4 := x4) (os := os) hl hn (by omega) hl1 ha1 hk lay [] x6 x7 x8 (fun p hp => hp) ⟨by simp, fun p hp => by simp at hp⟩
  rw [set_back hb1] at q
  have e0 : (Y ++ [Cell.dic []])[a]? = some (.dic (enc lay)) := by rw [List.getElem?_append_left hal]; exact ha
  have q1 : sFor (srcD 3) (.nm 6) wyRow (wr (.t (.tup [.int (n : Int), .tup (os.map tI)])) masks n a x4 Y.length x6 x7 x8) Y1 = .nx (wr (.t (.tup [.int (n : Int), .tup (os.map tI)])) masks n a x4 Y.length y6 y7 y8) (Y1.set Y.length (.dic (enc (stepI masks n lay [])))) := by
    have fz : frzOf 3 (wr (.t (.tup [.int (n : Int), .tup (os.map tI)])) masks n a x4 Y.length x6 x7 x8) Y1 = some (a, enc lay) := by
      show (match Y1[a]? with
        | some (.frz kvs) => some (a, kvs)
        | _ => none) = _
      rw [ha1]
    have sd : srcD 3 (wr (.t (.tup [.int (n : Int), .tup (os.map tI)])) masks n a x4 Y.length x6 x7 x8) Y1 = .ok ⟨lay.map fun p => Item.one (.t (.int p.1)), gFrz a⟩ Y1 := by
      unfold srcD
      rw [fz]
      simp only [enc_items]
    rw [ap_sFor, sd]
    exact q
  have q2 : sLock 3 (sFor (srcD 3) (.nm 6) wyRow) (wr (.t (.tup [.int (n : Int), .tup (os.map tI)])) masks n a x4 Y.length x6 x7 x8) (Y ++ [.dic []]) = .nx (wr (.t (.tup [.int (n : Int), .tup (os.map tI)])) masks n a x4 Y.length y6 y7 y8) (Y ++ [.dic (enc (stepI masks n lay []))]) := by
    show (match (Y ++ [Cell.dic []])[a]? with
      | some (.dic kvs) => unlO a kvs (sFor (srcD 3) (.nm 6) wyRow (wr (.t (.tup [.int (n : Int), .tup (os.map tI)])) masks n a x4 Y.length x6 x7 x8) ((Y ++ [Cell.dic []]).set a (.frz kvs)))
      | _ => .no) = _
    rw [e0]
    show unlO a (enc lay) (sFor (srcD 3) (.nm 6) wyRow (wr (.t (.tup [.int (n : Int), .tup (os.map tI)])) masks n a x4 Y.length x6 x7 x8) Y1) = _
    rw [q1]
    have u1 : (Y1.set Y.length (.dic (enc (stepI masks n lay []))))[a]? = some (.frz (enc lay)) := by rw [List.getElem?_set_ne (by omega)]; exact ha1
    have u2 : unl a (enc lay) (Y1.set Y.length (.dic (enc (stepI masks n lay [])))) = some (Y ++ [.dic (enc (stepI masks n lay []))]) := by
      unfold unl
      rw [u1]
      show some _ = some _
      congr 1
      show (List.set (List.set (Y ++ [Cell.dic []]) a _) Y.length _).set a _ = _
      rw [List.set_comm _ _ (by omega : a ≠ Y.length), List.set_set, List.set_comm _ _ (by omega : Y.length ≠ a), set_back e0]
      simp
    show (match unl a (enc lay) (Y1.set Y.length (.dic (enc (stepI masks n lay [])))) with
      | some S' => O.nx (wr (.t (.tup [.int (n : Int), .tup (os.map tI)])) masks n a x4 Y.length y6 y7 y8) S'
      | none => .no) = _
    rw [u2]
  refine ⟨y6, y7, y8, ?_⟩
  show sCons _ _ _ _ = _
  rw [sCons_nx (show sSet 5 eDictB [some (.t (.tup [.int (n : Int), .tup (os.map tI)])), some (.t (.lst (masks.map T.int))), some (.t (.int ((2 ^ n - 1 : Nat) : Int))), some (.r a), x4, x5, x6, x7, x8, none] Y = .nx (wr (.t (.tup [.int (n : Int), .tup (os.map tI)])) masks n a x4 Y.length x6 x7 x8) (Y ++ [.dic []]) from rfl), sCons_nx q2]
  rfl
theorem wy_turns {os : List (List Int)} (hl : masks.length ≤ 100000) (hn : n ≤ 20) : ∀ (ks : List Int) (Y : Sto) (a : Nat) (lay : List (Int × Int)) (x4 x5 x6 x7 x8 : Option W), Y[a]? = some (.dic (enc lay)) → KeyOk n lay →
    ∃ (l : Sto) (a' : Nat) (lay' : List (Int × Int)) (y4 y5 y6 y7 y8 : Option W), forL gTrue (.nm 4) wyTurn (ks.map fun k => Item.one (.t (.int k))) [some (.t (.tup [.int (n : Int), .tup (os.map tI)])), some (.t (.lst (masks.map T.int))), some (.t (.int ((2 ^ n - 1 : Nat) : Int))), some (.r a), x4, x5, x6, x7, x8, none] Y =
      .nx [some (.t (.tup [.int (n : Int), .tup (os.map tI)])), some (.t (.lst (masks.map T.int))), some (.t (.int ((2 ^ n - 1 : Nat) : Int))), some (.r a'), y4, y5, y6, y7, y8, none] (Y ++ l) ∧ (Y ++ l)[a']? = some (.dic (enc lay')) ∧ KeyOk n lay' ∧
      Wt (fun _ => 1) lay' = Wt (fun x => FN masks n ks.length (((2 ^ n - 1 : Nat) : Int) - x)) lay
  | [], Y, a, lay, x4, x5, x6, x7, x8, ha, hk => ⟨[], a, lay, x4, x5, x6, x7, x8, by simp [forL], by simpa using ha, hk, rfl⟩
  | k :: ks, Y, a, lay, x4, x5, x6, x7, x8, ha, hk => by
    obtain ⟨y6, y7, y8, q1⟩ := wy_turn (os := os) (masks := masks) (x4 := some (.t (.int k))) hl hn ha hk x5 x6 x7 x8
    have hk1 : KeyOk n (stepI masks n lay []) := stepI_ok hk.rg ⟨by simp, fun p hp => by simp at hp⟩
    obtain ⟨l, a', lay', z4, z5, z6, z7, z8, q2, r1, r2, r3⟩ := wy_turns (os := os) hl hn ks (Y ++ [.dic (enc (stepI masks n lay []))]) Y.length (stepI masks n lay []) (some (.t (.int k))) (some (.r Y.length)) y6 y7 y8 (by simp) hk1
    refine ⟨.dic (enc (stepI masks n lay [])) :: l, a', lay', z4, z5, z6, z7, z8, ?_, by simpa using r1, r2, ?_⟩
    · rw [List.map_cons]
      unfold forL
      simp only [gTrue_eq, if_true, bI_nm, List.set_cons_succ, List.set_cons_zero]
      rw [q1, loopS_nx]
      rw [List.append_assoc] at q2
      exact q2
    · rw [r3, stepI_wt ks.length hk.rg ⟨by simp, fun p hp => by simp at hp⟩]
      simp [Wt]
end
end Dl

/-! Kh: the law's own count is the program's. -/
namespace Dl
open PySem

theorem compL_allG {gd : Sto → Bool} {p : Pat} {f : Ex} {ρ : Env} {S : Sto} {α : Type} (hg : gd S = true) (e : α → Item) (φ : α → T) : ∀ (xs : List α), (∀ x ∈ xs, ∃ ρ1, bindI p (e x) ρ = some ρ1 ∧ f ρ1 S = .ok (.t (φ x)) S) → compL gd p tTrue f (xs.map e) ρ S = .ok (xs.map φ) S
  | [], _ => by simp [compL, hg]
  | x :: xs, h => by
    obtain ⟨ρ1, h1, h2⟩ := h x List.mem_cons_self
    have ih := compL_allG hg e φ xs fun y hy => h y (List.mem_cons_of_mem _ hy)
    rw [List.map_cons]
    unfold compL
    simp [hg, h1, h2, ih]
theorem maskc_ok {tab : W} {os : List (List Int)} {ρ : Env} {S : Sto} (e0 : eIx (eVar 0) (eC (.int 1)) ρ S = .ok (.t (.tup (os.map tI))) S) (hl : os.length ≤ 100000) (ho : ∀ o ∈ os, (∀ x ∈ o, 0 ≤ x ∧ x < 1000) ∧ o.length ≤ 100000)
    (hρ : ρ = [some tab, none, none, none, none, none, none, none, none, none]) :
    eComp [9] (srcS (eIx (eVar 0) (eC (.int 1)))) (.nm 9) (tTrue) (eCall bSum (aCons (eComp [7] (srcS (eVar 9)) (.nm 7) (tTrue) (e2 gShl (eC (.int 1)) (eVar 7))) (aNil))) ρ S = .ok (.t (.lst ((os.map maskI).map T.int))) S := by
  have hlc : os.length ≤ cap := cap_big hl
  have c1 := compL_all (p := .nm 9) (f := eCall bSum (aCons (eComp [7] (srcS (eVar 9)) (.nm 7) (tTrue) (e2 gShl (eC (.int 1)) (eVar 7))) (aNil))) (ρ := [some tab, none, none, none, none, none, none, none, none, none]) (S := S) (fun o : List Int => Item.one (.t (tI o))) (fun o => T.int (maskI o)) os fun o hx => by
    obtain ⟨h0, h1⟩ := ho o hx
    refine ⟨[some tab, none, none, none, none, none, none, none, none, some (.t (tI o))], rfl, ?_⟩
    have c2 := compL_all (p := .nm 7) (f := e2 gShl (eC (.int 1)) (eVar 7)) (ρ := [some tab, none, none, none, none, none, none, none, none, some (.t (tI o))]) (S := S) (fun x : Int => Item.one (.t (.int x))) (fun x => T.int (2 ^ x.toNat)) o fun x hx => by
      obtain ⟨h2, h3⟩ := h0 x hx
      have hp : cpow 1 x = true := by simp [cpow]; omega
      exact ⟨[some tab, none, none, none, none, none, none, some (.t (.int x)), none, some (.t (tI o))], rfl, by simp [hp]⟩
    have hoc : o.length ≤ cap := cap_big h1
    have sm := sum_ints (o.map fun x => 2 ^ x.toNat)
    rw [List.map_map] at sm
    have ct : cont S (.t (tI o)) = some (.t, (o.map T.int).map W.t, gTrue) := rfl
    simp only [ap_eCall, ap_eComp, ap_srcS, ap_aCons, ap_aNil, ap_var, bind_ok', List.getElem?_cons_succ, List.getElem?_cons_zero, ct, Option.map_some, of_some, List.map_map, List.length_map, if_pos hoc, wipe0, wipe1, List.set_cons_succ, List.set_cons_zero]
    rw [show (List.map (Item.one ∘ W.t ∘ T.int) o) = o.map fun x => Item.one (.t (.int x)) from rfl, c2]
    simp only [bind_ok', views_cons, views_nil, view_t, Option.bind_some, Option.map_some]
    rw [show (List.map (fun x : Int => T.int (2 ^ x.toNat)) o) = List.map (T.int ∘ fun x : Int => 2 ^ x.toNat) o from rfl, sm]
    rfl
  rw [ap_eComp, ap_srcS, e0]
  subst hρ
  simp only [bind_ok', cont_tup, Option.map_some, of_some, List.map_map, List.length_map, if_pos hlc, wipe0, wipe1, List.set_cons_succ, List.set_cons_zero]
  rw [show (List.map (Item.one ∘ W.t ∘ tI) os) = os.map fun o => Item.one (.t (tI o)) from rfl, c1]
  rfl
theorem ways_ok {n : Nat} {os : List (List Int)} (hn : n ≤ 20) (ho : ∀ o ∈ os, (∀ x ∈ o, 0 ≤ x ∧ x < 1000) ∧ o.length ≤ 100000) (hl : os.length ≤ 100000) (S : Sto) :
    d__law_ways [.t (.tup [.int (n : Int), .tup (os.map tI)])] S = .ok (.t (.int (FN (os.map maskI) n n ((2 ^ n - 1 : Nat) : Int)))) S := by
  let tab : W := .t (.tup [.int (n : Int), .tup (os.map tI)])
  let masks : List Int := os.map maskI
  have hml : masks.length ≤ 100000 := by show (os.map maskI).length ≤ _; rw [List.length_map]; exact hl
  let ρ0 : Env := [some tab, none, none, none, none, none, none, none, none, none]
  have a1 : L2.atI [T.int n, .tup (os.map tI)] 1 = some (.tup (os.map tI)) := by simp [L2.atI, L2.ixN]
  have i0 : eIx (eVar 0) (eC (.int 0)) ρ0 S = .ok (.t (.int (n : Int))) S := tab_ix _ _
  have i1 : eIx (eVar 0) (eC (.int 1)) ρ0 S = .ok (.t (.tup (os.map tI))) S := by
    simp only [ρ0, tab, ap_eIx, ap_C, ap_var, bind_ok', List.getElem?_cons_zero, view_t, Option.bind_some, ix_tup, a1, Option.map_some, of_some]
  have hc : cpow 1 (n : Int) = true := by simp [cpow]; omega
  have ee : ((1 : Int) * 2 ^ ((n : Int)).toNat - 1) = ((2 ^ n - 1 : Nat) : Int) := by
    rw [Int.toNat_natCast, Int.one_mul, Int.ofNat_sub (Nat.two_pow_pos n)]; simp
  have ev : e2 gSub (e2 gShl (eC (.int 1)) (eIx (eVar 0) (eC (.int 0)))) (eC (.int 1)) ρ0 S = .ok (.t (.int ((2 ^ n - 1 : Nat) : Int))) S := by
    rw [ap_e2, ap_e2]
    simp only [ap_C, i0, bind_ok', view_t, Option.bind_some, shl_int, hc, if_true, Option.map_some, of_some, sub_int, ee]
  have mk := maskc_ok (tab := tab) i1 hl ho rfl
  let ρ1 : Env := [some tab, some (.t (.lst (masks.map T.int))), some (.t (.int ((2 ^ n - 1 : Nat) : Int))), none, none, none, none, none, none, none]
  have q0 : sPar 1 2 (aCons (eComp [9] (srcS (eIx (eVar 0) (eC (.int 1)))) (.nm 9) (tTrue) (eCall bSum (aCons (eComp [7] (srcS (eVar 9)) (.nm 7) (tTrue) (e2 gShl (eC (.int 1)) (eVar 7))) (aNil)))) (aCons (e2 gSub (e2 gShl (eC (.int 1)) (eIx (eVar 0) (eC (.int 0)))) (eC (.int 1))) (aNil))) ρ0 S = .nx ρ1 S := by
    rw [ap_sPar, ap_aCons, mk, bind_ok', ap_aCons, ev, bind_ok', ap_aNil]
    rfl
  let ρ2 : Env := [some tab, some (.t (.lst (masks.map T.int))), some (.t (.int ((2 ^ n - 1 : Nat) : Int))), some (.r S.length), none, none, none, none, none, none]
  let Y : Sto := S ++ [.dic (enc [(0, 1)])]
  have q1 : sSet 3 (eDict1B (eC (.int 0)) (eC (.int 1))) ρ1 S = .nx ρ2 Y := rfl
  have p0 : 0 < 2 ^ n := Nat.two_pow_pos n
  obtain ⟨l, a', lay', y4, y5, y6, y7, y8, q2, r1, r2, r3⟩ := wy_turns (os := os) (masks := masks) (n := n) hml hn (nats n) Y S.length [(0, 1)] none none none none none (by simp [Y]) ⟨by simp, fun p hp => ⟨0, by simp at hp; rw [hp]; rfl, p0⟩⟩
  have hr : rlim (n : Int) = true := by simp [rlim]; omega
  let ρ3 : Env := [some tab, some (.t (.lst (masks.map T.int))), some (.t (.int ((2 ^ n - 1 : Nat) : Int))), some (.r a'), y4, y5, y6, y7, y8, none]
  have q3 : sFor (srcR1 (aCons (eIx (eVar 0) (eC (.int 0))) (aNil))) (.nm 4) wyTurn ρ2 Y = .nx ρ3 (Y ++ l) := by
    rw [ap_sFor, ap_srcR1, ap_aCons, show eIx (eVar 0) (eC (.int 0)) ρ2 Y = .ok (.t (.int (n : Int))) Y from tab_ix _ _]
    simp only [bind_ok', ap_aNil, rng1, hr, if_true, rngI_nats, of_some, thenS_ok, Int.toNat_natCast]
    exact q2
  have hal := (List.getElem?_eq_some_iff.mp r1).1
  have few : (enc lay').length ≤ cap := by
    rw [enc_len]
    have h1 := r2.few
    have h2 : 2 ^ n ≤ 2 ^ 20 := Nat.pow_le_pow_right (by decide) hn
    have h3 : 2 ^ 20 ≤ cap := by decide
    omega
  let YL : Sto := (Y ++ l).set a' (.frz (enc lay'))
  have hfz : YL[a']? = some (.frz (enc lay')) := by rw [List.getElem?_set_self hal]
  have hgf : gFrz a' YL = true := by unfold gFrz; rw [hfz]
  let ρw : Env := [some tab, some (.t (.lst (masks.map T.int))), some (.t (.int ((2 ^ n - 1 : Nat) : Int))), some (.r a'), y4, y5, none, y7, y8, none]
  have c1 := compL_allG (gd := gFrz a') (p := .nm 6) (f := eIx (eVar 3) (eVar 6)) (ρ := ρw) (S := YL) hgf (fun p : Int × Int => Item.one (.t (.int p.1))) (fun p => T.int p.2) lay' fun p hp => by
    refine ⟨[some tab, some (.t (.lst (masks.map T.int))), some (.t (.int ((2 ^ n - 1 : Nat) : Int))), some (.r a'), y4, y5, some (.t (.int p.1)), y7, y8, none], rfl, ?_⟩
    have lk := lookK_enc lay' p.1
    rw [lookI_nd r2.nd hp] at lk
    simp only [ap_eIx, ap_var, List.getElem?_cons_succ, List.getElem?_cons_zero, bind_ok', view_t, Option.bind_some, ix_r, hfz, keyOf, lk, Option.map_some, of_some]
  have sd : srcD 3 ρ3 YL = .ok ⟨lay'.map fun p => Item.one (.t (.int p.1)), gFrz a'⟩ YL := by
    have fz : frzOf 3 ρ3 YL = some (a', enc lay') := by
      show (match YL[a']? with
        | some (.frz kvs) => some (a', kvs)
        | _ => none) = _
      rw [hfz]
    unfold srcD
    rw [fz]
    simp only [enc_items]
  have ec : eComp [6] (srcD 3) (.nm 6) (tTrue) (eIx (eVar 3) (eVar 6)) ρ3 YL = .ok (.t (.lst ((lay'.map (·.2)).map T.int))) YL := by
    rw [ap_eComp, sd, bind_ok']
    rw [enc_len] at few
    have few' : (lay'.map fun p => Item.one (.t (.int p.1))).length ≤ cap := by rw [List.length_map]; exact few
    rw [if_pos few']
    show (compL (gFrz a') (.nm 6) tTrue (eIx (eVar 3) (eVar 6)) (lay'.map fun p => Item.one (.t (.int p.1))) ρw YL).bind _ = _
    rw [c1, bind_ok', List.map_map]
    rfl
  have el : eLock 3 (eComp [6] (srcD 3) (.nm 6) (tTrue) (eIx (eVar 3) (eVar 6))) ρ3 (Y ++ l) = .ok (.t (.lst ((lay'.map (·.2)).map T.int))) (Y ++ l) := by
    have u : unl a' (enc lay') YL = some (Y ++ l) := by
      unfold unl
      rw [hfz]
      show some _ = some _
      congr 1
      show (List.set (Y ++ l) a' _).set a' _ = _
      rw [List.set_set, set_back r1]
    show (match (Y ++ l)[a']? with
      | some (.dic kvs) => (eComp [6] (srcD 3) (.nm 6) (tTrue) (eIx (eVar 3) (eVar 6)) ρ3 ((Y ++ l).set a' (.frz kvs))).bind fun w S1 => (match unl a' kvs S1 with
        | some S2 => .ok w S2
        | none => .no)
      | _ => .no) = _
    rw [r1]
    show (eComp [6] (srcD 3) (.nm 6) (tTrue) (eIx (eVar 3) (eVar 6)) ρ3 YL).bind _ = _
    rw [ec, bind_ok', u]
  have tot : (lay'.map (·.2)).sum = FN masks n n ((2 ^ n - 1 : Nat) : Int) := by
    have e1 : (lay'.map (·.2)).sum = Wt (fun _ => 1) lay' := by
      unfold Wt
      congr 1
      exact List.map_congr_left fun p _ => by rw [Int.mul_one]
    rw [e1, r3, nats_len]
    simp [Wt]
  have fin : sRet (eCall bSum (aCons (eLock 3 (eComp [6] (srcD 3) (.nm 6) (tTrue) (eIx (eVar 3) (eVar 6)))) (aNil))) ρ3 (Y ++ l) = .rt (.t (.int (FN masks n n ((2 ^ n - 1 : Nat) : Int)))) (Y ++ l) := by
    rw [ap_sRet, ap_eCall, ap_aCons, el]
    simp only [bind_ok', ap_aNil, views_cons, views_nil, view_t, Option.bind_some, Option.map_some, sum_ints, tot, of_some, thenS_ok]
  have hY : Y ++ l = S ++ (.dic (enc [(0, 1)]) :: l) := by show (S ++ [_]) ++ l = _; rw [List.append_assoc]; rfl
  refine fn_rt (l := .dic (enc [(0, 1)]) :: l) rfl ?_
  rw [← hY]
  unfold b__law_ways
  rw [show envOf 10 [tab] = ρ0 from rfl, sCons_nx q0, sCons_nx q1, sCons_nx q3]
  exact fin
end Dl

/-! Ki: repr of a table; factorials. -/
namespace Dl
open PySem

/-! ### repr -/
theorem tup_len (ts : List Str) : (tupleText ts).length ≤ piled ts + 3 := by
  unfold tupleText
  rw [strLen_append, strLen_append]
  have e1 : ((("(" : String) : Str)).length = 1 := rfl
  have e3 : (((if ts.length == 1 then ",)" else ")" : String) : Str)).length ≤ 2 := by split <;> decide
  rw [e1]
  cases ts with
  | nil =>
    have : (Str.join ", " []).length = 0 := rfl
    omega
  | cons t r =>
    have := join_length_add (t :: r) (by simp)
    omega
theorem int_len {v : Int} (h0 : 0 ≤ v) (h : v < 1000) : (PyData.shown (.int v)).length ≤ 3 := by
  have := PyProof.Rows.toString_length_le h0 (k := 3) (by decide) (by omega)
  simpa [PyData.shown] using this
theorem off_len : ∀ {o : List Int}, (∀ x ∈ o, 0 ≤ x ∧ x < 1000) → piled (PyData.shownAll (toPys (o.map T.int))) ≤ o.length * 5
  | [], _ => by simp [toPys, PyData.shownAll, piled]
  | x :: o, h => by
    obtain ⟨h0, h1⟩ := h x List.mem_cons_self
    have := int_len h0 h1
    have ih := off_len fun y hy => h y (List.mem_cons_of_mem _ hy)
    rw [List.map_cons]
    simp only [toPys, toPy, PyData.shownAll, piled_cons, List.length_cons]
    omega
theorem offs_len : ∀ {os : List (List Int)} {m : Nat}, (∀ o ∈ os, (∀ x ∈ o, 0 ≤ x ∧ x < 1000) ∧ o.length ≤ m) → piled (PyData.shownAll (toPys (os.map tI))) ≤ os.length * (m * 5 + 5)
  | [], _, _ => by simp [toPys, PyData.shownAll, piled]
  | o :: os, m, h => by
    obtain ⟨h0, h1⟩ := h o List.mem_cons_self
    have h2 := off_len h0
    have h3 : o.length * 5 ≤ m * 5 := Nat.mul_le_mul_right _ h1
    have ih := offs_len (m := m) fun y hy => h y (List.mem_cons_of_mem _ hy)
    have h4 := tup_len (PyData.shownAll (toPys (o.map T.int)))
    rw [List.map_cons]
    simp only [tI, toPys, toPy, PyData.shownAll, piled_cons, List.length_cons, PyData.shown]
    rw [Nat.add_mul]
    omega
theorem show_ints : ∀ {o : List Int}, (∀ x ∈ o, 0 ≤ x ∧ x < 1000) → PyData.showableAll (toPys (o.map T.int)) = true
  | [], _ => by simp [toPys, PyData.showableAll]
  | x :: o, h => by
    obtain ⟨h0, h1⟩ := h x List.mem_cons_self
    have ih := show_ints fun y hy => h y (List.mem_cons_of_mem _ hy)
    have hx : x.natAbs.log2 < 1920 := by
      have : x.natAbs < 2 ^ 1920 := Nat.lt_of_lt_of_le (show x.natAbs < 2 ^ 10 by omega) (Nat.pow_le_pow_right (by decide) (by decide))
      by_cases z : x.natAbs = 0
      · rw [z]; decide
      · exact (Nat.log2_lt z).mpr this
    rw [List.map_cons]
    simp only [toPys, toPy, PyData.showableAll, PyData.showable, ih, Bool.and_true]
    exact decide_eq_true hx
theorem show_offs : ∀ {os : List (List Int)}, (∀ o ∈ os, ∀ x ∈ o, 0 ≤ x ∧ x < 1000) → PyData.showableAll (toPys (os.map tI)) = true
  | [], _ => by simp [toPys, PyData.showableAll]
  | o :: os, h => by
    have h0 := show_ints (h o List.mem_cons_self)
    have ih := show_offs fun y hy => h y (List.mem_cons_of_mem _ hy)
    rw [List.map_cons]
    simp only [tI] at ih ⊢
    simp only [toPys, toPy, PyData.showableAll, PyData.showable, ih, h0, Bool.and_self]
theorem repr_ok {d : Int} {os : List (List Int)} (d0 : 0 ≤ d) (d1 : d < 1000) (ho : ∀ o ∈ os, (∀ x ∈ o, 0 ≤ x ∧ x < 1000) ∧ o.length ≤ 100) (hl : os.length ≤ 100) :
    bRepr [.tup [.int d, .tup (os.map tI)]] = some (.str (toPy (.tup [.int d, .tup (os.map tI)])).shown) := by
  have h1 : shp (.tup [.int d, .tup (os.map tI)]) = true := by
    have := deps_tIs os
    have h2 : lay (.tup [.int d, .tup (os.map tI)]) = true := by simp [lay, lays, lays_tIs]
    have h3 : dep (.tup [.int d, .tup (os.map tI)]) ≤ 60 := by simp [dep, deps]; omega
    unfold shp
    rw [h2, decide_eq_true h3]
    rfl
  have h2 : (toPy (.tup [.int d, .tup (os.map tI)])).showable = true := by
    have s1 := show_ints (o := [d]) fun x hx => by rw [List.mem_singleton.mp hx]; exact ⟨d0, d1⟩
    have s2 := show_offs fun o h => (ho o h).1
    simp only [List.map_cons, List.map_nil, toPys, toPy, PyData.showableAll, PyData.showable, Bool.and_true] at s1
    simp only [toPy, toPys, PyData.showable, PyData.showableAll, s1, s2, Bool.and_true]
  have h3 : (toPy (.tup [.int d, .tup (os.map tI)])).shown.length ≤ cap := by
    have l1 := int_len d0 d1
    have l2 := offs_len (m := 100) ho
    have l3 := tup_len (PyData.shownAll (toPys (os.map tI)))
    have l4 := tup_len (PyData.shownAll (toPys [.int d, .tup (os.map tI)]))
    have l5 : os.length * (100 * 5 + 5) ≤ 100 * (100 * 5 + 5) := Nat.mul_le_mul_right _ hl
    simp only [toPys, toPy, PyData.shownAll, piled_cons, piled_nil, PyData.shown] at l4
    simp only [PyData.shown] at l1
    simp only [toPy, PyData.shown, toPys, PyData.shownAll]
    exact cap_big (by omega)
  have h4 : (shp (.tup [.int d, .tup (os.map tI)]) && (toPy (.tup [.int d, .tup (os.map tI)])).showable && decide ((toPy (.tup [.int d, .tup (os.map tI)])).shown.length ≤ cap)) = true := by
    rw [h1, h2, decide_eq_true h3]
    rfl
  show (if (shp (.tup [.int d, .tup (os.map tI)]) && (toPy (.tup [.int d, .tup (os.map tI)])).showable && decide ((toPy (.tup [.int d, .tup (os.map tI)])).shown.length ≤ cap)) = true then some (T.str (toPy (.tup [.int d, .tup (os.map tI)])).shown) else none) = _
  rw [if_pos h4]
/-! ### factorials -/
def fac : Nat → Int
  | 0 => 1
  | n + 1 => fac n * (n + 1)
theorem sum_const (c : Int) : ∀ l : List Int, (∀ x ∈ l, x = c) → l.sum = l.length * c
  | [], _ => by simp
  | x :: l, h => by
    have ih := sum_const c l fun y hy => h y (List.mem_cons_of_mem _ hy)
    rw [List.sum_cons, ih, h x List.mem_cons_self, List.length_cons]
    have : (((l.length + 1 : Nat)) : Int) = l.length + 1 := by simp
    rw [this, Int.add_mul, Int.one_mul, Int.add_comm]
theorem FN_fac {masks : List Int} {n : Nat} (hs : ∀ r : Nat, r < 2 ^ n → ∀ i : Nat, i < n → r.testBit i = true → smp masks (r : Int) i = true) : ∀ (k r : Nat), r < 2 ^ n → pc n (r : Int) = k → FN masks n k (r : Int) = fac k
  | 0, _, _, _ => rfl
  | k + 1, r, hr, hp => by
    have hd : (digs masks n (r : Int)).length = k + 1 := by
      rw [← hp]
      unfold digs pc
      congr 1
      refine List.filter_congr fun x hx => ?_
      obtain ⟨i, hi⟩ : ∃ i : Nat, x = i := ⟨x.toNat, by have := (nats_mem.mp hx).1; omega⟩
      subst hi
      rw [bitI_nat]
      cases hb : r.testBit i with
      | false => rfl
      | true => rw [hs r hr i (by have := (nats_mem.mp hx).2; omega) hb]; rfl
    show ((digs masks n (r : Int)).map fun d => FN masks n k ((r : Int) - 2 ^ d.toNat)).sum = fac k * (k + 1)
    rw [sum_const (fac k) _ fun x hx => ?_, List.length_map, hd, Int.mul_comm]
    · simp
    · obtain ⟨d, hd', rfl⟩ := List.mem_map.mp hx
      obtain ⟨i, rfl, hi, hb, _⟩ := digs_mem hd'
      have hge := tb_ge hb
      have e1 : ((r : Int) - 2 ^ ((i : Int)).toNat) = ((r - 2 ^ i : Nat) : Int) := by
        rw [Int.toNat_natCast, Int.ofNat_sub hge]; simp
      rw [e1]
      exact FN_fac hs k (r - 2 ^ i) (Nat.lt_of_le_of_lt (Nat.sub_le _ _) hr) (by have := pc_sub hb hi; omega)
theorem nestd_const {c : Int} {xs : List Int} (h : ∀ x ∈ xs, x = c) : nestd xs = true := by
  unfold nestd
  rw [List.all_eq_true]
  intro p hp
  have h1 := h _ (List.of_mem_zip hp).1
  have h2 := h _ (List.mem_of_mem_drop (List.of_mem_zip hp).2)
  rw [h1, h2, PyProof.Rows.bitAnd_self]
  exact decide_eq_true rfl
/-- offers of one demand at the most -/
theorem smp_single {os : List (List Int)} (ho : ∀ o ∈ os, (∀ x ∈ o, 0 ≤ x) ∧ o.length ≤ 1) (r i : Nat) : smp (os.map maskI) (r : Int) i = true := by
  refine nestd_const (c := Builtin.bitAnd (((2 ^ i : Nat)) : Int) r) fun x hx => ?_
  have hx := (isort_perm _).mem_iff.mp hx
  obtain ⟨m, hm, rfl⟩ := List.mem_map.mp hx
  obtain ⟨hm1, hm2⟩ := List.mem_filter.mp hm
  obtain ⟨o, hoo, rfl⟩ := List.mem_map.mp hm1
  obtain ⟨h0, h1⟩ := ho o hoo
  match o, h0, h1, hm2 with
  | [], _, _, hb =>
    have : maskI [] = ((0 : Nat) : Int) := rfl
    rw [this, bitI_nat] at hb
    simp at hb
  | [x], h0, _, hb =>
    obtain ⟨j, hj⟩ : ∃ j : Nat, x = j := ⟨x.toNat, by have := h0 x List.mem_cons_self; omega⟩
    subst hj
    have e : maskI [(j : Int)] = ((2 ^ j : Nat) : Int) := by simp [maskI]
    rw [e, bitI_nat, Nat.testBit_two_pow] at hb
    have : j = i := by simpa using hb
    rw [e, this]
  | _ :: _ :: _, _, h1, _ => simp at h1
end Dl

namespace K14
open PySem PySem.Spec PyProof.Rows L2 Dl
def top (i : Nat) : Stmt := PySem.Challenge.pw_payorder_k14_nested_orders_counted.main.body.getD i (.Pass ⟨0, 0, 0, 0⟩)
abbrev s_mask_of : Stmt := top 1
theorem S_mask_of : FnScope ["demands", "demand"] ["demands"] (defScope s_mask_of) := ⟨rfl, rfl, rfl, by decide +kernel, rfl, by decide +kernel, by decide +kernel⟩
theorem ok_mask_of {P : Program} {w : World} {K : PySem.W.Frag} {mg : Str → Option Value} {base : Heap} (bt : Bt mg) {f : Addr} {fd : FuncData} (F : Fun K "mask_of" "mask_of" s_mask_of f fd) : FnG P w K mg base 1 f fd ["demands"] (spD K 1 d_mask_of) :=
  fn_ok F S_mask_of fun cdv A outer s H E hr =>
  (dss_one (ds_ret (de_callB (cd_sum rfl) rfl bt.sum (by decide +kernel) (da_cons (de_comp (own := [("demand", 1)]) rfl S_mask_of.nd (ds_seq (de_var (i := 0))) (by rfl) (fun _ _ _ _ _ => (di_name (i := 1) S_mask_of.nd)) (fun _ _ _ _ _ => dts_nil) (fun _ _ _ _ _ => (de_op od_shl de_int (de_var (i := 1))))) da_nil))))
abbrev s_masks_of : Stmt := top 2
theorem S_masks_of : FnScope ["table", "offer"] ["table"] (defScope s_masks_of) := ⟨rfl, rfl, rfl, by decide +kernel, rfl, by decide +kernel, by decide +kernel⟩
theorem ok_masks_of {P : Program} {w : World} {K : PySem.W.Frag} {mg : Str → Option Value} {base : Heap} (bt : Bt mg) (C_mask_of : Cl P w K mg base 1 "mask_of" 1 d_mask_of) {f : Addr} {fd : FuncData} (F : Fun K "masks_of" "masks_of" s_masks_of f fd) : FnG P w K mg base 2 f fd ["table"] (spD K 1 d_masks_of) :=
  fn_ok F S_masks_of fun cdv A outer s H E hr =>
  (dss_one (ds_ret (de_comp (own := [("offer", 1)]) rfl S_masks_of.nd (ds_seq (de_ix hr (de_var (i := 0)) de_int)) (by rfl) (fun _ _ _ _ _ => (di_name (i := 1) S_masks_of.nd)) (fun _ _ _ _ _ => dts_nil) (fun _ _ _ _ _ => (de_callC C_mask_of (hr.less (by first | exact Nat.le_refl _ | decide | exact Nat.le_trans (by decide) (Nat.le_add_right _ _))) rfl (da_cons (de_var (i := 1)) da_nil))))))
abbrev s_is_simple : Stmt := top 3
theorem S_is_simple : FnScope ["masks", "rest", "demand", "found", "mask", "one", "other"] ["masks", "rest", "demand"] (defScope s_is_simple) := ⟨rfl, rfl, rfl, by decide +kernel, rfl, by decide +kernel, by decide +kernel⟩
theorem ok_is_simple {P : Program} {w : World} {K : PySem.W.Frag} {mg : Str → Option Value} {base : Heap} (bt : Bt mg) {f : Addr} {fd : FuncData} (F : Fun K "is_simple" "is_simple" s_is_simple f fd) : FnG P w K mg base 1 f fd ["masks", "rest", "demand"] (spD K 3 d_is_simple) :=
  fn_ok F S_is_simple fun cdv A outer s H E hr =>
  (dss_cons (ds_set (i := 3) S_is_simple.nd (de_callB ((cl_sorted hr)).toD rfl bt.sorted (by decide +kernel) (da_cons (de_comp (own := [("mask", 4)]) rfl S_is_simple.nd (ds_seq (de_var (i := 0))) (by rfl) (fun _ _ _ _ _ => (di_name (i := 4) S_is_simple.nd)) (fun _ _ _ _ _ => (dts_one (dt_cmp (od_eq hr) (de_op od_and (de_op od_shr (de_var (i := 4)) (de_var (i := 2))) de_int) de_int))) (fun _ _ _ _ _ => (de_op od_and (de_var (i := 4)) (de_var (i := 1))))) da_nil)))
  (dss_one (ds_ret (de_callB (cd_all rfl) rfl bt.all (by decide +kernel) (da_cons (de_comp (own := [("one", 5), ("other", 6)]) rfl S_is_simple.nd (ds_zip2 rfl bt.zip (da_cons (de_var (i := 3)) (da_cons (de_slice (de_var (i := 3)) (do_some de_int) do_none) da_nil))) (by rfl) (fun _ _ _ _ _ => (di_tup rfl (dps_cons (dp_name (i := 5) S_is_simple.nd) (dps_cons (dp_name (i := 6) S_is_simple.nd) dps_nil)))) (fun _ _ _ _ _ => dts_nil) (fun _ _ _ _ _ => (de_cmp (od_eq hr) (de_op od_and (de_var (i := 5)) (de_var (i := 6))) (de_var (i := 5))))) da_nil)))))
abbrev s_simple_digits : Stmt := top 5
theorem S_simple_digits : FnScope ["masks", "rest", "demand"] ["masks", "rest"] (defScope s_simple_digits) := ⟨rfl, rfl, rfl, by decide +kernel, rfl, by decide +kernel, by decide +kernel⟩
theorem ok_simple_digits {P : Program} {w : World} {K : PySem.W.Frag} {mg : Str → Option Value} {base : Heap} (bt : Bt mg) (C_is_simple : Cl P w K mg base 1 "is_simple" 3 d_is_simple) {f : Addr} {fd : FuncData} (F : Fun K "simple_digits" "simple_digits" s_simple_digits f fd) : FnG P w K mg base 2 f fd ["masks", "rest"] (spD K 2 d_simple_digits) :=
  fn_ok F S_simple_digits fun cdv A outer s H E hr =>
  (dss_one (ds_ret (de_comp (own := [("demand", 2)]) rfl S_simple_digits.nd (ds_range1 rfl bt.range (da_cons (de_bitLen (de_var (i := 1))) da_nil)) (by rfl) (fun _ _ _ _ _ => (di_name (i := 2) S_simple_digits.nd)) (fun _ _ _ _ _ => (dts_one (dw_pt (dw_and (dt_cmp (od_eq hr) (de_op od_and (de_op od_shr (de_var (i := 1)) (de_var (i := 2))) de_int) de_int) (dw_and1 (dt_val (de_callC C_is_simple (hr.less (by first | exact Nat.le_refl _ | decide | exact Nat.le_trans (by decide) (Nat.le_add_right _ _))) rfl (da_cons (de_var (i := 0)) (da_cons (de_var (i := 1)) (da_cons (de_var (i := 2)) da_nil)))))))))) (fun _ _ _ _ _ => (de_var (i := 2))))))
abbrev s_counts_from : Stmt := top 6
theorem S_counts_from : FnScope ["masks", "rest", "known", "demand"] ["masks", "rest", "known"] (defScope s_counts_from) := ⟨rfl, rfl, rfl, by decide +kernel, rfl, by decide +kernel, by decide +kernel⟩
theorem ok_counts_from {P : Program} {w : World} {K : PySem.W.Frag} {mg : Str → Option Value} {base : Heap} (bt : Bt mg) (C_simple_digits : Cl P w K mg base 2 "simple_digits" 2 d_simple_digits) {f : Addr} {fd : FuncData} (F : Fun K "counts_from" "counts_from" s_counts_from f fd) (hm : mg "counts_from" = some (.ref f)) (hb : Binds K fd ["masks", "rest", "known"] []) : ∀ n, FnG P w K mg base (3 + n) f fd ["masks", "rest", "known"] (spD K 3 (d_counts_from n))
  | 0 => fn_no
  | n + 1 => by
    have C_counts_from : Cl P w K mg base (3 + n) "counts_from" 3 (d_counts_from n) := ⟨⟨f, fd, _, ok_counts_from bt C_simple_digits F hm hb n, hm, F.kp, hb⟩⟩
    exact fn_ok F S_counts_from fun cdv A outer s H E hr =>
  (dss_cons (ds_if (dt_cmp (od_eq hr) (de_var (i := 1)) de_int) (dss_one (ds_ret de_int)) dss_nil)
  (dss_cons (ds_if (dt_cmp (od_notin hr) (de_var (i := 1)) (de_var (i := 2))) (dss_one (ds_asg (de_callB (cd_sum rfl) rfl bt.sum (by decide +kernel) (da_cons (de_comp (own := [("demand", 3)]) rfl S_counts_from.nd (ds_seq (de_callC C_simple_digits (hr.less (by first | exact Nat.le_refl _ | decide | exact Nat.le_trans (by decide) (Nat.le_add_right _ _))) rfl (da_cons (de_var (i := 0)) (da_cons (de_var (i := 1)) da_nil)))) (by rfl) (fun _ _ _ _ _ => (di_name (i := 3) S_counts_from.nd)) (fun _ _ _ _ _ => dts_nil) (fun _ _ _ _ _ => (de_callC C_counts_from (hr.less (by first | exact Nat.le_refl _ | decide | exact Nat.le_trans (by decide) (Nat.le_add_right _ _))) rfl (da_cons (de_var (i := 0)) (da_cons (de_op od_sub (de_var (i := 1)) (de_op od_shl de_int (de_var (i := 3)))) (da_cons (de_var (i := 2)) da_nil)))))) da_nil)) (dg_sub hr (de_var (i := 2)) (de_var (i := 1))))) dss_nil)
  (dss_one (ds_ret (de_ix hr (de_var (i := 2)) (de_var (i := 1)))))))
abbrev s_count_nested_orders : Stmt := top 7
theorem S_count_nested_orders : FnScope ["table"] ["table"] (defScope s_count_nested_orders) := ⟨rfl, rfl, rfl, by decide +kernel, rfl, by decide +kernel, by decide +kernel⟩
theorem ok_count_nested_orders {P : Program} {w : World} {K : PySem.W.Frag} {mg : Str → Option Value} {base : Heap} (bt : Bt mg) (C_counts_from : Cl P w K mg base 43 "counts_from" 3 (d_counts_from RD)) (C_masks_of : Cl P w K mg base 2 "masks_of" 1 d_masks_of) {f : Addr} {fd : FuncData} (F : Fun K "count_nested_orders" "count_nested_orders" s_count_nested_orders f fd) : FnG P w K mg base 44 f fd ["table"] (spD K 1 d_count_nested_orders) :=
  fn_ok F S_count_nested_orders fun cdv A outer s H E hr =>
  (dss_one (ds_ret (de_callC C_counts_from (hr.less (by first | exact Nat.le_refl _ | decide | exact Nat.le_trans (by decide) (Nat.le_add_right _ _))) rfl (da_cons (de_callC C_masks_of (hr.less (by first | exact Nat.le_refl _ | decide | exact Nat.le_trans (by decide) (Nat.le_add_right _ _))) rfl (da_cons (de_var (i := 0)) da_nil)) (da_cons (de_op od_sub (de_op od_shl de_int (de_ix hr (de_var (i := 0)) de_int)) de_int) (da_cons de_dictB da_nil))))))
abbrev s__law_deck : Stmt := top 9
theorem S__law_deck : FnScope ["script", "cells", "cell"] ["script"] (defScope s__law_deck) := ⟨rfl, rfl, rfl, by decide +kernel, rfl, by decide +kernel, by decide +kernel⟩
theorem ok__law_deck {P : Program} {w : World} {K : PySem.W.Frag} {mg : Str → Option Value} {base : Heap} (bt : Bt mg) {f : Addr} {fd : FuncData} (F : Fun K "_law_deck" "_law_deck" s__law_deck f fd) : FnG P w K mg base 1 f fd ["script"] (spD K 1 d__law_deck) :=
  fn_okK F S__law_deck fun cdv A outer s H E hr =>
  (dss_cons (ds_setComp (i := 1) (own := [("cell", 2)]) rfl S__law_deck.nd (ds_seq (de_var (i := 0))) (by rfl) (fun _ _ _ _ _ => (di_name (i := 2) S__law_deck.nd)) (fun _ _ _ _ _ => dts_nil) (fun _ _ _ _ _ => (de_callB cd_abs rfl bt.abs (by decide +kernel) (da_cons (de_var (i := 2)) da_nil))) rfl (by decide +kernel))
  (dss_one (ds_ret (de_vecB (da_cons (de_compB (own := [("cell", 2)]) rfl S__law_deck.nd (ds_seq (de_var (i := 1))) (by rfl) (fun _ _ _ _ _ => (di_name (i := 2) S__law_deck.nd)) (fun _ _ _ _ _ => (dts_one (dt_cmp (od_ge hr) (de_var (i := 2)) (de_op od_pow de_int de_int)))) (fun _ _ _ _ _ => (de_var (i := 2)))) (da_cons (de_opB ol_cat (de_var (i := 1)) (de_lst (da_cons (de_op od_add (de_callB cd_len rfl bt.len (by decide +kernel) (da_cons (de_var (i := 1)) da_nil)) de_int) da_nil))) (da_cons de_int da_nil)))))))
abbrev s__law_next : Stmt := top 10
theorem S__law_next : FnScope ["deck", "many", "cell", "mixed", "rest"] ["deck", "many"] (defScope s__law_next) := ⟨rfl, rfl, rfl, by decide +kernel, rfl, by decide +kernel, by decide +kernel⟩
theorem ok__law_next {P : Program} {w : World} {K : PySem.W.Frag} {mg : Str → Option Value} {base : Heap} (bt : Bt mg) {f : Addr} {fd : FuncData} (F : Fun K "_law_next" "_law_next" s__law_next f fd) : FnG P w K mg base 1 f fd ["deck", "many"] (spD K 2 d__law_next) :=
  fn_ok F S__law_next fun cdv A outer s H E hr =>
  (dss_cons (ds_while (L := LL) (dt_cmp (od_ne hr) (de_ix hr (de_var (i := 0)) de_int) (de_lst da_nil)) (dss_cons (ds_set (i := 4) S__law_next.nd (de_ix hr (de_ix hr (de_var (i := 0)) de_int) de_int))
  (dss_cons (ds_if (dt_cmp (od_gt hr) (de_var (i := 4)) de_int) (dss_cons (ds_asg (de_op od_div (de_var (i := 4)) (de_var (i := 1))) (dg_sub hr (de_ix hr (de_var (i := 0)) de_int) de_int))
  (dss_one (ds_ret (de_op od_mod (de_var (i := 4)) (de_var (i := 1)))))) dss_nil)
  (dss_one (ds_expr (de_popAt (de_ix hr (de_var (i := 0)) de_int) de_int))))))
  (dss_cons (ds_asg (de_op od_add (de_ix hr (de_var (i := 0)) de_int) de_int) (dg_sub hr (de_var (i := 0)) de_int))
  (dss_cons (ds_set (i := 2) S__law_next.nd (de_op od_mod (de_ix hr (de_ix hr (de_var (i := 0)) de_int) (de_op od_mod (de_ix hr (de_var (i := 0)) de_int) (de_callB cd_len rfl bt.len (by decide +kernel) (da_cons (de_ix hr (de_var (i := 0)) de_int) da_nil)))) de_int))
  (dss_cons (ds_set (i := 3) S__law_next.nd (de_op od_add (de_op od_add (de_op od_mul (de_var (i := 2)) (de_op od_add de_int (de_op od_mul de_int (de_ix hr (de_var (i := 0)) de_int)))) (de_op od_mul (de_op od_mul de_int (de_ix hr (de_var (i := 0)) de_int)) (de_ix hr (de_var (i := 0)) de_int))) de_int))
  (dss_cons (ds_set (i := 3) S__law_next.nd (de_op od_mod (de_var (i := 3)) de_int))
  (dss_one (ds_ret (de_op od_mod (de_op od_div (de_op od_mod (de_op od_mul (de_var (i := 3)) (de_var (i := 3))) de_int) de_int) (de_var (i := 1))))))))))
abbrev s__law_one : Stmt := top 11
theorem S__law_one : FnScope ["deck", "some"] ["deck", "some"] (defScope s__law_one) := ⟨rfl, rfl, rfl, by decide +kernel, rfl, by decide +kernel, by decide +kernel⟩
theorem ok__law_one {P : Program} {w : World} {K : PySem.W.Frag} {mg : Str → Option Value} {base : Heap} (bt : Bt mg) (C__law_next : Cl P w K mg base 1 "_law_next" 2 d__law_next) {f : Addr} {fd : FuncData} (F : Fun K "_law_one" "_law_one" s__law_one f fd) : FnG P w K mg base 2 f fd ["deck", "some"] (spD K 2 d__law_one) :=
  fn_ok F S__law_one fun cdv A outer s H E hr =>
  (dss_one (ds_ret (de_ix hr (de_var (i := 1)) (de_callC C__law_next (hr.less (by first | exact Nat.le_refl _ | decide | exact Nat.le_trans (by decide) (Nat.le_add_right _ _))) rfl (da_cons (de_var (i := 0)) (da_cons (de_callB cd_len rfl bt.len (by decide +kernel) (da_cons (de_var (i := 1)) da_nil)) da_nil))))))
abbrev s__law_same : Stmt := top 12
theorem S__law_same : FnScope ["found", "due", "k"] ["found", "due"] (defScope s__law_same) := ⟨rfl, rfl, rfl, by decide +kernel, rfl, by decide +kernel, by decide +kernel⟩
theorem ok__law_same {P : Program} {w : World} {K : PySem.W.Frag} {mg : Str → Option Value} {base : Heap} (bt : Bt mg) {f : Addr} {fd : FuncData} (F : Fun K "_law_same" "_law_same" s__law_same f fd) (hm : mg "_law_same" = some (.ref f)) (hb : Binds K fd ["found", "due"] []) : ∀ n, FnG P w K mg base (1 + n) f fd ["found", "due"] (spD K 2 (d__law_same n))
  | 0 => fn_no
  | n + 1 => by
    have C__law_same : Cl P w K mg base (1 + n) "_law_same" 2 (d__law_same n) := ⟨⟨f, fd, _, ok__law_same bt F hm hb n, hm, F.kp, hb⟩⟩
    exact fn_ok F S__law_same fun cdv A outer s H E hr =>
  (dss_cons (ds_if (dt_val (de_isiT2 rfl bt.isinstance rfl bt.tuple rfl bt.list (de_var (i := 1)))) (dss_cons (ds_if (dt_cmp (od_ne hr) (de_isi rfl bt.isinstance rfl bt.tuple (by decide +kernel) (by decide) (by decide) (de_var (i := 0))) (de_isi rfl bt.isinstance rfl bt.tuple (by decide +kernel) (by decide) (by decide) (de_var (i := 1)))) (dss_one (ds_ret de_bl)) dss_nil)
  (dss_cons (ds_if (dt_cmp (od_ne hr) (de_isi rfl bt.isinstance rfl bt.list (by decide +kernel) (by decide) (by decide) (de_var (i := 0))) (de_isi rfl bt.isinstance rfl bt.list (by decide +kernel) (by decide) (by decide) (de_var (i := 1)))) (dss_one (ds_ret de_bl)) dss_nil)
  (dss_cons (ds_if (dt_cmp (od_ne hr) (de_callB cd_len rfl bt.len (by decide +kernel) (da_cons (de_var (i := 0)) da_nil)) (de_callB cd_len rfl bt.len (by decide +kernel) (da_cons (de_var (i := 1)) da_nil))) (dss_one (ds_ret de_bl)) dss_nil)
  (dss_one (ds_ret (de_cmp (od_eq hr) (de_comp (own := [("k", 2)]) rfl S__law_same.nd (ds_range1 rfl bt.range (da_cons (de_callB cd_len rfl bt.len (by decide +kernel) (da_cons (de_var (i := 1)) da_nil)) da_nil)) (by rfl) (fun _ _ _ _ _ => (di_name (i := 2) S__law_same.nd)) (fun _ _ _ _ _ => (dts_one (dt_not (dt_val (de_callC C__law_same (hr.less (by first | exact Nat.le_refl _ | decide | exact Nat.le_trans (by decide) (Nat.le_add_right _ _))) rfl (da_cons (de_ix hr (de_var (i := 0)) (de_var (i := 2))) (da_cons (de_ix hr (de_var (i := 1)) (de_var (i := 2))) da_nil))))))) (fun _ _ _ _ _ => (de_var (i := 2)))) (de_lst da_nil))))))) dss_nil)
  (dss_cons (ds_if (dt_val (de_isi rfl bt.isinstance rfl bt.dict (by decide +kernel) (by decide) (by decide) (de_var (i := 1)))) (dss_one (ds_ret (de_and (de_isi rfl bt.isinstance rfl bt.dict (by decide +kernel) (by decide) (by decide) (de_var (i := 0))) (de_one (de_cmp (od_eq hr) (de_var (i := 0)) (de_var (i := 1))))))) dss_nil)
  (dss_cons (ds_if (dt_cmp od_is (de_var (i := 1)) de_non) (dss_one (ds_ret (de_cmp od_is (de_var (i := 0)) de_non))) dss_nil)
  (dss_cons (ds_if (dt_val (de_isi rfl bt.isinstance rfl bt.str (by decide +kernel) (by decide) (by decide) (de_var (i := 1)))) (dss_one (ds_ret (de_and (de_isi rfl bt.isinstance rfl bt.str (by decide +kernel) (by decide) (by decide) (de_var (i := 0))) (de_one (de_cmp (od_eq hr) (de_var (i := 0)) (de_var (i := 1))))))) dss_nil)
  (dss_one (ds_ret (de_and (de_isi rfl bt.isinstance rfl bt.int_ (by decide +kernel) (by decide) (by decide) (de_var (i := 0))) (de_and (de_cmp (od_eq hr) (de_isi rfl bt.isinstance rfl bt.bool (by decide +kernel) (by decide) (by decide) (de_var (i := 0))) (de_isi rfl bt.isinstance rfl bt.bool (by decide +kernel) (by decide) (by decide) (de_var (i := 1)))) (de_one (de_cmp (od_eq hr) (de_var (i := 0)) (de_var (i := 1))))))))))))
abbrev s__law_part : Stmt := top 13
theorem S__law_part : FnScope ["deck", "items", "share", "item"] ["deck", "items", "share"] (defScope s__law_part) := ⟨rfl, rfl, rfl, by decide +kernel, rfl, by decide +kernel, by decide +kernel⟩
theorem ok__law_part {P : Program} {w : World} {K : PySem.W.Frag} {mg : Str → Option Value} {base : Heap} (bt : Bt mg) (C__law_next : Cl P w K mg base 1 "_law_next" 2 d__law_next) {f : Addr} {fd : FuncData} (F : Fun K "_law_part" "_law_part" s__law_part f fd) : FnG P w K mg base 2 f fd ["deck", "items", "share"] (spD K 3 d__law_part) :=
  fn_ok F S__law_part fun cdv A outer s H E hr =>
  (dss_one (ds_ret (de_callTy cd_tuple rfl bt.tuple (by decide +kernel) (da_cons (de_comp (own := [("item", 3)]) rfl S__law_part.nd (ds_seq (de_var (i := 1))) (by rfl) (fun _ _ _ _ _ => (di_name (i := 3) S__law_part.nd)) (fun _ _ _ _ _ => (dts_one (dt_cmp (od_ge hr) (de_callC C__law_next (hr.less (by first | exact Nat.le_refl _ | decide | exact Nat.le_trans (by decide) (Nat.le_add_right _ _))) rfl (da_cons (de_var (i := 0)) (da_cons de_int da_nil))) (de_var (i := 2))))) (fun _ _ _ _ _ => (de_var (i := 3)))) da_nil))))
abbrev s__law_shuffled : Stmt := top 14
theorem S__law_shuffled : FnScope ["deck", "count", "left", "found"] ["deck", "count"] (defScope s__law_shuffled) := ⟨rfl, rfl, rfl, by decide +kernel, rfl, by decide +kernel, by decide +kernel⟩
theorem ok__law_shuffled {P : Program} {w : World} {K : PySem.W.Frag} {mg : Str → Option Value} {base : Heap} (bt : Bt mg) (C__law_next : Cl P w K mg base 1 "_law_next" 2 d__law_next) {f : Addr} {fd : FuncData} (F : Fun K "_law_shuffled" "_law_shuffled" s__law_shuffled f fd) : FnG P w K mg base 2 f fd ["deck", "count"] (spD K 2 d__law_shuffled) :=
  fn_ok F S__law_shuffled fun cdv A outer s H E hr =>
  (dss_cons (ds_par (i := 2) (j := 3) rfl S__law_shuffled.nd (da_cons (de_listR1B rfl rfl bt.list rfl bt.range (da_cons (de_var (i := 1)) da_nil)) (da_cons (de_lstB da_nil) da_nil)))
  (dss_cons (ds_while (L := LL) (dt_cmp (od_ne hr) (de_var (i := 2)) (de_lst da_nil)) (dss_one (ds_expr (de_append (de_var (i := 3)) (de_popAt (de_var (i := 2)) (de_callC C__law_next (hr.less (by first | exact Nat.le_refl _ | decide | exact Nat.le_trans (by decide) (Nat.le_add_right _ _))) rfl (da_cons (de_var (i := 0)) (da_cons (de_callB cd_len rfl bt.len (by decide +kernel) (da_cons (de_var (i := 2)) da_nil)) da_nil))))))))
  (dss_one (ds_ret (de_callTy cd_tuple rfl bt.tuple (by decide +kernel) (da_cons (de_var (i := 3)) da_nil))))))
abbrev s__law_intervals : Stmt := top 15
theorem S__law_intervals : FnScope ["deck", "demands", "offers", "order", "found", "k", "low"] ["deck", "demands", "offers"] (defScope s__law_intervals) := ⟨rfl, rfl, rfl, by decide +kernel, rfl, by decide +kernel, by decide +kernel⟩
theorem ok__law_intervals {P : Program} {w : World} {K : PySem.W.Frag} {mg : Str → Option Value} {base : Heap} (bt : Bt mg) (C__law_shuffled : Cl P w K mg base 2 "_law_shuffled" 2 d__law_shuffled) (C__law_next : Cl P w K mg base 1 "_law_next" 2 d__law_next) {f : Addr} {fd : FuncData} (F : Fun K "_law_intervals" "_law_intervals" s__law_intervals f fd) : FnG P w K mg base 3 f fd ["deck", "demands", "offers"] (spD K 3 d__law_intervals) :=
  fn_ok F S__law_intervals fun cdv A outer s H E hr =>
  (dss_cons (ds_par (i := 3) (j := 4) rfl S__law_intervals.nd (da_cons (de_callC C__law_shuffled (hr.less (by first | exact Nat.le_refl _ | decide | exact Nat.le_trans (by decide) (Nat.le_add_right _ _))) rfl (da_cons (de_var (i := 0)) (da_cons (de_var (i := 1)) da_nil))) (da_cons (de_lstB da_nil) da_nil)))
  (dss_cons (ds_for rfl (ds_range1 rfl bt.range (da_cons (de_var (i := 2)) da_nil)) (di_name (i := 5) S__law_intervals.nd) (dss_cons (ds_set (i := 6) S__law_intervals.nd (de_callC C__law_next (hr.less (by first | exact Nat.le_refl _ | decide | exact Nat.le_trans (by decide) (Nat.le_add_right _ _))) rfl (da_cons (de_var (i := 0)) (da_cons (de_var (i := 1)) da_nil))))
  (dss_one (ds_expr (de_append (de_var (i := 4)) (de_callTy cd_tuple rfl bt.tuple (by decide +kernel) (da_cons (de_callB ((cl_sorted hr)).toD rfl bt.sorted (by decide +kernel) (da_cons (de_slice (de_var (i := 3)) (do_some (de_var (i := 6))) (do_some (de_op od_add (de_op od_add (de_var (i := 6)) de_int) (de_callC C__law_next (hr.less (by first | exact Nat.le_refl _ | decide | exact Nat.le_trans (by decide) (Nat.le_add_right _ _))) rfl (da_cons (de_var (i := 0)) (da_cons (de_var (i := 1)) da_nil)))))) da_nil)) da_nil)))))))
  (dss_one (ds_ret (de_tup (da_cons (de_var (i := 1)) (da_cons (de_callTy cd_tuple rfl bt.tuple (by decide +kernel) (da_cons (de_var (i := 4)) da_nil)) da_nil)))))))
abbrev s__law_around : Stmt := top 16
theorem S__law_around : FnScope ["deck", "demands", "offers", "order", "size", "found", "k"] ["deck", "demands", "offers"] (defScope s__law_around) := ⟨rfl, rfl, rfl, by decide +kernel, rfl, by decide +kernel, by decide +kernel⟩
theorem ok__law_around {P : Program} {w : World} {K : PySem.W.Frag} {mg : Str → Option Value} {base : Heap} (bt : Bt mg) (C__law_shuffled : Cl P w K mg base 2 "_law_shuffled" 2 d__law_shuffled) (C__law_next : Cl P w K mg base 1 "_law_next" 2 d__law_next) (C__law_part : Cl P w K mg base 2 "_law_part" 3 d__law_part) {f : Addr} {fd : FuncData} (F : Fun K "_law_around" "_law_around" s__law_around f fd) : FnG P w K mg base 3 f fd ["deck", "demands", "offers"] (spD K 3 d__law_around) :=
  fn_ok F S__law_around fun cdv A outer s H E hr =>
  (dss_cons (ds_par (i := 3) (j := 4) rfl S__law_around.nd (da_cons (de_callC C__law_shuffled (hr.less (by first | exact Nat.le_refl _ | decide | exact Nat.le_trans (by decide) (Nat.le_add_right _ _))) rfl (da_cons (de_var (i := 0)) (da_cons (de_var (i := 1)) da_nil))) (da_cons (de_op od_add de_int (de_callC C__law_next (hr.less (by first | exact Nat.le_refl _ | decide | exact Nat.le_trans (by decide) (Nat.le_add_right _ _))) rfl (da_cons (de_var (i := 0)) (da_cons de_int da_nil)))) da_nil)))
  (dss_cons (ds_set (i := 5) S__law_around.nd (de_lstB da_nil))
  (dss_cons (ds_for rfl (ds_range1 rfl bt.range (da_cons (de_var (i := 2)) da_nil)) (di_name (i := 6) S__law_around.nd) (dss_one (ds_if (dw_pt (dw_and (dt_cmp (od_le hr) (de_var (i := 4)) (de_var (i := 1))) (dw_and1 (dt_cmp (od_lt hr) (de_var (i := 6)) (de_var (i := 4)))))) (dss_one (ds_expr (de_append (de_var (i := 5)) (de_callTy cd_tuple rfl bt.tuple (by decide +kernel) (da_cons (de_callB ((cl_sorted hr)).toD rfl bt.sorted (by decide +kernel) (da_cons (de_op od_add (de_lst (da_cons (de_ix hr (de_var (i := 3)) (de_var (i := 6))) (da_cons (de_ix hr (de_var (i := 3)) (de_op od_mod (de_op od_add (de_var (i := 6)) de_int) (de_var (i := 4)))) da_nil))) (de_callTy (cl_list).toD rfl bt.list (by decide +kernel) (da_cons (de_callC C__law_part (hr.less (by first | exact Nat.le_refl _ | decide | exact Nat.le_trans (by decide) (Nat.le_add_right _ _))) rfl (da_cons (de_var (i := 0)) (da_cons (de_slice (de_var (i := 3)) (do_some (de_var (i := 4))) do_none) (da_cons de_int da_nil)))) da_nil))) da_nil)) da_nil))))) (dss_one (ds_expr (de_append (de_var (i := 5)) (de_callC C__law_part (hr.less (by first | exact Nat.le_refl _ | decide | exact Nat.le_trans (by decide) (Nat.le_add_right _ _))) rfl (da_cons (de_var (i := 0)) (da_cons (de_listR1 rfl rfl bt.list rfl bt.range (da_cons (de_var (i := 1)) da_nil)) (da_cons (de_op od_add de_int (de_callC C__law_next (hr.less (by first | exact Nat.le_refl _ | decide | exact Nat.le_trans (by decide) (Nat.le_add_right _ _))) rfl (da_cons (de_var (i := 0)) (da_cons de_int da_nil)))) da_nil))))))))))
  (dss_one (ds_ret (de_tup (da_cons (de_var (i := 1)) (da_cons (de_callTy cd_tuple rfl bt.tuple (by decide +kernel) (da_cons (de_comp (own := [("k", 6)]) rfl S__law_around.nd (ds_range1 rfl bt.range (da_cons (de_var (i := 2)) da_nil)) (by rfl) (fun _ _ _ _ _ => (di_name (i := 6) S__law_around.nd)) (fun _ _ _ _ _ => dts_nil) (fun _ _ _ _ _ => (de_popAt (de_var (i := 5)) (de_callC C__law_next (hr.less (by first | exact Nat.le_refl _ | decide | exact Nat.le_trans (by decide) (Nat.le_add_right _ _))) rfl (da_cons (de_var (i := 0)) (da_cons (de_callB cd_len rfl bt.len (by decide +kernel) (da_cons (de_var (i := 5)) da_nil)) da_nil)))))) da_nil)) da_nil))))))))
abbrev s__law_any : Stmt := top 17
theorem S__law_any : FnScope ["deck", "demands", "offers", "share", "found", "k"] ["deck", "demands", "offers"] (defScope s__law_any) := ⟨rfl, rfl, rfl, by decide +kernel, rfl, by decide +kernel, by decide +kernel⟩
theorem ok__law_any {P : Program} {w : World} {K : PySem.W.Frag} {mg : Str → Option Value} {base : Heap} (bt : Bt mg) (C__law_next : Cl P w K mg base 1 "_law_next" 2 d__law_next) (C__law_one : Cl P w K mg base 2 "_law_one" 2 d__law_one) (C__law_part : Cl P w K mg base 2 "_law_part" 3 d__law_part) {f : Addr} {fd : FuncData} (F : Fun K "_law_any" "_law_any" s__law_any f fd) : FnG P w K mg base 3 f fd ["deck", "demands", "offers"] (spD K 3 d__law_any) :=
  fn_ok F S__law_any fun cdv A outer s H E hr =>
  (dss_cons (ds_par (i := 3) (j := 4) rfl S__law_any.nd (da_cons (de_callC C__law_next (hr.less (by first | exact Nat.le_refl _ | decide | exact Nat.le_trans (by decide) (Nat.le_add_right _ _))) rfl (da_cons (de_var (i := 0)) (da_cons de_int da_nil))) (da_cons (de_lstB da_nil) da_nil)))
  (dss_cons (ds_for rfl (ds_range1 rfl bt.range (da_cons (de_var (i := 2)) da_nil)) (di_name (i := 5) S__law_any.nd) (dss_one (ds_if (dw_pt (dw_and (dt_cmp (od_ne hr) (de_var (i := 4)) (de_lst da_nil)) (dw_and1 (dt_cmp (od_eq hr) (de_callC C__law_next (hr.less (by first | exact Nat.le_refl _ | decide | exact Nat.le_trans (by decide) (Nat.le_add_right _ _))) rfl (da_cons (de_var (i := 0)) (da_cons de_int da_nil))) de_int)))) (dss_one (ds_expr (de_append (de_var (i := 4)) (de_callC C__law_one (hr.less (by first | exact Nat.le_refl _ | decide | exact Nat.le_trans (by decide) (Nat.le_add_right _ _))) rfl (da_cons (de_var (i := 0)) (da_cons (de_var (i := 4)) da_nil)))))) (dss_one (ds_expr (de_append (de_var (i := 4)) (de_callC C__law_part (hr.less (by first | exact Nat.le_refl _ | decide | exact Nat.le_trans (by decide) (Nat.le_add_right _ _))) rfl (da_cons (de_var (i := 0)) (da_cons (de_listR1 rfl rfl bt.list rfl bt.range (da_cons (de_var (i := 1)) da_nil)) (da_cons (de_var (i := 3)) da_nil))))))))))
  (dss_one (ds_ret (de_tup (da_cons (de_var (i := 1)) (da_cons (de_callTy cd_tuple rfl bt.tuple (by decide +kernel) (da_cons (de_var (i := 4)) da_nil)) da_nil)))))))
abbrev s__law_table : Stmt := top 18
theorem S__law_table : FnScope ["deck", "demands", "offers", "way"] ["deck", "demands", "offers"] (defScope s__law_table) := ⟨rfl, rfl, rfl, by decide +kernel, rfl, by decide +kernel, by decide +kernel⟩
theorem ok__law_table {P : Program} {w : World} {K : PySem.W.Frag} {mg : Str → Option Value} {base : Heap} (bt : Bt mg) (C__law_next : Cl P w K mg base 1 "_law_next" 2 d__law_next) (C__law_intervals : Cl P w K mg base 3 "_law_intervals" 3 d__law_intervals) (C__law_around : Cl P w K mg base 3 "_law_around" 3 d__law_around) (C__law_any : Cl P w K mg base 3 "_law_any" 3 d__law_any) {f : Addr} {fd : FuncData} (F : Fun K "_law_table" "_law_table" s__law_table f fd) : FnG P w K mg base 4 f fd ["deck", "demands", "offers"] (spD K 3 d__law_table) :=
  fn_ok F S__law_table fun cdv A outer s H E hr =>
  (dss_cons (ds_par (i := 1) (j := 2) rfl S__law_table.nd (da_cons (de_op od_add de_int (de_callC C__law_next (hr.less (by first | exact Nat.le_refl _ | decide | exact Nat.le_trans (by decide) (Nat.le_add_right _ _))) rfl (da_cons (de_var (i := 0)) (da_cons (de_var (i := 1)) da_nil)))) (da_cons (de_callC C__law_next (hr.less (by first | exact Nat.le_refl _ | decide | exact Nat.le_trans (by decide) (Nat.le_add_right _ _))) rfl (da_cons (de_var (i := 0)) (da_cons (de_op od_add (de_var (i := 2)) de_int) da_nil))) da_nil)))
  (dss_cons (ds_set (i := 3) S__law_table.nd (de_callC C__law_next (hr.less (by first | exact Nat.le_refl _ | decide | exact Nat.le_trans (by decide) (Nat.le_add_right _ _))) rfl (da_cons (de_var (i := 0)) (da_cons de_int da_nil))))
  (dss_cons (ds_if (dt_cmp (od_lt hr) (de_var (i := 3)) de_int) (dss_one (ds_ret (de_callC C__law_intervals (hr.less (by first | exact Nat.le_refl _ | decide | exact Nat.le_trans (by decide) (Nat.le_add_right _ _))) rfl (da_cons (de_var (i := 0)) (da_cons (de_var (i := 1)) (da_cons (de_var (i := 2)) da_nil)))))) dss_nil)
  (dss_one (ds_ret (de_if (dt_cmp (od_eq hr) (de_var (i := 3)) de_int) (de_callC C__law_around (hr.less (by first | exact Nat.le_refl _ | decide | exact Nat.le_trans (by decide) (Nat.le_add_right _ _))) rfl (da_cons (de_var (i := 0)) (da_cons (de_var (i := 1)) (da_cons (de_var (i := 2)) da_nil)))) (de_callC C__law_any (hr.less (by first | exact Nat.le_refl _ | decide | exact Nat.le_trans (by decide) (Nat.le_add_right _ _))) rfl (da_cons (de_var (i := 0)) (da_cons (de_var (i := 1)) (da_cons (de_var (i := 2)) da_nil))))))))))
abbrev s__law_is_free : Stmt := top 19
theorem S__law_is_free : FnScope ["masks", "rest", "demand", "some", "mask", "one", "other"] ["masks", "rest", "demand"] (defScope s__law_is_free) := ⟨rfl, rfl, rfl, by decide +kernel, rfl, by decide +kernel, by decide +kernel⟩
theorem ok__law_is_free {P : Program} {w : World} {K : PySem.W.Frag} {mg : Str → Option Value} {base : Heap} (bt : Bt mg) {f : Addr} {fd : FuncData} (F : Fun K "_law_is_free" "_law_is_free" s__law_is_free f fd) : FnG P w K mg base 1 f fd ["masks", "rest", "demand"] (spD K 3 d__law_is_free) :=
  fn_ok F S__law_is_free fun cdv A outer s H E hr =>
  (dss_cons (ds_set (i := 3) S__law_is_free.nd (de_callB ((cl_sorted hr)).toD rfl bt.sorted (by decide +kernel) (da_cons (de_comp (own := [("mask", 4)]) rfl S__law_is_free.nd (ds_seq (de_var (i := 0))) (by rfl) (fun _ _ _ _ _ => (di_name (i := 4) S__law_is_free.nd)) (fun _ _ _ _ _ => (dts_one (dt_cmp (od_eq hr) (de_op od_and (de_op od_shr (de_var (i := 4)) (de_var (i := 2))) de_int) de_int))) (fun _ _ _ _ _ => (de_op od_and (de_var (i := 4)) (de_var (i := 1))))) da_nil)))
  (dss_one (ds_ret (de_cmp (od_eq hr) (de_comp (own := [("one", 5), ("other", 6)]) rfl S__law_is_free.nd (ds_zip2 rfl bt.zip (da_cons (de_var (i := 3)) (da_cons (de_slice (de_var (i := 3)) (do_some de_int) do_none) da_nil))) (by rfl) (fun _ _ _ _ _ => (di_tup rfl (dps_cons (dp_name (i := 5) S__law_is_free.nd) (dps_cons (dp_name (i := 6) S__law_is_free.nd) dps_nil)))) (fun _ _ _ _ _ => (dts_one (dt_cmp (od_ne hr) (de_op od_and (de_var (i := 5)) (de_var (i := 6))) (de_var (i := 5))))) (fun _ _ _ _ _ => de_int)) (de_lst da_nil)))))
abbrev s__law_ways : Stmt := top 20
theorem S__law_ways : FnScope ["table", "masks", "every", "layer", "turn", "further", "gone", "d", "other", "offer"] ["table"] (defScope s__law_ways) := ⟨rfl, rfl, rfl, by decide +kernel, rfl, by decide +kernel, by decide +kernel⟩
theorem ok__law_ways {P : Program} {w : World} {K : PySem.W.Frag} {mg : Str → Option Value} {base : Heap} (bt : Bt mg) (C__law_is_free : Cl P w K mg base 1 "_law_is_free" 3 d__law_is_free) {f : Addr} {fd : FuncData} (F : Fun K "_law_ways" "_law_ways" s__law_ways f fd) : FnG P w K mg base 2 f fd ["table"] (spD K 1 d__law_ways) :=
  fn_ok F S__law_ways fun cdv A outer s H E hr =>
  (dss_cons (ds_par (i := 1) (j := 2) rfl S__law_ways.nd (da_cons (de_comp (own := [("offer", 9)]) rfl S__law_ways.nd (ds_seq (de_ix hr (de_var (i := 0)) de_int)) (by rfl) (fun _ _ _ _ _ => (di_name (i := 9) S__law_ways.nd)) (fun _ _ _ _ _ => dts_nil) (fun _ _ _ _ _ => (de_callB (cd_sum rfl) rfl bt.sum (by decide +kernel) (da_cons (de_comp (own := [("d", 7)]) rfl S__law_ways.nd (ds_seq (de_var (i := 9))) (by rfl) (fun _ _ _ _ _ => (di_name (i := 7) S__law_ways.nd)) (fun _ _ _ _ _ => dts_nil) (fun _ _ _ _ _ => (de_op od_shl de_int (de_var (i := 7))))) da_nil)))) (da_cons (de_op od_sub (de_op od_shl de_int (de_ix hr (de_var (i := 0)) de_int)) de_int) da_nil)))
  (dss_cons (ds_set (i := 3) S__law_ways.nd (de_dict1B de_int de_int))
  (dss_cons (ds_for rfl (ds_range1 rfl bt.range (da_cons (de_ix hr (de_var (i := 0)) de_int) da_nil)) (di_name (i := 4) S__law_ways.nd) (dss_cons (ds_set (i := 5) S__law_ways.nd de_dictB)
  (dss_cons (ds_lock 3 (ds_for rfl (ds_dict (i := 3)) (di_name (i := 6) S__law_ways.nd) (dss_one (ds_for rfl (ds_range1 rfl bt.range (da_cons (de_ix hr (de_var (i := 0)) de_int) da_nil)) (di_name (i := 7) S__law_ways.nd) (dss_one (ds_if (dw_pt (dw_and (dt_cmp (od_eq hr) (de_op od_and (de_op od_shr (de_var (i := 6)) (de_var (i := 7))) de_int) de_int) (dw_and1 (dt_val (de_callC C__law_is_free (hr.less (by first | exact Nat.le_refl _ | decide | exact Nat.le_trans (by decide) (Nat.le_add_right _ _))) rfl (da_cons (de_var (i := 1)) (da_cons (de_op od_sub (de_var (i := 2)) (de_var (i := 6))) (da_cons (de_var (i := 7)) da_nil)))))))) (dss_cons (ds_set (i := 8) S__law_ways.nd (de_op od_add (de_var (i := 6)) (de_op od_shl de_int (de_var (i := 7)))))
  (dss_one (ds_asg (de_op od_add (de_get hr (de_var (i := 5)) (de_var (i := 8)) de_int) (de_ix hr (de_var (i := 3)) (de_var (i := 6)))) (dg_sub hr (de_var (i := 5)) (de_var (i := 8)))))) dss_nil))))))
  (dss_one (ds_set (i := 3) S__law_ways.nd (de_var (i := 5)))))))
  (dss_one (ds_ret (de_callB (cd_sum rfl) rfl bt.sum (by decide +kernel) (da_cons (de_lock 3 (de_comp (own := [("gone", 6)]) rfl S__law_ways.nd (ds_dict (i := 3)) (by rfl) (fun _ _ _ _ _ => (di_name (i := 6) S__law_ways.nd)) (fun _ _ _ _ _ => dts_nil) (fun _ _ _ _ _ => (de_ix hr (de_var (i := 3)) (de_var (i := 6)))))) da_nil)))))))
abbrev s_law : Stmt := top 21
theorem S_law : FnScope ["script", "deck", "turn", "table", "kept", "due", "free", "number", "offer"] ["script"] (defScope s_law) := ⟨rfl, rfl, rfl, by decide +kernel, rfl, by decide +kernel, by decide +kernel⟩
def b_law : Sx := sCons (sSet 1 (eFn 1 (d__law_deck) (aCons (eVar 0) (aNil))))
  (sCons (sFor (srcR1 (aCons (eC (.int 2)) (aNil))) (.nm 2) (sCons (sSet 3 (eFn 3 (d__law_table) (aCons (eVar 1) (aCons (eIx (eLst (aCons (eC (.int 5)) (aCons (eC (.int 7)) (aCons (eC (.int 8)) (aNil))))) (eFn 2 (d__law_next) (aCons (eVar 1) (aCons (eC (.int 3)) (aNil))))) (aCons (eC (.int 10)) (aNil))))))
  (sCons (sPar 4 5 (aCons (eCall bRepr (aCons (eVar 3) (aNil))) (aCons (eFn 1 (d__law_ways) (aCons (eVar 3) (aNil))) (aNil))))
  (sCons (sIf (tOrD (tNotD (tE (eFn 2 (d__law_same RD) (aCons (eFn 1 (d_count_nested_orders) (aCons (eVar 3) (aNil))) (aCons (eVar 5) (aNil)))))) (tE (e2 gNe (eCall bRepr (aCons (eVar 3) (aNil))) (eVar 4)))) (sRet (eC (.bl false))) (sNil))
  (sCons (sSet 6 (eTup (aCons (eCall bMin (aCons (eIx (eVar 3) (eC (.int 0))) (aCons (eC (.int 7)) (aNil)))) (aCons (eCall bTuple (aCons (eComp [8] (srcS (eIx (eVar 3) (eC (.int 1)))) (.nm 8) (tE (e2 gLt (eSl (eVar 8) oNone (oSome (eC (.int 1)))) (eTup (aCons (eC (.int 7)) (aNil))))) (eSl (eVar 8) oNone (oSome (eC (.int 1))))) (aNil))) (aNil)))))
  (sCons (sSet 5 (eC (.int 1)))
  (sCons (sFor (srcR1 (aCons (eIx (eVar 6) (eC (.int 0))) (aNil))) (.nm 7) (sSet 5 (e2 gMul (eVar 5) (e2 gAdd (eVar 7) (eC (.int 1))))))
  (sIf (tNotD (tE (eFn 2 (d__law_same RD) (aCons (eFn 1 (d_count_nested_orders) (aCons (eVar 6) (aNil))) (aCons (eVar 5) (aNil)))))) (sRet (eC (.bl false))) (sNil)))))))))
  (sRet (eC (.bl true))))
def d_law : Den := fnF 1 9 b_law
theorem ok_law {P : Program} {w : World} {K : PySem.W.Frag} {mg : Str → Option Value} {base : Heap} (bt : Bt mg) (C__law_deck : Cl P w K mg base 1 "_law_deck" 1 d__law_deck) (C__law_table : Cl P w K mg base 4 "_law_table" 3 d__law_table) (C__law_ways : Cl P w K mg base 2 "_law_ways" 1 d__law_ways) (C__law_same : Cl P w K mg base 41 "_law_same" 2 (d__law_same RD)) (C__law_next : Cl P w K mg base 1 "_law_next" 2 d__law_next) (C_count_nested_orders : Cl P w K mg base 44 "count_nested_orders" 1 d_count_nested_orders) {f : Addr} {fd : FuncData} (F : Fun K "law" "law" s_law f fd) : FnG P w K mg base 45 f fd ["script"] (spD K 1 d_law) :=
  fn_ok F S_law fun cdv A outer s H E hr =>
  (dss_cons (ds_set (i := 1) S_law.nd (de_callC C__law_deck (hr.less (by first | exact Nat.le_refl _ | decide | exact Nat.le_trans (by decide) (Nat.le_add_right _ _))) rfl (da_cons (de_var (i := 0)) da_nil)))
  (dss_cons (ds_for rfl (ds_range1 rfl bt.range (da_cons de_int da_nil)) (di_name (i := 2) S_law.nd) (dss_cons (ds_set (i := 3) S_law.nd (de_callC C__law_table (hr.less (by first | exact Nat.le_refl _ | decide | exact Nat.le_trans (by decide) (Nat.le_add_right _ _))) rfl (da_cons (de_var (i := 1)) (da_cons (de_ix hr (de_lst (da_cons de_int (da_cons de_int (da_cons de_int da_nil)))) (de_callC C__law_next (hr.less (by first | exact Nat.le_refl _ | decide | exact Nat.le_trans (by decide) (Nat.le_add_right _ _))) rfl (da_cons (de_var (i := 1)) (da_cons de_int da_nil)))) (da_cons de_int da_nil)))))
  (dss_cons (ds_par (i := 4) (j := 5) rfl S_law.nd (da_cons (de_callB (cd_repr hr) rfl bt.repr (by decide +kernel) (da_cons (de_var (i := 3)) da_nil)) (da_cons (de_callC C__law_ways (hr.less (by first | exact Nat.le_refl _ | decide | exact Nat.le_trans (by decide) (Nat.le_add_right _ _))) rfl (da_cons (de_var (i := 3)) da_nil)) da_nil)))
  (dss_cons (ds_if (dw_pt (dw_or (dt_not (dt_val (de_callC C__law_same (hr.less (by first | exact Nat.le_refl _ | decide | exact Nat.le_trans (by decide) (Nat.le_add_right _ _))) rfl (da_cons (de_callC C_count_nested_orders (hr.less (by first | exact Nat.le_refl _ | decide | exact Nat.le_trans (by decide) (Nat.le_add_right _ _))) rfl (da_cons (de_var (i := 3)) da_nil)) (da_cons (de_var (i := 5)) da_nil))))) (dw_or1 (dt_cmp (od_ne hr) (de_callB (cd_repr hr) rfl bt.repr (by decide +kernel) (da_cons (de_var (i := 3)) da_nil)) (de_var (i := 4)))))) (dss_one (ds_ret de_bl)) dss_nil)
  (dss_cons (ds_set (i := 6) S_law.nd (de_tup (da_cons (de_callB (cd_min rfl) rfl bt.min (by decide +kernel) (da_cons (de_ix hr (de_var (i := 3)) de_int) (da_cons de_int da_nil))) (da_cons (de_callTy cd_tuple rfl bt.tuple (by decide +kernel) (da_cons (de_comp (own := [("offer", 8)]) rfl S_law.nd (ds_seq (de_ix hr (de_var (i := 3)) de_int)) (by rfl) (fun _ _ _ _ _ => (di_name (i := 8) S_law.nd)) (fun _ _ _ _ _ => (dts_one (dt_cmp (od_lt hr) (de_slice (de_var (i := 8)) do_none (do_some de_int)) (de_tup (da_cons de_int da_nil))))) (fun _ _ _ _ _ => (de_slice (de_var (i := 8)) do_none (do_some de_int)))) da_nil)) da_nil))))
  (dss_cons (ds_set (i := 5) S_law.nd de_int)
  (dss_cons (ds_for rfl (ds_range1 rfl bt.range (da_cons (de_ix hr (de_var (i := 6)) de_int) da_nil)) (di_name (i := 7) S_law.nd) (dss_one (ds_set (i := 5) S_law.nd (de_op od_mul (de_var (i := 5)) (de_op od_add (de_var (i := 7)) de_int)))))
  (dss_one (ds_if (dt_not (dt_val (de_callC C__law_same (hr.less (by first | exact Nat.le_refl _ | decide | exact Nat.le_trans (by decide) (Nat.le_add_right _ _))) rfl (da_cons (de_callC C_count_nested_orders (hr.less (by first | exact Nat.le_refl _ | decide | exact Nat.le_trans (by decide) (Nat.le_add_right _ _))) rfl (da_cons (de_var (i := 6)) da_nil)) (da_cons (de_var (i := 5)) da_nil))))) (dss_one (ds_ret de_bl)) dss_nil)))))))))
  (dss_one (ds_ret de_bl))))
end K14

namespace K14
open PySem Dl
theorem off_len8 {d : Nat} {o : List Int} (h : OffOk (d : Int) o) : o.length ≤ d := by
  have := asc_few (a := 0) (N := (d : Int)) h.asc h.rng (Int.natCast_nonneg d)
  omega
theorem cut_to1 {α : Type} (xs : List α) : cutL xs none (some 1) = xs.take 1 := by
  unfold cutL
  rw [HT.sIx_none, show HT.sIx xs.length xs.length (some 1) = min 1 xs.length from HT.sIx_nat _ _ 1]
  simp
def keepO (o : List Int) : Bool := HT.lexLt (o.take 1) [7]
abbrev duB : Sx := sSet 5 (e2 gMul (eVar 5) (e2 gAdd (eVar 7) (eC (.int 1))))
theorem due_loop (e0 e1 e2' e3 e4 e6 e8 : Option W) (S : Sto) : ∀ (m i : Nat) (x7 : Option W), i + m ≤ 20 →
    ∃ y7, forL gTrue (.nm 7) duB ((List.range' i m).map fun (k : Nat) => Item.one (.t (.int (k : Int)))) [e0, e1, e2', e3, e4, some (.t (.int (fac i))), e6, x7, e8] S = .nx [e0, e1, e2', e3, e4, some (.t (.int (fac (i + m)))), e6, y7, e8] S
  | 0, i, x7, _ => ⟨x7, by simp [forL]⟩
  | m + 1, i, x7, h => by
    obtain ⟨y7, q⟩ := due_loop e0 e1 e2' e3 e4 e6 e8 S m (i + 1) (some (.t (.int (i : Int)))) (by omega)
    refine ⟨y7, ?_⟩
    have hs : smallI ((i : Int) + 1) = true := by simp [smallI]; omega
    have hf : fac i * ((i : Int) + 1) = fac (i + 1) := rfl
    rw [List.range'_succ, List.map_cons]
    unfold forL
    simp only [gTrue_eq, if_true, bI_nm, List.set_cons_succ, List.set_cons_zero, ap_sSet, ap_e2, ap_var, ap_C, List.getElem?_cons_succ, List.getElem?_cons_zero, bind_ok', view_t, Option.bind_some, add_int, mul_int, hs, Bool.or_true, Option.map_some, of_some, thenS_ok, loopS_nx, hf]
    rw [show i + (m + 1) = i + 1 + m by omega]
    exact q
abbrev lwB : Sx := sCons (sSet 3 (eFn 3 (d__law_table) (aCons (eVar 1) (aCons (eIx (eLst (aCons (eC (.int 5)) (aCons (eC (.int 7)) (aCons (eC (.int 8)) (aNil))))) (eFn 2 (d__law_next) (aCons (eVar 1) (aCons (eC (.int 3)) (aNil))))) (aCons (eC (.int 10)) (aNil))))))
  (sCons (sPar 4 5 (aCons (eCall bRepr (aCons (eVar 3) (aNil))) (aCons (eFn 1 (d__law_ways) (aCons (eVar 3) (aNil))) (aNil))))
  (sCons (sIf (tOrD (tNotD (tE (eFn 2 (d__law_same RD) (aCons (eFn 1 (d_count_nested_orders) (aCons (eVar 3) (aNil))) (aCons (eVar 5) (aNil)))))) (tE (e2 gNe (eCall bRepr (aCons (eVar 3) (aNil))) (eVar 4)))) (sRet (eC (.bl false))) (sNil))
  (sCons (sSet 6 (eTup (aCons (eCall bMin (aCons (eIx (eVar 3) (eC (.int 0))) (aCons (eC (.int 7)) (aNil)))) (aCons (eCall bTuple (aCons (eComp [8] (srcS (eIx (eVar 3) (eC (.int 1)))) (.nm 8) (tE (e2 gLt (eSl (eVar 8) oNone (oSome (eC (.int 1)))) (eTup (aCons (eC (.int 7)) (aNil))))) (eSl (eVar 8) oNone (oSome (eC (.int 1))))) (aNil))) (aNil)))))
  (sCons (sSet 5 (eC (.int 1)))
  (sCons (sFor (srcR1 (aCons (eIx (eVar 6) (eC (.int 0))) (aNil))) (.nm 7) duB)
  (sIf (tNotD (tE (eFn 2 (d__law_same RD) (aCons (eFn 1 (d_count_nested_orders) (aCons (eVar 6) (aNil))) (aCons (eVar 5) (aNil)))))) (sRet (eC (.bl false))) (sNil)))))))
theorem same_RD (a : Int) (S : Sto) : d__law_same RD [.t (.int a), .t (.int a)] S = .ok (.t (.bl true)) S := same_int 39 a S
theorem turn_ok (e0 x2 x3 x4 x5 x6 x7 x8 : Option W) {δ : Deck} {b : Int} (h : δ.Ok b) (hb : b < 999000000000) :
    ∃ (y3 y4 y5 y6 y7 y8 : Option W) (δ' : Deck), lwB [e0, some (.r 2), x2, x3, x4, x5, x6, x7, x8] (dk δ []) = .nx [e0, some (.r 2), x2, y3, y4, y5, y6, y7, y8] (dk δ' []) ∧ δ'.Ok (b + 3000) := by
  obtain ⟨v, δ1, q1, v0, v1, h1⟩ := next_ok (m := 3) [] h (by omega) (by decide) (by decide)
  have hdm : ∃ dm : Int, L2.atI [T.int 5, .int 7, .int 8] v = some (.int dm) ∧ 0 < dm ∧ dm ≤ 8 := by
    have : v = 0 ∨ v = 1 ∨ v = 2 := by omega
    rcases this with rfl | rfl | rfl
    · exact ⟨5, by simp [L2.atI, L2.ixN], by decide, by decide⟩
    · exact ⟨7, by simp [L2.atI, L2.ixN], by decide, by decide⟩
    · exact ⟨8, by simp [L2.atI, L2.ixN], by decide, by decide⟩
  obtain ⟨dm, a5, dm0, dm1⟩ := hdm
  obtain ⟨d', os, δ2, q2, d0, d1, ho, hlen, h2⟩ := table_ok (Z := []) (dm := dm) (om := 10) h1 (by omega) dm0 (by omega) (by decide) (by decide)
  obtain ⟨d, rfl⟩ := Int.eq_ofNat_of_zero_le (show 0 ≤ d' by omega)
  have hd8 : d ≤ 8 := by omega
  have hos : os.length ≤ 10 := by omega
  have ho1 : ∀ o ∈ os, (∀ x ∈ o, 0 ≤ x ∧ x < 1000) ∧ o.length ≤ 100 := fun o hm => ⟨fun x hx => by have := (ho o hm).rng x hx; omega, by have := off_len8 (ho o hm); omega⟩
  have ho2 : ∀ o ∈ os, (∀ x ∈ o, 0 ≤ x ∧ x < 1000) ∧ o.length ≤ 100000 := fun o hm => ⟨(ho1 o hm).1, by have := (ho1 o hm).2; omega⟩
  let tab : T := .tup [.int (d : Int), .tup (os.map tI)]
  let due : Int := FN (os.map maskI) d d ((2 ^ d - 1 : Nat) : Int)
  have rp : bRepr [tab] = some (.str (toPy tab).shown) := repr_ok (Int.natCast_nonneg d) (by omega) ho1 (by omega)
  have wy := ways_ok (n := d) (os := os) (by omega) ho2 (by omega) (dk δ2 [])
  have ct := count_ok (d := d) (os := os) hd8 ho2 (by omega) (dk δ2 [])
  generalize hkept : (toPy tab).shown = kept at rp
  -- the second table
  let m : Nat := min d 7
  let os2 : List (List Int) := (os.filter keepO).map fun o => o.take 1
  have hos2 : os2.length ≤ 10 := by
    show ((os.filter keepO).map fun o => o.take 1).length ≤ 10
    rw [List.length_map]
    exact Nat.le_trans (List.length_filter_le _ _) hos
  have ho3 : ∀ o ∈ os2, (∀ x ∈ o, 0 ≤ x ∧ x < 1000) ∧ o.length ≤ 1 := fun o hm => by
    obtain ⟨o', hm', rfl⟩ := List.mem_map.mp hm
    have hm2 := (List.mem_filter.mp hm').1
    exact ⟨fun x hx => (ho1 o' hm2).1 x (List.mem_of_mem_take hx), by rw [List.length_take]; omega⟩
  have ct2 := count_ok (d := m) (os := os2) (by omega) (fun o hm => ⟨(ho3 o hm).1, by have := (ho3 o hm).2; omega⟩) (by omega) (dk δ2 [])
  have hm2 : 2 ^ m - 1 < 2 ^ m := by have := Nat.two_pow_pos m; omega
  have fc : FN (os2.map maskI) m m ((2 ^ m - 1 : Nat) : Int) = fac m := FN_fac (fun r _ i _ _ => smp_single (fun o hm => ⟨fun x hx => ((ho3 o hm).1 x hx).1, (ho3 o hm).2⟩) r i) m (2 ^ m - 1) hm2 (pc_full m)
  rw [fc] at ct2
  let free : T := .tup [.int (m : Int), .tup (os2.map tI)]
  -- step by step
  let ρ (a3 a4 a5 a6 a7 a8 : Option W) : Dl.Env := [e0, some (.r 2), x2, a3, a4, a5, a6, a7, a8]
  have s1 : sSet 3 (eFn 3 (d__law_table) (aCons (eVar 1) (aCons (eIx (eLst (aCons (eC (.int 5)) (aCons (eC (.int 7)) (aCons (eC (.int 8)) (aNil))))) (eFn 2 (d__law_next) (aCons (eVar 1) (aCons (eC (.int 3)) (aNil))))) (aCons (eC (.int 10)) (aNil))))) (ρ x3 x4 x5 x6 x7 x8) (dk δ []) = .nx (ρ (some (.t tab)) x4 x5 x6 x7 x8) (dk δ2 []) := by
    have ix : eIx (eLst (aCons (eC (.int 5)) (aCons (eC (.int 7)) (aCons (eC (.int 8)) (aNil))))) (eFn 2 (d__law_next) (aCons (eVar 1) (aCons (eC (.int 3)) (aNil)))) (ρ x3 x4 x5 x6 x7 x8) (dk δ []) = .ok (.t (.int dm)) (dk δ1 []) := by
      simp only [ρ, ap_eIx, ap_eLst, ap_aCons, ap_aNil, ap_C, ap_eFn, ap_var, List.getElem?_cons_succ, List.getElem?_cons_zero, bind_ok', tree_3, of_some, List.length_cons, List.length_nil, if_true, q1, view_t, Option.bind_some, ix_lst, a5, Option.map_some]
    rw [ap_sSet, ap_eFn, ap_aCons, show eVar 1 (ρ x3 x4 x5 x6 x7 x8) (dk δ []) = .ok (.r 2) (dk δ []) from rfl, bind_ok', ap_aCons, ix]
    simp only [bind_ok', ap_aCons, ap_aNil, ap_C, List.length_cons, List.length_nil, if_true, q2, thenS_ok]
    rfl
  have s2 : sPar 4 5 (aCons (eCall bRepr (aCons (eVar 3) (aNil))) (aCons (eFn 1 (d__law_ways) (aCons (eVar 3) (aNil))) (aNil))) (ρ (some (.t tab)) x4 x5 x6 x7 x8) (dk δ2 []) = .nx (ρ (some (.t tab)) (some (.t (.str kept))) (some (.t (.int due))) x6 x7 x8) (dk δ2 []) := by
    simp only [ρ, ap_sPar, ap_aCons, ap_aNil, ap_eCall, ap_eFn, ap_var, List.getElem?_cons_succ, List.getElem?_cons_zero, bind_ok', views_cons, views_nil, view_t, Option.bind_some, Option.map_some, rp, of_some, List.length_cons, List.length_nil, if_true, wy, tab, thenS_ok]
    rfl
  have s3 : sIf (tOrD (tNotD (tE (eFn 2 (d__law_same RD) (aCons (eFn 1 (d_count_nested_orders) (aCons (eVar 3) (aNil))) (aCons (eVar 5) (aNil)))))) (tE (e2 gNe (eCall bRepr (aCons (eVar 3) (aNil))) (eVar 4)))) (sRet (eC (.bl false))) (sNil)
      (ρ (some (.t tab)) (some (.t (.str kept))) (some (.t (.int due))) x6 x7 x8) (dk δ2 []) = .nx (ρ (some (.t tab)) (some (.t (.str kept))) (some (.t (.int due))) x6 x7 x8) (dk δ2 []) := by
    have t1 : eFn 2 (d__law_same RD) (aCons (eFn 1 (d_count_nested_orders) (aCons (eVar 3) (aNil))) (aCons (eVar 5) (aNil))) (ρ (some (.t tab)) (some (.t (.str kept))) (some (.t (.int due))) x6 x7 x8) (dk δ2 []) = .ok (.t (.bl true)) (dk δ2 []) := by
      generalize hS : d__law_same RD = ds
      have sm := fun a S => same_RD a S
      rw [hS] at sm
      simp only [ρ, ap_eFn, ap_aCons, ap_aNil, ap_var, List.getElem?_cons_succ, List.getElem?_cons_zero, bind_ok', List.length_cons, List.length_nil, if_true, tab, ct, due, sm]
    have t2 : gNe (.str kept) (.str kept) = some (.bl false) := by simp [gNe]
    rw [ap_sIf, ap_tOr, ap_tNot, ap_tE, t1]
    simp only [bind_ok', asB_bl, of_some, Bool.not_true, Bool.false_eq_true, if_false]
    simp only [ρ, ap_tE, ap_e2, ap_eCall, ap_aCons, ap_aNil, ap_var, List.getElem?_cons_succ, List.getElem?_cons_zero, bind_ok', views_cons, views_nil, view_t, Option.bind_some, Option.map_some, rp, of_some, t2, asB_bl, thenS_ok, Bool.false_eq_true, if_false, ap_sNil]
  have s4 : sSet 6 (eTup (aCons (eCall bMin (aCons (eIx (eVar 3) (eC (.int 0))) (aCons (eC (.int 7)) (aNil)))) (aCons (eCall bTuple (aCons (eComp [8] (srcS (eIx (eVar 3) (eC (.int 1)))) (.nm 8) (tE (e2 gLt (eSl (eVar 8) oNone (oSome (eC (.int 1)))) (eTup (aCons (eC (.int 7)) (aNil))))) (eSl (eVar 8) oNone (oSome (eC (.int 1))))) (aNil))) (aNil))))
      (ρ (some (.t tab)) (some (.t (.str kept))) (some (.t (.int due))) x6 x7 x8) (dk δ2 []) = .nx (ρ (some (.t tab)) (some (.t (.str kept))) (some (.t (.int due))) (some (.t free)) x7 x8) (dk δ2 []) := by
    have a0 : L2.atI [T.int (d : Int), .tup (os.map tI)] 0 = some (.int (d : Int)) := by simp [L2.atI, L2.ixN]
    have a1 : L2.atI [T.int (d : Int), .tup (os.map tI)] 1 = some (.tup (os.map tI)) := by simp [L2.atI, L2.ixN]
    have mn : bMin [.int (d : Int), .int 7] = some (.int (m : Int)) := by
      show some (T.int (if (7 : Int) < d then 7 else d)) = some (.int ((min d 7 : Nat) : Int))
      congr 2
      split <;> omega
    have c1 := compL_pure (p := .nm 8) (t := tE (e2 gLt (eSl (eVar 8) oNone (oSome (eC (.int 1)))) (eTup (aCons (eC (.int 7)) (aNil))))) (f := eSl (eVar 8) oNone (oSome (eC (.int 1)))) (ρ := ρ (some (.t tab)) (some (.t (.str kept))) (some (.t (.int due))) x6 x7 none) (S := dk δ2 [])
      (fun o : List Int => Item.one (.t (tI o))) keepO (fun o => tI (o.take 1)) os fun o _ => ⟨ρ (some (.t tab)) (some (.t (.str kept))) (some (.t (.int due))) x6 x7 (some (.t (tI o))), rfl, by
        have lt : gLt (tI (o.take 1)) (.tup [.int 7]) = some (.bl (keepO o)) := lt_tup (o.take 1) [7]
        simp only [ρ, ap_tE, ap_e2, ap_eSl, ap_oNone, ap_oSome, ap_eTup, ap_aCons, ap_aNil, ap_C, ap_var, List.getElem?_cons_succ, List.getElem?_cons_zero, bind_ok', asI_int, Option.map_some, of_some, view_t, Option.bind_some, sl_tI, cut_to1, tree_1, lt, asB_bl], fun _ => by
        simp only [ρ, ap_eSl, ap_oNone, ap_oSome, ap_C, ap_var, List.getElem?_cons_succ, List.getElem?_cons_zero, bind_ok', asI_int, Option.map_some, of_some, view_t, Option.bind_some, sl_tI, cut_to1]⟩
    have ec : eComp [8] (srcS (eIx (eVar 3) (eC (.int 1)))) (.nm 8) (tE (e2 gLt (eSl (eVar 8) oNone (oSome (eC (.int 1)))) (eTup (aCons (eC (.int 7)) (aNil))))) (eSl (eVar 8) oNone (oSome (eC (.int 1)))) (ρ (some (.t tab)) (some (.t (.str kept))) (some (.t (.int due))) x6 x7 x8) (dk δ2 []) = .ok (.t (.lst (os2.map tI))) (dk δ2 []) := by
      have i1 : eIx (eVar 3) (eC (.int 1)) (ρ (some (.t tab)) (some (.t (.str kept))) (some (.t (.int due))) x6 x7 x8) (dk δ2 []) = .ok (.t (.tup (os.map tI))) (dk δ2 []) := by
        simp only [ρ, tab, ap_eIx, ap_C, ap_var, List.getElem?_cons_succ, List.getElem?_cons_zero, bind_ok', view_t, Option.bind_some, ix_tup, a1, Option.map_some, of_some]
      have hlc : os.length ≤ cap := cap_big (by omega)
      rw [ap_eComp, ap_srcS, i1]
      simp only [bind_ok', cont_tup, Option.map_some, of_some, List.map_map, List.length_map, if_pos hlc]
      rw [show (List.map (Item.one ∘ W.t ∘ tI) os) = os.map fun o => Item.one (.t (tI o)) from rfl, show wipeE (ρ (some (.t tab)) (some (.t (.str kept))) (some (.t (.int due))) x6 x7 x8) [8] = ρ (some (.t tab)) (some (.t (.str kept))) (some (.t (.int due))) x6 x7 none from rfl, c1]
      show R.ok (W.t (.lst _)) _ = R.ok (W.t (.lst (List.map tI (List.map (fun o => o.take 1) (os.filter keepO))))) _
      rw [List.map_map]
      rfl
    have e1' : eCall bMin (aCons (eIx (eVar 3) (eC (.int 0))) (aCons (eC (.int 7)) (aNil))) (ρ (some (.t tab)) (some (.t (.str kept))) (some (.t (.int due))) x6 x7 x8) (dk δ2 []) = .ok (.t (.int (m : Int))) (dk δ2 []) := by
      simp only [ρ, tab, ap_eCall, ap_aCons, ap_aNil, ap_eIx, ap_C, ap_var, List.getElem?_cons_succ, List.getElem?_cons_zero, bind_ok', view_t, Option.bind_some, ix_tup, a0, Option.map_some, of_some, views_cons, views_nil, mn]
    rw [ap_sSet, ap_eTup, ap_aCons, e1', bind_ok', ap_aCons, ap_eCall, ap_aCons, ec]
    simp only [bind_ok', ap_aNil, views_cons, views_nil, view_t, Option.bind_some, Option.map_some, tuple_lst, of_some, tree_2, thenS_ok]
    rfl
  have s5 : sSet 5 (eC (.int 1)) (ρ (some (.t tab)) (some (.t (.str kept))) (some (.t (.int due))) (some (.t free)) x7 x8) (dk δ2 []) = .nx (ρ (some (.t tab)) (some (.t (.str kept))) (some (.t (.int (fac 0)))) (some (.t free)) x7 x8) (dk δ2 []) := rfl
  obtain ⟨y7, q6⟩ := due_loop e0 (some (.r 2)) x2 (some (.t tab)) (some (.t (.str kept))) (some (.t free)) x8 (dk δ2 []) m 0 x7 (by omega)
  rw [Nat.zero_add] at q6
  have s6 : sFor (srcR1 (aCons (eIx (eVar 6) (eC (.int 0))) (aNil))) (.nm 7) duB (ρ (some (.t tab)) (some (.t (.str kept))) (some (.t (.int (fac 0)))) (some (.t free)) x7 x8) (dk δ2 []) = .nx (ρ (some (.t tab)) (some (.t (.str kept))) (some (.t (.int (fac m)))) (some (.t free)) y7 x8) (dk δ2 []) := by
    have a0 : L2.atI [T.int (m : Int), .tup (os2.map tI)] 0 = some (.int (m : Int)) := by simp [L2.atI, L2.ixN]
    have hr : rlim (m : Int) = true := by simp [rlim]; omega
    have it : rngI 0 m = (List.range' 0 m).map fun (k : Nat) => Item.one (.t (.int (k : Int))) := by
      rw [rngI_nats, nats_items, List.range_eq_range']
    have i1 : eIx (eVar 6) (eC (.int 0)) (ρ (some (.t tab)) (some (.t (.str kept))) (some (.t (.int (fac 0)))) (some (.t free)) x7 x8) (dk δ2 []) = .ok (.t (.int (m : Int))) (dk δ2 []) := by
      simp only [ρ, free, ap_eIx, ap_C, ap_var, List.getElem?_cons_succ, List.getElem?_cons_zero, bind_ok', view_t, Option.bind_some, ix_tup, a0, Option.map_some, of_some]
    rw [ap_sFor, ap_srcR1, ap_aCons, i1]
    simp only [bind_ok', ap_aNil, rng1, hr, if_true, of_some, thenS_ok, Int.toNat_natCast, it]
    exact q6
  have s7 : sIf (tNotD (tE (eFn 2 (d__law_same RD) (aCons (eFn 1 (d_count_nested_orders) (aCons (eVar 6) (aNil))) (aCons (eVar 5) (aNil)))))) (sRet (eC (.bl false))) (sNil) (ρ (some (.t tab)) (some (.t (.str kept))) (some (.t (.int (fac m)))) (some (.t free)) y7 x8) (dk δ2 []) = .nx (ρ (some (.t tab)) (some (.t (.str kept))) (some (.t (.int (fac m)))) (some (.t free)) y7 x8) (dk δ2 []) := by
    have t1 : eFn 2 (d__law_same RD) (aCons (eFn 1 (d_count_nested_orders) (aCons (eVar 6) (aNil))) (aCons (eVar 5) (aNil))) (ρ (some (.t tab)) (some (.t (.str kept))) (some (.t (.int (fac m)))) (some (.t free)) y7 x8) (dk δ2 []) = .ok (.t (.bl true)) (dk δ2 []) := by
      generalize hS : d__law_same RD = ds
      have sm := fun a S => same_RD a S
      rw [hS] at sm
      simp only [ρ, ap_eFn, ap_aCons, ap_aNil, ap_var, List.getElem?_cons_succ, List.getElem?_cons_zero, bind_ok', List.length_cons, List.length_nil, if_true, free, ct2, sm]
    rw [ap_sIf, ap_tNot, ap_tE, t1]
    rfl
  refine ⟨some (.t tab), some (.t (.str kept)), some (.t (.int (fac m))), some (.t free), y7, x8, δ2, ?_, h2.mono (by omega)⟩
  show sCons _ _ (ρ x3 x4 x5 x6 x7 x8) _ = _
  rw [sCons_nx s1, sCons_nx s2, sCons_nx s3, sCons_nx s4, sCons_nx s5, sCons_nx s6]
  exact s7
theorem plain {ns : List Int} (h : ns.length ≤ 63) : ∃ S', d_law [.t (.scr ns)] [] = .ok (.t (.bl true)) S' := by
  obtain ⟨δ, q1, h1⟩ := deck_ok h
  let e0 : Option W := some (.t (.scr ns))
  have s1 : sSet 1 (eFn 1 (d__law_deck) (aCons (eVar 0) (aNil))) (envOf 9 [.t (.scr ns)]) [] = .nx [e0, some (.r 2), none, none, none, none, none, none, none] (dk δ []) := by
    have : eFn 1 (d__law_deck) (aCons (eVar 0) (aNil)) (envOf 9 [.t (.scr ns)]) [] = .ok (.r 2) (dk δ []) := by
      rw [ap_eFn, ap_aCons, show eVar 0 (envOf 9 [W.t (.scr ns)]) [] = .ok (.t (.scr ns)) [] from rfl]
      simp only [bind_ok', ap_aNil, List.length_cons, List.length_nil, if_true, q1]
    rw [ap_sSet, this]
    rfl
  obtain ⟨a3, a4, a5, a6, a7, a8, δ1, q2, h2⟩ := turn_ok e0 (some (.t (.int 0))) none none none none none none h1 (by decide)
  obtain ⟨b3, b4, b5, b6, b7, b8, δ2, q3, h3⟩ := turn_ok e0 (some (.t (.int 1))) a3 a4 a5 a6 a7 a8 h2 (by decide)
  have s2 : sFor (srcR1 (aCons (eC (.int 2)) (aNil))) (.nm 2) lwB [e0, some (.r 2), none, none, none, none, none, none, none] (dk δ []) = .nx [e0, some (.r 2), some (.t (.int 1)), b3, b4, b5, b6, b7, b8] (dk δ2 []) := by
    have hr : rlim 2 = true := by decide
    have it : rngI 0 (2 : Int).toNat = [Item.one (.t (.int 0)), Item.one (.t (.int 1))] := by rw [rngI_nats]; rfl
    rw [ap_sFor, ap_srcR1, ap_aCons]
    simp only [ap_C, bind_ok', ap_aNil, rng1, hr, if_true, of_some, thenS_ok, it]
    unfold forL
    simp only [gTrue_eq, if_true, bI_nm, List.set_cons_succ, List.set_cons_zero]
    rw [q2, loopS_nx]
    unfold forL
    simp only [gTrue_eq, if_true, bI_nm, List.set_cons_succ, List.set_cons_zero]
    rw [q3, loopS_nx]
    rfl
  refine ⟨[], ?_⟩
  have fin : b_law (envOf 9 [.t (.scr ns)]) [] = .rt (.t (.bl true)) (dk δ2 []) := by
    show sCons _ _ _ _ = _
    rw [sCons_nx s1]
    show sCons _ _ _ _ = _
    rw [sCons_nx s2]
    rfl
  exact fn_rt (l := dk δ2 []) rfl fin
end K14

namespace K14
open PySem PySem.Spec PyProof.Rows L2 Dl
theorem all_mk {l : PySem.W.OpenLaw} {w : World} {K : PySem.W.Frag} {h : Heap} {mg : Str → Option Value} {fa f0 f1 f2 f3 f4 f5 f6 f7 f8 f9 f10 f11 f12 f13 f14 f15 f16 f17 f18 : Addr} (X : K.In h) (G : h.Ns mainGlobals mg) (hfa : mg "law" = some (.ref fa))
    {od0 an0 od1 an1 od2 an2 od3 an3 od4 an4 od5 an5 od6 an6 od7 an7 od8 an8 od9 an9 od10 an10 od11 an11 od12 an12 od13 an13 od14 an14 od15 an15 od16 an16 od17 an17 od18 an18 : Option Addr} {sl0 sl1 sl2 sl3 sl4 sl5 sl6 sl7 sl8 sl9 sl10 sl11 sl12 sl13 sl14 sl15 sl16 sl17 sl18 : Array (Option Value)} {oc0 kV0 dc0 pm0 cd0 ct0 oc1 kV1 dc1 pm1 cd1 ct1 oc2 kV2 dc2 pm2 cd2 ct2 oc3 kV3 dc3 pm3 cd3 ct3 oc4 kV4 dc4 pm4 cd4 ct4 oc5 kV5 dc5 pm5 cd5 ct5 oc6 kV6 dc6 pm6 cd6 ct6 oc7 kV7 dc7 pm7 cd7 ct7 oc8 kV8 dc8 pm8 cd8 ct8 oc9 kV9 dc9 pm9 cd9 ct9 oc10 kV10 dc10 pm10 cd10 ct10 oc11 kV11 dc11 pm11 cd11 ct11 oc12 kV12 dc12 pm12 cd12 ct12 oc13 kV13 dc13 pm13 cd13 ct13 oc14 kV14 dc14 pm14 cd14 ct14 oc15 kV15 dc15 pm15 cd15 ct15 oc16 kV16 dc16 pm16 cd16 ct16 oc17 kV17 dc17 pm17 cd17 ct17 oc18 kV18 dc18 pm18 cd18 ct18 : Value}
    (a0 : PySem.W.nsIn K mainGlobals "mask_of" = some (some (.ref f0))) (l0 : K.lookup f0 = some ⟨oc0, od0, .func (PySem.W.fnOf "mask_of" "mask_of" (defArgs s_mask_of) (defBody s_mask_of) (defScope s_mask_of) .none kV0 dc0 pm0 an0 cd0 ct0), sl0⟩) (c0 : PySem.W.codeIn K cd0 "mask_of" = true) (k0 : PySem.W.keepIn K (.ref f0) = true)
    (a1 : PySem.W.nsIn K mainGlobals "masks_of" = some (some (.ref f1))) (l1 : K.lookup f1 = some ⟨oc1, od1, .func (PySem.W.fnOf "masks_of" "masks_of" (defArgs s_masks_of) (defBody s_masks_of) (defScope s_masks_of) .none kV1 dc1 pm1 an1 cd1 ct1), sl1⟩) (c1 : PySem.W.codeIn K cd1 "masks_of" = true) (k1 : PySem.W.keepIn K (.ref f1) = true)
    (a2 : PySem.W.nsIn K mainGlobals "is_simple" = some (some (.ref f2))) (l2 : K.lookup f2 = some ⟨oc2, od2, .func (PySem.W.fnOf "is_simple" "is_simple" (defArgs s_is_simple) (defBody s_is_simple) (defScope s_is_simple) .none kV2 dc2 pm2 an2 cd2 ct2), sl2⟩) (c2 : PySem.W.codeIn K cd2 "is_simple" = true) (k2 : PySem.W.keepIn K (.ref f2) = true)
    (a3 : PySem.W.nsIn K mainGlobals "simple_digits" = some (some (.ref f3))) (l3 : K.lookup f3 = some ⟨oc3, od3, .func (PySem.W.fnOf "simple_digits" "simple_digits" (defArgs s_simple_digits) (defBody s_simple_digits) (defScope s_simple_digits) .none kV3 dc3 pm3 an3 cd3 ct3), sl3⟩) (c3 : PySem.W.codeIn K cd3 "simple_digits" = true) (k3 : PySem.W.keepIn K (.ref f3) = true)
    (a4 : PySem.W.nsIn K mainGlobals "counts_from" = some (some (.ref f4))) (l4 : K.lookup f4 = some ⟨oc4, od4, .func (PySem.W.fnOf "counts_from" "counts_from" (defArgs s_counts_from) (defBody s_counts_from) (defScope s_counts_from) .none kV4 dc4 pm4 an4 cd4 ct4), sl4⟩) (c4 : PySem.W.codeIn K cd4 "counts_from" = true) (k4 : PySem.W.keepIn K (.ref f4) = true)
    (a5 : PySem.W.nsIn K mainGlobals "count_nested_orders" = some (some (.ref f5))) (l5 : K.lookup f5 = some ⟨oc5, od5, .func (PySem.W.fnOf "count_nested_orders" "count_nested_orders" (defArgs s_count_nested_orders) (defBody s_count_nested_orders) (defScope s_count_nested_orders) .none kV5 dc5 pm5 an5 cd5 ct5), sl5⟩) (c5 : PySem.W.codeIn K cd5 "count_nested_orders" = true) (k5 : PySem.W.keepIn K (.ref f5) = true)
    (a6 : PySem.W.nsIn K mainGlobals "_law_deck" = some (some (.ref f6))) (l6 : K.lookup f6 = some ⟨oc6, od6, .func (PySem.W.fnOf "_law_deck" "_law_deck" (defArgs s__law_deck) (defBody s__law_deck) (defScope s__law_deck) .none kV6 dc6 pm6 an6 cd6 ct6), sl6⟩) (c6 : PySem.W.codeIn K cd6 "_law_deck" = true) (k6 : PySem.W.keepIn K (.ref f6) = true)
    (a7 : PySem.W.nsIn K mainGlobals "_law_next" = some (some (.ref f7))) (l7 : K.lookup f7 = some ⟨oc7, od7, .func (PySem.W.fnOf "_law_next" "_law_next" (defArgs s__law_next) (defBody s__law_next) (defScope s__law_next) .none kV7 dc7 pm7 an7 cd7 ct7), sl7⟩) (c7 : PySem.W.codeIn K cd7 "_law_next" = true) (k7 : PySem.W.keepIn K (.ref f7) = true)
    (a8 : PySem.W.nsIn K mainGlobals "_law_one" = some (some (.ref f8))) (l8 : K.lookup f8 = some ⟨oc8, od8, .func (PySem.W.fnOf "_law_one" "_law_one" (defArgs s__law_one) (defBody s__law_one) (defScope s__law_one) .none kV8 dc8 pm8 an8 cd8 ct8), sl8⟩) (c8 : PySem.W.codeIn K cd8 "_law_one" = true) (k8 : PySem.W.keepIn K (.ref f8) = true)
    (a9 : PySem.W.nsIn K mainGlobals "_law_same" = some (some (.ref f9))) (l9 : K.lookup f9 = some ⟨oc9, od9, .func (PySem.W.fnOf "_law_same" "_law_same" (defArgs s__law_same) (defBody s__law_same) (defScope s__law_same) .none kV9 dc9 pm9 an9 cd9 ct9), sl9⟩) (c9 : PySem.W.codeIn K cd9 "_law_same" = true) (k9 : PySem.W.keepIn K (.ref f9) = true)
    (a10 : PySem.W.nsIn K mainGlobals "_law_part" = some (some (.ref f10))) (l10 : K.lookup f10 = some ⟨oc10, od10, .func (PySem.W.fnOf "_law_part" "_law_part" (defArgs s__law_part) (defBody s__law_part) (defScope s__law_part) .none kV10 dc10 pm10 an10 cd10 ct10), sl10⟩) (c10 : PySem.W.codeIn K cd10 "_law_part" = true) (k10 : PySem.W.keepIn K (.ref f10) = true)
    (a11 : PySem.W.nsIn K mainGlobals "_law_shuffled" = some (some (.ref f11))) (l11 : K.lookup f11 = some ⟨oc11, od11, .func (PySem.W.fnOf "_law_shuffled" "_law_shuffled" (defArgs s__law_shuffled) (defBody s__law_shuffled) (defScope s__law_shuffled) .none kV11 dc11 pm11 an11 cd11 ct11), sl11⟩) (c11 : PySem.W.codeIn K cd11 "_law_shuffled" = true) (k11 : PySem.W.keepIn K (.ref f11) = true)
    (a12 : PySem.W.nsIn K mainGlobals "_law_intervals" = some (some (.ref f12))) (l12 : K.lookup f12 = some ⟨oc12, od12, .func (PySem.W.fnOf "_law_intervals" "_law_intervals" (defArgs s__law_intervals) (defBody s__law_intervals) (defScope s__law_intervals) .none kV12 dc12 pm12 an12 cd12 ct12), sl12⟩) (c12 : PySem.W.codeIn K cd12 "_law_intervals" = true) (k12 : PySem.W.keepIn K (.ref f12) = true)
    (a13 : PySem.W.nsIn K mainGlobals "_law_around" = some (some (.ref f13))) (l13 : K.lookup f13 = some ⟨oc13, od13, .func (PySem.W.fnOf "_law_around" "_law_around" (defArgs s__law_around) (defBody s__law_around) (defScope s__law_around) .none kV13 dc13 pm13 an13 cd13 ct13), sl13⟩) (c13 : PySem.W.codeIn K cd13 "_law_around" = true) (k13 : PySem.W.keepIn K (.ref f13) = true)
    (a14 : PySem.W.nsIn K mainGlobals "_law_any" = some (some (.ref f14))) (l14 : K.lookup f14 = some ⟨oc14, od14, .func (PySem.W.fnOf "_law_any" "_law_any" (defArgs s__law_any) (defBody s__law_any) (defScope s__law_any) .none kV14 dc14 pm14 an14 cd14 ct14), sl14⟩) (c14 : PySem.W.codeIn K cd14 "_law_any" = true) (k14 : PySem.W.keepIn K (.ref f14) = true)
    (a15 : PySem.W.nsIn K mainGlobals "_law_table" = some (some (.ref f15))) (l15 : K.lookup f15 = some ⟨oc15, od15, .func (PySem.W.fnOf "_law_table" "_law_table" (defArgs s__law_table) (defBody s__law_table) (defScope s__law_table) .none kV15 dc15 pm15 an15 cd15 ct15), sl15⟩) (c15 : PySem.W.codeIn K cd15 "_law_table" = true) (k15 : PySem.W.keepIn K (.ref f15) = true)
    (a16 : PySem.W.nsIn K mainGlobals "_law_is_free" = some (some (.ref f16))) (l16 : K.lookup f16 = some ⟨oc16, od16, .func (PySem.W.fnOf "_law_is_free" "_law_is_free" (defArgs s__law_is_free) (defBody s__law_is_free) (defScope s__law_is_free) .none kV16 dc16 pm16 an16 cd16 ct16), sl16⟩) (c16 : PySem.W.codeIn K cd16 "_law_is_free" = true) (k16 : PySem.W.keepIn K (.ref f16) = true)
    (a17 : PySem.W.nsIn K mainGlobals "_law_ways" = some (some (.ref f17))) (l17 : K.lookup f17 = some ⟨oc17, od17, .func (PySem.W.fnOf "_law_ways" "_law_ways" (defArgs s__law_ways) (defBody s__law_ways) (defScope s__law_ways) .none kV17 dc17 pm17 an17 cd17 ct17), sl17⟩) (c17 : PySem.W.codeIn K cd17 "_law_ways" = true) (k17 : PySem.W.keepIn K (.ref f17) = true)
    (a18 : PySem.W.nsIn K mainGlobals "law" = some (some (.ref f18))) (l18 : K.lookup f18 = some ⟨oc18, od18, .func (PySem.W.fnOf "law" "law" (defArgs s_law) (defBody s_law) (defScope s_law) .none kV18 dc18 pm18 an18 cd18 ct18), sl18⟩) (c18 : PySem.W.codeIn K cd18 "law" = true) (k18 : PySem.W.keepIn K (.ref f18) = true)
    (z0 : PySem.W.nsIn K mainGlobals "len" = some none)
    (z1 : PySem.W.nsIn K mainGlobals "range" = some none)
    (z2 : PySem.W.nsIn K mainGlobals "abs" = some none)
    (z3 : PySem.W.nsIn K mainGlobals "tuple" = some none)
    (z4 : PySem.W.nsIn K mainGlobals "list" = some none)
    (z5 : PySem.W.nsIn K mainGlobals "isinstance" = some none)
    (z6 : PySem.W.nsIn K mainGlobals "int" = some none)
    (z7 : PySem.W.nsIn K mainGlobals "bool" = some none)
    (z8 : PySem.W.nsIn K mainGlobals "str" = some none)
    (z9 : PySem.W.nsIn K mainGlobals "dict" = some none)
    (z10 : PySem.W.nsIn K mainGlobals "zip" = some none)
    (z11 : PySem.W.nsIn K mainGlobals "enumerate" = some none)
    (z12 : PySem.W.nsIn K mainGlobals "sorted" = some none)
    (z13 : PySem.W.nsIn K mainGlobals "set" = some none)
    (z14 : PySem.W.nsIn K mainGlobals "all" = some none)
    (z15 : PySem.W.nsIn K mainGlobals "any" = some none)
    (z16 : PySem.W.nsIn K mainGlobals "sum" = some none)
    (z17 : PySem.W.nsIn K mainGlobals "min" = some none)
    (z18 : PySem.W.nsIn K mainGlobals "max" = some none)
    (z19 : PySem.W.nsIn K mainGlobals "repr" = some none)
    : ∃ fd : FuncData, (∀ (s : Shared) (v : Value), BindsTo s fd ⟨[v], []⟩ [("script", v)]) ∧ ∀ base : Heap, K.In base → base.Ns mainGlobals mg → FnG l.prog w K mg base 45 fa fd ["script"] (spD K 1 d_law) := by
  have e := hfa.symm.trans (PySem.W.mg_of X G a18)
  cases e
  have F0 := fun_mk (st := s_mask_of) l0 c0 k0
  have b0 := F0.binds (ps := ["demands"]) fun _ _ _ _ _ _ us hl => match us, hl with | [_], _ => rfl
  have g0 := PySem.W.mg_of X G a0
  have F1 := fun_mk (st := s_masks_of) l1 c1 k1
  have b1 := F1.binds (ps := ["table"]) fun _ _ _ _ _ _ us hl => match us, hl with | [_], _ => rfl
  have g1 := PySem.W.mg_of X G a1
  have F2 := fun_mk (st := s_is_simple) l2 c2 k2
  have b2 := F2.binds (ps := ["masks", "rest", "demand"]) fun _ _ _ _ _ _ us hl => match us, hl with | [_, _, _], _ => rfl
  have g2 := PySem.W.mg_of X G a2
  have F3 := fun_mk (st := s_simple_digits) l3 c3 k3
  have b3 := F3.binds (ps := ["masks", "rest"]) fun _ _ _ _ _ _ us hl => match us, hl with | [_, _], _ => rfl
  have g3 := PySem.W.mg_of X G a3
  have F4 := fun_mk (st := s_counts_from) l4 c4 k4
  have b4 := F4.binds (ps := ["masks", "rest", "known"]) fun _ _ _ _ _ _ us hl => match us, hl with | [_, _, _], _ => rfl
  have g4 := PySem.W.mg_of X G a4
  have F5 := fun_mk (st := s_count_nested_orders) l5 c5 k5
  have b5 := F5.binds (ps := ["table"]) fun _ _ _ _ _ _ us hl => match us, hl with | [_], _ => rfl
  have g5 := PySem.W.mg_of X G a5
  have F6 := fun_mk (st := s__law_deck) l6 c6 k6
  have b6 := F6.binds (ps := ["script"]) fun _ _ _ _ _ _ us hl => match us, hl with | [_], _ => rfl
  have g6 := PySem.W.mg_of X G a6
  have F7 := fun_mk (st := s__law_next) l7 c7 k7
  have b7 := F7.binds (ps := ["deck", "many"]) fun _ _ _ _ _ _ us hl => match us, hl with | [_, _], _ => rfl
  have g7 := PySem.W.mg_of X G a7
  have F8 := fun_mk (st := s__law_one) l8 c8 k8
  have b8 := F8.binds (ps := ["deck", "some"]) fun _ _ _ _ _ _ us hl => match us, hl with | [_, _], _ => rfl
  have g8 := PySem.W.mg_of X G a8
  have F9 := fun_mk (st := s__law_same) l9 c9 k9
  have b9 := F9.binds (ps := ["found", "due"]) fun _ _ _ _ _ _ us hl => match us, hl with | [_, _], _ => rfl
  have g9 := PySem.W.mg_of X G a9
  have F10 := fun_mk (st := s__law_part) l10 c10 k10
  have b10 := F10.binds (ps := ["deck", "items", "share"]) fun _ _ _ _ _ _ us hl => match us, hl with | [_, _, _], _ => rfl
  have g10 := PySem.W.mg_of X G a10
  have F11 := fun_mk (st := s__law_shuffled) l11 c11 k11
  have b11 := F11.binds (ps := ["deck", "count"]) fun _ _ _ _ _ _ us hl => match us, hl with | [_, _], _ => rfl
  have g11 := PySem.W.mg_of X G a11
  have F12 := fun_mk (st := s__law_intervals) l12 c12 k12
  have b12 := F12.binds (ps := ["deck", "demands", "offers"]) fun _ _ _ _ _ _ us hl => match us, hl with | [_, _, _], _ => rfl
  have g12 := PySem.W.mg_of X G a12
  have F13 := fun_mk (st := s__law_around) l13 c13 k13
  have b13 := F13.binds (ps := ["deck", "demands", "offers"]) fun _ _ _ _ _ _ us hl => match us, hl with | [_, _, _], _ => rfl
  have g13 := PySem.W.mg_of X G a13
  have F14 := fun_mk (st := s__law_any) l14 c14 k14
  have b14 := F14.binds (ps := ["deck", "demands", "offers"]) fun _ _ _ _ _ _ us hl => match us, hl with | [_, _, _], _ => rfl
  have g14 := PySem.W.mg_of X G a14
  have F15 := fun_mk (st := s__law_table) l15 c15 k15
  have b15 := F15.binds (ps := ["deck", "demands", "offers"]) fun _ _ _ _ _ _ us hl => match us, hl with | [_, _, _], _ => rfl
  have g15 := PySem.W.mg_of X G a15
  have F16 := fun_mk (st := s__law_is_free) l16 c16 k16
  have b16 := F16.binds (ps := ["masks", "rest", "demand"]) fun _ _ _ _ _ _ us hl => match us, hl with | [_, _, _], _ => rfl
  have g16 := PySem.W.mg_of X G a16
  have F17 := fun_mk (st := s__law_ways) l17 c17 k17
  have b17 := F17.binds (ps := ["table"]) fun _ _ _ _ _ _ us hl => match us, hl with | [_], _ => rfl
  have g17 := PySem.W.mg_of X G a17
  have F18 := fun_mk (st := s_law) l18 c18 k18
  have bt : Bt mg := ⟨PySem.W.mg_none_of X G z0, PySem.W.mg_none_of X G z1, PySem.W.mg_none_of X G z2, PySem.W.mg_none_of X G z3, PySem.W.mg_none_of X G z4, PySem.W.mg_none_of X G z5, PySem.W.mg_none_of X G z6, PySem.W.mg_none_of X G z7, PySem.W.mg_none_of X G z8, PySem.W.mg_none_of X G z9, PySem.W.mg_none_of X G z10, PySem.W.mg_none_of X G z11, PySem.W.mg_none_of X G z12, PySem.W.mg_none_of X G z13, PySem.W.mg_none_of X G z14, PySem.W.mg_none_of X G z15, PySem.W.mg_none_of X G z16, PySem.W.mg_none_of X G z17, PySem.W.mg_none_of X G z18, PySem.W.mg_none_of X G z19⟩
  refine ⟨PySem.W.fnOf "law" "law" (defArgs s_law) (defBody s_law) (defScope s_law) .none kV18 dc18 pm18 an18 cd18 ct18, fun s v => .of_eq rfl, fun base _ _ => ?_⟩
  have C_mask_of : Cl l.prog w K mg base 1 "mask_of" 1 d_mask_of := ⟨⟨_, _, _, ok_mask_of bt F0, g0, k0, b0⟩⟩
  have C_masks_of : Cl l.prog w K mg base 2 "masks_of" 1 d_masks_of := ⟨⟨_, _, _, ok_masks_of bt C_mask_of F1, g1, k1, b1⟩⟩
  have C_is_simple : Cl l.prog w K mg base 1 "is_simple" 3 d_is_simple := ⟨⟨_, _, _, ok_is_simple bt F2, g2, k2, b2⟩⟩
  have C_simple_digits : Cl l.prog w K mg base 2 "simple_digits" 2 d_simple_digits := ⟨⟨_, _, _, ok_simple_digits bt C_is_simple F3, g3, k3, b3⟩⟩
  have C_counts_from : Cl l.prog w K mg base 43 "counts_from" 3 (d_counts_from RD) := ⟨⟨_, _, _, ok_counts_from bt C_simple_digits F4 g4 b4 RD, g4, k4, b4⟩⟩
  have C_count_nested_orders : Cl l.prog w K mg base 44 "count_nested_orders" 1 d_count_nested_orders := ⟨⟨_, _, _, ok_count_nested_orders bt C_counts_from C_masks_of F5, g5, k5, b5⟩⟩
  have C__law_deck : Cl l.prog w K mg base 1 "_law_deck" 1 d__law_deck := ⟨⟨_, _, _, ok__law_deck bt F6, g6, k6, b6⟩⟩
  have C__law_next : Cl l.prog w K mg base 1 "_law_next" 2 d__law_next := ⟨⟨_, _, _, ok__law_next bt F7, g7, k7, b7⟩⟩
  have C__law_one : Cl l.prog w K mg base 2 "_law_one" 2 d__law_one := ⟨⟨_, _, _, ok__law_one bt C__law_next F8, g8, k8, b8⟩⟩
  have C__law_same : Cl l.prog w K mg base 41 "_law_same" 2 (d__law_same RD) := ⟨⟨_, _, _, ok__law_same bt F9 g9 b9 RD, g9, k9, b9⟩⟩
  have C__law_part : Cl l.prog w K mg base 2 "_law_part" 3 d__law_part := ⟨⟨_, _, _, ok__law_part bt C__law_next F10, g10, k10, b10⟩⟩
  have C__law_shuffled : Cl l.prog w K mg base 2 "_law_shuffled" 2 d__law_shuffled := ⟨⟨_, _, _, ok__law_shuffled bt C__law_next F11, g11, k11, b11⟩⟩
  have C__law_intervals : Cl l.prog w K mg base 3 "_law_intervals" 3 d__law_intervals := ⟨⟨_, _, _, ok__law_intervals bt C__law_shuffled C__law_next F12, g12, k12, b12⟩⟩
  have C__law_around : Cl l.prog w K mg base 3 "_law_around" 3 d__law_around := ⟨⟨_, _, _, ok__law_around bt C__law_shuffled C__law_next C__law_part F13, g13, k13, b13⟩⟩
  have C__law_any : Cl l.prog w K mg base 3 "_law_any" 3 d__law_any := ⟨⟨_, _, _, ok__law_any bt C__law_next C__law_one C__law_part F14, g14, k14, b14⟩⟩
  have C__law_table : Cl l.prog w K mg base 4 "_law_table" 3 d__law_table := ⟨⟨_, _, _, ok__law_table bt C__law_next C__law_intervals C__law_around C__law_any F15, g15, k15, b15⟩⟩
  have C__law_is_free : Cl l.prog w K mg base 1 "_law_is_free" 3 d__law_is_free := ⟨⟨_, _, _, ok__law_is_free bt F16, g16, k16, b16⟩⟩
  have C__law_ways : Cl l.prog w K mg base 2 "_law_ways" 1 d__law_ways := ⟨⟨_, _, _, ok__law_ways bt C__law_is_free F17, g17, k17, b17⟩⟩
  exact ok_law bt C__law_deck C__law_table C__law_ways C__law_same C__law_next C_count_nested_orders F18
end K14
open PySem PySem.W PyProof.Rows
set_option maxHeartbeats 0 in
theorem PySem.Challenge.cw_payorder_k14_nested_orders_counted_holds : PySem.Challenge.rw_payorder_k14_nested_orders_counted.Holds := by
  w_on; o_law; k_head; (case hw => w_witness2)
  k_fill
  refine Dl.walkG (l := PySem.Challenge.rw_payorder_k14_nested_orders_counted) (n := 63) (k := 45) (x := "script") (den := K14.d_law) rfl (by decide) rfl ⟨⟨rfl, by decide, by decide⟩, rfl⟩ (fun w h Y => PySem.W.kIn_of Y) ?F (fun ns hn _ => K14.plain hn)
  case F =>
    intro w mg fa h KX G hmg
    refine' K14.all_mk KX G hmg ?a0 ?l0 ?c0 ?k0 ?a1 ?l1 ?c1 ?k1 ?a2 ?l2 ?c2 ?k2 ?a3 ?l3 ?c3 ?k3 ?a4 ?l4 ?c4 ?k4 ?a5 ?l5 ?c5 ?k5 ?a6 ?l6 ?c6 ?k6 ?a7 ?l7 ?c7 ?k7 ?a8 ?l8 ?c8 ?k8 ?a9 ?l9 ?c9 ?k9 ?a10 ?l10 ?c10 ?k10 ?a11 ?l11 ?c11 ?k11 ?a12 ?l12 ?c12 ?k12 ?a13 ?l13 ?c13 ?k13 ?a14 ?l14 ?c14 ?k14 ?a15 ?l15 ?c15 ?k15 ?a16 ?l16 ?c16 ?k16 ?a17 ?l17 ?c17 ?k17 ?a18 ?l18 ?c18 ?k18 ?z0 ?z1 ?z2 ?z3 ?z4 ?z5 ?z6 ?z7 ?z8 ?z9 ?z10 ?z11 ?z12 ?z13 ?z14 ?z15 ?z16 ?z17 ?z18 ?z19
    (case a0 => k_is); (case l0 => k_is); (case c0 => k_is); (case k0 => k_is); (case a1 => k_is); (case l1 => k_is); (case c1 => k_is); (case k1 => k_is); (case a2 => k_is); (case l2 => k_is); (case c2 => k_is); (case k2 => k_is); (case a3 => k_is); (case l3 => k_is); (case c3 => k_is); (case k3 => k_is); (case a4 => k_is); (case l4 => k_is); (case c4 => k_is); (case k4 => k_is); (case a5 => k_is); (case l5 => k_is); (case c5 => k_is); (case k5 => k_is); (case a6 => k_is); (case l6 => k_is); (case c6 => k_is); (case k6 => k_is); (case a7 => k_is); (case l7 => k_is); (case c7 => k_is); (case k7 => k_is); (case a8 => k_is); (case l8 => k_is); (case c8 => k_is); (case k8 => k_is); (case a9 => k_is); (case l9 => k_is); (case c9 => k_is); (case k9 => k_is); (case a10 => k_is); (case l10 => k_is); (case c10 => k_is); (case k10 => k_is); (case a11 => k_is); (case l11 => k_is); (case c11 => k_is); (case k11 => k_is); (case a12 => k_is); (case l12 => k_is); (case c12 => k_is); (case k12 => k_is); (case a13 => k_is); (case l13 => k_is); (case c13 => k_is); (case k13 => k_is); (case a14 => k_is); (case l14 => k_is); (case c14 => k_is); (case k14 => k_is); (case a15 => k_is); (case l15 => k_is); (case c15 => k_is); (case k15 => k_is); (case a16 => k_is); (case l16 => k_is); (case c16 => k_is); (case k16 => k_is); (case a17 => k_is); (case l17 => k_is); (case c17 => k_is); (case k17 => k_is); (case a18 => k_is); (case l18 => k_is); (case c18 => k_is); (case k18 => k_is); (case z0 => k_is); (case z1 => k_is); (case z2 => k_is); (case z3 => k_is); (case z4 => k_is); (case z5 => k_is); (case z6 => k_is); (case z7 => k_is); (case z8 => k_is); (case z9 => k_is); (case z10 => k_is); (case z11 => k_is); (case z12 => k_is); (case z13 => k_is); (case z14 => k_is); (case z15 => k_is); (case z16 => k_is); (case z17 => k_is); (case z18 => k_is); (case z19 => k_is)

