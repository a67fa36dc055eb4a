import PyProof.Rows.All
import Wide.All
import OpenK.AllK
import Wide.FinOn
import HandS.ForMost
import HandS.Walk
import HandS.Zip
import HandS.Wide
import HandS.Flow
import HandS.TupMul
import PyProof.Rows.IntBool
import PyProof.CallStr
import HandS.TupAny
import HandS.Conv
import HandS.Style
import HandS.Deep
import HandS.WordsDict
import HandS.WordsList
import HandS.SortInts
import HandS.SetFor
import HandS.Small
import HandS.EndBits
import HandS.WideBits
import HandS.IsInst
import HandS.Dict
import HandS.RaiseMore
import KE.GoesEnum
import HandS.ListItems
import PyProof.Rows.StrJoinMade
import PyProof.StrLawsRepr
import PySem.Challenge.RW_payorder_k20_collections_checked
set_option Elab.async false
set_option linter.all false
set_option maxRecDepth 100000
set_option maxHeartbeats 4000000
/-! Dl1: data trees, the store, what they stand for, the judgements. -/
namespace Dl
open PySem PySem.Spec PyProof.Rows L2
/-- a data tree -/
inductive T where
  | non | bl (b : Bool) | int (i : Int) | str (x : Str)
  | tup (xs : List T) | lst (xs : List T) | dct (kvs : List (Key × T))
  | scr (ns : List Int)
/-- what a slot holds: a tree, or the n-th cell of the store -/
inductive W where
  | t (x : T) | r (n : Nat)
inductive Cell where
  | lst (xs : List T) | vec (ws : List W) | dic (kvs : List (Key × T)) | frz (kvs : List (Key × T)) | dead
/-- it can be changed -/
def Cell.can : Cell → Bool
  | .lst _ => true
  | .vec _ => true
  | .dic _ => true
  | _ => false
abbrev Sto := List Cell
abbrev Env := List (Option W)
/-- what a piece of code gives -/
inductive R (α : Type) where
  | ok (a : α) (S : Sto) | ex (c : Str) (v : Option T) (S : Sto) | no
def R.bind {α β : Type} (x : R α) (f : α → Sto → R β) : R β := match x with
  | .ok a S => f a S
  | .ex c v S => .ex c v S
  | .no => .no
theorem R.bind_ok {α β : Type} {a : α} {S : Sto} {f : α → Sto → R β} : (R.ok a S).bind f = f a S := rfl
theorem R.bind_eq {α β : Type} {x : R α} {f : α → Sto → R β} {b : β} {S : Sto} (h : x.bind f = .ok b S) : ∃ a S1, x = .ok a S1 ∧ f a S1 = .ok b S := by
  cases x with
  | ok a S1 => exact ⟨a, S1, rfl, h⟩
  | ex c v S1 => cases h
  | no => cases h
/-- of an option -/
def R.of {α : Type} (o : Option α) (S : Sto) : R α := match o with
  | some a => .ok a S
  | none => .no
theorem R.of_eq {α : Type} {o : Option α} {S S' : Sto} {a : α} (h : R.of o S = .ok a S') : o = some a ∧ S' = S := by
  cases o with
  | none => cases h
  | some b => cases h; exact ⟨rfl, rfl⟩
mutual
inductive Rp (K : PySem.W.Frag) (F : Hp) : T → V → Prop
  | non : Rp K F .non .non
  | bl (b : Bool) : Rp K F (.bl b) (.bl b)
  | int (i : Int) : Rp K F (.int i) (.int i)
  | str (x : Str) : Rp K F (.str x) (.str x)
  | tup {a : Addr} {xs : List T} {vs : List V} : SqT K F a vs → Rps K F xs vs → Rp K F (.tup xs) (.ref a)
  | lst {a : Addr} {xs : List T} {vs : List V} : F a = some (.lst vs) → Rps K F xs vs → Rp K F (.lst xs) (.ref a)
  | dct {a : Addr} {kvs : List (Key × T)} {us : List (Key × V)} : F a = some (.dK us) → Rpk K F kvs us → Rp K F (.dct kvs) (.ref a)
  | scr {a : Addr} {ns : List Int} : SqL K F a (ns.map V.int) → Rp K F (.scr ns) (.ref a)
inductive Rps (K : PySem.W.Frag) (F : Hp) : List T → List V → Prop
  | nil : Rps K F [] []
  | cons {x : T} {v : V} {xs : List T} {vs : List V} : Rp K F x v → Rps K F xs vs → Rps K F (x :: xs) (v :: vs)
inductive Rpk (K : PySem.W.Frag) (F : Hp) : List (Key × T) → List (Key × V) → Prop
  | nil : Rpk K F [] []
  | cons {k : Key} {x : T} {v : V} {xs : List (Key × T)} {vs : List (Key × V)} : Rp K F x v → Rpk K F xs vs → Rpk K F ((k, x) :: xs) ((k, v) :: vs)
end
theorem Same.sqT {K : PySem.W.Frag} {H H' : Hp} {a : Addr} {xs : List V} (e : Same H H') (h : SqT K H a xs) : SqT K H' a xs := by
  rcases h with (h | ⟨o, h⟩) | h
  · exact .inl (.inl (e _ _ h))
  · exact .inl (.inr ⟨o, e _ _ h⟩)
  · exact .inr h
mutual
theorem Rp.mono {K : PySem.W.Frag} {F F' : Hp} (s : Same F F') {x : T} {v : V} : Rp K F x v → Rp K F' x v
  | .non => .non
  | .bl b => .bl b
  | .int i => .int i
  | .str x => .str x
  | .tup h hs => .tup (Same.sqT s h) (Rps.mono s hs)
  | .lst h hs => .lst (s _ _ h) (Rps.mono s hs)
  | .dct h hs => .dct (s _ _ h) (Rpk.mono s hs)
  | .scr h => .scr (s.seq h)
theorem Rps.mono {K : PySem.W.Frag} {F F' : Hp} (s : Same F F') {xs : List T} {vs : List V} : Rps K F xs vs → Rps K F' xs vs
  | .nil => .nil
  | .cons h hs => .cons (Rp.mono s h) (Rps.mono s hs)
theorem Rpk.mono {K : PySem.W.Frag} {F F' : Hp} (s : Same F F') {xs : List (Key × T)} {vs : List (Key × V)} : Rpk K F xs vs → Rpk K F' xs vs
  | .nil => .nil
  | .cons h hs => .cons (Rp.mono s h) (Rpk.mono s hs)
end
section
variable {K : PySem.W.Frag} {F : Hp}
theorem Rps.length : ∀ {xs : List T} {vs : List V}, Rps K F xs vs → xs.length = vs.length
  | _, _, .nil => rfl
  | _, _, .cons _ h => by rw [List.length_cons, List.length_cons, Rps.length h]
theorem Rps.get : ∀ {xs : List T} {vs : List V} {i : Nat} {x : T}, Rps K F xs vs → xs[i]? = some x → ∃ v, vs[i]? = some v ∧ Rp K F x v
  | _, _, _, _, .nil, e => by simp at e
  | _, _, 0, _, .cons r _, e => by simp at e; subst e; exact ⟨_, rfl, r⟩
  | _, _, i + 1, x, .cons _ t, e => by
    obtain ⟨u, h1, h2⟩ := Rps.get (i := i) (x := x) t (by simpa using e)
    exact ⟨u, by simpa using h1, h2⟩
theorem Rps.append : ∀ {xs ys : List T} {us ws : List V}, Rps K F xs us → Rps K F ys ws → Rps K F (xs ++ ys) (us ++ ws)
  | _, _, _, _, .nil, s => s
  | _, _, _, _, .cons r t, s => .cons r (Rps.append t s)
theorem Rps.take : ∀ {xs : List T} {us : List V} (n : Nat), Rps K F xs us → Rps K F (xs.take n) (us.take n)
  | _, _, 0, _ => .nil
  | _, _, _ + 1, .nil => .nil
  | _, _, n + 1, .cons r t => .cons r (Rps.take n t)
theorem Rps.drop : ∀ {xs : List T} {us : List V} (n : Nat), Rps K F xs us → Rps K F (xs.drop n) (us.drop n)
  | _, _, 0, r => r
  | _, _, _ + 1, .nil => .nil
  | _, _, n + 1, .cons _ t => Rps.drop n t
theorem Rps.set {x : T} {u : V} (r : Rp K F x u) : ∀ {xs : List T} {us : List V} (i : Nat), Rps K F xs us → Rps K F (xs.set i x) (us.set i u)
  | _, _, _, .nil => .nil
  | _, _, 0, .cons _ t => .cons r t
  | _, _, i + 1, .cons q t => .cons q (Rps.set r i t)
theorem Rps.eraseIdx : ∀ {xs : List T} {us : List V} (i : Nat), Rps K F xs us → Rps K F (xs.eraseIdx i) (us.eraseIdx i)
  | _, _, _, .nil => .nil
  | _, _, 0, .cons _ t => t
  | _, _, i + 1, .cons q t => .cons q (Rps.eraseIdx i t)
theorem Rps.reverse {xs : List T} {us : List V} (h : Rps K F xs us) : Rps K F xs.reverse us.reverse := by
  have : ∀ (xs : List T) (us : List V), Rps K F xs us → ∀ (ys : List T) (ws : List V), Rps K F ys ws → Rps K F (xs.reverse ++ ys) (us.reverse ++ ws) := by
    intro xs
    induction xs with
    | nil => intro us h ys ws q; cases h; simpa using q
    | cons x xs ih =>
      intro us h ys ws q
      cases h with
      | cons r t =>
        rw [List.reverse_cons, List.reverse_cons, List.append_assoc, List.append_assoc]
        exact ih _ t _ _ (.cons r q)
  simpa using this xs us h [] [] .nil
theorem Rps.ints : ∀ (ns : List Int), Rps K F (ns.map T.int) (ns.map V.int)
  | [] => .nil
  | n :: ns => .cons (.int n) (Rps.ints ns)
theorem Rps.bls : ∀ (ns : List Bool), Rps K F (ns.map T.bl) (ns.map V.bl)
  | [] => .nil
  | n :: ns => .cons (.bl n) (Rps.bls ns)
theorem Rps.ints_inv : ∀ {ns : List Int} {vs : List V}, Rps K F (ns.map T.int) vs → vs = ns.map V.int
  | [], _, .nil => rfl
  | n :: ns, _, .cons r t => by cases r; rw [Rps.ints_inv t]; rfl
theorem Rps.bls_inv : ∀ {ns : List Bool} {vs : List V}, Rps K F (ns.map T.bl) vs → vs = ns.map V.bl
  | [], _, .nil => rfl
  | n :: ns, _, .cons r t => by cases r; rw [Rps.bls_inv t]; rfl
theorem Rps.strs_inv : ∀ {ns : List Str} {vs : List V}, Rps K F (ns.map T.str) vs → vs = ns.map V.str
  | [], _, .nil => rfl
  | n :: ns, _, .cons r t => by cases r; rw [Rps.strs_inv t]; rfl
end
/-- a slot's word -/
def RpW (K : PySem.W.Frag) (F : Hp) (μ : List Addr) (w : W) (v : V) : Prop := match w with
  | .t x => Rp K F x v
  | .r n => ∃ p, μ[n]? = some p ∧ v = .ref p
inductive RpWs (K : PySem.W.Frag) (F : Hp) (μ : List Addr) : List W → List V → Prop
  | nil : RpWs K F μ [] []
  | cons {x : W} {v : V} {xs : List W} {vs : List V} : RpW K F μ x v → RpWs K F μ xs vs → RpWs K F μ (x :: xs) (v :: vs)
/-- what stands at p for a cell -/
def RpC (K : PySem.W.Frag) (H F : Hp) (μ : List Addr) (p : Addr) (c : Cell) : Prop := match c with
  | .dead => True
  | .lst xs => F p = none ∧ ∃ vs, H p = some (.lst vs) ∧ Rps K F xs vs
  | .vec ws => F p = none ∧ ∃ vs, H p = some (.lst vs) ∧ RpWs K F μ ws vs
  | .dic kvs => F p = none ∧ ∃ us, H p = some (.dK us) ∧ Rpk K F kvs us
  | .frz kvs => F p = none ∧ ∃ us, (∃ o, H p = some (.frz o (.dK us))) ∧ Rpk K F kvs us
/-- the interpreter's own table of modules stands and is never touched (so no list of ours lies there) -/
def SysT (H : Hp) : Prop := ∃ o, H sysModules = some (.frz o (.ext fun _ => True))
theorem SysT.upd {H : Hp} {p : Addr} {u : HO} (h : SysT H) (hp : p ≠ sysModules) : SysT (upd H p u) := by
  obtain ⟨o, e⟩ := h
  exact ⟨o, by rw [upd_ne (Ne.symm hp)]; exact e⟩
theorem SysT.none {H : Hp} {p : Addr} (h : SysT H) (hp : H p = none) : p ≠ sysModules := fun z => by obtain ⟨o, e⟩ := h; rw [z, e] at hp; cases hp
theorem SysT.lst {H : Hp} {p : Addr} {xs : List V} (h : SysT H) (hp : H p = some (.lst xs)) : p ≠ sysModules := fun z => by obtain ⟨o, e⟩ := h; rw [z, e] at hp; cases hp
theorem SysT.dic {H : Hp} {p : Addr} {xs : List (Key × V)} (h : SysT H) (hp : H p = some (.dK xs)) : p ≠ sysModules := fun z => by obtain ⟨o, e⟩ := h; rw [z, e] at hp; cases hp
theorem SysT.frz {H : Hp} {p : Addr} {od : Obj} {xs : List (Key × V)} (h : SysT H) (hp : H p = some (.frz od (.dK xs))) : p ≠ sysModules := fun z => by obtain ⟨o, e⟩ := h; rw [z, e] at hp; cases hp
/-- the state: F what is frozen, μ where the cells stand -/
structure Rs (K : PySem.W.Frag) (H : Hp) (S : Sto) (F : Hp) (μ : List Addr) : Prop where
  sub : Same F H
  len : μ.length = S.length
  cell : ∀ (n : Nat) (c : Cell) (p : Addr), S[n]? = some c → μ[n]? = some p → RpC K H F μ p c
  there : ∀ (n : Nat) (p : Addr), μ[n]? = some p → H p ≠ none
  nd : ∀ (m n : Nat) (p : Addr), μ[m]? = some p → μ[n]? = some p → m = n
  sys : SysT H
/-- the slots -/
structure RpSt (K : PySem.W.Frag) (F : Hp) (μ : List Addr) (σ : L2.St) (ρ : Env) : Prop where
  len : ρ.length = σ.length
  get : ∀ (i : Nat) (w : W), ρ[i]? = some (some w) → ∃ v, σ[i]? = some (some v) ∧ RpW K F μ w v
/-- how the state goes on -/
structure Gr (H F : Hp) (μ : List Addr) (H' F' : Hp) (μ' : List Addr) : Prop where
  same : Same F F'
  pre : ∃ ν, μ' = μ ++ ν
  keep : ∀ p o, H p = some o → F p = none → p ∉ μ → H' p = some o ∧ F' p = none ∧ p ∉ μ'
  lk : ∀ p o u, H p = some (.frz o u) → H' p = some (.frz o u)
section
variable {K : PySem.W.Frag} {H H' H2 F F' F2 : Hp} {μ μ' μ2 : List Addr} {S S' : Sto}
theorem Gr.refl : Gr H F μ H F μ := ⟨Same.refl _, ⟨[], by simp⟩, fun _ _ h1 h2 h3 => ⟨h1, h2, h3⟩, fun _ _ _ h => h⟩
theorem Gr.trans (a : Gr H F μ H' F' μ') (b : Gr H' F' μ' H2 F2 μ2) : Gr H F μ H2 F2 μ2 :=
  ⟨a.same.trans b.same, by
    obtain ⟨x, rfl⟩ := a.pre
    obtain ⟨y, rfl⟩ := b.pre
    exact ⟨x ++ y, by rw [List.append_assoc]⟩, fun p o h1 h2 h3 => by
    obtain ⟨q1, q2, q3⟩ := a.keep p o h1 h2 h3
    exact b.keep p o q1 q2 q3, fun p o u e => b.lk p o u (a.lk p o u e)⟩
theorem pre_get {n : Nat} {p : Addr} (h : ∃ ν, μ' = μ ++ ν) (e : μ[n]? = some p) : μ'[n]? = some p := by
  obtain ⟨ν, rfl⟩ := h
  have := (List.getElem?_eq_some_iff.mp e).1
  rw [List.getElem?_append_left this]; exact e
theorem RpW.mono {w : W} {v : V} (s : Same F F') (p : ∃ ν, μ' = μ ++ ν) (h : RpW K F μ w v) : RpW K F' μ' w v := by
  cases w with
  | t x => exact Rp.mono s h
  | r n => obtain ⟨q, e, z⟩ := h; exact ⟨q, pre_get p e, z⟩
theorem RpW.gr {w : W} {v : V} (g : Gr H F μ H' F' μ') (h : RpW K F μ w v) : RpW K F' μ' w v := h.mono g.same g.pre
theorem RpWs.mono (s : Same F F') (p : ∃ ν, μ' = μ ++ ν) : ∀ {ws : List W} {vs : List V}, RpWs K F μ ws vs → RpWs K F' μ' ws vs
  | _, _, .nil => .nil
  | _, _, .cons h t => .cons (h.mono s p) (RpWs.mono s p t)
theorem RpWs.gr {ws : List W} {vs : List V} (g : Gr H F μ H' F' μ') (h : RpWs K F μ ws vs) : RpWs K F' μ' ws vs := h.mono g.same g.pre
theorem RpWs.length : ∀ {ws : List W} {vs : List V}, RpWs K F μ ws vs → ws.length = vs.length
  | _, _, .nil => rfl
  | _, _, .cons _ h => by rw [List.length_cons, List.length_cons, RpWs.length h]
theorem RpWs.get : ∀ {xs : List W} {vs : List V} {i : Nat} {x : W}, RpWs K F μ xs vs → xs[i]? = some x → ∃ v, vs[i]? = some v ∧ RpW K F μ x v
  | _, _, _, _, .nil, e => by simp at e
  | _, _, 0, _, .cons r _, e => by simp at e; subst e; exact ⟨_, rfl, r⟩
  | _, _, i + 1, x, .cons _ t, e => by
    obtain ⟨u, h1, h2⟩ := RpWs.get (i := i) (x := x) t (by simpa using e)
    exact ⟨u, by simpa using h1, h2⟩
theorem RpWs.append : ∀ {xs ys : List W} {us ws : List V}, RpWs K F μ xs us → RpWs K F μ ys ws → RpWs K F μ (xs ++ ys) (us ++ ws)
  | _, _, _, _, .nil, s => s
  | _, _, _, _, .cons r t, s => .cons r (RpWs.append t s)
theorem RpWs.set {x : W} {u : V} (r : RpW K F μ x u) : ∀ {xs : List W} {us : List V} (i : Nat), RpWs K F μ xs us → RpWs K F μ (xs.set i x) (us.set i u)
  | _, _, _, .nil => .nil
  | _, _, 0, .cons _ t => .cons r t
  | _, _, i + 1, .cons q t => .cons q (RpWs.set r i t)
theorem RpWs.trees : ∀ {xs : List T} {vs : List V}, RpWs K F μ (xs.map W.t) vs → Rps K F xs vs
  | [], _, .nil => .nil
  | _ :: _, _, .cons r t => .cons r (RpWs.trees t)
theorem RpWs.of_trees : ∀ {xs : List T} {vs : List V}, Rps K F xs vs → RpWs K F μ (xs.map W.t) vs
  | _, _, .nil => .nil
  | _, _, .cons r t => .cons r (RpWs.of_trees t)
theorem RpSt.mono {σ : L2.St} {ρ : Env} (s : Same F F') (p : ∃ ν, μ' = μ ++ ν) (h : RpSt K F μ σ ρ) : RpSt K F' μ' σ ρ :=
  ⟨h.len, fun i w e => let ⟨v, h1, h2⟩ := h.get i w e; ⟨v, h1, h2.mono s p⟩⟩
theorem RpSt.gr {σ : L2.St} {ρ : Env} (g : Gr H F μ H' F' μ') (h : RpSt K F μ σ ρ) : RpSt K F' μ' σ ρ := h.mono g.same g.pre
theorem RpSt.set {σ : L2.St} {ρ : Env} {w : W} {v : V} (i : Nat) (h : RpSt K F μ σ ρ) (r : RpW K F μ w v) : RpSt K F μ (σ.set i (some v)) (ρ.set i (some w)) := by
  refine ⟨by simpa using h.len, fun j w' e => ?_⟩
  by_cases hj : j = i
  · subst hj
    have hl : j < ρ.length := by
      have := (List.getElem?_eq_some_iff.mp e).1
      simpa using this
    rw [List.getElem?_set_self hl] at e
    cases e
    exact ⟨v, by rw [List.getElem?_set_self (by rw [← h.len]; exact hl)], r⟩
  · rw [List.getElem?_set_ne (Ne.symm hj)] at e
    obtain ⟨v', h1, h2⟩ := h.get j w' e
    exact ⟨v', by rw [List.getElem?_set_ne (Ne.symm hj)]; exact h1, h2⟩
theorem RpSt.forget {σ : L2.St} {ρ : Env} (i : Nat) (h : RpSt K F μ σ ρ) : RpSt K F μ (σ.set i none) (ρ.set i none) := by
  refine ⟨by simpa using h.len, fun j w' e => ?_⟩
  by_cases hj : j = i
  · subst hj
    have hl : j < ρ.length := by
      have := (List.getElem?_eq_some_iff.mp e).1
      simpa using this
    rw [List.getElem?_set_self hl] at e
    cases e
  · rw [List.getElem?_set_ne (Ne.symm hj)] at e
    obtain ⟨v', h1, h2⟩ := h.get j w' e
    exact ⟨v', by rw [List.getElem?_set_ne (Ne.symm hj)]; exact h1, h2⟩
/-- a new thing, frozen at once -/
theorem Rs.mem_ne {p q : Addr} {n : Nat} (h : Rs K H S F μ) (hp : H p = none) (e : μ[n]? = some q) : q ≠ p := fun z => h.there n q e (by rw [z]; exact hp)
theorem Rs.notF {p : Addr} (h : Rs K H S F μ) (hp : H p = none) : F p = none := by
  cases e : F p with
  | none => rfl
  | some o => rw [h.sub _ _ e] at hp; cases hp
theorem Rs.notM {p : Addr} (h : Rs K H S F μ) (hp : H p = none) : p ∉ μ := fun z => by
  obtain ⟨n, hn⟩ := List.getElem?_of_mem z
  exact h.there n p hn hp
theorem Rs.new {p : Addr} (o : HO) (h : Rs K H S F μ) (hp : H p = none) : Rs K (upd H p o) S (upd F p o) μ ∧ Gr H F μ (upd H p o) (upd F p o) μ := by
  have nF := h.notF hp
  have sm : Same F (upd F p o) := fun b u e => by rw [upd_ne (ne_of_none e nF)]; exact e
  refine ⟨⟨fun b u e => ?_, h.len, fun n c q e1 e2 => ?_, fun n q e => ?_, h.nd, h.sys.upd (h.sys.none hp)⟩, ⟨sm, ⟨[], by simp⟩, fun b u h1 h2 h3 => ?_, fun b o u e => by rw [upd_ne (ne_of_none e hp)]; exact e⟩⟩
  · by_cases z : b = p
    · subst z; rw [upd_same] at e ⊢; exact e
    · rw [upd_ne z] at e ⊢; exact h.sub _ _ e
  · have ne := h.mem_ne hp e2
    have q0 := h.cell n c q e1 e2
    cases c with
    | dead => trivial
    | lst xs => obtain ⟨a, vs, b, r⟩ := q0; exact ⟨by rw [upd_ne ne]; exact a, vs, by rw [upd_ne ne]; exact b, r.mono sm⟩
    | vec ws => obtain ⟨a, vs, b, r⟩ := q0; exact ⟨by rw [upd_ne ne]; exact a, vs, by rw [upd_ne ne]; exact b, r.mono sm ⟨[], by simp⟩⟩
    | dic kvs => obtain ⟨a, vs, b, r⟩ := q0; exact ⟨by rw [upd_ne ne]; exact a, vs, by rw [upd_ne ne]; exact b, r.mono sm⟩
    | frz kvs => obtain ⟨a, vs, ⟨o', b⟩, r⟩ := q0; exact ⟨by rw [upd_ne ne]; exact a, vs, ⟨o', by rw [upd_ne ne]; exact b⟩, r.mono sm⟩
  · rw [upd_ne (h.mem_ne hp e)]; exact h.there n q e
  · have ne : b ≠ p := ne_of_none h1 hp
    rw [upd_ne ne, upd_ne ne]; exact ⟨h1, h2, h3⟩
/-- a thing tracked by nobody comes in: only the heap grows -/
theorem Rs.heap {p : Addr} (o : HO) (h : Rs K H S F μ) (hp : F p = none) (hm : p ∉ μ) (hs : p ≠ sysModules) : Rs K (upd H p o) S F μ := by
  refine ⟨fun b u e => by rw [upd_ne (ne_of_none e hp)]; exact h.sub _ _ e, h.len, fun n c q e1 e2 => ?_, fun n q e => ?_, h.nd, h.sys.upd hs⟩
  · have ne : q ≠ p := fun z => hm (z ▸ List.mem_of_getElem? e2)
    have q0 := h.cell n c q e1 e2
    cases c with
    | dead => trivial
    | lst xs => obtain ⟨a, vs, b, r⟩ := q0; exact ⟨a, vs, by rw [upd_ne ne]; exact b, r⟩
    | vec ws => obtain ⟨a, vs, b, r⟩ := q0; exact ⟨a, vs, by rw [upd_ne ne]; exact b, r⟩
    | dic kvs => obtain ⟨a, vs, b, r⟩ := q0; exact ⟨a, vs, by rw [upd_ne ne]; exact b, r⟩
    | frz kvs => obtain ⟨a, vs, ⟨o', b⟩, r⟩ := q0; exact ⟨a, vs, ⟨o', by rw [upd_ne ne]; exact b⟩, r⟩
  · have ne : q ≠ p := fun z => hm (z ▸ List.mem_of_getElem? e)
    rw [upd_ne ne]; exact h.there n q e
/-- .. and is frozen -/
theorem Rs.freeze {p : Addr} {o : HO} (h : Rs K H S F μ) (hH : H p = some o) (hp : F p = none) (hm : p ∉ μ) : Rs K H S (upd F p o) μ := by
  have sm : Same F (upd F p o) := fun b u e => by rw [upd_ne (ne_of_none e hp)]; exact e
  refine ⟨fun b u e => ?_, h.len, fun n c q e1 e2 => ?_, h.there, h.nd, h.sys⟩
  · by_cases z : b = p
    · subst z; rw [upd_same] at e; rw [hH]; exact e
    · rw [upd_ne z] at e; exact h.sub _ _ e
  · have ne : q ≠ p := fun z => hm (z ▸ List.mem_of_getElem? e2)
    have q0 := h.cell n c q e1 e2
    cases c with
    | dead => trivial
    | lst xs => obtain ⟨a, vs, b, r⟩ := q0; exact ⟨by rw [upd_ne ne]; exact a, vs, b, r.mono sm⟩
    | vec ws => obtain ⟨a, vs, b, r⟩ := q0; exact ⟨by rw [upd_ne ne]; exact a, vs, b, r.mono sm ⟨[], by simp⟩⟩
    | dic kvs => obtain ⟨a, vs, b, r⟩ := q0; exact ⟨by rw [upd_ne ne]; exact a, vs, b, r.mono sm⟩
    | frz kvs => obtain ⟨a, vs, ⟨o', b⟩, r⟩ := q0; exact ⟨by rw [upd_ne ne]; exact a, vs, ⟨o', b⟩, r.mono sm⟩
/-- a cell comes in -/
theorem Rs.box {p : Addr} {c : Cell} (h : Rs K H S F μ) (hH : H p ≠ none) (hm : p ∉ μ) (hc : RpC K H F (μ ++ [p]) p c) : Rs K H (S ++ [c]) F (μ ++ [p]) := by
  refine ⟨h.sub, by simp [h.len], fun n c' q e1 e2 => ?_, fun n q e => ?_, fun m n q e1 e2 => ?_, h.sys⟩
  · by_cases hn : n < S.length
    · rw [List.getElem?_append_left hn] at e1
      rw [List.getElem?_append_left (by rw [h.len]; exact hn)] at e2
      have q0 := h.cell n c' q e1 e2
      cases c' with
      | dead => trivial
      | lst xs => exact q0
      | vec ws => obtain ⟨a, vs, b, r⟩ := q0; exact ⟨a, vs, b, r.mono (Same.refl _) ⟨[p], rfl⟩⟩
      | dic kvs => exact q0
      | frz kvs => exact q0
    · have hl := (List.getElem?_eq_some_iff.mp e1).1
      simp at hl
      have en : n = S.length := by omega
      subst en
      rw [List.getElem?_append_right (Nat.le_refl _)] at e1
      rw [← h.len, List.getElem?_append_right (Nat.le_refl _)] at e2
      simp at e1 e2
      subst e1; subst e2
      exact hc
  · by_cases hn : n < μ.length
    · rw [List.getElem?_append_left hn] at e; exact h.there n q e
    · have hl := (List.getElem?_eq_some_iff.mp e).1
      simp at hl
      have en : n = μ.length := by omega
      subst en
      rw [List.getElem?_append_right (Nat.le_refl _)] at e
      simp at e
      subst e; exact hH
  · have key : ∀ k, (μ ++ [p])[k]? = some q → (k < μ.length ∧ μ[k]? = some q) ∨ (k = μ.length ∧ q = p) := fun k e => by
      by_cases hn : k < μ.length
      · rw [List.getElem?_append_left hn] at e; exact .inl ⟨hn, e⟩
      · have hl := (List.getElem?_eq_some_iff.mp e).1
        simp at hl
        have en : k = μ.length := by omega
        subst en
        rw [List.getElem?_append_right (Nat.le_refl _)] at e
        simp at e
        exact .inr ⟨rfl, e.symm⟩
    rcases key m e1 with ⟨a1, a2⟩ | ⟨a1, a2⟩ <;> rcases key n e2 with ⟨b1, b2⟩ | ⟨b1, b2⟩
    · exact h.nd m n q a2 b2
    · subst b2; exact absurd (List.mem_of_getElem? a2) hm
    · subst a2; exact absurd (List.mem_of_getElem? b2) hm
    · omega
/-- the n-th cell is written -/
theorem Rs.put {p : Addr} {n : Nat} {c c' : Cell} {o : HO} (h : Rs K H S F μ) (hS : S[n]? = some c) (hd : c.can = true) (hμ : μ[n]? = some p) (hc : RpC K (upd H p o) F μ p c') : Rs K (upd H p o) (S.set n c') F μ ∧ Gr H F μ (upd H p o) F μ := by
  have hl := (List.getElem?_eq_some_iff.mp hS).1
  have nF : F p = none := by
    have q0 := h.cell n c p hS hμ
    cases c with
    | dead => cases hd
    | lst xs => exact q0.1
    | vec ws => exact q0.1
    | dic kvs => exact q0.1
    | frz kvs => cases hd
  have nSys : p ≠ sysModules := by
    have q0 := h.cell n c p hS hμ
    cases c with
    | dead => cases hd
    | frz kvs => cases hd
    | lst xs => obtain ⟨_, vs, b, _⟩ := q0; exact h.sys.lst b
    | vec ws => obtain ⟨_, vs, b, _⟩ := q0; exact h.sys.lst b
    | dic kvs => obtain ⟨_, vs, b, _⟩ := q0; exact h.sys.dic b
  have nFz : ∀ o' u, H p ≠ some (.frz o' u) := fun o' u z => by
    have q0 := h.cell n c p hS hμ
    cases c with
    | dead => cases hd
    | frz kvs => cases hd
    | lst xs => obtain ⟨_, vs, b, _⟩ := q0; rw [b] at z; cases z
    | vec ws => obtain ⟨_, vs, b, _⟩ := q0; rw [b] at z; cases z
    | dic kvs => obtain ⟨_, vs, b, _⟩ := q0; rw [b] at z; cases z
  refine ⟨⟨fun b u e => by rw [upd_ne (ne_of_none e nF)]; exact h.sub _ _ e, by simpa using h.len, fun m c2 q e1 e2 => ?_, fun m q e => ?_, h.nd, h.sys.upd nSys⟩, ⟨Same.refl _, ⟨[], by simp⟩, fun b u h1 h2 h3 => ?_, fun b o' u e => by
    by_cases z : b = p
    · exact absurd (z ▸ e : H p = _) (nFz o' u)
    · rw [upd_ne z]; exact e⟩⟩
  · by_cases hm : m = n
    · subst hm
      rw [List.getElem?_set_self hl] at e1
      rw [hμ] at e2
      cases e1; cases e2
      exact hc
    · rw [List.getElem?_set_ne (Ne.symm hm)] at e1
      have ne : q ≠ p := fun z => hm (h.nd m n q e2 (by rw [z]; exact hμ))
      have q0 := h.cell m c2 q e1 e2
      cases c2 with
      | dead => trivial
      | lst xs => obtain ⟨a, vs, b, r⟩ := q0; exact ⟨a, vs, by rw [upd_ne ne]; exact b, r⟩
      | vec ws => obtain ⟨a, vs, b, r⟩ := q0; exact ⟨a, vs, by rw [upd_ne ne]; exact b, r⟩
      | dic kvs => obtain ⟨a, vs, b, r⟩ := q0; exact ⟨a, vs, by rw [upd_ne ne]; exact b, r⟩
      | frz kvs => obtain ⟨a, vs, ⟨o', b⟩, r⟩ := q0; exact ⟨a, vs, ⟨o', by rw [upd_ne ne]; exact b⟩, r⟩
  · by_cases z : q = p
    · rw [z, upd_same]; exact fun z => nomatch z
    · rw [upd_ne z]; exact h.there m q e
  · have ne : b ≠ p := fun z => h3 (z ▸ List.mem_of_getElem? hμ)
    rw [upd_ne ne]; exact ⟨h1, h2, h3⟩
end
/-- a word as data: shallow in the heap, deep in what is frozen -/
inductive Rv (K : PySem.W.Frag) (H F : Hp) : T → V → Prop
  | non : Rv K H F .non .non
  | bl (b : Bool) : Rv K H F (.bl b) (.bl b)
  | int (i : Int) : Rv K H F (.int i) (.int i)
  | str (x : Str) : Rv K H F (.str x) (.str x)
  | tup {a : Addr} {xs : List T} {vs : List V} : SqT K F a vs → Rps K F xs vs → Rv K H F (.tup xs) (.ref a)
  | lst {a : Addr} {xs : List T} {vs : List V} : H a = some (.lst vs) → Rps K F xs vs → Rv K H F (.lst xs) (.ref a)
  | dct {a : Addr} {kvs : List (Key × T)} {us : List (Key × V)} : Rd H a (.dK us) → Rpk K F kvs us → Rv K H F (.dct kvs) (.ref a)
  | scr {a : Addr} {ns : List Int} : SqL K H a (ns.map V.int) → Rv K H F (.scr ns) (.ref a)
inductive Rvs (K : PySem.W.Frag) (H F : Hp) : List T → List V → Prop
  | nil : Rvs K H F [] []
  | cons {x : T} {v : V} {xs : List T} {vs : List V} : Rv K H F x v → Rvs K H F xs vs → Rvs K H F (x :: xs) (v :: vs)
/-- all trees -/
def toTs : List W → Option (List T)
  | [] => some []
  | .t x :: r => (toTs r).map (x :: ·)
  | .r _ :: _ => none
theorem toTs_map (xs : List T) : toTs (xs.map W.t) = some xs := by
  induction xs with
  | nil => rfl
  | cons x xs ih => rw [List.map_cons, toTs, ih]; rfl
theorem toTs_some : ∀ {ws : List W} {xs : List T}, toTs ws = some xs → ws = xs.map W.t
  | [], xs, h => by cases h; rfl
  | .t x :: r, xs, h => by
    cases e : toTs r with
    | none => rw [toTs, e] at h; cases h
    | some ys => rw [toTs, e] at h; cases h; rw [toTs_some e]; rfl
  | .r _ :: _, xs, h => by cases h
/-- a word read as data -/
def Cell.view : Cell → Option T
  | .lst xs => some (.lst xs)
  | .vec ws => (toTs ws).map T.lst
  | .dic kvs => some (.dct kvs)
  | .frz kvs => some (.dct kvs)
  | .dead => none
def view (S : Sto) : W → Option T
  | .t x => some x
  | .r n => S[n]?.bind Cell.view
def views (S : Sto) : List W → Option (List T)
  | [] => some []
  | w :: r => (view S w).bind fun x => (views S r).map (x :: ·)
section
variable {K : PySem.W.Frag} {H F : Hp} {μ : List Addr} {S : Sto}
theorem Rv.rp {x : T} {v : V} (s : Same F H) (hd : ∀ kvs, x ≠ .dct kvs) (h : Rv K H F x v) : Rp K H x v := by
  cases h with
  | non => exact .non
  | bl b => exact .bl b
  | int i => exact .int i
  | str x => exact .str x
  | tup a r => exact .tup (Same.sqT s a) (r.mono s)
  | lst a r => exact .lst a (r.mono s)
  | dct a r => exact absurd rfl (hd _)
  | scr a => exact .scr a
theorem Rp.rv {x : T} {v : V} (s : Same F H) (h : Rp K F x v) : Rv K H F x v := by
  cases h with
  | non => exact .non
  | bl b => exact .bl b
  | int i => exact .int i
  | str x => exact .str x
  | tup a r => exact .tup a r
  | lst a r => exact .lst (s _ _ a) r
  | dct a r => exact .dct (.inl (s _ _ a)) r
  | scr a => exact .scr (s.seq a)
theorem view_rv {w : W} {v : V} {x : T} (h : Rs K H S F μ) (r : RpW K F μ w v) (e : view S w = some x) : Rv K H F x v := by
  cases w with
  | t y => cases e; exact Rp.rv h.sub r
  | r n =>
    obtain ⟨p, hp, rfl⟩ := r
    have e : S[n]?.bind Cell.view = some x := e
    cases q : S[n]? with
    | none => rw [q] at e; cases e
    | some c =>
      rw [q] at e
      have e : c.view = some x := e
      have q0 := h.cell n c p q hp
      cases c with
      | dead => cases e
      | lst xs => cases e; obtain ⟨_, vs, b, r⟩ := q0; exact .lst b r
      | vec ws =>
        obtain ⟨_, vs, b, r⟩ := q0
        cases z : toTs ws with
        | none => simp [Cell.view, z] at e
        | some ys =>
          simp [Cell.view, z] at e
          subst e
          rw [toTs_some z] at r
          exact .lst b r.trees
      | dic kvs => cases e; obtain ⟨_, vs, b, r⟩ := q0; exact .dct (.inl b) r
      | frz kvs => cases e; obtain ⟨_, vs, ⟨o', b⟩, r⟩ := q0; exact .dct (.inr ⟨o', b⟩) r
theorem views_rv : ∀ {ws : List W} {vs : List V} {xs : List T}, Rs K H S F μ → RpWs K F μ ws vs → views S ws = some xs → Rvs K H F xs vs
  | _, _, _, h, .nil, e => by cases e; exact .nil
  | _, _, _, h, .cons (x := w) (xs := ws) r t, e => by
    unfold views at e
    cases q : view S w with
    | none => rw [q] at e; cases e
    | some x =>
      rw [q] at e
      cases q2 : views S ws with
      | none => simp [q2] at e
      | some ys =>
        simp [q2] at e
        subst e
        exact .cons (view_rv h r q) (views_rv h t q2)
end
/-- room for k more levels of calls, and nobody is being shown -/
structure RoomG (k : Nat) (A : Around) : Prop extends Room k A where
  gd : A.guards = some []
theorem RoomG.less {j k : Nat} {A : Around} (r : RoomG k A) (h : j ≤ k) : RoomG j A := ⟨r.toRoom.mono h, r.gd⟩
theorem RoomG.call {k : Nat} {A : Around} (r : RoomG (k + 1) A) (env : PySem.Env) : RoomG k (A.deeper env) := ⟨r.toRoom.deeper env, r.gd⟩
/-! ### the judgements -/
def WPE (X : Cx) (e : Expr) (σ : L2.St) (H : Hp) (Q : VK) : Prop := ∀ (pins : List (Addr × Obj)) (s : Shared), Inv X pins σ H s → wpAny (model X.prog X.w) X.A (eval e X.env) (EP X pins σ Q) X.xe s
def WPT (X : Cx) (e : Expr) (σ : L2.St) (H : Hp) (Q : Bool → Hp → Prop) : Prop := ∀ (pins : List (Addr × Obj)) (s : Shared), Inv X pins σ H s → wpAny (model X.prog X.w) X.A (isTrue e X.env (eval e X.env)) (TP X pins σ Q) X.xe s
def WPW (X : Cx) (e : Expr) (σ : L2.St) (H : Hp) (Q : Bool → Hp → Prop) : Prop := ∀ (whole : Sem Value) (pins : List (Addr × Obj)) (s : Shared), Inv X pins σ H s → wpAny (model X.prog X.w) X.A (isTrue e X.env whole) (TP X pins σ Q) X.xe s
def WPA (X : Cx) (es : List Expr) (σ : L2.St) (H : Hp) (Q : List V → Hp → Prop) : Prop := ∀ (pos : Pos) (pins : List (Addr × Obj)) (s : Shared), Inv X pins σ H s → wpAny (model X.prog X.w) X.A (spliced (backTo pos (starEach es X.env))) (AP X pins σ Q) X.xe s
def WPS (X : Cx) (st : Stmt) (D : Ends) (σ : L2.St) (H : Hp) : Prop := ∀ (pins : List (Addr × Obj)) (s : Shared), Inv X pins σ H s → wpAny (model X.prog X.w) X.A (exec st X.env) (SP X pins D) X.xe s
def WPSs (X : Cx) (st : List Stmt) (D : Ends) (σ : L2.St) (H : Hp) : Prop := ∀ (pins : List (Addr × Obj)) (s : Shared), Inv X pins σ H s → wpAny (model X.prog X.w) X.A (execs st X.env) (SP X pins D) X.xe s
def WPG (X : Cx) (tg : Expr) (v : V) (σ : L2.St) (H : Hp) (Q : L2.St → Hp → Prop) : Prop := ∀ (pins : List (Addr × Obj)) (s : Shared) (u : Value), Inv X pins σ H s → RelV v u → wpAny (model X.prog X.w) X.A (assign tg X.env u) (fun _ s' => ∃ σ' H', Inv X pins σ' H' s' ∧ Q σ' H') X.xe s
section
variable {X : Cx}
theorem peW {e : Expr} : PE X e (WPE X e) := ⟨fun pins s _ _ _ I h => h pins s I⟩
theorem ptW {e : Expr} : PT X e (WPT X e) := ⟨fun pins s _ _ _ I h => h pins s I⟩
theorem pwW {e : Expr} : PW X e (WPW X e) := ⟨fun wh pins s _ _ _ I h => h wh pins s I⟩
theorem paW {es : List Expr} : PA X es (WPA X es) := ⟨fun pos pins s _ _ _ I h => h pos pins s I⟩
theorem psW {st : Stmt} : PS X st (WPS X st) := ⟨fun pins s _ _ _ I h => h pins s I⟩
theorem pssW {st : List Stmt} : PSs X st (WPSs X st) := ⟨fun pins s _ _ _ I h => h pins s I⟩
theorem pgW {tg : Expr} : PG X tg (WPG X tg) := ⟨fun pins s _ _ _ u _ I r h => h pins s u I r⟩
theorem wpe {e : Expr} {t : TE} {σ : L2.St} {H : Hp} {Q : VK} (h : PE X e t) (q : t σ H Q) : WPE X e σ H Q := fun pins s I => h.run pins s σ H Q I q
theorem wpt {e : Expr} {t : TT} {σ : L2.St} {H : Hp} {Q : Bool → Hp → Prop} (h : PT X e t) (q : t σ H Q) : WPT X e σ H Q := fun pins s I => h.run pins s σ H Q I q
theorem wpw {e : Expr} {t : TT} {σ : L2.St} {H : Hp} {Q : Bool → Hp → Prop} (h : PW X e t) (q : t σ H Q) : WPW X e σ H Q := fun wh pins s I => h.run wh pins s σ H Q I q
theorem wpa {es : List Expr} {t : TA} {σ : L2.St} {H : Hp} {Q : List V → Hp → Prop} (h : PA X es t) (q : t σ H Q) : WPA X es σ H Q := fun pos pins s I => h.run pos pins s σ H Q I q
theorem wps {st : Stmt} {t : TS} {σ : L2.St} {H : Hp} {D : Ends} (h : PS X st t) (q : t D σ H) : WPS X st D σ H := fun pins s I => h.run pins s σ H D I q
theorem wpss {st : List Stmt} {t : TS} {σ : L2.St} {H : Hp} {D : Ends} (h : PSs X st t) (q : t D σ H) : WPSs X st D σ H := fun pins s I => h.run pins s σ H D I q
theorem wpg {tg : Expr} {t : TG} {v : V} {σ : L2.St} {H : Hp} {Q : L2.St → Hp → Prop} (h : PG X tg t) (q : t v σ H Q) : WPG X tg v σ H Q := fun pins s u I r => h.run pins s σ H v u Q I r q
theorem WPE.imp {e : Expr} {σ : L2.St} {H : Hp} {Q Q' : VK} (h : WPE X e σ H Q) (f : ∀ v H', Q v H' → Q' v H') : WPE X e σ H Q' :=
  fun pins s I => thn (h pins s I) fun _ _ ⟨v, H', I', r, q⟩ => ⟨v, H', I', r, f v H' q⟩
end
abbrev Ex := Env → Sto → R W
abbrev Exs := Env → Sto → R (List W)
abbrev Tx := Env → Sto → R Bool
/-- an expression -/
def DE (X : Cx) (e : Expr) (f : Ex) : Prop := ∀ (σ : L2.St) (H : Hp) (ρ : Env) (S : Sto) (F : Hp) (μ : List Addr) (w : W) (S' : Sto) (Q : VK), Rs X.K H S F μ → RpSt X.K F μ σ ρ → f ρ S = .ok w S' →
  (∀ v H' F' μ', Rs X.K H' S' F' μ' → Gr H F μ H' F' μ' → RpW X.K F' μ' w v → Q v H') → WPE X e σ H Q
def DA (X : Cx) (es : List Expr) (f : Exs) : Prop := ∀ (σ : L2.St) (H : Hp) (ρ : Env) (S : Sto) (F : Hp) (μ : List Addr) (ws : List W) (S' : Sto) (Q : List V → Hp → Prop), Rs X.K H S F μ → RpSt X.K F μ σ ρ → f ρ S = .ok ws S' →
  (∀ vs H' F' μ', Rs X.K H' S' F' μ' → Gr H F μ H' F' μ' → RpWs X.K F' μ' ws vs → Q vs H') → WPA X es σ H Q
def DT (X : Cx) (e : Expr) (f : Tx) : Prop := ∀ (σ : L2.St) (H : Hp) (ρ : Env) (S : Sto) (F : Hp) (μ : List Addr) (b : Bool) (S' : Sto) (Q : Bool → Hp → Prop), Rs X.K H S F μ → RpSt X.K F μ σ ρ → f ρ S = .ok b S' →
  (∀ H' F' μ', Rs X.K H' S' F' μ' → Gr H F μ H' F' μ' → Q b H') → WPT X e σ H Q
def DW (X : Cx) (e : Expr) (f : Tx) : Prop := ∀ (σ : L2.St) (H : Hp) (ρ : Env) (S : Sto) (F : Hp) (μ : List Addr) (b : Bool) (S' : Sto) (Q : Bool → Hp → Prop), Rs X.K H S F μ → RpSt X.K F μ σ ρ → f ρ S = .ok b S' →
  (∀ H' F' μ', Rs X.K H' S' F' μ' → Gr H F μ H' F' μ' → Q b H') → WPW X e σ H Q
/-- what a statement gives -/
inductive O where
  | nx (ρ : Env) (S : Sto) | rt (w : W) (S : Sto) | bk (ρ : Env) (S : Sto) | ct (ρ : Env) (S : Sto) | ex (c : Str) (v : Option T) (S : Sto) | no
abbrev Sx := Env → Sto → O
def O.holds (K : PySem.W.Frag) (H F : Hp) (μ : List Addr) (D : Ends) (o : O) : Prop := match o with
  | .nx ρ' S' => ∀ σ' H' F' μ', Rs K H' S' F' μ' → Gr H F μ H' F' μ' → RpSt K F' μ' σ' ρ' → D.nx σ' H'
  | .bk ρ' S' => ∀ σ' H' F' μ', Rs K H' S' F' μ' → Gr H F μ H' F' μ' → RpSt K F' μ' σ' ρ' → D.bk σ' H'
  | .ct ρ' S' => ∀ σ' H' F' μ', Rs K H' S' F' μ' → Gr H F μ H' F' μ' → RpSt K F' μ' σ' ρ' → D.ct σ' H'
  | .rt w S' => ∀ v H' F' μ', Rs K H' S' F' μ' → Gr H F μ H' F' μ' → RpW K F' μ' w v → D.rt v H'
  | .ex _ _ _ => False
  | .no => False
def DS (X : Cx) (st : Stmt) (g : Sx) : Prop := ∀ (σ : L2.St) (H : Hp) (ρ : Env) (S : Sto) (F : Hp) (μ : List Addr) (D : Ends), Rs X.K H S F μ → RpSt X.K F μ σ ρ → (g ρ S).holds X.K H F μ D → WPS X st D σ H
def DSs (X : Cx) (st : List Stmt) (g : Sx) : Prop := ∀ (σ : L2.St) (H : Hp) (ρ : Env) (S : Sto) (F : Hp) (μ : List Addr) (D : Ends), Rs X.K H S F μ → RpSt X.K F μ σ ρ → (g ρ S).holds X.K H F μ D → WPSs X st D σ H
theorem O.holds_gr {K : PySem.W.Frag} {H F H1 F1 : Hp} {μ μ1 : List Addr} {D : Ends} {o : O} (g : Gr H F μ H1 F1 μ1) (h : o.holds K H F μ D) : o.holds K H1 F1 μ1 D := by
  cases o with
  | nx ρ S => exact fun σ' H' F' μ' a b c => h σ' H' F' μ' a (g.trans b) c
  | bk ρ S => exact fun σ' H' F' μ' a b c => h σ' H' F' μ' a (g.trans b) c
  | ct ρ S => exact fun σ' H' F' μ' a b c => h σ' H' F' μ' a (g.trans b) c
  | rt w S => exact fun v H' F' μ' a b c => h v H' F' μ' a (g.trans b) c
  | ex _ _ _ => exact h
  | no => exact h
end Dl
/-! DlT: tuple * int, any int. -/
namespace Dl
open PySem PySem.Spec PyProof.Rows L2
theorem tuple_mulS (l : Addr) (items : Array Value) (n : Nat) (dd : Option Addr) (sl : Array (Option Value)) (x : Int) (u : Tok) (c0 : (decide (x < -(2 ^ 63)) || decide (x ≥ 2 ^ 63)) = false) (c1 : (items.isEmpty || x == 1) = true) :
    Meets (Builtin.«tuple.__mul__» ⟨[.ref l, .int x u], []⟩) (fun _ R s => s.heap.get? l = some { cls := .type "tuple", dict := dd, data := .seq items n, slots := sl } ∧ R (.ok (.ret (Value.ref l))) s) :=
  .of_wp fun prog w A R s h => by
    obtain ⟨hp, g, d, tk, os⟩ := s
    obtain ⟨hl, h⟩ := h
    have f1 := AutoSeq1.idx_int
    wp_walk using wpAny_loadPart' hl
    repeat (first
      | (refine wpAny_ite_false (decide_eq_false (by rw [c0]; exact Bool.false_ne_true)) ?_; wp_walk using wpAny_loadPart' hl)
      | (refine wpAny_ite_true (decide_eq_true c1) ?_; wp_walk using wpAny_loadPart' hl))
    exact ⟨_, rfl, h⟩
theorem tuple_mulN (l : Addr) (items : Array Value) (n : Nat) (dd : Option Addr) (sl : Array (Option Value)) (x : Int) (u : Tok) (c0 : (decide (x < -(2 ^ 63)) || decide (x ≥ 2 ^ 63)) = false) (c1 : (items.isEmpty || x == 1) = false) (c2 : (decide (x ≤ 0) || items.isEmpty) = true) :
    Meets (Builtin.«tuple.__mul__» ⟨[.ref l, .int x u], []⟩) (fun _ R s => s.heap.get? l = some { cls := .type "tuple", dict := dd, data := .seq items n, slots := sl } ∧
      R (.ok (.ret (Value.ref s.heap.objs.size))) { s with heap := s.heap.push { cls := Value.type "tuple", data := Data.seq #[] }, toks := s.toks }) :=
  .of_wp fun prog w A R s h => by
    obtain ⟨hp, g, d, tk, os⟩ := s
    obtain ⟨hl, h⟩ := h
    have f1 := AutoSeq1.idx_int
    wp_walk using wpAny_loadPart' hl
    repeat (first
      | (refine wpAny_ite_false (decide_eq_false (by rw [c0]; exact Bool.false_ne_true)) ?_; wp_walk using wpAny_loadPart' hl)
      | (refine wpAny_ite_false (decide_eq_false (by rw [c1]; exact Bool.false_ne_true)) ?_; wp_walk using wpAny_loadPart' hl)
      | (refine wpAny_ite_true (decide_eq_true c2) ?_; wp_walk using wpAny_loadPart' hl))
    exact ⟨_, rfl, h⟩
def rRepA (K : PySem.W.Frag) : R2 := fun x y H Q => ∃ l k xs, x = .ref l ∧ y = .int k ∧ SqT K H l xs ∧ k.natAbs ≤ 1000 ∧ xs.length ≤ 1000 ∧ ((xs = [] ∨ k = 1) → Q (.ref l) H) ∧ ∀ p, H p = none → Q (.ref p) (upd H p (.tup (List.replicate k.toNat xs).flatten))
section
variable {X : Cx}
theorem op_repA : OpR X (binaryOp .Mult) (rRepA X.K) := by
  intro pins s σ H x y v u Q I rx ry h
  obtain ⟨l, k, xs, rfl, rfl, hT, h1, hz, q1, q2⟩ := h
  by_cases big : xs ≠ [] ∧ 2 ≤ k
  · exact op_repT pins s σ H _ _ v u Q I rx ry ⟨l, k, xs, rfl, rfl, hT, big.1, big.2, by omega, hz, q2⟩
  cases rx
  obtain ⟨t, rfl⟩ := ry
  obtain ⟨its, r, ⟨⟨cls, dd, data, sl⟩, ho, hc, n, hd⟩, hs⟩ := I.tuple hT
  simp only at hc hd
  subst hc hd
  have hle : its.length = xs.length := r.length.symm
  have c0 : (decide (k < -(2 ^ 63)) || decide (k ≥ 2 ^ 63)) = false := by
    rw [decide_eq_false (by omega), decide_eq_false (by omega)] <;> rfl
  by_cases same : xs = [] ∨ k = 1
  · have c1 : (its.toArray.isEmpty || k == 1) = true := by
      rcases same with e | e
      · rw [e] at hle
        have := List.eq_nil_of_length_eq_zero hle
        subst this; rfl
      · rw [e]; simp
    refine wpAny_binaryOp_repeat_ref (T := "tuple") (U := "int") (by decide) ⟨_, ho, rfl⟩ (fun s' => typeIs_int s' k t) noFill_tuple_mul F.fills_int_mul F.slot_int_rmul repeat_tuple F.slot_int_index.lookup
      (call_meets F.slot_int_rmul (typeIs_int s k t) F.entry_int_rmul (F.args_int_rmul_2 _ _) (int_rmul_tuple k t l its.toArray n dd sl)
        ⟨ho, rfl, ⟨_, ho, rfl⟩, call_meets F.slot_tuple_mul ⟨_, ho, rfl⟩ F.entry_tuple_mul (F.args_tuple_mul_2 _ _) (tuple_mulS l its.toArray n dd sl k t c0 c1) ⟨ho, ?_⟩⟩)
    exact ⟨.ref l, H, I, rfl, q1 same⟩
  · have hne : xs ≠ [] := fun e => same (.inl e)
    have hk : k ≤ 0 := by
      have : ¬ 2 ≤ k := fun z => big ⟨hne, z⟩
      have : k ≠ 1 := fun z => same (.inr z)
      omega
    have hn : its ≠ [] := fun e => hne (by
      rw [e] at hle
      exact List.eq_nil_of_length_eq_zero hle.symm)
    have hi : its.toArray.isEmpty = false := by
      cases its with
      | nil => exact absurd rfl hn
      | cons a b => rfl
    have c1 : (its.toArray.isEmpty || k == 1) = false := by
      rw [hi, Bool.false_or]
      exact beq_eq_false_iff_ne.mpr (by omega)
    have c2 : (decide (k ≤ 0) || its.toArray.isEmpty) = true := by
      rw [decide_eq_true hk]; rfl
    refine wpAny_binaryOp_repeat_ref (T := "tuple") (U := "int") (by decide) ⟨_, ho, rfl⟩ (fun s' => typeIs_int s' k t) noFill_tuple_mul F.fills_int_mul F.slot_int_rmul repeat_tuple F.slot_int_index.lookup
      (call_meets F.slot_int_rmul (typeIs_int s k t) F.entry_int_rmul (F.args_int_rmul_2 _ _) (int_rmul_tuple k t l its.toArray n dd sl)
        ⟨ho, rfl, ⟨_, ho, rfl⟩, call_meets F.slot_tuple_mul ⟨_, ho, rfl⟩ F.entry_tuple_mul (F.args_tuple_mul_2 _ _) (tuple_mulN l its.toArray n dd sl k t c0 c1 c2) ⟨ho, ?_⟩⟩)
    have e0 : (List.replicate k.toNat xs).flatten = [] := by
      rw [show k.toNat = 0 by omega]; rfl
    rw [e0] at q2
    refine ⟨.ref s.heap.objs.size, _, I.laid (t' := s.toks) (o := .tup []) (fun b ob q => Heap.get?_push_of_some _ q) (Nat.le_refl _) ?_, rfl, q2 _ (I.hok.fresh (Nat.le_refl _))⟩
    exact ⟨by simp, [], .nil, IsTup.new _ _⟩
/-- == and != with the empty tuple -/
def rEqU (K : PySem.W.Frag) (neg : Bool) : R2 := fun x y H Q => ∃ l b xs, x = .ref l ∧ y = .ref b ∧ SqT K H l xs ∧ SqT K H b [] ∧ Q (.bl (if neg then !xs.isEmpty else xs.isEmpty)) H
theorem op_eqU {k : Nat} (hu : X.A.units + 64 < cLine) : OpR X (compareOp .Eq) (rEqU X.K false) := by
  intro pins s σ H x y v u Q I rx ry h
  obtain ⟨l, b, xs, rfl, rfl, h1, h2, q⟩ := h
  cases rx; cases ry
  obtain ⟨its, r, it1, hs⟩ := I.tuple h1
  obtain ⟨its2, r2, it2, hs2⟩ := I.tuple h2
  have e2 : its2 = [] := List.eq_nil_of_length_eq_zero (by have := r2.length; simpa using this.symm)
  subst e2
  refine PySem.SeqAt.RcAt.tuples (e := fun _ => true) it1 it2 (by omega) (fun j h1 h2 => absurd h2 (by simp)) X.prog X.w X.xe _ ⟨.bl xs.isEmpty, H, I, ?_, q⟩
  have hl : its.length = xs.length := r.length.symm
  have : ((List.range (min its.toArray.size ([] : List Value).toArray.size)).all (fun _ => true) && its.toArray.size == ([] : List Value).toArray.size) = xs.isEmpty := by
    simp
    cases xs with
    | nil => have := List.eq_nil_of_length_eq_zero hl; subst this; rfl
    | cons a r => cases its with
      | nil => cases hl
      | cons b r' => rfl
  rw [this]
  rfl
theorem op_neU {k : Nat} (hu : X.A.units + 64 < cLine) : OpR X (compareOp .NotEq) (rEqU X.K true) := by
  intro pins s σ H x y v u Q I rx ry h
  obtain ⟨l, b, xs, rfl, rfl, h1, h2, q⟩ := h
  cases rx; cases ry
  obtain ⟨its, r, it1, hs⟩ := I.tuple h1
  obtain ⟨its2, r2, it2, hs2⟩ := I.tuple h2
  have e2 : its2 = [] := List.eq_nil_of_length_eq_zero (by have := r2.length; simpa using this.symm)
  subst e2
  refine PySem.SeqAt.RcNeAt.tuples (e := fun _ => true) it1 it2 (by omega) (fun j h1 h2 => absurd h2 (by simp)) X.prog X.w X.xe _ ⟨.bl (!xs.isEmpty), H, I, ?_, q⟩
  have hl : its.length = xs.length := r.length.symm
  have : (!((List.range (min its.toArray.size ([] : List Value).toArray.size)).all (fun _ => true) && its.toArray.size == ([] : List Value).toArray.size)) = !xs.isEmpty := by
    simp
    cases xs with
    | nil => have := List.eq_nil_of_length_eq_zero hl; subst this; rfl
    | cons a r => cases its with
      | nil => cases hl
      | cons b r' => rfl
  rw [this]
  rfl
/-- == and != with the empty list -/
def rEqL (K : PySem.W.Frag) (neg : Bool) : R2 := fun x y H Q => ∃ l b xs, x = .ref l ∧ y = .ref b ∧ SqL K H l xs ∧ SqL K H b [] ∧ Q (.bl (if neg then !xs.isEmpty else xs.isEmpty)) H
theorem op_eqLn {k : Nat} (hu : X.A.units + 64 < cLine) : OpR X (compareOp .Eq) (rEqL X.K false) := by
  intro pins s σ H x y v u Q I rx ry h
  obtain ⟨l, b, xs, rfl, rfl, h1, h2, q⟩ := h
  cases rx; cases ry
  obtain ⟨its, r, it1, hs⟩ := I.list h1
  obtain ⟨its2, r2, it2, hs2⟩ := I.list h2
  have e2 : its2 = [] := List.eq_nil_of_length_eq_zero (by have := r2.length; simpa using this.symm)
  subst e2
  have hl : its.length = xs.length := r.length.symm
  cases xs with
  | nil =>
    have := List.eq_nil_of_length_eq_zero hl
    subst this
    exact PySem.SeqAt.RcAt.lists (e := fun _ => true) it1.isList it2.isList rfl (by omega) (fun j h1 h2 => absurd h2 (by simp)) X.prog X.w X.xe _ ⟨.bl true, H, I, rfl, q⟩
  | cons a xs =>
    cases its with
    | nil => cases hl
    | cons z zs => exact PySem.SeqAt.RcAt.lists_lengths it1.isList it2.isList (by simp) (by omega) X.prog X.w X.xe _ ⟨.bl false, H, I, rfl, q⟩
theorem op_neLn {k : Nat} (hu : X.A.units + 64 < cLine) : OpR X (compareOp .NotEq) (rEqL X.K true) := by
  intro pins s σ H x y v u Q I rx ry h
  obtain ⟨l, b, xs, rfl, rfl, h1, h2, q⟩ := h
  cases rx; cases ry
  obtain ⟨its, r, it1, hs⟩ := I.list h1
  obtain ⟨its2, r2, it2, hs2⟩ := I.list h2
  have e2 : its2 = [] := List.eq_nil_of_length_eq_zero (by have := r2.length; simpa using this.symm)
  subst e2
  have hl : its.length = xs.length := r.length.symm
  cases xs with
  | nil =>
    have := List.eq_nil_of_length_eq_zero hl
    subst this
    exact PySem.SeqAt.RcNeAt.lists (e := fun _ => true) it1.isList it2.isList rfl (by omega) (fun j h1 h2 => absurd h2 (by simp)) X.prog X.w X.xe _ ⟨.bl false, H, I, rfl, q⟩
  | cons a xs =>
    cases its with
    | nil => cases hl
    | cons z zs => exact PySem.SeqAt.RcNeAt.lists_lengths it1.isList it2.isList (by simp) (by omega) X.prog X.w X.xe _ ⟨.bl true, H, I, rfl, q⟩
/-- a truth value and an int -/
theorem op_add_bi : OpR X (binaryOp .Add) (fun x y H Q => ∃ (k : Bool) (i : Int), x = .bl k ∧ y = .int i ∧ Q (.int ((if k = true then (1 : Int) else 0) + i)) H) := by
  intro pins s σ H x y v u Q I rx ry h
  obtain ⟨k, i, rfl, rfl, q⟩ := h
  cases rx
  obtain ⟨t, rfl⟩ := ry
  exact PySem.IntBool.add_bool_int ⟨.int _, H, I.tok _, ⟨_, rfl⟩, q⟩
theorem op_sub_bi : OpR X (binaryOp .Sub) (fun x y H Q => ∃ (k : Bool) (i : Int), x = .bl k ∧ y = .int i ∧ Q (.int ((if k = true then (1 : Int) else 0) - i)) H) := by
  intro pins s σ H x y v u Q I rx ry h
  obtain ⟨k, i, rfl, rfl, q⟩ := h
  cases rx
  obtain ⟨t, rfl⟩ := ry
  exact PySem.IntBool.sub_bool_int ⟨.int _, H, I.tok _, ⟨_, rfl⟩, q⟩
theorem call_str_bool : CallR X (.type "str") (fun xs H Q => ∃ k : Bool, xs = [.bl k] ∧ Q (.str (if k then "True" else "False")) H) := by
  intro pins s σ H xs us Q I r h
  obtain ⟨k, rfl, q⟩ := h
  obtain ⟨u, rfl, ru⟩ := r.one
  cases ru
  exact PySem.P.str_of_bool ⟨.str _, H, I.tok _, ⟨_, rfl⟩, q⟩
end
end Dl
/-! Dl2: expressions. -/
namespace Dl
open PySem PySem.Spec PyProof.Rows L2
def cap : Nat := 16777216
theorem cap_eq : sizeLine = cap := sizeLine_eq
section
variable {X : Cx} {e a b c : Expr} {es : List Expr} {fa fb fc f : Ex} {fs : Exs} {ft fu : Tx} {pos : Pos}
/-! ### names, constants -/
def eVar (i : Nat) : Ex := fun ρ S => match ρ[i]? with
  | some (some w) => .ok w S
  | _ => .no
def eC (x : T) : Ex := fun _ S => .ok (.t x) S
theorem de_var {i : Nat} {x : Str} (hN : X.N[i]? = some x := by rfl) (hv : Vis X.env.scope x := by first | exact Or.inl rfl | exact Or.inr (Or.inl rfl) | exact Or.inr (Or.inr rfl)) (hd : (x == ("__debug__" : Str)) = false := by decide)
    (hcd : (x == ("__classdict__" : Str)) = false := by decide) : DE X (.Name x pos) (eVar i) := by
  intro σ H ρ S F μ w S' Q h hs e hQ
  unfold eVar at e
  split at e
  · rename_i w' hw
    cases e
    obtain ⟨v, h1, h2⟩ := hs.get i _ hw
    exact wpe (pe_var hN hv hd hcd) ⟨v, h1, hQ v H F μ h Gr.refl h2⟩
  · cases e
theorem de_const {x : T} {v : V} (hp : ∀ K F, Rp K F x v) (h : PE X e (tC v)) : DE X e (eC x) := by
  intro σ H ρ S F μ w S' Q h1 hs e hQ
  cases e
  exact wpe h (hQ v H F μ h1 Gr.refl (hp _ _))
theorem de_int {i : Int} {j : Nat} : DE X (.Constant (.int i) j pos) (eC (.int i)) := de_const (fun _ _ => .int i) pe_int
theorem de_bl {i : Bool} {j : Nat} : DE X (.Constant (.bool i) j pos) (eC (.bl i)) := de_const (fun _ _ => .bl i) pe_bl
theorem de_non {j : Nat} : DE X (.Constant .none j pos) (eC .non) := de_const (fun _ _ => .non) pe_non
theorem de_str {i : Str} {j : Nat} : DE X (.Constant (.str i) j pos) (eC (.str i)) := de_const (fun _ _ => .str i) pe_str
theorem de_gint {x : Str} {i : Int} {t : Tok} (hg : Gl X x) (hm : X.mg x = some (.int i t)) (hd : (x == ("__debug__" : Str)) = false := by decide) : DE X (.Name x pos) (eC (.int i)) :=
  de_const (fun _ _ => .int i) (pe_glob hg hm ⟨t, rfl⟩ hd)
/-! ### argument lists -/
def aNil : Exs := fun _ S => .ok [] S
def aCons (f : Ex) (g : Exs) : Exs := fun ρ S => (f ρ S).bind fun w S1 => (g ρ S1).bind fun ws S2 => .ok (w :: ws) S2
theorem da_nil : DA X [] aNil := by
  intro σ H ρ S F μ ws S' Q h hs e hQ
  cases e
  exact wpa pa_nil (hQ [] H F μ h Gr.refl .nil)
theorem da_cons (h1 : DE X e f) (h2 : DA X es fs) (hs : starEach (e :: es) X.env = (false, eval e X.env) :: starEach es X.env := by rfl) : DA X (e :: es) (aCons f fs) := by
  intro σ H ρ S F μ ws S' Q h hr e hQ
  obtain ⟨w, S1, e1, e⟩ := R.bind_eq e
  obtain ⟨ws', S2, e2, e⟩ := R.bind_eq e
  cases e
  refine wpa (pa_cons peW paW hs) (h1 σ H ρ S F μ w S1 _ h hr e1 fun v H1 F1 μ1 r1 g1 q1 => ?_)
  exact h2 σ H1 ρ S1 F1 μ1 ws' S' _ r1 (hr.gr g1) e2 fun vs H2 F2 μ2 r2 g2 q2 => hQ (v :: vs) H2 F2 μ2 r2 (g1.trans g2) (.cons (q1.gr g2) q2)
/-! ### tuples, lists -/
def treeOf (g : List T → T) (ws : List W) : Option W := if ws.length ≤ cap then (toTs ws).map fun xs => .t (g xs) else none
def eTup (fs : Exs) : Ex := fun ρ S => (fs ρ S).bind fun ws S1 => R.of (treeOf T.tup ws) S1
def eLst (fs : Exs) : Ex := fun ρ S => (fs ρ S).bind fun ws S1 => R.of (treeOf T.lst ws) S1
theorem treeOf_eq {g : List T → T} {ws : List W} {w : W} (h : treeOf g ws = some w) : ws.length ≤ cap ∧ ∃ xs, ws = xs.map W.t ∧ w = .t (g xs) := by
  unfold treeOf at h
  split at h
  · rename_i hl
    cases q : toTs ws with
    | none => rw [q] at h; cases h
    | some xs => rw [q] at h; cases h; exact ⟨hl, xs, toTs_some q, rfl⟩
  · cases h
theorem de_tup {k : Nat} (h : DA X es fs) : DE X (.Tuple es k pos) (eTup fs) := by
  intro σ H ρ S F μ w S' Q h0 hr e hQ
  obtain ⟨ws, S1, e1, e⟩ := R.bind_eq e
  obtain ⟨e2, rfl⟩ := R.of_eq e
  obtain ⟨hl, xs, rfl, rfl⟩ := treeOf_eq e2
  refine wpe (pe_tup paW) (h σ H ρ S F μ _ S' _ h0 hr e1 fun vs H1 F1 μ1 r1 g1 q1 => ⟨by rw [← q1.length, cap_eq]; exact hl, fun p hp => ?_⟩)
  obtain ⟨r2, g2⟩ := r1.new (.tup vs) hp
  exact hQ _ _ _ _ r2 (g1.trans g2) (show Rp _ _ _ _ from .tup (SqT.of upd_same) (q1.trees.mono g2.same))
theorem de_lst (h : DA X es fs) : DE X (.List es pos) (eLst fs) := by
  intro σ H ρ S F μ w S' Q h0 hr e hQ
  obtain ⟨ws, S1, e1, e⟩ := R.bind_eq e
  obtain ⟨e2, rfl⟩ := R.of_eq e
  obtain ⟨hl, xs, rfl, rfl⟩ := treeOf_eq e2
  refine wpe (pe_lst paW) (h σ H ρ S F μ _ S' _ h0 hr e1 fun vs H1 F1 μ1 r1 g1 q1 => ⟨by rw [← q1.length, cap_eq]; exact hl, fun p hp => ?_⟩)
  obtain ⟨r2, g2⟩ := r1.new (.lst vs) hp
  exact hQ _ _ _ _ r2 (g1.trans g2) (show Rp _ _ _ _ from .lst upd_same (q1.trees.mono g2.same))
/-- a list display whose list is a cell -/
def eLstB (fs : Exs) : Ex := fun ρ S => (fs ρ S).bind fun ws S1 => if ws.length ≤ cap then (match toTs ws with
  | some xs => .ok (.r S1.length) (S1 ++ [.lst xs])
  | none => .no) else .no
def eVecB (fs : Exs) : Ex := fun ρ S => (fs ρ S).bind fun ws S1 => if ws.length ≤ cap then .ok (.r S1.length) (S1 ++ [.vec ws]) else .no
theorem Rs.boxNew {K : PySem.W.Frag} {H F : Hp} {μ : List Addr} {S : Sto} {p : Addr} {o : HO} {cl : Cell} (h : Rs K H S F μ) (hp : H p = none) (hc : RpC K (upd H p o) F (μ ++ [p]) p cl) :
    Rs K (upd H p o) (S ++ [cl]) F (μ ++ [p]) ∧ Gr H F μ (upd H p o) F (μ ++ [p]) ∧ RpW K F (μ ++ [p]) (.r S.length) (.ref p) := by
  have nF := h.notF hp
  have nM := h.notM hp
  refine ⟨(h.heap o nF nM (h.sys.none hp)).box (by rw [upd_same]; exact fun z => nomatch z) nM hc, ⟨Same.refl _, ⟨[p], rfl⟩, fun b u h1 h2 h3 => ?_, fun b o' u e => by rw [upd_ne (ne_of_none e hp)]; exact e⟩, ⟨p, by rw [← h.len]; simp, rfl⟩⟩
  have ne : b ≠ p := ne_of_none h1 hp
  exact ⟨by rw [upd_ne ne]; exact h1, h2, by simp [h3, ne]⟩
theorem de_lstB (h : DA X es fs) : DE X (.List es pos) (eLstB fs) := by
  intro σ H ρ S F μ w S' Q h0 hr e hQ
  obtain ⟨ws, S1, e1, e⟩ := R.bind_eq e
  split at e
  · rename_i hl
    cases q : toTs ws with
    | none => rw [q] at e; cases e
    | some xs =>
      rw [q] at e
      cases e
      have q := toTs_some q
      subst q
      refine wpe (pe_lst paW) (h σ H ρ S F μ _ S1 _ h0 hr e1 fun vs H1 F1 μ1 r1 g1 q1 => ⟨by rw [← q1.length, cap_eq]; exact hl, fun p hp => ?_⟩)
      obtain ⟨r2, g2, rr⟩ := r1.boxNew (cl := .lst xs) (o := .lst vs) hp ⟨r1.notF hp, vs, upd_same, q1.trees⟩
      exact hQ _ _ _ _ r2 (g1.trans g2) rr
  · cases e
theorem de_vecB (h : DA X es fs) : DE X (.List es pos) (eVecB fs) := by
  intro σ H ρ S F μ w S' Q h0 hr e hQ
  obtain ⟨ws, S1, e1, e⟩ := R.bind_eq e
  split at e
  · rename_i hl
    cases e
    refine wpe (pe_lst paW) (h σ H ρ S F μ _ S1 _ h0 hr e1 fun vs H1 F1 μ1 r1 g1 q1 => ⟨by rw [← q1.length, cap_eq]; exact hl, fun p hp => ?_⟩)
    obtain ⟨r2, g2, rr⟩ := r1.boxNew (cl := .vec ws) (o := .lst vs) hp ⟨r1.notF hp, vs, upd_same, q1.mono (Same.refl _) ⟨[p], rfl⟩⟩
    exact hQ _ _ _ _ r2 (g1.trans g2) rr
  · cases e
/-! ### operators -/
/-- what comes out: a tree, new or old -/
def Res (K : PySem.W.Frag) (H : Hp) (S : Sto) (F : Hp) (μ : List Addr) (c : T) (Q : VK) : Prop := ∀ v H' F', Rs K H' S F' μ → Gr H F μ H' F' μ → Rp K F' c v → Q v H'
section
variable {K : PySem.W.Frag} {H F : Hp} {μ : List Addr} {S : Sto} {Q : VK} {x c : T} {v : V}
theorem Res.same (h : Rs K H S F μ) (q : Res K H S F μ c Q) (r : Rp K F c v) : Q v H := q v H F h Gr.refl r
theorem Res.lst {xs : List T} {vs : List V} {p : Addr} (h : Rs K H S F μ) (q : Res K H S F μ (.lst xs) Q) (r : Rps K F xs vs) (hp : H p = none) : Q (.ref p) (upd H p (.lst vs)) := by
  obtain ⟨r2, g2⟩ := h.new (.lst vs) hp
  exact q _ _ _ r2 g2 (.lst upd_same (r.mono g2.same))
theorem Res.tup {xs : List T} {vs : List V} {p : Addr} (h : Rs K H S F μ) (q : Res K H S F μ (.tup xs) Q) (r : Rps K F xs vs) (hp : H p = none) : Q (.ref p) (upd H p (.tup vs)) := by
  obtain ⟨r2, g2⟩ := h.new (.tup vs) hp
  exact q _ _ _ r2 g2 (.tup (SqT.of upd_same) (r.mono g2.same))
end
def OpD (X : Cx) (f : Value → Value → Sem Value) (g : T → T → Option T) : Prop := ∃ r : R2, OpR X f r ∧ ∀ (H : Hp) (S : Sto) (F : Hp) (μ : List Addr) (x y : T) (v u : V) (c : T) (Q : VK),
  Rs X.K H S F μ → Rv X.K H F x v → Rv X.K H F y u → g x y = some c → Res X.K H S F μ c Q → r v u H Q
/-- two operands, then g on what they are -/
def e2 (g : T → T → Option T) (fa fb : Ex) : Ex := fun ρ S => (fa ρ S).bind fun w1 S1 => (fb ρ S1).bind fun w2 S2 => R.of ((view S2 w1).bind fun x => (view S2 w2).bind fun y => (g x y).map W.t) S2
theorem e2_eq {g : T → T → Option T} {ρ : Env} {S S' : Sto} {w : W} (h : e2 g fa fb ρ S = .ok w S') : ∃ w1 S1 w2 x y c, fa ρ S = .ok w1 S1 ∧ fb ρ S1 = .ok w2 S' ∧ view S' w1 = some x ∧ view S' w2 = some y ∧ g x y = some c ∧ w = .t c := by
  obtain ⟨w1, S1, h1, h⟩ := R.bind_eq h
  obtain ⟨w2, S2, h2, h⟩ := R.bind_eq h
  obtain ⟨h3, rfl⟩ := R.of_eq h
  cases q1 : view S' w1 with
  | none => rw [q1] at h3; cases h3
  | some x =>
    cases q2 : view S' w2 with
    | none => rw [q1, q2] at h3; cases h3
    | some y =>
      rw [q1, q2] at h3
      cases q3 : g x y with
      | none =>
        have h3 : (g x y).map W.t = some w := h3
        rw [q3] at h3; cases h3
      | some c =>
        have h3 : (g x y).map W.t = some w := h3
        rw [q3] at h3; cases h3
        exact ⟨w1, S1, w2, x, y, c, h1, h2, q1, q2, q3, rfl⟩
theorem two_run {g : T → T → Option T} {r : R2} (hr : ∀ (H : Hp) (S : Sto) (F : Hp) (μ : List Addr) (x y : T) (v u : V) (c : T) (Q : VK), Rs X.K H S F μ → Rv X.K H F x v → Rv X.K H F y u → g x y = some c → Res X.K H S F μ c Q → r v u H Q)
    (ha : DE X a fa) (hb : DE X b fb) {σ : L2.St} {H : Hp} {ρ : Env} {S : Sto} {F : Hp} {μ : List Addr} {w : W} {S' : Sto} {Q : VK} (h : Rs X.K H S F μ) (hs : RpSt X.K F μ σ ρ) (e : e2 g fa fb ρ S = .ok w S')
    (hQ : ∀ v H' F' μ', Rs X.K H' S' F' μ' → Gr H F μ H' F' μ' → RpW X.K F' μ' w v → Q v H') : tOp r (WPE X a) (WPE X b) σ H Q := by
  obtain ⟨w1, S1, w2, x, y, c, h1, h2, h3, h4, h5, rfl⟩ := e2_eq e
  refine ha σ H ρ S F μ w1 S1 _ h hs h1 fun v H1 F1 μ1 r1 g1 q1 => ?_
  refine hb σ H1 ρ S1 F1 μ1 w2 S' _ r1 (hs.gr g1) h2 fun u H2 F2 μ2 r2 g2 q2 => ?_
  refine hr H2 S' F2 μ2 x y v u c Q r2 (view_rv r2 (q1.gr g2) h3) (view_rv r2 q2 h4) h5 fun z H3 F3 r3 g3 q3 => ?_
  exact hQ z H3 F3 μ2 r3 ((g1.trans g2).trans g3) q3
theorem de_op {op : Operator} {g : T → T → Option T} (ho : OpD X (binaryOp op) g) (ha : DE X a fa) (hb : DE X b fb) : DE X (.BinOp a op b pos) (e2 g fa fb) := by
  obtain ⟨r, h1, h2⟩ := ho
  intro σ H ρ S F μ w S' Q h hs e hQ
  exact wpe (pe_op h1 peW peW) (two_run h2 ha hb h hs e hQ)
theorem de_cmp {op : CmpOp} {g : T → T → Option T} (ho : OpD X (compareOp op) g) (ha : DE X a fa) (hb : DE X b fb) (hm : behindInMarks op b = false := by first | exact nomark _ | rfl) : DE X (.Compare a [op] [b] pos) (e2 g fa fb) := by
  obtain ⟨r, h1, h2⟩ := ho
  intro σ H ρ S F μ w S' Q h hs e hQ
  exact wpe (pe_cmpR h1 peW peW hm) (two_run h2 ha hb h hs e hQ)
/-- a tree that is a truth value -/
def asB : W → Option Bool
  | .t (.bl b) => some b
  | _ => none
def tE (f : Ex) : Tx := fun ρ S => (f ρ S).bind fun w S1 => R.of (asB w) S1
theorem tE_eq {ρ : Env} {S S' : Sto} {k : Bool} (h : tE f ρ S = .ok k S') : f ρ S = .ok (.t (.bl k)) S' := by
  obtain ⟨w, S1, h1, h⟩ := R.bind_eq h
  obtain ⟨h2, rfl⟩ := R.of_eq h
  unfold asB at h2
  split at h2
  · cases h2; exact h1
  · cases h2
theorem dt_cmp {op : CmpOp} {g : T → T → Option T} (ho : OpD X (compareOp op) g) (ha : DE X a fa) (hb : DE X b fb) (hm : behindInMarks op b = false := by first | exact nomark _ | rfl) : DT X (.Compare a [op] [b] pos) (tE (e2 g fa fb)) := by
  obtain ⟨r, h1, h2⟩ := ho
  intro σ H ρ S F μ k S' Q h hs e hQ
  refine wpt (pt_cmpR h1 peW peW hm) (two_run h2 ha hb h hs (tE_eq e) fun v H' F' μ' r' g' q' => ?_)
  have q' : Rp X.K F' (.bl k) v := q'
  cases q'
  exact ⟨k, rfl, hQ H' F' μ' r' g'⟩
/-- an expression that gives a truth value, as a test -/
theorem dt_val (ha : DE X a fa) (he : ∀ whole, isTrue a X.env whole = (do let v ← whole; standAt a.pos; holding [v] (truthy v)) := by intro _; rfl) : DT X a (tE fa) := by
  intro σ H ρ S F μ k S' Q h hs e hQ
  refine wpt (pt_val peW he) (ha σ H ρ S F μ _ S' _ h hs (tE_eq e) fun v H' F' μ' r' g' q' => ?_)
  have q' : Rp X.K F' (.bl k) v := q'
  cases q'
  exact ⟨k, rfl, hQ H' F' μ' r' g'⟩
/-- a op b op' c -/
def e3 (g g' : T → T → Option T) (fa fb fc : Ex) : Ex := fun ρ S => (fa ρ S).bind fun w1 S1 => (fb ρ S1).bind fun w2 S2 =>
  (R.of ((view S2 w1).bind fun x => (view S2 w2).bind fun y => g x y) S2).bind fun z S3 => match z with
    | .bl true => (fc ρ S3).bind fun w3 S4 => R.of ((view S4 w2).bind fun y => (view S4 w3).bind fun z => (g' y z).map W.t) S4
    | .bl false => .ok (.t (.bl false)) S3
    | _ => .no
theorem bind2 {α β γ : Type} {x : Option α} {y : Option β} {k : α → β → Option γ} {c : γ} (h : (x.bind fun a => y.bind fun b => k a b) = some c) : ∃ a b, x = some a ∧ y = some b ∧ k a b = some c := by
  cases x with
  | none => cases h
  | some a => cases y with
    | none => cases h
    | some b => exact ⟨a, b, rfl, rfl, h⟩
theorem map1 {α β : Type} {x : Option α} {k : α → β} {c : β} (h : x.map k = some c) : ∃ a, x = some a ∧ c = k a := by
  cases x with
  | none => cases h
  | some a => cases h; exact ⟨a, rfl, rfl⟩
theorem chain_run {g g' : T → T → Option T} {r r' : R2} (hr : ∀ (H : Hp) (S : Sto) (F : Hp) (μ : List Addr) (x y : T) (v u : V) (c : T) (Q : VK), Rs X.K H S F μ → Rv X.K H F x v → Rv X.K H F y u → g x y = some c → Res X.K H S F μ c Q → r v u H Q)
    (hr' : ∀ (H : Hp) (S : Sto) (F : Hp) (μ : List Addr) (x y : T) (v u : V) (c : T) (Q : VK), Rs X.K H S F μ → Rv X.K H F x v → Rv X.K H F y u → g' x y = some c → Res X.K H S F μ c Q → r' v u H Q)
    (ha : DE X a fa) (hb : DE X b fb) (hc : DE X c fc) {σ : L2.St} {H : Hp} {ρ : Env} {S : Sto} {F : Hp} {μ : List Addr} {w : W} {S' : Sto} {Q : VK} (h : Rs X.K H S F μ) (hs : RpSt X.K F μ σ ρ) (e : e3 g g' fa fb fc ρ S = .ok w S')
    (hQ : ∀ v H' F' μ', Rs X.K H' S' F' μ' → Gr H F μ H' F' μ' → RpW X.K F' μ' w v → Q v H') : tChain r r' (WPE X a) (WPE X b) (WPE X c) σ H Q := by
  obtain ⟨w1, S1, h1, ea⟩ := R.bind_eq e
  clear e
  obtain ⟨w2, S2, h2, eb⟩ := R.bind_eq ea
  clear ea
  obtain ⟨z, S3, h3, e⟩ := R.bind_eq eb
  clear eb
  obtain ⟨h3, rfl⟩ := R.of_eq h3
  obtain ⟨x, y, hx, hy, hg⟩ := bind2 h3
  refine ha σ H ρ S F μ w1 S1 _ h hs h1 fun v H1 F1 μ1 r1 g1 q1 => ?_
  refine hb σ H1 ρ S1 F1 μ1 w2 _ _ r1 (hs.gr g1) h2 fun u H2 F2 μ2 r2 g2 q2 => ?_
  refine hr H2 _ F2 μ2 x y v u z _ r2 (view_rv r2 (q1.gr g2) hx) (view_rv r2 q2 hy) hg fun z' H3 F3 r3 g3 q3 => ?_
  split at e
  · cases q3
    obtain ⟨w3, S4, h4, e⟩ := R.bind_eq e
    obtain ⟨h5, rfl⟩ := R.of_eq e
    obtain ⟨y', z2, hy', hz, hg'⟩ := bind2 h5
    obtain ⟨c', hc', rfl⟩ := map1 hg'
    refine ⟨true, rfl, ?_⟩
    rw [if_pos rfl]
    refine hc σ H3 ρ _ F3 μ2 w3 _ _ r3 (((hs.gr g1).gr g2).gr g3) h4 fun t H4 F4 μ4 r4 g4 q4 => ?_
    refine hr' H4 _ F4 μ4 y' z2 u t c' Q r4 (view_rv r4 ((q2.gr g3).gr g4) hy') (view_rv r4 q4 hz) hc' fun t' H5 F5 r5 g5 q5 => ?_
    exact hQ t' H5 F5 μ4 r5 ((((g1.trans g2).trans g3).trans g4).trans g5) q5
  · cases q3
    cases e
    refine ⟨false, rfl, ?_⟩
    rw [if_neg Bool.false_ne_true]
    exact hQ _ H3 F3 μ2 r3 ((g1.trans g2).trans g3) (show Rp _ _ _ _ from .bl false)
  · cases e
theorem de_chain {op op' : CmpOp} {g g' : T → T → Option T} (ho : OpD X (compareOp op) g) (ho' : OpD X (compareOp op') g') (ha : DE X a fa) (hb : DE X b fb) (hc : DE X c fc) (hm : lastMarks [op, op'] [b, c] = false := by with_unfolding_all rfl) :
    DE X (.Compare a [op, op'] [b, c] pos) (e3 g g' fa fb fc) := by
  obtain ⟨r, h1, h2⟩ := ho
  obtain ⟨r', h1', h2'⟩ := ho'
  intro σ H ρ S F μ w S' Q h hs e hQ
  exact wpe (pe_chain h1 h1' peW peW peW hm) (chain_run h2 h2' ha hb hc h hs e hQ)
theorem dt_chain {op op' : CmpOp} {g g' : T → T → Option T} (ho : OpD X (compareOp op) g) (ho' : OpD X (compareOp op') g') (ha : DE X a fa) (hb : DE X b fb) (hc : DE X c fc) (hm : lastMarks [op, op'] [b, c] = false := by with_unfolding_all rfl) :
    DT X (.Compare a [op, op'] [b, c] pos) (tE (e3 g g' fa fb fc)) := by
  obtain ⟨r, h1, h2⟩ := ho
  obtain ⟨r', h1', h2'⟩ := ho'
  intro σ H ρ S F μ k S' Q h hs e hQ
  refine wpt (pt_chain h1 h1' peW peW peW hm) (chain_run h2 h2' ha hb hc h hs (tE_eq e) fun v H' F' μ' r' g' q' => ?_)
  have q' : Rp X.K F' (.bl k) v := q'
  cases q'
  exact ⟨k, rfl, hQ H' F' μ' r' g'⟩
/-! ### and, or, not, if -/
variable {rest : List Expr}
def tAndD (f g : Tx) : Tx := fun ρ S => (f ρ S).bind fun k S1 => if k then g ρ S1 else .ok false S1
def tOrD (f g : Tx) : Tx := fun ρ S => (f ρ S).bind fun k S1 => if k then .ok true S1 else g ρ S1
def tNotD (f : Tx) : Tx := fun ρ S => (f ρ S).bind fun k S1 => .ok (!k) S1
theorem dw_pt (h : DW X e ft) : DT X e ft := by
  intro σ H ρ S F μ k S' Q h0 hs e hQ
  exact wpt (pwW).pt (h σ H ρ S F μ k S' Q h0 hs e hQ)
theorem dw_and1 (h : DT X a ft) : DW X (.BoolOp .And [a] pos) ft := by
  intro σ H ρ S F μ k S' Q h0 hs e hQ
  exact wpw (pw_and1 ptW) (h σ H ρ S F μ k S' Q h0 hs e hQ)
theorem dw_or1 (h : DT X a ft) : DW X (.BoolOp .Or [a] pos) ft := by
  intro σ H ρ S F μ k S' Q h0 hs e hQ
  exact wpw (pw_or1 ptW) (h σ H ρ S F μ k S' Q h0 hs e hQ)
theorem dw_and (h : DT X a ft) (h' : DW X (.BoolOp .And (b :: rest) pos) fu) : DW X (.BoolOp .And (a :: b :: rest) pos) (tAndD ft fu) := by
  intro σ H ρ S F μ k S' Q h0 hs e hQ
  obtain ⟨k1, S1, e1, e⟩ := R.bind_eq e
  refine wpw (pw_and ptW pwW) (h σ H ρ S F μ k1 S1 _ h0 hs e1 fun H1 F1 μ1 r1 g1 => ?_)
  cases k1 with
  | true => exact iteT (h' σ H1 ρ S1 F1 μ1 k S' Q r1 (hs.gr g1) e fun H2 F2 μ2 r2 g2 => hQ H2 F2 μ2 r2 (g1.trans g2))
  | false => cases e; exact iteF (hQ H1 F1 μ1 r1 g1)
theorem dw_or (h : DT X a ft) (h' : DW X (.BoolOp .Or (b :: rest) pos) fu) : DW X (.BoolOp .Or (a :: b :: rest) pos) (tOrD ft fu) := by
  intro σ H ρ S F μ k S' Q h0 hs e hQ
  obtain ⟨k1, S1, e1, e⟩ := R.bind_eq e
  refine wpw (pw_or ptW pwW) (h σ H ρ S F μ k1 S1 _ h0 hs e1 fun H1 F1 μ1 r1 g1 => ?_)
  cases k1 with
  | false => exact iteF (h' σ H1 ρ S1 F1 μ1 k S' Q r1 (hs.gr g1) e fun H2 F2 μ2 r2 g2 => hQ H2 F2 μ2 r2 (g1.trans g2))
  | true => cases e; exact iteT (hQ H1 F1 μ1 r1 g1)
theorem dt_not (h : DT X a ft) : DT X (.UnaryOp .Not a pos) (tNotD ft) := by
  intro σ H ρ S F μ k S' Q h0 hs e hQ
  obtain ⟨k1, S1, e1, e⟩ := R.bind_eq e
  cases e
  exact wpt (pt_not ptW) (h σ H ρ S F μ k1 S' _ h0 hs e1 fun H1 F1 μ1 r1 g1 => hQ H1 F1 μ1 r1 g1)
def eAnd (f g : Ex) : Ex := fun ρ S => (tE f ρ S).bind fun k S1 => if k then g ρ S1 else .ok (.t (.bl false)) S1
def eOr (f g : Ex) : Ex := fun ρ S => (tE f ρ S).bind fun k S1 => if k then .ok (.t (.bl true)) S1 else g ρ S1
def eNot (f : Ex) : Ex := fun ρ S => (tE f ρ S).bind fun k S1 => .ok (.t (.bl (!k))) S1
theorem de_one {op : BoolOp} (h : DE X a fa) : DE X (.BoolOp op [a] pos) fa := by
  intro σ H ρ S F μ w S' Q h0 hs e hQ
  exact wpe (pe_one peW) (h σ H ρ S F μ w S' Q h0 hs e hQ)
theorem de_and (h : DE X a fa) (h' : DE X (.BoolOp .And (b :: rest) pos) fb) : DE X (.BoolOp .And (a :: b :: rest) pos) (eAnd fa fb) := by
  intro σ H ρ S F μ w S' Q h0 hs e hQ
  obtain ⟨k1, S1, e1, e⟩ := R.bind_eq e
  refine wpe (pe_and peW peW) (h σ H ρ S F μ _ S1 _ h0 hs (tE_eq e1) fun v H1 F1 μ1 r1 g1 q1 => ?_)
  have q1 : Rp X.K F1 (.bl k1) v := q1
  cases q1
  refine ⟨k1, rfl, ?_⟩
  cases k1 with
  | true => exact iteT (h' σ H1 ρ S1 F1 μ1 w S' Q r1 (hs.gr g1) e fun v H2 F2 μ2 r2 g2 => hQ v H2 F2 μ2 r2 (g1.trans g2))
  | false => cases e; exact iteF (hQ _ H1 F1 μ1 r1 g1 (show Rp _ _ _ _ from .bl false))
theorem de_or (h : DE X a fa) (h' : DE X (.BoolOp .Or (b :: rest) pos) fb) : DE X (.BoolOp .Or (a :: b :: rest) pos) (eOr fa fb) := by
  intro σ H ρ S F μ w S' Q h0 hs e hQ
  obtain ⟨k1, S1, e1, e⟩ := R.bind_eq e
  refine wpe (pe_or peW peW) (h σ H ρ S F μ _ S1 _ h0 hs (tE_eq e1) fun v H1 F1 μ1 r1 g1 q1 => ?_)
  have q1 : Rp X.K F1 (.bl k1) v := q1
  cases q1
  refine ⟨k1, rfl, ?_⟩
  cases k1 with
  | false => exact iteF (h' σ H1 ρ S1 F1 μ1 w S' Q r1 (hs.gr g1) e fun v H2 F2 μ2 r2 g2 => hQ v H2 F2 μ2 r2 (g1.trans g2))
  | true => cases e; exact iteT (hQ _ H1 F1 μ1 r1 g1 (show Rp _ _ _ _ from .bl true))
theorem de_not (h : DE X a fa) : DE X (.UnaryOp .Not a pos) (eNot fa) := by
  intro σ H ρ S F μ w S' Q h0 hs e hQ
  obtain ⟨k1, S1, e1, e⟩ := R.bind_eq e
  cases e
  refine wpe (pe_not peW) (h σ H ρ S F μ _ S' _ h0 hs (tE_eq e1) fun v H1 F1 μ1 r1 g1 q1 => ?_)
  have q1 : Rp X.K F1 (.bl k1) v := q1
  cases q1
  exact ⟨k1, rfl, hQ _ H1 F1 μ1 r1 g1 (show Rp _ _ _ _ from .bl _)⟩
def eIf (t : Tx) (f g : Ex) : Ex := fun ρ S => (t ρ S).bind fun k S1 => if k then f ρ S1 else g ρ S1
theorem de_if (ht : DT X c ft) (h : DE X a fa) (h' : DE X b fb) : DE X (.IfExp c a b pos) (eIf ft fa fb) := by
  intro σ H ρ S F μ w S' Q h0 hs e hQ
  obtain ⟨k1, S1, e1, e⟩ := R.bind_eq e
  refine wpe (pe_ifExp ptW peW peW) (ht σ H ρ S F μ k1 S1 _ h0 hs e1 fun H1 F1 μ1 r1 g1 => ?_)
  cases k1 with
  | true => exact iteT (h σ H1 ρ S1 F1 μ1 w S' Q r1 (hs.gr g1) e fun v H2 F2 μ2 r2 g2 => hQ v H2 F2 μ2 r2 (g1.trans g2))
  | false => exact iteF (h' σ H1 ρ S1 F1 μ1 w S' Q r1 (hs.gr g1) e fun v H2 F2 μ2 r2 g2 => hQ v H2 F2 μ2 r2 (g1.trans g2))
end
end Dl
/-! Dl3: the operators. -/
namespace Dl
open PySem PySem.Spec PyProof.Rows L2
/-! ### trees as plain data -/
mutual
def toPy : T → PyData
  | .non => .none
  | .bl b => .bool b
  | .int i => .int i
  | .str x => .str x
  | .tup xs => .tuple (toPys xs)
  | .lst xs => .list (toPys xs)
  | .dct _ => .dict []
  | .scr _ => .dict []
def toPys : List T → List PyData
  | [] => []
  | x :: xs => toPy x :: toPys xs
end
mutual
/-- no dict, no script within -/
def lay : T → Bool
  | .str x => PyData.canLay0 (.str x)
  | .tup xs => lays xs
  | .lst xs => lays xs
  | .dct _ => false
  | .scr _ => false
  | _ => true
def lays : List T → Bool
  | [] => true
  | x :: xs => lay x && lays xs
end
mutual
def dep : T → Nat
  | .tup xs => deps xs + 1
  | .lst xs => deps xs + 1
  | _ => 0
def deps : List T → Nat
  | [] => 0
  | x :: xs => max (dep x) (deps xs)
end
mutual
def eqT : T → T → Bool
  | .non, .non => true
  | .bl a, .bl b => a == b
  | .bl a, .int j => (if a then 1 else 0) == j
  | .int i, .bl b => i == (if b then 1 else 0)
  | .int i, .int j => i == j
  | .str x, .str y => x == y
  | .lst xs, .lst ys => eqTs xs ys
  | .tup xs, .tup ys => eqTs xs ys
  | _, _ => false
def eqTs : List T → List T → Bool
  | [], [] => true
  | x :: xs, y :: ys => eqT x y && eqTs xs ys
  | _, _ => false
end
mutual
theorem eqT_py : ∀ x y : T, PyData.eqv (toPy x) (toPy y) = eqT x y
  | .non, y => by cases y <;> simp [toPy, PyData.eqv, eqT]
  | .bl a, y => by cases y <;> simp [toPy, PyData.eqv, eqT]
  | .int i, y => by cases y <;> simp [toPy, PyData.eqv, eqT]
  | .str x, y => by cases y <;> simp [toPy, PyData.eqv, eqT]
  | .tup xs, y => by
    cases y with
    | tup ys => simp only [toPy, PyData.eqv, eqT]; exact eqTs_py xs ys
    | _ => simp [toPy, PyData.eqv, eqT]
  | .lst xs, y => by
    cases y with
    | lst ys => simp only [toPy, PyData.eqv, eqT]; exact eqTs_py xs ys
    | _ => simp [toPy, PyData.eqv, eqT]
  | .dct xs, y => by cases y <;> simp [toPy, PyData.eqv, eqT]
  | .scr xs, y => by cases y <;> simp [toPy, PyData.eqv, eqT]
theorem eqTs_py : ∀ xs ys : List T, PyData.eqvAll (toPys xs) (toPys ys) = eqTs xs ys
  | [], [] => by simp [toPys, PyData.eqvAll, eqTs]
  | [], _ :: _ => by simp [toPys, PyData.eqvAll, eqTs]
  | _ :: _, [] => by simp [toPys, PyData.eqvAll, eqTs]
  | x :: xs, y :: ys => by simp only [toPys, PyData.eqvAll, eqTs]; rw [eqT_py x y, eqTs_py xs ys]
end
mutual
theorem lay_py : ∀ x : T, (toPy x).canLay0 = lay x
  | .non => by simp [toPy, PyData.canLay0, lay]
  | .bl _ => by simp [toPy, PyData.canLay0, lay]
  | .int _ => by simp [toPy, PyData.canLay0, lay]
  | .str _ => by simp [toPy, lay]
  | .tup xs => by simp only [toPy, PyData.canLay0, lay]; exact lays_py xs
  | .lst xs => by simp only [toPy, PyData.canLay0, lay]; exact lays_py xs
  | .dct _ => by simp [toPy, PyData.canLay0, lay]
  | .scr _ => by simp [toPy, PyData.canLay0, lay]
theorem lays_py : ∀ xs : List T, PyData.canLayAll0 (toPys xs) = lays xs
  | [] => by simp [toPys, PyData.canLayAll0, lays]
  | x :: xs => by simp only [toPys, PyData.canLayAll0, lays]; rw [lay_py x, lays_py xs]
end
mutual
theorem dep_py : ∀ x : T, lay x = true → (toPy x).depth = dep x
  | .non, _ => by simp [toPy, PyData.depth, dep]
  | .bl _, _ => by simp [toPy, PyData.depth, dep]
  | .int _, _ => by simp [toPy, PyData.depth, dep]
  | .str _, _ => by simp [toPy, PyData.depth, dep]
  | .tup xs, h => by simp only [toPy, PyData.depth, dep]; rw [deps_py xs (by simpa [lay] using h)]
  | .lst xs, h => by simp only [toPy, PyData.depth, dep]; rw [deps_py xs (by simpa [lay] using h)]
  | .dct _, h => by simp [lay] at h
  | .scr _, h => by simp [lay] at h
theorem deps_py : ∀ xs : List T, lays xs = true → PyData.depthAll (toPys xs) = deps xs
  | [], _ => by simp [toPys, PyData.depthAll, deps]
  | x :: xs, h => by
    have h' : lay x = true ∧ lays xs = true := by simpa [lays] using h
    simp only [toPys, PyData.depthAll, deps]; rw [dep_py x h'.1, deps_py xs h'.2]
end
def shp (x : T) : Bool := lay x && decide (dep x ≤ 60)
theorem shp_py {x : T} (h : shp x = true) : SeqAt.shaped (toPy x) = true := by
  unfold shp at h
  simp only [Bool.and_eq_true, decide_eq_true_eq] at h
  unfold SeqAt.shaped
  rw [lay_py, h.1, dep_py x h.1]
  simp; omega
mutual
theorem rp_dp {K : PySem.W.Frag} {F : Hp} : ∀ {x : T} {v : V}, Rp K F x v → lay x = true → Dp K F v (toPy x)
  | _, _, .non, _ => .non
  | _, _, .bl b, _ => .bl b
  | _, _, .int i, _ => .int i
  | _, _, .str x, _ => .str x
  | _, _, .tup h r, l => .tup h (rps_dp r (by simpa [lay] using l))
  | _, _, .lst h r, l => .lst (SqL.of h) (rps_dp r (by simpa [lay] using l))
  | _, _, .dct h r, l => by simp [lay] at l
  | _, _, .scr h, l => by simp [lay] at l
theorem rps_dp {K : PySem.W.Frag} {F : Hp} : ∀ {x : List T} {v : List V}, Rps K F x v → lays x = true → DpAll K F v (toPys x)
  | _, _, .nil, _ => .nil
  | _, _, .cons h r, l => by
    have l' := l
    simp only [lays, Bool.and_eq_true] at l'
    exact .cons (rp_dp h l'.1) (rps_dp r l'.2)
end
section
variable {X : Cx}
theorem opD_of {f : Value → Value → Sem Value} {g : T → T → Option T} {r : R2} (h : OpR X f r) (q : ∀ (H : Hp) (S : Sto) (F : Hp) (μ : List Addr) (x y : T) (v u : V) (c : T) (Q : VK),
  Rs X.K H S F μ → Rv X.K H F x v → Rv X.K H F y u → g x y = some c → Res X.K H S F μ c Q → r v u H Q) : OpD X f g := ⟨r, h, q⟩
/-! ### arithmetic -/
def b2I (k : Bool) : Int := if k = true then 1 else 0
def gAdd : T → T → Option T
  | .int i, .int j => some (.int (i + j))
  | .bl k, .int j => some (.int (b2I k + j))
  | .lst xs, .lst ys => if xs.length + ys.length ≤ cap then some (.lst (xs ++ ys)) else none
  | .tup xs, .tup ys => if xs.length + ys.length ≤ cap then some (.tup (xs ++ ys)) else none
  | .str x, .str y => if x.length + y.length ≤ cap then some (.str (x ++ y)) else none
  | _, _ => none
theorem od_add : OpD X (binaryOp .Add) gAdd := by
  refine opD_of ((((op_add (X := X)).or op_cat).or ((op_catA (X := X)).or op_add_str)).or op_add_bi) ?_
  intro H S F μ x y v u c Q h rx ry e q
  unfold gAdd at e
  split at e
  · cases e; cases rx; cases ry
    exact .inl (.inl (.inl ⟨_, _, rfl, rfl, q.same h (.int _)⟩))
  · cases e; cases rx; cases ry
    exact .inr ⟨_, _, rfl, rfl, q.same h (.int _)⟩
  · split at e
    · rename_i hl
      cases e; cases rx with
      | lst a r => cases ry with
        | lst a' r' =>
          exact .inl (.inl (.inr ⟨_, _, _, _, rfl, rfl, a, a', by rw [← r.length, ← r'.length, cap_eq]; exact hl, fun p hp => q.lst h (r.append r') hp⟩))
    · cases e
  · split at e
    · rename_i hl
      cases e; cases rx with
      | tup a r => cases ry with
        | tup a' r' =>
          have sa := Same.sqT h.sub a
          have sb := Same.sqT h.sub a'
          refine .inl (.inr (.inl ⟨_, _, _, _, rfl, rfl, sa, sb, by rw [← r.length, ← r'.length, cap_eq]; exact hl, fun z => ?_, fun _ z => ?_, fun _ _ p hp => q.tup h (r.append r') hp⟩))
          · subst z; cases r
            exact q.same h (.tup a' r')
          · subst z; cases r'
            rw [List.append_nil] at q
            exact q.same h (.tup a r)
    · cases e
  · split at e
    · rename_i hl
      cases e; cases rx; cases ry
      exact .inl (.inr (.inr ⟨_, _, rfl, rfl, by rw [cap_eq]; exact hl, q.same h (.str _)⟩))
    · cases e
  · cases e
theorem od_int {op : Operator} {C : Int → Int → Prop} {g : T → T → Option T} {k : Int → Int → Int} (ho : OpR X (binaryOp op) (rI C fun i j => .int (k i j)))
    (hg : ∀ x y c, g x y = some c → ∃ i j, x = .int i ∧ y = .int j ∧ C i j ∧ c = .int (k i j)) : OpD X (binaryOp op) g := by
  refine opD_of ho ?_
  intro H S F μ x y v u c Q h rx ry e q
  obtain ⟨i, j, rfl, rfl, hc, rfl⟩ := hg x y c e
  cases rx; cases ry
  exact ⟨i, j, rfl, rfl, hc, q.same h (.int _)⟩
def gSub : T → T → Option T
  | .int i, .int j => some (.int (i - j))
  | .bl k, .int j => some (.int (b2I k - j))
  | _, _ => none
theorem od_sub : OpD X (binaryOp .Sub) gSub := by
  refine opD_of ((op_sub (X := X)).or op_sub_bi) ?_
  intro H S F μ x y v u c Q h rx ry e q
  unfold gSub at e
  split at e
  · cases e; cases rx; cases ry
    exact .inl ⟨_, _, rfl, rfl, q.same h (.int _)⟩
  · cases e; cases rx; cases ry
    exact .inr ⟨_, _, rfl, rfl, q.same h (.int _)⟩
  · cases e
def big : Int := 18446744073709551616
theorem big_eq : big = 2 ^ 64 := by decide
def smallI (i : Int) : Bool := decide (i.natAbs < 18446744073709551616)
theorem small_ok {i : Int} (h : smallI i = true) : -(2 ^ 64) < i ∧ i < 2 ^ 64 := by
  unfold smallI at h
  simp only [Bool.and_eq_true, decide_eq_true_eq] at h
  omega
def gMul : T → T → Option T
  | .int i, .int j => if smallI i || smallI j then some (.int (i * j)) else none
  | .lst xs, .int k => if 0 ≤ k ∧ k < 1000000 ∧ xs.length * k.toNat ≤ cap then some (.lst (List.replicate k.toNat xs).flatten) else none
  | .tup xs, .int k => if k.natAbs ≤ 1000 ∧ xs.length ≤ 1000 then some (.tup (List.replicate k.toNat xs).flatten) else none
  | _, _ => none
theorem rep_rps {K : PySem.W.Frag} {F : Hp} {xs : List T} {vs : List V} (r : Rps K F xs vs) : ∀ k : Nat, Rps K F (List.replicate k xs).flatten (List.replicate k vs).flatten
  | 0 => by simpa using Rps.nil
  | k + 1 => by
    rw [List.replicate_succ, List.replicate_succ, List.flatten_cons, List.flatten_cons]
    exact r.append (rep_rps r k)
theorem od_mul : OpD X (binaryOp .Mult) gMul := by
  refine opD_of (((op_mul (X := X)).or op_rep).or op_repA) ?_
  intro H S F μ x y v u c Q h rx ry e q
  unfold gMul at e
  split at e
  · split at e
    · rename_i hc
      cases e; cases rx; cases ry
      refine .inl (.inl ⟨_, _, rfl, rfl, ?_, q.same h (.int _)⟩)
      simp only [Bool.or_eq_true] at hc
      exact hc.elim (fun z => .inl (small_ok z)) fun z => .inr (small_ok z)
    · cases e
  · split at e
    · rename_i hc
      cases e; cases ry; cases rx with
      | lst a r =>
        refine .inl (.inr ⟨_, _, _, rfl, rfl, a, by omega, by omega, by rw [← r.length, cap_eq]; exact hc.2.2, fun p hp => q.lst h (rep_rps r _) hp⟩)
    · cases e
  · split at e
    · rename_i hc
      cases e; cases ry; cases rx with
      | tup a r =>
        have sa := Same.sqT h.sub a
        refine .inr ⟨_, _, _, rfl, rfl, sa, hc.1, by rw [← r.length]; exact hc.2, fun z => ?_, fun p hp => q.tup h (rep_rps r _) hp⟩
        rcases z with z | z
        · subst z; cases r
          have e0 : ∀ n : Nat, (List.replicate n ([] : List T)).flatten = [] := fun n => by
            induction n with
            | zero => rfl
            | succ n ih => rw [List.replicate_succ, List.flatten_cons, ih]; rfl
          rw [e0] at q
          exact q.same h (.tup a .nil)
        · subst z
          have e1 : ∀ l : List T, (List.replicate (1 : Int).toNat l).flatten = l := fun l => by
            show (List.replicate 1 l).flatten = l
            simp
          rw [e1] at q
          exact q.same h (.tup a r)
    · cases e
  · cases e
def gDiv : T → T → Option T
  | .int i, .int j => if 0 < j ∧ j.natAbs < 18446744073709551616 then some (.int (i / j)) else none
  | _, _ => none
theorem od_div : OpD X (binaryOp .FloorDiv) gDiv := od_int op_fdivW fun x y c e => by
  unfold gDiv at e
  split at e
  · split at e
    · rename_i hc
      cases e
      refine ⟨_, _, rfl, rfl, wide_div hc.1 (b := 64) ?_ (by decide) (by decide), rfl⟩
      have h2 := hc.2
      have h1 := hc.1
      have h3 : (2:Nat) ^ 64 = 18446744073709551616 := by decide
      omega
    · cases e
  · cases e
def gMod : T → T → Option T
  | .int i, .int j => if 0 < j then some (.int (i % j)) else none
  | _, _ => none
theorem od_mod : OpD X (binaryOp .Mod) gMod := od_int op_mod fun x y c e => by
  unfold gMod at e
  split at e
  · split at e
    · rename_i hc
      cases e
      exact ⟨_, _, rfl, rfl, hc, rfl⟩
    · cases e
  · cases e
def cpow (i j : Int) : Bool := decide (0 ≤ j) && decide (j.natAbs ≤ 1000000) && decide (i.natAbs < 18446744073709551616)
theorem cpow_ok {i j : Int} (h : cpow i j = true) : CPow i j := by
  unfold cpow at h
  simp only [Bool.and_eq_true, decide_eq_true_eq] at h
  refine ⟨h.1.1, by omega, ?_⟩
  have : (2:Nat) ^ 64 = 18446744073709551616 := by decide
  omega
def gPow : T → T → Option T
  | .int i, .int j => if cpow i j then some (.int (i ^ j.toNat)) else none
  | _, _ => none
theorem od_pow : OpD X (binaryOp .Pow) gPow := od_int op_pow fun x y c e => by
  unfold gPow at e
  split at e
  · split at e
    · rename_i hc
      cases e
      exact ⟨_, _, rfl, rfl, cpow_ok hc, rfl⟩
    · cases e
  · cases e
def gShl : T → T → Option T
  | .int i, .int j => if cpow i j then some (.int (i * 2 ^ j.toNat)) else none
  | _, _ => none
theorem od_shl : OpD X (binaryOp .LShift) gShl := od_int op_shl fun x y c e => by
  unfold gShl at e
  split at e
  · split at e
    · rename_i hc
      cases e
      exact ⟨_, _, rfl, rfl, cpow_ok hc, rfl⟩
    · cases e
  · cases e
def gShr : T → T → Option T
  | .int i, .int j => if 0 ≤ j then some (.int (i / 2 ^ j.toNat)) else none
  | _, _ => none
theorem od_shr : OpD X (binaryOp .RShift) gShr := od_int op_shr fun x y c e => by
  unfold gShr at e
  split at e
  · split at e
    · rename_i hc
      cases e
      exact ⟨_, _, rfl, rfl, hc, rfl⟩
    · cases e
  · cases e
def gAnd : T → T → Option T
  | .int i, .int j => some (.int (Builtin.bitAnd i j))
  | _, _ => none
def gOr : T → T → Option T
  | .int i, .int j => some (.int (Builtin.bitOr i j))
  | _, _ => none
theorem od_and : OpD X (binaryOp .BitAnd) gAnd := by
  refine opD_of op_and ?_
  intro H S F μ x y v u c Q h rx ry e q
  unfold gAnd at e
  split at e
  · cases e; cases rx; cases ry
    exact ⟨_, _, rfl, rfl, q.same h (.int _)⟩
  · cases e
theorem od_or : OpD X (binaryOp .BitOr) gOr := by
  refine opD_of op_or ?_
  intro H S F μ x y v u c Q h rx ry e q
  unfold gOr at e
  split at e
  · cases e; cases rx; cases ry
    exact ⟨_, _, rfl, rfl, q.same h (.int _)⟩
  · cases e
/-! ### comparisons -/
/-- ints -/
def intsOf : List T → Option (List Int)
  | [] => some []
  | .int i :: r => (intsOf r).map (i :: ·)
  | _ :: _ => none
def bls : List T → Option (List Bool)
  | [] => some []
  | .bl i :: r => (bls r).map (i :: ·)
  | _ :: _ => none
theorem intsOf_map (ns : List Int) : intsOf (ns.map T.int) = some ns := by
  induction ns with
  | nil => rfl
  | cons n r ih => rw [List.map_cons, intsOf, ih]; rfl
theorem bls_map (ns : List Bool) : bls (ns.map T.bl) = some ns := by
  induction ns with
  | nil => rfl
  | cons n r ih => rw [List.map_cons, bls, ih]; rfl
theorem intsOf_some : ∀ {xs : List T} {ns : List Int}, intsOf xs = some ns → xs = ns.map T.int
  | [], _, h => by cases h; rfl
  | .int i :: r, ns, h => by
    obtain ⟨ms, hm, rfl⟩ := map1 (show (intsOf r).map (i :: ·) = some ns from h)
    rw [intsOf_some hm]; rfl
  | .non :: _, _, h => by cases h
  | .bl _ :: _, _, h => by cases h
  | .str _ :: _, _, h => by cases h
  | .tup _ :: _, _, h => by cases h
  | .lst _ :: _, _, h => by cases h
  | .dct _ :: _, _, h => by cases h
  | .scr _ :: _, _, h => by cases h
theorem bls_some : ∀ {xs : List T} {ns : List Bool}, bls xs = some ns → xs = ns.map T.bl
  | [], _, h => by cases h; rfl
  | .bl i :: r, ns, h => by
    obtain ⟨ms, hm, rfl⟩ := map1 (show (bls r).map (i :: ·) = some ns from h)
    rw [bls_some hm]; rfl
  | .non :: _, _, h => by cases h
  | .int _ :: _, _, h => by cases h
  | .str _ :: _, _, h => by cases h
  | .tup _ :: _, _, h => by cases h
  | .lst _ :: _, _, h => by cases h
  | .dct _ :: _, _, h => by cases h
  | .scr _ :: _, _, h => by cases h
def gCmp (p : Int → Int → Bool) : T → T → Option T
  | .int i, .int j => some (.bl (p i j))
  | _, _ => none
theorem od_cmp {op : CmpOp} {p : Int → Int → Bool} (ho : OpR X (compareOp op) (rI0 fun i j => .bl (p i j))) : OpD X (compareOp op) (gCmp p) := by
  refine opD_of ho ?_
  intro H S F μ x y v u c Q h rx ry e q
  unfold gCmp at e
  split at e
  · cases e; cases rx; cases ry
    exact ⟨_, _, rfl, rfl, q.same h (.bl _)⟩
  · cases e
def gLt : T → T → Option T
  | .int i, .int j => some (.bl (decide (i < j)))
  | .tup xs, .tup ys => (intsOf xs).bind fun ns => (intsOf ys).map fun ms => .bl (HT.lexLt ns ms)
  | _, _ => none
abbrev gLe : T → T → Option T := gCmp fun i j => decide (i ≤ j)
abbrev gGt : T → T → Option T := gCmp fun i j => decide (j < i)
abbrev gGe : T → T → Option T := gCmp fun i j => decide (j ≤ i)
theorem od_lt {k : Nat} (hr : RoomG k X.A) : OpD X (compareOp .Lt) gLt := by
  refine opD_of ((op_lt (X := X)).or (op_ltT (by have := hr.units; omega))) ?_
  intro H S F μ x y v u c Q h rx ry e q
  unfold gLt at e
  split at e
  · cases e; cases rx; cases ry
    exact .inl ⟨_, _, rfl, rfl, q.same h (.bl _)⟩
  · rename_i xs ys
    cases h1 : intsOf xs with
    | none => rw [h1] at e; cases e
    | some ns =>
      cases h2 : intsOf ys with
      | none => rw [h1, h2] at e; cases e
      | some ms =>
        rw [h1, h2] at e
        cases e
        have e1 := intsOf_some h1
        have e2 := intsOf_some h2
        subst e1 e2
        cases rx with
        | tup a r => cases ry with
          | tup a' r' =>
            cases r.ints_inv
            cases r'.ints_inv
            exact .inr ⟨_, _, ns, ms, rfl, rfl, Same.sqT h.sub a, Same.sqT h.sub a', q.same h (.bl _)⟩
  · cases e
theorem od_le {k : Nat} (_ : RoomG k X.A) : OpD X (compareOp .LtE) gLe := od_cmp op_le
theorem od_gt {k : Nat} (_ : RoomG k X.A) : OpD X (compareOp .Gt) gGt := od_cmp op_gt
theorem od_ge {k : Nat} (_ : RoomG k X.A) : OpD X (compareOp .GtE) gGe := od_cmp op_ge
def gEq (x y : T) : Option T := match x, y with
  | .str a, .str b => some (.bl (decide (a = b)))
  | .tup xs, .tup [] => some (.bl xs.isEmpty)
  | .lst xs, .lst [] => some (.bl xs.isEmpty)
  | x, y => if shp x && shp y then some (.bl (eqT x y)) else none
def gNe (x y : T) : Option T := match x, y with
  | .str a, .str b => some (.bl (!decide (a = b)))
  | .tup xs, .tup [] => some (.bl (!xs.isEmpty))
  | .lst xs, .lst [] => some (.bl (!xs.isEmpty))
  | x, y => if shp x && shp y then some (.bl (!eqT x y)) else none
theorem shp_nd {x : T} (h : shp x = true) (kvs : List (Key × T)) : x ≠ .dct kvs := by
  rintro rfl
  simp [shp, lay] at h
theorem shp_lay {x : T} (h : shp x = true) : lay x = true := by
  unfold shp at h
  simp only [Bool.and_eq_true] at h
  exact h.1
theorem od_eq {k : Nat} (hr : RoomG k X.A) : OpD X (compareOp .Eq) gEq := by
  refine opD_of (((op_eq (X := X)).or (op_eqD hr.units)).or ((op_eqU (k := 0) hr.units).or (op_eqLn (k := 0) hr.units))) ?_
  intro H S F μ x y v u c Q h rx ry e q
  unfold gEq at e
  split at e
  · cases e; cases rx; cases ry
    refine .inl (.inl ⟨rfl, ?_⟩)
    have hd : ∀ a b : Str, decide (V.str a = V.str b) = decide (a = b) := fun a b => by simp
    rw [hd]
    exact q.same h (.bl _)
  · cases e
    cases rx with
    | tup a1 r1 =>
      cases ry with
      | tup a2 r2 =>
        have l1 := r1.length
        cases r2
        refine .inr (.inl ⟨_, _, _, rfl, rfl, Same.sqT h.sub a1, Same.sqT h.sub a2, ?_⟩)
        have : ∀ (xs : List T) (vs : List V), xs.length = vs.length → vs.isEmpty = xs.isEmpty := fun xs vs hl => by
          cases xs <;> cases vs <;> first | rfl | cases hl
        rw [this _ _ l1]
        exact q.same h (.bl _)
  · cases e
    cases rx with
    | lst a1 r1 =>
      cases ry with
      | lst a2 r2 =>
        have l1 := r1.length
        cases r2
        refine .inr (.inr ⟨_, _, _, rfl, rfl, SqL.of a1, SqL.of a2, ?_⟩)
        have : ∀ (xs : List T) (vs : List V), xs.length = vs.length → vs.isEmpty = xs.isEmpty := fun xs vs hl => by
          cases xs <;> cases vs <;> first | rfl | cases hl
        rw [this _ _ l1]
        exact q.same h (.bl _)
  split at e
  · rename_i hc
    cases e
    simp only [Bool.and_eq_true] at hc
    refine .inl (.inr ⟨toPy _, toPy _, rp_dp (rx.rp h.sub (shp_nd hc.1)) (shp_lay hc.1), rp_dp (ry.rp h.sub (shp_nd hc.2)) (shp_lay hc.2), shp_py hc.1, shp_py hc.2, ?_⟩)
    rw [eqT_py]
    exact q.same h (.bl _)
  · cases e
theorem od_ne {k : Nat} (hr : RoomG k X.A) : OpD X (compareOp .NotEq) gNe := by
  refine opD_of (((op_ne (X := X)).or (op_neD hr.units)).or ((op_neU (k := 0) hr.units).or (op_neLn (k := 0) hr.units))) ?_
  intro H S F μ x y v u c Q h rx ry e q
  unfold gNe at e
  split at e
  · cases e; cases rx; cases ry
    refine .inl (.inl ⟨rfl, ?_⟩)
    have hd : ∀ a b : Str, decide (V.str a = V.str b) = decide (a = b) := fun a b => by simp
    rw [hd]
    exact q.same h (.bl _)
  · cases e
    cases rx with
    | tup a1 r1 =>
      cases ry with
      | tup a2 r2 =>
        have l1 := r1.length
        cases r2
        refine .inr (.inl ⟨_, _, _, rfl, rfl, Same.sqT h.sub a1, Same.sqT h.sub a2, ?_⟩)
        have : ∀ (xs : List T) (vs : List V), xs.length = vs.length → vs.isEmpty = xs.isEmpty := fun xs vs hl => by
          cases xs <;> cases vs <;> first | rfl | cases hl
        rw [this _ _ l1]
        exact q.same h (.bl _)
  · cases e
    cases rx with
    | lst a1 r1 =>
      cases ry with
      | lst a2 r2 =>
        have l1 := r1.length
        cases r2
        refine .inr (.inr ⟨_, _, _, rfl, rfl, SqL.of a1, SqL.of a2, ?_⟩)
        have : ∀ (xs : List T) (vs : List V), xs.length = vs.length → vs.isEmpty = xs.isEmpty := fun xs vs hl => by
          cases xs <;> cases vs <;> first | rfl | cases hl
        rw [this _ _ l1]
        exact q.same h (.bl _)
  split at e
  · rename_i hc
    cases e
    simp only [Bool.and_eq_true] at hc
    refine .inl (.inr ⟨toPy _, toPy _, rp_dp (rx.rp h.sub (shp_nd hc.1)) (shp_lay hc.1), rp_dp (ry.rp h.sub (shp_nd hc.2)) (shp_lay hc.2), shp_py hc.1, shp_py hc.2, ?_⟩)
    rw [eqT_py]
    exact q.same h (.bl _)
  · cases e
/-- None, a truth value, an int, a text -/
def flat : T → Bool
  | .non | .bl _ | .int _ | .str _ => true
  | _ => false
def seqOf : T → Option (List T)
  | .lst xs => some xs
  | .tup xs => some xs
  | _ => none
theorem flat_v {K : PySem.W.Frag} {F : Hp} {x : T} {v : V} (r : Rp K F x v) (f : flat x = true) : flatV v = true := by
  cases r <;> first | rfl | cases f
theorem flat_eq {K : PySem.W.Frag} {F : Hp} {x y : T} {v u : V} (r : Rp K F x v) (r' : Rp K F y u) (f : flat x = true) (f' : flat y = true) : eqV v u = eqT x y := by
  cases r <;> first | (cases f; done) | (cases r' <;> first | (cases f'; done) | (simp [eqV, eqT]; done) | (simp only [eqV, eqT]; first | rfl | (split <;> simp_all)))
theorem seq_rv {K : PySem.W.Frag} {H F : Hp} {x : T} {v : V} {xs : List T} (s : Same F H) (r : Rv K H F x v) (e : seqOf x = some xs) : ∃ p vs, v = .ref p ∧ (SqL K H p vs ∨ SqT K H p vs) ∧ Rps K F xs vs := by
  cases r with
  | lst a r => cases e; exact ⟨_, _, rfl, .inl (SqL.of a), r⟩
  | tup a r => cases e; exact ⟨_, _, rfl, .inr (Same.sqT s a), r⟩
  | _ => cases e
theorem flats_v {K : PySem.W.Frag} {F : Hp} : ∀ {xs : List T} {vs : List V}, Rps K F xs vs → xs.all flat = true → vs.all flatV = true
  | _, _, .nil, _ => rfl
  | _, _, .cons r t, h => by
    simp only [List.all_cons, Bool.and_eq_true] at h ⊢
    exact ⟨flat_v r h.1, flats_v t h.2⟩
theorem inV_T {K : PySem.W.Frag} {F : Hp} {x : T} {v : V} (r : Rp K F x v) (f : flat x = true) : ∀ {xs : List T} {vs : List V}, Rps K F xs vs → xs.all flat = true → inV v vs = xs.any fun y => eqT y x
  | _, _, .nil, _ => rfl
  | _, _, .cons r' t, h => by
    simp only [List.all_cons, Bool.and_eq_true] at h
    have ih := inV_T r f t h.2
    unfold inV at ih ⊢
    rw [List.any_cons, List.any_cons, ih, flat_eq r' r h.1 f]
def keyOf : T → Option Key
  | .int i => some (.inl i)
  | .str x => some (.inr x)
  | _ => none
def lookK (kvs : List (Key × T)) (k : Key) : Option T := match kvs with
  | [] => none
  | (k', x) :: r => if k' = k then some x else lookK r k
def memT (x y : T) : Option Bool := match y with
  | .dct kvs => (keyOf x).map fun k => (lookK kvs k).isSome
  | y => (seqOf y).bind fun ys => if flat x && ys.all flat then some (ys.any fun z => eqT z x) else none
def gIn (x y : T) : Option T := (memT x y).map T.bl
def gNotIn (x y : T) : Option T := (memT x y).map fun b => T.bl (!b)
theorem valV_look {K : PySem.W.Frag} {F : Hp} : ∀ {kvs : List (Key × T)} {us : List (Key × V)} {k : Key}, Rpk K F kvs us → (∀ x, lookK kvs k = some x → ∃ v, valV us k = some v ∧ Rp K F x v) ∧ (lookK kvs k = none → valV us k = none)
  | _, _, k, .nil => ⟨fun x h => (by cases h), fun _ => rfl⟩
  | _, _, k, .cons (k := k') (x := x) (v := v) (xs := xs) (vs := vs) r t => by
    have ih := valV_look (k := k) t
    by_cases e : k' = k
    · subst e
      refine ⟨fun y h => ?_, fun h => ?_⟩
      · simp [lookK] at h; subst h
        exact ⟨v, by simp [valV], r⟩
      · simp [lookK] at h
    · refine ⟨fun y h => ?_, fun h => ?_⟩
      · simp [lookK, e] at h
        obtain ⟨v', h1, h2⟩ := ih.1 y h
        exact ⟨v', by simp [valV, e]; simpa [valV] using h1, h2⟩
      · simp [lookK, e] at h
        have := ih.2 h
        simp [valV, e]; simpa [valV] using this
theorem key_rv {K : PySem.W.Frag} {H F : Hp} {x : T} {v : V} {k : Key} (r : Rv K H F x v) (e : keyOf x = some k) : v = kV k := by
  cases r <;> cases e <;> rfl
theorem look_some {K : PySem.W.Frag} {F : Hp} {kvs : List (Key × T)} {us : List (Key × V)} {k : Key} (r : Rpk K F kvs us) : (valV us k).isSome = (lookK kvs k).isSome := by
  have h := valV_look (k := k) r
  cases e : lookK kvs k with
  | none => rw [h.2 e]; rfl
  | some x => obtain ⟨v, h1, _⟩ := h.1 x e; rw [h1]; rfl
def rDIn : R2 := fun x y H Q => ∃ a o, y = .ref a ∧ DGet H a x o ∧ Q (.bl o.isSome) H
def rDNotIn : R2 := fun x y H Q => ∃ a o, y = .ref a ∧ DGet H a x o ∧ Q (.bl (!o.isSome)) H
theorem op_din (hu : X.A.units + 1 < cLine) : OpR X (compareOp .In) rDIn := by
  intro pins s σ H x y v u Q I rx ry h
  obtain ⟨a, o, rfl, g, q⟩ := h
  cases ry
  exact d_in hu I g rx fun s' I' => ⟨.bl _, H, I', rfl, q⟩
theorem op_dnotin (hu : X.A.units + 1 < cLine) : OpR X (compareOp .NotIn) rDNotIn := by
  intro pins s σ H x y v u Q I rx ry h
  obtain ⟨a, o, rfl, g, q⟩ := h
  cases ry
  exact d_notIn hu I g rx fun s' I' => ⟨.bl _, H, I', rfl, q⟩
theorem dget_rd {H : Hp} {a : Addr} {kvs : List (Key × V)} {k : Key} (e : Rd H a (.dK kvs)) : DGet H a (kV k) (valV kvs k) := .inl ⟨kvs, k, e, rfl, rfl⟩
theorem mem_run {neg : Bool} {H F : Hp} {S : Sto} {μ : List Addr} {x y : T} {v u : V} {b : Bool} {Q : VK} (h : Rs X.K H S F μ) (rx : Rv X.K H F x v) (ry : Rv X.K H F y u) (e : memT x y = some b) (q : Q (.bl (if neg then !b else b)) H) :
    rIn X.K neg v u H Q ∨ (if neg then rDNotIn v u H Q else rDIn v u H Q) := by
  unfold memT at e
  split at e
  · obtain ⟨k, hk, rfl⟩ := map1 e
    cases ry with
    | dct hd r =>
      right
      rw [key_rv rx hk]
      have e := look_some (k := k) r
      cases neg with
      | true => exact ⟨_, _, rfl, dget_rd hd, by rw [e]; exact q⟩
      | false => exact ⟨_, _, rfl, dget_rd hd, by rw [e]; exact q⟩
  · left
    cases q1 : seqOf y with
    | none => rw [q1] at e; cases e
    | some ys =>
      rw [q1] at e
      have e : (if flat x && ys.all flat then some (ys.any fun z => eqT z x) else none) = some b := e
      split at e
      · rename_i hc
        cases e
        simp only [Bool.and_eq_true] at hc
        obtain ⟨p, vs, rfl, hs, r⟩ := seq_rv h.sub ry q1
        have rp : Rp X.K H x v := rx.rp h.sub (fun kvs z => by subst z; simp [flat] at hc)
        refine ⟨p, vs, rfl, hs, flat_v rp hc.1, flats_v r hc.2, ?_⟩
        rw [inV_T rp hc.1 (r.mono h.sub) hc.2]
        exact q
      · cases e
theorem od_in {k : Nat} (hr : RoomG k X.A) : OpD X (compareOp .In) gIn := by
  refine opD_of ((op_in_seq (X := X)).or (op_din (hu_of hr.toRoom))) ?_
  intro H S F μ x y v u c Q h rx ry e q
  obtain ⟨b, hb, rfl⟩ := map1 e
  exact mem_run (neg := false) h rx ry hb (q.same h (.bl _))
theorem od_notin {k : Nat} (hr : RoomG k X.A) : OpD X (compareOp .NotIn) gNotIn := by
  refine opD_of ((op_notIn_seq (X := X)).or (op_dnotin (hu_of hr.toRoom))) ?_
  intro H S F μ x y v u c Q h rx ry e q
  obtain ⟨b, hb, rfl⟩ := map1 e
  exact mem_run (neg := true) h rx ry hb (q.same h (.bl _))
/-- x is None -/
def isN : T → Bool
  | .non => true
  | _ => false
def gIs (x y : T) : Option T := if isN y then some (.bl (isN x)) else none
def gIsNot (x y : T) : Option T := if isN y then some (.bl (!isN x)) else none
theorem isN_rv {K : PySem.W.Frag} {H F : Hp} {x : T} {v : V} (r : Rv K H F x v) : decide (v = .non) = isN x := by
  cases r <;> rfl
theorem od_is : OpD X (compareOp .Is) gIs := by
  refine opD_of op_isN ?_
  intro H S F μ x y v u c Q h rx ry e q
  unfold gIs at e
  split at e
  · rename_i hc
    cases e
    refine ⟨?_, ?_⟩
    · have := isN_rv ry
      rw [hc] at this
      simpa using this
    · rw [isN_rv rx]; exact q.same h (.bl _)
  · cases e
theorem od_isnot : OpD X (compareOp .IsNot) gIsNot := by
  refine opD_of op_notN ?_
  intro H S F μ x y v u c Q h rx ry e q
  unfold gIsNot at e
  split at e
  · rename_i hc
    cases e
    refine ⟨?_, ?_⟩
    · have := isN_rv ry
      rw [hc] at this
      simpa using this
    · rw [isN_rv rx]; exact q.same h (.bl _)
  · cases e
end
end Dl
/-! Dl4: subscripts, calls of built-ins, methods. -/
namespace Dl
open PySem PySem.Spec PyProof.Rows L2
/-! ### a[b] -/
def asI : W → Option Int
  | .t (.int i) => some i
  | _ => none
def Cell.at : Cell → Int → Option W
  | .lst xs, i => (atI xs i).map W.t
  | .vec ws, i => atI ws i
  | _, _ => none
def ixT (x y : T) : Option T := match x, y with
  | .tup xs, .int i => atI xs i
  | .lst xs, .int i => atI xs i
  | .str z, .int i => if z.length ≤ cap then (atI z.cps.toList i).map fun c => .str ⟨#[c]⟩ else none
  | .dct kvs, k => (keyOf k).bind fun k => lookK kvs k
  | _, _ => none
def ixW (S : Sto) (w : W) (y : T) : Option W := match w with
  | .t x => (ixT x y).map W.t
  | .r n => S[n]?.bind fun c => match c, y with
    | .dic kvs, k => (keyOf k).bind fun k => (lookK kvs k).map W.t
    | .frz kvs, k => (keyOf k).bind fun k => (lookK kvs k).map W.t
    | c, .int i => c.at i
    | _, _ => none
def eIx (fa fb : Ex) : Ex := fun ρ S => (fa ρ S).bind fun w1 S1 => (fb ρ S1).bind fun w2 S2 => R.of ((view S2 w2).bind fun y => ixW S2 w1 y) S2
theorem atI_rps {K : PySem.W.Frag} {F : Hp} {xs : List T} {vs : List V} {i : Int} {x : T} (r : Rps K F xs vs) (e : atI xs i = some x) : ∃ v, atI vs i = some v ∧ Rp K F x v := by
  unfold atI at e ⊢
  rw [← r.length]
  cases q : ixN xs.length i with
  | none => rw [q] at e; cases e
  | some j =>
    rw [q] at e
    have e : xs[j]? = some x := e
    exact r.get e
theorem atI_rpws {K : PySem.W.Frag} {F : Hp} {μ : List Addr} {xs : List W} {vs : List V} {i : Int} {x : W} (r : RpWs K F μ xs vs) (e : atI xs i = some x) : ∃ v, atI vs i = some v ∧ RpW K F μ x v := by
  unfold atI at e ⊢
  rw [← r.length]
  cases q : ixN xs.length i with
  | none => rw [q] at e; cases e
  | some j =>
    rw [q] at e
    have e : xs[j]? = some x := e
    exact r.get e
section
variable {X : Cx}
def rIxD : R2 := fun x y H Q => ∃ a v, x = .ref a ∧ DGet H a y (some v) ∧ Q v H
theorem ix_dict (hu : X.A.units + 1 < cLine) : IxR X rIxD := by
  intro value slice pins s σ H x y v u Q I rx ry h hs
  obtain ⟨a, w, rfl, g, q⟩ := h
  cases rx
  exact tail_any (dict_typeIs I g) PySem.F.slot_dict_getitem.lookup (d_getItem hu I g ry fun w' s3 I3 rw' => ⟨w, H, I3, rw', q⟩) hs
def rIxA (K : PySem.W.Frag) : R2 := fun x y H Q => rIx K x y H Q ∨ rIxD x y H Q
theorem ixT_run {H F : Hp} {S : Sto} {μ : List Addr} {x y z : T} {v u : V} {Q : VK} (h : Rs X.K H S F μ) (rx : Rv X.K H F x v) (ry : Rv X.K H F y u) (e : ixT x y = some z) (q : Res X.K H S F μ z Q) : rIxA X.K v u H Q := by
  unfold ixT at e
  split at e
  · cases ry
    cases rx with
    | tup a r =>
      obtain ⟨w, h1, h2⟩ := atI_rps r e
      exact .inl (.inr (.inl ⟨_, _, _, w, rfl, rfl, Same.sqT h.sub a, h1, q.same h h2⟩))
  · cases ry
    cases rx with
    | lst a r =>
      obtain ⟨w, h1, h2⟩ := atI_rps r e
      exact .inl (.inl ⟨_, _, _, w, rfl, rfl, SqL.of a, h1, q.same h h2⟩)
  · split at e
    · rename_i hl
      cases ry; cases rx
      obtain ⟨c, hc, rfl⟩ := map1 e
      exact .inl (.inr (.inr ⟨_, _, c, rfl, rfl, by rw [cap_eq]; exact hl, hc, q.same h (.str _)⟩))
    · cases e
  · cases rx with
    | dct a r =>
      rename_i kvs k us a'
      cases hk : keyOf y with
      | none => rw [hk] at e; cases e
      | some key =>
        rw [hk] at e
        obtain ⟨w, h1, h2⟩ := (valV_look (k := key) r).1 z e
        refine .inr ⟨_, w, rfl, ?_, q.same h h2⟩
        rw [key_rv ry hk, ← h1]
        exact dget_rd a
  · cases e
variable {a b e : Expr} {es : List Expr} {fa fb f : Ex} {fs : Exs} {pos : Pos}
theorem de_ix {k : Nat} (hr : RoomG k X.A) (ha : DE X a fa) (hb : DE X b fb) (hs : PlainIx b := by exact fun _ _ => rfl) : DE X (.Subscript a b pos) (eIx fa fb) := by
  intro σ H ρ S F μ w S' Q h hs' ee hQ
  obtain ⟨w1, S1, h1, ea⟩ := R.bind_eq ee
  clear ee
  obtain ⟨w2, S2, h2, eb⟩ := R.bind_eq ea
  clear ea
  obtain ⟨h3, rfl⟩ := R.of_eq eb
  cases qy : view S' w2 with
  | none => rw [qy] at h3; cases h3
  | some y =>
    rw [qy] at h3
    have h3 : ixW S' w1 y = some w := h3
    refine wpe (pe_ix (ix_seq.or (ix_dict (hu_of hr.toRoom))) peW peW hs) ?_
    refine ha σ H ρ S F μ w1 S1 _ h hs' h1 fun v H1 F1 μ1 r1 g1 q1 => ?_
    refine hb σ H1 ρ S1 F1 μ1 w2 S' _ r1 (hs'.gr g1) h2 fun u H2 F2 μ2 r2 g2 q2 => ?_
    have ry := view_rv r2 q2 qy
    have fin : ∀ {v'}, RpW X.K F2 μ2 w v' → Q v' H2 := fun r => hQ _ H2 F2 μ2 r2 (g1.trans g2) r
    have q1 := q1.gr g2
    cases w1 with
    | t x =>
      obtain ⟨z, hz, rfl⟩ := map1 h3
      exact ixT_run r2 (Rp.rv r2.sub q1) ry hz fun v' H3 F3 r3 g3 q3 => hQ v' H3 F3 μ2 r3 ((g1.trans g2).trans g3) q3
    | r n =>
      obtain ⟨p, hp, rfl⟩ := q1
      replace h3 : (S'[n]?.bind fun c => match c, y with
        | .dic kvs, k => (keyOf k).bind fun k => (lookK kvs k).map W.t
        | .frz kvs, k => (keyOf k).bind fun k => (lookK kvs k).map W.t
        | c, .int i => c.at i
        | _, _ => none) = some w := h3
      cases qc : S'[n]? with
      | none => rw [qc] at h3; cases h3
      | some c =>
        rw [qc] at h3
        have q0 := r2.cell n c p qc hp
        cases c with
        | dead => cases y <;> cases h3
        | lst xs =>
          obtain ⟨_, vs, hv, r⟩ := q0
          cases ry with
          | int i =>
            obtain ⟨x, hx, rfl⟩ := map1 (show (atI xs i).map W.t = some w from h3)
            obtain ⟨v', e1, e2⟩ := atI_rps r hx
            exact .inl (.inl ⟨_, _, _, v', rfl, rfl, SqL.of hv, e1, fin e2⟩)
          | _ => cases h3
        | vec ws =>
          obtain ⟨_, vs, hv, r⟩ := q0
          cases ry with
          | int i =>
            obtain ⟨v', e1, e2⟩ := atI_rpws r (show atI ws i = some w from h3)
            exact .inl (.inl ⟨_, _, _, v', rfl, rfl, SqL.of hv, e1, fin e2⟩)
          | _ => cases h3
        | dic kvs =>
          obtain ⟨_, us, hv, r⟩ := q0
          replace h3 : ((keyOf y).bind fun k => (lookK kvs k).map W.t) = some w := by
            cases y <;> exact h3
          cases hk : keyOf y with
          | none => rw [hk] at h3; cases h3
          | some key =>
            rw [hk] at h3
            obtain ⟨x, hx, rfl⟩ := map1 (show (lookK kvs key).map W.t = some w from h3)
            obtain ⟨v', e1, e2⟩ := (valV_look (k := key) r).1 x hx
            refine .inr ⟨_, v', rfl, ?_, fin e2⟩
            rw [key_rv ry hk, ← e1]
            exact DGet.k hv
        | frz kvs =>
          obtain ⟨_, us, ⟨o', hv⟩, r⟩ := q0
          replace h3 : ((keyOf y).bind fun k => (lookK kvs k).map W.t) = some w := by
            cases y <;> exact h3
          cases hk : keyOf y with
          | none => rw [hk] at h3; cases h3
          | some key =>
            rw [hk] at h3
            obtain ⟨x, hx, rfl⟩ := map1 (show (lookK kvs key).map W.t = some w from h3)
            obtain ⟨v', e1, e2⟩ := (valV_look (k := key) r).1 x hx
            refine .inr ⟨_, v', rfl, ?_, fin e2⟩
            rw [key_rv ry hk, ← e1]
            exact dget_rd (.inr ⟨o', hv⟩)
/-! ### slices -/
abbrev Ox := Env → Sto → R (Option Int)
def DO (X : Cx) (o : Option Expr) (f : Ox) : Prop := ∀ (σ : L2.St) (H : Hp) (ρ : Env) (S : Sto) (F : Hp) (μ : List Addr) (i : Option Int) (S' : Sto) (Q : Option Int → Hp → Prop), Rs X.K H S F μ → RpSt X.K F μ σ ρ → f ρ S = .ok i S' →
  (∀ H' F' μ', Rs X.K H' S' F' μ' → Gr H F μ H' F' μ' → Q i H') → ∃ t, PO X o t ∧ t σ H Q
def oNone : Ox := fun _ S => .ok none S
def oSome (f : Ex) : Ox := fun ρ S => (f ρ S).bind fun w S1 => R.of ((asI w).map some) S1
theorem do_none : DO X none oNone := by
  intro σ H ρ S F μ i S' Q h hs e hQ
  cases e
  exact ⟨tNoPart, po_none, hQ H F μ h Gr.refl⟩
theorem asI_eq {w : W} {i : Int} (h : asI w = some i) : w = .t (.int i) := by
  unfold asI at h
  split at h
  · cases h; rfl
  · cases h
def POW (X : Cx) (o : Option Expr) (σ : L2.St) (H : Hp) (Q : Option Int → Hp → Prop) : Prop := ∀ (pins : List (Addr × Obj)) (s : Shared), Inv X pins σ H s →
  wpAny (model X.prog X.w) X.A (evalPart o X.env) (fun u s' => ∃ o H', Inv X pins σ H' s' ∧ IsPart u o ∧ Q o H') X.xe s
theorem poW {o : Option Expr} : PO X o (POW X o) := ⟨fun pins s σ H Q I h => h pins s I⟩
theorem powOf {o : Option Expr} {t : TO} {σ : L2.St} {H : Hp} {Q : Option Int → Hp → Prop} (h : PO X o t) (q : t σ H Q) : POW X o σ H Q := fun pins s I => h.run pins s σ H Q I q
theorem DO.pow {o : Option Expr} {f : Ox} (hd : DO X o f) {σ : L2.St} {H : Hp} {ρ : Env} {S : Sto} {F : Hp} {μ : List Addr} {i : Option Int} {S' : Sto} {Q : Option Int → Hp → Prop} (h : Rs X.K H S F μ) (hs : RpSt X.K F μ σ ρ) (e : f ρ S = .ok i S')
    (hQ : ∀ H' F' μ', Rs X.K H' S' F' μ' → Gr H F μ H' F' μ' → Q i H') : POW X o σ H Q := by
  obtain ⟨t, p, k⟩ := hd σ H ρ S F μ i S' Q h hs e hQ
  exact powOf p k
theorem do_some (ha : DE X a fa) : DO X (some a) (oSome fa) := by
  intro σ H ρ S F μ i S' Q h hs e hQ
  obtain ⟨w, S1, h1, e⟩ := R.bind_eq e
  obtain ⟨h2, rfl⟩ := R.of_eq e
  obtain ⟨j, hj, rfl⟩ := map1 h2
  cases asI_eq hj
  refine ⟨_, po_some peW, ha σ H ρ S F μ _ S' _ h hs h1 fun v H' F' μ' r' g' q' => ?_⟩
  have q' : Rp X.K F' (.int j) v := q'
  cases q'
  exact ⟨j, rfl, hQ H' F' μ' r' g'⟩
def cutL {α : Type} (xs : List α) (lo hi : Option Int) : List α := (xs.drop (HT.sIx xs.length 0 lo)).take (HT.sIx xs.length xs.length hi - HT.sIx xs.length 0 lo)
def gSl (x : T) (lo hi : Option Int) : Option T := match x with
  | .lst xs => some (.lst (cutL xs lo hi))
  | .tup xs => some (.tup (cutL xs lo hi))
  | _ => none
def eSl (fa : Ex) (l u : Ox) : Ex := fun ρ S => (fa ρ S).bind fun w S1 => (l ρ S1).bind fun lo S2 => (u ρ S2).bind fun hi S3 => R.of ((view S3 w).bind fun x => (gSl x lo hi).map W.t) S3
theorem cut_rps {K : PySem.W.Frag} {F : Hp} {xs : List T} {vs : List V} (r : Rps K F xs vs) (lo hi : Option Int) : Rps K F (cutL xs lo hi) (cutV vs lo hi) := by
  unfold cutL cutV
  rw [← r.length]
  exact (r.drop _).take _
theorem de_slice {lo hi : Option Expr} {p2 : Pos} {l u : Ox} (ha : DE X a fa) (hl : DO X lo l) (hu : DO X hi u) : DE X (.Subscript a (.Slice lo hi none p2) pos) (eSl fa l u) := by
  intro σ H ρ S F μ w S' Q h hs ee hQ
  obtain ⟨w1, S1, h1, ea⟩ := R.bind_eq ee
  clear ee
  obtain ⟨i, S2, h2, eb⟩ := R.bind_eq ea
  clear ea
  obtain ⟨j, S3, h3, ec⟩ := R.bind_eq eb
  clear eb
  obtain ⟨h4, rfl⟩ := R.of_eq ec
  cases qy : view S' w1 with
  | none => rw [qy] at h4; cases h4
  | some x =>
    rw [qy] at h4
    obtain ⟨c, hc, rfl⟩ := map1 (show (gSl x i j).map W.t = some w from h4)
    refine wpe (pe_slice ((sl_tupA (X := X)).or sl_list) peW poW poW) ?_
    refine ha σ H ρ S F μ w1 S1 _ h hs h1 fun v H1 F1 μ1 r1 g1 q1 => ?_
    refine DO.pow hl r1 (hs.gr g1) h2 fun H2 F2 μ2 r2 g2 => ?_
    refine DO.pow hu r2 ((hs.gr g1).gr g2) h3 fun H3 F3 μ3 r3 g3 => ?_
    have gg := (g1.trans g2).trans g3
    have rx := view_rv r3 ((q1.gr g2).gr g3) qy
    have q : Res X.K H3 S' F3 μ3 c Q := fun v' H4 F4 r4 g4 q4 => hQ v' H4 F4 μ3 r4 (gg.trans g4) q4
    unfold gSl at hc
    split at hc
    · cases hc
      cases rx with
      | lst hv r => exact .inr ⟨_, _, rfl, SqL.of hv, fun p hp => q.lst r3 (cut_rps r i j) hp⟩
    · rename_i xs
      cases hc
      cases rx with
      | tup hv r =>
        rename_i pa vs
        refine .inl ⟨_, _, rfl, Same.sqT r3.sub hv, fun z => ?_, fun _ p hp => q.tup r3 (cut_rps r i j) hp⟩
        refine q.same r3 ?_
        have : cutL xs i j = xs := by
          unfold cutL
          rw [r.length, z.1, z.2, List.drop_zero, Nat.sub_zero, ← r.length, List.take_length]
        rw [this]
        exact .tup hv r
    · cases hc
/-! ### calls of built-ins -/
def CallD (X : Cx) (f : Value) (g : List T → Option T) : Prop := ∃ r, CallR X f r ∧ ∀ (H : Hp) (S : Sto) (F : Hp) (μ : List Addr) (xs : List T) (vs : List V) (c : T) (Q : VK),
  Rs X.K H S F μ → Rvs X.K H F xs vs → g xs = some c → Res X.K H S F μ c Q → r vs H Q
/-- .. that give a new list -/
def CallL (X : Cx) (f : Value) (g : List T → Option (List T)) : Prop := ∃ r, CallR X f r ∧ ∀ (H : Hp) (S : Sto) (F : Hp) (μ : List Addr) (xs : List T) (vs : List V) (ys : List T) (Q : VK),
  Rs X.K H S F μ → Rvs X.K H F xs vs → g xs = some ys → (∀ (p : Addr) (us : List V), H p = none → Rps X.K F ys us → Q (.ref p) (upd H p (.lst us))) → r vs H Q
theorem CallL.toD {f : Value} {g : List T → Option (List T)} (h : CallL X f g) : CallD X f (fun xs => (g xs).map T.lst) := by
  obtain ⟨r, h1, h2⟩ := h
  refine ⟨r, h1, fun H S F μ xs vs c Q hs rv e q => ?_⟩
  obtain ⟨ys, hy, rfl⟩ := map1 e
  exact h2 H S F μ xs vs ys Q hs rv hy fun p us hp ru => q.lst hs ru hp
def eCall (g : List T → Option T) (fs : Exs) : Ex := fun ρ S => (fs ρ S).bind fun ws S1 => R.of ((views S1 ws).bind fun xs => (g xs).map W.t) S1
def eCallB (g : List T → Option (List T)) (fs : Exs) : Ex := fun ρ S => (fs ρ S).bind fun ws S1 => match (views S1 ws).bind g with
  | some ys => .ok (.r S1.length) (S1 ++ [.lst ys])
  | none => .no
theorem call_run {g : List T → Option T} {r : List V → Hp → VK → Prop} (hr : ∀ (H : Hp) (S : Sto) (F : Hp) (μ : List Addr) (xs : List T) (vs : List V) (c : T) (Q : VK), Rs X.K H S F μ → Rvs X.K H F xs vs → g xs = some c → Res X.K H S F μ c Q → r vs H Q)
    (ha : DA X es fs) {σ : L2.St} {H : Hp} {ρ : Env} {S : Sto} {F : Hp} {μ : List Addr} {w : W} {S' : Sto} {Q : VK} (h : Rs X.K H S F μ) (hs : RpSt X.K F μ σ ρ) (e : eCall g fs ρ S = .ok w S')
    (hQ : ∀ v H' F' μ', Rs X.K H' S' F' μ' → Gr H F μ H' F' μ' → RpW X.K F' μ' w v → Q v H') : tCB r (WPA X es) σ H Q := by
  obtain ⟨ws, S1, h1, e⟩ := R.bind_eq e
  obtain ⟨h2, rfl⟩ := R.of_eq e
  cases q : views S' ws with
  | none => rw [q] at h2; cases h2
  | some xs =>
    rw [q] at h2
    obtain ⟨c, hc, rfl⟩ := map1 (show (g xs).map W.t = some w from h2)
    refine ha σ H ρ S F μ ws S' _ h hs h1 fun vs H1 F1 μ1 r1 g1 q1 => ?_
    exact hr H1 S' F1 μ1 xs vs c Q r1 (views_rv r1 q1 q) hc fun v H2 F2 r2 g2 q2 => hQ v H2 F2 μ1 r2 (g1.trans g2) q2
theorem callB_run {g : List T → Option (List T)} {r : List V → Hp → VK → Prop} (hr : ∀ (H : Hp) (S : Sto) (F : Hp) (μ : List Addr) (xs : List T) (vs : List V) (ys : List T) (Q : VK),
      Rs X.K H S F μ → Rvs X.K H F xs vs → g xs = some ys → (∀ (p : Addr) (us : List V), H p = none → Rps X.K F ys us → Q (.ref p) (upd H p (.lst us))) → r vs H Q)
    (ha : DA X es fs) {σ : L2.St} {H : Hp} {ρ : Env} {S : Sto} {F : Hp} {μ : List Addr} {w : W} {S' : Sto} {Q : VK} (h : Rs X.K H S F μ) (hs : RpSt X.K F μ σ ρ) (e : eCallB g fs ρ S = .ok w S')
    (hQ : ∀ v H' F' μ', Rs X.K H' S' F' μ' → Gr H F μ H' F' μ' → RpW X.K F' μ' w v → Q v H') : tCB r (WPA X es) σ H Q := by
  obtain ⟨ws, S1, h1, e⟩ := R.bind_eq e
  cases q : views S1 ws with
  | none => rw [q] at e; cases e
  | some xs =>
    cases q2 : g xs with
    | none => simp [q, q2] at e
    | some ys =>
      simp only [q, Option.bind_some, q2] at e
      cases e
      refine ha σ H ρ S F μ ws S1 _ h hs h1 fun vs H1 F1 μ1 r1 g1 q1 => ?_
      refine hr H1 S1 F1 μ1 xs vs ys Q r1 (views_rv r1 q1 q) q2 fun p us hp ru => ?_
      obtain ⟨r2, g2, rr⟩ := r1.boxNew (cl := .lst ys) (o := .lst us) hp ⟨r1.notF hp, us, upd_same, ru⟩
      exact hQ _ _ _ _ r2 (g1.trans g2) rr
variable {x : Str} {p : Pos} {id : String}
theorem de_callB {g : List T → Option T} (hc : CallD X (.builtin id) g) (hg : Gl X x) (hm : X.mg x = none) (hv : bootBuiltins x = some (.builtin id)) (ha : DA X (e :: es) fs) (hn : x ≠ "__name__" := by decide) (hdb : (x == ("__debug__" : Str)) = false := by decide)
    (he : starEach (e :: es) X.env = (false, eval e X.env) :: starEach es X.env := by rfl) (hpl : (backTo pos (starEach es X.env)).any (·.1) = false := by rfl) : DE X (.Call (.Name x p) (e :: es) [] pos) (eCall g fs) := by
  obtain ⟨r, h1, h2⟩ := hc
  intro σ H ρ S F μ w S' Q h hs ee hQ
  exact wpe (pe_callB h1 hg hm hv paW hn hdb he hpl) (call_run h2 ha h hs ee hQ)
theorem de_callTy {g : List T → Option T} (hc : CallD X (.type id) g) (hg : Gl X x) (hm : X.mg x = none) (hv : bootBuiltins x = some (.type id)) (ha : DA X (e :: es) fs) (hn : x ≠ "__name__" := by decide) (hdb : (x == ("__debug__" : Str)) = false := by decide)
    (he : starEach (e :: es) X.env = (false, eval e X.env) :: starEach es X.env := by rfl) (hpl : (backTo pos (starEach es X.env)).any (·.1) = false := by rfl) : DE X (.Call (.Name x p) (e :: es) [] pos) (eCall g fs) := by
  obtain ⟨r, h1, h2⟩ := hc
  intro σ H ρ S F μ w S' Q h hs ee hQ
  exact wpe (pe_callTy h1 hg hm hv paW hn hdb he hpl) (call_run h2 ha h hs ee hQ)
theorem de_callLB {g : List T → Option (List T)} (hc : CallL X (.builtin id) g) (hg : Gl X x) (hm : X.mg x = none) (hv : bootBuiltins x = some (.builtin id)) (ha : DA X (e :: es) fs) (hn : x ≠ "__name__" := by decide) (hdb : (x == ("__debug__" : Str)) = false := by decide)
    (he : starEach (e :: es) X.env = (false, eval e X.env) :: starEach es X.env := by rfl) (hpl : (backTo pos (starEach es X.env)).any (·.1) = false := by rfl) : DE X (.Call (.Name x p) (e :: es) [] pos) (eCallB g fs) := by
  obtain ⟨r, h1, h2⟩ := hc
  intro σ H ρ S F μ w S' Q h hs ee hQ
  exact wpe (pe_callB h1 hg hm hv paW hn hdb he hpl) (callB_run h2 ha h hs ee hQ)
theorem de_callLTy {g : List T → Option (List T)} (hc : CallL X (.type id) g) (hg : Gl X x) (hm : X.mg x = none) (hv : bootBuiltins x = some (.type id)) (ha : DA X (e :: es) fs) (hn : x ≠ "__name__" := by decide) (hdb : (x == ("__debug__" : Str)) = false := by decide)
    (he : starEach (e :: es) X.env = (false, eval e X.env) :: starEach es X.env := by rfl) (hpl : (backTo pos (starEach es X.env)).any (·.1) = false := by rfl) : DE X (.Call (.Name x p) (e :: es) [] pos) (eCallB g fs) := by
  obtain ⟨r, h1, h2⟩ := hc
  intro σ H ρ S F μ w S' Q h hs ee hQ
  exact wpe (pe_callTy h1 hg hm hv paW hn hdb he hpl) (callB_run h2 ha h hs ee hQ)
theorem rvs1 {K : PySem.W.Frag} {H F : Hp} {x : T} {vs : List V} (r : Rvs K H F [x] vs) : ∃ v, vs = [v] ∧ Rv K H F x v := by
  cases r with
  | cons a b => cases b; exact ⟨_, rfl, a⟩
theorem rvs2 {K : PySem.W.Frag} {H F : Hp} {x y : T} {vs : List V} (r : Rvs K H F [x, y] vs) : ∃ v u, vs = [v, u] ∧ Rv K H F x v ∧ Rv K H F y u := by
  cases r with
  | cons a b => cases b with
    | cons c d => cases d; exact ⟨_, _, rfl, a, c⟩
def bLen : List T → Option T
  | [.lst xs] => some (.int xs.length)
  | [.tup xs] => some (.int xs.length)
  | [.scr xs] => some (.int xs.length)
  | [.str x] => if x.length ≤ cap then some (.int x.length) else none
  | _ => none
theorem Rpk.length {K : PySem.W.Frag} {F : Hp} : ∀ {xs : List (Key × T)} {vs : List (Key × V)}, Rpk K F xs vs → xs.length = vs.length
  | _, _, .nil => rfl
  | _, _, .cons _ h => by rw [List.length_cons, List.length_cons, Rpk.length h]
theorem cd_len : CallD X (.builtin "len") bLen := by
  refine ⟨_, call_len, fun H S F μ xs vs c Q h rv e q => ?_⟩
  unfold bLen at e
  split at e <;> try cases e
  · obtain ⟨v, rfl, r⟩ := rvs1 rv
    cases r with
    | lst a r => exact ⟨_, _, rfl, .inl ⟨_, SqL.of a, rfl⟩, by rw [← r.length]; exact q.same h (.int _)⟩
  · obtain ⟨v, rfl, r⟩ := rvs1 rv
    cases r with
    | tup a r => exact ⟨_, _, rfl, .inr ⟨_, Same.sqT h.sub a, rfl⟩, by rw [← r.length]; exact q.same h (.int _)⟩
  · obtain ⟨v, rfl, r⟩ := rvs1 rv
    cases r with
    | scr a => exact ⟨_, _, rfl, .inl ⟨_, a, rfl⟩, by rw [List.length_map]; exact q.same h (.int _)⟩
  · split at e
    · rename_i hl
      cases e
      obtain ⟨v, rfl, r⟩ := rvs1 rv
      cases r
      exact ⟨_, _, rfl, ⟨by rw [cap_eq]; exact hl, rfl⟩, q.same h (.int _)⟩
    · cases e
def bAbs : List T → Option T
  | [.int i] => some (.int (if i < 0 then -i else i))
  | _ => none
theorem cd_abs : CallD X (.builtin "abs") bAbs := by
  refine ⟨_, call_abs, fun H S F μ xs vs c Q h rv e q => ?_⟩
  unfold bAbs at e
  split at e <;> cases e
  obtain ⟨v, rfl, r⟩ := rvs1 rv
  cases r
  exact ⟨_, rfl, q.same h (.int _)⟩
def bList : List T → Option (List T)
  | [.lst xs] => some xs
  | [.tup xs] => some xs
  | _ => none
theorem cl_list : CallL X (.type "list") bList := by
  refine ⟨_, call_list_of, fun H S F μ xs vs c Q h rv e q => ?_⟩
  unfold bList at e
  split at e <;> cases e
  · obtain ⟨v, rfl, r⟩ := rvs1 rv
    cases r with
    | lst a r => exact ⟨_, _, rfl, .inl (SqL.of a), fun l hl => q l _ hl r⟩
  · obtain ⟨v, rfl, r⟩ := rvs1 rv
    cases r with
    | tup a r => exact ⟨_, _, rfl, .inr (Same.sqT h.sub a), fun l hl => q l _ hl r⟩
def bTuple : List T → Option T
  | [.lst xs] => some (.tup xs)
  | [.tup xs] => some (.tup xs)
  | _ => none
theorem cd_tuple : CallD X (.type "tuple") bTuple := by
  refine ⟨_, call_tuple_of, fun H S F μ xs vs c Q h rv e q => ?_⟩
  unfold bTuple at e
  split at e <;> cases e
  · obtain ⟨v, rfl, r⟩ := rvs1 rv
    cases r with
    | lst a r => exact ⟨_, _, rfl, .inl ⟨SqL.of a, fun l hl => q.tup h r hl⟩⟩
  · obtain ⟨v, rfl, r⟩ := rvs1 rv
    cases r with
    | tup a r => exact ⟨_, _, rfl, .inr ⟨Same.sqT h.sub a, q.same h (.tup a r)⟩⟩
/-- of a list of ints -/
def onInts (k : List Int → Option T) : List T → Option T
  | [.lst xs] => (intsOf xs).bind k
  | _ => none
def onBls (k : List Bool → Option T) : List T → Option T
  | [.lst xs] => (bls xs).bind k
  | _ => none
theorem onInts_eq {k : List Int → Option T} {xs : List T} {c : T} (h : onInts k xs = some c) : ∃ ns, xs = [.lst (ns.map T.int)] ∧ k ns = some c := by
  unfold onInts at h
  split at h
  · rename_i ys
    cases q : intsOf ys with
    | none => rw [q] at h; cases h
    | some ns => rw [q] at h; exact ⟨ns, by rw [intsOf_some q], show k ns = some c from h⟩
  · cases h
theorem onBls_eq {k : List Bool → Option T} {xs : List T} {c : T} (h : onBls k xs = some c) : ∃ ns, xs = [.lst (ns.map T.bl)] ∧ k ns = some c := by
  unfold onBls at h
  split at h
  · rename_i ys
    cases q : bls ys with
    | none => rw [q] at h; cases h
    | some ns => rw [q] at h; exact ⟨ns, by rw [bls_some q], show k ns = some c from h⟩
  · cases h
def bSum : List T → Option T := onInts fun ns => some (.int ns.sum)
theorem cd_sum (hc : X.calm = true) : CallD X (.builtin "sum") bSum := by
  refine ⟨_, cr_sum hc, fun H S F μ xs vs c Q h rv e q => ?_⟩
  obtain ⟨ns, rfl, e2⟩ := onInts_eq e
  cases e2
  obtain ⟨v, rfl, r⟩ := rvs1 rv
  cases r with
  | lst a r =>
    cases r.ints_inv
    exact ⟨_, ns, rfl, SqL.of a, q.same h (.int _)⟩
def bAll : List T → Option T := onBls fun bs => some (.bl (bs.all fun b => b))
def bAny : List T → Option T := onBls fun bs => some (.bl (bs.any fun b => b))
theorem cd_all (hc : X.calm = true) : CallD X (.builtin "all") bAll := by
  refine ⟨_, cr_all hc, fun H S F μ xs vs c Q h rv e q => ?_⟩
  obtain ⟨ns, rfl, e2⟩ := onBls_eq e
  cases e2
  obtain ⟨v, rfl, r⟩ := rvs1 rv
  cases r with
  | lst a r =>
    cases r.bls_inv
    exact ⟨_, ns, rfl, SqL.of a, q.same h (.bl _)⟩
theorem cd_any (hc : X.calm = true) : CallD X (.builtin "any") bAny := by
  refine ⟨_, cr_any hc, fun H S F μ xs vs c Q h rv e q => ?_⟩
  obtain ⟨ns, rfl, e2⟩ := onBls_eq e
  cases e2
  obtain ⟨v, rfl, r⟩ := rvs1 rv
  cases r with
  | lst a r =>
    cases r.bls_inv
    exact ⟨_, ns, rfl, SqL.of a, q.same h (.bl _)⟩
end
end Dl
/-! Dl5: methods that change a cell, targets, patterns. -/
namespace Dl
open PySem PySem.Spec PyProof.Rows L2
def live (S : Sto) (n : Nat) : Bool := match S[n]? with
  | some (.lst _) => true
  | some (.vec _) => true
  | _ => false
section
variable {X : Cx}
/-- a method of a list in a cell, one argument: what it gives, what the cell is then -/
def MtC (X : Cx) (id : String) (k : Sto → Cell → W → Option (W × Cell)) : Prop := ∃ r, MtR X id r ∧ ∀ (H : Hp) (S : Sto) (F : Hp) (μ : List Addr) (n : Nat) (p : Addr) (c : Cell) (w : W) (v : V) (w' : W) (c' : Cell) (Q : VK),
  Rs X.K H S F μ → S[n]? = some c → μ[n]? = some p → RpW X.K F μ w v → k S c w = some (w', c') →
  (∀ v' o, RpC X.K (upd H p o) F μ p c' → RpW X.K F μ w' v' → Q v' (upd H p o)) → r (.ref p) [v] H Q
def MtC0 (X : Cx) (id : String) (k : Cell → Option (W × Cell)) : Prop := ∃ r, MtR X id r ∧ ∀ (H : Hp) (S : Sto) (F : Hp) (μ : List Addr) (n : Nat) (p : Addr) (c : Cell) (w' : W) (c' : Cell) (Q : VK),
  Rs X.K H S F μ → S[n]? = some c → μ[n]? = some p → k c = some (w', c') →
  (∀ v' o, RpC X.K (upd H p o) F μ p c' → RpW X.K F μ w' v' → Q v' (upd H p o)) → r (.ref p) [] H Q
def eM1 (k : Sto → Cell → W → Option (W × Cell)) (fo fa : Ex) : Ex := fun ρ S => (fo ρ S).bind fun w S1 => match w with
  | .r n => if live S1 n then (fa ρ S1).bind fun v S2 => match S2[n]?.bind fun c => k S2 c v with
    | some (w', c) => .ok w' (S2.set n c)
    | none => .no else .no
  | .t _ => .no
def eM0 (k : Cell → Option (W × Cell)) (fo : Ex) : Ex := fun ρ S => (fo ρ S).bind fun w S1 => match w with
  | .r n => if live S1 n then (match S1[n]?.bind k with
    | some (w', c) => .ok w' (S1.set n c)
    | none => .no) else .no
  | .t _ => .no
theorem live_list {K : PySem.W.Frag} {H F : Hp} {S : Sto} {μ : List Addr} {n : Nat} {p : Addr} (h : Rs K H S F μ) (hl : live S n = true) (hp : μ[n]? = some p) : ∃ vs, H p = some (.lst vs) := by
  unfold live at hl
  split at hl
  · rename_i xs e
    obtain ⟨_, vs, hv, _⟩ := h.cell n _ p e hp
    exact ⟨vs, hv⟩
  · rename_i xs e
    obtain ⟨_, vs, hv, _⟩ := h.cell n _ p e hp
    exact ⟨vs, hv⟩
  · cases hl
variable {a b o e : Expr} {es : List Expr} {fa fb fo f : Ex} {fs : Exs} {pos apos cpos : Pos} {name : Str} {id : String}
theorem de_m1 {k : Sto → Cell → W → Option (W × Cell)} (slot : Slot "list" name id) (hty : typeOf (.builtin id) = pure (.type "method_descriptor")) (hm : MtC X id k) (hnd : ∀ S c w x, k S c w = some x → c.can = true) (ho : DE X o fo) (ha : DE X e fa)
    (hbase : attributeBase o name X.env (eval o X.env) = eval o X.env := by rfl)
    (hfew : ((backTo cpos (starEach [e] X.env)).all (fun x => !x.1) && (backToKw cpos (keywordEach [] X.env)).all (fun x => x.1.isSome)
      && decide (([e] : List Expr).length + ([] : List Keyword).length + (if ([] : List Keyword).isEmpty then 0 else 1) < 30)) = true := by rfl)
    (hline : (apos.endLine == cpos.line) = true := by rfl) (hs : starEach [e] X.env = (false, eval e X.env) :: starEach [] X.env := by rfl) :
    DE X (.Call (.Attribute o name apos) [e] [] cpos) (eM1 k fo fa) := by
  obtain ⟨r, m1, m2⟩ := hm
  intro σ H ρ S F μ w S' Q h hs' ee hQ
  obtain ⟨w1, S1, h1, ea⟩ := R.bind_eq ee
  clear ee
  cases w1 with
  | t x => cases ea
  | r n =>
    replace ea : (if live S1 n then (fa ρ S1).bind fun v S2 => match S2[n]?.bind fun c => k S2 c v with
      | some (w', c) => .ok w' (S2.set n c)
      | none => .no else .no) = R.ok w S' := ea
    split at ea
    · rename_i hl
      obtain ⟨v, S2, h2, eb⟩ := R.bind_eq ea
      clear ea
      cases hc : S2[n]? with
      | none => rw [hc] at eb; cases eb
      | some c =>
        rw [hc] at eb
        cases hk : k S2 c v with
        | none => simp [hk] at eb
        | some wc =>
          obtain ⟨w', c'⟩ := wc
          simp only [Option.bind_some, hk] at eb
          cases eb
          refine wpe (pe_bm PySem.F.plainAttrs_list slot hty m1 peW (pa_cons peW pa_nil hs) hbase hfew hline hs) ?_
          refine ho σ H ρ S F μ _ S1 _ h hs' h1 fun vo H1 F1 μ1 r1 g1 q1 => ?_
          obtain ⟨p, hp, rfl⟩ := q1
          obtain ⟨vs, hv⟩ := live_list r1 hl hp
          refine ⟨.inl ⟨rfl, vs, SqL.of hv⟩, ?_⟩
          refine ha σ H1 ρ S1 F1 μ1 v S2 _ r1 (hs'.gr g1) h2 fun va H2 F2 μ2 r2 g2 q2 => ?_
          have hp2 := pre_get g2.pre hp
          refine m2 H2 S2 F2 μ2 n p c v va w c' Q r2 hc hp2 q2 hk fun v' ob hC hW => ?_
          obtain ⟨r3, g3⟩ := r2.put hc (hnd _ _ _ _ hk) hp2 hC
          exact hQ v' _ F2 μ2 r3 ((g1.trans g2).trans g3) hW
    · cases ea
theorem de_m0 {k : Cell → Option (W × Cell)} (slot : Slot "list" name id) (hty : typeOf (.builtin id) = pure (.type "method_descriptor")) (hm : MtC0 X id k) (hnd : ∀ c x, k c = some x → c.can = true) (ho : DE X o fo)
    (hbase : attributeBase o name X.env (eval o X.env) = eval o X.env := by rfl) (hline : (apos.endLine == cpos.line) = true := by rfl) :
    DE X (.Call (.Attribute o name apos) [] [] cpos) (eM0 k fo) := by
  obtain ⟨r, m1, m2⟩ := hm
  intro σ H ρ S F μ w S' Q h hs' ee hQ
  obtain ⟨w1, S1, h1, ea⟩ := R.bind_eq ee
  clear ee
  cases w1 with
  | t x => cases ea
  | r n =>
    replace ea : (if live S1 n then (match S1[n]?.bind k with
      | some (w', c) => .ok w' (S1.set n c)
      | none => .no) else .no) = R.ok w S' := ea
    split at ea
    · rename_i hl
      cases hc : S1[n]? with
      | none => rw [hc] at ea; cases ea
      | some c =>
        rw [hc] at ea
        cases hk : k c with
        | none => simp [hk] at ea
        | some wc =>
          obtain ⟨w', c'⟩ := wc
          simp only [Option.bind_some, hk] at ea
          cases ea
          refine wpe (pe_bm0 PySem.F.plainAttrs_list slot hty m1 peW hbase hline) ?_
          refine ho σ H ρ S F μ _ S1 _ h hs' h1 fun vo H1 F1 μ1 r1 g1 q1 => ?_
          obtain ⟨p, hp, rfl⟩ := q1
          obtain ⟨vs, hv⟩ := live_list r1 hl hp
          refine ⟨.inl ⟨rfl, vs, SqL.of hv⟩, ?_⟩
          refine m2 H1 S1 F1 μ1 n p c w c' Q r1 hc hp hk fun v' ob hC hW => ?_
          obtain ⟨r3, g3⟩ := r1.put hc (hnd _ _ hk) hp hC
          exact hQ v' _ F1 μ1 r3 (g1.trans g3) hW
    · cases ea
def kAppend (_ : Sto) (c : Cell) (w : W) : Option (W × Cell) := match c, w with
  | .lst xs, .t x => if xs.length < cap then some (.t .non, .lst (xs ++ [x])) else none
  | .vec ws, w => if ws.length < cap then some (.t .non, .vec (ws ++ [w])) else none
  | _, _ => none
theorem mc_append : MtC X "list.append" kAppend := by
  refine ⟨rAppend, mt_append, fun H S F μ n p c w v w' c' Q h hc hp rw' e q => ?_⟩
  have q0 := h.cell n c p hc hp
  unfold kAppend at e
  split at e
  · split at e
    · rename_i hl
      cases e
      obtain ⟨nF, vs, hv, r⟩ := q0
      refine ⟨p, vs, v, rfl, rfl, hv, by rw [← r.length, cap_eq]; exact hl, q .non _ ⟨nF, _, upd_same, r.append (.cons rw' .nil)⟩ (show Rp _ _ _ _ from .non)⟩
    · cases e
  · split at e
    · rename_i hl
      cases e
      obtain ⟨nF, vs, hv, r⟩ := q0
      refine ⟨p, vs, v, rfl, rfl, hv, by rw [← r.length, cap_eq]; exact hl, q .non _ ⟨nF, _, upd_same, r.append (.cons rw' .nil)⟩ (show Rp _ _ _ _ from .non)⟩
    · cases e
  · cases e
theorem kAppend_nd : ∀ S c w x, kAppend S c w = some x → c.can = true := by
  intro S c w x h
  cases c <;> first | rfl | (cases w <;> cases h)
/-- xs.append(e) -/
theorem de_append (ho : DE X o fo) (ha : DE X e fa) (hbase : attributeBase o "append" X.env (eval o X.env) = eval o X.env := by rfl)
    (hfew : ((backTo cpos (starEach [e] X.env)).all (fun x => !x.1) && (backToKw cpos (keywordEach [] X.env)).all (fun x => x.1.isSome)
      && decide (([e] : List Expr).length + ([] : List Keyword).length + (if ([] : List Keyword).isEmpty then 0 else 1) < 30)) = true := by rfl)
    (hline : (apos.endLine == cpos.line) = true := by rfl) (hs : starEach [e] X.env = (false, eval e X.env) :: starEach [] X.env := by rfl) :
    DE X (.Call (.Attribute o "append" apos) [e] [] cpos) (eM1 kAppend fo fa) := de_m1 PySem.F.slot_list_append PySem.F.type_list_append mc_append kAppend_nd ho ha hbase hfew hline hs
def kPop (c : Cell) : Option (W × Cell) := match c with
  | .lst xs => xs.getLast?.map fun x => (.t x, .lst xs.dropLast)
  | _ => none
theorem dropLast_rps {K : PySem.W.Frag} {F : Hp} {xs : List T} {vs : List V} (r : Rps K F xs vs) : Rps K F xs.dropLast vs.dropLast := by
  rw [List.dropLast_eq_take, List.dropLast_eq_take, r.length]
  exact r.take _
theorem mc_pop : MtC0 X "list.pop" kPop := by
  refine ⟨rPop, mt_pop, fun H S F μ n p c w' c' Q h hc hp e q => ?_⟩
  have q0 := h.cell n c p hc hp
  unfold kPop at e
  split at e
  · rename_i xs
    obtain ⟨x, hx, e2⟩ := map1 e
    cases e2
    obtain ⟨nF, vs, hv, r⟩ := q0
    rw [List.getLast?_eq_getElem?] at hx
    obtain ⟨v, h1, h2⟩ := r.get hx
    refine ⟨p, vs, v, rfl, rfl, hv, by rw [← r.length]; exact h1, q v _ ⟨nF, _, upd_same, dropLast_rps r⟩ h2⟩
  · cases e
theorem kPop_nd : ∀ c x, kPop c = some x → c.can = true := by
  intro c x h
  cases c <;> first | rfl | cases h
theorem de_pop (ho : DE X o fo) (hbase : attributeBase o "pop" X.env (eval o X.env) = eval o X.env := by rfl) (hline : (apos.endLine == cpos.line) = true := by rfl) :
    DE X (.Call (.Attribute o "pop" apos) [] [] cpos) (eM0 kPop fo) := de_m0 PySem.F.slot_list_pop PySem.F.type_list_pop mc_pop kPop_nd ho hbase hline
def kPopAt (_ : Sto) (c : Cell) (w : W) : Option (W × Cell) := match c, w with
  | .lst xs, .t (.int i) => if i.natAbs < 1000000000 then (ixN xs.length i).bind fun j => (xs[j]?).map fun x => (.t x, .lst (xs.eraseIdx j)) else none
  | _, _ => none
theorem mc_popAt : MtC X "list.pop" kPopAt := by
  refine ⟨rPopAt, mt_popAt, fun H S F μ n p c w v w' c' Q h hc hp rw' e q => ?_⟩
  have q0 := h.cell n c p hc hp
  unfold kPopAt at e
  split at e
  · rename_i xs i
    split at e
    · rename_i hb
      cases hj : ixN xs.length i with
      | none => rw [hj] at e; cases e
      | some j =>
        rw [hj] at e
        obtain ⟨x, hx, e2⟩ := map1 (show (xs[j]?).map (fun x => ((W.t x, Cell.lst (xs.eraseIdx j)) : W × Cell)) = some (w', c') from e)
        cases e2
        obtain ⟨nF, vs, hv, r⟩ := q0
        obtain ⟨u, h1, h2⟩ := r.get hx
        have rw'' : Rp X.K F (.int i) v := rw'
        cases rw''
        obtain ⟨h3, h4, h5, h6⟩ := ixN_seq hj
        exact ⟨p, vs, i, j, u, rfl, rfl, hv, by omega, by omega, by rw [← r.length]; exact h3, h1, q u _ ⟨nF, _, upd_same, r.eraseIdx j⟩ h2⟩
    · cases e
  · cases e
theorem kPopAt_nd : ∀ S c w x, kPopAt S c w = some x → c.can = true := by
  intro S c w x h
  cases c <;> first | rfl | (cases w <;> cases h)
theorem de_popAt (ho : DE X o fo) (ha : DE X e fa) (hbase : attributeBase o "pop" X.env (eval o X.env) = eval o X.env := by rfl)
    (hfew : ((backTo cpos (starEach [e] X.env)).all (fun x => !x.1) && (backToKw cpos (keywordEach [] X.env)).all (fun x => x.1.isSome)
      && decide (([e] : List Expr).length + ([] : List Keyword).length + (if ([] : List Keyword).isEmpty then 0 else 1) < 30)) = true := by rfl)
    (hline : (apos.endLine == cpos.line) = true := by rfl) (hs : starEach [e] X.env = (false, eval e X.env) :: starEach [] X.env := by rfl) :
    DE X (.Call (.Attribute o "pop" apos) [e] [] cpos) (eM1 kPopAt fo fa) := de_m1 PySem.F.slot_list_pop PySem.F.type_list_pop mc_popAt kPopAt_nd ho ha hbase hfew hline hs
def kExtend (S : Sto) (c : Cell) (w : W) : Option (W × Cell) := match c, view S w with
  | .lst xs, some (.lst ys) => if xs.length + ys.length ≤ cap then some (.t .non, .lst (xs ++ ys)) else none
  | _, _ => none
theorem mc_extend : MtC X "list.extend" kExtend := by
  refine ⟨rExtend, mt_extend, fun H S F μ n p c w v w' c' Q h hc hp rw' e q => ?_⟩
  have q0 := h.cell n c p hc hp
  unfold kExtend at e
  split at e
  · rename_i xs ys hy
    split at e
    · rename_i hl
      cases e
      obtain ⟨nF, vs, hv, r⟩ := q0
      have ry := view_rv h rw' hy
      cases ry with
      | lst ha ra =>
        exact ⟨p, _, vs, _, rfl, rfl, hv, ha, by rw [← r.length, ← ra.length, cap_eq]; exact hl, q .non _ ⟨nF, _, upd_same, r.append ra⟩ (show Rp _ _ _ _ from .non)⟩
    · cases e
  · cases e
theorem kExtend_nd : ∀ S c w x, kExtend S c w = some x → c.can = true := by
  intro S c w x h
  unfold kExtend at h
  split at h <;> first | rfl | cases h
theorem de_extend (ho : DE X o fo) (ha : DE X e fa) (hbase : attributeBase o "extend" X.env (eval o X.env) = eval o X.env := by rfl)
    (hfew : ((backTo cpos (starEach [e] X.env)).all (fun x => !x.1) && (backToKw cpos (keywordEach [] X.env)).all (fun x => x.1.isSome)
      && decide (([e] : List Expr).length + ([] : List Keyword).length + (if ([] : List Keyword).isEmpty then 0 else 1) < 30)) = true := by rfl)
    (hline : (apos.endLine == cpos.line) = true := by rfl) (hs : starEach [e] X.env = (false, eval e X.env) :: starEach [] X.env := by rfl) :
    DE X (.Call (.Attribute o "extend" apos) [e] [] cpos) (eM1 kExtend fo fa) := de_m1 PySem.F.slot_list_extend PySem.F.type_list_extend mc_extend kExtend_nd ho ha hbase hfew hline hs
/-- the first place of k -/
def placeOf (k : Int) : List Int → Option Nat
  | [] => none
  | n :: r => if n = k then some 0 else (placeOf k r).map (· + 1)
theorem placeOf_some {k : Int} : ∀ {ns : List Int} {j : Nat}, placeOf k ns = some j → ns[j]? = some k ∧ ∀ m : Nat, m < j → ns[m]? ≠ some k
  | [], j, h => by cases h
  | n :: r, j, h => by
    unfold placeOf at h
    split at h
    · rename_i e
      cases h
      exact ⟨by simp [e], fun m hm => absurd hm (Nat.not_lt_zero _)⟩
    · rename_i e
      obtain ⟨i, hi, rfl⟩ := map1 h
      obtain ⟨h1, h2⟩ := placeOf_some hi
      refine ⟨by simpa using h1, fun m hm => ?_⟩
      cases m with
      | zero => simpa using e
      | succ m => simpa using h2 m (by omega)
def kRemove (_ : Sto) (c : Cell) (w : W) : Option (W × Cell) := match c, w with
  | .lst xs, .t (.int i) => (intsOf xs).bind fun ns => (placeOf i ns).map fun j => (.t .non, .lst ((ns.eraseIdx j).map T.int))
  | _, _ => none
theorem mc_remove : MtC X "list.remove" kRemove := by
  refine ⟨rRemI, mt_remove, fun H S F μ n p c w v w' c' Q h hc hp rw' e q => ?_⟩
  have q0 := h.cell n c p hc hp
  unfold kRemove at e
  split at e
  · rename_i xs i
    cases hn : intsOf xs with
    | none => rw [hn] at e; cases e
    | some ns =>
      rw [hn] at e
      obtain ⟨j, hj, e2⟩ := map1 (show (placeOf i ns).map (fun j => ((W.t T.non, Cell.lst ((ns.eraseIdx j).map T.int)) : W × Cell)) = some (w', c') from e)
      cases e2
      obtain ⟨nF, vs, hv, r⟩ := q0
      rw [intsOf_some hn] at r
      cases r.ints_inv
      have rw'' : Rp X.K F (.int i) v := rw'
      cases rw''
      obtain ⟨h1, h2⟩ := placeOf_some hj
      exact ⟨p, ns, i, j, rfl, rfl, hv, h1, h2, q .non _ ⟨nF, _, upd_same, Rps.ints _⟩ (show Rp _ _ _ _ from .non)⟩
  · cases e
theorem kRemove_nd : ∀ S c w x, kRemove S c w = some x → c.can = true := by
  intro S c w x h
  cases c <;> first | rfl | (cases w <;> cases h)
theorem de_remove (ho : DE X o fo) (ha : DE X e fa) (hbase : attributeBase o "remove" X.env (eval o X.env) = eval o X.env := by rfl)
    (hfew : ((backTo cpos (starEach [e] X.env)).all (fun x => !x.1) && (backToKw cpos (keywordEach [] X.env)).all (fun x => x.1.isSome)
      && decide (([e] : List Expr).length + ([] : List Keyword).length + (if ([] : List Keyword).isEmpty then 0 else 1) < 30)) = true := by rfl)
    (hline : (apos.endLine == cpos.line) = true := by rfl) (hs : starEach [e] X.env = (false, eval e X.env) :: starEach [] X.env := by rfl) :
    DE X (.Call (.Attribute o "remove" apos) [e] [] cpos) (eM1 kRemove fo fa) := de_m1 PySem.F.slot_list_remove PySem.F.type_list_remove mc_remove kRemove_nd ho ha hbase hfew hline hs
/-! ### targets -/
abbrev Gx := W → Env → Sto → R Env
def DG (X : Cx) (tg : Expr) (g : Gx) : Prop := ∀ (σ : L2.St) (H : Hp) (ρ : Env) (S : Sto) (F : Hp) (μ : List Addr) (w : W) (v : V) (ρ' : Env) (S' : Sto) (Q : L2.St → Hp → Prop), Rs X.K H S F μ → RpSt X.K F μ σ ρ → RpW X.K F μ w v → g w ρ S = .ok ρ' S' →
  (∀ σ' H' F' μ', Rs X.K H' S' F' μ' → Gr H F μ H' F' μ' → RpSt X.K F' μ' σ' ρ' → Q σ' H') → WPG X tg v σ H Q
def gNm (i : Nat) : Gx := fun w ρ S => .ok (ρ.set i (some w)) S
theorem dg_name {i : Nat} {x : Str} (hN : X.N.Nodup) (hi : X.N[i]? = some x := by rfl) (hx : Loc X.env.scope x := by first | exact Or.inl rfl | exact Or.inr rfl) (hf : X.fn x = true ∨ X.env.scope.names.lookup x = some .local := by first | exact .inl rfl | exact .inr rfl) : DG X (.Name x pos) (gNm i) := by
  intro σ H ρ S F μ w v ρ' S' Q h hs rw' e hQ
  cases e
  exact wpg (pg_name hN hi hx hf) (hQ _ H F μ h Gr.refl (hs.set i rw'))
def putT (kvs : List (Key × T)) (k : Key) (x : T) : List (Key × T) := match kvs with
  | [] => [(k, x)]
  | (k', y) :: r => if k' = k then (k', x) :: r.map (fun kv => if kv.1 = k then (kv.1, x) else kv) else (k', y) :: putT r k x
theorem map_rpk {K : PySem.W.Frag} {F : Hp} {k : Key} {x : T} {v : V} (rx : Rp K F x v) : ∀ {kvs : List (Key × T)} {us : List (Key × V)}, Rpk K F kvs us → Rpk K F (kvs.map fun kv => if kv.1 = k then (kv.1, x) else kv) (us.map fun kv => if kv.1 = k then (kv.1, v) else kv)
  | _, _, .nil => .nil
  | _, _, .cons (k := k') r t => by
    rw [List.map_cons, List.map_cons]
    by_cases e : k' = k
    · rw [if_pos e, if_pos e]; exact .cons rx (map_rpk rx t)
    · rw [if_neg e, if_neg e]; exact .cons r (map_rpk rx t)
theorem putK_cons {k k' : Key} {u v : V} {r : List (Key × V)} : putK ((k', u) :: r) k v = if k' = k then (k', v) :: r.map (fun kv => if kv.1 = k then (kv.1, v) else kv) else (k', u) :: putK r k v := by
  unfold putK
  by_cases e : k' = k
  · simp [e]
  · have d : decide (((k', u) : Key × V).1 = k) = false := decide_eq_false e
    rw [List.any_cons, d, Bool.false_or, if_neg e, List.map_cons, if_neg (show ¬ ((k', u) : Key × V).1 = k from e), List.cons_append]
    split <;> rfl
theorem put_rpk {K : PySem.W.Frag} {F : Hp} {k : Key} {x : T} {v : V} (rx : Rp K F x v) : ∀ {kvs : List (Key × T)} {us : List (Key × V)}, Rpk K F kvs us → Rpk K F (putT kvs k x) (putK us k v)
  | _, _, .nil => .cons rx .nil
  | _, _, .cons (k := k') r t => by
    rw [putK_cons]
    unfold putT
    by_cases e : k' = k
    · rw [if_pos e, if_pos e]; exact .cons rx (map_rpk rx t)
    · rw [if_neg e, if_neg e]; exact .cons r (put_rpk rx t)
/-- a cell with one place or key written -/
def Cell.put (c : Cell) (y : T) (w : W) : Option Cell := match c, y, w with
  | .lst xs, .int i, .t x => (ixN xs.length i).map fun j => .lst (xs.set j x)
  | .vec ws, .int i, w => (ixN ws.length i).map fun j => .vec (ws.set j w)
  | .dic kvs, k, .t x => if kvs.length < cap then (keyOf k).map fun k => .dic (putT kvs k x) else none
  | _, _, _ => none
def gSubD (fo fi : Ex) : Gx := fun w ρ S => (fo ρ S).bind fun wo S1 => (fi ρ S1).bind fun wi S2 => match wo with
  | .r n => (match (view S2 wi).bind fun y => S2[n]?.bind fun c => c.put y w with
    | some c => .ok ρ (S2.set n c)
    | none => .no)
  | .t _ => .no
theorem psetOr {t t' : TSet} (h : PSet X t) (h' : PSet X t') : PSet X (fun o i v H Q => t o i v H Q ∨ t' o i v H Q) := by
  intro pins s σ H o i v ov iv u Q I r1 r2 r3 q
  rcases q with q | q
  · exact h pins s σ H o i v ov iv u Q I r1 r2 r3 q
  · exact h' pins s σ H o i v ov iv u Q I r1 r2 r3 q
def rSetA : TSet := fun o i v H Q => rSetL o i v H Q ∨ rSetD o i v H Q
/-- the store, by the cell -/
theorem put_run {H F : Hp} {S : Sto} {μ : List Addr} {n : Nat} {p : Addr} {c c' : Cell} {w : W} {v vi : V} {y : T} {Q : Hp → Prop} (h : Rs X.K H S F μ) (hc : S[n]? = some c) (hp : μ[n]? = some p) (rv : RpW X.K F μ w v) (ri : Rv X.K H F y vi) (e : c.put y w = some c')
    (q : ∀ o, RpC X.K (upd H p o) F μ p c' → Q (upd H p o)) : rSetA (.ref p) vi v H Q := by
  have q0 := h.cell n c p hc hp
  unfold Cell.put at e
  split at e
  · obtain ⟨j, hj, rfl⟩ := map1 e
    obtain ⟨nF, vs, hv, r⟩ := q0
    cases ri
    exact .inl ⟨p, vs, _, j, rfl, rfl, hv, by rw [← r.length]; exact hj, q _ ⟨nF, _, upd_same, r.set rv j⟩⟩
  · obtain ⟨j, hj, rfl⟩ := map1 e
    obtain ⟨nF, vs, hv, r⟩ := q0
    cases ri
    exact .inl ⟨p, vs, _, j, rfl, rfl, hv, by rw [← r.length]; exact hj, q _ ⟨nF, _, upd_same, r.set rv j⟩⟩
  · split at e
    · rename_i hl
      obtain ⟨k, hk, rfl⟩ := map1 e
      obtain ⟨nF, us, hv, r⟩ := q0
      refine .inr ⟨p, _, rfl, ?_, q _ ⟨nF, _, upd_same, put_rpk rv r⟩⟩
      rw [key_rv ri hk]
      exact DPut.k hv (by rw [← r.length, cap_eq]; exact hl)
    · cases e
  · cases e
theorem put_nd {c c' : Cell} {y : T} {w : W} (h : c.put y w = some c') : c.can = true := by
  cases c <;> first | rfl | (cases y <;> cases w <;> cases h)
theorem dg_sub {k : Nat} {i : Expr} {fi : Ex} (hr : RoomG k X.A) (ho : DE X o fo) (hi : DE X i fi)
    (ha : ∀ v, assign (.Subscript o i pos) X.env v = (do
      let ov ← holding [v] (eval o X.env)
      let iv ← holding [v, ov] (eval i X.env)
      standAt pos
      holding [v, ov, iv] (setItem ov iv v)
      release [v, ov, iv] []) := by intro _; rfl) : DG X (.Subscript o i pos) (gSubD fo fi) := by
  intro σ H ρ S F μ w v ρ' S' Q h hs rw' ee hQ
  obtain ⟨wo, S1, h1, ea⟩ := R.bind_eq ee
  clear ee
  obtain ⟨wi, S2, h2, eb⟩ := R.bind_eq ea
  clear ea
  cases wo with
  | t _ => cases eb
  | r n =>
    cases hy : view S2 wi with
    | none => simp [hy] at eb
    | some y =>
      cases hc : S2[n]? with
      | none => simp [hy, hc] at eb
      | some c =>
        cases hk : c.put y w with
        | none => simp [hy, hc, hk] at eb
        | some c' =>
          simp only [hy, hc, hk, Option.bind_some] at eb
          cases eb
          refine wpg (pg_sub peW peW (psetOr set_list (set_dict (hu_of hr.toRoom))) ha) ?_
          refine ho σ H ρ S F μ _ S1 _ h hs h1 fun vo H1 F1 μ1 r1 g1 q1 => ?_
          refine hi σ H1 ρ S1 F1 μ1 wi S2 _ r1 (hs.gr g1) h2 fun vi H2 F2 μ2 r2 g2 q2 => ?_
          obtain ⟨p, hp, rfl⟩ := q1.gr g2
          refine put_run r2 hc hp ((rw'.gr g1).gr g2) (view_rv r2 q2 hy) hk fun ob hC => ?_
          obtain ⟨r3, g3⟩ := r2.put hc (put_nd hk) hp hC
          exact hQ σ _ F2 μ2 r3 ((g1.trans g2).trans g3) ((hs.gr g1).gr g2)
end
end Dl
/-! Dl6: patterns, what is walked, statements, loops, comprehensions. -/
namespace Dl
open PySem PySem.Spec PyProof.Rows L2
inductive Pat where
  | nm (i : Nat) | tp (ps : List Pat)
inductive Item where
  | one (w : W) | tp (ws : List W)
mutual
def Pat.slots : Pat → List Nat
  | .nm i => [i]
  | .tp ps => Pat.slotsAll ps
def Pat.slotsAll : List Pat → List Nat
  | [] => []
  | p :: ps => p.slots ++ Pat.slotsAll ps
end
mutual
def bindW : Pat → W → Env → Option Env
  | .nm i, w, ρ => some (ρ.set i (some w))
  | .tp ps, .t (.tup xs), ρ => bindWs ps (xs.map W.t) ρ
  | .tp _, _, _ => none
def bindWs : List Pat → List W → Env → Option Env
  | [], [], ρ => some ρ
  | p :: ps, w :: ws, ρ => (bindW p w ρ).bind fun ρ1 => bindWs ps ws ρ1
  | _, _, _ => none
end
def bindI (p : Pat) (it : Item) (ρ : Env) : Option Env := match it, p with
  | .one w, p => bindW p w ρ
  | .tp ws, .tp ps => bindWs ps ws ρ
  | .tp ws, .nm i => (toTs ws).map fun xs => ρ.set i (some (.t (.tup xs)))
def Agree (is : List Nat) (σ σ' : L2.St) : Prop := σ'.length = σ.length ∧ ∀ j, j ∉ is → σ'[j]? = σ[j]?
theorem Agree.refl (is : List Nat) (σ : L2.St) : Agree is σ σ := ⟨rfl, fun _ _ => rfl⟩
def WPGs (X : Cx) (ts : List Expr) (vs : List V) (σ : L2.St) (H : Hp) (Q : L2.St → Hp → Prop) : Prop := ∀ (pins : List (Addr × Obj)) (s : Shared) (us : List Value), Inv X pins σ H s → Vals vs us →
  wpAny (model X.prog X.w) X.A (assignInOrder ((assignEach ts X.env).map (·.2)) us) (fun _ s' => ∃ σ' H', Inv X pins σ' H' s' ∧ Q σ' H') X.xe s
section
variable {X : Cx}
theorem pgsW {ts : List Expr} : PGs X ts (WPGs X ts) := ⟨fun pins s _ _ _ us _ I r h => h pins s us I r⟩
theorem wpgs {ts : List Expr} {t : TGs} {vs : List V} {σ : L2.St} {H : Hp} {Q : L2.St → Hp → Prop} (h : PGs X ts t) (q : t vs σ H Q) : WPGs X ts vs σ H Q := fun pins s us I r => h.run pins s σ H vs us Q I r q
def DPat (X : Cx) (tg : Expr) (p : Pat) : Prop := ∀ (σ : L2.St) (H : Hp) (ρ : Env) (S : Sto) (F : Hp) (μ : List Addr) (w : W) (v : V) (ρ' : Env) (Q : L2.St → Hp → Prop), Rs X.K H S F μ → RpSt X.K F μ σ ρ → RpW X.K F μ w v → bindW p w ρ = some ρ' →
  (∀ σ', RpSt X.K F μ σ' ρ' → Agree p.slots σ σ' → Q σ' H) → WPG X tg v σ H Q
def DPats (X : Cx) (ts : List Expr) (ps : List Pat) : Prop := ∀ (σ : L2.St) (H : Hp) (ρ : Env) (S : Sto) (F : Hp) (μ : List Addr) (ws : List W) (vs : List V) (ρ' : Env) (Q : L2.St → Hp → Prop), Rs X.K H S F μ → RpSt X.K F μ σ ρ → RpWs X.K F μ ws vs → bindWs ps ws ρ = some ρ' →
  (∀ σ', RpSt X.K F μ σ' ρ' → Agree (Pat.slotsAll ps) σ σ' → Q σ' H) → WPGs X ts vs σ H Q
variable {pos : Pos} {tg e : Expr} {ts : List Expr} {p : Pat} {ps : List Pat}
theorem dp_name {i : Nat} {x : Str} (hN : X.N.Nodup) (hi : X.N[i]? = some x := by rfl) (hx : Loc X.env.scope x := by first | exact Or.inl rfl | exact Or.inr rfl) (hf : X.fn x = true ∨ X.env.scope.names.lookup x = some .local := by first | exact .inl rfl | exact .inr rfl) : DPat X (.Name x pos) (.nm i) := by
  intro σ H ρ S F μ w v ρ' Q h hs rw' e hQ
  simp only [bindW, Option.some.injEq] at e
  subst e
  refine wpg (pg_name hN hi hx hf) (hQ _ (hs.set i rw') ⟨by simp, fun j hj => ?_⟩)
  rw [List.getElem?_set_ne]
  simp only [Pat.slots, List.mem_singleton] at hj
  omega
theorem dps_nil : DPats X [] [] := by
  intro σ H ρ S F μ ws vs ρ' Q h hs rw' e hQ
  cases rw' with
  | nil =>
    simp only [bindWs, Option.some.injEq] at e
    subst e
    exact wpgs pgs_nil ⟨rfl, hQ σ hs (Agree.refl _ _)⟩
  | cons _ _ => simp [bindWs] at e
theorem dps_cons (h1 : DPat X tg p) (h2 : DPats X ts ps) (hst : (assignEach (tg :: ts) X.env).map (·.2) = assign tg X.env :: (assignEach ts X.env).map (·.2) := by rfl) : DPats X (tg :: ts) (p :: ps) := by
  intro σ H ρ S F μ ws vs ρ' Q h hs rw' e hQ
  cases rw' with
  | nil => simp [bindWs] at e
  | cons r t =>
    rename_i w v ws vs
    have e : (bindW p w ρ).bind (fun ρ1 => bindWs ps ws ρ1) = some ρ' := by simpa [bindWs] using e
    cases q : bindW p w ρ with
    | none => rw [q] at e; cases e
    | some ρ1 =>
      rw [q] at e
      refine wpgs (pgs_cons pgW pgsW hst) ⟨v, vs, rfl, h1 σ H ρ S F μ w v ρ1 _ h hs r q fun σ1 s1 a1 => ?_⟩
      refine h2 σ1 H ρ1 S F μ ws vs ρ' Q h s1 t e fun σ2 s2 a2 => hQ σ2 s2 ⟨a2.1.trans a1.1, fun j hj => ?_⟩
      simp only [Pat.slotsAll, List.mem_append, not_or] at hj
      rw [a2.2 j hj.2, a1.2 j hj.1]
theorem tup_run {k n : Nat} (hc : X.calm = true) (h : DPats X ts ps) (hn : (assignEach ts X.env).length = n) (hst : (assignEach ts X.env).findIdx? (·.1) = none) (hl : ps.length = n) {σ : L2.St} {H : Hp} {ρ : Env} {S : Sto} {F : Hp} {μ : List Addr} {ws : List W} {vs : List V} {a : Addr} {ρ' : Env} {Q : L2.St → Hp → Prop}
    (h0 : Rs X.K H S F μ) (hs : RpSt X.K F μ σ ρ) (ha : SqT X.K H a vs) (rw' : RpWs X.K F μ ws vs) (e : bindWs ps ws ρ = some ρ') (hQ : ∀ σ', RpSt X.K F μ σ' ρ' → Agree (Pat.slotsAll ps) σ σ' → Q σ' H) : WPG X (.Tuple ts k pos) (.ref a) σ H Q := by
  have len : ∀ (ps : List Pat) (ws : List W) (ρ ρ' : Env), bindWs ps ws ρ = some ρ' → ps.length = ws.length := by
    intro ps
    induction ps with
    | nil => intro ws ρ ρ' e; cases ws with
      | nil => rfl
      | cons _ _ => simp [bindWs] at e
    | cons p ps ih => intro ws ρ ρ' e; cases ws with
      | nil => simp [bindWs] at e
      | cons w ws =>
        have e : (bindW p w ρ).bind (fun ρ1 => bindWs ps ws ρ1) = some ρ' := by simpa [bindWs] using e
        cases q : bindW p w ρ with
        | none => rw [q] at e; cases e
        | some ρ1 => rw [q] at e; rw [List.length_cons, List.length_cons, ih _ _ _ e]
  refine wpg (pg_tup hc pgsW hn hst) ⟨a, vs, rfl, ha, ?_, h σ H ρ S F μ ws vs ρ' Q h0 hs rw' e hQ⟩
  rw [← rw'.length, ← len _ _ _ _ e, hl]
theorem dp_tup {k n : Nat} (hc : X.calm = true) (h : DPats X ts ps) (hn : (assignEach ts X.env).length = n := by rfl) (hst : (assignEach ts X.env).findIdx? (·.1) = none := by rfl) (hl : ps.length = n := by rfl) : DPat X (.Tuple ts k pos) (.tp ps) := by
  intro σ H ρ S F μ w v ρ' Q h0 hs rw' e hQ
  cases w with
  | r _ => simp [bindW] at e
  | t x =>
    cases x with
    | tup xs =>
      have e : bindWs ps (xs.map W.t) ρ = some ρ' := by simpa [bindW] using e
      have rw' : Rp X.K F (.tup xs) v := rw'
      cases rw' with
      | tup a r => exact tup_run hc h hn hst hl h0 hs (Same.sqT h0.sub a) (RpWs.of_trees r) e fun σ' s' a' => hQ σ' s' a'
    | _ => simp [bindW] at e
/-- what a walk hands over, H0 the heap ahead of it -/
def VI (K : PySem.W.Frag) (H0 H F : Hp) (μ : List Addr) (it : Item) (v : V) : Prop := match it with
  | .one w => RpW K F μ w v
  | .tp ws => ∃ a vs, v = .ref a ∧ H0 a = none ∧ H a = some (.tup vs) ∧ RpWs K F μ ws vs
def DItem (X : Cx) (tg : Expr) (p : Pat) : Prop := ∀ (σ : L2.St) (H0 H : Hp) (ρ : Env) (S : Sto) (F : Hp) (μ : List Addr) (it : Item) (v : V) (ρ' : Env) (Q : L2.St → Hp → Prop), Rs X.K H0 S F μ → Rs X.K H S F μ → Gr H0 F μ H F μ → RpSt X.K F μ σ ρ → VI X.K H0 H F μ it v → bindI p it ρ = some ρ' →
  (∀ σ' F', Rs X.K H S F' μ → Gr H0 F μ H F' μ → RpSt X.K F' μ σ' ρ' → Agree p.slots σ σ' → Q σ' H) → WPG X tg v σ H Q
theorem Gr.frz {H0 H F F' : Hp} {μ μ' : List Addr} {a : Addr} {o : HO} (g : Gr H0 F μ H F' μ') (ha : H0 a = none) (hF : F' a = none) : Gr H0 F μ H (upd F' a o) μ' :=
  ⟨fun b u e => by
    have q := g.same b u e
    rw [upd_ne (ne_of_none q hF)]; exact q, g.pre, fun b u h1 h2 h3 => by
    obtain ⟨q1, q2, q3⟩ := g.keep b u h1 h2 h3
    exact ⟨q1, by rw [upd_ne (ne_of_none h1 ha)]; exact q2, q3⟩, g.lk⟩
theorem Gr.updH {H0 H F F' : Hp} {μ μ' : List Addr} {a : Addr} {o : HO} (g : Gr H0 F μ H F' μ') (ha : H0 a = none) : Gr H0 F μ (upd H a o) F' μ' :=
  ⟨g.same, g.pre, fun b u h1 h2 h3 => by
    obtain ⟨q1, q2, q3⟩ := g.keep b u h1 h2 h3
    exact ⟨by rw [upd_ne (ne_of_none h1 ha)]; exact q1, q2, q3⟩, fun b o' u e => by rw [upd_ne (ne_of_none e ha)]; exact g.lk b o' u e⟩
theorem di_name {i : Nat} {x : Str} (hN : X.N.Nodup) (hi : X.N[i]? = some x := by rfl) (hx : Loc X.env.scope x := by first | exact Or.inl rfl | exact Or.inr rfl) (hf : X.fn x = true ∨ X.env.scope.names.lookup x = some .local := by first | exact .inl rfl | exact .inr rfl) : DItem X (.Name x pos) (.nm i) := by
  intro σ H0 H ρ S F μ it v ρ' Q h0 h g hs hv e hQ
  cases it with
  | one w => exact dp_name hN hi hx hf σ H ρ S F μ w v ρ' Q h hs hv e fun σ' s' a' => hQ σ' F h g s' a'
  | tp ws =>
    obtain ⟨a, vs, rfl, n0, ha, r⟩ := hv
    obtain ⟨xs, hx', rfl⟩ := map1 (show (toTs ws).map (fun xs => ρ.set i (some (W.t (.tup xs)))) = some ρ' from e)
    have := toTs_some hx'
    subst this
    have nF := h0.notF n0
    have nM := h0.notM n0
    have sm : Same F (upd F a (.tup vs)) := fun b u e => by rw [upd_ne (ne_of_none e nF)]; exact e
    refine wpg (pg_name hN hi hx hf) (hQ _ (upd F a (.tup vs)) (h.freeze ha nF nM) (g.frz n0 nF) ((hs.mono sm ⟨[], by simp⟩).set i (show Rp _ _ _ _ from .tup (SqT.of upd_same) (r.trees.mono sm))) ⟨by simp, fun j hj => ?_⟩)
    rw [List.getElem?_set_ne]
    simp only [Pat.slots, List.mem_singleton] at hj
    omega
theorem di_tup {k n : Nat} (hc : X.calm = true) (h : DPats X ts ps) (hn : (assignEach ts X.env).length = n := by rfl) (hst : (assignEach ts X.env).findIdx? (·.1) = none := by rfl) (hl : ps.length = n := by rfl) : DItem X (.Tuple ts k pos) (.tp ps) := by
  intro σ H0 H ρ S F μ it v ρ' Q h0 h1 g hs hv e hQ
  cases it with
  | one w => exact dp_tup hc h hn hst hl σ H ρ S F μ w v ρ' Q h1 hs hv e fun σ' s' a' => hQ σ' F h1 g s' a'
  | tp ws =>
    obtain ⟨a, vs, rfl, n0, ha, r⟩ := hv
    exact tup_run hc h hn hst hl h1 hs (SqT.of ha) r e fun σ' s' a' => hQ σ' F h1 g s' a'
/-! ### equality of trees, as a test -/
mutual
def beqT : T → T → Bool
  | .non, .non => true
  | .bl a, .bl b => a == b
  | .int i, .int j => decide (i = j)
  | .str x, .str y => decide (x = y)
  | .tup xs, .tup ys => beqTs xs ys
  | .lst xs, .lst ys => beqTs xs ys
  | .dct xs, .dct ys => beqKs xs ys
  | .scr xs, .scr ys => decide (xs = ys)
  | _, _ => false
def beqTs : List T → List T → Bool
  | [], [] => true
  | x :: xs, y :: ys => beqT x y && beqTs xs ys
  | _, _ => false
def beqKs : List (Key × T) → List (Key × T) → Bool
  | [], [] => true
  | (k, x) :: xs, (k', y) :: ys => decide (k = k') && beqT x y && beqKs xs ys
  | _, _ => false
end
mutual
theorem beqT_eq : ∀ {x y : T}, beqT x y = true → x = y
  | .non, y, h => by cases y <;> first | rfl | (simp [beqT] at h)
  | .bl a, y, h => by cases y <;> first | (simp [beqT] at h; rw [h]; done) | (simp [beqT] at h)
  | .int a, y, h => by cases y <;> first | (simp [beqT] at h; rw [h]; done) | (simp [beqT] at h)
  | .str a, y, h => by cases y <;> first | (simp [beqT] at h; rw [h]; done) | (simp [beqT] at h)
  | .scr a, y, h => by cases y <;> first | (simp [beqT] at h; rw [h]; done) | (simp [beqT] at h)
  | .tup xs, y, h => by
    cases y with
    | tup ys => simp only [beqT] at h; rw [beqTs_eq h]
    | _ => simp [beqT] at h
  | .lst xs, y, h => by
    cases y with
    | lst ys => simp only [beqT] at h; rw [beqTs_eq h]
    | _ => simp [beqT] at h
  | .dct xs, y, h => by
    cases y with
    | dct ys => simp only [beqT] at h; rw [beqKs_eq h]
    | _ => simp [beqT] at h
theorem beqTs_eq : ∀ {xs ys : List T}, beqTs xs ys = true → xs = ys
  | [], [], _ => rfl
  | [], _ :: _, h => by simp [beqTs] at h
  | _ :: _, [], h => by simp [beqTs] at h
  | x :: xs, y :: ys, h => by
    simp only [beqTs, Bool.and_eq_true] at h
    rw [beqT_eq h.1, beqTs_eq h.2]
theorem beqKs_eq : ∀ {xs ys : List (Key × T)}, beqKs xs ys = true → xs = ys
  | [], [], _ => rfl
  | [], _ :: _, h => by simp [beqKs] at h
  | _ :: _, [], h => by simp [beqKs] at h
  | (k, x) :: xs, (k', y) :: ys, h => by
    simp only [beqKs, Bool.and_eq_true, decide_eq_true_eq] at h
    rw [h.1.1, beqT_eq h.1.2, beqKs_eq h.2]
end
mutual
theorem beqT_self : ∀ x : T, beqT x x = true
  | .non => by simp [beqT]
  | .bl _ => by simp [beqT]
  | .int _ => by simp [beqT]
  | .str _ => by simp [beqT]
  | .scr _ => by simp [beqT]
  | .tup xs => by simp only [beqT]; exact beqTs_self xs
  | .lst xs => by simp only [beqT]; exact beqTs_self xs
  | .dct xs => by simp only [beqT]; exact beqKs_self xs
theorem beqTs_self : ∀ xs : List T, beqTs xs xs = true
  | [] => by simp [beqTs]
  | x :: xs => by simp only [beqTs, Bool.and_eq_true]; exact ⟨beqT_self x, beqTs_self xs⟩
theorem beqKs_self : ∀ xs : List (Key × T), beqKs xs xs = true
  | [] => by simp [beqKs]
  | (k, x) :: xs => by simp only [beqKs, Bool.and_eq_true, decide_eq_true_eq]; exact ⟨⟨trivial, beqT_self x⟩, beqKs_self xs⟩
end
def beqW : W → W → Bool
  | .t x, .t y => beqT x y
  | .r m, .r n => decide (m = n)
  | _, _ => false
def beqWs : List W → List W → Bool
  | [], [] => true
  | x :: xs, y :: ys => beqW x y && beqWs xs ys
  | _, _ => false
theorem beqW_eq {x y : W} (h : beqW x y = true) : x = y := by
  cases x <;> cases y <;> simp [beqW] at h
  · rw [beqT_eq h]
  · rw [h]
theorem beqWs_eq : ∀ {xs ys : List W}, beqWs xs ys = true → xs = ys
  | [], [], _ => rfl
  | [], _ :: _, h => by simp [beqWs] at h
  | _ :: _, [], h => by simp [beqWs] at h
  | x :: xs, y :: ys, h => by
    simp only [beqWs, Bool.and_eq_true] at h
    rw [beqW_eq h.1, beqWs_eq h.2]
theorem beqW_self (x : W) : beqW x x = true := by
  cases x
  · exact beqT_self _
  · simp [beqW]
theorem beqWs_self : ∀ xs : List W, beqWs xs xs = true
  | [] => rfl
  | x :: xs => by simp only [beqWs, Bool.and_eq_true]; exact ⟨beqW_self x, beqWs_self xs⟩
def sameL (xs : List T) : Option Cell → Bool
  | some (.lst ys) => beqTs ys xs
  | _ => false
def sameV (xs : List W) : Option Cell → Bool
  | some (.vec ys) => beqWs ys xs
  | _ => false
theorem sameL_eq {xs : List T} {c : Option Cell} (h : sameL xs c = true) : c = some (.lst xs) := by
  unfold sameL at h
  split at h
  · rw [beqTs_eq h]
  · cases h
theorem sameV_eq {xs : List W} {c : Option Cell} (h : sameV xs c = true) : c = some (.vec xs) := by
  unfold sameV at h
  split at h
  · rw [beqWs_eq h]
  · cases h
theorem sameL_self (xs : List T) : sameL xs (some (.lst xs)) = true := beqTs_self xs
theorem sameV_self (xs : List W) : sameV xs (some (.vec xs)) = true := beqWs_self xs
/-! ### what is walked -/
/-- the items, and what must stand while they are walked -/
structure Walked where
  l : List Item
  g : Sto → Bool
abbrev Srcx := Env → Sto → R Walked
def gTrue : Sto → Bool := fun _ => true
structure Wk (K : PySem.W.Frag) (J : It) (its : Walked) (H F : Hp) (μ : List Addr) : Prop where
  goes : ∀ (H2 : Hp) (S2 : Sto) (F2 : Hp) (μ2 : List Addr) (i : Nat), Rs K H2 S2 F2 μ2 → Gr H F μ H2 F2 μ2 → its.g S2 = true → i < its.l.length → J.go i H2
  stop : ∀ (H2 : Hp) (S2 : Sto) (F2 : Hp) (μ2 : List Addr), Rs K H2 S2 F2 μ2 → Gr H F μ H2 F2 μ2 → its.g S2 = true → J.stop its.l.length H2
  yld : ∀ (H2 : Hp) (S2 : Sto) (F2 : Hp) (μ2 : List Addr) (i : Nat) (it : Item) (x : V) (H3 : Hp), Rs K H2 S2 F2 μ2 → Gr H F μ H2 F2 μ2 → its.g S2 = true → its.l[i]? = some it → J.yld i H2 x H3 → Rs K H3 S2 F2 μ2 ∧ Gr H2 F2 μ2 H3 F2 μ2 ∧ VI K H2 H3 F2 μ2 it x
def WPI (X : Cx) (tg iter : Expr) (σ : L2.St) (H : Hp) (R : It → Hp → Prop) : Prop := ∀ (pins : List (Addr × Obj)) (s : Shared), Inv X pins σ H s →
  wpAny (model X.prog X.w) X.A (eval iter X.env) (fun v s1 => wpAny (model X.prog X.w) X.A (pyIter v) (PIE X pins σ tg R) X.xe s1) X.xe s
theorem piW {iter : Expr} : PI X tg iter (WPI X tg iter) := ⟨fun pins s _ _ _ I h => h pins s I⟩
theorem wpi {iter : Expr} {t : TI} {σ : L2.St} {H : Hp} {R : It → Hp → Prop} (h : PI X tg iter t) (q : t σ H R) : WPI X tg iter σ H R := fun pins s I => h.run pins s σ H R I q
def DI (X : Cx) (tg iter : Expr) (src : Srcx) : Prop := ∀ (σ : L2.St) (H : Hp) (ρ : Env) (S : Sto) (F : Hp) (μ : List Addr) (its : Walked) (S' : Sto) (R' : It → Hp → Prop), Rs X.K H S F μ → RpSt X.K F μ σ ρ → src ρ S = .ok its S' →
  (∀ J H' F' μ', Rs X.K H' S' F' μ' → Gr H F μ H' F' μ' → Wk X.K J its H' F' μ' → its.g S' = true → R' J H') → WPI X tg iter σ H R'
variable {iter a b : Expr} {fa fb f : Ex} {fs : Exs} {es : List Expr}
/-- a list or a tuple -/
inductive SK where
  | l | t
def SqK (k : SK) (K : PySem.W.Frag) (H : Hp) (a : Addr) (vs : List V) : Prop := match k with
  | .l => SqL K H a vs
  | .t => SqT K H a vs
/-- the words of a list, of a tuple -/
def cont (S : Sto) : W → Option (SK × List W × (Sto → Bool))
  | .t (.lst xs) => some (.l, xs.map W.t, gTrue)
  | .t (.tup xs) => some (.t, xs.map W.t, gTrue)
  | .t (.scr ns) => some (.l, ns.map fun n => .t (.int n), gTrue)
  | .r n => match S[n]? with
    | some (.lst xs) => some (.l, xs.map W.t, fun S' => sameL xs S'[n]?)
    | some (.vec ws) => some (.l, ws, fun S' => sameV ws S'[n]?)
    | _ => none
  | _ => none
structure SeqAt (k : SK) (K : PySem.W.Frag) (ws : List W) (g : Sto → Bool) (F : Hp) (μ : List Addr) (a : Addr) : Prop where
  at_ : ∀ (H2 : Hp) (S2 : Sto) (F2 : Hp) (μ2 : List Addr), Rs K H2 S2 F2 μ2 → Same F F2 → (∃ ν, μ2 = μ ++ ν) → g S2 = true → ∃ vs, SqK k K H2 a vs ∧ RpWs K F2 μ2 ws vs
theorem cont_seq {K : PySem.W.Frag} {H F : Hp} {S : Sto} {μ : List Addr} {w : W} {v : V} {k : SK} {ws : List W} {g : Sto → Bool} (r : RpW K F μ w v) (e : cont S w = some (k, ws, g)) : (∃ a, v = .ref a ∧ SeqAt k K ws g F μ a) ∧ g S = true := by
  unfold cont at e
  split at e
  · cases e
    have r : Rp K F (.lst _) v := r
    cases r with
    | lst hv rs => exact ⟨⟨_, rfl, ⟨fun H2 S2 F2 μ2 r2 s p _ => ⟨_, SqL.of (r2.sub _ _ (s _ _ hv)), RpWs.of_trees (rs.mono s)⟩⟩⟩, rfl⟩
  · cases e
    have r : Rp K F (.tup _) v := r
    cases r with
    | tup hv rs => exact ⟨⟨_, rfl, ⟨fun H2 S2 F2 μ2 r2 s p _ => ⟨_, Same.sqT (s.trans r2.sub) hv, RpWs.of_trees (rs.mono s)⟩⟩⟩, rfl⟩
  · cases e
    have r : Rp K F (.scr _) v := r
    cases r with
    | scr hv =>
      refine ⟨⟨_, rfl, ⟨fun H2 S2 F2 μ2 r2 s p _ => ⟨_, (s.trans r2.sub).seq hv, ?_⟩⟩⟩, rfl⟩
      have := RpWs.of_trees (K := K) (F := F2) (μ := μ2) (Rps.ints (K := K) (F := F2) ‹List Int›)
      rw [List.map_map] at this
      exact this
  · rename_i n
    obtain ⟨p, hp, rfl⟩ := r
    split at e
    · rename_i xs hc
      cases e
      refine ⟨⟨p, rfl, ⟨fun H2 S2 F2 μ2 r2 s pr hg => ?_⟩⟩, by show sameL xs S[n]? = true; rw [hc]; exact sameL_self xs⟩
      obtain ⟨_, vs, hv, r⟩ := r2.cell n _ p (sameL_eq hg) (pre_get pr hp)
      exact ⟨vs, SqL.of hv, RpWs.of_trees r⟩
    · rename_i xs hc
      cases e
      refine ⟨⟨p, rfl, ⟨fun H2 S2 F2 μ2 r2 s pr hg => ?_⟩⟩, by show sameV _ S[n]? = true; rw [hc]; exact sameV_self _⟩
      obtain ⟨_, vs, hv, r⟩ := r2.cell n _ p (sameV_eq hg) (pre_get pr hp)
      exact ⟨vs, SqL.of hv, r⟩
    · cases e
  · cases e
def ItK (k : SK) (K : PySem.W.Frag) (a : Addr) : It := match k with
  | .l => Itl K a
  | .t => Itt K a
def iSeq (K : PySem.W.Frag) (tl : TE) : TI := fun σ H R => tl σ H fun x H1 => ∃ a k, x = .ref a ∧ (∃ xs, SqK k K H1 a xs) ∧ R (ItK k K a) H1
theorem pi_seq {l : Expr} {tl : TE} (hl : PE X l tl) : PI X tg l (iSeq X.K tl) := by
  refine ⟨fun pins s σ H R I h => ?_⟩
  refine thn (hl.run pins s σ H _ I h) fun v s1 ⟨x, H1, I1, r1, q1⟩ => ?_
  obtain ⟨a, k, e, ⟨xs, hq⟩, q⟩ := q1
  subst e
  cases r1
  cases k with
  | l =>
    obtain ⟨its, rv, p, hz⟩ := I1.list hq
    refine wpAny_pyIter_list p.isList ?_
    refine ⟨s1.heap.objs.size, [s1.heap.objs.size], _, _, H1, rfl, I1.kept (t' := s1.toks) fun b o e => Heap.get?_push_of_some _ e, turn_list a _, ⟨_, Heap.get?_push_size _ rfl, rfl, rfl⟩, fun b hb => ?_, q⟩
    have e : b = s1.heap.objs.size := by simpa using hb
    subst e
    exact I1.fpOk (Nat.le_refl _) (I1.hok.fresh (Nat.le_refl _))
  | t =>
    obtain ⟨its, rv, p, hz⟩ := I1.tuple hq
    refine wpAny_pyIter_tuple (show s1.heap.IsTuple a its.toArray from p) ?_
    refine ⟨s1.heap.objs.size, [s1.heap.objs.size], _, _, H1, rfl, I1.kept (t' := s1.toks) fun b o e => Heap.get?_push_of_some _ e, turn_tuple a _, ⟨_, Heap.get?_push_size _ rfl, rfl, rfl⟩, fun b hb => ?_, q⟩
    have e : b = s1.heap.objs.size := by simpa using hb
    subst e
    exact I1.fpOk (Nat.le_refl _) (I1.hok.fresh (Nat.le_refl _))
def srcS (f : Ex) : Srcx := fun ρ S => (f ρ S).bind fun w S1 => R.of ((cont S1 w).map fun c => ⟨c.2.1.map Item.one, c.2.2⟩) S1
theorem wk_seq {K : PySem.W.Frag} {H F : Hp} {μ : List Addr} {a : Addr} {k : SK} {ws : List W} {g : Sto → Bool} (h : SeqAt k K ws g F μ a) : Wk K (ItK k K a) ⟨ws.map Item.one, g⟩ H F μ := by
  refine ⟨fun H2 S2 F2 μ2 i r2 gr hg hi => ?_, fun H2 S2 F2 μ2 r2 gr hg => ?_, fun H2 S2 F2 μ2 i it x H3 r2 gr hg hi hy => ?_⟩
  · obtain ⟨vs, sq, rw'⟩ := h.at_ H2 S2 F2 μ2 r2 gr.same gr.pre hg
    have hi : i < (ws.map Item.one).length := hi
    rw [List.length_map, rw'.length] at hi
    cases k with
    | l => exact walk_list.goes i H2 hi sq
    | t => exact walk_tup.goes i H2 hi sq
  · obtain ⟨vs, sq, rw'⟩ := h.at_ H2 S2 F2 μ2 r2 gr.same gr.pre hg
    show (ItK k K a).stop (ws.map Item.one).length H2
    rw [List.length_map, rw'.length]
    cases k with
    | l => exact walk_list.stops H2 sq
    | t => exact walk_tup.stops H2 sq
  · obtain ⟨vs, sq, rw'⟩ := h.at_ H2 S2 F2 μ2 r2 gr.same gr.pre hg
    have hi : (ws.map Item.one)[i]? = some it := hi
    rw [List.getElem?_map] at hi
    obtain ⟨y, hy', rfl⟩ := map1 hi
    obtain ⟨v, h1, h2⟩ := rw'.get hy'
    have key : H3 = H2 ∧ vs[i]? = some x := by
      cases k with
      | l => exact ⟨hy.1, hy.2 vs sq⟩
      | t => exact ⟨hy.1, hy.2 vs sq⟩
    obtain ⟨rfl, hx⟩ := key
    rw [h1] at hx
    cases hx
    exact ⟨r2, Gr.refl, h2⟩
theorem ds_seq (ha : DE X a fa) : DI X tg a (srcS fa) := by
  intro σ H ρ S F μ its S' R' h hs e hQ
  obtain ⟨w, S1, h1, e⟩ := R.bind_eq e
  obtain ⟨h2, rfl⟩ := R.of_eq e
  obtain ⟨⟨k, ws, g⟩, hc, rfl⟩ := map1 h2
  refine wpi (pi_seq peW) (ha σ H ρ S F μ _ S' _ h hs h1 fun v H1 F1 μ1 r1 g1 q1 => ?_)
  obtain ⟨⟨p, rfl, sq⟩, hg⟩ := cont_seq (H := H1) q1 hc
  obtain ⟨vs, hq, _⟩ := sq.at_ H1 S' F1 μ1 r1 (Same.refl _) ⟨[], by simp⟩ hg
  exact ⟨p, k, rfl, ⟨vs, hq⟩, hQ _ H1 F1 μ1 r1 g1 (wk_seq sq) hg⟩
/-- range -/
def rngI (lo : Int) (n : Nat) : List Item := (List.range n).map fun i => .one (.t (.int (lo + (i : Nat))))
theorem wk_range {K : PySem.W.Frag} {H F : Hp} {μ : List Addr} {lo : Int} {n : Nat} : Wk K (Itr lo n) ⟨rngI lo n, gTrue⟩ H F μ := by
  have hl : (rngI lo n).length = n := by unfold rngI; rw [List.length_map, List.length_range]
  refine ⟨fun H2 S2 F2 μ2 i r2 s _ hi => (show i < n from by rw [← hl]; exact hi), fun H2 S2 F2 μ2 r2 s _ => (show n ≤ (rngI lo n).length from by rw [hl]; exact Nat.le_refl n), fun H2 S2 F2 μ2 i it x H3 r2 s _ hi hy => ?_⟩
  have hi : (rngI lo n)[i]? = some it := hi
  have hi' := (List.getElem?_eq_some_iff.mp hi).1
  rw [hl] at hi'
  unfold rngI at hi
  rw [List.getElem?_map, List.getElem?_range hi'] at hi
  cases hi
  obtain ⟨rfl, rfl⟩ := hy
  exact ⟨r2, Gr.refl, (show Rp _ _ _ _ from .int _)⟩
def rlim (i : Int) : Bool := decide (i.natAbs < 4000000000000000000)
theorem rlim_ok {i : Int} (h : rlim i = true) : -(2 ^ 62) ≤ i ∧ i < 2 ^ 62 := by
  unfold rlim at h
  simp only [Bool.and_eq_true, decide_eq_true_eq] at h
  omega
def rng1 : List W → Option Walked
  | [.t (.int j)] => if rlim j then some ⟨rngI 0 j.toNat, gTrue⟩ else none
  | _ => none
def rng2 : List W → Option Walked
  | [.t (.int i), .t (.int j)] => if rlim i && rlim j then some ⟨rngI i (j - i).toNat, gTrue⟩ else none
  | _ => none
def srcR1 (fs : Exs) : Srcx := fun ρ S => (fs ρ S).bind fun ws S1 => R.of (rng1 ws) S1
def srcR2 (fs : Exs) : Srcx := fun ρ S => (fs ρ S).bind fun ws S1 => R.of (rng2 ws) S1
theorem ds_range1 {q : Pos} (hg : Gl X "range") (hm : X.mg "range" = none) (ha : DA X [a] fs) (hs : starEach [a] X.env = [(false, eval a X.env)] := by rfl) : DI X tg (.Call (.Name "range" q) [a] [] pos) (srcR1 fs) := by
  intro σ H ρ S F μ its S' R' h hs' e hQ
  obtain ⟨ws, S1, h1, e⟩ := R.bind_eq e
  obtain ⟨h2, rfl⟩ := R.of_eq e
  unfold rng1 at h2
  split at h2
  · split at h2
    · rename_i j hj
      cases h2
      refine wpi (pi_range1 hg hm paW hs) (ha σ H ρ S F μ _ S' _ h hs' h1 fun vs H1 F1 μ1 r1 g1 q1 => ?_)
      cases q1 with
      | cons a b =>
        cases b
        have a : Rp X.K F1 (.int j) _ := a
        cases a
        obtain ⟨z1, z2⟩ := rlim_ok hj
        exact ⟨j, rfl, z1, z2, hQ _ H1 F1 μ1 r1 g1 wk_range rfl⟩
    · cases h2
  · cases h2
theorem ds_range2 {q : Pos} (hg : Gl X "range") (hm : X.mg "range" = none) (ha : DA X [a, b] fs) (hs : starEach [a, b] X.env = [(false, eval a X.env), (false, eval b X.env)] := by rfl) (hs2 : starEach [b] X.env = [(false, eval b X.env)] := by rfl) : DI X tg (.Call (.Name "range" q) [a, b] [] pos) (srcR2 fs) := by
  intro σ H ρ S F μ its S' R' h hs' e hQ
  obtain ⟨ws, S1, h1, e⟩ := R.bind_eq e
  obtain ⟨h2, rfl⟩ := R.of_eq e
  unfold rng2 at h2
  split at h2
  · split at h2
    · rename_i i j hj
      cases h2
      simp only [Bool.and_eq_true] at hj
      refine wpi (pi_range2 hg hm paW hs hs2) (ha σ H ρ S F μ _ S' _ h hs' h1 fun vs H1 F1 μ1 r1 g1 q1 => ?_)
      cases q1 with
      | cons a b =>
        cases b with
        | cons b c =>
          cases c
          have a : Rp X.K F1 (.int i) _ := a
          have b : Rp X.K F1 (.int j) _ := b
          cases a; cases b
          obtain ⟨z1, z2⟩ := rlim_ok hj.1
          obtain ⟨z3, z4⟩ := rlim_ok hj.2
          exact ⟨i, j, rfl, ⟨z1, z2, z3, z4⟩, hQ _ H1 F1 μ1 r1 g1 wk_range rfl⟩
    · cases h2
  · cases h2
end
end Dl
/-! Dl7: statements, loops, comprehensions. -/
namespace Dl
open PySem PySem.Spec PyProof.Rows L2
section
variable {X : Cx} {pos : Pos} {tg e c a b : Expr} {ts es : List Expr} {st : Stmt} {rest body els : List Stmt} {f fa fb : Ex} {ft : Tx} {fs : Exs} {g g2 : Sx} {gt : Gx} {p : Pat}
/-! ### blocks -/
def sNil : Sx := fun ρ S => .nx ρ S
def sCons (g g2 : Sx) : Sx := fun ρ S => match g ρ S with
  | .nx ρ1 S1 => g2 ρ1 S1
  | o => o
theorem dss_nil : DSs X [] sNil := by
  intro σ H ρ S F μ D h hs q
  exact wpss pss_nil (q σ H F μ h Gr.refl hs)
theorem dss_one (h1 : DS X st g) : DSs X [st] g := by
  intro σ H ρ S F μ D h hs q
  exact wpss (pss_one psW) (h1 σ H ρ S F μ D h hs q)
theorem dss_cons (h1 : DS X st g) (h2 : DSs X rest g2) : DSs X (st :: rest) (sCons g g2) := by
  intro σ H ρ S F μ D h hs q
  refine wpss (pss_cons psW pssW) (h1 σ H ρ S F μ { D with nx := WPSs X rest D } h hs ?_)
  unfold sCons at q
  cases e : g ρ S with
  | nx ρ1 S1 =>
    rw [e] at q
    exact fun σ' H' F' μ' r' g' s' => h2 σ' H' ρ1 S1 F' μ' D r' s' (O.holds_gr g' q)
  | rt w S1 => rw [e] at q; exact q
  | bk ρ1 S1 => rw [e] at q; exact q
  | ct ρ1 S1 => rw [e] at q; exact q
  | ex _ _ _ => rw [e] at q; exact q
  | no => rw [e] at q; exact q
/-- what an expression's end makes of a statement -/
def thenS {α : Type} (r : R α) (k : α → Sto → O) : O := match r with
  | .ok a S => k a S
  | .ex c v S => .ex c v S
  | .no => .no
theorem thenS_holds {α : Type} {K : PySem.W.Frag} {H F : Hp} {μ : List Addr} {D : Ends} {r : R α} {k : α → Sto → O} (h : (thenS r k).holds K H F μ D) : ∃ a S, r = .ok a S ∧ (k a S).holds K H F μ D := by
  cases r with
  | ok a S => exact ⟨a, S, rfl, h⟩
  | ex _ _ _ => exact False.elim h
  | no => exact False.elim h
def sExpr (f : Ex) : Sx := fun ρ S => thenS (f ρ S) fun _ S1 => .nx ρ S1
theorem ds_expr (he : DE X e f) (hs : swapsWith e none pos.line X.env = pure false := by rfl) : DS X (.Expr e pos) (sExpr f) := by
  intro σ H ρ S F μ D h hs' q
  obtain ⟨w, S1, h1, q⟩ := thenS_holds q
  exact wps (ps_expr peW hs) (he σ H ρ S F μ w S1 _ h hs' h1 fun v H' F' μ' r' g' q' => q σ H' F' μ' r' g' (hs'.gr g'))
def sRet (f : Ex) : Sx := fun ρ S => thenS (f ρ S) fun w S1 => .rt w S1
theorem ds_ret (he : DE X e f) : DS X (.Return (some e) pos) (sRet f) := by
  intro σ H ρ S F μ D h hs' q
  obtain ⟨w, S1, h1, q⟩ := thenS_holds q
  exact wps (ps_ret peW) (he σ H ρ S F μ w S1 _ h hs' h1 fun v H' F' μ' r' g' q' => q v H' F' μ' r' g' q')
def sRetN : Sx := fun _ S => .rt (.t .non) S
theorem ds_retN : DS X (.Return none pos) sRetN := by
  intro σ H ρ S F μ D h hs' q
  exact wps ps_retN (q .non H F μ h Gr.refl (show Rp _ _ _ _ from .non))
def sPass : Sx := fun ρ S => .nx ρ S
theorem ds_pass : DS X (.Pass pos) sPass := by
  intro σ H ρ S F μ D h hs' q
  exact wps ps_pass (q σ H F μ h Gr.refl hs')
def sBreak : Sx := fun ρ S => .bk ρ S
theorem ds_break : DS X (.Break pos) sBreak := by
  intro σ H ρ S F μ D h hs' q
  exact wps ps_break (q σ H F μ h Gr.refl hs')
def sCont : Sx := fun ρ S => .ct ρ S
theorem ds_cont : DS X (.Continue pos) sCont := by
  intro σ H ρ S F μ D h hs' q
  exact wps ps_continue (q σ H F μ h Gr.refl hs')
/-- never reached -/
def sNo : Sx := fun _ _ => .no
theorem ds_no : DS X st sNo := by
  intro σ H ρ S F μ D h hs' q
  exact False.elim q
def sIf (t : Tx) (g g2 : Sx) : Sx := fun ρ S => thenS (t ρ S) fun k S1 => if k then g ρ S1 else g2 ρ S1
theorem ds_if (hc : DT X c ft) (h1 : DSs X body g) (h2 : DSs X els g2) : DS X (.If c body els pos) (sIf ft g g2) := by
  intro σ H ρ S F μ D h hs' q
  obtain ⟨k, S1, e1, q⟩ := thenS_holds q
  refine wps (ps_if ptW pssW pssW) (hc σ H ρ S F μ k S1 _ h hs' e1 fun H1 F1 μ1 r1 g1 => ?_)
  cases k with
  | true => exact iteT (h1 σ H1 ρ S1 F1 μ1 D r1 (hs'.gr g1) (O.holds_gr g1 q))
  | false => exact iteF (h2 σ H1 ρ S1 F1 μ1 D r1 (hs'.gr g1) (O.holds_gr g1 q))
/-- name = e -/
def sSet (i : Nat) (f : Ex) : Sx := fun ρ S => thenS (f ρ S) fun w S1 => .nx (ρ.set i (some w)) S1
theorem ds_set {i : Nat} {x : Str} {px : Pos} (hN : X.N.Nodup) (he : DE X e f) (hi : X.N[i]? = some x := by rfl) (hx : Loc X.env.scope x := by first | exact Or.inl rfl | exact Or.inr rfl) (hs : swapsWith e (some (.Name x px)) pos.line X.env = pure false := by rfl) (hf : X.fn x = true ∨ X.env.scope.names.lookup x = some .local := by first | exact .inl rfl | exact .inr rfl) :
    DS X (.Assign [.Name x px] e pos) (sSet i f) := by
  intro σ H ρ S F μ D h hs' q
  obtain ⟨w, S1, h1, q⟩ := thenS_holds q
  exact wps (ps_set hN hi hx peW hs hf) (he σ H ρ S F μ w S1 _ h hs' h1 fun v H' F' μ' r' g' q' => q _ H' F' μ' r' g' ((hs'.gr g').set i q'))
/-- target = e -/
def sAsg (f : Ex) (gt : Gx) : Sx := fun ρ S => thenS (f ρ S) fun w S1 => thenS (gt w ρ S1) fun ρ2 S2 => .nx ρ2 S2
theorem ds_asg (he : DE X e f) (hg : DG X tg gt) (hs : swapsWithSole [tg] e pos.line X.env = pure false := by rfl) (hw : swappedStores [tg] e X.env = pure none := by rfl) (h1 : (assignEach [tg] X.env).map (·.2) = [assign tg X.env] := by rfl) : DS X (.Assign [tg] e pos) (sAsg f gt) := by
  intro σ H ρ S F μ D h hs' q
  obtain ⟨w, S1, e1, q⟩ := thenS_holds q
  obtain ⟨ρ2, S2, e2, q⟩ := thenS_holds q
  refine wps (ps_asg peW pgW hs hw h1) (he σ H ρ S F μ w S1 _ h hs' e1 fun v H' F' μ' r' g' q' => ?_)
  exact hg σ H' ρ S1 F' μ' w v ρ2 S2 _ r' (hs'.gr g') q' e2 fun σ2 H2 F2 μ2 r2 g2 s2 => q σ2 H2 F2 μ2 r2 (g'.trans g2) s2
def gPat (p : Pat) : Gx := fun w ρ S => R.of (bindW p w ρ) S
theorem dg_pat (h : DPat X tg p) : DG X tg (gPat p) := by
  intro σ H ρ S F μ w v ρ' S' Q h0 hs rw' e hQ
  obtain ⟨e2, rfl⟩ := R.of_eq e
  exact h σ H ρ S' F μ w v ρ' Q h0 hs rw' e2 fun σ' s' _ => hQ σ' H F μ h0 Gr.refl s'
/-- a, b = x, y: two plain names -/
def sPar (i j : Nat) (fs : Exs) : Sx := fun ρ S => thenS (fs ρ S) fun ws S1 => match ws with
  | [w, u] => .nx ((ρ.set i (some w)).set j (some u)) S1
  | _ => .no
theorem ds_par {i j : Nat} {x y : Str} {px py pt : Pos} {kt k2 pt2} (hc : X.calm = true) (hN : X.N.Nodup) (ha : DA X [a, b] fs) (hi : X.N[i]? = some x := by rfl) (hj : X.N[j]? = some y := by rfl) (hij : i ≠ j := by decide)
    (hx : X.env.scope.names.lookup x = some .local := by rfl) (hy : X.env.scope.names.lookup y = some .local := by rfl)
    (hw : swappedStores [.Tuple [.Name x px, .Name y py] kt pt] (.Tuple [a, b] k2 pt2) X.env = pure (some [x, y]) := by rfl)
    (hs : swapsWithSole [.Tuple [.Name x px, .Name y py] kt pt] (.Tuple [a, b] k2 pt2) pos.line X.env = pure false := by rfl) :
    DS X (.Assign [.Tuple [.Name x px, .Name y py] kt pt] (.Tuple [a, b] k2 pt2) pos) (sPar i j fs) := by
  intro σ H ρ S F μ D h hs' q
  obtain ⟨ws, S1, e1, q⟩ := thenS_holds q
  split at q
  · refine wps (ps_par hc hN hi hj hij hx hy paW hw hs) (ha σ H ρ S F μ _ S1 _ h hs' e1 fun vs H' F' μ' r' g' q' => ?_)
    cases q' with
    | cons q1 q2 =>
      cases q2 with
      | cons q2 q3 =>
        cases q3
        exact ⟨_, _, rfl, q _ H' F' μ' r' g' (((hs'.gr g').set i q1).set j q2)⟩
  · exact False.elim q
/-! ### while -/
def loopS (k : Env → Sto → O) (o : O) : O := match o with
  | .nx ρ S => k ρ S
  | .ct ρ S => k ρ S
  | .bk ρ S => .nx ρ S
  | o => o
theorem loop_holds {K : PySem.W.Frag} {H F : Hp} {μ : List Addr} {D : Ends} {k : Env → Sto → O} {o : O} {N : L2.St → Hp → Prop} (h : (loopS k o).holds K H F μ D)
    (hN : ∀ ρ2 S2, (k ρ2 S2).holds K H F μ D → ∀ σ' H' F' μ', Rs K H' S2 F' μ' → Gr H F μ H' F' μ' → RpSt K F' μ' σ' ρ2 → N σ' H') : o.holds K H F μ { D with nx := N, ct := N, bk := D.nx } := by
  cases o with
  | nx ρ S => exact hN ρ S h
  | ct ρ S => exact hN ρ S h
  | bk ρ S => exact h
  | rt w S => exact h
  | ex _ _ _ => exact h
  | no => exact h
def whL (t : Tx) (g : Sx) : Nat → Sx
  | 0, _, _ => .no
  | n + 1, ρ, S => thenS (t ρ S) fun b S1 => if b then loopS (whL t g n) (g ρ S1) else .nx ρ S1
theorem ds_while {L : Nat} (hc : DT X c ft) (hb : DSs X body g) (hp : PassesOwn (model X.prog X.w) X.A X.env X.xe := by exact PassesOwn.never) : DS X (.While c body [] pos) (whL ft g L) := by
  intro σ H ρ S F μ D h hs' q
  refine wps (ps_while hp ptW pssW) ⟨fun m σ H => ∃ ρ S F μ, Rs X.K H S F μ ∧ RpSt X.K F μ σ ρ ∧ (whL ft g m ρ S).holds X.K H F μ D, ⟨L, ρ, S, F, μ, h, hs', q⟩, ?_⟩
  rintro m σ H ⟨ρ, S, F, μ, h, hs', q⟩
  cases m with
  | zero => exact False.elim q
  | succ n =>
    obtain ⟨k, S1, e1, q⟩ := thenS_holds (show (thenS (ft ρ S) fun b S1 => if b then loopS (whL ft g n) (g ρ S1) else .nx ρ S1).holds X.K H F μ D from q)
    refine hc σ H ρ S F μ k S1 _ h hs' e1 fun H1 F1 μ1 r1 g1 => ?_
    cases k with
    | false => exact iteF (q σ H1 F1 μ1 r1 g1 (hs'.gr g1))
    | true =>
      refine iteT ⟨fun σ H => ∃ ρ S F μ, Rs X.K H S F μ ∧ RpSt X.K F μ σ ρ ∧ (whL ft g n ρ S).holds X.K H F μ D, fun σ' H' z => ⟨n, Nat.lt_succ_self n, z⟩, ?_⟩
      refine hb σ H1 ρ S1 F1 μ1 _ r1 (hs'.gr g1) ?_
      exact loop_holds (O.holds_gr g1 q) fun ρ2 S2 q2 σ' H' F' μ' r' g' s' => ⟨ρ2, S2, F', μ', r', s', O.holds_gr g' q2⟩
/-! ### for -/
def forL (gd : Sto → Bool) (p : Pat) (g : Sx) : List Item → Sx
  | [], ρ, S => if gd S then .nx ρ S else .no
  | it :: r, ρ, S => if gd S then (match bindI p it ρ with
    | none => .no
    | some ρ1 => loopS (forL gd p g r) (g ρ1 S)) else .no
def sFor (src : Srcx) (p : Pat) (g : Sx) : Sx := fun ρ S => thenS (src ρ S) fun its S1 => forL its.g p g its.l ρ S1
theorem if_holds {K : PySem.W.Frag} {H F : Hp} {μ : List Addr} {D : Ends} {c : Bool} {o : O} (h : (if c = true then o else O.no).holds K H F μ D) : c = true ∧ o.holds K H F μ D := by
  cases c with
  | true => exact ⟨rfl, h⟩
  | false => exact False.elim h
theorem ds_for {iter : Expr} {src : Srcx} (hc : X.calm = true) (hi : DI X tg iter src) (hg : DItem X tg p) (hb : DSs X body g) (hp : PassesOwn (model X.prog X.w) X.A X.env X.xe := by exact PassesOwn.never)
    (hs : ∀ x, foldedSetIterable iter X.env x = pure x := by intro _; rfl) : DS X (.For tg iter body [] pos) (sFor src p g) := by
  intro σ H ρ S F μ D h hs' q
  obtain ⟨its, S1, e1, q⟩ := thenS_holds q
  refine wps (ps_for hp hc piW pgW pssW hs) (hi σ H ρ S F μ its S1 _ h hs' e1 fun J H1 F1 μ1 r1 g1 wk g0 => ?_)
  refine ⟨fun i m σ H => m = its.l.length - i ∧ i ≤ its.l.length ∧ ∃ ρ S F μ, Rs X.K H S F μ ∧ RpSt X.K F μ σ ρ ∧ Gr H1 F1 μ1 H F μ ∧ (forL its.g p g (its.l.drop i) ρ S).holds X.K H F μ D,
    ⟨its.l.length, by simp, Nat.zero_le _, ρ, S1, F1, μ1, r1, hs'.gr g1, Gr.refl, O.holds_gr g1 (by simpa using q)⟩, ?_⟩
  rintro i m σ2 H2 ⟨rfl, hi2, ρ2, S2, F2, μ2, r2, s2, sm, q2⟩
  by_cases hlt : i < its.l.length
  · rw [List.drop_eq_getElem_cons hlt] at q2
    obtain ⟨gd, q2⟩ := if_holds q2
    refine .inr ⟨wk.goes H2 S2 F2 μ2 i r2 sm gd hlt, _, fun σ' H' z => z, fun x H3 y => ?_⟩
    have hit : its.l[i]? = some its.l[i] := by simp [hlt]
    obtain ⟨r3, g3, vi⟩ := wk.yld H2 S2 F2 μ2 i its.l[i] x H3 r2 sm gd hit y
    cases eb : bindI p its.l[i] ρ2 with
    | none => rw [eb] at q2; exact False.elim q2
    | some ρ3 =>
      rw [eb] at q2
      refine hg σ2 H2 H3 ρ2 S2 F2 μ2 its.l[i] x ρ3 _ r2 r3 g3 s2 vi eb fun σ4 F4 r4 g4 s4 ag => ?_
      refine hb σ4 H3 ρ3 S2 F4 μ2 _ r4 s4 ?_
      refine loop_holds (O.holds_gr g4 q2) fun ρ5 S5 q5 σ' H' F' μ' r' g' s' => ?_
      refine ⟨_, by omega, rfl, hlt, ρ5, S5, F', μ', r', s', (sm.trans g4).trans g', O.holds_gr g' q5⟩
  · have ei : i = its.l.length := by omega
    subst ei
    rw [List.drop_length] at q2
    obtain ⟨gd, q2⟩ := if_holds q2
    exact .inl ⟨wk.stop H2 S2 F2 μ2 r2 sm gd, q2 σ2 H2 F2 μ2 r2 Gr.refl s2⟩
/-! ### comprehensions -/
def wipeE (ρ : Env) : List Nat → Env
  | [] => ρ
  | v :: vs => (wipeE ρ vs).set v none
theorem wipe_st {K : PySem.W.Frag} {F : Hp} {μ : List Addr} {σ : L2.St} {ρ : Env} (h : RpSt K F μ σ ρ) : ∀ vs : List Nat, RpSt K F μ (wipe σ vs) (wipeE ρ vs)
  | [] => h
  | v :: vs => (wipe_st h vs).forget v
theorem wipe_agree {σ σ' : L2.St} : ∀ {vs : List Nat}, Agree vs σ σ' → wipe σ' vs = wipe σ vs := by
  intro vs h
  have key : ∀ (τ : L2.St) (vs : List Nat) (j : Nat), (wipe τ vs)[j]? = if j ∈ vs then (if j < τ.length then some none else none) else τ[j]? := by
    intro τ vs
    induction vs with
    | nil => intro j; simp [wipe]
    | cons v vs ih =>
      intro j
      unfold wipe
      by_cases e : j = v
      · subst e
        rw [List.getElem?_set, if_pos rfl, if_pos (List.mem_cons_self), wipe_length]
      · rw [List.getElem?_set_ne (Ne.symm e), ih j]
        simp [e]
  refine List.ext_getElem? fun j => ?_
  rw [key, key, h.1]
  by_cases m : j ∈ vs
  · rw [if_pos m, if_pos m]
  · rw [if_neg m, if_neg m]; exact h.2 j m
theorem wipe_wipe (σ : L2.St) (vs : List Nat) : wipe (wipe σ vs) vs = wipe σ vs := by
  refine wipe_agree ⟨wipe_length σ vs, fun j hj => ?_⟩
  induction vs with
  | nil => rfl
  | cons v vs ih =>
    simp only [List.mem_cons, not_or] at hj
    unfold wipe
    rw [List.getElem?_set_ne (Ne.symm hj.1)]
    exact ih hj.2
def compL (gd : Sto → Bool) (p : Pat) (t : Tx) (f : Ex) : List Item → Env → Sto → R (List T)
  | [], _, S => if gd S then .ok [] S else .no
  | it :: r, ρ, S => if gd S then (match bindI p it ρ with
    | none => .no
    | some ρ1 => (t ρ1 S).bind fun k S1 => if k then (f ρ1 S1).bind fun w S2 => match w with
        | .t x => (compL gd p t f r ρ S2).bind fun xs S3 => .ok (x :: xs) S3
        | .r _ => .no
      else compL gd p t f r ρ S1) else .no
theorem if_ok {α : Type} {c : Bool} {r : R α} {a : α} {S : Sto} (h : (if c = true then r else R.no) = .ok a S) : c = true ∧ r = .ok a S := by
  cases c with
  | true => exact ⟨rfl, h⟩
  | false => cases h
def eComp (vs : List Nat) (src : Srcx) (p : Pat) (t : Tx) (f : Ex) : Ex := fun ρ S => (src ρ S).bind fun its S1 => if its.l.length ≤ cap then (compL its.g p t f its.l (wipeE ρ vs) S1).bind fun xs S2 => .ok (.t (.lst xs)) S2 else .no
def eCompB (vs : List Nat) (src : Srcx) (p : Pat) (t : Tx) (f : Ex) : Ex := fun ρ S => (src ρ S).bind fun its S1 => if its.l.length ≤ cap then (compL its.g p t f its.l (wipeE ρ vs) S1).bind fun xs S2 => .ok (.r S2.length) (S2 ++ [.lst xs]) else .no
def tTrue : Tx := fun _ S => .ok true S
def DTs (X : Cx) (ifs : List Expr) (f : Tx) : Prop := ∀ (σ : L2.St) (H : Hp) (ρ : Env) (S : Sto) (F : Hp) (μ : List Addr) (b : Bool) (S' : Sto) (Q : Bool → Hp → Prop), Rs X.K H S F μ → RpSt X.K F μ σ ρ → f ρ S = .ok b S' →
  (∀ H' F' μ', Rs X.K H' S' F' μ' → Gr H F μ H' F' μ' → Q b H') → ∃ t, PTs X ifs t ∧ t σ H Q
theorem dts_nil : DTs X [] tTrue := by
  intro σ H ρ S F μ b S' Q h hs e hQ
  cases e
  exact ⟨tYes, pts_nil, hQ H F μ h Gr.refl⟩
theorem dts_one (h : DT X c ft) : DTs X [c] ft := by
  intro σ H ρ S F μ b S' Q h0 hs e hQ
  exact ⟨_, pts_one ptW, h σ H ρ S F μ b S' Q h0 hs e hQ⟩
def WPTs (X : Cx) (ifs : List Expr) (σ : L2.St) (H : Hp) (Q : Bool → Hp → Prop) : Prop := ∃ t, PTs X ifs t ∧ t σ H Q
theorem ptsW {ifs : List Expr} : PTs X ifs (WPTs X ifs) := ⟨fun pins s σ H Q I ⟨t, h, q⟩ => h.run pins s σ H Q I q⟩
/-- the context of a comprehension's block -/
abbrev bk (X : Cx) (scope : Scope) (s : Shared) (H : Hp) (C : Addr) (cl : List (Str × Addr)) (fp : List Addr) : Cx := X.blk s H scope (compEnvC scope cl C X.env) fp
theorem comp_run {iter elt : Expr} {src : Srcx} {ifs : List Expr} {scope : Scope} {vs : List Nat} (hi : DI X tg iter src)
    (hg : ∀ s H C cl fp, DItem (bk X scope s H C cl fp) tg p) (ht : ∀ s H C cl fp, DTs (bk X scope s H C cl fp) ifs ft) (he : ∀ s H C cl fp, DE (bk X scope s H C cl fp) elt f) (hv : ∀ j ∈ p.slots, j ∈ vs)
    {σ : L2.St} {H : Hp} {ρ : Env} {S : Sto} {F : Hp} {μ : List Addr} {its : Walked} {S1 S2 : Sto} {xs : List T} {Q : VK} (h : Rs X.K H S F μ) (hs : RpSt X.K F μ σ ρ) (e1 : src ρ S = .ok its S1) (hl : its.l.length ≤ cap) (e2 : compL its.g p ft f its.l (wipeE ρ vs) S1 = .ok xs S2)
    (hQ : ∀ D acc H' F' μ', Rs X.K H' S2 F' μ' → Gr H F μ H' F' μ' → H' D = some (.lst acc) → H D = none → F' D = none → D ∉ μ' → Rps X.K F' xs acc → Q (.ref D) H') :
    tLc (WPI X tg iter) (fun x σ' H' Q' => ∀ s H C cl fp, WPG (bk X scope s H C cl fp) tg x σ' H' Q') (fun σ' H' Q' => ∀ s H C cl fp, WPTs (bk X scope s H C cl fp) ifs σ' H' Q') (fun σ' H' Q' => ∀ s H C cl fp, WPE (bk X scope s H C cl fp) elt σ' H' Q') vs σ H Q := by
  refine hi σ H ρ S F μ its S1 _ h hs e1 fun J H1 F1 μ1 r1 g1 wk g0 => ?_
  intro D hD
  have hD0 : H D = none := by
    cases q : H D with
    | none => rfl
    | some o =>
      by_cases hF : F D = none
      · by_cases hM : D ∈ μ
        · exfalso
          obtain ⟨n, hn⟩ := List.getElem?_of_mem hM
          exact r1.there n D (pre_get g1.pre hn) hD
        · have := (g1.keep D o q hF hM).1
          rw [hD] at this; cases this
      · exfalso
        cases z : F D with
        | none => exact hF z
        | some u =>
          have := r1.sub _ _ (g1.same _ _ z)
          rw [hD] at this; cases this
  have sw := wipe_st (hs.gr g1) vs
  refine ⟨fun i m H => m = its.l.length - i ∧ i ≤ its.l.length ∧ ∃ S F μ acc accT rest, Rs X.K H S F μ ∧ Gr H1 F1 μ1 H F μ ∧ H D = some (.lst acc) ∧ F D = none ∧ D ∉ μ ∧ Rps X.K F accT acc ∧ acc.length ≤ i ∧ compL its.g p ft f (its.l.drop i) (wipeE ρ vs) S = .ok rest S2 ∧ accT ++ rest = xs,
    ⟨its.l.length, by simp, Nat.zero_le _, S1, F1, μ1, [], [], xs, r1.heap _ (r1.notF hD) (r1.notM hD) (r1.sys.none hD), Gr.updH Gr.refl hD, upd_same, r1.notF hD, r1.notM hD, .nil, Nat.le_refl _, by simpa using e2, rfl⟩, ?_⟩
  rintro i m H2 ⟨rfl, hi2, S3, F2, μ2, acc, accT, rest, r2, g2, hD2, nF, nM, ra, la, q2, exs⟩
  by_cases hlt : i < its.l.length
  · rw [List.drop_eq_getElem_cons hlt] at q2
    obtain ⟨gd, q2⟩ := if_ok q2
    refine .inr ⟨wk.goes H2 S3 F2 μ2 i r2 g2 gd hlt, _, fun H' z => z, fun x H3 y => ?_⟩
    have hit : its.l[i]? = some its.l[i] := by simp [hlt]
    obtain ⟨r3, g3, vi⟩ := wk.yld H2 S3 F2 μ2 i its.l[i] x H3 r2 g2 gd hit y
    cases eb : bindI p its.l[i] (wipeE ρ vs) with
    | none => rw [eb] at q2; cases q2
    | some ρ3 =>
      rw [eb] at q2
      obtain ⟨k, S4, et, q3⟩ := R.bind_eq q2
      clear q2
      intro s0 H0 C0 cl0 fp0
      refine hg s0 H0 C0 cl0 fp0 (wipe σ vs) H2 H3 (wipeE ρ vs) S3 F2 μ2 its.l[i] x ρ3 _ r2 r3 g3 (sw.gr g2) vi eb fun σ4 F4 r4 g4 s4 ag => ?_
      refine ⟨by
        have : Agree vs (wipe σ vs) σ4 := ⟨ag.1, fun j hj => ag.2 j fun z => hj (hv j z)⟩
        rw [wipe_agree this, wipe_wipe], ?_⟩
      intro s1 H0' C1 cl1 fp1
      refine ht s1 H0' C1 cl1 fp1 σ4 H3 ρ3 S3 F4 μ2 k S4 _ r4 s4 et fun H5 F5 μ5 r5 g5 => ?_
      have gg := (g2.trans g4).trans g5
      obtain ⟨d3, f3, m3⟩ := g4.keep D _ hD2 nF nM
      obtain ⟨d5, f5, m5⟩ := g5.keep D _ d3 f3 m3
      have ra5 := (ra.mono g4.same).mono g5.same
      cases k with
      | false =>
        rw [if_neg Bool.false_ne_true]
        simp only [Bool.false_eq_true, if_false] at q3
        exact ⟨_, by omega, rfl, hlt, S4, F5, μ5, acc, accT, rest, r5, gg, d5, f5, m5, ra5, by omega, q3, exs⟩
      | true =>
        rw [if_pos rfl]
        simp only [if_true] at q3
        obtain ⟨w, S6, ew, q4⟩ := R.bind_eq q3
        clear q3
        intro s2 H0'' C2 cl2 fp2
        refine he s2 H0'' C2 cl2 fp2 σ4 H5 ρ3 S4 F5 μ5 w S6 _ r5 (s4.gr g5) ew fun y6 H6 F6 μ6 r6 g6 q6 => ?_
        cases w with
        | r _ => cases q4
        | t z =>
          obtain ⟨xs', S7, ec, e7⟩ := R.bind_eq q4
          cases e7
          obtain ⟨d6, f6, m6⟩ := g6.keep D _ d5 f5 m5
          refine ⟨acc, d6, by have := cap_eq; omega, _, by omega, rfl, hlt, S6, F6, μ6, acc ++ [y6], accT ++ [z], xs', r6.heap _ f6 m6 (r6.sys.lst d6), Gr.updH (gg.trans g6) hD, upd_same, f6, m6, (ra5.mono g6.same).append (.cons q6 .nil), by rw [List.length_append]; show acc.length + 1 ≤ i + 1; omega, ec, by rw [List.append_assoc]; exact exs⟩
  · have ei : i = its.l.length := by omega
    subst ei
    rw [List.drop_length] at q2
    obtain ⟨gd, q2⟩ := if_ok q2
    cases q2
    rw [List.append_nil] at exs
    subst exs
    exact .inl ⟨wk.stop H2 _ F2 μ2 r2 g2 gd, hQ D acc H2 F2 μ2 r2 (g1.trans g2) hD2 hD0 nF nM ra⟩
theorem compT_run {K : PySem.W.Frag} {H H' F F' : Hp} {μ μ' : List Addr} {S2 : Sto} {D : Addr} {acc : List V} {xs : List T} {Q : VK} (hQ : ∀ v H' F' μ', Rs K H' S2 F' μ' → Gr H F μ H' F' μ' → RpW K F' μ' (.t (.lst xs)) v → Q v H')
    (r : Rs K H' S2 F' μ') (g : Gr H F μ H' F' μ') (d : H' D = some (.lst acc)) (d0 : H D = none) (f0 : F' D = none) (m0 : D ∉ μ') (ra : Rps K F' xs acc) : Q (.ref D) H' := by
  have sm : Same F' (upd F' D (.lst acc)) := fun b u e => by rw [upd_ne (ne_of_none e f0)]; exact e
  exact hQ _ H' (upd F' D (.lst acc)) μ' (r.freeze d f0 m0) (g.frz d0 f0) (show Rp _ _ _ _ from .lst upd_same (ra.mono sm))
theorem compB_run {K : PySem.W.Frag} {H H' F F' : Hp} {μ μ' : List Addr} {S2 : Sto} {D : Addr} {acc : List V} {xs : List T} {Q : VK} (hQ : ∀ v H' F' μ', Rs K H' (S2 ++ [.lst xs]) F' μ' → Gr H F μ H' F' μ' → RpW K F' μ' (.r S2.length) v → Q v H')
    (r : Rs K H' S2 F' μ') (g : Gr H F μ H' F' μ') (d : H' D = some (.lst acc)) (d0 : H D = none) (f0 : F' D = none) (m0 : D ∉ μ') (ra : Rps K F' xs acc) : Q (.ref D) H' := by
  refine hQ _ H' F' (μ' ++ [D]) (r.box (by rw [d]; exact fun z => nomatch z) m0 ⟨f0, acc, d, ra⟩) ⟨g.same, ?_, fun b u h1 h2 h3 => ?_, g.lk⟩ ⟨D, by rw [← r.len]; simp, rfl⟩
  · obtain ⟨ν, rfl⟩ := g.pre
    exact ⟨ν ++ [D], by rw [List.append_assoc]⟩
  · obtain ⟨q1, q2, q3⟩ := g.keep b u h1 h2 h3
    have ne : b ≠ D := ne_of_none h1 d0
    exact ⟨q1, q2, by simp [q3, ne]⟩
section
variable {iter elt : Expr} {src : Srcx} {ifs : List Expr} {scope : Scope} {own : List (Str × Nat)}
theorem de_comp (hc : X.calm = true) (hN : X.N.Nodup) (hi : DI X tg iter src) (ok : blkC X.N X.env.scope scope own = true)
    (hg : ∀ s H C cl fp, DItem (bk X scope s H C cl fp) tg p) (ht : ∀ s H C cl fp, DTs (bk X scope s H C cl fp) ifs ft) (he : ∀ s H C cl fp, DE (bk X scope s H C cl fp) elt f) (hv : ∀ j ∈ p.slots, j ∈ own.map (·.2) := by decide) (hs : ∀ x, foldedSetIterable iter X.env x = pure x := by intro _; rfl) :
    DE X (.ListComp elt [⟨tg, iter, ifs, 0⟩] scope pos) (eComp (own.map (·.2)) src p ft f) := by
  intro σ H ρ S F μ w S' Q h hs' e hQ
  obtain ⟨its, S1, e1, e⟩ := R.bind_eq e
  split at e
  · rename_i hl
    obtain ⟨xs, S2, e2, e⟩ := R.bind_eq e
    cases e
    refine wpe (pe_lc hc hN piW (blkOk_by ok) (fun s H C cl fp => ⟨fun pins s' σ H v u Q I r q => q _ _ _ _ _ pins s' u I r⟩) (fun s H C cl fp => ⟨fun pins s' σ H Q I q => ptsW.run pins s' σ H Q I (q _ _ _ _ _)⟩) (fun s H C cl fp => ⟨fun pins s' σ H Q I q => q _ _ _ _ _ pins s' I⟩) hs)
      (comp_run hi hg ht he hv h hs' e1 hl e2 fun D acc H' F' μ' r g d d0 f0 m0 ra => compT_run hQ r g d d0 f0 m0 ra)
  · cases e
theorem de_compB (hc : X.calm = true) (hN : X.N.Nodup) (hi : DI X tg iter src) (ok : blkC X.N X.env.scope scope own = true)
    (hg : ∀ s H C cl fp, DItem (bk X scope s H C cl fp) tg p) (ht : ∀ s H C cl fp, DTs (bk X scope s H C cl fp) ifs ft) (he : ∀ s H C cl fp, DE (bk X scope s H C cl fp) elt f) (hv : ∀ j ∈ p.slots, j ∈ own.map (·.2) := by decide) (hs : ∀ x, foldedSetIterable iter X.env x = pure x := by intro _; rfl) :
    DE X (.ListComp elt [⟨tg, iter, ifs, 0⟩] scope pos) (eCompB (own.map (·.2)) src p ft f) := by
  intro σ H ρ S F μ w S' Q h hs' e hQ
  obtain ⟨its, S1, e1, e⟩ := R.bind_eq e
  split at e
  · rename_i hl
    obtain ⟨xs, S2, e2, e⟩ := R.bind_eq e
    cases e
    refine wpe (pe_lc hc hN piW (blkOk_by ok) (fun s H C cl fp => ⟨fun pins s' σ H v u Q I r q => q _ _ _ _ _ pins s' u I r⟩) (fun s H C cl fp => ⟨fun pins s' σ H Q I q => ptsW.run pins s' σ H Q I (q _ _ _ _ _)⟩) (fun s H C cl fp => ⟨fun pins s' σ H Q I q => q _ _ _ _ _ pins s' I⟩) hs)
      (comp_run hi hg ht he hv h hs' e1 hl e2 fun D acc H' F' μ' r g d d0 f0 m0 ra => compB_run hQ r g d d0 f0 m0 ra)
  · cases e
/-- y = [..], y a local, on one line -/
theorem ds_setComp {i : Nat} {y : Str} {py spos : Pos} (hc : X.calm = true) (hN : X.N.Nodup) (hi : DI X tg iter src) (ok : blkC X.N X.env.scope scope own = true)
    (hg : ∀ s H C cl fp, DItem (bk X scope s H C cl fp) tg p) (ht : ∀ s H C cl fp, DTs (bk X scope s H C cl fp) ifs ft) (he : ∀ s H C cl fp, DE (bk X scope s H C cl fp) elt f)
    (hk : X.env.scope.kind = .function) (ha : (scope.names.any fun (n, k) => n == y && (k == .local || k == .cell)) = false) (hy : X.N[i]? = some y := by rfl) (hyl : X.env.scope.names.lookup y = some .local := by rfl) (hl : (py.line == pos.line) = true := by rfl)
    (hv : ∀ j ∈ p.slots, j ∈ own.map (·.2) := by decide) (hs : ∀ x, foldedSetIterable iter X.env x = pure x := by intro _; rfl) :
    DS X (.Assign [.Name y py] (.ListComp elt [⟨tg, iter, ifs, 0⟩] scope pos) spos) (sSet i (eComp (own.map (·.2)) src p ft f)) := by
  intro σ H ρ S F μ D h hs' q
  obtain ⟨w, S', e, q⟩ := thenS_holds q
  obtain ⟨its, S1, e1, e⟩ := R.bind_eq e
  split at e
  · rename_i hl'
    obtain ⟨xs, S2, e2, e⟩ := R.bind_eq e
    cases e
    refine wps (ps_setLc hc hN hy hyl (sw_true hk hyl hl ha) piW (blkOk_by ok) (fun s H C cl fp => ⟨fun pins s' σ H v u Q I r q => q _ _ _ _ _ pins s' u I r⟩) (fun s H C cl fp => ⟨fun pins s' σ H Q I q => ptsW.run pins s' σ H Q I (q _ _ _ _ _)⟩) (fun s H C cl fp => ⟨fun pins s' σ H Q I q => q _ _ _ _ _ pins s' I⟩) hs)
      (comp_run hi hg ht he hv h hs' e1 hl' e2 fun D' acc H' F' μ' r g d d0 f0 m0 ra => compT_run (Q := fun x H1 => gName i x σ H1 D.nx) (fun v H'' F'' μ'' r'' g'' rr => q _ H'' F'' μ'' r'' g'' ((hs'.gr g'').set i rr)) r g d d0 f0 m0 ra)
  · cases e
theorem ds_setCompB {i : Nat} {y : Str} {py spos : Pos} (hc : X.calm = true) (hN : X.N.Nodup) (hi : DI X tg iter src) (ok : blkC X.N X.env.scope scope own = true)
    (hg : ∀ s H C cl fp, DItem (bk X scope s H C cl fp) tg p) (ht : ∀ s H C cl fp, DTs (bk X scope s H C cl fp) ifs ft) (he : ∀ s H C cl fp, DE (bk X scope s H C cl fp) elt f)
    (hk : X.env.scope.kind = .function) (ha : (scope.names.any fun (n, k) => n == y && (k == .local || k == .cell)) = false) (hy : X.N[i]? = some y := by rfl) (hyl : X.env.scope.names.lookup y = some .local := by rfl) (hl : (py.line == pos.line) = true := by rfl)
    (hv : ∀ j ∈ p.slots, j ∈ own.map (·.2) := by decide) (hs : ∀ x, foldedSetIterable iter X.env x = pure x := by intro _; rfl) :
    DS X (.Assign [.Name y py] (.ListComp elt [⟨tg, iter, ifs, 0⟩] scope pos) spos) (sSet i (eCompB (own.map (·.2)) src p ft f)) := by
  intro σ H ρ S F μ D h hs' q
  obtain ⟨w, S', e, q⟩ := thenS_holds q
  obtain ⟨its, S1, e1, e⟩ := R.bind_eq e
  split at e
  · rename_i hl'
    obtain ⟨xs, S2, e2, e⟩ := R.bind_eq e
    cases e
    refine wps (ps_setLc hc hN hy hyl (sw_true hk hyl hl ha) piW (blkOk_by ok) (fun s H C cl fp => ⟨fun pins s' σ H v u Q I r q => q _ _ _ _ _ pins s' u I r⟩) (fun s H C cl fp => ⟨fun pins s' σ H Q I q => ptsW.run pins s' σ H Q I (q _ _ _ _ _)⟩) (fun s H C cl fp => ⟨fun pins s' σ H Q I q => q _ _ _ _ _ pins s' I⟩) hs)
      (comp_run hi hg ht he hv h hs' e1 hl' e2 fun D' acc H' F' μ' r g d d0 f0 m0 ra => compB_run (Q := fun x H1 => gName i x σ H1 D.nx) (fun v H'' F'' μ'' r'' g'' rr => q _ H'' F'' μ'' r'' g'' ((hs'.gr g'').set i rr)) r g d d0 f0 m0 ra)
  · cases e
end
end
end Dl
/-! Dl8: defs, their calls, the law's end. -/
namespace Dl
open PySem PySem.Spec PyProof.Rows L2
def refsOf : List W → List Nat
  | [] => []
  | .r n :: r => n :: refsOf r
  | .t _ :: r => refsOf r
def okc (c c' : Cell) : Bool := match c' with
  | .vec ws => (match c with
    | .vec ws0 => decide (refsOf ws = refsOf ws0)
    | _ => false)
  | _ => true
/-- the cells that stood before bear no new references -/
def truncOk : Sto → Sto → Bool
  | [], _ => true
  | c :: S, c' :: S' => okc c c' && truncOk S S'
  | _ :: _, [] => false
theorem truncOk_get : ∀ {S S' : Sto} {n : Nat} {c c' : Cell}, truncOk S S' = true → S[n]? = some c → S'[n]? = some c' → okc c c' = true
  | [], _, n, c, c', _, h, _ => by simp at h
  | _ :: _, [], n, c, c', h, _, _ => by simp [truncOk] at h
  | a :: S, b :: S', 0, c, c', h, h1, h2 => by
    simp at h1 h2
    subst h1; subst h2
    simp only [truncOk, Bool.and_eq_true] at h
    exact h.1
  | a :: S, b :: S', n + 1, c, c', h, h1, h2 => by
    simp at h1 h2
    simp only [truncOk, Bool.and_eq_true] at h
    exact truncOk_get h.2 h1 h2
theorem truncOk_len : ∀ {S S' : Sto}, truncOk S S' = true → S.length ≤ S'.length
  | [], _, _ => Nat.zero_le _
  | _ :: _, [], h => by simp [truncOk] at h
  | a :: S, b :: S', h => by
    simp only [truncOk, Bool.and_eq_true] at h
    have := truncOk_len h.2
    simp only [List.length_cons]; omega
theorem refs_lt {K : PySem.W.Frag} {F : Hp} {μ : List Addr} : ∀ {ws : List W} {vs : List V}, RpWs K F μ ws vs → ∀ n ∈ refsOf ws, n < μ.length
  | _, _, .nil, n, h => by cases h
  | _, _, .cons (x := x) r t, n, h => by
    cases x with
    | t _ => exact refs_lt t n h
    | r m =>
      obtain ⟨p, e, _⟩ := r
      rcases List.mem_cons.mp h with rfl | h
      · exact (List.getElem?_eq_some_iff.mp e).1
      · exact refs_lt t n h
theorem RpWs.cutμ {K : PySem.W.Frag} {F : Hp} {μ ν : List Addr} : ∀ {ws : List W} {vs : List V}, RpWs K F (μ ++ ν) ws vs → (∀ n ∈ refsOf ws, n < μ.length) → RpWs K F μ ws vs
  | _, _, .nil, _ => .nil
  | _, _, .cons (x := x) r t, h => by
    cases x with
    | t _ => exact .cons r (RpWs.cutμ t h)
    | r m =>
      obtain ⟨p, e, z⟩ := r
      refine .cons ⟨p, ?_, z⟩ (RpWs.cutμ t fun n hn => h n (List.mem_cons_of_mem _ hn))
      rw [List.getElem?_append_left (h m (List.mem_cons_self))] at e
      exact e
theorem Rs.trunc {K : PySem.W.Frag} {H H' F F' : Hp} {μ ν : List Addr} {S S' : Sto} (h : Rs K H S F μ) (h' : Rs K H' S' F' (μ ++ ν)) (ok : truncOk S S' = true) : Rs K H' (S'.take S.length) F' μ := by
  have hl := truncOk_len ok
  refine ⟨h'.sub, by rw [List.length_take, Nat.min_eq_left hl]; exact h.len, fun n c p e1 e2 => ?_, fun n p e => ?_, fun m n p e1 e2 => ?_, h'.sys⟩
  · have hn : n < S.length := by
      have := (List.getElem?_eq_some_iff.mp e1).1
      rw [List.length_take] at this; omega
    rw [List.getElem?_take_of_lt hn] at e1
    have e3 : (μ ++ ν)[n]? = some p := by rw [List.getElem?_append_left (by rw [h.len]; exact hn)]; exact e2
    have q := h'.cell n c p e1 e3
    cases c with
    | dead => trivial
    | lst xs => exact q
    | dic kvs => exact q
    | frz kvs => exact q
    | vec ws =>
      obtain ⟨a, vs, b, r⟩ := q
      refine ⟨a, vs, b, r.cutμ ?_⟩
      have e0 : S[n]? = some S[n] := by simp [hn]
      have o := truncOk_get ok e0 e1
      cases e4 : S[n] with
      | vec ws0 =>
        rw [e4] at o e0
        have o : refsOf ws = refsOf ws0 := of_decide_eq_true o
        rw [o]
        have q0 := h.cell n _ p e0 e2
        obtain ⟨_, vs0, _, r0⟩ := q0
        exact refs_lt r0
      | dead => rw [e4] at o; cases o
      | lst _ => rw [e4] at o; cases o
      | dic _ => rw [e4] at o; cases o
      | frz _ => rw [e4] at o; cases o
  · exact h'.there n p (pre_get ⟨ν, rfl⟩ e)
  · exact h'.nd m n p (pre_get ⟨ν, rfl⟩ e1) (pre_get ⟨ν, rfl⟩ e2)
/-- what a def hands back: a new list is frozen -/
def Cell.tree : Cell → Option T
  | .lst xs => some (.lst xs)
  | .dic kvs => some (.dct kvs)
  | _ => none
def finW (S S' : Sto) : W → Option W
  | .t x => some (.t x)
  | .r n => if n < S.length then some (.r n) else (S'[n]?.bind Cell.tree).map W.t
def callF (g : Sx) (ρ : Env) : Sto → R W := fun S => match g ρ S with
  | .rt w S' => if truncOk S S' then R.of (finW S S' w) (S'.take S.length) else .no
  | .nx _ S' => if truncOk S S' then .ok (.t .non) (S'.take S.length) else .no
  | .ex c v S' => if truncOk S S' then .ex c v (S'.take S.length) else .no
  | _ => .no
/-- .. all cells kept -/
def callK (g : Sx) (ρ : Env) : Sto → R W := fun S => match g ρ S with
  | .rt w S' => .ok w S'
  | .nx _ S' => .ok (.t .non) S'
  | .ex c v S' => .ex c v S'
  | _ => .no
abbrev Den := List W → Sto → R W
def envOf (N : Nat) (ws : List W) : Env := ws.map some ++ List.replicate (N - ws.length) none
def fnF (n N : Nat) (g : Sx) : Den := fun ws S => if ws.length = n then callF g (envOf N ws) S else .no
def fnK (n N : Nat) (g : Sx) : Den := fun ws S => if ws.length = n then callK g (envOf N ws) S else .no
/-- the promise: as the denotation says -/
def spD (K : PySem.W.Frag) (n : Nat) (den : Den) : Sp := fun vs H Q _ => ∃ (ws : List W) (S : Sto) (F : Hp) (μ : List Addr) (w : W) (S' : Sto), Rs K H S F μ ∧ RpWs K F μ ws vs ∧ ws.length = n ∧ den ws S = .ok w S' ∧
  ∀ v H' F' μ', Rs K H' S' F' μ' → Gr H F μ H' F' μ' → RpW K F' μ' w v → Q v H'
theorem start_st {K : PySem.W.Frag} {F : Hp} {μ : List Addr} {N : List Str} {ws : List W} {vs : List V} (r : RpWs K F μ ws vs) : RpSt K F μ (L2.start N vs) (envOf N.length ws) := by
  unfold L2.start envOf
  have hl := r.length
  refine ⟨by simp [hl], fun i w e => ?_⟩
  by_cases hi : i < ws.length
  · rw [List.getElem?_append_left (by simpa using hi), List.getElem?_map] at e
    obtain ⟨w', hw, e2⟩ := map1 e
    cases e2
    obtain ⟨v, h1, h2⟩ := r.get hw
    exact ⟨v, by rw [List.getElem?_append_left (by simp; omega), List.getElem?_map, h1]; rfl, h2⟩
  · rw [List.getElem?_append_right (by simpa using hi), List.getElem?_replicate] at e
    split at e <;> cases e
section
variable {P : Program} {w : World} {K : PySem.W.Frag} {mg : Str → Option Value} {base : Heap} {x qual : Str} {st : Stmt} {f : Addr} {fd : FuncData} {N ps : List Str} {k : Nat} {g : Sx}
/-- the body's end, as the def's end -/
theorem end_holds {H F : Hp} {μ : List Addr} {S : Sto} {ρ : Env} {Q : VK} {r : W} {S' : Sto} (h : Rs K H S F μ) (e : callF g ρ S = .ok r S')
    (hQ : ∀ v H' F' μ', Rs K H' S' F' μ' → Gr H F μ H' F' μ' → RpW K F' μ' r v → Q v H') : (g ρ S).holds K H F μ { nx := fun _ H' => Q .non H', rt := Q } := by
  unfold callF at e
  cases q : g ρ S with
  | nx ρ1 S1 =>
    rw [q] at e
    obtain ⟨ok, e⟩ := if_ok e
    cases e
    intro σ' H' F' μ' r' g' s'
    obtain ⟨ν, rfl⟩ := g'.pre
    exact hQ .non H' F' μ (h.trunc r' ok) ⟨g'.same, ⟨[], by simp⟩, fun b o a1 a2 a3 => let ⟨z1, z2, _⟩ := g'.keep b o a1 a2 a3; ⟨z1, z2, a3⟩, g'.lk⟩ (show Rp _ _ _ _ from .non)
  | rt w1 S1 =>
    rw [q] at e
    obtain ⟨ok, e⟩ := if_ok e
    obtain ⟨e2, rfl⟩ := R.of_eq e
    intro v H' F' μ' r' g' q'
    obtain ⟨ν, rfl⟩ := g'.pre
    have gg : Gr H F μ H' F' μ := ⟨g'.same, ⟨[], by simp⟩, fun b o a1 a2 a3 => let ⟨z1, z2, _⟩ := g'.keep b o a1 a2 a3; ⟨z1, z2, a3⟩, g'.lk⟩
    have rt := h.trunc r' ok
    cases w1 with
    | t y =>
      cases e2
      exact hQ v H' F' μ rt gg q'
    | r n =>
      have e2 : (if n < S.length then some (W.r n) else (S1[n]?.bind Cell.tree).map W.t) = some r := e2
      obtain ⟨p, hp, rfl⟩ := q'
      split at e2
      · rename_i hn
        cases e2
        rw [List.getElem?_append_left (by rw [h.len]; exact hn)] at hp
        exact hQ _ H' F' μ rt gg ⟨p, hp, rfl⟩
      · rename_i hn
        cases hc : S1[n]? with
        | none => rw [hc] at e2; cases e2
        | some c =>
          rw [hc] at e2
          have nM : p ∉ μ := fun z => by
            obtain ⟨m, hm⟩ := List.getElem?_of_mem z
            have := r'.nd m n p (pre_get ⟨ν, rfl⟩ hm) hp
            have hm' := (List.getElem?_eq_some_iff.mp hm).1
            rw [h.len] at hm'; omega
          have q0 := r'.cell n c p hc hp
          obtain ⟨y, hy, rfl⟩ := map1 (show (c.tree).map W.t = some r from e2)
          have nH : ∀ o, H p ≠ some o ∨ F p ≠ none := fun o => by
            by_cases z : H p = some o
            · right
              intro zF
              have := (g'.keep p o z zF nM).2.2
              exact this (List.mem_of_getElem? hp)
            · exact .inl z
          cases c with
          | dead => cases hy
          | vec _ => cases hy
          | frz _ => cases hy
          | lst xs =>
            cases hy
            obtain ⟨nF, vs, hv, rr⟩ := q0
            have sm : Same F' (upd F' p (.lst vs)) := fun b u e => by rw [upd_ne (ne_of_none e nF)]; exact e
            refine hQ _ H' (upd F' p (.lst vs)) μ (rt.freeze hv nF nM) ⟨gg.same.trans sm, gg.pre, fun b o a1 a2 a3 => ?_, gg.lk⟩ (show Rp _ _ _ _ from .lst upd_same (rr.mono sm))
            obtain ⟨z1, z2, z3⟩ := gg.keep b o a1 a2 a3
            have ne : b ≠ p := fun z => by
              subst z
              rcases nH o with y | y
              · exact y a1
              · exact y a2
            exact ⟨z1, by rw [upd_ne ne]; exact z2, z3⟩
          | dic kvs =>
            cases hy
            obtain ⟨nF, vs, hv, rr⟩ := q0
            have sm : Same F' (upd F' p (.dK vs)) := fun b u e => by rw [upd_ne (ne_of_none e nF)]; exact e
            refine hQ _ H' (upd F' p (.dK vs)) μ (rt.freeze hv nF nM) ⟨gg.same.trans sm, gg.pre, fun b o a1 a2 a3 => ?_, gg.lk⟩ (show Rp _ _ _ _ from .dct upd_same (rr.mono sm))
            obtain ⟨z1, z2, z3⟩ := gg.keep b o a1 a2 a3
            have ne : b ≠ p := fun z => by
              subst z
              rcases nH o with y | y
              · exact y a1
              · exact y a2
            exact ⟨z1, by rw [upd_ne ne]; exact z2, z3⟩
  | bk _ _ => rw [q] at e; cases e
  | ct _ _ => rw [q] at e; cases e
  | ex _ _ _ =>
    rw [q] at e
    obtain ⟨_, e⟩ := if_ok e
    cases e
  | no => rw [q] at e; cases e
theorem endK_holds {H F : Hp} {μ : List Addr} {S : Sto} {ρ : Env} {Q : VK} {r : W} {S' : Sto} (e : callK g ρ S = .ok r S')
    (hQ : ∀ v H' F' μ', Rs K H' S' F' μ' → Gr H F μ H' F' μ' → RpW K F' μ' r v → Q v H') : (g ρ S).holds K H F μ { nx := fun _ H' => Q .non H', rt := Q } := by
  unfold callK at e
  cases q : g ρ S with
  | nx ρ1 S1 => rw [q] at e; cases e; exact fun σ' H' F' μ' r' g' s' => hQ .non H' F' μ' r' g' (show Rp _ _ _ _ from .non)
  | rt w1 S1 => rw [q] at e; cases e; exact hQ
  | bk _ _ => rw [q] at e; cases e
  | ct _ _ => rw [q] at e; cases e
  | ex _ _ _ => rw [q] at e; cases e
  | no => rw [q] at e; cases e
theorem spD_len {n : Nat} {den : Den} (hn : n = ps.length) : ∀ vs H Q E, spD K n den vs H Q E → vs.length = ps.length := by
  rintro vs H Q E ⟨ws, S, F, μ, r, S', _, rw', hl, _⟩
  rw [← rw'.length, hl, hn]
/-- a def does what sp says, wherever there is room (as L2's FnOk, but nobody is being shown) -/
structure FnG (P : Program) (w : World) (K : PySem.W.Frag) (mg : Str → Option Value) (base : Heap) (k : Nat) (f : Addr) (fd : FuncData) (ps : List Str) (sp : Sp) : Prop where
  many : ∀ vs H Q E, sp vs H Q E → vs.length = ps.length
  runs : ∀ (A : Around) (up : List PySem.Env) (z : Shared) (H : Hp) (given : Args) (us : List Value) (vs : List V) (Q : VK) (E : XK), RoomG k A → Env0 P w K mg base A up z H → BindsTo z fd given (ps.zip us) → Vals vs us →
    sp vs H Q E → codeAny (model P w) A (.call (.ref f) given) (CR CX0 up P w H z Q E) z
/-- a def of the text: what its body must do -/
theorem fnG_of (F : Fun K x qual st f fd) {sp : Sp} (T : FnScope N ps (defScope st)) (many : ∀ vs H Q E, sp vs H Q E → vs.length = ps.length)
    (inside : ∀ (cdv : Value) (A : Around) (up : List PySem.Env) (z : Shared) (H : Hp) (vs : List V) (Q : VK) (E : XK), RoomG k (A.deeper (envOfC qual (defScope st) z.heap.objs.size f cdv)) → sp vs H Q E →
      ∃ t, PSs (cxOf CX0 P w K mg base N qual (defScope st) f cdv A up z H E).nox (defBody st) t ∧ t { nx := fun _ H' => Q .non H', rt := Q } (L2.start N vs) H) : FnG P w K mg base (k + 1) f fd ps sp := by
  obtain ⟨oc, od, kV, doc, pm, an, cdv, ct, osl, rfl, lk, hcd⟩ := F.ex
  refine ⟨many, fun A up z H given us vs Q E room e0 bound rel wish => ?_⟩
  have old : ∀ b o, base.get? b = some o → z.heap.get? b = some o := fun b o e => (e0.bs b o e).1
  have kin : K.In z.heap := e0.mod.kin.keeps old
  have kinds : ∀ y ∈ ps.zip us, (defScope st).names.lookup y.1 = some .local ∨ ((defScope st).names.lookup y.1 = some .cell ∧ ((cellsFrom (z.heap.objs.size + 1) (defScope st).names []).lookup y.1).isSome = true) := by
    rintro ⟨n, v⟩ hy
    exact (T.par n (List.of_mem_zip hy).1).elim .inl fun q => .inr ⟨q, PySem.W.cellsFrom_some _ _ _ (.inl q)⟩
  refine codeAny_call_function room.toRoom.depth (kin _ _ lk) rfl T.co T.gen rfl (PySem.W.codeRec_of kin hcd) (bound _ _ _ _ (wpAny_newFunctionEnv_cells T.kind kinds fun env he z1 inn => ?_))
  subst he
  refine ⟨(e0.mod.nolimit.keeps old).keeps inn.toInCall.keep, codeAny_func ?_⟩
  obtain ⟨t, ht, hq⟩ := inside cdv A up z H vs Q E (room.call _) wish
  have J0 := inv_start (CX := CX0) (E := E) T room.toRoom.hd e0 (many _ _ _ _ wish) rel inn
  refine wpAny_mono (ht.nox.run [] z1 (L2.start N vs) H _ J0 hq) (fun fl z' got => ?_) fun _ _ got => got
  cases fl with
  | ret u => obtain ⟨v, σ', H', J, rv, q⟩ := got; exact ⟨v, H', J.os, J.bare, J.base, J.hok, rv, q⟩
  | next => obtain ⟨σ', H', J, q⟩ := got; exact ⟨V.non, H', J.os, J.bare, J.base, J.hok, rfl, q⟩
  | brk => obtain ⟨_, _, _, q⟩ := got; exact q.elim
  | cont => obtain ⟨_, _, _, q⟩ := got; exact q.elim
/-- a def, by its body's derivation -/
theorem fn_ok (F : Fun K x qual st f fd) (S : FnScope N ps (defScope st))
    (hb : ∀ (cdv : Value) (A : Around) (outer : List PySem.Env) (s : Shared) (H : Hp) (E : XK), RoomG k (A.deeper (envOfC qual (defScope st) s.heap.objs.size f cdv)) → DSs (cxOf CX0 P w K mg base N qual (defScope st) f cdv A outer s H E).nox (defBody st) g) :
    FnG P w K mg base (k + 1) f fd ps (spD K ps.length (fnF ps.length N.length g)) := by
  refine fnG_of F S (spD_len rfl) fun cdv A outer s H vs Q E hr h => ?_
  obtain ⟨ws, S0, F0, μ, r, S', h0, rw', hl, e, hQ⟩ := h
  refine ⟨_, pssW, hb cdv A outer s H E hr (L2.start N vs) H (envOf N.length ws) S0 F0 μ _ h0 (start_st rw') ?_⟩
  unfold fnF at e
  rw [if_pos hl] at e
  exact end_holds h0 e hQ
theorem fn_okK (F : Fun K x qual st f fd) (S : FnScope N ps (defScope st))
    (hb : ∀ (cdv : Value) (A : Around) (outer : List PySem.Env) (s : Shared) (H : Hp) (E : XK), RoomG k (A.deeper (envOfC qual (defScope st) s.heap.objs.size f cdv)) → DSs (cxOf CX0 P w K mg base N qual (defScope st) f cdv A outer s H E).nox (defBody st) g) :
    FnG P w K mg base (k + 1) f fd ps (spD K ps.length (fnK ps.length N.length g)) := by
  refine fnG_of F S (spD_len rfl) fun cdv A outer s H vs Q E hr h => ?_
  obtain ⟨ws, S0, F0, μ, r, S', h0, rw', hl, e, hQ⟩ := h
  refine ⟨_, pssW, hb cdv A outer s H E hr (L2.start N vs) H (envOf N.length ws) S0 F0 μ _ h0 (start_st rw') ?_⟩
  unfold fnK at e
  rw [if_pos hl] at e
  exact endK_holds e hQ
end
section
variable {X : Cx} {CX : CXT} {k n : Nat} {f : Addr} {fd : FuncData} {ps : List Str} {den : Den} {x : Str} {p pos : Pos} {e : Expr} {es : List Expr} {fs : Exs}
/-- a call of such a def -/
theorem pe_callG {sp : Sp} {t : TA} (F : FnG X.prog X.w X.K X.mg X.base k f fd ps sp) (hr : RoomG k X.A) (hg : Gl X x) (hm : X.mg x = some (.ref f)) (hk : PySem.W.keepIn X.K (.ref f) = true) (hb : Binds X.K fd ps [])
    (ha : PA X (e :: es) t) (hdb : (x == ("__debug__" : Str)) = false) (he : starEach (e :: es) X.env = (false, eval e X.env) :: starEach es X.env) (hpl : (backTo pos (starEach es X.env)).any (·.1) = false) :
    PE X (.Call (.Name x p) (e :: es) [] pos) (fun σ H Q => t σ H fun vs H1 => sp vs H1 Q E0) := by
  refine ⟨fun pins s σ H Q I h => wpAny_Call_Name_kw (ld_glob I hg hm (PySem.W.callWith_K (h₀ := X.base) I.ok.mod.kin hk (thn (ha.run pos pins s σ H _ I h) fun us s1 got => ?_) he hpl) hdb)⟩
  obtain ⟨vs, H1, I1, rel, wish⟩ := got
  refine ⟨I1.kIn, wpAny_call (codeAny_mono (F.runs X.A X.stack s1 H1 ⟨us, []⟩ us vs Q E0 hr I1.env0 ?_ rel wish) fun r s' hq => ?_)⟩
  · have bd := hb s1 us I1.kIn (by rw [List.append_nil, ← rel.length]; exact F.many _ _ _ _ wish)
    rw [List.append_nil] at bd
    exact bd
  · match r, hq with
    | .error e, hq => exact (show False from hq).elim
    | .ok (.ret u), hq => exact I1.after hq
    | .ok .next, hq => exact (show False from hq).elim
    | .ok .brk, hq => exact (show False from hq).elim
    | .ok .cont, hq => exact (show False from hq).elim
def eFn (n : Nat) (den : Den) (fs : Exs) : Ex := fun ρ S => (fs ρ S).bind fun ws S1 => if ws.length = n then den ws S1 else .no
/-- f(e, ..) -/
theorem de_call (F : FnG X.prog X.w X.K X.mg X.base k f fd ps (spD X.K n den)) (hr : RoomG k X.A) (hg : Gl X x) (hm : X.mg x = some (.ref f)) (hk : PySem.W.keepIn X.K (.ref f) = true) (hb : Binds X.K fd ps [])
    (ha : DA X (e :: es) fs) (hdb : (x == ("__debug__" : Str)) = false := by decide) (he : starEach (e :: es) X.env = (false, eval e X.env) :: starEach es X.env := by rfl) (hpl : (backTo pos (starEach es X.env)).any (·.1) = false := by rfl) :
    DE X (.Call (.Name x p) (e :: es) [] pos) (eFn n den fs) := by
  intro σ H ρ S F' μ r S' Q h hs ee hQ
  obtain ⟨ws, S1, h1, ee⟩ := R.bind_eq ee
  split at ee
  · rename_i hl
    refine wpe (pe_callG F hr hg hm hk hb paW hdb he hpl) (ha σ H ρ S F' μ ws S1 _ h hs h1 fun vs H1 F1 μ1 r1 g1 q1 => ?_)
    exact ⟨ws, S1, F1, μ1, r, S', r1, q1, hl, ee, fun v H2 F2 μ2 r2 g2 q2 => hQ v H2 F2 μ2 r2 (g1.trans g2) q2⟩
  · cases ee
end
/-- the law's promise, from its denotation -/
theorem law_sp {K : PySem.W.Frag} {den : Den} {H : Hp} {a : Addr} {ns : List Int} {S' : Sto} (hS : SqL K H a (ns.map V.int)) (hT : SysT H) (e : den [.t (.scr ns)] [] = .ok (.t (.bl true)) S') : spD K 1 den [.ref a] H (fun v _ => v = .bl true) fun _ _ _ => False := by
  refine ⟨[.t (.scr ns)], [], H, [], _, S', ⟨Same.refl _, rfl, fun n c p e _ => by simp at e, fun n p e => by simp at e, fun m n p e _ => by simp at e, hT⟩, .cons (show Rp _ _ _ _ from .scr hS) .nil, rfl, e, fun v H' F' μ' _ _ q => ?_⟩
  have q : Rp K F' (.bl true) v := q
  cases q
  rfl
end Dl
namespace Dl
open PySem PySem.Spec PyProof.Rows L2
/-- the turns that a while is given -/
def LL : Nat := 1048576
/-- a def as its callers meet it -/
structure Cl (P : Program) (w : World) (K : PySem.W.Frag) (mg : Str → Option Value) (base : Heap) (k : Nat) (x : Str) (n : Nat) (den : Den) : Prop where
  ex : ∃ (f : Addr) (fd : FuncData) (ps : List Str), FnG P w K mg base k f fd ps (spD K n den) ∧ mg x = some (.ref f) ∧ PySem.W.keepIn K (.ref f) = true ∧ Binds K fd ps []
theorem de_callC {X : Cx} {k n : Nat} {den : Den} {x : Str} {p pos : Pos} {e : Expr} {es : List Expr} {fs : Exs} (C : Cl X.prog X.w X.K X.mg X.base k x n den) (hr : RoomG k X.A) (hg : Gl X x)
    (ha : DA X (e :: es) fs) (hdb : (x == ("__debug__" : Str)) = false := by decide) (he : starEach (e :: es) X.env = (false, eval e X.env) :: starEach es X.env := by rfl) (hpl : (backTo pos (starEach es X.env)).any (·.1) = false := by rfl) :
    DE X (.Call (.Name x p) (e :: es) [] pos) (eFn n den fs) := by
  obtain ⟨f, fd, ps, F, hm, hk, hb⟩ := C.ex
  exact de_call F hr hg hm hk hb ha hdb he hpl
/-- the built-ins that the texts name -/
structure Bt (mg : Str → Option Value) : Prop where
  len : mg "len" = none
  range : mg "range" = none
  abs : mg "abs" = none
  tuple : mg "tuple" = none
  list : mg "list" = none
  isinstance : mg "isinstance" = none
  int_ : mg "int" = none
  bool : mg "bool" = none
  str : mg "str" = none
  dict : mg "dict" = none
  zip : mg "zip" = none
  enumerate : mg "enumerate" = none
  sorted : mg "sorted" = none
  set : mg "set" = none
  all : mg "all" = none
  any : mg "any" = none
  sum : mg "sum" = none
  min : mg "min" = none
  max : mg "max" = none
  repr : mg "repr" = none
theorem fn_no {P : Program} {w : World} {K : PySem.W.Frag} {mg : Str → Option Value} {base : Heap} {k : Nat} {f : Addr} {fd : FuncData} {ps : List Str} {n : Nat} : FnG P w K mg base k f fd ps (spD K n fun _ _ => .no) :=
  ⟨fun vs H Q E ⟨_, _, _, _, _, _, _, _, _, e, _⟩ => (nomatch e), fun _ _ _ _ _ _ _ _ _ _ _ _ _ ⟨_, _, _, _, _, _, _, _, _, e, _⟩ => (nomatch e)⟩
end Dl
/-! Dl9: locked dicts, more operators, more calls. -/
namespace SrtO
open PySem PySem.Spec PyProof.Rows
section
variable {prog : Program} {w : World} {A : Around} {E : Value → Shared → Prop} {s : Shared}
/-- a tuple's items, collected into a new list -/
theorem gather_tup {tp : Addr} {items : List Value} {Q : List Value → Shared → Prop} (ht : s.heap.IsTuple tp items.toArray) (few : items.length ≤ sizeLine)
    (done : Q items { s with heap := (s.heap.push (seqObj "list" #[] 0)).update s.heap.objs.size (Obj.mapSeq (· ++ items.toArray)) }) : wpAny (model prog w) A (collect (.ref tp)) Q E s := by
  obtain ⟨ob, hob, cls, n, dat⟩ := id ht
  unfold collect
  refine wpAny_bind (wpAny_runValue (codeAny_builtin entry_proto_collect' ?_))
  show wpAny _ _ (do again (.builtin "list.__iadd__" ⟨[← newList [], .ref tp], []⟩)) _ _ s
  refine wpAny_bind (wpAny_newList (wpAny_pure ⟨Code.quiet_builtin _ (by decide +kernel), codeAny_builtin entry_list_iadd' ?_⟩))
  show wpAny _ _ (Builtin.List.listExtendWith (.ref s.heap.objs.size) (.ref tp) (.ref s.heap.objs.size)) _ _ { s with heap := s.heap.push (seqObj "list" #[] 0) }
  unfold Builtin.List.listExtendWith
  have there : (s.heap.push (seqObj "list" #[] 0)).get? tp = some ob := Heap.get?_push_of_some _ hob
  refine wpAny_bind (wpAny_typeOf (T := "tuple") ⟨ob, there, cls⟩ ?_)
  rw [if_pos (by rw [show (Value.type "tuple" == Value.type "tuple") = true from by rfl, Bool.or_true])]
  refine wpAny_bind (listItems_at there dat ?_)
  refine wpAny_bind (listItems_at (xs := #[]) (n := 0) (Heap.get?_push_size _ rfl) rfl ?_)
  rw [if_neg (by simp)]
  refine wpAny_bind (listUpdate_at (xs := #[]) (n := 0) (Heap.get?_push_size _ rfl) rfl ?_ (Nat.zero_le _) (by show (#[] ++ items.toArray).size ≤ sizeLine + 1; rw [Array.empty_append, List.size_toArray]; omega))
  refine wpAny_pure ?_
  show wpAny (model prog w) A (do
      let o ← load s.heap.objs.size
      match o.data with
      | .seq xs _ => pure xs.toList
      | _ => unsupported "internal:collect") Q E { s with heap := (s.heap.push (seqObj "list" #[] 0)).update s.heap.objs.size (Obj.mapSeq (· ++ items.toArray)) }
  refine wpAny_bind (wpAny_load (get?_update_seq (Heap.get?_push_size _ rfl) _) ?_)
  show wpAny _ _ (pure ((#[] : Array Value) ++ items.toArray).toList) Q E _
  have e : ((#[] : Array Value) ++ items.toArray).toList = items := by simp
  rw [e]
  exact wpAny_pure done
/-- sorted(t), t a tuple -/
theorem sorted_tup {tp : Addr} {items : List Value} {before : Value → Value → Bool} {Q : Value → Shared → Prop} (O : Swo before) (ht : s.heap.IsTuple tp items.toArray) (few : items.length ≤ sizeLine)
    (hS : 2 ≤ items.length → ∀ (h₁ : Heap) (a : Addr), h₁.get? a = some (seqObj "list" items.toArray 0) → (∀ b o, s.heap.get? b = some o → b ≠ a ∧ h₁.get? b = some o) → SortableO prog w A.in1.in1 { s with heap := h₁ } a items before)
    (done : ∀ out : List Value, Srtd before out → Stb before out items → Q (.ref (s.heap.objs.size + 1)) { s with heap := sortedAll s.heap items out.toArray }) :
    wpAny (model prog w) A (call (.builtin "sorted") [.ref tp]) Q E s := by
  refine Calls.call_function_entry kind_sorted plain_sorted entry_sorted (args_sorted1 _) ?_
  unfold Builtin.«sorted»
  refine wpAny_bind (m := checkCount "sorted" 1 1 _) (wpAny_pure (wpAny_bind (gather_tup ht few (wpAny_bind (wpAny_newList ?_ few)))))
  let hp := (s.heap.push (seqObj "list" #[] 0)).update s.heap.objs.size (Obj.mapSeq (· ++ items.toArray))
  have size1 : hp.objs.size = s.heap.objs.size + 1 := by show Array.size (Heap.objs (Heap.update _ _ _)) = _; rw [Heap.size_update, size_push']
  have new1 : (hp.push (seqObj "list" items.toArray 0)).get? (s.heap.objs.size + 1) = some (seqObj "list" items.toArray 0) := by
    rw [← size1]; exact Heap.get?_push_size _ rfl
  have old1 : ∀ b o, s.heap.get? b = some o → b ≠ s.heap.objs.size + 1 ∧ (hp.push (seqObj "list" items.toArray 0)).get? b = some o := fun b o q => by
    have lt : b < s.heap.objs.size := Heap.lt_size q
    refine ⟨Nat.ne_of_lt (Nat.lt_succ_of_lt lt), Heap.get?_push_of_some _ ?_⟩
    show Heap.get? (Heap.update _ _ _) b = some o
    rw [Heap.get?_update_ne _ _ _ _ (Nat.ne_of_lt lt)]
    exact Heap.get?_push_of_some _ q
  show wpAny _ _ _ _ _ { s with heap := hp.push (seqObj "list" items.toArray 0) }
  rw [show ((s.heap.push (seqObj "list" #[] 0)).update s.heap.objs.size (Obj.mapSeq (· ++ items.toArray))).objs.size = s.heap.objs.size + 1 from size1]
  refine wpAny_bind (wpAny_holding (wpAny_call_entry slot_list_sort ⟨_, new1, rfl⟩ entry_list_sort (list_sort_ord O new1 few (fun two => hS two _ _ new1 old1) fun out sd sb => ⟨_, rfl, ?_⟩) (args_list_sort _)))
  exact wpAny_pure ⟨_, rfl, done out sd sb⟩
end
end SrtO
namespace Dl
open PySem PySem.Spec PyProof.Rows L2
section
variable {K : PySem.W.Frag} {H F : Hp} {μ : List Addr} {S : Sto}
/-- the n-th cell is written, told by what stands there -/
theorem Rs.putG {p : Addr} {n : Nat} {c' : Cell} {o : HO} (h : Rs K H S F μ) (hl : n < S.length) (nF : F p = none) (hs : p ≠ sysModules) (hμ : μ[n]? = some p) (hc : RpC K (upd H p o) F μ p c') : Rs K (upd H p o) (S.set n c') F μ := by
  refine ⟨fun b u e => by rw [upd_ne (ne_of_none e nF)]; exact h.sub _ _ e, by simpa using h.len, fun m c2 q e1 e2 => ?_, fun m q e => ?_, h.nd, h.sys.upd hs⟩
  · by_cases hm : m = n
    · subst hm
      rw [List.getElem?_set_self hl] at e1
      rw [hμ] at e2
      cases e1; cases e2
      exact hc
    · rw [List.getElem?_set_ne (Ne.symm hm)] at e1
      have ne : q ≠ p := fun z => hm (h.nd m n q e2 (by rw [z]; exact hμ))
      have q0 := h.cell m c2 q e1 e2
      cases c2 with
      | dead => trivial
      | lst xs => obtain ⟨a, vs, b, r⟩ := q0; exact ⟨a, vs, by rw [upd_ne ne]; exact b, r⟩
      | vec ws => obtain ⟨a, vs, b, r⟩ := q0; exact ⟨a, vs, by rw [upd_ne ne]; exact b, r⟩
      | dic kvs => obtain ⟨a, vs, b, r⟩ := q0; exact ⟨a, vs, by rw [upd_ne ne]; exact b, r⟩
      | frz kvs => obtain ⟨a, vs, ⟨o', b⟩, r⟩ := q0; exact ⟨a, vs, ⟨o', by rw [upd_ne ne]; exact b⟩, r⟩
  · by_cases z : q = p
    · rw [z, upd_same]; exact fun z => nomatch z
    · rw [upd_ne z]; exact h.there m q e
/-- the lock is taken off -/
theorem unlock_rs {H' F' : Hp} {μ' : List Addr} {S' : Sto} {p : Addr} {n : Nat} {od : Obj} {kvs kvs' : List (Key × T)} {us : List (Key × V)} (h : Rs K H S F μ) (hn : S[n]? = some (.dic kvs)) (hp : μ[n]? = some p) (hH : H p = some (.dK us)) (hr : Rpk K F kvs us)
    (h' : Rs K H' S' F' μ') (g : Gr (upd H p (.frz od (.dK us))) F μ H' F' μ') (hn' : S'[n]? = some (.frz kvs')) : H' p = some (.frz od (.dK us)) ∧ Rs K (upd H' p (.dK us)) (S'.set n (.dic kvs)) F' μ' ∧ Gr H F μ (upd H' p (.dK us)) F' μ' := by
  have hp' := pre_get g.pre hp
  obtain ⟨nF, _⟩ := h'.cell n _ p hn' hp'
  refine ⟨g.lk p od _ upd_same, h'.putG (List.getElem?_eq_some_iff.mp hn').1 nF (h.sys.dic hH) hp' ⟨nF, us, upd_same, hr.mono g.same⟩, ⟨g.same, g.pre, fun b o h1 h2 h3 => ?_, fun b o u e => ?_⟩⟩
  · have ne : b ≠ p := fun z => h3 (z ▸ List.mem_of_getElem? hp)
    obtain ⟨q1, q2, q3⟩ := g.keep b o (by rw [upd_ne ne]; exact h1) h2 h3
    exact ⟨by rw [upd_ne ne]; exact q1, q2, q3⟩
  · have ne : b ≠ p := fun z => by rw [z, hH] at e; cases e
    rw [upd_ne ne]
    exact g.lk b o u (by rw [upd_ne ne]; exact e)
end
/-- the lock's end -/
def unl (n : Nat) (kvs : List (Key × T)) (S : Sto) : Option Sto := match S[n]? with
  | some (.frz _) => some (S.set n (.dic kvs))
  | _ => none
theorem unl_eq {n : Nat} {kvs : List (Key × T)} {S S' : Sto} (h : unl n kvs S = some S') : ∃ kvs', S[n]? = some (.frz kvs') ∧ S' = S.set n (.dic kvs) := by
  unfold unl at h
  split at h
  · rename_i k e; cases h; exact ⟨_, e, rfl⟩
  · cases h
def unlO (n : Nat) (kvs : List (Key × T)) (o : O) : O := match o with
  | .nx ρ S => match unl n kvs S with
    | some S' => .nx ρ S'
    | none => .no
  | .rt w S => match unl n kvs S with
    | some S' => .rt w S'
    | none => .no
  | .bk ρ S => match unl n kvs S with
    | some S' => .bk ρ S'
    | none => .no
  | .ct ρ S => match unl n kvs S with
    | some S' => .ct ρ S'
    | none => .no
  | _ => .no
/-- a statement that walks through the dict of a slot -/
def sLock (i : Nat) (g : Sx) : Sx := fun ρ S => match ρ[i]? with
  | some (some (.r n)) => (match S[n]? with
    | some (.dic kvs) => unlO n kvs (g ρ (S.set n (.frz kvs)))
    | _ => .no)
  | _ => .no
def eLock (i : Nat) (f : Ex) : Ex := fun ρ S => match ρ[i]? with
  | some (some (.r n)) => (match S[n]? with
    | some (.dic kvs) => (f ρ (S.set n (.frz kvs))).bind fun w S1 => (match unl n kvs S1 with
      | some S2 => .ok w S2
      | none => .no)
    | _ => .no)
  | _ => .no
section
variable {X : Cx} {st : Stmt} {e a b o : Expr} {es : List Expr} {g : Sx} {f fa fb : Ex} {fs : Exs} {pos : Pos} {i : Nat}
theorem ds_lock (i : Nat) (h : DS X st g) : DS X st (sLock i g) := by
  intro σ H ρ S F μ D h0 hs q
  unfold sLock at q
  split at q
  · rename_i n hi
    split at q
    · rename_i kvs hn
      obtain ⟨v, hv, p, hp, rfl⟩ := hs.get i _ hi
      obtain ⟨nF, us, hH, hr⟩ := h0.cell n _ p hn hp
      refine wps (ps_lock psW) ⟨p, _, hH, trivial, fun od => ?_⟩
      have hl := (List.getElem?_eq_some_iff.mp hn).1
      have r1 : Rs X.K (upd H p (.frz od (.dK us))) (S.set n (.frz kvs)) F μ := h0.putG hl nF (h0.sys.dic hH) hp ⟨nF, us, ⟨od, upd_same⟩, hr⟩
      refine h σ _ ρ _ F μ _ r1 hs ?_
      unfold unlO at q
      split at q
      · rename_i ρ' S' eq
        rw [eq]
        intro σ' H' F' μ' r' g' s'
        split at q
        · rename_i S2 eu
          obtain ⟨kvs', hn', rfl⟩ := unl_eq eu
          obtain ⟨z1, z2, z3⟩ := unlock_rs h0 hn hp hH hr r' g' hn'
          exact ⟨z1, q σ' _ F' μ' z2 z3 s'⟩
        · exact False.elim q
      · rename_i w' S' eq
        rw [eq]
        intro v' H' F' μ' r' g' s'
        split at q
        · rename_i S2 eu
          obtain ⟨kvs', hn', rfl⟩ := unl_eq eu
          obtain ⟨z1, z2, z3⟩ := unlock_rs h0 hn hp hH hr r' g' hn'
          exact ⟨z1, q v' _ F' μ' z2 z3 s'⟩
        · exact False.elim q
      · rename_i ρ' S' eq
        rw [eq]
        intro σ' H' F' μ' r' g' s'
        split at q
        · rename_i S2 eu
          obtain ⟨kvs', hn', rfl⟩ := unl_eq eu
          obtain ⟨z1, z2, z3⟩ := unlock_rs h0 hn hp hH hr r' g' hn'
          exact ⟨z1, q σ' _ F' μ' z2 z3 s'⟩
        · exact False.elim q
      · rename_i ρ' S' eq
        rw [eq]
        intro σ' H' F' μ' r' g' s'
        split at q
        · rename_i S2 eu
          obtain ⟨kvs', hn', rfl⟩ := unl_eq eu
          obtain ⟨z1, z2, z3⟩ := unlock_rs h0 hn hp hH hr r' g' hn'
          exact ⟨z1, q σ' _ F' μ' z2 z3 s'⟩
        · exact False.elim q
      · exact False.elim q
    · exact False.elim q
  · exact False.elim q
theorem de_lock (i : Nat) (h : DE X e f) : DE X e (eLock i f) := by
  intro σ H ρ S F μ w S' Q h0 hs ee hQ
  unfold eLock at ee
  split at ee
  · rename_i n hi
    split at ee
    · rename_i kvs hn
      obtain ⟨w1, S1, e1, e2⟩ := R.bind_eq ee
      split at e2
      · rename_i S2 eu
        cases e2
        obtain ⟨kvs', hn', rfl⟩ := unl_eq eu
        obtain ⟨v, hv, p, hp, rfl⟩ := hs.get i _ hi
        obtain ⟨nF, us, hH, hr⟩ := h0.cell n _ p hn hp
        refine wpe (pe_lock peW) ⟨p, _, hH, trivial, fun od => ?_⟩
        have hl := (List.getElem?_eq_some_iff.mp hn).1
        have r1 : Rs X.K (upd H p (.frz od (.dK us))) (S.set n (.frz kvs)) F μ := h0.putG hl nF (h0.sys.dic hH) hp ⟨nF, us, ⟨od, upd_same⟩, hr⟩
        refine h σ _ ρ _ F μ _ _ _ r1 hs e1 fun v' H' F' μ' r' g' s' => ?_
        obtain ⟨z1, z2, z3⟩ := unlock_rs h0 hn hp hH hr r' g' hn'
        exact ⟨z1, hQ v' _ F' μ' z2 z3 s'⟩
      · cases e2
    · cases ee
  · cases ee
/-- the keys of a locked dict -/
def keyT : Key → T
  | .inl i => .int i
  | .inr x => .str x
def gFrz (n : Nat) : Sto → Bool := fun S => match S[n]? with
  | some (.frz _) => true
  | _ => false
def frzOf (i : Nat) (ρ : Env) (S : Sto) : Option (Nat × List (Key × T)) := match ρ[i]? with
  | some (some (.r n)) => (match S[n]? with
    | some (.frz kvs) => some (n, kvs)
    | _ => none)
  | _ => none
def srcD (i : Nat) : Srcx := fun ρ S => match frzOf i ρ S with
  | some (n, kvs) => .ok ⟨kvs.map fun kv => .one (.t (keyT kv.1)), gFrz n⟩ S
  | none => .no
def srcIt (i : Nat) : Srcx := fun ρ S => match frzOf i ρ S with
  | some (n, kvs) => .ok ⟨kvs.map fun kv => .tp [.t (keyT kv.1), .t kv.2], gFrz n⟩ S
  | none => .no
theorem frzOf_eq {i : Nat} {ρ : Env} {S : Sto} {n : Nat} {kvs : List (Key × T)} (h : frzOf i ρ S = some (n, kvs)) : ρ[i]? = some (some (.r n)) ∧ S[n]? = some (.frz kvs) := by
  unfold frzOf at h
  split at h
  · rename_i m hm
    split at h
    · rename_i k hk; cases h; exact ⟨hm, hk⟩
    · cases h
  · cases h
theorem Rpk.get {K : PySem.W.Frag} {F : Hp} : ∀ {kvs : List (Key × T)} {us : List (Key × V)} {i : Nat} {kv : Key × T}, Rpk K F kvs us → kvs[i]? = some kv → ∃ v, us[i]? = some (kv.1, v) ∧ Rp K F kv.2 v
  | _, _, _, _, .nil, e => by simp at e
  | _, _, 0, _, .cons r _, e => by simp at e; subst e; exact ⟨_, rfl, r⟩
  | _, _, i + 1, x, .cons _ t, e => by
    obtain ⟨u, h1, h2⟩ := Rpk.get (i := i) (kv := x) t (by simpa using e)
    exact ⟨u, by simpa using h1, h2⟩
theorem keyT_rp {K : PySem.W.Frag} {F : Hp} (k : Key) : Rp K F (keyT k) (kV k) := by
  cases k with
  | inl i => exact .int i
  | inr x => exact .str x
variable {tg : Expr}
theorem wk_keys {K : PySem.W.Frag} {H F : Hp} {μ : List Addr} {p : Addr} {o : Obj} {n : Nat} {kvs : List (Key × T)} {us : List (Key × V)} (hH : H p = some (.frz o (.dK us))) (hr : Rpk K F kvs us) :
    Wk K (Itk p o us) ⟨kvs.map fun kv => .one (.t (keyT kv.1)), gFrz n⟩ H F μ := by
  have hl := Rpk.length hr
  refine ⟨fun H2 S2 F2 μ2 i r2 gr hg hi => ⟨gr.lk _ _ _ hH, by simpa [← hl] using hi⟩, fun H2 S2 F2 μ2 r2 gr hg => ⟨gr.lk _ _ _ hH, by simp [← hl]⟩, fun H2 S2 F2 μ2 i it x H3 r2 gr hg hi hy => ?_⟩
  have hi : (kvs.map fun kv => Item.one (.t (keyT kv.1)))[i]? = some it := hi
  rw [List.getElem?_map] at hi
  obtain ⟨kv, hk, rfl⟩ := map1 hi
  obtain ⟨rfl, k, v, e, rfl⟩ := hy
  obtain ⟨u, h1, h2⟩ := hr.get hk
  rw [h1] at e
  cases e
  exact ⟨r2, Gr.refl, keyT_rp _⟩
theorem wk_items {K : PySem.W.Frag} {H F : Hp} {μ : List Addr} {p : Addr} {o : Obj} {n : Nat} {kvs : List (Key × T)} {us : List (Key × V)} (hH : H p = some (.frz o (.dK us))) (hr : Rpk K F kvs us) :
    Wk K (Iti p o us) ⟨kvs.map fun kv => .tp [.t (keyT kv.1), .t kv.2], gFrz n⟩ H F μ := by
  have hl := Rpk.length hr
  refine ⟨fun H2 S2 F2 μ2 i r2 gr hg hi => ⟨gr.lk _ _ _ hH, by simpa [← hl] using hi⟩, fun H2 S2 F2 μ2 r2 gr hg => ⟨gr.lk _ _ _ hH, by simp [← hl]⟩, fun H2 S2 F2 μ2 i it x H3 r2 gr hg hi hy => ?_⟩
  have hi : (kvs.map fun kv => Item.tp [.t (keyT kv.1), .t kv.2])[i]? = some it := hi
  rw [List.getElem?_map] at hi
  obtain ⟨kv, hk, rfl⟩ := map1 hi
  obtain ⟨T, k, v, e, rfl, hT, rfl⟩ := hy
  obtain ⟨u, h1, h2⟩ := hr.get hk
  rw [h1] at e
  cases e
  exact ⟨r2.heap _ (r2.notF hT) (r2.notM hT) (r2.sys.none hT), Gr.updH Gr.refl hT, T, _, rfl, hT, upd_same, .cons (keyT_rp _) (.cons (show Rp _ _ _ _ from h2.mono gr.same) .nil)⟩
theorem ds_dict {x : Str} (hN : X.N[i]? = some x := by rfl) (hv : Vis X.env.scope x := by first | exact Or.inl rfl | exact Or.inr (Or.inl rfl) | exact Or.inr (Or.inr rfl)) (hd : (x == ("__debug__" : Str)) = false := by decide)
    (hcd : (x == ("__classdict__" : Str)) = false := by decide) : DI X tg (.Name x pos) (srcD i) := by
  intro σ H ρ S F μ its S' R' h hs e hQ
  unfold srcD at e
  split at e
  · rename_i n kvs hf
    cases e
    obtain ⟨h1, h2⟩ := frzOf_eq hf
    obtain ⟨v, hv', p, hp, rfl⟩ := hs.get i _ h1
    obtain ⟨nF, us, ⟨o, hH⟩, hr⟩ := h.cell n _ p h2 hp
    exact wpi (pi_keys (pe_var hN hv hd hcd)) ⟨_, hv', p, o, rfl, .inl ⟨us, hH, hQ _ H F μ h Gr.refl (wk_keys hH hr) (by show gFrz n S = true; unfold gFrz; rw [h2])⟩⟩
  · cases e
theorem ds_items {x : Str} {elts : List Expr} {kk : Nat} {tpos p1 apos cpos : Pos} (hN : X.N[i]? = some x := by rfl) (hv : Vis X.env.scope x := by first | exact Or.inl rfl | exact Or.inr (Or.inl rfl) | exact Or.inr (Or.inr rfl)) (hd : (x == ("__debug__" : Str)) = false := by decide)
    (hcd : (x == ("__classdict__" : Str)) = false := by decide) (hbase : attributeBase (.Name x p1) "items" X.env (eval (.Name x p1) X.env) = eval (.Name x p1) X.env := by rfl) (hline : (apos.endLine == cpos.line) = true := by rfl) :
    DI X (.Tuple elts kk tpos) (.Call (.Attribute (.Name x p1) "items" apos) [] [] cpos) (srcIt i) := by
  intro σ H ρ S F μ its S' R' h hs e hQ
  unfold srcIt at e
  split at e
  · rename_i n kvs hf
    cases e
    obtain ⟨h1, h2⟩ := frzOf_eq hf
    obtain ⟨v, hv', p, hp, rfl⟩ := hs.get i _ h1
    obtain ⟨nF, us, ⟨o, hH⟩, hr⟩ := h.cell n _ p h2 hp
    exact wpi (pi_items (pe_var hN hv hd hcd) hbase hline) ⟨_, hv', p, o, us, rfl, hH, hQ _ H F μ h Gr.refl (wk_items hH hr) (by show gFrz n S = true; unfold gFrz; rw [h2])⟩
  · cases e
end
/-! ### new lists as cells -/
def OpL (X : Cx) (f : Value → Value → Sem Value) (g : T → T → Option (List T)) : Prop := ∃ r : R2, OpR X f r ∧ ∀ (H : Hp) (S : Sto) (F : Hp) (μ : List Addr) (x y : T) (v u : V) (ys : List T) (Q : VK),
  Rs X.K H S F μ → Rv X.K H F x v → Rv X.K H F y u → g x y = some ys → (∀ (p : Addr) (us : List V), H p = none → Rps X.K F ys us → Q (.ref p) (upd H p (.lst us))) → r v u H Q
def e2L (g : T → T → Option (List T)) (fa fb : Ex) : Ex := fun ρ S => (fa ρ S).bind fun w1 S1 => (fb ρ S1).bind fun w2 S2 => match (view S2 w1).bind fun x => (view S2 w2).bind fun y => g x y with
  | some ys => .ok (.r S2.length) (S2 ++ [.lst ys])
  | none => .no
section
variable {X : Cx} {a b e : Expr} {es : List Expr} {fa fb f : Ex} {fs : Exs} {pos : Pos}
theorem de_opB {op : Operator} {g : T → T → Option (List T)} (ho : OpL X (binaryOp op) g) (ha : DE X a fa) (hb : DE X b fb) : DE X (.BinOp a op b pos) (e2L g fa fb) := by
  obtain ⟨r, h1, h2⟩ := ho
  intro σ H ρ S F μ w S' Q h hs ee hQ
  obtain ⟨w1, S1, e1, ea⟩ := R.bind_eq ee
  obtain ⟨w2, S2, e2, eb⟩ := R.bind_eq ea
  clear ee ea
  split at eb
  · rename_i ys hy
    cases eb
    obtain ⟨x, y, hx, hy', hg⟩ := bind2 hy
    refine wpe (pe_op h1 peW peW) ?_
    refine ha σ H ρ S F μ w1 S1 _ h hs e1 fun v H1 F1 μ1 r1 g1 q1 => ?_
    refine hb σ H1 ρ S1 F1 μ1 w2 S2 _ r1 (hs.gr g1) e2 fun u H2 F2 μ2 r2 g2 q2 => ?_
    refine h2 H2 S2 F2 μ2 x y v u ys _ r2 (view_rv r2 (q1.gr g2) hx) (view_rv r2 q2 hy') hg fun p us hp ru => ?_
    obtain ⟨r3, g3, rr⟩ := r2.boxNew (cl := .lst ys) (o := .lst us) hp ⟨r2.notF hp, us, upd_same, ru⟩
    exact hQ _ _ _ _ r3 ((g1.trans g2).trans g3) rr
  · cases eb
def gCat : T → T → Option (List T)
  | .lst xs, .lst ys => if xs.length + ys.length ≤ cap then some (xs ++ ys) else none
  | _, _ => none
def gRep : T → T → Option (List T)
  | .lst xs, .int k => if 0 ≤ k ∧ k < 1000000 ∧ xs.length * k.toNat ≤ cap then some (List.replicate k.toNat xs).flatten else none
  | _, _ => none
theorem ol_cat : OpL X (binaryOp .Add) gCat := by
  refine ⟨_, op_cat, fun H S F μ x y v u ys Q h rx ry e q => ?_⟩
  unfold gCat at e
  split at e
  · split at e
    · rename_i hl
      cases e; cases rx with
      | lst a r => cases ry with
        | lst a' r' => exact ⟨_, _, _, _, rfl, rfl, a, a', by rw [← r.length, ← r'.length, cap_eq]; exact hl, fun p hp => q p _ hp (r.append r')⟩
    · cases e
  · cases e
theorem ol_rep : OpL X (binaryOp .Mult) gRep := by
  refine ⟨_, op_rep, fun H S F μ x y v u ys Q h rx ry e q => ?_⟩
  unfold gRep at e
  split at e
  · split at e
    · rename_i hc
      cases e; cases ry; cases rx with
      | lst a r => exact ⟨_, _, _, rfl, rfl, a, by omega, by omega, by rw [← r.length, cap_eq]; exact hc.2.2, fun p hp => q p _ hp (rep_rps r _)⟩
    · cases e
  · cases e
/-! ### one operand -/
def e1 (g : T → Option T) (fa : Ex) : Ex := fun ρ S => (fa ρ S).bind fun w S1 => R.of ((view S1 w).bind fun x => (g x).map W.t) S1
theorem e1_eq {g : T → Option T} {ρ : Env} {S S' : Sto} {w : W} (h : e1 g fa ρ S = .ok w S') : ∃ w1 x c, fa ρ S = .ok w1 S' ∧ view S' w1 = some x ∧ g x = some c ∧ w = .t c := by
  obtain ⟨w1, S1, h1, h⟩ := R.bind_eq h
  obtain ⟨h3, rfl⟩ := R.of_eq h
  cases q1 : view S' w1 with
  | none => rw [q1] at h3; cases h3
  | some x =>
    rw [q1] at h3
    obtain ⟨c, hc, rfl⟩ := map1 (show (g x).map W.t = some w from h3)
    exact ⟨w1, x, c, h1, q1, hc, rfl⟩
def gNeg : T → Option T
  | .int i => some (.int (-i))
  | _ => none
theorem de_neg (ha : DE X a fa) : DE X (.UnaryOp .USub a pos) (e1 gNeg fa) := by
  intro σ H ρ S F μ w S' Q h hs ee hQ
  obtain ⟨w1, x, c, h1, h2, h3, rfl⟩ := e1_eq ee
  refine wpe (pe_un un_neg peW) (ha σ H ρ S F μ w1 S' _ h hs h1 fun v H1 F1 μ1 r1 g1 q1 => ?_)
  have rv := view_rv r1 q1 h2
  unfold gNeg at h3
  split at h3
  · cases h3; cases rv
    exact ⟨_, rfl, hQ _ H1 F1 μ1 r1 g1 (show Rp _ _ _ _ from .int _)⟩
  · cases h3
def gBitLen : T → Option T
  | .int i => some (.int (Builtin.Int.intBits i : Nat))
  | _ => none
theorem de_bitLen {o : Expr} {fo : Ex} {apos : Pos} (ho : DE X o fo) (hbase : attributeBase o "bit_length" X.env (eval o X.env) = eval o X.env := by rfl) (hline : (apos.endLine == pos.line) = true := by rfl) : DE X (.Call (.Attribute o "bit_length" apos) [] [] pos) (e1 gBitLen fo) := by
  intro σ H ρ S F μ w S' Q h hs ee hQ
  obtain ⟨w1, x, c, h1, h2, h3, rfl⟩ := e1_eq ee
  refine wpe (pe_bits peW hbase hline) (ho σ H ρ S F μ w1 S' _ h hs h1 fun v H1 F1 μ1 r1 g1 q1 => ?_)
  have rv := view_rv r1 q1 h2
  unfold gBitLen at h3
  split at h3
  · cases h3; cases rv
    exact ⟨_, rfl, hQ _ H1 F1 μ1 r1 g1 (show Rp _ _ _ _ from .int _)⟩
  · cases h3
/-! ### calls -/
def lst1 (g : List T → Option (List T)) : List T → Option T := fun xs => (g xs).map T.lst
/-- sorted, of ints -/
def isort : List Int → List Int
  | [] => []
  | x :: r => insI x (isort r)
where
  insI (x : Int) : List Int → List Int
    | [] => [x]
    | y :: r => if x ≤ y then x :: y :: r else y :: insI x r
theorem insI_perm (x : Int) : ∀ r, (isort.insI x r).Perm (x :: r)
  | [] => List.Perm.refl _
  | y :: r => by
    unfold isort.insI
    split
    · exact List.Perm.refl _
    · exact ((insI_perm x r).cons y).trans (List.Perm.swap x y r)
theorem isort_perm : ∀ r, (isort r).Perm r
  | [] => List.Perm.refl _
  | x :: r => (insI_perm x (isort r)).trans ((isort_perm r).cons x)
theorem insI_sorted (x : Int) : ∀ r : List Int, r.Pairwise (· ≤ ·) → (isort.insI x r).Pairwise (· ≤ ·)
  | [], _ => by simp [isort.insI]
  | y :: r, h => by
    unfold isort.insI
    obtain ⟨h1, h2⟩ := List.pairwise_cons.mp h
    split
    · rename_i hx
      refine List.pairwise_cons.mpr ⟨fun z hz => ?_, h⟩
      rcases List.mem_cons.mp hz with rfl | hz
      · exact hx
      · exact Int.le_trans hx (h1 z hz)
    · rename_i hx
      refine List.pairwise_cons.mpr ⟨fun z hz => ?_, insI_sorted x r h2⟩
      rcases List.mem_cons.mp ((insI_perm x r).mem_iff.mp hz) with rfl | hz
      · omega
      · exact h1 z hz
theorem isort_sorted : ∀ r, (isort r).Pairwise (· ≤ ·)
  | [] => .nil
  | x :: r => insI_sorted x _ (isort_sorted r)
theorem sorted_uniq : ∀ {xs ys : List Int}, xs.Perm ys → xs.Pairwise (· ≤ ·) → ys.Pairwise (· ≤ ·) → xs = ys := fun h h1 h2 => h.eq_of_pairwise (fun a b _ _ h3 h4 => by omega) h1 h2
def bSorted : List T → Option (List T)
  | [.lst xs] => (intsOf xs).map fun ns => (isort ns).map T.int
  | [.tup xs] => (intsOf xs).map fun ns => (isort ns).map T.int
  | _ => none
/-- sorted(t), a tuple of ints -/
def rSortedIT (K : PySem.W.Frag) : List V → Hp → VK → Prop := fun vs H Q => ∃ (a : Addr) (ns : List Int), vs = [V.ref a] ∧ SqT K H a (ns.map V.int) ∧
  ∀ (ms : List Int) (p : Addr), ms.Perm ns → ms.Pairwise (· ≤ ·) → H p = none → Q (.ref p) (upd H p (.lst (ms.map V.int)))
theorem cr_sortedIT : CallR X (.builtin "sorted") (rSortedIT X.K) := by
  intro pins s σ H vs us Q I r h
  obtain ⟨a, ns, rfl, ht, q⟩ := h
  obtain ⟨its, rv, tp, few⟩ := I.tuple ht
  rw [Vals.ref1 r]
  have hin := rv.ints
  refine SrtO.sorted_tup SrtO.swo_int (show s.heap.IsTuple a its.toArray from tp) (by rw [← rv.length]; exact few) (fun two h₁ a' _ _ => SrtO.ints_sortable hin two) fun out sd sb => ?_
  obtain ⟨k1, k2, k3⟩ := SrtO.ints_out hin sd sb
  obtain ⟨ep, at1⟩ := PyProof.Rows.sortedAll_at s.heap its out.toArray
  have few' : ((out.map SrtO.iv).map V.int).length ≤ sizeLine := by
    rw [List.length_map] at few
    rw [List.length_map, k2.length_eq]
    exact few
  exact ⟨.ref _, upd H (s.heap.objs.size + 1) (.lst ((out.map SrtO.iv).map V.int)), I.laid (t' := s.toks) (fun _ _ => PyProof.Rows.sortedAll_old) (Nat.le_succ _) ⟨few', out, ep, vals_of_ints k1, at1⟩, rfl, q _ _ k2 k3 (I.hok.fresh (Nat.le_succ _))⟩
theorem cl_sorted {k : Nat} (_ : RoomG k X.A) : CallL X (.builtin "sorted") bSorted := by
  refine ⟨_, (cr_sortedI (X := X)).or cr_sortedIT, fun H S F μ xs vs ys Q h rv e q => ?_⟩
  unfold bSorted at e
  split at e
  · rename_i zs
    obtain ⟨ns, hn, rfl⟩ := map1 e
    have := intsOf_some hn
    subst this
    obtain ⟨v, rfl, r⟩ := rvs1 rv
    cases r with
    | lst a r =>
      cases r.ints_inv
      refine .inl ⟨_, ns, rfl, SqL.of a, fun ns' p hp hs hn => ?_⟩
      have := sorted_uniq (hp.trans (isort_perm ns).symm) hs (isort_sorted ns)
      subst this
      exact q p _ hn (Rps.ints _)
  · rename_i zs
    obtain ⟨ns, hn, rfl⟩ := map1 e
    have := intsOf_some hn
    subst this
    obtain ⟨v, rfl, r⟩ := rvs1 rv
    cases r with
    | tup a r =>
      cases r.ints_inv
      refine .inr ⟨_, ns, rfl, Same.sqT h.sub a, fun ns' p hp hs hn => ?_⟩
      have := sorted_uniq (hp.trans (isort_perm ns).symm) hs (isort_sorted ns)
      subst this
      exact q p _ hn (Rps.ints _)
  · cases e
/-- list(range(..)) -/
def rngV (a b : Int) : List T := (List.range (b - a).toNat).map fun i => T.int (a + (i : Nat))
theorem rgV_rps {K : PySem.W.Frag} {F : Hp} (a b : Int) : Rps K F (rngV a b) (rgV a b) := by
  have := Rps.ints (K := K) (F := F) ((List.range (b - a).toNat).map fun i => (a + (i : Nat) : Int))
  rw [List.map_map, List.map_map] at this
  exact this
def rok (a b : Int) : Bool := rlim a && rlim b && decide ((b - a).toNat ≤ cap)
theorem rok_ok {a b : Int} (h : rok a b = true) : RgOk a b := by
  unfold rok at h
  simp only [Bool.and_eq_true, decide_eq_true_eq] at h
  obtain ⟨z1, z2⟩ := rlim_ok h.1.1
  obtain ⟨z3, z4⟩ := rlim_ok h.1.2
  exact ⟨z1, z2, z3, z4, h.2⟩
def lrg : List W → Option (Int × Int)
  | [.t (.int j)] => if rok 0 j then some (0, j) else none
  | [.t (.int i), .t (.int j)] => if rok i j then some (i, j) else none
  | _ => none
def eListR1 (fs : Exs) : Ex := fun ρ S => (fs ρ S).bind fun ws S1 => R.of ((lrg ws).map fun ab => .t (.lst (rngV ab.1 ab.2))) S1
def eListR1B (fs : Exs) : Ex := fun ρ S => (fs ρ S).bind fun ws S1 => match lrg ws with
  | some ab => .ok (.r S1.length) (S1 ++ [.lst (rngV ab.1 ab.2)])
  | none => .no
abbrev eListR2 := eListR1
abbrev eListR2B := eListR1B
theorem lrg1 {a b : Int} {x : W} (h : lrg [x] = some (a, b)) : x = .t (.int b) ∧ a = 0 ∧ rok a b = true := by
  unfold lrg at h
  split at h
  · rename_i j hj
    split at h
    · rename_i hr; cases h; cases hj; exact ⟨rfl, rfl, hr⟩
    · cases h
  · rename_i i j hj; cases hj
  · cases h
theorem lrg2 {a b : Int} {x y : W} (h : lrg [x, y] = some (a, b)) : x = .t (.int a) ∧ y = .t (.int b) ∧ rok a b = true := by
  unfold lrg at h
  split at h
  · rename_i j hj; cases hj
  · rename_i i j hj
    split at h
    · rename_i hr; cases h; cases hj; exact ⟨rfl, rfl, hr⟩
    · cases h
  · cases h
/-- range(i), range(i, j), by the argument list -/
def tRgA (ta : TA) : L2.St → Hp → (Int → Int → Hp → Prop) → Prop := fun σ H Q => ta σ H fun vs H1 => (∃ n, vs = [.int n] ∧ Q 0 n H1) ∨ ∃ i j, vs = [.int i, .int j] ∧ Q i j H1
theorem prgA {ta : TA} {p : Pos} (hg : Gl X "range") (hm : X.mg "range" = none) (ha : PA X (e :: es) ta) (he : starEach (e :: es) X.env = (false, eval e X.env) :: starEach es X.env := by rfl) (hpl : (backTo pos (starEach es X.env)).any (·.1) = false := by rfl) :
    PRg X (.Call (.Name "range" p) (e :: es) [] pos) (tRgA ta) := by
  intro pins s σ H Q I h
  refine Call_ (ld_blt I hg hm boot_range (PyProof.Rows.callWith_type1 (thn (ha.run pos pins s σ H _ I h) fun us s2 ⟨vs, H2, I2, r, q⟩ => ?_) he hpl))
  rcases q with ⟨n, rfl, q⟩ | ⟨i, j, rfl, q⟩
  · obtain ⟨u, rfl, t, rfl⟩ := vals1 r
    exact call_range_1 ⟨_, 0, n, _, _, _, H2, rfl, IsRange.new _ _ _ _ _ _ _, I2.kept fun b u e => Heap.get?_push_of_some _ e, q⟩
  · obtain ⟨u, u', rfl, ⟨t, rfl⟩, ⟨t', rfl⟩⟩ := vals2 r
    exact call_range_2 ⟨_, i, j, _, _, _, H2, rfl, IsRange.new _ _ _ _ _ _ _, I2.kept fun b u e => Heap.get?_push_of_some _ e, q⟩
theorem lrg_run {ws : List W} {vs : List V} {K : PySem.W.Frag} {F : Hp} {μ : List Addr} {ab : Int × Int} {H : Hp} {Q : Int → Int → Hp → Prop} (r : RpWs K F μ ws vs) (h : lrg ws = some ab) (q : rok ab.1 ab.2 = true → Q ab.1 ab.2 H) :
    (∃ n, vs = [V.int n] ∧ Q 0 n H) ∨ ∃ i j, vs = [V.int i, V.int j] ∧ Q i j H := by
  cases r with
  | nil => cases h
  | @cons x v ws vs r1 r =>
    cases r with
    | nil =>
      obtain ⟨a, b⟩ := ab
      obtain ⟨rfl, rfl, ok⟩ := lrg1 h
      have r1 : Rp K F (.int b) v := r1
      cases r1
      exact .inl ⟨b, rfl, q ok⟩
    | @cons y u ws vs r2 r =>
      cases r with
      | nil =>
        obtain ⟨a, b⟩ := ab
        obtain ⟨rfl, rfl, ok⟩ := lrg2 h
        have r1 : Rp K F (.int a) v := r1
        have r2 : Rp K F (.int b) u := r2
        cases r1; cases r2
        exact .inr ⟨a, b, rfl, q ok⟩
      | cons r3 r =>
        unfold lrg at h
        split at h
        · rename_i hj; cases hj
        · rename_i hj; cases hj
        · cases h
theorem de_listR1 {pl pr pos2 : Pos} (hc : X.calm = true) (hg : Gl X "list") (hm : X.mg "list" = none) (hg2 : Gl X "range") (hm2 : X.mg "range" = none) (ha : DA X (e :: es) fs)
    (he : starEach (e :: es) X.env = (false, eval e X.env) :: starEach es X.env := by rfl) (hpl : (backTo pos2 (starEach es X.env)).any (·.1) = false := by rfl)
    (na : starEach [Expr.Call (.Name "range" pr) (e :: es) [] pos2] X.env = (false, eval (Expr.Call (.Name "range" pr) (e :: es) [] pos2) X.env) :: starEach [] X.env := by rfl) :
    DE X (.Call (.Name "list" pl) [.Call (.Name "range" pr) (e :: es) [] pos2] [] pos) (eListR1 fs) := by
  intro σ H ρ S F μ w S' Q h hs ee hQ
  obtain ⟨ws, S1, e1, ea⟩ := R.bind_eq ee
  obtain ⟨e2, rfl⟩ := R.of_eq ea
  obtain ⟨ab, hab, rfl⟩ := map1 e2
  refine wpe (pe_listRg hc hg hm (prgA hg2 hm2 paW he hpl) na) (ha σ H ρ S F μ ws S' _ h hs e1 fun vs H1 F1 μ1 r1 g1 q1 => ?_)
  refine lrg_run (H := H1) (Q := fun a b H2 => RgOk a b ∧ ∀ (q : Addr), H2 q = none → Q (V.ref q) (upd H2 q (HO.lst (rgV a b)))) q1 hab fun ok => ⟨rok_ok ok, fun p hp => ?_⟩
  obtain ⟨r2, g2⟩ := r1.new (.lst (rgV ab.1 ab.2)) hp
  exact hQ _ _ _ _ r2 (g1.trans g2) (show Rp _ _ _ _ from .lst upd_same (rgV_rps _ _))
theorem de_listR1B {pl pr pos2 : Pos} (hc : X.calm = true) (hg : Gl X "list") (hm : X.mg "list" = none) (hg2 : Gl X "range") (hm2 : X.mg "range" = none) (ha : DA X (e :: es) fs)
    (he : starEach (e :: es) X.env = (false, eval e X.env) :: starEach es X.env := by rfl) (hpl : (backTo pos2 (starEach es X.env)).any (·.1) = false := by rfl)
    (na : starEach [Expr.Call (.Name "range" pr) (e :: es) [] pos2] X.env = (false, eval (Expr.Call (.Name "range" pr) (e :: es) [] pos2) X.env) :: starEach [] X.env := by rfl) :
    DE X (.Call (.Name "list" pl) [.Call (.Name "range" pr) (e :: es) [] pos2] [] pos) (eListR1B fs) := by
  intro σ H ρ S F μ w S' Q h hs ee hQ
  obtain ⟨ws, S1, e1, ea⟩ := R.bind_eq ee
  split at ea
  · rename_i ab hab
    cases ea
    refine wpe (pe_listRg hc hg hm (prgA hg2 hm2 paW he hpl) na) (ha σ H ρ S F μ ws S1 _ h hs e1 fun vs H1 F1 μ1 r1 g1 q1 => ?_)
    refine lrg_run (H := H1) (Q := fun a b H2 => RgOk a b ∧ ∀ (q : Addr), H2 q = none → Q (V.ref q) (upd H2 q (HO.lst (rgV a b)))) q1 hab fun ok => ⟨rok_ok ok, fun p hp => ?_⟩
    obtain ⟨r2, g2, rr⟩ := r1.boxNew (cl := .lst (rngV ab.1 ab.2)) (o := .lst (rgV ab.1 ab.2)) hp ⟨r1.notF hp, _, upd_same, rgV_rps _ _⟩
    exact hQ _ _ _ _ r2 (g1.trans g2) rr
  · cases ea
/-! ### min, max -/
def minI : List Int → Int
  | [] => 0
  | [x] => x
  | x :: r => if x ≤ minI r then x else minI r
def maxI : List Int → Int
  | [] => 0
  | [x] => x
  | x :: r => if maxI r ≤ x then x else maxI r
theorem minI_spec : ∀ {ns : List Int}, ns ≠ [] → minI ns ∈ ns ∧ ∀ y ∈ ns, minI ns ≤ y
  | [x], _ => ⟨by simp [minI], fun y hy => by simp at hy; subst hy; simp [minI]⟩
  | x :: z :: r, _ => by
    obtain ⟨h1, h2⟩ := minI_spec (ns := z :: r) (by simp)
    rw [minI]
    · split
      · rename_i hx
        refine ⟨List.mem_cons_self, fun y hy => ?_⟩
        rcases List.mem_cons.mp hy with rfl | hy
        · exact Int.le_refl _
        · exact Int.le_trans hx (h2 y hy)
      · rename_i hx
        refine ⟨List.mem_cons_of_mem _ h1, fun y hy => ?_⟩
        rcases List.mem_cons.mp hy with rfl | hy
        · omega
        · exact h2 y hy
    · simp
theorem maxI_spec : ∀ {ns : List Int}, ns ≠ [] → maxI ns ∈ ns ∧ ∀ y ∈ ns, y ≤ maxI ns
  | [x], _ => ⟨by simp [maxI], fun y hy => by simp at hy; subst hy; simp [maxI]⟩
  | x :: z :: r, _ => by
    obtain ⟨h1, h2⟩ := maxI_spec (ns := z :: r) (by simp)
    rw [maxI]
    · split
      · rename_i hx
        refine ⟨List.mem_cons_self, fun y hy => ?_⟩
        rcases List.mem_cons.mp hy with rfl | hy
        · exact Int.le_refl _
        · exact Int.le_trans (h2 y hy) hx
      · rename_i hx
        refine ⟨List.mem_cons_of_mem _ h1, fun y hy => ?_⟩
        rcases List.mem_cons.mp hy with rfl | hy
        · omega
        · exact h2 y hy
    · simp
def bMin : List T → Option T
  | [.int i, .int j] => some (.int (if j < i then j else i))
  | [.lst xs] => (intsOf xs).bind fun ns => if ns.isEmpty then none else some (.int (minI ns))
  | _ => none
def bMax : List T → Option T
  | [.int i, .int j] => some (.int (if j > i then j else i))
  | [.lst xs] => (intsOf xs).bind fun ns => if ns.isEmpty then none else some (.int (maxI ns))
  | _ => none
theorem cd_min (hc : X.calm = true) : CallD X (.builtin "min") bMin := by
  refine ⟨_, (call_min2 hc).or (cr_min hc), fun H S F μ xs vs c Q h rv e q => ?_⟩
  unfold bMin at e
  split at e
  · cases e
    obtain ⟨v, u, rfl, r1, r2⟩ := rvs2 rv
    cases r1; cases r2
    exact .inl ⟨_, _, rfl, q.same h (.int _)⟩
  · rename_i ys
    cases hn : intsOf ys with
    | none => rw [hn] at e; cases e
    | some ns =>
      rw [hn] at e
      have e : (if ns.isEmpty then none else some (T.int (minI ns))) = some c := e
      split at e
      · cases e
      · rename_i hne
        cases e
        have := intsOf_some hn
        subst this
        obtain ⟨v, rfl, r⟩ := rvs1 rv
        cases r with
        | lst a r =>
          cases r.ints_inv
          have hne : ns ≠ [] := fun z => hne (by rw [z]; rfl)
          refine .inr ⟨_, ns, rfl, SqL.of a, List.length_pos_iff.mpr hne, fun m h1 h2 => ?_⟩
          obtain ⟨h3, h4⟩ := minI_spec hne
          have : m = minI ns := by have := h2 _ h3; have := h4 _ h1; omega
          rw [this]
          exact q.same h (.int _)
  · cases e
theorem cd_max (hc : X.calm = true) : CallD X (.builtin "max") bMax := by
  refine ⟨_, (call_max2 hc).or (cr_max hc), fun H S F μ xs vs c Q h rv e q => ?_⟩
  unfold bMax at e
  split at e
  · cases e
    obtain ⟨v, u, rfl, r1, r2⟩ := rvs2 rv
    cases r1; cases r2
    exact .inl ⟨_, _, rfl, q.same h (.int _)⟩
  · rename_i ys
    cases hn : intsOf ys with
    | none => rw [hn] at e; cases e
    | some ns =>
      rw [hn] at e
      have e : (if ns.isEmpty then none else some (T.int (maxI ns))) = some c := e
      split at e
      · cases e
      · rename_i hne
        cases e
        have := intsOf_some hn
        subst this
        obtain ⟨v, rfl, r⟩ := rvs1 rv
        cases r with
        | lst a r =>
          cases r.ints_inv
          have hne : ns ≠ [] := fun z => hne (by rw [z]; rfl)
          refine .inr ⟨_, ns, rfl, SqL.of a, List.length_pos_iff.mpr hne, fun m h1 h2 => ?_⟩
          obtain ⟨h3, h4⟩ := maxI_spec hne
          have : m = maxI ns := by have := h2 _ h3; have := h4 _ h1; omega
          rw [this]
          exact q.same h (.int _)
  · cases e
end
end Dl
/-! DlE: the law's end over FnG. -/
namespace Dl
open PySem PySem.Spec PyProof.Rows L2
/-- what the claim wants of the one call -/
def Good (P : Program) (w : World) (fa a : Addr) (z : Shared) : Prop :=
  codeAny (model P w) callerA (.call (.ref fa) ⟨[.ref a], []⟩) (fun r z' => r = .ok (.ret (.bool true)) ∧ OldK z.heap z'.heap ∧ z'.os = z.os ∧ AllBare z'.gens) z
/-- from an abstract heap that tracks the script at the most -/
theorem good_from {P : Program} {w : World} {K : PySem.W.Frag} {mg mb : Str → Option Value} {k : Nat} {fa a : Addr} {fd : FuncData} {x : Str} {sp : Sp} {z : Shared} {vs : List Value} {H : Hp}
    (kin : K.In z.heap) (nsm : z.heap.Ns mainGlobals mg) (nsb : z.heap.Ns builtinsNs mb) (boot : ∀ y : Str, y ≠ "__name__" → mb y = bootBuiltins y) (free : z.heap.NoLimit) (gens : z.gens = #[])
    (scr : z.heap.get? a = some { cls := .type "list", data := .seq vs.toArray }) (room : RoomG k callerA)
    (F : ∀ base : Heap, K.In base → base.Ns mainGlobals mg → FnG P w K mg base k fa fd [x] sp) (bound : ∀ (y : Shared) (u : Value), BindsTo y fd ⟨[u], []⟩ [(x, u)])
    (only : ∀ b, H b = none ∨ ∃ o u, H b = some (.frz o u)) (wish : sp [.ref a] H (fun v _ => v = .bl true) fun _ _ _ => False) (hok : HOk P w H z.heap) (just : ∀ b, H b ≠ none → b = a ∨ b = sysModules) (notK : H a ≠ none → K.lookup a = none) (sysK : K.lookup sysModules = none) : Good P w fa a z := by
  have none_of : ∀ {b : Addr}, b ≠ a → b ≠ sysModules → H b = none := fun {b} ne ns => by
    cases e : H b with
    | none => rfl
    | some u => exact absurd (just b (by rw [e]; exact fun q => nomatch q)) (fun q => q.elim ne ns)
  have dict_ne : ∀ {b : Addr} {o : Obj} {es : Array DictEntry} {ep : Nat}, z.heap.get? b = some o → o.data = .dict es ep → b ≠ a := by
    rintro b o es ep e d rfl
    rw [scr] at e
    cases e
    exact nomatch (show Data.seq vs.toArray _ = Data.dict es ep from d)
  have look_ne : ∀ {b : Addr} {o : Obj}, K.lookup b = some o → H b = none := fun {b o} e => by
    by_cases ne : b = a
    · subst ne
      cases q : H b with
      | none => rfl
      | some u => rw [notK (by rw [q]; exact fun q => nomatch q)] at e; cases e
    · exact none_of ne fun ns => by rw [ns, sysK] at e; cases e
  have names : ∀ {b : Addr} {m : Str → Option Value}, b ≠ sysModules → z.heap.Ns b m → (hidT z.heap H).Ns b m := by
    rintro b m ns ⟨o, es, ep, e, d, r⟩
    exact ⟨o, es, ep, hidT_get e (none_of (dict_ne e d) ns), d, r⟩
  have kinB : K.In (hidT z.heap H) := fun b o e => hidT_get (kin b o e) (look_ne e)
  have mods : Mod K mg (hidT z.heap H) := ⟨kinB, names (by decide) nsm, ⟨mb, names (by decide) nsb, boot⟩, by obtain ⟨mc, h1, h2⟩ := free; exact ⟨mc, names (by decide) h1, h2⟩⟩
  have start0 : Env0 P w K mg (hidT z.heap H) callerA [] z H := ⟨rfl, mods, fun _ _ e => of_hidT e, Nat.le_of_eq (hidT_size _ _), trivial, fun b hb => (List.not_mem_nil (show b ∈ ([] : List Addr) from hb)).elim, hok, .of_eq gens⟩
  refine codeAny_mono ((F _ kinB (names (by decide) nsm)).runs callerA [] z H ⟨[.ref a], []⟩ [.ref a] [.ref a] _ _ room start0 (bound z (.ref a)) (.cons rfl .nil) wish) fun r z' got => ?_
  match r, got with
  | .error e, got => exact (show False from got).elim
  | .ok .next, got => exact (show False from got).elim
  | .ok .brk, got => exact (show False from got).elim
  | .ok .cont, got => exact (show False from got).elim
  | .ok (.ret u), got =>
    obtain ⟨v, H', os, bare, un, hok', rel, (q : v = .bl true)⟩ := got
    subst q
    cases (show u = Value.bool true from rel)
    refine ⟨rfl, OldK.of_keep fun b o e => ?_, os, bare⟩
    rcases only b with n | ⟨ob, u, y⟩
    · exact un.keep b o e n (fun m => (List.not_mem_nil (show b ∈ ([] : List Addr) from m)).elim) (List.not_mem_nil)
    · obtain ⟨e1, _⟩ := hok b _ y
      obtain ⟨e2, _⟩ := hok' b _ (un.frzs b ob _ y)
      rw [e] at e1
      cases e1
      exact e2
theorem good_law {P : Program} {w : World} {K : PySem.W.Frag} {mg mb : Str → Option Value} {k : Nat} {fa a : Addr} {fd : FuncData} {x : Str} {sp : Sp} {z : Shared} {vs : List Value} {ns : List Int}
    (kin : K.In z.heap) (nsm : z.heap.Ns mainGlobals mg) (nsb : z.heap.Ns builtinsNs mb) (boot : ∀ y : Str, y ≠ "__name__" → mb y = bootBuiltins y) (free : z.heap.NoLimit) (gens : z.gens = #[])
    (scr : z.heap.get? a = some { cls := .type "list", data := .seq vs.toArray }) (hin : IntsAre vs ns) (few : ns.length ≤ sizeLine) (room : RoomG k callerA)
    (F : ∀ base : Heap, K.In base → base.Ns mainGlobals mg → FnG P w K mg base k fa fd [x] sp) (bound : ∀ (y : Shared) (u : Value), BindsTo y fd ⟨[u], []⟩ [(x, u)])
    (mods : ∃ o es ep, z.heap.get? sysModules = some o ∧ o.data = .dict es ep) (sysK : K.lookup sysModules = none) (wish : ∀ H : Hp, SysT H → SqL K H a (ns.map V.int) → sp [.ref a] H (fun v _ => v = .bl true) fun _ _ _ => False) : Good P w fa a z := by
  have rel := vals_ints hin
  obtain ⟨om, es, ep, hom, dat⟩ := mods
  have nas : a ≠ sysModules := fun q => by
    rw [q, hom] at scr
    cases scr
    exact nomatch (show Data.seq vs.toArray _ = Data.dict es ep from dat)
  let ms : HO := .frz om (.ext fun _ => True)
  have okM : ∀ H : Hp, ObjOk P w H z.heap sysModules ms := fun H => ⟨hom, trivial, ⟨om, hom⟩, fun _ _ _ _ => trivial⟩
  let H0 : Hp := upd (fun _ => none) sysModules ms
  have at_s : H0 sysModules = some ms := upd_same
  cases hk : K.lookup a with
  | some o =>
    have e := kin a o hk
    rw [scr] at e
    cases e
    have off : ∀ b, b ≠ sysModules → H0 b = none := fun b ne => upd_ne ne
    refine good_from kin nsm nsb boot free gens scr room F bound (fun b => ?_) (wish _ ⟨om, at_s⟩ (.inr ⟨_, vs.toArray, _, hk, rfl, rfl, rfl, by rw [List.size_toArray, hin.length]; exact few, by simpa using rel⟩))
      (fun b u q => ?_) (fun b q => ?_) (fun q => absurd (off a nas) q) sysK
    · by_cases ne : b = sysModules
      · subst ne; exact .inr ⟨_, _, at_s⟩
      · exact .inl (off b ne)
    · by_cases ne : b = sysModules
      · subst ne; rw [at_s] at q; cases q; exact okM _
      · rw [off b ne] at q; cases q
    · by_cases ne : b = sysModules
      · exact .inr ne
      · exact absurd (off b ne) q
  | none =>
    let tr : HO := .frz { cls := .type "list", data := .seq vs.toArray } (.lst (ns.map V.int))
    let H : Hp := upd H0 a tr
    have at_a : H a = some tr := upd_same
    have at_m : H sysModules = some ms := by rw [show H sysModules = H0 sysModules from upd_ne (Ne.symm nas)]; exact at_s
    have off : ∀ b, b ≠ a → b ≠ sysModules → H b = none := fun b ne ns => by rw [show H b = H0 b from upd_ne ne]; exact upd_ne ns
    refine good_from kin nsm nsb boot free gens scr room F bound (fun b => ?_) (wish _ ⟨om, at_m⟩ (.inl (.inr ⟨_, at_a⟩))) (fun b u q => ?_) (fun b q => ?_) (fun _ => hk) sysK
    · by_cases ne : b = a
      · subst ne; exact .inr ⟨_, _, at_a⟩
      · by_cases n2 : b = sysModules
        · subst n2; exact .inr ⟨_, _, at_m⟩
        · exact .inl (off b ne n2)
    · by_cases ne : b = a
      · subst ne
        rw [at_a] at q
        cases q
        exact ⟨scr, by rw [List.length_map]; exact few, vs, _, rel, scr⟩
      · by_cases n2 : b = sysModules
        · subst n2; rw [at_m] at q; cases q; exact okM _
        · rw [off b ne n2] at q; cases q
    · by_cases ne : b = a
      · exact .inl ne
      · by_cases n2 : b = sysModules
        · exact .inr n2
        · exact absurd (off b ne n2) q
/-- the law, by its def's promise -/
theorem walkG {l : PySem.W.OpenLaw} {n k : Nat} {q : Program} {loose : List Str} {XP : (Str → Option Value) → Heap → Prop} {YP : World → Heap → Prop} {d : DefRec} {K : Params → PySem.W.Frag} {x : Str} {den : Den}
    (hn : l.most = some n) (hn2 : n ≤ sizeLine) (hdf : d.params.defaults = []) (room : RoomG k callerA) (hY : ∀ (w : World) (h : Heap), YP w h → (K w.params).In h) (hi : PyProof.Rows.importsNone q = true) (sysK : ∀ w : World, (K w.params).lookup sysModules = none)
    (F : ∀ (w : World) (mg : Str → Option Value) (fa : Addr) (h : Heap), (K w.params).In h → h.Ns mainGlobals mg → mg d.name = some (.ref fa) →
      ∃ fd : FuncData, (∀ (s : Shared) (u : Value), BindsTo s fd ⟨[u], []⟩ [(x, u)]) ∧ ∀ base : Heap, (K w.params).In base → base.Ns mainGlobals mg → FnG l.prog w (K w.params) mg base k fa fd [x] (spD (K w.params) 1 den))
    (plain : ∀ ns : List Int, ns.length ≤ n → (∀ z ∈ ns, Builtin.Int.intBits z ≤ 1048576) → ∃ S', den [.t (.scr ns)] [] = .ok (.t (.bl true)) S') :
    PySem.W.WalkO q loose XP YP l.row.toRowW d [] (fun f vs => PySem.call f vs) := by
  refine Att.attach_callB hn hdf fun w s₀ z mg mb fa o pm cd doc a vs ns G Y _ _ _ named scr hin few bits gens => ?_
  obtain ⟨fd, bound, FF⟩ := F w mg fa _ (hY w _ Y) G.T.g named
  obtain ⟨S', e⟩ := plain ns few bits
  have mods : ∃ o es ep, z.heap.get? sysModules = some o ∧ o.data = .dict es ep := by
    obtain ⟨mm, ⟨o, es, ep, h1, h2, _⟩, _⟩ := (G.T.seer hi).mods
    exact ⟨o, es, ep, h1, h2⟩
  exact good_law (hY w _ Y) G.T.g G.T.b G.T.builtins G.T.nolimit gens scr hin (Nat.le_trans few hn2) room FF bound mods (sysK w) fun H hT hS => law_sp hS hT e
end Dl
/-! Dl10: zip, enumerate, isinstance, dict displays, get, repr. -/
namespace Dl
open PySem PySem.Spec PyProof.Rows L2
section
variable {X : Cx} {tg e a b o c : Expr} {es : List Expr} {f fa fb fo fc : Ex} {fs : Exs} {pos : Pos}
/-! ### zip, enumerate -/
def sameK : SK → SK → Bool
  | .l, .l => true
  | .t, .t => true
  | _, _ => false
def zipW (ws us : List W) : List Item := (ws.zip us).map fun p => .tp [p.1, p.2]
def zip2 (S : Sto) : List W → Option Walked
  | [w1, w2] => (cont S w1).bind fun c1 => (cont S w2).bind fun c2 => if sameK c1.1 c2.1 then some ⟨zipW c1.2.1 c2.2.1, fun S => c1.2.2 S && c2.2.2 S⟩ else none
  | _ => none
def srcZ2 (fs : Exs) : Srcx := fun ρ S => (fs ρ S).bind fun ws S1 => R.of (zip2 S1 ws) S1
def ItzK (k : SK) (K : PySem.W.Frag) (a b : Addr) : It := match k with
  | .l => Itz K a b
  | .t => RZ.ItzT K a b
theorem zip_at {ws us : List W} {i : Nat} {it : Item} (h : (zipW ws us)[i]? = some it) : ∃ x y, ws[i]? = some x ∧ us[i]? = some y ∧ it = .tp [x, y] := by
  unfold zipW at h
  rw [List.getElem?_map] at h
  obtain ⟨p, hp, rfl⟩ := map1 h
  obtain ⟨h1, h2⟩ := List.getElem?_zip_eq_some.mp hp
  exact ⟨p.1, p.2, h1, h2, rfl⟩
theorem wk_zip {K : PySem.W.Frag} {H F : Hp} {μ : List Addr} {a b : Addr} {k : SK} {ws us : List W} {g g' : Sto → Bool} (h : SeqAt k K ws g F μ a) (h' : SeqAt k K us g' F μ b) : Wk K (ItzK k K a b) ⟨zipW ws us, fun S => g S && g' S⟩ H F μ := by
  have hlen : (zipW ws us).length = min ws.length us.length := by unfold zipW; rw [List.length_map, List.length_zip]
  refine ⟨fun H2 S2 F2 μ2 i r2 gr hg hi => ?_, fun H2 S2 F2 μ2 r2 gr hg => ?_, fun H2 S2 F2 μ2 i it x H3 r2 gr hg hi hy => ?_⟩
  · have hg : (g S2 && g' S2) = true := hg
    simp only [Bool.and_eq_true] at hg
    obtain ⟨vs, sq, rw1⟩ := h.at_ H2 S2 F2 μ2 r2 gr.same gr.pre hg.1
    obtain ⟨vs', sq', rw2⟩ := h'.at_ H2 S2 F2 μ2 r2 gr.same gr.pre hg.2
    have hi : i < (zipW ws us).length := hi
    rw [hlen, rw1.length, rw2.length] at hi
    have h1 : vs[i]? = some vs[i] := List.getElem?_eq_getElem (by omega)
    have h2 : vs'[i]? = some vs'[i] := List.getElem?_eq_getElem (by omega)
    cases k with
    | l => exact ⟨vs, vs', _, _, sq, sq', h1, h2⟩
    | t => exact ⟨vs, vs', _, _, sq, sq', h1, h2⟩
  · have hg : (g S2 && g' S2) = true := hg
    simp only [Bool.and_eq_true] at hg
    obtain ⟨vs, sq, rw1⟩ := h.at_ H2 S2 F2 μ2 r2 gr.same gr.pre hg.1
    obtain ⟨vs', sq', rw2⟩ := h'.at_ H2 S2 F2 μ2 r2 gr.same gr.pre hg.2
    show (ItzK k K a b).stop (zipW ws us).length H2
    rw [hlen, rw1.length, rw2.length]
    cases k with
    | l => exact ⟨vs, vs', sq, sq', by omega⟩
    | t => exact ⟨vs, vs', sq, sq', by omega⟩
  · have hg : (g S2 && g' S2) = true := hg
    simp only [Bool.and_eq_true] at hg
    obtain ⟨vs, sq, rw1⟩ := h.at_ H2 S2 F2 μ2 r2 gr.same gr.pre hg.1
    obtain ⟨vs', sq', rw2⟩ := h'.at_ H2 S2 F2 μ2 r2 gr.same gr.pre hg.2
    obtain ⟨p, q, hp, hq, rfl⟩ := zip_at hi
    obtain ⟨v, h1, h2⟩ := rw1.get hp
    obtain ⟨u, h3, h4⟩ := rw2.get hq
    have key : ∃ T, x = .ref T ∧ H2 T = none ∧ H3 = upd H2 T (.tup [v, u]) := by
      cases k with
      | l =>
        obtain ⟨T, x1, y1, z1, z2, z3, z4, z5⟩ := hy
        have e1 := z4 vs sq
        have e2 := z5 vs' sq'
        rw [h1] at e1; rw [h3] at e2
        cases e1; cases e2
        exact ⟨T, z1, z2, z3⟩
      | t =>
        obtain ⟨T, x1, y1, z1, z2, z3, z4, z5⟩ := hy
        have e1 := z4 vs sq
        have e2 := z5 vs' sq'
        rw [h1] at e1; rw [h3] at e2
        cases e1; cases e2
        exact ⟨T, z1, z2, z3⟩
    obtain ⟨T, rfl, hT, rfl⟩ := key
    exact ⟨r2.heap _ (r2.notF hT) (r2.notM hT) (r2.sys.none hT), Gr.updH Gr.refl hT, T, _, rfl, hT, upd_same, .cons h2 (.cons h4 .nil)⟩
theorem ds_zip2 {q tpos : Pos} {elts : List Expr} {kk : Nat} (hg : Gl X "zip") (hm : X.mg "zip" = none) (ha : DA X [a, b] fs)
    (hs : starEach [a, b] X.env = (false, eval a X.env) :: starEach [b] X.env := by rfl) (hpl : (backTo pos (starEach [b] X.env)).any (·.1) = false := by rfl) :
    DI X (.Tuple elts kk tpos) (.Call (.Name "zip" q) [a, b] [] pos) (srcZ2 fs) := by
  intro σ H ρ S F μ its S' R' h hs' e hQ
  obtain ⟨ws, S1, h1, e⟩ := R.bind_eq e
  obtain ⟨h2, rfl⟩ := R.of_eq e
  unfold zip2 at h2
  split at h2
  · rename_i w1 w2
    obtain ⟨c1, c2, q1, q2, h3⟩ := bind2 h2
    obtain ⟨k1, us1, g1⟩ := c1
    obtain ⟨k2, us2, g2⟩ := c2
    split at h3
    · rename_i hk
      cases h3
      have hk : k1 = k2 := by
        cases k1 <;> cases k2 <;> first | rfl | cases hk
      subst hk
      refine wpi (RZ.pi_zipA hg hm paW hs hpl) (ha σ H ρ S F μ _ S' _ h hs' h1 fun vs H1 F1 μ1 r1 g3 q3 => ?_)
      cases q3 with
      | cons ra q3 => cases q3 with
        | cons rb q3 =>
          cases q3
          obtain ⟨⟨p1, rfl, sq1⟩, gg1⟩ := cont_seq (H := H1) ra q1
          obtain ⟨⟨p2, rfl, sq2⟩, gg2⟩ := cont_seq (H := H1) rb q2
          obtain ⟨xs, s1, _⟩ := sq1.at_ H1 S' F1 μ1 r1 (Same.refl _) ⟨[], by simp⟩ gg1
          obtain ⟨ys, s2, _⟩ := sq2.at_ H1 S' F1 μ1 r1 (Same.refl _) ⟨[], by simp⟩ gg2
          have fin := fun J => hQ J H1 F1 μ1 r1 g3
          have gt : (fun S => g1 S && g2 S) S' = true := by simp only [gg1, gg2, Bool.and_self]
          cases k1 with
          | l => exact ⟨p1, p2, xs, ys, rfl, .inl ⟨s1, s2, fin _ (wk_zip sq1 sq2) gt⟩⟩
          | t => exact ⟨p1, p2, xs, ys, rfl, .inr ⟨s1, s2, fin _ (wk_zip sq1 sq2) gt⟩⟩
    · cases h3
  · cases h2
/-! ### isinstance -/
def tyT : T → String
  | .non => "NoneType"
  | .bl _ => "bool"
  | .int _ => "int"
  | .str _ => "str"
  | .tup _ => "tuple"
  | .lst _ => "list"
  | .dct _ => "dict"
  | .scr _ => "list"
theorem sqT_tyx {K : PySem.W.Frag} {H : Hp} {a : Addr} {vs : List V} (h : SqT K H a vs) : TyX K H (.ref a) (.type "tuple") := by
  rcases h with (h | ⟨o, h⟩) | h
  · exact .base (.tup h)
  · exact .fTuple h
  · obtain ⟨o, _, _, h1, h2, _⟩ := h
    exact .kTuple h1 h2
theorem sqL_tyx {K : PySem.W.Frag} {H : Hp} {a : Addr} {vs : List V} (h : SqL K H a vs) : TyX K H (.ref a) (.type "list") := by
  rcases h with (h | ⟨o, h⟩) | h
  · exact .base (.lst h)
  · exact .base (.frz h)
  · obtain ⟨o, _, _, h1, h2, _⟩ := h
    exact .kList h1 h2
theorem tyx_rv {K : PySem.W.Frag} {H F : Hp} {x : T} {v : V} (s : Same F H) (r : Rv K H F x v) : TyX K H v (.type (tyT x)) := by
  cases r with
  | non => exact .base .non
  | bl b => exact .base (.bl b)
  | int i => exact .base (.int i)
  | str x => exact .base (.str x)
  | tup a r => exact sqT_tyx (Same.sqT s a)
  | lst a r => exact .base (.lst a)
  | dct a r =>
    rcases a with a | ⟨o, a⟩
    · exact .base (.dK a)
    · exact .fDict a
  | scr a => exact sqL_tyx a
theorem pe_tyName {x : Str} {id : String} (hg : Gl X x) (hm : X.mg x = none) (hv : bootBuiltins x = some (.type id)) (hn : x ≠ "__name__" := by decide) (hd : (x == ("__debug__" : Str)) = false := by decide) : PE X (.Name x pos) (tC (.ty id)) :=
  ⟨fun pins s σ H Q I h => ld_blt I hg hm hv ⟨.ty id, H, I, rfl, h⟩ hn hd⟩
def isiS (s c : String) : Bool := s == c || (s == "bool" && c == "int")
def isiB (x : T) (c : String) : Bool := isiS (tyT x) c
def okC (c : String) : Bool := c == "int" || c == "bool" || c == "str" || c == "tuple" || c == "list" || c == "dict"
theorem kit_isi (x : T) {c : String} (h : okC c = true) : kitB (tyT x) c = some (isiB x c) := by
  simp only [okC, Bool.or_eq_true, beq_iff_eq] at h
  rcases h with ((((rfl | rfl) | rfl) | rfl) | rfl) | rfl <;> cases x <;> simp only [tyT, isiB] <;> decide +kernel
def gIsi (c : String) (x : T) : Option T := some (.bl (isiB x c))
theorem de_isi {x2 : Str} {id : String} {p1 p2 : Pos} (hg : Gl X "isinstance") (hm : X.mg "isinstance" = none) (hg2 : Gl X x2) (hm2 : X.mg x2 = none) (hv2 : bootBuiltins x2 = some (.type id)) (hok : okC id = true) (hn2 : x2 ≠ "__name__") (ha : DE X a fa)
    (hd2 : (x2 == ("__debug__" : Str)) = false := by decide) (he : starEach [a, .Name x2 p2] X.env = (false, eval a X.env) :: starEach [.Name x2 p2] X.env := by rfl) (he2 : starEach [.Name x2 p2] X.env = (false, eval (.Name x2 p2) X.env) :: starEach [] X.env := by rfl)
    (hpl : (backTo pos (starEach [.Name x2 p2] X.env)).any (·.1) = false := by rfl) : DE X (.Call (.Name "isinstance" p1) [a, .Name x2 p2] [] pos) (e1 (gIsi id) fa) := by
  intro σ H ρ S F μ w S' Q h hs ee hQ
  obtain ⟨w1, x, c, h1, h2, h3, rfl⟩ := e1_eq ee
  cases h3
  refine wpe (pe_callB call_isi hg hm PyProof.Rows.boot_isinstance (pa_cons peW (pa_cons (pe_tyName hg2 hm2 hv2 hn2 hd2) pa_nil he2) he) (by decide) (by decide) he hpl) (ha σ H ρ S F μ w1 S' _ h hs h1 fun v H1 F1 μ1 r1 g1 q1 => ?_)
  exact ⟨v, _, _, _, _, rfl, .ty id, tyx_rv r1.sub (view_rv r1 q1 h2), kit_ty (kit_isi x hok), hQ _ H1 F1 μ1 r1 g1 (show Rp _ _ _ _ from .bl _)⟩
def gIsiT (cs : List String) (x : T) : Option T := some (.bl (cs.any fun c => isiB x c))
theorem kit_any {K : PySem.W.Frag} (x : T) : ∀ {cs : List String}, (∀ c ∈ cs, okC c = true) → PySem.W.kitAny K (.type (tyT x)) (cs.map Value.type) = some (cs.any fun c => isiB x c)
  | [], _ => kitAny_nil
  | c :: cs, h => by
    rw [List.map_cons, List.any_cons]
    refine kitAny_cons (kit_ty (kit_isi x (h c List.mem_cons_self))) (fun e => ?_) (fun e => by rw [e]; rfl)
    rw [e, Bool.false_or]
    exact kit_any x fun d hd => h d (List.mem_cons_of_mem _ hd)
theorem de_isiT2 {x2 x3 : Str} {id id3 : String} {p1 p2 p3 p4 : Pos} {k4 : Nat} (hg : Gl X "isinstance") (hm : X.mg "isinstance" = none) (hg2 : Gl X x2) (hm2 : X.mg x2 = none) (hg3 : Gl X x3) (hm3 : X.mg x3 = none) (ha : DE X a fa)
    (hv2 : bootBuiltins x2 = some (.type id) := by decide +kernel) (hv3 : bootBuiltins x3 = some (.type id3) := by decide +kernel) (hok : okC id = true := by decide) (hok3 : okC id3 = true := by decide) (hn2 : x2 ≠ "__name__" := by decide) (hn3 : x3 ≠ "__name__" := by decide)
    (hd2 : (x2 == ("__debug__" : Str)) = false := by decide) (hd3 : (x3 == ("__debug__" : Str)) = false := by decide)
    (he : starEach [a, .Tuple [.Name x2 p2, .Name x3 p3] k4 p4] X.env = (false, eval a X.env) :: starEach [.Tuple [.Name x2 p2, .Name x3 p3] k4 p4] X.env := by rfl)
    (he2 : starEach [.Tuple [.Name x2 p2, .Name x3 p3] k4 p4] X.env = (false, eval (.Tuple [.Name x2 p2, .Name x3 p3] k4 p4) X.env) :: starEach [] X.env := by rfl)
    (he3 : starEach [.Name x2 p2, .Name x3 p3] X.env = (false, eval (.Name x2 p2) X.env) :: starEach [.Name x3 p3] X.env := by rfl) (he4 : starEach [.Name x3 p3] X.env = (false, eval (.Name x3 p3) X.env) :: starEach [] X.env := by rfl)
    (hpl : (backTo pos (starEach [.Tuple [.Name x2 p2, .Name x3 p3] k4 p4] X.env)).any (·.1) = false := by rfl) : DE X (.Call (.Name "isinstance" p1) [a, .Tuple [.Name x2 p2, .Name x3 p3] k4 p4] [] pos) (e1 (gIsiT [id, id3]) fa) := by
  intro σ H ρ S F μ w S' Q h hs ee hQ
  obtain ⟨w1, x, c, h1, h2, h3, rfl⟩ := e1_eq ee
  cases h3
  refine wpe (pe_callB call_isiT hg hm PyProof.Rows.boot_isinstance (pa_cons peW (pa_cons (pe_tup (pa_cons (pe_tyName hg2 hm2 hv2 hn2 hd2) (pa_cons (pe_tyName hg3 hm3 hv3 hn3 hd3) pa_nil he4) he3)) pa_nil he2) he) (by decide) (by decide) he hpl) (ha σ H ρ S F μ w1 S' _ h hs h1 fun v H1 F1 μ1 r1 g1 q1 => ?_)
  refine ⟨by simp only [List.length_cons, List.length_nil]; rw [sizeLine_eq]; decide, fun p hp => ?_⟩
  have r2 := r1.heap (.tup [.ty id, .ty id3]) (r1.notF hp) (r1.notM hp) (r1.sys.none hp)
  have g2 : Gr H1 F1 μ1 (upd H1 p (.tup [.ty id, .ty id3])) F1 μ1 := Gr.updH Gr.refl hp
  refine ⟨v, p, [.ty id, .ty id3], .type (tyT x), [.type id, .type id3], _, rfl, upd_same, .cons (.ty id) (.cons (.ty id3) .nil), tyx_rv r2.sub (view_rv r2 (q1.gr g2) h2), kit_any x (cs := [id, id3]) ?_, hQ _ _ F1 μ1 r2 (g1.trans g2) (show Rp _ _ _ _ from .bl _)⟩
  intro c hc
  simp only [List.mem_cons, List.not_mem_nil, or_false] at hc
  rcases hc with rfl | rfl
  · exact hok
  · exact hok3
/-! ### dicts -/
def eDictB : Ex := fun _ S => .ok (.r S.length) (S ++ [.dic []])
theorem de_dictB : DE X (.Dict [] [] pos) eDictB := by
  intro σ H ρ S F μ w S' Q h hs e hQ
  cases e
  refine wpe pe_dnewK fun p hp => ?_
  obtain ⟨r2, g2, rr⟩ := h.boxNew (cl := .dic []) (o := .dK []) hp ⟨h.notF hp, [], upd_same, .nil⟩
  exact hQ _ _ _ _ r2 g2 rr
def eDict0 : Ex := fun _ S => .ok (.t (.dct [])) S
theorem de_dict0 : DE X (.Dict [] [] pos) eDict0 := by
  intro σ H ρ S F μ w S' Q h hs e hQ
  cases e
  refine wpe pe_dnewK fun p hp => ?_
  obtain ⟨r2, g2⟩ := h.new (.dK []) hp
  exact hQ _ _ _ _ r2 g2 (show Rp _ _ _ _ from .dct upd_same .nil)
def keyW (S : Sto) (w : W) : Option Key := (view S w).bind keyOf
/-- {k: v} -/
def eDict1B (fa fb : Ex) : Ex := fun ρ S => (fa ρ S).bind fun w1 S1 => (fb ρ S1).bind fun w2 S2 => match keyW S2 w1, w2 with
  | some k, .t x => .ok (.r S2.length) (S2 ++ [.dic [(k, x)]])
  | _, _ => .no
theorem de_dict1B (ha : DE X a fa) (hb : DE X b fb) : DE X (.Dict [some a] [b] pos) (eDict1B fa fb) := by
  intro σ H ρ S F μ w S' Q h hs ee hQ
  obtain ⟨w1, S1, e1, ea⟩ := R.bind_eq ee
  obtain ⟨w2, S2, e2, eb⟩ := R.bind_eq ea
  clear ee ea
  split at eb
  · rename_i k x hk
    cases eb
    refine wpe (pe_disp (pps_cons peW peW pps_nil) rfl rfl (by simp) (by simp)) fun p hp => ?_
    have r0 := h.heap (.dK []) (h.notF hp) (h.notM hp) (h.sys.none hp)
    have g0 : Gr H F μ (upd H p (.dK [])) F μ := Gr.updH Gr.refl hp
    refine ha σ _ ρ S F μ w1 S1 _ r0 hs e1 fun v H1 F1 μ1 r1 g1 q1 => ?_
    refine hb σ H1 ρ S1 F1 μ1 _ S2 _ r1 (hs.gr g1) e2 fun u H2 F2 μ2 r2 g2 q2 => ?_
    have q2 : Rp X.K F2 x u := q2
    obtain ⟨z1, z2, z3⟩ := (g1.trans g2).keep p _ upd_same (h.notF hp) (h.notM hp)
    unfold keyW at hk
    cases hx : view S2 w1 with
    | none => rw [hx] at hk; cases hk
    | some y =>
      rw [hx] at hk
      refine ⟨z1, [(k, u)], ?_, by simp, ?_⟩
      · rw [key_rv (view_rv r2 (q1.gr g2) hx) hk]; rfl
      · have r3 := (r2.heap (.dK [(k, u)]) z2 z3 (r2.sys.dic z1)).box (p := p) (c := .dic [(k, x)]) (by rw [upd_same]; exact fun z => nomatch z) z3 ⟨z2, [(k, u)], upd_same, .cons q2 .nil⟩
        refine hQ _ _ F2 (μ2 ++ [p]) r3 ⟨(g1.trans g2).same, ?_, fun b' o' h1 h2 h3 => ?_, fun b' o' u' e' => ?_⟩ ⟨p, by rw [← r2.len]; simp, rfl⟩
        · obtain ⟨ν, rfl⟩ := (g1.trans g2).pre
          exact ⟨ν ++ [p], by rw [List.append_assoc]⟩
        · have ne : b' ≠ p := ne_of_none h1 hp
          obtain ⟨y1, y2, y3⟩ := ((g0.trans g1).trans g2).keep b' o' h1 h2 h3
          exact ⟨by rw [upd_ne ne]; exact y1, y2, by simp [y3, ne]⟩
        · have ne : b' ≠ p := ne_of_none e' hp
          rw [upd_ne ne]
          exact ((g0.trans g1).trans g2).lk b' o' u' e'
  · cases eb
def getW (S : Sto) (wd wk wz : W) : Option W := (view S wd).bind fun d => match d with
  | .dct kvs => (keyW S wk).map fun k => match lookK kvs k with
    | some x => .t x
    | none => wz
  | _ => none
def isDct : Option T → Bool
  | some (.dct _) => true
  | _ => false
def eGet (fo fa fb : Ex) : Ex := fun ρ S => (fo ρ S).bind fun wd S1 => if isDct (view S1 wd) then (fa ρ S1).bind fun w1 S2 => (fb ρ S2).bind fun w2 S3 => R.of (getW S3 wd w1 w2) S3 else .no
/-- d.get(k, z) -/
theorem de_get {k : Nat} {apos cpos : Pos} (hr : RoomG k X.A) (ho : DE X o fo) (ha : DE X a fa) (hb : DE X b fb) (hbase : attributeBase o "get" X.env (eval o X.env) = eval o X.env := by rfl)
    (hfew : ((backTo cpos (starEach [a, b] X.env)).all (fun x => !x.1) && (backToKw cpos (keywordEach [] X.env)).all (fun x => x.1.isSome)
      && decide (([a, b] : List Expr).length + ([] : List Keyword).length + (if ([] : List Keyword).isEmpty then 0 else 1) < 30)) = true := by rfl)
    (hline : (apos.endLine == cpos.line) = true := by rfl) (hs3 : backTo cpos (starEach [a, b] X.env) = [(false, eval a X.env), (false, eval b X.env)] := by rfl) :
    DE X (.Call (.Attribute o "get" apos) [a, b] [] cpos) (eGet fo fa fb) := by
  intro σ H ρ S F μ w S' Q h hs ee hQ
  obtain ⟨wd, S1, e1, ea⟩ := R.bind_eq ee
  clear ee
  split at ea
  · rename_i hd
    obtain ⟨w1, S2, e2, eb⟩ := R.bind_eq ea
    obtain ⟨w2, S3, e3, ec⟩ := R.bind_eq eb
    clear ea eb
    obtain ⟨h4, rfl⟩ := R.of_eq ec
    refine wpe (pe_dget2 (hu_of hr.toRoom) peW peW peW ⟨hbase, hfew, hline, hs3⟩) ?_
    refine ho σ H ρ S F μ wd S1 _ h hs e1 fun v H1 F1 μ1 r1 g1 q1 => ?_
    unfold isDct at hd
    split at hd
    · rename_i kvs1 hv1
      have rv1 := view_rv r1 q1 hv1
      cases rv1 with
      | dct ad rd =>
        refine ⟨_, rfl, .inl ⟨_, ad⟩, ?_⟩
        refine ha σ H1 ρ S1 F1 μ1 w1 S2 _ r1 (hs.gr g1) e2 fun u H2 F2 μ2 r2 g2 q2 => ?_
        refine hb σ H2 ρ S2 F2 μ2 w2 S' _ r2 ((hs.gr g1).gr g2) e3 fun t H3 F3 μ3 r3 g3 q3 => ?_
        unfold getW at h4
        cases hx : view S' wd with
        | none => rw [hx] at h4; cases h4
        | some d =>
          rw [hx] at h4
          have rv := view_rv r3 ((q1.gr g2).gr g3) hx
          cases d with
          | dct kvs =>
            obtain ⟨key, hk, rfl⟩ := map1 h4
            cases rv with
            | dct ad2 rd2 =>
              unfold keyW at hk
              cases hy : view S' w1 with
              | none => rw [hy] at hk; cases hk
              | some y =>
                rw [hy] at hk
                have ek := key_rv (view_rv r3 (q2.gr g3) hy) hk
                refine ⟨_, by rw [ek]; exact dget_rd ad2, ?_⟩
                have lk := valV_look (k := key) rd2
                cases hl : lookK kvs key with
                | none =>
                  rw [lk.2 hl]
                  rw [hl] at hQ
                  exact hQ _ H3 F3 μ3 r3 ((g1.trans g2).trans g3) q3
                | some z =>
                  obtain ⟨vz, k1, k2⟩ := lk.1 z hl
                  rw [k1]
                  rw [hl] at hQ
                  exact hQ _ H3 F3 μ3 r3 ((g1.trans g2).trans g3) k2
          | _ => cases h4
    · cases hd
  · cases ea
/-! ### repr -/
def bRepr : List T → Option T
  | [x] => if shp x && (toPy x).showable && decide ((toPy x).shown.length ≤ cap) then (match x with
    | .tup _ => some (.str (toPy x).shown)
    | .lst _ => some (.str (toPy x).shown)
    | _ => none) else none
  | _ => none
def rRepr (K : PySem.W.Frag) : List V → Hp → VK → Prop := fun xs H Q => ∃ (a : Addr) (d : PyData), xs = [.ref a] ∧ Dp K H (.ref a) d ∧ SeqAt.shaped d = true ∧ d.canLay0 = true ∧ d.showable = true ∧ d.shown.length ≤ sizeLine ∧ d.depth ≤ 60 ∧ Q (.str d.shown) H
theorem cr_repr {k : Nat} (hr : RoomG k X.A) : CallR X (.builtin "repr") (rRepr X.K) := by
  intro pins s σ H xs us Q I r h
  obtain ⟨a, d, rfl, hd, _, hl, hsh, hz, dep, q⟩ := h
  obtain ⟨u, rfl, ru⟩ := vals1 r
  obtain rfl : u = Value.ref a := ru
  obtain ⟨as, rd⟩ := Dp.reads I d _ _ hd rfl
  refine PySem.repr_of_reads' rd hsh (PySem.PyData.noDict_hsm (PySem.PyData.hasDict_of_canLay d hl)) hr.gd ?_ (fun _ _ e => e) (fun h' u tk hk => ⟨.str d.shown, H, I.kept hk, ⟨_, rfl⟩, q⟩) hz
  have := hr.toRoom.un
  omega
theorem cd_repr {k : Nat} (hr : RoomG k X.A) : CallD X (.builtin "repr") bRepr := by
  refine ⟨_, cr_repr hr, fun H S F μ xs vs c Q h rv e q => ?_⟩
  unfold bRepr at e
  split at e
  · rename_i x
    split at e
    · rename_i hc
      simp only [Bool.and_eq_true, decide_eq_true_eq] at hc
      obtain ⟨⟨h1, h2⟩, h3⟩ := hc
      have hlay := shp_lay h1
      have hdep : (toPy x).depth ≤ 60 := by
        rw [dep_py x hlay]
        unfold shp at h1
        simp only [Bool.and_eq_true, decide_eq_true_eq] at h1
        exact h1.2
      obtain ⟨v, rfl, r⟩ := rvs1 rv
      have dp := rp_dp (r.rp h.sub (shp_nd h1)) hlay
      cases r with
      | tup a r => cases e; exact ⟨_, _, rfl, dp, shp_py h1, by rw [lay_py]; exact hlay, h2, by rw [cap_eq]; exact h3, hdep, q.same h (.str _)⟩
      | lst a r => cases e; exact ⟨_, _, rfl, dp, shp_py h1, by rw [lay_py]; exact hlay, h2, by rw [cap_eq]; exact h3, hdep, q.same h (.str _)⟩
      | _ => cases e
    · cases e
  · cases e
end
end Dl
/-! DkA: the deck's defs and other defs that many laws share, as denotations (printed by gen.py). -/
namespace Dl
open PySem
def RD : Nat := 40
def b_mask_of : Sx := sRet (eCall bSum (aCons (eComp [1] (srcS (eVar 0)) (.nm 1) (tTrue) (e2 gShl (eC (.int 1)) (eVar 1))) (aNil)))
def d_mask_of : Den := fnF 1 2 b_mask_of
def b_masks_of : Sx := sRet (eComp [1] (srcS (eIx (eVar 0) (eC (.int 1)))) (.nm 1) (tTrue) (eFn 1 (d_mask_of) (aCons (eVar 1) (aNil))))
def d_masks_of : Den := fnF 1 2 b_masks_of
def b_is_simple : Sx := sCons (sSet 3 (eCall (lst1 bSorted) (aCons (eComp [4] (srcS (eVar 0)) (.nm 4) (tE (e2 gEq (e2 gAnd (e2 gShr (eVar 4) (eVar 2)) (eC (.int 1))) (eC (.int 1)))) (e2 gAnd (eVar 4) (eVar 1))) (aNil))))
  (sRet (eCall bAll (aCons (eComp [5, 6] (srcZ2 (aCons (eVar 3) (aCons (eSl (eVar 3) (oSome (eC (.int 1))) oNone) (aNil)))) (.tp [.nm 5, .nm 6]) (tTrue) (e2 gEq (e2 gAnd (eVar 5) (eVar 6)) (eVar 5))) (aNil))))
def d_is_simple : Den := fnF 3 7 b_is_simple
def b_simple_digits : Sx := sRet (eComp [2] (srcR1 (aCons (e1 gBitLen (eVar 1)) (aNil))) (.nm 2) (tAndD (tE (e2 gEq (e2 gAnd (e2 gShr (eVar 1) (eVar 2)) (eC (.int 1))) (eC (.int 1)))) (tE (eFn 3 (d_is_simple) (aCons (eVar 0) (aCons (eVar 1) (aCons (eVar 2) (aNil))))))) (eVar 2))
def d_simple_digits : Den := fnF 2 3 b_simple_digits
def b_counts_from (d_counts_from : Nat → Den) (n : Nat) : Sx := sCons (sIf (tE (e2 gEq (eVar 1) (eC (.int 0)))) (sRet (eC (.int 1))) (sNil))
  (sCons (sIf (tE (e2 gNotIn (eVar 1) (eVar 2))) (sAsg (eCall bSum (aCons (eComp [3] (srcS (eFn 2 (d_simple_digits) (aCons (eVar 0) (aCons (eVar 1) (aNil))))) (.nm 3) (tTrue) (eFn 3 (d_counts_from n) (aCons (eVar 0) (aCons (e2 gSub (eVar 1) (e2 gShl (eC (.int 1)) (eVar 3))) (aCons (eVar 2) (aNil)))))) (aNil))) (gSubD (eVar 2) (eVar 1))) (sNil))
  (sRet (eIx (eVar 2) (eVar 1))))
def d_counts_from : Nat → Den
  | 0 => fun _ _ => .no
  | n + 1 => fnF 3 4 (b_counts_from (fun _ => d_counts_from n) n)
def b_count_nested_orders : Sx := sRet (eFn 3 (d_counts_from RD) (aCons (eFn 1 (d_masks_of) (aCons (eVar 0) (aNil))) (aCons (e2 gSub (e2 gShl (eC (.int 1)) (eIx (eVar 0) (eC (.int 0)))) (eC (.int 1))) (aCons (eDictB) (aNil)))))
def d_count_nested_orders : Den := fnF 1 1 b_count_nested_orders
def b__law_deck : Sx := sCons (sSet 1 (eComp [2] (srcS (eVar 0)) (.nm 2) (tTrue) (eCall bAbs (aCons (eVar 2) (aNil)))))
  (sRet (eVecB (aCons (eCompB [2] (srcS (eVar 1)) (.nm 2) (tE (e2 gGe (eVar 2) (e2 gPow (eC (.int 10)) (eC (.int 18))))) (eVar 2)) (aCons (e2L gCat (eVar 1) (eLst (aCons (e2 gAdd (eCall bLen (aCons (eVar 1) (aNil))) (eC (.int 7))) (aNil)))) (aCons (eC (.int 0)) (aNil))))))
def d__law_deck : Den := fnK 1 3 b__law_deck
def b__law_next : Sx := sCons (whL (tE (e2 gNe (eIx (eVar 0) (eC (.int 0))) (eLst (aNil)))) (sCons (sSet 4 (eIx (eIx (eVar 0) (eC (.int 0))) (eC (.int 0))))
  (sCons (sIf (tE (e2 gGt (eVar 4) (eC (.int 0)))) (sCons (sAsg (e2 gDiv (eVar 4) (eVar 1)) (gSubD (eIx (eVar 0) (eC (.int 0))) (eC (.int 0))))
  (sRet (e2 gMod (eVar 4) (eVar 1)))) (sNil))
  (sExpr (eM1 kPopAt (eIx (eVar 0) (eC (.int 0))) (eC (.int 0)))))) LL)
  (sCons (sAsg (e2 gAdd (eIx (eVar 0) (eC (.int 2))) (eC (.int 1))) (gSubD (eVar 0) (eC (.int 2))))
  (sCons (sSet 2 (e2 gMod (eIx (eIx (eVar 0) (eC (.int 1))) (e2 gMod (eIx (eVar 0) (eC (.int 2))) (eCall bLen (aCons (eIx (eVar 0) (eC (.int 1))) (aNil))))) (eC (.int 2147483647))))
  (sCons (sSet 3 (e2 gAdd (e2 gAdd (e2 gMul (eVar 2) (e2 gAdd (eC (.int 48271)) (e2 gMul (eC (.int 69621)) (eIx (eVar 0) (eC (.int 2)))))) (e2 gMul (e2 gMul (eC (.int 40014)) (eIx (eVar 0) (eC (.int 2)))) (eIx (eVar 0) (eC (.int 2))))) (eC (.int 79))))
  (sCons (sSet 3 (e2 gMod (eVar 3) (eC (.int 2147483629))))
  (sRet (e2 gMod (e2 gDiv (e2 gMod (e2 gMul (eVar 3) (eVar 3)) (eC (.int 2147483587))) (eC (.int 16))) (eVar 1)))))))
def d__law_next : Den := fnF 2 5 b__law_next
def b__law_one : Sx := sRet (eIx (eVar 1) (eFn 2 (d__law_next) (aCons (eVar 0) (aCons (eCall bLen (aCons (eVar 1) (aNil))) (aNil)))))
def d__law_one : Den := fnF 2 2 b__law_one
def b__law_same (d__law_same : Nat → Den) (n : Nat) : Sx := sCons (sIf (tE (e1 (gIsiT ["tuple", "list"]) (eVar 1))) (sCons (sIf (tE (e2 gNe (e1 (gIsi "tuple") (eVar 0)) (e1 (gIsi "tuple") (eVar 1)))) (sRet (eC (.bl false))) (sNil))
  (sCons (sIf (tE (e2 gNe (e1 (gIsi "list") (eVar 0)) (e1 (gIsi "list") (eVar 1)))) (sRet (eC (.bl false))) (sNil))
  (sCons (sIf (tE (e2 gNe (eCall bLen (aCons (eVar 0) (aNil))) (eCall bLen (aCons (eVar 1) (aNil))))) (sRet (eC (.bl false))) (sNil))
  (sRet (e2 gEq (eComp [2] (srcR1 (aCons (eCall bLen (aCons (eVar 1) (aNil))) (aNil))) (.nm 2) (tNotD (tE (eFn 2 (d__law_same n) (aCons (eIx (eVar 0) (eVar 2)) (aCons (eIx (eVar 1) (eVar 2)) (aNil)))))) (eVar 2)) (eLst (aNil))))))) (sNil))
  (sCons (sIf (tE (e1 (gIsi "dict") (eVar 1))) (sRet (eAnd (e1 (gIsi "dict") (eVar 0)) (e2 gEq (eVar 0) (eVar 1)))) (sNil))
  (sCons (sIf (tE (e2 gIs (eVar 1) (eC .non))) (sRet (e2 gIs (eVar 0) (eC .non))) (sNil))
  (sCons (sIf (tE (e1 (gIsi "str") (eVar 1))) (sRet (eAnd (e1 (gIsi "str") (eVar 0)) (e2 gEq (eVar 0) (eVar 1)))) (sNil))
  (sRet (eAnd (e1 (gIsi "int") (eVar 0)) (eAnd (e2 gEq (e1 (gIsi "bool") (eVar 0)) (e1 (gIsi "bool") (eVar 1))) (e2 gEq (eVar 0) (eVar 1))))))))
def d__law_same : Nat → Den
  | 0 => fun _ _ => .no
  | n + 1 => fnF 2 3 (b__law_same (fun _ => d__law_same n) n)
def b__law_part : Sx := sRet (eCall bTuple (aCons (eComp [3] (srcS (eVar 1)) (.nm 3) (tE (e2 gGe (eFn 2 (d__law_next) (aCons (eVar 0) (aCons (eC (.int 4)) (aNil)))) (eVar 2))) (eVar 3)) (aNil)))
def d__law_part : Den := fnF 3 4 b__law_part
def b__law_shuffled : Sx := sCons (sPar 2 3 (aCons (eListR1B (aCons (eVar 1) (aNil))) (aCons (eLstB (aNil)) (aNil))))
  (sCons (whL (tE (e2 gNe (eVar 2) (eLst (aNil)))) (sExpr (eM1 kAppend (eVar 3) (eM1 kPopAt (eVar 2) (eFn 2 (d__law_next) (aCons (eVar 0) (aCons (eCall bLen (aCons (eVar 2) (aNil))) (aNil))))))) LL)
  (sRet (eCall bTuple (aCons (eVar 3) (aNil)))))
def d__law_shuffled : Den := fnF 2 4 b__law_shuffled
def b__law_intervals : Sx := sCons (sPar 3 4 (aCons (eFn 2 (d__law_shuffled) (aCons (eVar 0) (aCons (eVar 1) (aNil)))) (aCons (eLstB (aNil)) (aNil))))
  (sCons (sFor (srcR1 (aCons (eVar 2) (aNil))) (.nm 5) (sCons (sSet 6 (eFn 2 (d__law_next) (aCons (eVar 0) (aCons (eVar 1) (aNil)))))
  (sExpr (eM1 kAppend (eVar 4) (eCall bTuple (aCons (eCall (lst1 bSorted) (aCons (eSl (eVar 3) (oSome (eVar 6)) (oSome (e2 gAdd (e2 gAdd (eVar 6) (eC (.int 1))) (eFn 2 (d__law_next) (aCons (eVar 0) (aCons (eVar 1) (aNil))))))) (aNil))) (aNil)))))))
  (sRet (eTup (aCons (eVar 1) (aCons (eCall bTuple (aCons (eVar 4) (aNil))) (aNil))))))
def d__law_intervals : Den := fnF 3 7 b__law_intervals
def b__law_around : Sx := sCons (sPar 3 4 (aCons (eFn 2 (d__law_shuffled) (aCons (eVar 0) (aCons (eVar 1) (aNil)))) (aCons (e2 gAdd (eC (.int 3)) (eFn 2 (d__law_next) (aCons (eVar 0) (aCons (eC (.int 3)) (aNil))))) (aNil))))
  (sCons (sSet 5 (eLstB (aNil)))
  (sCons (sFor (srcR1 (aCons (eVar 2) (aNil))) (.nm 6) (sIf (tAndD (tE (e2 gLe (eVar 4) (eVar 1))) (tE (e2 gLt (eVar 6) (eVar 4)))) (sExpr (eM1 kAppend (eVar 5) (eCall bTuple (aCons (eCall (lst1 bSorted) (aCons (e2 gAdd (eLst (aCons (eIx (eVar 3) (eVar 6)) (aCons (eIx (eVar 3) (e2 gMod (e2 gAdd (eVar 6) (eC (.int 1))) (eVar 4))) (aNil)))) (eCall (lst1 bList) (aCons (eFn 3 (d__law_part) (aCons (eVar 0) (aCons (eSl (eVar 3) (oSome (eVar 4)) oNone) (aCons (eC (.int 3)) (aNil))))) (aNil)))) (aNil))) (aNil))))) (sExpr (eM1 kAppend (eVar 5) (eFn 3 (d__law_part) (aCons (eVar 0) (aCons (eListR1 (aCons (eVar 1) (aNil))) (aCons (e2 gAdd (eC (.int 1)) (eFn 2 (d__law_next) (aCons (eVar 0) (aCons (eC (.int 3)) (aNil))))) (aNil)))))))))
  (sRet (eTup (aCons (eVar 1) (aCons (eCall bTuple (aCons (eComp [6] (srcR1 (aCons (eVar 2) (aNil))) (.nm 6) (tTrue) (eM1 kPopAt (eVar 5) (eFn 2 (d__law_next) (aCons (eVar 0) (aCons (eCall bLen (aCons (eVar 5) (aNil))) (aNil)))))) (aNil))) (aNil)))))))
def d__law_around : Den := fnF 3 7 b__law_around
def b__law_any : Sx := sCons (sPar 3 4 (aCons (eFn 2 (d__law_next) (aCons (eVar 0) (aCons (eC (.int 4)) (aNil)))) (aCons (eLstB (aNil)) (aNil))))
  (sCons (sFor (srcR1 (aCons (eVar 2) (aNil))) (.nm 5) (sIf (tAndD (tE (e2 gNe (eVar 4) (eLst (aNil)))) (tE (e2 gEq (eFn 2 (d__law_next) (aCons (eVar 0) (aCons (eC (.int 6)) (aNil)))) (eC (.int 0))))) (sExpr (eM1 kAppend (eVar 4) (eFn 2 (d__law_one) (aCons (eVar 0) (aCons (eVar 4) (aNil)))))) (sExpr (eM1 kAppend (eVar 4) (eFn 3 (d__law_part) (aCons (eVar 0) (aCons (eListR1 (aCons (eVar 1) (aNil))) (aCons (eVar 3) (aNil)))))))))
  (sRet (eTup (aCons (eVar 1) (aCons (eCall bTuple (aCons (eVar 4) (aNil))) (aNil))))))
def d__law_any : Den := fnF 3 6 b__law_any
def b__law_table : Sx := sCons (sPar 1 2 (aCons (e2 gAdd (eC (.int 1)) (eFn 2 (d__law_next) (aCons (eVar 0) (aCons (eVar 1) (aNil))))) (aCons (eFn 2 (d__law_next) (aCons (eVar 0) (aCons (e2 gAdd (eVar 2) (eC (.int 1))) (aNil)))) (aNil))))
  (sCons (sSet 3 (eFn 2 (d__law_next) (aCons (eVar 0) (aCons (eC (.int 5)) (aNil)))))
  (sCons (sIf (tE (e2 gLt (eVar 3) (eC (.int 2)))) (sRet (eFn 3 (d__law_intervals) (aCons (eVar 0) (aCons (eVar 1) (aCons (eVar 2) (aNil)))))) (sNil))
  (sRet (eIf (tE (e2 gEq (eVar 3) (eC (.int 2)))) (eFn 3 (d__law_around) (aCons (eVar 0) (aCons (eVar 1) (aCons (eVar 2) (aNil))))) (eFn 3 (d__law_any) (aCons (eVar 0) (aCons (eVar 1) (aCons (eVar 2) (aNil)))))))))
def d__law_table : Den := fnF 3 4 b__law_table
end Dl
/-! DkB: the words, applied; what the deck's defs give. -/
namespace Dl
open PySem
section
variable (ρ : Env) (S : Sto) (f fa fb fc : Ex) (fs : Exs) (ft fu : Tx) (g g2 : Sx) (i j k : Nat) (x y : T) (w u : W)
@[simp] theorem bind_ok' {α β : Type} (a : α) (S : Sto) (h : α → Sto → R β) : (R.ok a S).bind h = h a S := rfl
@[simp] theorem thenS_ok {α : Type} (a : α) (S : Sto) (h : α → Sto → O) : thenS (R.ok a S) h = h a S := rfl
@[simp] theorem of_some {α : Type} (a : α) (S : Sto) : R.of (some a) S = .ok a S := rfl
@[simp] theorem of_none {α : Type} (S : Sto) : R.of (none : Option α) S = .no := rfl
@[simp] theorem loopS_nx (h : Env → Sto → O) : loopS h (.nx ρ S) = h ρ S := rfl
@[simp] theorem loopS_ct (h : Env → Sto → O) : loopS h (.ct ρ S) = h ρ S := rfl
@[simp] theorem loopS_bk (h : Env → Sto → O) : loopS h (.bk ρ S) = .nx ρ S := rfl
@[simp] theorem loopS_rt (h : Env → Sto → O) : loopS h (.rt w S) = .rt w S := rfl
@[simp] theorem ap_var : eVar i ρ S = (match ρ[i]? with
  | some (some w) => .ok w S
  | _ => .no) := rfl
@[simp] theorem ap_C : eC x ρ S = .ok (.t x) S := rfl
@[simp] theorem ap_aNil : aNil ρ S = .ok [] S := rfl
@[simp] theorem ap_aCons : aCons f fs ρ S = (f ρ S).bind fun w S1 => (fs ρ S1).bind fun ws S2 => .ok (w :: ws) S2 := rfl
@[simp] theorem ap_eTup : eTup fs ρ S = (fs ρ S).bind fun ws S1 => R.of (treeOf T.tup ws) S1 := rfl
@[simp] theorem ap_eLst : eLst fs ρ S = (fs ρ S).bind fun ws S1 => R.of (treeOf T.lst ws) S1 := rfl
@[simp] theorem ap_e2 (h : T → T → Option T) : e2 h fa fb ρ S = (fa ρ S).bind fun w1 S1 => (fb ρ S1).bind fun w2 S2 => R.of ((view S2 w1).bind fun x => (view S2 w2).bind fun y => (h x y).map W.t) S2 := rfl
@[simp] theorem ap_e1 (h : T → Option T) : e1 h fa ρ S = (fa ρ S).bind fun w S1 => R.of ((view S1 w).bind fun x => (h x).map W.t) S1 := rfl
@[simp] theorem ap_tE : tE f ρ S = (f ρ S).bind fun w S1 => R.of (asB w) S1 := rfl
@[simp] theorem ap_tAnd : tAndD ft fu ρ S = (ft ρ S).bind fun k S1 => if k then fu ρ S1 else .ok false S1 := rfl
@[simp] theorem ap_tOr : tOrD ft fu ρ S = (ft ρ S).bind fun k S1 => if k then .ok true S1 else fu ρ S1 := rfl
@[simp] theorem ap_tNot : tNotD ft ρ S = (ft ρ S).bind fun k S1 => .ok (!k) S1 := rfl
@[simp] theorem ap_tTrue : tTrue ρ S = .ok true S := rfl
@[simp] theorem ap_eAnd : eAnd fa fb ρ S = (tE fa ρ S).bind fun k S1 => if k then fb ρ S1 else .ok (.t (.bl false)) S1 := rfl
@[simp] theorem ap_eOr : eOr fa fb ρ S = (tE fa ρ S).bind fun k S1 => if k then .ok (.t (.bl true)) S1 else fb ρ S1 := rfl
@[simp] theorem ap_eNot : eNot fa ρ S = (tE fa ρ S).bind fun k S1 => .ok (.t (.bl (!k))) S1 := rfl
@[simp] theorem ap_eIf : eIf ft fa fb ρ S = (ft ρ S).bind fun k S1 => if k then fa ρ S1 else fb ρ S1 := rfl
@[simp] theorem ap_eIx : eIx fa fb ρ S = (fa ρ S).bind fun w1 S1 => (fb ρ S1).bind fun w2 S2 => R.of ((view S2 w2).bind fun y => ixW S2 w1 y) S2 := rfl
@[simp] theorem ap_oNone : oNone ρ S = .ok none S := rfl
@[simp] theorem ap_oSome : oSome f ρ S = (f ρ S).bind fun w S1 => R.of ((asI w).map some) S1 := rfl
@[simp] theorem ap_eSl (l u : Ox) : eSl fa l u ρ S = (fa ρ S).bind fun w S1 => (l ρ S1).bind fun lo S2 => (u ρ S2).bind fun hi S3 => R.of ((view S3 w).bind fun x => (gSl x lo hi).map W.t) S3 := rfl
@[simp] theorem ap_eCall (h : List T → Option T) : eCall h fs ρ S = (fs ρ S).bind fun ws S1 => R.of ((views S1 ws).bind fun xs => (h xs).map W.t) S1 := rfl
@[simp] theorem ap_eFn (n : Nat) (den : Den) : eFn n den fs ρ S = (fs ρ S).bind fun ws S1 => if ws.length = n then den ws S1 else .no := rfl
@[simp] theorem ap_sNil : sNil ρ S = .nx ρ S := rfl
@[simp] theorem ap_sCons : sCons g g2 ρ S = (match g ρ S with
  | .nx ρ1 S1 => g2 ρ1 S1
  | o => o) := rfl
@[simp] theorem ap_sExpr : sExpr f ρ S = thenS (f ρ S) fun _ S1 => .nx ρ S1 := rfl
@[simp] theorem ap_sRet : sRet f ρ S = thenS (f ρ S) fun w S1 => .rt w S1 := rfl
@[simp] theorem ap_sIf : sIf ft g g2 ρ S = thenS (ft ρ S) fun k S1 => if k then g ρ S1 else g2 ρ S1 := rfl
@[simp] theorem ap_sSet : sSet i f ρ S = thenS (f ρ S) fun w S1 => .nx (ρ.set i (some w)) S1 := rfl
@[simp] theorem ap_sAsg (gt : Gx) : sAsg f gt ρ S = thenS (f ρ S) fun w S1 => thenS (gt w ρ S1) fun ρ2 S2 => .nx ρ2 S2 := rfl
@[simp] theorem ap_gPat (p : Pat) : gPat p w ρ S = R.of (bindW p w ρ) S := rfl
@[simp] theorem ap_sPar : sPar i j fs ρ S = thenS (fs ρ S) fun ws S1 => (match ws with
  | [w, u] => .nx ((ρ.set i (some w)).set j (some u)) S1
  | _ => .no) := rfl
@[simp] theorem ap_sFor (src : Srcx) (p : Pat) : sFor src p g ρ S = thenS (src ρ S) fun its S1 => forL its.g p g its.l ρ S1 := rfl
@[simp] theorem ap_eComp (vs : List Nat) (src : Srcx) (p : Pat) : eComp vs src p ft f ρ S = (src ρ S).bind fun its S1 => if its.l.length ≤ cap then (compL its.g p ft f its.l (wipeE ρ vs) S1).bind fun xs S2 => .ok (.t (.lst xs)) S2 else .no := rfl
@[simp] theorem ap_srcS : srcS f ρ S = (f ρ S).bind fun w S1 => R.of ((cont S1 w).map fun c => ⟨c.2.1.map Item.one, c.2.2⟩) S1 := rfl
@[simp] theorem ap_srcR1 : srcR1 fs ρ S = (fs ρ S).bind fun ws S1 => R.of (rng1 ws) S1 := rfl
@[simp] theorem ap_srcR2 : srcR2 fs ρ S = (fs ρ S).bind fun ws S1 => R.of (rng2 ws) S1 := rfl
@[simp] theorem ap_srcZ2 : srcZ2 fs ρ S = (fs ρ S).bind fun ws S1 => R.of (zip2 S1 ws) S1 := rfl
@[simp] theorem ap_listR1 : eListR1 fs ρ S = (fs ρ S).bind fun ws S1 => R.of ((lrg ws).map fun ab => .t (.lst (rngV ab.1 ab.2))) S1 := rfl
@[simp] theorem ap_listR1B : eListR1B fs ρ S = (fs ρ S).bind fun ws S1 => (match lrg ws with
  | some ab => .ok (.r S1.length) (S1 ++ [.lst (rngV ab.1 ab.2)])
  | none => .no) := rfl
@[simp] theorem ap_m1 (h : Sto → Cell → W → Option (W × Cell)) : eM1 h fa fb ρ S = (fa ρ S).bind fun w S1 => (match w with
  | .r n => if live S1 n then (fb ρ S1).bind fun v S2 => (match S2[n]?.bind fun c => h S2 c v with
    | some (w', c) => .ok w' (S2.set n c)
    | none => .no) else .no
  | .t _ => .no) := rfl
@[simp] theorem ap_gSub : gSubD fa fb w ρ S = (fa ρ S).bind fun wo S1 => (fb ρ S1).bind fun wi S2 => (match wo with
  | .r n => (match (view S2 wi).bind fun y => S2[n]?.bind fun c => c.put y w with
    | some c => .ok ρ (S2.set n c)
    | none => .no)
  | .t _ => .no) := rfl
@[simp] theorem view_t : view S (.t x) = some x := rfl
@[simp] theorem view_r : view S (.r i) = S[i]?.bind Cell.view := rfl
@[simp] theorem cv_lst (xs : List T) : Cell.view (.lst xs) = some (.lst xs) := rfl
@[simp] theorem cv_dic (xs : List (L2.Key × T)) : Cell.view (.dic xs) = some (.dct xs) := rfl
@[simp] theorem views_nil : views S [] = some [] := rfl
@[simp] theorem views_cons (r : List W) : views S (w :: r) = (view S w).bind fun x => (views S r).map (x :: ·) := rfl
@[simp] theorem asB_bl (b : Bool) : asB (.t (.bl b)) = some b := rfl
@[simp] theorem asI_int (b : Int) : asI (.t (.int b)) = some b := rfl
@[simp] theorem ix_lst (xs : List T) (n : Int) : ixW S (.t (.lst xs)) (.int n) = (L2.atI xs n).map W.t := rfl
@[simp] theorem ix_tup (xs : List T) (n : Int) : ixW S (.t (.tup xs)) (.int n) = (L2.atI xs n).map W.t := rfl
@[simp] theorem ix_r (n : Int) : ixW S (.r i) (.int n) = S[i]?.bind fun c => (match c, T.int n with
    | .dic kvs, k => (keyOf k).bind fun k => (lookK kvs k).map W.t
    | .frz kvs, k => (keyOf k).bind fun k => (lookK kvs k).map W.t
    | c, .int i => c.at i
    | _, _ => none) := rfl
@[simp] theorem at_lst (xs : List T) (n : Int) : Cell.at (.lst xs) n = (L2.atI xs n).map W.t := rfl
@[simp] theorem at_vec (xs : List W) (n : Int) : Cell.at (.vec xs) n = L2.atI xs n := rfl
@[simp] theorem add_int (a b : Int) : gAdd (.int a) (.int b) = some (.int (a + b)) := rfl
@[simp] theorem sub_int (a b : Int) : gSub (.int a) (.int b) = some (.int (a - b)) := rfl
@[simp] theorem mul_int (a b : Int) : gMul (.int a) (.int b) = if smallI a || smallI b then some (.int (a * b)) else none := rfl
@[simp] theorem div_int (a b : Int) : gDiv (.int a) (.int b) = if 0 < b ∧ b.natAbs < 18446744073709551616 then some (.int (a / b)) else none := rfl
@[simp] theorem mod_int (a b : Int) : gMod (.int a) (.int b) = if 0 < b then some (.int (a % b)) else none := rfl
@[simp] theorem pow_int (a b : Int) : gPow (.int a) (.int b) = if cpow a b then some (.int (a ^ b.toNat)) else none := rfl
@[simp] theorem shl_int (a b : Int) : gShl (.int a) (.int b) = if cpow a b then some (.int (a * 2 ^ b.toNat)) else none := rfl
@[simp] theorem shr_int (a b : Int) : gShr (.int a) (.int b) = if 0 ≤ b then some (.int (a / 2 ^ b.toNat)) else none := rfl
@[simp] theorem and_int (a b : Int) : gAnd (.int a) (.int b) = some (.int (Builtin.bitAnd a b)) := rfl
@[simp] theorem cmp_int (p : Int → Int → Bool) (a b : Int) : gCmp p (.int a) (.int b) = some (.bl (p a b)) := rfl
@[simp] theorem lt_int (a b : Int) : gLt (.int a) (.int b) = some (.bl (decide (a < b))) := rfl
@[simp] theorem lt_tup (ns ms : List Int) : gLt (.tup (ns.map T.int)) (.tup (ms.map T.int)) = some (.bl (HT.lexLt ns ms)) := by
  simp [gLt, intsOf_map]
@[simp] theorem sorted_lst (ns : List Int) : bSorted [.lst (ns.map T.int)] = some ((isort ns).map T.int) := by
  simp [bSorted, intsOf_map]
@[simp] theorem sorted_tup (ns : List Int) : bSorted [.tup (ns.map T.int)] = some ((isort ns).map T.int) := by
  simp [bSorted, intsOf_map]
@[simp] theorem len_lst (xs : List T) : bLen [.lst xs] = some (.int xs.length) := rfl
@[simp] theorem len_tup (xs : List T) : bLen [.tup xs] = some (.int xs.length) := rfl
@[simp] theorem tuple_lst (xs : List T) : bTuple [.lst xs] = some (.tup xs) := rfl
@[simp] theorem list_tup (xs : List T) : bList [.tup xs] = some xs := rfl
@[simp] theorem bI_nm : bindI (.nm i) (.one w) ρ = some (ρ.set i (some w)) := rfl
@[simp] theorem bW_nm : bindW (.nm i) w ρ = some (ρ.set i (some w)) := rfl
@[simp] theorem bI_tp (ps : List Pat) (ws : List W) : bindI (.tp ps) (.tp ws) ρ = bindWs ps ws ρ := rfl
@[simp] theorem bI_tup (ps : List Pat) (xs : List T) : bindI (.tp ps) (.one (.t (.tup xs))) ρ = bindWs ps (xs.map W.t) ρ := by simp [bindI, bindW]
@[simp] theorem bW_tup (ps : List Pat) (xs : List T) : bindW (.tp ps) (.t (.tup xs)) ρ = bindWs ps (xs.map W.t) ρ := by simp [bindW]
@[simp] theorem bWs_nil : bindWs [] [] ρ = some ρ := by simp [bindWs]
@[simp] theorem bWs_cons (p : Pat) (ps : List Pat) (ws : List W) : bindWs (p :: ps) (w :: ws) ρ = (bindW p w ρ).bind fun ρ1 => bindWs ps ws ρ1 := by simp [bindWs]
@[simp] theorem tree1 (h : List T → T) (xs : List T) (hl : xs.length ≤ cap) : treeOf h (xs.map W.t) = some (.t (h xs)) := by
  unfold treeOf
  rw [List.length_map, if_pos hl, toTs_map]; rfl
@[simp] theorem tree0 (h : List T → T) : treeOf h [] = some (.t (h [])) := rfl
@[simp] theorem tree_1 (h : List T → T) : treeOf h [.t x] = some (.t (h [x])) := rfl
@[simp] theorem tree_2 (h : List T → T) : treeOf h [.t x, .t y] = some (.t (h [x, y])) := rfl
@[simp] theorem tree_3 (h : List T → T) (z : T) : treeOf h [.t x, .t y, .t z] = some (.t (h [x, y, z])) := rfl
@[simp] theorem wipe0 : wipeE ρ [] = ρ := rfl
@[simp] theorem wipe1 (vs : List Nat) : wipeE ρ (i :: vs) = (wipeE ρ vs).set i none := rfl
@[simp] theorem cont_lst (xs : List T) : cont S (.t (.lst xs)) = some (.l, xs.map W.t, gTrue) := rfl
@[simp] theorem cont_tup (xs : List T) : cont S (.t (.tup xs)) = some (.t, xs.map W.t, gTrue) := rfl
@[simp] theorem cont_scr (ns : List Int) : cont S (.t (.scr ns)) = some (.l, ns.map fun n => .t (.int n), gTrue) := rfl
@[simp] theorem gTrue_eq : gTrue S = true := rfl
@[simp] theorem lst1_eq (h : List T → Option (List T)) (xs : List T) : lst1 h xs = (h xs).map T.lst := rfl
end
theorem atI0 {α : Type} (x : α) (r : List α) : L2.atI (x :: r) 0 = some x := by
  simp [L2.atI, L2.ixN]
theorem atI_nat' {α : Type} {xs : List α} {n : Nat} (h : n < xs.length) : L2.atI xs (n : Int) = some xs[n] := by
  have h1 : (0 : Int) ≤ n := Int.natCast_nonneg n
  have h2 : (n : Int) < xs.length := by omega
  simp [L2.atI, L2.ixN, h1, h2, h]
theorem atI_int {α : Type} {xs : List α} {n : Int} (h0 : 0 ≤ n) (h : n < xs.length) : L2.atI xs n = some (xs[n.toNat]'(by omega)) := by
  obtain ⟨m, rfl⟩ := Int.eq_ofNat_of_zero_le h0
  rw [atI_nat' (by omega)]
  simp
/-! ### a def's end -/
theorem okc_self (c : Cell) : okc c c = true := by
  cases c <;> simp [okc]
theorem truncOk_app : ∀ (S l : Sto), truncOk S (S ++ l) = true
  | [], _ => by simp [truncOk]
  | c :: S, l => by
    rw [List.cons_append]
    simp only [truncOk, Bool.and_eq_true]
    exact ⟨okc_self c, truncOk_app S l⟩
/-- a def that changes nothing -/
theorem fn_rt {n N : Nat} {g : Sx} {ws : List W} {S l : Sto} {x : T} (hn : ws.length = n) (h : g (envOf N ws) S = .rt (.t x) (S ++ l)) : fnF n N g ws S = .ok (.t x) S := by
  unfold fnF callF
  rw [if_pos hn, h]
  simp only [truncOk_app, if_true, finW, of_some]
  rw [List.take_left']
  rfl
theorem fn_rt0 {n N : Nat} {g : Sx} {ws : List W} {S : Sto} {x : T} (hn : ws.length = n) (h : g (envOf N ws) S = .rt (.t x) S) : fnF n N g ws S = .ok (.t x) S := fn_rt (l := []) hn (by rw [List.append_nil]; exact h)
/-! ### lists of ints -/
theorem lays_ints : ∀ ns : List Int, lays (ns.map T.int) = true
  | [] => by simp [lays]
  | n :: r => by simp [lays, lay, lays_ints r]
theorem deps_ints : ∀ ns : List Int, deps (ns.map T.int) ≤ 1
  | [] => by simp [deps]
  | n :: r => by
    have := deps_ints r
    simp [deps, dep]; omega
theorem shp_ints (ns : List Int) : shp (.lst (ns.map T.int)) = true := by
  have := deps_ints ns
  simp [shp, lay, lays_ints, dep]
  omega
theorem eqTs_ints : ∀ ns ms : List Int, eqTs (ns.map T.int) (ms.map T.int) = decide (ns = ms)
  | [], [] => by simp [eqTs]
  | [], _ :: _ => by simp [eqTs]
  | _ :: _, [] => by simp [eqTs]
  | n :: ns, m :: ms => by
    have := eqTs_ints ns ms
    by_cases h : n = m <;> simp [eqTs, eqT, this, h]
theorem ne_nil (ns : List Int) : gNe (.lst (ns.map T.int)) (.lst []) = some (.bl (decide (ns ≠ []))) := by
  show some (T.bl (!(ns.map T.int).isEmpty)) = _
  cases ns <;> simp
end Dl
/-! DkC: the deck. -/
namespace Dl
open PySem
structure Deck where
  ds : List Int
  cs : List Int
  n : Int
def dk (δ : Deck) (Z : Sto) : Sto := .lst (δ.ds.map T.int) :: .lst (δ.cs.map T.int) :: .vec [.r 0, .r 1, .t (.int δ.n)] :: Z
structure Deck.Ok (δ : Deck) (b : Int) : Prop where
  ds : δ.ds.length ≤ 64
  cs0 : 0 < δ.cs.length
  cs1 : δ.cs.length ≤ 64
  n0 : 0 ≤ δ.n
  n1 : δ.n ≤ b
theorem Deck.Ok.mono {δ : Deck} {b c : Int} (h : δ.Ok b) (l : b ≤ c) : δ.Ok c := ⟨h.ds, h.cs0, h.cs1, h.n0, Int.le_trans h.n1 l⟩
section
variable (δ : Deck) (Z : Sto)
@[simp] theorem dk0 : (dk δ Z)[0]? = some (.lst (δ.ds.map T.int)) := rfl
@[simp] theorem dk1 : (dk δ Z)[1]? = some (.lst (δ.cs.map T.int)) := rfl
@[simp] theorem dk2 : (dk δ Z)[2]? = some (.vec [.r 0, .r 1, .t (.int δ.n)]) := rfl
@[simp] theorem dkl0 : live (dk δ Z) 0 = true := rfl
@[simp] theorem dkl2 : live (dk δ Z) 2 = true := rfl
@[simp] theorem dks0 (xs : List Int) : (dk δ Z).set 0 (.lst (xs.map T.int)) = dk ⟨xs, δ.cs, δ.n⟩ Z := rfl
@[simp] theorem dks2 (n : Int) : (dk δ Z).set 2 (.vec [.r 0, .r 1, .t (.int n)]) = dk ⟨δ.ds, δ.cs, n⟩ Z := rfl
@[simp] theorem vi0 (a b c : W) : L2.atI [a, b, c] 0 = some a := by simp [L2.atI, L2.ixN]
@[simp] theorem vi1 (a b c : W) : L2.atI [a, b, c] 1 = some b := by simp [L2.atI, L2.ixN]
@[simp] theorem vi2 (a b c : W) : L2.atI [a, b, c] 2 = some c := by simp [L2.atI, L2.ixN]
theorem dk_trunc (δ' : Deck) (l : Sto) : truncOk (dk δ Z) (dk δ' Z ++ l) = true := by
  simp only [dk, List.cons_append, truncOk, Bool.and_eq_true]
  exact ⟨rfl, rfl, rfl, truncOk_app Z l⟩
theorem dk_take (δ' : Deck) (l : Sto) : (dk δ' Z ++ l).take (dk δ Z).length = dk δ' Z := by
  rw [List.take_left']
  rfl
end
/-- a def that draws -/
theorem fn_dk {n N : Nat} {g : Sx} {ws : List W} {δ δ' : Deck} {Z l : Sto} {x : T} (hn : ws.length = n) (h : g (envOf N ws) (dk δ Z) = .rt (.t x) (dk δ' Z ++ l)) : fnF n N g ws (dk δ Z) = .ok (.t x) (dk δ' Z) := by
  unfold fnF callF
  rw [if_pos hn, h]
  simp only [dk_trunc, if_true, finW, of_some, dk_take]
theorem fn_dk0 {n N : Nat} {g : Sx} {ws : List W} {δ δ' : Deck} {Z : Sto} {x : T} (hn : ws.length = n) (h : g (envOf N ws) (dk δ Z) = .rt (.t x) (dk δ' Z)) : fnF n N g ws (dk δ Z) = .ok (.t x) (dk δ' Z) := fn_dk (l := []) hn (by rw [List.append_nil]; exact h)
theorem put_vec2 (n : Int) (a b c : W) : Cell.put (.vec [a, b, c]) (.int 2) (.t (.int n)) = some (.vec [a, b, .t (.int n)]) := by
  simp [Cell.put, L2.ixN]
theorem put_ints0 (d : Int) (ds : List Int) (v : Int) : Cell.put (.lst ((d :: ds).map T.int)) (.int 0) (.t (.int v)) = some (.lst ((v :: ds).map T.int)) := by
  simp [Cell.put, L2.ixN]
theorem pop_ints0 (S : Sto) (d : Int) (ds : List Int) : kPopAt S (.lst ((d :: ds).map T.int)) (.t (.int 0)) = some (.t (.int d), .lst (ds.map T.int)) := by
  simp [kPopAt, L2.ixN]
/-- the turns of the digits -/
abbrev nxT : Tx := tE (e2 gNe (eIx (eVar 0) (eC (.int 0))) (eLst aNil))
abbrev nxB : Sx := sCons (sSet 4 (eIx (eIx (eVar 0) (eC (.int 0))) (eC (.int 0))))
  (sCons (sIf (tE (e2 gGt (eVar 4) (eC (.int 0)))) (sCons (sAsg (e2 gDiv (eVar 4) (eVar 1)) (gSubD (eIx (eVar 0) (eC (.int 0))) (eC (.int 0))))
  (sRet (e2 gMod (eVar 4) (eVar 1)))) (sNil))
  (sExpr (eM1 kPopAt (eIx (eVar 0) (eC (.int 0))) (eC (.int 0)))))
theorem nx_loop {m : Int} (h0 : 0 < m) (h1 : m < 18446744073709551616) (Z : Sto) (cs : List Int) (n : Int) : ∀ (ds : List Int) (L : Nat) (x : Option W), ds.length < L →
    (∃ v ds', whL nxT nxB L [some (.r 2), some (.t (.int m)), none, none, x] (dk ⟨ds, cs, n⟩ Z) = .rt (.t (.int v)) (dk ⟨ds', cs, n⟩ Z) ∧ 0 ≤ v ∧ v < m ∧ ds'.length ≤ ds.length) ∨
    ∃ x', whL nxT nxB L [some (.r 2), some (.t (.int m)), none, none, x] (dk ⟨ds, cs, n⟩ Z) = .nx [some (.r 2), some (.t (.int m)), none, none, x'] (dk ⟨[], cs, n⟩ Z)
  | [], 0, _, h => absurd h (Nat.lt_irrefl _)
  | [], L + 1, x, _ => by
    refine .inr ⟨x, ?_⟩
    have e := ne_nil []
    rw [List.map_nil] at e
    simp [whL, e]
  | d :: ds, 0, _, h => absurd h (Nat.not_lt_zero _)
  | d :: ds, L + 1, x, h => by
    have h1' : m.natAbs < 18446744073709551616 := by omega
    have hl : ds.length < L := by simpa using h
    have e := ne_nil (d :: ds)
    have p0 := put_ints0 d ds (d / m)
    have p1 := fun S => pop_ints0 S d ds
    rw [List.map_cons] at e p0 p1
    have s0 := fun (xs : List Int) => dks0 ⟨d :: ds, cs, n⟩ Z xs
    by_cases hd : 0 < d
    · refine .inl ⟨d % m, d / m :: ds, ?_, Int.emod_nonneg _ (by omega), Int.emod_lt_of_pos _ h0, by simp⟩
      have s0 := s0 (d / m :: ds)
      simp [whL, e, atI0, hd, h0, h1', p0] 
      exact s0
    · rcases nx_loop h0 h1 Z cs n ds L (some (.t (.int d))) hl with ⟨v, ds', h2, h3, h4, h5⟩ | ⟨x', h2⟩
      · refine .inl ⟨v, ds', ?_, h3, h4, by simp; omega⟩
        simp [whL, e, atI0, hd, h0, h1', p1]
        exact h2
      · refine .inr ⟨x', ?_⟩
        simp [whL, e, atI0, hd, h0, h1', p1]
        exact h2
/-- a draw below m -/
theorem next_ok {δ : Deck} {b m : Int} (Z : Sto) (h : δ.Ok b) (hb : b < 1000000000000) (h0 : 0 < m) (h1 : m < 18446744073709551616) :
    ∃ v δ', d__law_next [.r 2, .t (.int m)] (dk δ Z) = .ok (.t (.int v)) (dk δ' Z) ∧ 0 ≤ v ∧ v < m ∧ δ'.Ok (b + 1) := by
  obtain ⟨ds, cs, n⟩ := δ
  have hL : ds.length < LL := Nat.lt_of_le_of_lt h.ds (by decide)
  rcases nx_loop h0 h1 Z cs n ds LL none hL with ⟨v, ds', h2, h3, h4, h5⟩ | ⟨x', h2⟩
  · refine ⟨v, ⟨ds', cs, n⟩, fn_dk0 rfl ?_, h3, h4, ⟨Nat.le_trans h5 h.ds, h.cs0, h.cs1, h.n0, Int.le_trans h.n1 (by omega)⟩⟩
    unfold b__law_next
    rw [ap_sCons]
    rw [show envOf 5 [W.r 2, .t (.int m)] = [some (.r 2), some (.t (.int m)), none, none, none] from rfl, h2]
  · have n0 : 0 ≤ n := h.n0
    have n1 : n ≤ b := h.n1
    have c0 : 0 < cs.length := h.cs0
    have k1 : (0 : Int) < cs.length := by omega
    have k2 : 0 ≤ (n + 1) % (cs.length : Int) := Int.emod_nonneg _ (by omega)
    have k3 : (n + 1) % (cs.length : Int) < cs.length := Int.emod_lt_of_pos _ k1
    have a1 : L2.atI (cs.map T.int) ((n + 1) % (cs.length : Int)) = some (.int (cs[((n + 1) % (cs.length : Int)).toNat]'(by omega))) := by
      rw [atI_int k2 (by rw [List.length_map]; exact k3)]
      simp
    generalize cs[((n + 1) % (cs.length : Int)).toNat]'(by omega) = c at a1
    let cell := c % 2147483647
    have hc0 : 0 ≤ cell := Int.emod_nonneg _ (by decide)
    have hc1 : cell < 2147483647 := Int.emod_lt_of_pos _ (by decide)
    have q1 : smallI cell = true := by simp [smallI]; omega
    have q2 : smallI 69621 = true := by decide
    have q3 : smallI 40014 = true := by decide
    have q4 : smallI (n + 1) = true := by simp [smallI]; omega
    let mixed := (cell * (48271 + 69621 * (n + 1)) + 40014 * (n + 1) * (n + 1) + 79) % 2147483629
    have hm0 : 0 ≤ mixed := Int.emod_nonneg _ (by decide)
    have hm1 : mixed < 2147483629 := Int.emod_lt_of_pos _ (by decide)
    have q5 : smallI mixed = true := by simp [smallI]; omega
    refine ⟨mixed * mixed % 2147483587 / 16 % m, ⟨[], cs, n + 1⟩, fn_dk0 rfl ?_, Int.emod_nonneg _ (by omega), Int.emod_lt_of_pos _ h0, ⟨by simp, h.cs0, h.cs1, by show 0 ≤ n + 1; omega, by show n + 1 ≤ b + 1; omega⟩⟩
    unfold b__law_next
    rw [ap_sCons]
    rw [show envOf 5 [W.r 2, .t (.int m)] = [some (.r 2), some (.t (.int m)), none, none, none] from rfl, h2]
    have q1' : smallI (c % 2147483647) = true := q1
    have q5' : smallI ((c % 2147483647 * (48271 + 69621 * (n + 1)) + 40014 * (n + 1) * (n + 1) + 79) % 2147483629) = true := q5
    simp [put_vec2, c0, a1, h0, q2, q3, q4, q1', q5', mixed, cell]
end Dl
/-! DkD: what the deck's defs give. -/
namespace Dl
open PySem
def tI (xs : List Int) : T := .tup (xs.map T.int)
def lI (xs : List Int) : T := .lst (xs.map T.int)
/-! ### cells behind the deck -/
section
variable (δ : Deck) (Z l : Sto) (a b c : Cell)
@[simp] theorem dk_len : (dk δ Z).length = Z.length + 3 := rfl
@[simp] theorem dk_app : dk δ Z ++ l = dk δ (Z ++ l) := rfl
@[simp high] theorem dk_get (k : Nat) : (dk δ Z)[k + 3]? = Z[k]? := rfl
@[simp high] theorem dk_set (k : Nat) : (dk δ Z).set (k + 3) c = dk δ (Z.set k c) := rfl
@[simp high] theorem lc0 : (Z ++ a :: l)[Z.length]? = some a := by simp
@[simp high] theorem lc1 : (Z ++ a :: b :: l)[Z.length + 1]? = some b := by simp
@[simp high] theorem ls0 : (Z ++ a :: l).set Z.length c = Z ++ c :: l := by simp
@[simp high] theorem ls1 : (Z ++ a :: b :: l).set (Z.length + 1) c = Z ++ a :: c :: l := by simp
end
@[simp] theorem live_eq (S : Sto) (n : Nat) (xs : List T) (h : S[n]? = some (.lst xs)) : live S n = true := by unfold live; rw [h]
theorem fn_dk' {n N : Nat} {g : Sx} {ws : List W} {δ δ' : Deck} {Z l : Sto} {x : T} (hn : ws.length = n) (h : g (envOf N ws) (dk δ Z) = .rt (.t x) (dk δ' (Z ++ l))) : fnF n N g ws (dk δ Z) = .ok (.t x) (dk δ' Z) := fn_dk hn h
/-! ### _law_part -/
theorem part_loop {share : Int} {wi : Option W} {Z : Sto} : ∀ (xs : List Int) (δ : Deck) (b : Int), δ.Ok b → b + xs.length < 1000000000000 →
    ∃ (ys : List Int) (δ' : Deck), compL gTrue (.nm 3) (tE (e2 gGe (eFn 2 (d__law_next) (aCons (eVar 0) (aCons (eC (.int 4)) (aNil)))) (eVar 2))) (eVar 3) (xs.map fun x => Item.one (.t (.int x))) [some (.r 2), wi, some (.t (.int share)), none] (dk δ Z) = .ok (ys.map T.int) (dk δ' Z)
      ∧ ys.Sublist xs ∧ δ'.Ok (b + xs.length)
  | [], δ, b, h, hb => ⟨[], δ, by simp [compL], .slnil, by simpa using h⟩
  | x :: xs, δ, b, h, hb => by
    have hl : ((x :: xs).length : Int) = xs.length + 1 := by simp
    rw [hl] at hb ⊢
    obtain ⟨v, δ1, q1, v0, v1, h1⟩ := next_ok (m := 4) Z h (by omega) (by decide) (by decide)
    obtain ⟨ys, δ2, q2, s2, h2⟩ := part_loop (share := share) (wi := wi) (Z := Z) xs δ1 (b + 1) h1 (by omega)
    by_cases hv : share ≤ v
    · refine ⟨x :: ys, δ2, ?_, s2.cons₂ x, h2.mono (by omega)⟩
      simp [compL, q1, hv, q2]
    · refine ⟨ys, δ2, ?_, s2.cons x, h2.mono (by omega)⟩
      simp [compL, q1, hv, q2]
theorem part_ok {share : Int} {Z : Sto} {xs : List Int} {δ : Deck} {b : Int} (h : δ.Ok b) (hb : b + xs.length < 1000000000000) (hc : xs.length ≤ cap) (k : List T → T) (hk : k = T.lst ∨ k = T.tup) :
    ∃ (ys : List Int) (δ' : Deck), d__law_part [.r 2, .t (k (xs.map T.int)), .t (.int share)] (dk δ Z) = .ok (.t (tI ys)) (dk δ' Z) ∧ ys.Sublist xs ∧ δ'.Ok (b + xs.length) := by
  obtain ⟨ys, δ2, q2, s2, h2⟩ := part_loop (share := share) (wi := some (.t (k (xs.map T.int)))) (Z := Z) xs δ b h hb
  refine ⟨ys, δ2, fn_dk0 rfl ?_, s2, h2⟩
  have q2' : compL gTrue (.nm 3) (tE (e2 gGe (eFn 2 (d__law_next) (aCons (eVar 0) (aCons (eC (.int 4)) (aNil)))) (eVar 2))) (eVar 3) (List.map (Item.one ∘ W.t ∘ T.int) xs) [some (.r 2), some (.t (k (xs.map T.int))), some (.t (.int share)), none] (dk δ Z) = .ok (ys.map T.int) (dk δ2 Z) := q2
  unfold b__law_part
  rcases hk with rfl | rfl
  · simp [envOf, hc, q2', tI]
  · simp [envOf, hc, q2', tI]
/-! ### _law_shuffled -/
abbrev shT : Tx := tE (e2 gNe (eVar 2) (eLst (aNil)))
abbrev shB : Sx := sExpr (eM1 kAppend (eVar 3) (eM1 kPopAt (eVar 2) (eFn 2 (d__law_next) (aCons (eVar 0) (aCons (eCall bLen (aCons (eVar 2) (aNil))) (aNil))))))
theorem erase_map {α β : Type} (f : α → β) : ∀ (xs : List α) (i : Nat), (xs.map f).eraseIdx i = (xs.eraseIdx i).map f
  | [], _ => rfl
  | _ :: _, 0 => rfl
  | x :: xs, i + 1 => by simp [erase_map f xs i]
def nats (n : Nat) : List Int := (List.range n).map Int.ofNat
theorem cons_erase : ∀ (xs : List Int) (i : Nat) (h : i < xs.length), (xs[i] :: xs.eraseIdx i).Perm xs
  | [], i, h => absurd h (Nat.not_lt_zero _)
  | x :: xs, 0, _ => List.Perm.refl _
  | x :: xs, i + 1, h => by
    have := cons_erase xs i (by simpa using h)
    simp only [List.getElem_cons_succ, List.eraseIdx_cons_succ]
    exact (List.Perm.swap _ _ _).trans (this.cons x)
theorem pop_int (S : Sto) {xs : List Int} {v : Int} (h0 : 0 ≤ v) (h1 : v < xs.length) (h2 : v < 1000000000) :
    kPopAt S (.lst (xs.map T.int)) (.t (.int v)) = some (.t (.int (xs[v.toNat]'(by omega))), .lst ((xs.eraseIdx v.toNat).map T.int)) := by
  have h3 : v.natAbs < 1000000000 := by omega
  have h4 : v.toNat < xs.length := by omega
  simp [kPopAt, L2.ixN, h0, h1, h2, h3, h4, erase_map]
theorem sh_loop {Z : Sto} {wc : Option W} : ∀ (n : Nat) (left found : List Int) (δ : Deck) (b : Int) (L : Nat), left.length = n → δ.Ok b → b + n < 1000000000000 → n < L → left.length + found.length ≤ 1000 →
    ∃ (out : List Int) (δ' : Deck), whL shT shB L [some (.r 2), wc, some (.r (Z.length + 3)), some (.r (Z.length + 1 + 3))] (dk δ (Z ++ [.lst (left.map T.int), .lst (found.map T.int)])) =
      .nx [some (.r 2), wc, some (.r (Z.length + 3)), some (.r (Z.length + 1 + 3))] (dk δ' (Z ++ [.lst [], .lst (out.map T.int)])) ∧ out.Perm (found ++ left) ∧ δ'.Ok (b + n)
  | _, _, _, _, _, 0, _, _, _, h, _ => absurd h (Nat.not_lt_zero _)
  | 0, left, found, δ, b, L + 1, hn, h, hb, hL, hc => by
    have : left = [] := List.length_eq_zero_iff.mp hn
    subst this
    refine ⟨found, δ, ?_, by simp, by simpa using h⟩
    have e := ne_nil []
    rw [List.map_nil] at e
    simp [whL, e]
  | n + 1, left, found, δ, b, L + 1, hn, h, hb, hL, hc => by
    obtain ⟨v, δ1, q1, v0, v1, h1⟩ := next_ok (m := left.length) (Z ++ [.lst (left.map T.int), .lst (found.map T.int)]) h (by omega) (by omega) (by omega)
    have hv : v.toNat < left.length := by omega
    have hp := fun S => pop_int (S := S) (xs := left) v0 v1 (by omega)
    have el : (left.eraseIdx v.toNat).length = n := by rw [List.length_eraseIdx, if_pos hv]; omega
    obtain ⟨out, δ2, q2, p2, h2⟩ := sh_loop (Z := Z) (wc := wc) n (left.eraseIdx v.toNat) (found ++ [left[v.toNat]]) δ1 (b + 1) L el h1 (by omega) (by omega) (by rw [el]; simp; omega)
    refine ⟨out, δ2, ?_, ?_, h2.mono (by omega)⟩
    · have hne : left ≠ [] := fun z => by subst z; simp at hn
      have hcl : found.length < cap := Nat.lt_of_le_of_lt (show found.length ≤ 1000 by omega) (by decide)
      have e3 := ne_nil left
      rw [List.map_append] at q2
      simp [whL, e3, hne, q1, hp, kAppend, hcl]
      exact q2
    · refine p2.trans ?_
      rw [List.append_assoc]
      exact List.Perm.append_left _ (cons_erase left v.toNat hv)
theorem sCons_nx {g g2 : Sx} {ρ ρ1 : Env} {S S1 : Sto} (h : g ρ S = .nx ρ1 S1) : sCons g g2 ρ S = g2 ρ1 S1 := by
  show (match g ρ S with
    | .nx ρ1 S1 => g2 ρ1 S1
    | o => o) = _
  rw [h]
theorem ap_lstB0 (ρ : Env) (S : Sto) : eLstB aNil ρ S = .ok (.r S.length) (S ++ [.lst []]) := by
  unfold eLstB
  simp only [ap_aNil, bind_ok', toTs]
  rw [if_pos (show ([] : List W).length ≤ cap from Nat.zero_le _)]
theorem r1B (ρ : Env) (S : Sto) (j : Int) (h : rok 0 j = true) (fs : Exs) (e : fs ρ S = .ok [.t (.int j)] S) : eListR1B fs ρ S = .ok (.r S.length) (S ++ [.lst (rngV 0 j)]) := by
  rw [ap_listR1B, e]
  simp only [bind_ok', lrg, h, if_true]
theorem LL_big {m : Nat} (h : m ≤ 1000) : m < LL := Nat.lt_of_le_of_lt h (by decide)
theorem cap_big {m : Nat} (h : m ≤ 100000) : m ≤ cap := Nat.le_trans h (by decide)
theorem shuffled_ok {Z : Sto} {n : Int} {δ : Deck} {b : Int} (h : δ.Ok b) (hb : b + n < 1000000000000) (n0 : 0 ≤ n) (n1 : n ≤ 1000) :
    ∃ (out : List Int) (δ' : Deck), d__law_shuffled [.r 2, .t (.int n)] (dk δ Z) = .ok (.t (tI out)) (dk δ' Z) ∧ out.Perm (nats n.toNat) ∧ δ'.Ok (b + n) := by
  obtain ⟨m, rfl⟩ := Int.eq_ofNat_of_zero_le n0
  have hL : m < LL := LL_big (by omega)
  have hr : rok 0 (m : Int) = true := by
    have : m ≤ cap := cap_big (by omega)
    simp [rok, rlim, this]; omega
  have hv : rngV 0 (m : Int) = List.map T.int (nats m) := by simp [rngV, nats]
  unfold d__law_shuffled b__law_shuffled
  generalize LL = L at hL ⊢
  obtain ⟨out, δ2, q2, p2, h2⟩ := sh_loop (Z := Z) (wc := some (.t (.int (m : Int)))) m (nats m) [] δ b L (by simp [nats]) h (by omega) hL (by simp [nats]; omega)
  rw [List.map_nil] at q2
  refine ⟨out, δ2, fn_dk' (l := [.lst [], .lst (out.map T.int)]) rfl ?_, by simpa using p2, h2⟩
  have q1 : sPar 2 3 (aCons (eListR1B (aCons (eVar 1) (aNil))) (aCons (eLstB (aNil)) (aNil))) (envOf 4 [W.r 2, .t (.int (m : Int))]) (dk δ Z) =
      .nx [some (.r 2), some (.t (.int (m : Int))), some (.r (Z.length + 3)), some (.r (Z.length + 1 + 3))] (dk δ (Z ++ [.lst ((nats m).map T.int), .lst []])) := by
    rw [ap_sPar, ap_aCons, r1B _ _ (m : Int) hr _ (by simp [envOf]), hv]
    simp only [bind_ok', ap_aCons, ap_lstB0, ap_aNil, thenS_ok, dk_app, dk_len]
    simp [envOf]
  rw [sCons_nx q1, sCons_nx q2]
  simp [tI]
end Dl
/-! DkE: drawn tables. -/
namespace Dl
open PySem
/-- an offer of a table of d demands -/
structure OffOk (d : Int) (o : List Int) : Prop where
  asc : o.Pairwise (· < ·)
  rng : ∀ x ∈ o, 0 ≤ x ∧ x < d
theorem isort_strict {xs : List Int} (h : xs.Nodup) : (isort xs).Pairwise (· < ·) := by
  have h1 := isort_sorted xs
  have h2 : (isort xs).Nodup := (isort_perm xs).nodup_iff.mpr h
  exact (h1.and h2).imp fun ⟨a, b⟩ => by have : _ ≠ _ := b; omega
theorem nats_asc (n : Nat) : (nats n).Pairwise (· < ·) := by
  unfold nats
  rw [List.pairwise_map]
  exact List.pairwise_lt_range.imp fun h => by simpa using h
theorem nats_nodup (n : Nat) : (nats n).Nodup := (nats_asc n).imp fun h => by omega
theorem nats_mem {n : Nat} {x : Int} : x ∈ nats n ↔ 0 ≤ x ∧ x < n := by
  unfold nats
  simp only [List.mem_map, List.mem_range]
  constructor
  · rintro ⟨i, h, rfl⟩; exact ⟨by simp, by simp; omega⟩
  · rintro ⟨h1, h2⟩; exact ⟨x.toNat, by omega, by simp; omega⟩
theorem nats_len (n : Nat) : (nats n).length = n := by simp [nats]
theorem rngI_nats (n : Nat) : rngI 0 n = (nats n).map fun k => Item.one (.t (.int k)) := by
  simp [rngI, nats]
theorem cutL_map {α β : Type} (f : α → β) (xs : List α) (lo hi : Option Int) : cutL (xs.map f) lo hi = (cutL xs lo hi).map f := by
  simp [cutL, List.map_take, List.map_drop]
theorem cutL_sub {α : Type} (xs : List α) (lo hi : Option Int) : (cutL xs lo hi).Sublist xs := by
  unfold cutL
  exact (List.take_sublist _ _).trans (List.drop_sublist _ _)
@[simp] theorem sl_tI (xs : List Int) (lo hi : Option Int) : gSl (tI xs) lo hi = some (tI (cutL xs lo hi)) := by
  simp [gSl, tI, cutL_map]
@[simp] theorem srt_tI (xs : List Int) : bSorted [tI xs] = some ((isort xs).map T.int) := sorted_tup xs
theorem off_sub {d : Int} {xs ys : List Int} (h : OffOk d xs) (s : ys.Sublist xs) : OffOk d ys := ⟨h.asc.sublist s, fun x hx => h.rng x (s.subset hx)⟩
theorem off_nats (n : Nat) : OffOk n (nats n) := ⟨nats_asc n, fun x hx => nats_mem.mp hx⟩
theorem off_sort {d : Int} {xs : List Int} (h : xs.Nodup) (r : ∀ x ∈ xs, 0 ≤ x ∧ x < d) : OffOk d (isort xs) := ⟨isort_strict h, fun x hx => r x ((isort_perm xs).mem_iff.mp hx)⟩
theorem perm_rng {n : Nat} {xs : List Int} (p : xs.Perm (nats n)) : xs.Nodup ∧ (∀ x ∈ xs, 0 ≤ x ∧ x < n) ∧ xs.length = n :=
  ⟨p.nodup_iff.mpr (nats_nodup n), fun x hx => nats_mem.mp (p.mem_iff.mp hx), by rw [p.length_eq, nats_len]⟩
/-! ### _law_intervals -/
abbrev ivB : Sx := sCons (sSet 6 (eFn 2 (d__law_next) (aCons (eVar 0) (aCons (eVar 1) (aNil)))))
  (sExpr (eM1 kAppend (eVar 4) (eCall bTuple (aCons (eCall (lst1 bSorted) (aCons (eSl (eVar 3) (oSome (eVar 6)) (oSome (e2 gAdd (e2 gAdd (eVar 6) (eC (.int 1))) (eFn 2 (d__law_next) (aCons (eVar 0) (aCons (eVar 1) (aNil))))))) (aNil))) (aNil)))))
theorem iv_loop {Z : Sto} {d : Int} {wo : Option W} {order : List Int} (d0 : 0 < d) (d1 : d ≤ 1000) (nd : order.Nodup) (rg : ∀ x ∈ order, 0 ≤ x ∧ x < d) : ∀ (ks : List Int) (δ : Deck) (b : Int) (found : List (List Int)) (x5 x6 : Option W),
    δ.Ok b → b + 2 * ks.length < 1000000000000 → (∀ o ∈ found, OffOk d o) → found.length + ks.length ≤ 1000 →
    ∃ (out : List (List Int)) (δ' : Deck) (y5 y6 : Option W), forL gTrue (.nm 5) ivB (ks.map fun k => Item.one (.t (.int k))) [some (.r 2), some (.t (.int d)), wo, some (.t (tI order)), some (.r (Z.length + 3)), x5, x6] (dk δ (Z ++ [.lst (found.map tI)])) =
      .nx [some (.r 2), some (.t (.int d)), wo, some (.t (tI order)), some (.r (Z.length + 3)), y5, y6] (dk δ' (Z ++ [.lst (out.map tI)])) ∧ (∀ o ∈ out, OffOk d o) ∧ out.length = found.length + ks.length ∧ δ'.Ok (b + 2 * ks.length)
  | [], δ, b, found, x5, x6, h, hb, hf, hc => ⟨found, δ, x5, x6, by simp [forL], hf, by simp, by simpa using h⟩
  | k :: ks, δ, b, found, x5, x6, h, hb, hf, hc => by
    have hl : ((k :: ks).length : Int) = ks.length + 1 := by simp
    rw [hl] at hb ⊢
    have hc' : found.length + (ks.length + 1) ≤ 1000 := by simpa using hc
    obtain ⟨v, δ1, q1, v0, v1, h1⟩ := next_ok (m := d) (Z ++ [.lst (found.map tI)]) h (by omega) d0 (by omega)
    obtain ⟨u, δ2, q2, u0, u1, h2⟩ := next_ok (m := d) (Z ++ [.lst (found.map tI)]) h1 (by omega) d0 (by omega)
    let o := isort (cutL order (some v) (some (v + 1 + u)))
    have ho : OffOk d o := off_sort (nd.sublist (cutL_sub _ _ _)) fun x hx => rg x ((cutL_sub _ _ _).subset hx)
    obtain ⟨out, δ3, y5, y6, q3, r1, r2, r3⟩ := iv_loop d0 d1 nd rg ks δ2 (b + 1 + 1) (found ++ [o]) (some (.t (.int k))) (some (.t (.int v))) h2 (by omega) (fun x hx => by
      rcases List.mem_append.mp hx with hx | hx
      · exact hf x hx
      · rw [List.mem_singleton.mp hx]; exact ho) (by simp; omega)
    refine ⟨out, δ3, y5, y6, ?_, r1, by rw [r2]; simp; omega, r3.mono (by omega)⟩
    have hcl : found.length < cap := Nat.lt_of_lt_of_le (show found.length < 1000 by omega) (cap_big (by decide))
    rw [List.map_append] at q3
    rw [List.map_cons]
    unfold forL
    simp [q1, q2, kAppend, hcl]
    exact q3
theorem intervals_ok {Z : Sto} {d k : Int} {δ : Deck} {b : Int} (h : δ.Ok b) (hb : b < 999999000000) (d0 : 0 < d) (d1 : d ≤ 1000) (k0 : 0 ≤ k) (k1 : k ≤ 1000) :
    ∃ (out : List (List Int)) (δ' : Deck), d__law_intervals [.r 2, .t (.int d), .t (.int k)] (dk δ Z) = .ok (.t (.tup [.int d, .tup (out.map tI)])) (dk δ' Z) ∧ (∀ o ∈ out, OffOk d o) ∧ (out.length : Int) = k ∧ δ'.Ok (b + d + 2 * k) := by
  obtain ⟨n, rfl⟩ := Int.eq_ofNat_of_zero_le k0
  obtain ⟨order, δ1, q1, p1, h1⟩ := shuffled_ok (Z := Z) (n := d) h (by omega) (by omega) d1
  obtain ⟨nd, rg, _⟩ := perm_rng p1
  have rg' : ∀ x ∈ order, 0 ≤ x ∧ x < d := fun x hx => by have := rg x hx; omega
  obtain ⟨out, δ2, y5, y6, q2, r1, r2, r3⟩ := iv_loop (Z := Z) (d := d) (wo := some (.t (.int (n : Int)))) (order := order) d0 d1 nd rg' (nats n) δ1 (b + d) [] none none h1 (by rw [nats_len]; omega) (fun o ho => by simp at ho) (by rw [nats_len]; simp; omega)
  rw [nats_len] at r2 r3
  refine ⟨out, δ2, fn_dk' (l := [.lst (out.map tI)]) rfl ?_, r1, by rw [r2]; simp, r3⟩
  have q0 : sPar 3 4 (aCons (eFn 2 (d__law_shuffled) (aCons (eVar 0) (aCons (eVar 1) (aNil)))) (aCons (eLstB (aNil)) (aNil))) (envOf 7 [W.r 2, .t (.int d), .t (.int (n : Int))]) (dk δ Z) =
      .nx [some (.r 2), some (.t (.int d)), some (.t (.int (n : Int))), some (.t (tI order)), some (.r (Z.length + 3)), none, none] (dk δ1 (Z ++ [.lst []])) := by
    simp [envOf, q1, ap_lstB0]
  have q3 : sFor (srcR1 (aCons (eVar 2) (aNil))) (.nm 5) ivB [some (.r 2), some (.t (.int d)), some (.t (.int (n : Int))), some (.t (tI order)), some (.r (Z.length + 3)), none, none] (dk δ1 (Z ++ [.lst []])) =
      .nx [some (.r 2), some (.t (.int d)), some (.t (.int (n : Int))), some (.t (tI order)), some (.r (Z.length + 3)), y5, y6] (dk δ2 (Z ++ [.lst (out.map tI)])) := by
    have hr : rlim (n : Int) = true := by simp [rlim]; omega
    rw [List.map_nil] at q2
    simp [rng1, hr, rngI_nats]
    exact q2
  have hcl : out.length ≤ cap := cap_big (by rw [r2]; simp; omega)
  unfold b__law_intervals
  rw [sCons_nx q0, sCons_nx q3]
  simp
end Dl
/-! DkF: drawn tables, the other two ways. -/
namespace Dl
open PySem
@[simp] theorem eq_int (a b : Int) : gEq (.int a) (.int b) = some (.bl (decide (a = b))) := by
  simp [gEq, shp, lay, dep, eqT]
  by_cases h : a = b <;> simp [h]
theorem lay_tI (xs : List Int) : lay (tI xs) = true := by simp [tI, lay, lays_ints]
theorem dep_tI (xs : List Int) : dep (tI xs) ≤ 2 := by
  have := deps_ints xs
  simp [tI, dep]; omega
theorem lays_tIs : ∀ os : List (List Int), lays (os.map tI) = true
  | [] => by simp [lays]
  | o :: r => by simp [lays, lay_tI, lays_tIs r]
theorem deps_tIs : ∀ os : List (List Int), deps (os.map tI) ≤ 2
  | [] => by simp [deps]
  | o :: r => by
    have := deps_tIs r
    have := dep_tI o
    simp [deps]; omega
theorem ne_nil_tI (os : List (List Int)) : gNe (.lst (os.map tI)) (.lst []) = some (.bl (decide (os ≠ []))) := by
  have h1 : shp (.lst (os.map tI)) = true := by
    have := deps_tIs os
    simp [shp, lay, lays_tIs, dep]; omega
  have h2 : shp (.lst []) = true := shp_ints []
  cases os with
  | nil => simp [gNe, h2, eqT, eqTs]
  | cons o r => rw [List.map_cons] at h1 ⊢; simp [gNe, h1, h2, eqT, eqTs]
/-- one of a cell's items -/
theorem one_cell {Z : Sto} {xs : List (List Int)} {δ : Deck} {b : Int} (h : δ.Ok b) (hb : b < 1000000000000) (ne : xs ≠ []) (few : xs.length ≤ 1000) :
    ∃ (o : List Int) (δ' : Deck), d__law_one [.r 2, .r (Z.length + 3)] (dk δ (Z ++ [.lst (xs.map tI)])) = .ok (.t (tI o)) (dk δ' (Z ++ [.lst (xs.map tI)])) ∧ o ∈ xs ∧ δ'.Ok (b + 1) := by
  have hp := List.length_pos_iff.mpr ne
  obtain ⟨v, δ1, q1, v0, v1, h1⟩ := next_ok (m := xs.length) (Z ++ [.lst (xs.map tI)]) h hb (by omega) (by omega)
  have hv : v.toNat < xs.length := by omega
  refine ⟨xs[v.toNat], δ1, fn_dk0 rfl ?_, List.getElem_mem hv, h1⟩
  have a1 : L2.atI (xs.map tI) v = some (tI xs[v.toNat]) := by
    rw [atI_int v0 (by rw [List.length_map]; exact v1)]
    simp
  unfold b__law_one
  simp [envOf, q1, a1]
/-! ### _law_any -/
abbrev anB : Sx := sIf (tAndD (tE (e2 gNe (eVar 4) (eLst (aNil)))) (tE (e2 gEq (eFn 2 (d__law_next) (aCons (eVar 0) (aCons (eC (.int 6)) (aNil)))) (eC (.int 0))))) (sExpr (eM1 kAppend (eVar 4) (eFn 2 (d__law_one) (aCons (eVar 0) (aCons (eVar 4) (aNil))))))
  (sExpr (eM1 kAppend (eVar 4) (eFn 3 (d__law_part) (aCons (eVar 0) (aCons (eListR1 (aCons (eVar 1) (aNil))) (aCons (eVar 3) (aNil)))))))
theorem listR1_ok {ρ : Env} {S : Sto} {d : Int} {fs : Exs} (e : fs ρ S = .ok [.t (.int d)] S) (d0 : 0 ≤ d) (d1 : d ≤ 1000) : eListR1 fs ρ S = .ok (.t (.lst ((nats d.toNat).map T.int))) S := by
  have hr : rok 0 d = true := by
    have : d.toNat ≤ cap := cap_big (by omega)
    simp [rok, rlim, this]; omega
  rw [ap_listR1, e]
  simp [lrg, hr, rngV, nats]
theorem lrg_ok {d : Int} (d0 : 0 ≤ d) (d1 : d ≤ 1000) : lrg [.t (.int d)] = some (0, d) ∧ rngV 0 d = (nats d.toNat).map T.int := by
  have hr : rok 0 d = true := by
    have : d.toNat ≤ cap := cap_big (by omega)
    simp [rok, rlim, this]; omega
  simp [lrg, hr, rngV, nats]
theorem part_rng {Z : Sto} {d share : Int} {δ : Deck} {b : Int} (h : δ.Ok b) (hb : b + d < 1000000000000) (d0 : 0 ≤ d) (d1 : d ≤ 1000) :
    ∃ (ys : List Int) (δ' : Deck), d__law_part [.r 2, .t (.lst ((nats d.toNat).map T.int)), .t (.int share)] (dk δ Z) = .ok (.t (tI ys)) (dk δ' Z) ∧ OffOk d ys ∧ δ'.Ok (b + d) := by
  obtain ⟨ys, δ1, q1, s1, h1⟩ := part_ok (share := share) (Z := Z) (xs := nats d.toNat) h (by rw [nats_len]; omega) (cap_big (by rw [nats_len]; omega)) T.lst (.inl rfl)
  rw [nats_len] at h1
  have hd : ((d.toNat : Nat) : Int) = d := by omega
  exact ⟨ys, δ1, q1, by have := off_sub (off_nats d.toNat) s1; rw [hd] at this; exact this, h1.mono (by omega)⟩
theorem an_loop {Z : Sto} {d share : Int} {wo : Option W} (d0 : 0 ≤ d) (d1 : d ≤ 1000) : ∀ (ks : List Int) (δ : Deck) (b : Int) (found : List (List Int)) (x5 : Option W),
    δ.Ok b → b + (d + 2) * ks.length < 1000000000000 → (∀ o ∈ found, OffOk d o) → found.length + ks.length ≤ 1000 →
    ∃ (out : List (List Int)) (δ' : Deck) (y5 : Option W), forL gTrue (.nm 5) anB (ks.map fun k => Item.one (.t (.int k))) [some (.r 2), some (.t (.int d)), wo, some (.t (.int share)), some (.r (Z.length + 3)), x5] (dk δ (Z ++ [.lst (found.map tI)])) =
      .nx [some (.r 2), some (.t (.int d)), wo, some (.t (.int share)), some (.r (Z.length + 3)), y5] (dk δ' (Z ++ [.lst (out.map tI)])) ∧ (∀ o ∈ out, OffOk d o) ∧ out.length = found.length + ks.length ∧ δ'.Ok (b + (d + 2) * ks.length)
  | [], δ, b, found, x5, h, hb, hf, hc => ⟨found, δ, x5, by simp [forL], hf, by simp, by simpa using h⟩
  | k :: ks, δ, b, found, x5, h, hb, hf, hc => by
    have hl : (d + 2) * ((k :: ks).length : Int) = (d + 2) * ks.length + d + 2 := by
      rw [List.length_cons]
      have : (((ks.length + 1 : Nat)) : Int) = ks.length + 1 := by simp
      rw [this, Int.mul_add]; omega
    rw [hl] at hb ⊢
    have hm : 0 ≤ (d + 2) * (ks.length : Int) := Int.mul_nonneg (by omega) (by omega)
    have hc' : found.length + (ks.length + 1) ≤ 1000 := by simpa using hc
    have hcl : found.length < cap := Nat.lt_of_lt_of_le (show found.length < 1000 by omega) (cap_big (by decide))
    have nn := ne_nil_tI found
    -- what is appended
    suffices step : ∃ (o : List Int) (δ1 : Deck), OffOk d o ∧ δ1.Ok (b + d + 2) ∧ anB [some (.r 2), some (.t (.int d)), wo, some (.t (.int share)), some (.r (Z.length + 3)), some (.t (.int k))] (dk δ (Z ++ [.lst (found.map tI)])) =
        .nx [some (.r 2), some (.t (.int d)), wo, some (.t (.int share)), some (.r (Z.length + 3)), some (.t (.int k))] (dk δ1 (Z ++ [.lst ((found ++ [o]).map tI)])) by
      obtain ⟨o, δ1, ho, h1, q1⟩ := step
      obtain ⟨out, δ3, y5, q3, r1, r2, r3⟩ := an_loop (Z := Z) (share := share) (wo := wo) d0 d1 ks δ1 (b + d + 2) (found ++ [o]) (some (.t (.int k))) h1 (by omega) (fun x hx => by
        rcases List.mem_append.mp hx with hx | hx
        · exact hf x hx
        · rw [List.mem_singleton.mp hx]; exact ho) (by simp; omega)
      refine ⟨out, δ3, y5, ?_, r1, by rw [r2]; simp; omega, r3.mono (by omega)⟩
      rw [List.map_cons]
      unfold forL
      simp only [gTrue_eq, if_true, bI_nm, List.set_cons_succ, List.set_cons_zero]
      rw [q1, loopS_nx]
      exact q3
    by_cases ne : found = []
    · obtain ⟨ys, δ1, q1, ho, h1⟩ := part_rng (share := share) (Z := Z ++ [.lst (found.map tI)]) h (by omega) d0 d1
      refine ⟨ys, δ1, ho, h1.mono (by omega), ?_⟩
      subst ne
      rw [List.map_nil] at nn q1
      obtain ⟨l1, l2⟩ := lrg_ok d0 d1
      have c0 : 0 < cap := by decide
      simp [nn, l1, l2, q1, kAppend, c0]
    · obtain ⟨v, δ1, q1, v0, v1, h1⟩ := next_ok (m := 6) (Z ++ [.lst (found.map tI)]) h (by omega) (by decide) (by decide)
      by_cases v0 : v = 0
      · obtain ⟨o, δ2, q2, mo, h2⟩ := one_cell (Z := Z) (xs := found) h1 (by omega) ne (by omega)
        refine ⟨o, δ2, hf o mo, h2.mono (by omega), ?_⟩
        simp [nn, ne, q1, v0, q2, kAppend, hcl]
      · obtain ⟨ys, δ2, q2, ho, h2⟩ := part_rng (share := share) (Z := Z ++ [.lst (found.map tI)]) h1 (by omega) d0 d1
        refine ⟨ys, δ2, ho, h2.mono (by omega), ?_⟩
        obtain ⟨l1, l2⟩ := lrg_ok d0 d1
        simp [nn, ne, q1, v0, l1, l2, q2, kAppend, hcl]
theorem any_ok {Z : Sto} {d k : Int} {δ : Deck} {b : Int} (h : δ.Ok b) (hb : b < 999999000000) (d0 : 0 < d) (d1 : d ≤ 20) (k0 : 0 ≤ k) (k1 : k ≤ 20) :
    ∃ (out : List (List Int)) (δ' : Deck), d__law_any [.r 2, .t (.int d), .t (.int k)] (dk δ Z) = .ok (.t (.tup [.int d, .tup (out.map tI)])) (dk δ' Z) ∧ (∀ o ∈ out, OffOk d o) ∧ (out.length : Int) = k ∧ δ'.Ok (b + 1000) := by
  obtain ⟨n, rfl⟩ := Int.eq_ofNat_of_zero_le k0
  obtain ⟨share, δ1, q1, s0, s1, h1⟩ := next_ok (m := 4) Z h (by omega) (by decide) (by decide)
  have hm : (d + 2) * (n : Int) ≤ 22 * 20 := Int.mul_le_mul (by omega) (by omega) (by omega) (by omega)
  have hm0 : 0 ≤ (d + 2) * (n : Int) := Int.mul_nonneg (by omega) (by omega)
  obtain ⟨out, δ2, y5, q2, r1, r2, r3⟩ := an_loop (Z := Z) (d := d) (share := share) (wo := some (.t (.int (n : Int)))) (by omega) (by omega) (nats n) δ1 (b + 1) [] none h1 (by rw [nats_len]; omega) (fun o ho => by simp at ho) (by rw [nats_len]; simp; omega)
  rw [nats_len] at r2 r3
  refine ⟨out, δ2, fn_dk' (l := [.lst (out.map tI)]) rfl ?_, r1, by rw [r2]; simp, r3.mono (by omega)⟩
  have q0 : sPar 3 4 (aCons (eFn 2 (d__law_next) (aCons (eVar 0) (aCons (eC (.int 4)) (aNil)))) (aCons (eLstB (aNil)) (aNil))) (envOf 6 [W.r 2, .t (.int d), .t (.int (n : Int))]) (dk δ Z) =
      .nx [some (.r 2), some (.t (.int d)), some (.t (.int (n : Int))), some (.t (.int share)), some (.r (Z.length + 3)), none] (dk δ1 (Z ++ [.lst []])) := by
    simp [envOf, q1, ap_lstB0]
  have q3 : sFor (srcR1 (aCons (eVar 2) (aNil))) (.nm 5) anB [some (.r 2), some (.t (.int d)), some (.t (.int (n : Int))), some (.t (.int share)), some (.r (Z.length + 3)), none] (dk δ1 (Z ++ [.lst []])) =
      .nx [some (.r 2), some (.t (.int d)), some (.t (.int (n : Int))), some (.t (.int share)), some (.r (Z.length + 3)), y5] (dk δ2 (Z ++ [.lst (out.map tI)])) := by
    have hr : rlim (n : Int) = true := by simp [rlim]; omega
    rw [List.map_nil] at q2
    simp only [ap_sFor, ap_srcR1, ap_aCons, ap_aNil, ap_var, bind_ok', rng1, hr, rngI_nats, if_true, of_some, thenS_ok, List.getElem?_cons_succ, List.getElem?_cons_zero, Int.toNat_natCast]
    exact q2
  have hcl : out.length ≤ cap := cap_big (by rw [r2]; simp; omega)
  unfold b__law_any
  rw [sCons_nx q0, sCons_nx q3]
  simp
/-! ### _law_around -/
abbrev arB : Sx := sIf (tAndD (tE (e2 gLe (eVar 4) (eVar 1))) (tE (e2 gLt (eVar 6) (eVar 4)))) (sExpr (eM1 kAppend (eVar 5) (eCall bTuple (aCons (eCall (lst1 bSorted) (aCons (e2 gAdd (eLst (aCons (eIx (eVar 3) (eVar 6)) (aCons (eIx (eVar 3) (e2 gMod (e2 gAdd (eVar 6) (eC (.int 1))) (eVar 4))) (aNil)))) (eCall (lst1 bList) (aCons (eFn 3 (d__law_part) (aCons (eVar 0) (aCons (eSl (eVar 3) (oSome (eVar 4)) oNone) (aCons (eC (.int 3)) (aNil))))) (aNil)))) (aNil))) (aNil))))) (sExpr (eM1 kAppend (eVar 5) (eFn 3 (d__law_part) (aCons (eVar 0) (aCons (eListR1 (aCons (eVar 1) (aNil))) (aCons (e2 gAdd (eC (.int 1)) (eFn 2 (d__law_next) (aCons (eVar 0) (aCons (eC (.int 3)) (aNil))))) (aNil)))))))
theorem part_tI {Z : Sto} {share : Int} {xs : List Int} {δ : Deck} {b : Int} (h : δ.Ok b) (hb : b + xs.length < 1000000000000) (hc : xs.length ≤ cap) :
    ∃ (ys : List Int) (δ' : Deck), d__law_part [.r 2, .t (tI xs), .t (.int share)] (dk δ Z) = .ok (.t (tI ys)) (dk δ' Z) ∧ ys.Sublist xs ∧ δ'.Ok (b + xs.length) := part_ok h hb hc T.tup (.inr rfl)
theorem cut_from {α : Type} (xs : List α) {n : Nat} : cutL xs (some (n : Int)) none = xs.drop n := by
  unfold cutL
  rw [HT.sIx_nat, HT.sIx_none]
  by_cases h : n ≤ xs.length
  · rw [Nat.min_eq_left h, ← List.length_drop, List.take_length]
  · have h1 : xs.drop n = [] := List.drop_eq_nil_of_le (by omega)
    rw [Nat.min_eq_right (by omega), h1]; simp
@[simp] theorem at_tI {S : Sto} (xs : List Int) (n : Int) : ixW S (.t (tI xs)) (.int n) = (L2.atI (xs.map T.int) n).map W.t := rfl
@[simp] theorem list_tI (xs : List Int) : bList [tI xs] = some (xs.map T.int) := rfl
@[simp] theorem add_lst2 (x y : Int) (xs : List Int) : gAdd (.lst [.int x, .int y]) (.lst (xs.map T.int)) = if xs.length + 2 ≤ cap then some (.lst ((x :: y :: xs).map T.int)) else none := by
  simp [gAdd, Nat.add_comm]
theorem ar_loop {Z : Sto} {d sz : Int} {wo : Option W} {order : List Int} (d0 : 0 < d) (d1 : d ≤ 1000) (z0 : 3 ≤ sz) (z1 : sz < 1000) (nd : order.Nodup) (rg : ∀ x ∈ order, 0 ≤ x ∧ x < d) (len : (order.length : Int) = d) : ∀ (ks : List Int) (δ : Deck) (b : Int) (found : List (List Int)) (x6 : Option W),
    (∀ k ∈ ks, 0 ≤ k) → δ.Ok b → b + (d + 2) * ks.length < 1000000000000 → (∀ o ∈ found, OffOk d o) → found.length + ks.length ≤ 1000 →
    ∃ (out : List (List Int)) (δ' : Deck) (y6 : Option W), forL gTrue (.nm 6) arB (ks.map fun k => Item.one (.t (.int k))) [some (.r 2), some (.t (.int d)), wo, some (.t (tI order)), some (.t (.int sz)), some (.r (Z.length + 3)), x6] (dk δ (Z ++ [.lst (found.map tI)])) =
      .nx [some (.r 2), some (.t (.int d)), wo, some (.t (tI order)), some (.t (.int sz)), some (.r (Z.length + 3)), y6] (dk δ' (Z ++ [.lst (out.map tI)])) ∧ (∀ o ∈ out, OffOk d o) ∧ out.length = found.length + ks.length ∧ δ'.Ok (b + (d + 2) * ks.length)
  | [], δ, b, found, x6, _, h, hb, hf, hc => ⟨found, δ, x6, by simp [forL], hf, by simp, by simpa using h⟩
  | k :: ks, δ, b, found, x6, hk, h, hb, hf, hc => by
    have k0 : 0 ≤ k := hk k List.mem_cons_self
    have hl : (d + 2) * ((k :: ks).length : Int) = (d + 2) * ks.length + d + 2 := by
      rw [List.length_cons]
      have : (((ks.length + 1 : Nat)) : Int) = ks.length + 1 := by simp
      rw [this, Int.mul_add]; omega
    rw [hl] at hb ⊢
    have hm : 0 ≤ (d + 2) * (ks.length : Int) := Int.mul_nonneg (by omega) (by omega)
    have hc' : found.length + (ks.length + 1) ≤ 1000 := by simpa using hc
    have hcl : found.length < cap := Nat.lt_of_lt_of_le (show found.length < 1000 by omega) (cap_big (by decide))
    suffices step : ∃ (o : List Int) (δ1 : Deck), OffOk d o ∧ δ1.Ok (b + d + 2) ∧ arB [some (.r 2), some (.t (.int d)), wo, some (.t (tI order)), some (.t (.int sz)), some (.r (Z.length + 3)), some (.t (.int k))] (dk δ (Z ++ [.lst (found.map tI)])) =
        .nx [some (.r 2), some (.t (.int d)), wo, some (.t (tI order)), some (.t (.int sz)), some (.r (Z.length + 3)), some (.t (.int k))] (dk δ1 (Z ++ [.lst ((found ++ [o]).map tI)])) by
      obtain ⟨o, δ1, ho, h1, q1⟩ := step
      obtain ⟨out, δ3, y6, q3, r1, r2, r3⟩ := ar_loop (Z := Z) (wo := wo) d0 d1 z0 z1 nd rg len ks δ1 (b + d + 2) (found ++ [o]) (some (.t (.int k))) (fun x hx => hk x (List.mem_cons_of_mem _ hx)) h1 (by omega) (fun x hx => by
        rcases List.mem_append.mp hx with hx | hx
        · exact hf x hx
        · rw [List.mem_singleton.mp hx]; exact ho) (by simp; omega)
      refine ⟨out, δ3, y6, ?_, r1, by rw [r2]; simp; omega, r3.mono (by omega)⟩
      rw [List.map_cons]
      unfold forL
      simp only [gTrue_eq, if_true, bI_nm, List.set_cons_succ, List.set_cons_zero]
      rw [q1, loopS_nx]
      exact q3
    have other : ¬ (sz ≤ d ∧ k < sz) → ∃ (o : List Int) (δ1 : Deck), OffOk d o ∧ δ1.Ok (b + d + 2) ∧ arB [some (.r 2), some (.t (.int d)), wo, some (.t (tI order)), some (.t (.int sz)), some (.r (Z.length + 3)), some (.t (.int k))] (dk δ (Z ++ [.lst (found.map tI)])) =
        .nx [some (.r 2), some (.t (.int d)), wo, some (.t (tI order)), some (.t (.int sz)), some (.r (Z.length + 3)), some (.t (.int k))] (dk δ1 (Z ++ [.lst ((found ++ [o]).map tI)])) := fun hn => by
      obtain ⟨v, δ1, q1, v0, v1, h1⟩ := next_ok (m := 3) (Z ++ [.lst (found.map tI)]) h (by omega) (by decide) (by decide)
      obtain ⟨ys, δ2, q2, ho, h2⟩ := part_rng (share := 1 + v) (Z := Z ++ [.lst (found.map tI)]) h1 (by omega) (by omega) d1
      obtain ⟨l1, l2⟩ := lrg_ok (d := d) (by omega) d1
      refine ⟨ys, δ2, ho, h2.mono (by omega), ?_⟩
      by_cases c1 : sz ≤ d
      · have c2 : ¬ k < sz := fun z => hn ⟨c1, z⟩
        simp [c1, c2, l1, l2, q1, q2, kAppend, hcl]
      · simp [c1, l1, l2, q1, q2, kAppend, hcl]
    by_cases c1 : sz ≤ d
    · by_cases c2 : k < sz
      · have z2 : 0 ≤ (k + 1) % sz := Int.emod_nonneg _ (by omega)
        have z3 : (k + 1) % sz < sz := Int.emod_lt_of_pos _ (by omega)
        have z4 : (k + 1) % sz ≠ k := by
          by_cases e : k + 1 = sz
          · rw [e, Int.emod_self]; omega
          · rw [Int.emod_eq_of_lt (by omega) (by omega)]; omega
        have i1 : k.toNat < order.length := by omega
        have i2 : ((k + 1) % sz).toNat < order.length := by omega
        have a1 : L2.atI (order.map T.int) k = some (.int order[k.toNat]) := by
          rw [atI_int k0 (by rw [List.length_map]; omega)]; simp
        have a2 : L2.atI (order.map T.int) ((k + 1) % sz) = some (.int order[((k + 1) % sz).toNat]) := by
          rw [atI_int z2 (by rw [List.length_map]; omega)]; simp
        have es : ((sz.toNat : Nat) : Int) = sz := by omega
        have cf := cut_from order (n := sz.toNat)
        rw [es] at cf
        have ld : (order.drop sz.toNat).length = order.length - sz.toNat := List.length_drop
        obtain ⟨ys, δ1, q1, s1, h1⟩ := part_tI (share := 3) (Z := Z ++ [.lst (found.map tI)]) (xs := order.drop sz.toNat) h (by omega) (cap_big (by omega))
        let o := isort (order[k.toNat] :: order[((k + 1) % sz).toNat] :: ys)
        have hmem : ∀ y ∈ ys, ∃ (j : Nat) (hj : j < order.length), sz.toNat ≤ j ∧ order[j] = y := fun y hy => by
          obtain ⟨j, hj, e⟩ := List.mem_iff_getElem.mp (s1.subset hy)
          rw [List.getElem_drop] at e
          exact ⟨sz.toNat + j, by rw [ld] at hj; omega, by omega, e⟩
        have uniq : ∀ {i j : Nat} (hi : i < order.length) (hj : j < order.length), order[i] = order[j] → i = j := fun {i j} hi hj e => by
          rcases Nat.lt_trichotomy i j with l | l | l
          · exact absurd e (List.pairwise_iff_getElem.mp nd i j hi hj l)
          · exact l
          · exact absurd e.symm (List.pairwise_iff_getElem.mp nd j i hj hi l)
        have ho : OffOk d o := by
          refine off_sort ?_ fun x hx => ?_
          · refine List.nodup_cons.mpr ⟨fun hx => ?_, List.nodup_cons.mpr ⟨fun hx => ?_, (nd.sublist (List.drop_sublist _ _)).sublist s1⟩⟩
            · rcases List.mem_cons.mp hx with e | hx
              · have := uniq i1 i2 e
                omega
              · obtain ⟨j, hj, h1, h2⟩ := hmem _ hx
                have := uniq hj i1 h2
                omega
            · obtain ⟨j, hj, h1, h2⟩ := hmem _ hx
              have := uniq hj i2 h2
              omega
          · rcases List.mem_cons.mp hx with rfl | hx
            · exact rg _ (List.getElem_mem i1)
            · rcases List.mem_cons.mp hx with rfl | hx
              · exact rg _ (List.getElem_mem i2)
              · exact rg _ ((List.drop_sublist _ _).subset (s1.subset hx))
        refine ⟨o, δ1, ho, h1.mono (by omega), ?_⟩
        have hy : ys.length + 2 ≤ cap := by
          have := s1.length_le
          exact cap_big (by omega)
        have sl := sorted_lst (order[k.toNat] :: order[((k + 1) % sz).toNat] :: ys)
        rw [List.map_cons, List.map_cons] at sl
        have zp : 0 < sz := by omega
        simp [c1, c2, zp, a1, a2, cf, q1, hy, sl, kAppend, hcl]
        rfl
      · exact other fun z => c2 z.2
    · exact other fun z => c1 z.1
/-- the pops at the end -/
theorem pops_ok {Z : Sto} {ρ0 : Env} (w1 w2 w3 w4 : Option W) : ∀ (ks : List Int) (δ : Deck) (b : Int) (found : List (List Int)), found.length = ks.length → ks.length ≤ 1000 → δ.Ok b → b + ks.length < 1000000000000 →
    ∃ (out : List (List Int)) (δ' : Deck), compL gTrue (.nm 6) tTrue (eM1 kPopAt (eVar 5) (eFn 2 (d__law_next) (aCons (eVar 0) (aCons (eCall bLen (aCons (eVar 5) (aNil))) (aNil))))) (ks.map fun k => Item.one (.t (.int k)))
      [some (.r 2), w1, w2, w3, w4, some (.r (Z.length + 3)), none] (dk δ (Z ++ [.lst (found.map tI)])) = .ok (out.map tI) (dk δ' (Z ++ [.lst []])) ∧ (∀ o ∈ out, o ∈ found) ∧ out.length = ks.length ∧ δ'.Ok (b + ks.length)
  | [], δ, b, found, hl, _, h, hb => by
    have : found = [] := List.length_eq_zero_iff.mp hl
    subst this
    exact ⟨[], δ, by simp [compL], fun o ho => by simp at ho, rfl, by simpa using h⟩
  | k :: ks, δ, b, found, hl, hc, h, hb => by
    have hl1 : ((k :: ks).length : Int) = ks.length + 1 := by simp
    rw [hl1] at hb ⊢
    have hfl : found.length = ks.length + 1 := by simpa using hl
    obtain ⟨v, δ1, q1, v0, v1, h1⟩ := next_ok (m := found.length) (Z ++ [.lst (found.map tI)]) h (by omega) (by omega) (by simp at hc; omega)
    have hv : v.toNat < found.length := by omega
    have hk : ks.length ≤ 1000 := by simp at hc; omega
    obtain ⟨out, δ2, q2, m2, l2, h2⟩ := pops_ok (Z := Z) (ρ0 := ρ0) w1 w2 w3 w4 ks δ1 (b + 1) (found.eraseIdx v.toNat) (by rw [List.length_eraseIdx, if_pos hv]; omega) hk h1 (by omega)
    refine ⟨found[v.toNat] :: out, δ2, ?_, fun o ho => ?_, by simp [l2], h2.mono (by omega)⟩
    · have hp : ∀ S, kPopAt S (.lst (found.map tI)) (.t (.int v)) = some (.t (tI found[v.toNat]), .lst ((found.eraseIdx v.toNat).map tI)) := fun S => by
        have h3 : v.natAbs < 1000000000 := by omega
        simp [kPopAt, L2.ixN, v0, v1, hv, h3, erase_map]
      rw [List.map_cons]
      unfold compL
      simp [q1, hp]
      rw [q2]
      rfl
    · rcases List.mem_cons.mp ho with rfl | ho
      · exact List.getElem_mem hv
      · exact List.mem_of_mem_eraseIdx (m2 o ho)
theorem around_ok {Z : Sto} {d k : Int} {δ : Deck} {b : Int} (h : δ.Ok b) (hb : b < 999999000000) (d0 : 0 < d) (d1 : d ≤ 20) (k0 : 0 ≤ k) (k1 : k ≤ 20) :
    ∃ (out : List (List Int)) (δ' : Deck), d__law_around [.r 2, .t (.int d), .t (.int k)] (dk δ Z) = .ok (.t (.tup [.int d, .tup (out.map tI)])) (dk δ' Z) ∧ (∀ o ∈ out, OffOk d o) ∧ (out.length : Int) = k ∧ δ'.Ok (b + 1000) := by
  obtain ⟨n, rfl⟩ := Int.eq_ofNat_of_zero_le k0
  obtain ⟨order, δ1, q1, p1, h1⟩ := shuffled_ok (Z := Z) (n := d) h (by omega) (by omega) (by omega)
  obtain ⟨nd, rg, len⟩ := perm_rng p1
  have rg' : ∀ x ∈ order, 0 ≤ x ∧ x < d := fun x hx => by have := rg x hx; omega
  obtain ⟨v, δ2, q2, v0, v1, h2⟩ := next_ok (m := 3) Z h1 (by omega) (by decide) (by decide)
  have hm : (d + 2) * (n : Int) ≤ 22 * 20 := Int.mul_le_mul (by omega) (by omega) (by omega) (by omega)
  have hm0 : 0 ≤ (d + 2) * (n : Int) := Int.mul_nonneg (by omega) (by omega)
  obtain ⟨out, δ3, y6, q3, r1, r2, r3⟩ := ar_loop (Z := Z) (d := d) (sz := 3 + v) (wo := some (.t (.int (n : Int)))) (order := order) d0 (by omega) (by omega) (by omega) nd rg' (by omega) (nats n) δ2 (b + d + 1) [] none
    (fun k hk => (nats_mem.mp hk).1) h2 (by rw [nats_len]; omega) (fun o ho => by simp at ho) (by rw [nats_len]; simp; omega)
  rw [nats_len] at r2 r3
  have r2' : out.length = n := by simpa using r2
  obtain ⟨out2, δ4, q4, m4, l4, h4⟩ := pops_ok (Z := Z) (ρ0 := []) (some (.t (.int d))) (some (.t (.int (n : Int)))) (some (.t (tI order))) (some (.t (.int (3 + v)))) (nats n) δ3 _ out (by rw [r2', nats_len]) (by rw [nats_len]; omega) r3 (by rw [nats_len]; omega)
  rw [nats_len] at l4 h4
  refine ⟨out2, δ4, fn_dk' (l := [.lst []]) rfl ?_, fun o ho => r1 o (m4 o ho), by rw [l4], h4.mono (by omega)⟩
  have q0 : sPar 3 4 (aCons (eFn 2 (d__law_shuffled) (aCons (eVar 0) (aCons (eVar 1) (aNil)))) (aCons (e2 gAdd (eC (.int 3)) (eFn 2 (d__law_next) (aCons (eVar 0) (aCons (eC (.int 3)) (aNil))))) (aNil))) (envOf 7 [W.r 2, .t (.int d), .t (.int (n : Int))]) (dk δ Z) =
      .nx [some (.r 2), some (.t (.int d)), some (.t (.int (n : Int))), some (.t (tI order)), some (.t (.int (3 + v))), none, none] (dk δ2 Z) := by
    simp [envOf, q1, q2]
  have q5 : sSet 5 (eLstB aNil) [some (.r 2), some (.t (.int d)), some (.t (.int (n : Int))), some (.t (tI order)), some (.t (.int (3 + v))), none, none] (dk δ2 Z) =
      .nx [some (.r 2), some (.t (.int d)), some (.t (.int (n : Int))), some (.t (tI order)), some (.t (.int (3 + v))), some (.r (Z.length + 3)), none] (dk δ2 (Z ++ [.lst []])) := by
    simp [ap_lstB0]
  have hr : rlim (n : Int) = true := by simp [rlim]; omega
  have q6 : sFor (srcR1 (aCons (eVar 2) (aNil))) (.nm 6) arB [some (.r 2), some (.t (.int d)), some (.t (.int (n : Int))), some (.t (tI order)), some (.t (.int (3 + v))), some (.r (Z.length + 3)), none] (dk δ2 (Z ++ [.lst []])) =
      .nx [some (.r 2), some (.t (.int d)), some (.t (.int (n : Int))), some (.t (tI order)), some (.t (.int (3 + v))), some (.r (Z.length + 3)), y6] (dk δ3 (Z ++ [.lst (out.map tI)])) := by
    rw [List.map_nil] at q3
    simp only [ap_sFor, ap_srcR1, ap_aCons, ap_aNil, ap_var, bind_ok', rng1, hr, rngI_nats, if_true, of_some, thenS_ok, List.getElem?_cons_succ, List.getElem?_cons_zero, Int.toNat_natCast]
    exact q3
  have hcn : n ≤ cap := cap_big (by omega)
  unfold b__law_around
  rw [sCons_nx q0, sCons_nx q5, sCons_nx q6]
  simp only [ap_sRet, ap_eTup, ap_eCall, ap_eComp, ap_srcR1, ap_aCons, ap_aNil, ap_var, bind_ok', rng1, hr, rngI_nats, if_true, of_some, thenS_ok, List.getElem?_cons_succ, List.getElem?_cons_zero, Int.toNat_natCast, List.length_map, nats_len, if_pos hcn, wipe0, wipe1, List.set_cons_succ, List.set_cons_zero]
  rw [q4]
  simp
/-! ### _law_table -/
theorem table_ok {Z : Sto} {dm om : Int} {δ : Deck} {b : Int} (h : δ.Ok b) (hb : b < 999990000000) (d0 : 0 < dm) (d1 : dm ≤ 20) (o0 : 0 ≤ om) (o1 : om ≤ 20) :
    ∃ (d : Int) (out : List (List Int)) (δ' : Deck), d__law_table [.r 2, .t (.int dm), .t (.int om)] (dk δ Z) = .ok (.t (.tup [.int d, .tup (out.map tI)])) (dk δ' Z) ∧ 1 ≤ d ∧ d ≤ dm ∧ (∀ o ∈ out, OffOk d o) ∧ (out.length : Int) ≤ om ∧ δ'.Ok (b + 2000) := by
  obtain ⟨v, δ1, q1, v0, v1, h1⟩ := next_ok (m := dm) Z h (by omega) d0 (by omega)
  obtain ⟨k, δ2, q2, k0, k1, h2⟩ := next_ok (m := om + 1) Z h1 (by omega) (by omega) (by omega)
  obtain ⟨way, δ3, q3, w0, w1, h3⟩ := next_ok (m := 5) Z h2 (by omega) (by decide) (by decide)
  have fin : ∀ (out : List (List Int)) (δ' : Deck), b__law_table (envOf 4 [W.r 2, .t (.int dm), .t (.int om)]) (dk δ Z) = .rt (.t (.tup [.int (1 + v), .tup (out.map tI)])) (dk δ' Z) → (∀ o ∈ out, OffOk (1 + v) o) → (out.length : Int) = k → δ'.Ok (b + 2000) →
      ∃ (d : Int) (out : List (List Int)) (δ' : Deck), d__law_table [.r 2, .t (.int dm), .t (.int om)] (dk δ Z) = .ok (.t (.tup [.int d, .tup (out.map tI)])) (dk δ' Z) ∧ 1 ≤ d ∧ d ≤ dm ∧ (∀ o ∈ out, OffOk d o) ∧ (out.length : Int) ≤ om ∧ δ'.Ok (b + 2000) :=
    fun out δ' e r1 r2 r3 => ⟨1 + v, out, δ', fn_dk0 rfl e, by omega, by omega, r1, by omega, r3⟩
  by_cases c1 : way < 2
  · obtain ⟨out, δ4, q4, r1, r2, r3⟩ := intervals_ok (Z := Z) (d := 1 + v) (k := k) h3 (by omega) (by omega) (by omega) k0 (by omega)
    refine fin out δ4 ?_ r1 r2 (r3.mono (by omega))
    unfold b__law_table
    simp [envOf, q1, q2, q3, c1, q4]
  · by_cases c2 : way = 2
    · obtain ⟨out, δ4, q4, r1, r2, r3⟩ := around_ok (Z := Z) (d := 1 + v) (k := k) h3 (by omega) (by omega) (by omega) k0 (by omega)
      refine fin out δ4 ?_ r1 r2 (r3.mono (by omega))
      unfold b__law_table
      subst c2
      simp [envOf, q1, q2, q3, q4]
    · obtain ⟨out, δ4, q4, r1, r2, r3⟩ := any_ok (Z := Z) (d := 1 + v) (k := k) h3 (by omega) (by omega) (by omega) k0 (by omega)
      refine fin out δ4 ?_ r1 r2 (r3.mono (by omega))
      unfold b__law_table
      simp [envOf, q1, q2, q3, c1, c2, q4]
end Dl
/-! DkG: the deck that a script makes; ints are the same. -/
namespace Dl
open PySem
theorem compL_pure {p : Pat} {t : Tx} {f : Ex} {ρ : Env} {S : Sto} {α : Type} (enc : α → Item) (c : α → Bool) (φ : α → T) : ∀ (xs : List α),
    (∀ x ∈ xs, ∃ ρ1, bindI p (enc x) ρ = some ρ1 ∧ t ρ1 S = .ok (c x) S ∧ (c x = true → f ρ1 S = .ok (.t (φ x)) S)) → compL gTrue p t f (xs.map enc) ρ S = .ok ((xs.filter c).map φ) S
  | [], _ => by simp [compL]
  | x :: xs, h => by
    obtain ⟨ρ1, h1, h2, h3⟩ := h x List.mem_cons_self
    have ih := compL_pure enc c φ xs fun y hy => h y (List.mem_cons_of_mem _ hy)
    rw [List.map_cons]
    unfold compL
    cases hc : c x with
    | true => simp [h1, h2, hc, h3 hc, ih]
    | false => simp [h1, h2, hc, ih]
theorem compL_all {p : Pat} {f : Ex} {ρ : Env} {S : Sto} {α : Type} (enc : α → Item) (φ : α → T) (xs : List α) (h : ∀ x ∈ xs, ∃ ρ1, bindI p (enc x) ρ = some ρ1 ∧ f ρ1 S = .ok (.t (φ x)) S) : compL gTrue p tTrue f (xs.map enc) ρ S = .ok (xs.map φ) S := by
  have := compL_pure (t := tTrue) (f := f) (p := p) (ρ := ρ) (S := S) enc (fun _ => true) φ xs fun x hx => by
    obtain ⟨ρ1, h1, h2⟩ := h x hx
    exact ⟨ρ1, h1, rfl, fun _ => h2⟩
  rw [List.filter_eq_self.mpr (fun _ _ => rfl)] at this
  exact this
/-- the deck of a script -/
theorem deck_ok {ns : List Int} (h : ns.length ≤ 63) : ∃ δ : Deck, d__law_deck [.t (.scr ns)] [] = .ok (.r 2) (dk δ []) ∧ δ.Ok 0 := by
  let cs : List Int := ns.map fun i => if i < 0 then -i else i
  let ds : List Int := cs.filter fun c => decide (10 ^ 18 ≤ c)
  have lc : cs.length = ns.length := by simp [cs]
  refine ⟨⟨ds, cs ++ [(cs.length : Int) + 7], 0⟩, ?_, ⟨?_, by simp, by simp [lc]; omega, Int.le_refl 0, Int.le_refl 0⟩⟩
  · have c1 : compL gTrue (.nm 2) tTrue (eCall bAbs (aCons (eVar 2) aNil)) (ns.map fun n => Item.one (.t (.int n))) [some (.t (.scr ns)), none, none] [] = .ok (ns.map fun i => T.int (if i < 0 then -i else i)) [] :=
      compL_all (fun n => Item.one (.t (.int n))) _ ns fun x _ => ⟨[some (.t (.scr ns)), none, some (.t (.int x))], rfl, by simp [bAbs]⟩
    have pw : cpow 10 18 = true := by decide
    have pw2 : (10 : Int) ^ (18 : Int).toNat = 10 ^ 18 := by decide
    have c2 : compL gTrue (.nm 2) (tE (e2 gGe (eVar 2) (e2 gPow (eC (.int 10)) (eC (.int 18))))) (eVar 2) (cs.map fun n => Item.one (.t (.int n))) [some (.t (.scr ns)), some (.t (.lst (cs.map T.int))), none] [] = .ok (ds.map T.int) [] :=
      compL_pure (fun n => Item.one (.t (.int n))) (fun c => decide (10 ^ 18 ≤ c)) T.int cs fun x _ => ⟨[some (.t (.scr ns)), some (.t (.lst (cs.map T.int))), some (.t (.int x))], rfl, by
        simp only [ap_tE, ap_e2, ap_var, ap_C, bind_ok', view_t, Option.bind_some, pow_int, pw, pw2, if_true, Option.map_some, of_some, List.getElem?_cons_succ, List.getElem?_cons_zero, cmp_int, asB_bl], fun _ => rfl⟩
    have e1 : sSet 1 (eComp [2] (srcS (eVar 0)) (.nm 2) (tTrue) (eCall bAbs (aCons (eVar 2) (aNil)))) (envOf 3 [W.t (.scr ns)]) [] = .nx [some (.t (.scr ns)), some (.t (.lst (cs.map T.int))), none] [] := by
      have hl : ns.length ≤ cap := cap_big (by omega)
      simp only [ap_sSet, ap_eComp, ap_srcS, ap_var, bind_ok', cont_scr, Option.map_some, of_some, envOf, List.map_map, List.length_map]
      simp [hl]
      rw [show (List.map (Item.one ∘ fun n => W.t (T.int n)) ns) = ns.map fun n => Item.one (.t (.int n)) from rfl, c1]
      simp [cs]
    have hlc : cs.length ≤ cap := cap_big (by rw [lc]; omega)
    have hlc2 : cs.length + 1 ≤ cap := cap_big (by rw [lc]; omega)
    have e2 : eCompB [2] (srcS (eVar 1)) (.nm 2) (tE (e2 gGe (eVar 2) (e2 gPow (eC (.int 10)) (eC (.int 18))))) (eVar 2) [some (.t (.scr ns)), some (.t (.lst (cs.map T.int))), none] [] = .ok (.r 0) [.lst (ds.map T.int)] := by
      unfold eCompB
      simp only [ap_srcS, ap_var, bind_ok', cont_lst, Option.map_some, of_some, List.map_map, List.length_map, List.getElem?_cons_succ, List.getElem?_cons_zero, if_pos hlc, wipe0, wipe1, List.set_cons_succ, List.set_cons_zero]
      rw [show (List.map (Item.one ∘ W.t ∘ T.int) cs) = cs.map fun n => Item.one (.t (.int n)) from rfl, c2]
      rfl
    unfold d__law_deck fnK callK b__law_deck
    rw [if_pos (show [W.t (T.scr ns)].length = 1 from rfl), sCons_nx e1]
    simp only [ap_sRet, eVecB, ap_aCons, e2, bind_ok', e2L, ap_var, List.getElem?_cons_succ, List.getElem?_cons_zero, ap_eLst, ap_aNil, ap_e2, ap_eCall, views_cons, views_nil, view_t, Option.bind_some, Option.map_some, len_lst, of_some, ap_C, add_int, tree_1, gCat,
      List.length_map, List.length_cons, List.length_nil, if_pos hlc2]
    rw [if_pos (show 3 ≤ cap by decide)]
    simp [dk]
  · exact Nat.le_trans (List.length_filter_le _ _) (by rw [lc]; omega)
/-- ints are the same -/
theorem same_int (n : Nat) (a : Int) (S : Sto) : d__law_same (n + 1) [.t (.int a), .t (.int a)] S = .ok (.t (.bl true)) S := by
  have i1 : ∀ cs : List String, gIsiT cs (.int a) = some (.bl (cs.any fun c => isiS "int" c)) := fun _ => rfl
  have i2 : ∀ c : String, gIsi c (.int a) = some (.bl (isiS "int" c)) := fun _ => rfl
  refine fn_rt0 rfl ?_
  have b1 : gEq (.bl false) (.bl false) = some (.bl true) := by simp [gEq, shp, lay, dep, eqT]
  have s1 : isiS "int" "int" = true := by decide
  have s2 : isiS "int" "bool" = false := by decide
  have s3 : isiS "int" "str" = false := by decide
  have s4 : isiS "int" "dict" = false := by decide
  have s5 : isiS "int" "tuple" = false := by decide
  have s6 : isiS "int" "list" = false := by decide
  have g1 : gIs (.int a) .non = some (.bl false) := rfl
  unfold b__law_same
  simp [envOf, i1, i2, s1, s2, s3, s4, s5, s6, g1, b1]
end Dl
/-! Dl11: enumerate over tuples, name += e, three names at once, [::-1], more calls. -/
namespace PySem
section
variable {prog : Program} {w : World} {A : Around} {E : Value → Shared → Prop} {s : Shared}
theorem en_made {v : Value} {ob : Obj} {Hp : Heap → Prop} (B : Begins v ob Hp) :
    Meets (Builtin.«enumerate.__new__» ⟨[.type "enumerate", v], []⟩) (fun _ R z => Hp z.heap ∧
      R (.ok (.ret (.ref (z.heap.push ob).objs.size))) { z with heap := (z.heap.push ob).push { cls := .type "enumerate", data := .fields #[.none, .bool false, .ref z.heap.objs.size, rawInt 0, .none, .none] } }) :=
  .of_wp fun prog w A R z both => by
    obtain ⟨hp, g, d, tk, os⟩ := z
    obtain ⟨h1, h⟩ := both
    have hsub := sub_enumerate
    have go : ∀ {A' : Around} {E : Value → Shared → Prop} {Q : Value → Shared → Prop}, Q (.ref hp.objs.size) ⟨hp.push ob, g, d, tk, os⟩ → wpAny (model prog w) A' (pyIter v) Q E ⟨hp, g, d, tk, os⟩ :=
      fun q => B.iter prog w _ _ ⟨hp, g, d, tk, os⟩ _ h1 q
    wp_walk using go
    refine wpAny_stack_any fun st => wpAny_pure ?_
    split
    · rename_i c _ _ _ _ _
      cases (c == Value.type "enumerate")
      · wp_walk using go
        exact ⟨_, rfl, h⟩
      · wp_walk using go
        exact ⟨_, rfl, h⟩
    · wp_walk using go
      exact ⟨_, rfl, h⟩
/-- enumerate(v): its two new cells -/
theorem en_call {v : Value} {ob : Obj} {Hp : Heap → Prop} {Q : Value → Shared → Prop} (B : Begins v ob Hp) (h1 : Hp s.heap)
    (h : ∀ h', IsEnum h' (s.heap.objs.size + 1) s.heap.objs.size 0 .none → h'.get? s.heap.objs.size = some ob → (∀ b o, s.heap.get? b = some o → h'.get? b = some o) → Q (.ref (s.heap.objs.size + 1)) { s with heap := h' }) :
    wpAny (model prog w) A (call (.type "enumerate") [v]) Q E s := by
  refine callType_new F.called_enumerate (by decide) (F.typeCall_enumerate_1 _) (F.newCall_enumerate_1 _) (fun obj => F.args_object_init_2 obj _) F.entry_enumerate_new (en_made B) ⟨h1, ?_⟩
  have sz : (s.heap.push ob).objs.size = s.heap.objs.size + 1 := Heap.size_push ..
  let eo : Obj := { cls := .type "enumerate", data := .fields #[.none, .bool false, .ref s.heap.objs.size, rawInt 0, .none, .none] }
  have at1 : ((s.heap.push ob).push eo).get? (s.heap.objs.size + 1) = some eo := by
    have q := Heap.get?_push_size (s.heap.push ob) (o := eo) rfl
    rwa [sz] at q
  show _ ∧ _
  rw [sz]
  exact ⟨⟨_, at1, rfl⟩, h _ at1 (Heap.get?_push_of_some _ (Heap.get?_push_size _ B.free)) fun b o q => Heap.get?_push_of_some _ (Heap.get?_push_of_some _ q)⟩
end
end PySem
namespace Dl
open PySem PySem.Spec PyProof.Rows L2
/-- the tuple at a, each item in a new pair -/
def ItEnT (K : PySem.W.Frag) (a : Addr) : It :=
  ⟨fun i H => ∃ (xs : List V) (x : V), SqT K H a xs ∧ xs[i]? = some x, fun i H v H' => ∃ T x, v = .ref T ∧ H T = none ∧ H' = upd H T (.tup [.int (i : Nat), x]) ∧ ∀ xs, SqT K H a xs → xs[i]? = some x, fun i H => ∃ xs : List V, SqT K H a xs ∧ xs.length = i⟩
theorem turn_enT {P : Program} {w : World} {K : PySem.W.Frag} {elts : List Expr} {kk : Nat} {tpos : Pos} (a e it : Addr) (hae : a ≠ e) (hai : a ≠ it) :
    Turn P w K (.Tuple elts kk tpos) (ItEnT K a) [e, it] e (fun i h => (∃ old, IsEnum h e it ((i : Nat) : Int) old) ∧ h.IsTupleIter it a i ∧ e ≠ it) where
  mem := by simp
  obj := fun i h st b hb => by
    obtain ⟨⟨old, he⟩, ⟨o, ho, _, hd⟩, _⟩ := st
    rcases List.mem_cons.mp hb with z | z
    · rw [z]; exact ⟨_, he, fun v q => nomatch q⟩
    · have z : b = it := List.mem_singleton.mp z
      rw [z]
      exact ⟨o, ho, fun v q => by rw [hd] at q; cases q⟩
  keep := fun i h h' st k => by
    obtain ⟨⟨old, he⟩, hi, hne⟩ := st
    exact ⟨⟨old, k e (by simp) _ he⟩, hi.at fun o q => k it (by simp) o q, hne⟩
  item := by
    intro X hP hw hK hc i pins s σ H E I hf st hg
    subst hP hw hK
    obtain ⟨⟨old, he⟩, hit, hne⟩ := st
    obtain ⟨xs, x, hq, hx⟩ := hg
    obtain ⟨its, rv, p, _⟩ := I.tuple hq
    obtain ⟨u, hu, ru⟩ := rv.get hx
    have le : e < s.heap.objs.size := Heap.lt_size he
    have li : it < s.heap.objs.size := by obtain ⟨_, q, _⟩ := hit; exact Heap.lt_size q
    have hii : i < its.toArray.size := by
      rw [List.size_toArray]
      exact (List.getElem?_eq_some_iff.mp hu).1
    refine wpAny_pyNext_enum_itemC (D := Draws.tuple (A := X.A.in1) (show X.A.in1.handled = none from I.ok.hd hc) it a hai its.toArray) he ⟨hit, p⟩ hii hne (by simp [hne, Ne.symm hae]) fun y h' tk hy ho st' hT sz hk => ?_
    have ey : y = u := by
      have h1 : its.toArray[i]? = some u := by simpa using hu
      rw [h1] at hy; cases hy; rfl
    subst ey
    refine ⟨_, rfl, wpAny_letOwnedTupleGo_enum (s := { s with heap := h', toks := tk + 1 }) ho fun h2 he2 sb => ?_⟩
    have hT2 : h2.get? s.heap.objs.size = some { cls := .type "tuple", data := .seq #[.int i tk, y] } := (sb.2 _ (Nat.ne_of_gt le)).trans hT
    have fresh := I.hok.fresh (Nat.le_refl s.heap.objs.size)
    have made : ObjOk X.prog X.w (upd H s.heap.objs.size (.tup [.int (i : Nat), x])) h2 s.heap.objs.size (.tup [.int (i : Nat), x]) :=
      ⟨by show 2 ≤ sizeLine; decide, [.int i tk, y], .cons ⟨_, rfl⟩ (.cons ru .nil), ⟨_, hT2, rfl, _, rfl⟩⟩
    have J : Inv X pins σ (upd H s.heap.objs.size (.tup [.int (i : Nat), x])) { s with heap := h2, toks := tk + 1 } :=
      I.turnedNew (ch := [e, it]) (fun b ob hb q => (sb.2 b (fun z => hb (by simp [z]))).trans (hk b ob (fun z => hb (by simp [z])) (fun z => hb (by simp [z])) q)) hf (Nat.le_refl _) made
    refine ⟨.ref s.heap.objs.size, _, J, rfl, ⟨_, x, rfl, fresh, rfl, fun ys hy2 => by rw [I.tuple_inj hy2 hq]; exact hx⟩, ⟨⟨y, ?_⟩, st'.1.at fun o q => (sb.2 it (Ne.symm hne)).trans q, hne⟩, fun b hb => ?_⟩
    · rw [show ((i + 1 : Nat) : Int) = (i : Int) + 1 by omega]
      exact he2
    · have lb : b < s.heap.objs.size := by
        rcases List.mem_cons.mp hb with z | z
        · rw [z]; exact le
        · rw [List.mem_singleton.mp z]; exact li
      rw [upd_ne (Nat.ne_of_lt lb)]
      exact (hf b hb).1
  done := by
    intro X hP hw hK hc i pins s σ H E I hf st hg
    subst hP hw hK
    obtain ⟨⟨old, he⟩, hit, hne⟩ := st
    obtain ⟨xs, hq, hx⟩ := hg
    obtain ⟨its, rv, p, _⟩ := I.tuple hq
    have hn : its.toArray.size = i := by rw [List.size_toArray, ← rv.length, hx]
    obtain ⟨f0, f1, f2, f3, f4, f5⟩ := hf it (by simp)
    exact wpAny_pyNext_enum_endD (D := Draws.tuple (A := X.A.in1) (show X.A.in1.handled = none from I.ok.hd hc) it a hai its.toArray) he (by rw [hn]; exact ⟨hit, p⟩) fun h' eb => ⟨rfl, I.turned (t' := s.toks) (fun b o hb q => eb b o hb q) f0 f1 f3 f4 f5⟩
  self := fun A i s Q E st h => let ⟨⟨_, he⟩, _⟩ := st; wpAny_pyIter_enum he h
def iEnT (K : PySem.W.Frag) (ta : TA) : TI := fun σ H R => ta σ H fun vs H1 => ∃ a xs, vs = [.ref a] ∧ SqT K H1 a xs ∧ R (ItEnT K a) H1
theorem pi_enT {X : Cx} {e : Expr} {ta : TA} {p pos tpos : Pos} {elts : List Expr} {kk : Nat} (hg : Gl X "enumerate") (hm : X.mg "enumerate" = none) (ha : PA X [e] ta) (hs : starEach [e] X.env = [(false, eval e X.env)]) :
    PI X (.Tuple elts kk tpos) (.Call (.Name "enumerate" p) [e] [] pos) (iEnT X.K ta) := by
  refine ⟨fun pins s σ H R I h => Call_ (ld_blt I hg hm boot_enumerate (PyProof.Rows.callWith_type1 (thn (ha.run pos pins s σ H _ I h) fun us s1 got => ?_) hs rfl))⟩
  obtain ⟨vs, H1, I1, rel, a, xs, rfl, hq, q⟩ := got
  cases rel with
  | cons r rr =>
    cases rr
    cases r
    obtain ⟨its, rv, tp, _⟩ := I1.tuple hq
    have la : a < s1.heap.objs.size := by obtain ⟨o, ho, _⟩ := id tp; exact Heap.lt_size ho
    refine en_call (begins_tuple a its.toArray) tp fun h' he hit hk => wpAny_pyIter_enum he ?_
    have I2 : Inv X pins σ H1 { s1 with heap := h' } := I1.kept (t' := s1.toks) hk
    refine ⟨s1.heap.objs.size + 1, [s1.heap.objs.size + 1, s1.heap.objs.size], _, _, H1, rfl, I2, turn_enT a (s1.heap.objs.size + 1) s1.heap.objs.size (Nat.ne_of_lt (Nat.lt_succ_of_lt la)) (Nat.ne_of_lt la),
      ⟨⟨.none, he⟩, ⟨_, hit, rfl, rfl⟩, Nat.succ_ne_self _⟩, fun b hb => ?_, q⟩
    have le : s1.heap.objs.size ≤ b := by
      rcases List.mem_cons.mp hb with z | z
      · rw [z]; exact Nat.le_add_right _ _
      · rw [List.mem_singleton.mp z]; exact Nat.le_refl _
    exact I1.fpOk le (I1.hok.fresh le)
section
variable {X : Cx} {tg e a b o c : Expr} {es : List Expr} {f fa fb fo fc : Ex} {fs : Exs} {pos : Pos}
theorem PI.orI {X : Cx} {tg iter : Expr} {t t' : TI} (h : PI X tg iter t) (h' : PI X tg iter t') : PI X tg iter (fun σ H R => t σ H R ∨ t' σ H R) :=
  ⟨fun pins s σ H R I q => q.elim (h.run pins s σ H R I) (h'.run pins s σ H R I)⟩
def enumW (ws : List W) : List Item := (List.range ws.length).zip ws |>.map fun p => .tp [.t (.int (p.1 : Nat)), p.2]
def srcEn (fs : Exs) : Srcx := fun ρ S => (fs ρ S).bind fun ws S1 => match ws with
  | [w] => R.of ((cont S1 w).map fun c => ⟨enumW c.2.1, c.2.2⟩) S1
  | _ => .no
theorem enumW_at {ws : List W} {i : Nat} {it : Item} (h : (enumW ws)[i]? = some it) : ∃ x, ws[i]? = some x ∧ it = .tp [.t (.int (i : Nat)), x] := by
  unfold enumW at h
  rw [List.getElem?_map] at h
  obtain ⟨p, hp, rfl⟩ := map1 h
  obtain ⟨h1, h2⟩ := List.getElem?_zip_eq_some.mp hp
  have hi : i < ws.length := (List.getElem?_eq_some_iff.mp h2).1
  rw [List.getElem?_range hi] at h1
  exact ⟨p.2, h2, by cases h1; rfl⟩
def ItEnK (k : SK) (K : PySem.W.Frag) (a : Addr) : It := match k with
  | .l => Ite K a
  | .t => ItEnT K a
theorem wk_enum {K : PySem.W.Frag} {H F : Hp} {μ : List Addr} {a : Addr} {k : SK} {ws : List W} {g : Sto → Bool} (h : SeqAt k K ws g F μ a) : Wk K (ItEnK k K a) ⟨enumW ws, g⟩ H F μ := by
  have hlen : (enumW ws).length = ws.length := by unfold enumW; rw [List.length_map, List.length_zip, List.length_range, Nat.min_self]
  refine ⟨fun H2 S2 F2 μ2 i r2 gr hg hi => ?_, fun H2 S2 F2 μ2 r2 gr hg => ?_, fun H2 S2 F2 μ2 i it x H3 r2 gr hg hi hy => ?_⟩
  · obtain ⟨vs, sq, rw1⟩ := h.at_ H2 S2 F2 μ2 r2 gr.same gr.pre hg
    have hi : i < (enumW ws).length := hi
    rw [hlen, rw1.length] at hi
    have h1 : vs[i]? = some vs[i] := List.getElem?_eq_getElem hi
    cases k with
    | l => exact ⟨vs, _, sq, h1⟩
    | t => exact ⟨vs, _, sq, h1⟩
  · obtain ⟨vs, sq, rw1⟩ := h.at_ H2 S2 F2 μ2 r2 gr.same gr.pre hg
    show (ItEnK k K a).stop (enumW ws).length H2
    rw [hlen, rw1.length]
    cases k with
    | l => exact ⟨vs, sq, Nat.le_refl _⟩
    | t => exact ⟨vs, sq, rfl⟩
  · obtain ⟨vs, sq, rw1⟩ := h.at_ H2 S2 F2 μ2 r2 gr.same gr.pre hg
    obtain ⟨p, hp, rfl⟩ := enumW_at hi
    obtain ⟨v, h1, h2⟩ := rw1.get hp
    have key : ∃ T, x = .ref T ∧ H2 T = none ∧ H3 = upd H2 T (.tup [.int (i : Nat), v]) := by
      cases k with
      | l =>
        obtain ⟨T, y, z1, z2, z3, z4⟩ := hy
        have e1 := z4 vs sq
        rw [h1] at e1
        cases e1
        exact ⟨T, z1, z2, z3⟩
      | t =>
        obtain ⟨T, y, z1, z2, z3, z4⟩ := hy
        have e1 := z4 vs sq
        rw [h1] at e1
        cases e1
        exact ⟨T, z1, z2, z3⟩
    obtain ⟨T, rfl, hT, rfl⟩ := key
    exact ⟨r2.heap _ (r2.notF hT) (r2.notM hT) (r2.sys.none hT), Gr.updH Gr.refl hT, T, _, rfl, hT, upd_same, .cons (show Rp _ _ _ _ from .int _) (.cons h2 .nil)⟩
theorem ds_enum {q tpos : Pos} {elts : List Expr} {kk : Nat} (hg : Gl X "enumerate") (hm : X.mg "enumerate" = none) (ha : DA X [a] fs) (hs : starEach [a] X.env = [(false, eval a X.env)] := by rfl) :
    DI X (.Tuple elts kk tpos) (.Call (.Name "enumerate" q) [a] [] pos) (srcEn fs) := by
  intro σ H ρ S F μ its S' R' h hs' e hQ
  obtain ⟨ws, S1, h1, e⟩ := R.bind_eq e
  split at e
  · rename_i w
    obtain ⟨h2, rfl⟩ := R.of_eq e
    obtain ⟨⟨k, us, g⟩, hc, rfl⟩ := map1 h2
    refine wpi (PI.orI (pi_enum hg hm paW hs) (pi_enT hg hm paW hs)) ?_
    cases k with
    | l =>
      refine .inl (ha σ H ρ S F μ _ S' _ h hs' h1 fun vs H1 F1 μ1 r1 g1 q1 => ?_)
      cases q1 with
      | cons ra q3 =>
        cases q3
        obtain ⟨⟨p1, rfl, sq1⟩, gg1⟩ := cont_seq (H := H1) ra hc
        obtain ⟨xs, s1, _⟩ := sq1.at_ H1 S' F1 μ1 r1 (Same.refl _) ⟨[], by simp⟩ gg1
        exact ⟨p1, xs, rfl, s1, hQ _ H1 F1 μ1 r1 g1 (wk_enum sq1) gg1⟩
    | t =>
      refine .inr (ha σ H ρ S F μ _ S' _ h hs' h1 fun vs H1 F1 μ1 r1 g1 q1 => ?_)
      cases q1 with
      | cons ra q3 =>
        cases q3
        obtain ⟨⟨p1, rfl, sq1⟩, gg1⟩ := cont_seq (H := H1) ra hc
        obtain ⟨xs, s1, _⟩ := sq1.at_ H1 S' F1 μ1 r1 (Same.refl _) ⟨[], by simp⟩ gg1
        exact ⟨p1, xs, rfl, s1, hQ _ H1 F1 μ1 r1 g1 (wk_enum sq1) gg1⟩
  · cases e
/-! ### name += e, three names -/
def kAdd (a b : Int) : Int := a + b
def kSub (a b : Int) : Int := a - b
def sAug (i : Nat) (k : Int → Int → Int) (f : Ex) : Sx := fun ρ S => match ρ[i]? with
  | some (some (.t (.int a))) => thenS (f ρ S) fun w S1 => match w with
    | .t (.int b) => .nx (ρ.set i (some (.t (.int (k a b))))) S1
    | _ => .no
  | _ => .no
theorem ds_aug {i : Nat} {x : Str} {px : Pos} {op : Operator} {k : Int → Int → Int} (hN : X.N.Nodup) (ho : PIp X op (ipI k)) (he : DE X e f) (hi : X.N[i]? = some x := by rfl) (hx : Loc X.env.scope x := by first | exact Or.inl rfl | exact Or.inr rfl) (hf : X.fn x = true ∨ X.env.scope.names.lookup x = some .local := by first | exact .inl rfl | exact .inr rfl) :
    DS X (.AugAssign (.Name x px) op e pos) (sAug i k f) := by
  intro σ H ρ S F μ D h hs q
  unfold sAug at q
  split at q
  · rename_i a0 hi0
    obtain ⟨w, S1, e1, q⟩ := thenS_holds q
    split at q
    · rename_i b0
      obtain ⟨v, hv, rv⟩ := hs.get i _ hi0
      have rv : Rp X.K F (.int a0) v := rv
      cases rv
      refine wps (ps_aug hN hi hx peW ho hf) ⟨_, hv, he σ H ρ S F μ _ S1 _ h hs e1 fun u H1 F1 μ1 r1 g1 q1 => ?_⟩
      have q1 : Rp X.K F1 (.int b0) u := q1
      cases q1
      exact ⟨a0, b0, rfl, rfl, q _ H1 F1 μ1 r1 g1 ((hs.gr g1).set i (show Rp _ _ _ _ from .int _))⟩
    · exact False.elim q
  · exact False.elim q
def sPar3 (i j l : Nat) (fs : Exs) : Sx := fun ρ S => thenS (fs ρ S) fun ws S1 => match ws with
  | [w, u, t] => .nx (((ρ.set i (some w)).set j (some u)).set l (some t)) S1
  | _ => .no
theorem ds_par3 {i j l : Nat} {x y z : Str} {px py pz pt : Pos} {kt k2 pt2} (hc : X.calm = true) (hN : X.N.Nodup) (ha : DA X [a, b, c] fs) (hi : X.N[i]? = some x := by rfl) (hj : X.N[j]? = some y := by rfl) (hl : X.N[l]? = some z := by rfl) (hij : i ≠ j := by decide) (hil : i ≠ l := by decide) (hjl : j ≠ l := by decide)
    (hx : X.env.scope.names.lookup x = some .local := by rfl) (hy : X.env.scope.names.lookup y = some .local := by rfl) (hz : X.env.scope.names.lookup z = some .local := by rfl)
    (hw : swappedStores [.Tuple [.Name x px, .Name y py, .Name z pz] kt pt] (.Tuple [a, b, c] k2 pt2) X.env = pure (some [x, y, z]) := by rfl)
    (hs : swapsWithSole [.Tuple [.Name x px, .Name y py, .Name z pz] kt pt] (.Tuple [a, b, c] k2 pt2) pos.line X.env = pure false := by rfl) :
    DS X (.Assign [.Tuple [.Name x px, .Name y py, .Name z pz] kt pt] (.Tuple [a, b, c] k2 pt2) pos) (sPar3 i j l fs) := by
  intro σ H ρ S F μ D h hs' q
  obtain ⟨ws, S1, e1, q⟩ := thenS_holds q
  split at q
  · refine wps (ps_par3 hc hN hi hj hl hij hil hjl hx hy hz paW hw hs) (ha σ H ρ S F μ _ S1 _ h hs' e1 fun vs H1 F1 μ1 r1 g1 q1 => ?_)
    cases q1 with
    | cons ra q1 => cases q1 with
      | cons rb q1 => cases q1 with
        | cons rc q1 =>
          cases q1
          exact ⟨_, _, _, rfl, q _ H1 F1 μ1 r1 g1 ((((hs'.gr g1).set i ra).set j rb).set l rc)⟩
  · exact False.elim q
/-! ### xs[::-1] of a list, of a tuple's reading -/
def gRevL : T → Option T
  | .lst xs => some (.lst xs.reverse)
  | _ => none
theorem de_revL {k : Nat} {p1 p2 p3 : Pos} (ha : DE X a fa) : DE X (.Subscript a (.Slice none none (some (.UnaryOp .USub (.Constant (.int 1) k p1) p2)) p3) pos) (e1 gRevL fa) := by
  intro σ H ρ S F μ w S' Q h hs ee hQ
  obtain ⟨w1, x, c, h1, h2, h3, rfl⟩ := e1_eq ee
  refine wpe (pe_revL peW) (ha σ H ρ S F μ w1 S' _ h hs h1 fun v H1 F1 μ1 r1 g1 q1 => ?_)
  have rv := view_rv r1 q1 h2
  unfold gRevL at h3
  split at h3
  · cases h3
    cases rv with
    | lst av r =>
      refine ⟨_, _, rfl, SqL.of av, fun p hp => ?_⟩
      obtain ⟨r2, g2⟩ := r1.new (.lst _) hp
      exact hQ _ _ _ _ r2 (g1.trans g2) (show Rp _ _ _ _ from .lst upd_same (r.reverse.mono g2.same))
  · cases h3
end
end Dl
/-! Dl12: repr of any drawn thing, {} included. -/
namespace Dl
open PySem PySem.Spec PyProof.Rows L2
mutual
/-- what repr is covered for -/
def okR : T → Bool
  | .dct kvs => kvs.isEmpty
  | .scr _ => false
  | .tup xs => okRs xs
  | .lst xs => okRs xs
  | _ => true
def okRs : List T → Bool
  | [] => true
  | x :: xs => okR x && okRs xs
end
section
variable {X : Cx} {pins : List (Addr × Obj)} {σ : L2.St} {H F : Hp} {s : Shared}
theorem dict0_reads (I : Inv X pins σ H s) {a : Addr} (e : Rd H a (.dK [])) : Reads s.heap (.ref a) (.dict []) [a] ∧ a ≠ sysModules := by
  obtain ⟨_, ne, vs, kv, ob, es, ep, at_, ex, dat, _, prs, _⟩ := dk_rd I.hok e
  have hv : vs = [] := by
    cases kv
    rfl
  subst hv
  have hes : es.toList = [] := by
    cases h : es.toList with
    | nil => rfl
    | cons x r => rw [h] at prs; cases prs
  refine ⟨?_, beq_eq_false_iff_ne.mp ne⟩
  have r := Reads.dict (kvs := []) (as := []) (bs := []) at_ ex.1 dat (by rw [hes]; exact .nil) (by rw [hes]; exact .nil)
  exact r
mutual
theorem rp_reads (I : Inv X pins σ H s) (hs : SysT H) (sub : Same F H) : ∀ {x : T} {v : V} {u : Value}, Rp X.K F x v → okR x = true → RelV v u → ∃ as, Reads s.heap u (toPy x) as ∧ sysModules ∉ as
  | .non, _, _, r, _, ru => by cases r; cases ru; exact ⟨_, Reads.none, List.not_mem_nil⟩
  | .bl b, _, _, r, _, ru => by cases r; cases ru; exact ⟨_, Reads.bool b, List.not_mem_nil⟩
  | .int i, _, _, r, _, ru => by cases r; obtain ⟨t, rfl⟩ := ru; exact ⟨_, Reads.int i t, List.not_mem_nil⟩
  | .str x, _, _, r, _, ru => by cases r; obtain ⟨t, rfl⟩ := ru; exact ⟨_, Reads.str x t, List.not_mem_nil⟩
  | .tup xs, _, _, r, ok, ru => by
    cases r with
    | tup ha rs =>
      cases ru
      obtain ⟨its, rv, ⟨ob, at_, cls, n, dat⟩, _⟩ := I.tuple (Same.sqT sub ha)
      obtain ⟨as, h1, h2⟩ := rps_reads I hs sub rs ok rv
      exact ⟨as, Reads.tuple at_ cls dat (by simpa using h1), h2⟩
  | .lst xs, _, _, r, ok, ru => by
    cases r with
    | lst ha rs =>
      cases ru
      have hl := sub _ _ ha
      obtain ⟨its, rv, p, _⟩ := I.list (SqL.of hl)
      obtain ⟨ob, at_, cls, n, dat⟩ := p.isList
      obtain ⟨as, h1, h2⟩ := rps_reads I hs sub rs ok rv
      exact ⟨_ :: as, Reads.list at_ cls dat (by simpa using h1), fun z => (List.mem_cons.mp z).elim (fun q => hs.lst hl q.symm) h2⟩
  | .dct kvs, _, _, r, ok, ru => by
    cases r with
    | dct ha rs =>
      cases ru
      cases kvs with
      | nil =>
        cases rs
        obtain ⟨h1, h2⟩ := dict0_reads I (.inl (sub _ _ ha))
        exact ⟨_, h1, fun z => h2 (List.mem_singleton.mp z).symm⟩
      | cons p r => cases ok
  | .scr _, _, _, _, ok, _ => by cases ok
theorem rps_reads (I : Inv X pins σ H s) (hs : SysT H) (sub : Same F H) : ∀ {xs : List T} {vs : List V} {us : List Value}, Rps X.K F xs vs → okRs xs = true → Vals vs us → ∃ as, ReadsAll s.heap us (toPys xs) as ∧ sysModules ∉ as
  | [], _, _, r, _, ru => by cases r; cases ru; exact ⟨_, ReadsAll.nil, List.not_mem_nil⟩
  | x :: xs, _, _, r, ok, ru => by
    have ok' : (okR x && okRs xs) = true := ok
    rw [Bool.and_eq_true] at ok'
    cases r with
    | cons r1 r2 =>
      cases ru with
      | cons u1 u2 =>
        obtain ⟨as, h1, h2⟩ := rp_reads I hs sub r1 ok'.1 u1
        obtain ⟨bs, h3, h4⟩ := rps_reads I hs sub r2 ok'.2 u2
        exact ⟨_, ReadsAll.cons h1 h3, fun z => (List.mem_append.mp z).elim h2 h4⟩
end
theorem rv_reads (I : Inv X pins σ H s) (hs : SysT H) (sub : Same F H) {x : T} {v : V} {u : Value} (r : Rv X.K H F x v) (ok : okR x = true) (ru : RelV v u) : ∃ as, Reads s.heap u (toPy x) as ∧ sysModules ∉ as := by
  cases r with
  | non => exact rp_reads I hs sub .non ok ru
  | bl b => exact rp_reads I hs sub (.bl b) ok ru
  | int i => exact rp_reads I hs sub (.int i) ok ru
  | str x => exact rp_reads I hs sub (.str x) ok ru
  | tup a r => exact rp_reads I hs sub (.tup a r) ok ru
  | lst ha rs =>
    cases ru
    obtain ⟨its, rv, p, _⟩ := I.list (SqL.of ha)
    obtain ⟨ob, at_, cls, n, dat⟩ := p.isList
    obtain ⟨as, h1, h2⟩ := rps_reads I hs sub rs ok rv
    exact ⟨_ :: as, Reads.list at_ cls dat (by simpa using h1), fun z => (List.mem_cons.mp z).elim (fun q => hs.lst ha q.symm) h2⟩
  | dct ha rs =>
    cases ru
    rename_i kvs us
    cases kvs with
    | nil =>
      cases rs
      obtain ⟨h1, h2⟩ := dict0_reads I ha
      exact ⟨_, h1, fun z => h2 (List.mem_singleton.mp z).symm⟩
    | cons p r => cases ok
  | scr a => cases ok
/-- repr of what is held -/
def rReprA (X : Cx) : List V → Hp → VK → Prop := fun xs H Q => ∃ (x : T) (v : V) (F : Hp), xs = [v] ∧ SysT H ∧ Same F H ∧ Rv X.K H F x v ∧ okR x = true ∧ (toPy x).showable = true ∧ (toPy x).shown.length ≤ sizeLine ∧ (toPy x).depth ≤ 60 ∧ Q (.str (toPy x).shown) H
theorem cr_reprA {k : Nat} (hr : RoomG k X.A) : CallR X (.builtin "repr") (rReprA X) := by
  intro pins s σ H xs us Q I r h
  obtain ⟨x, v, F, rfl, hs, sub, rv, ok, sh, hz, dep, q⟩ := h
  obtain ⟨u, rfl, ru⟩ := vals1 r
  obtain ⟨as, rd, nm⟩ := rv_reads I hs sub rv ok ru
  have un := hr.toRoom.un
  cases rv with
  | non => cases ru; exact PySem.P.repr_of_none ⟨.str _, H, I.tok _, ⟨_, rfl⟩, q⟩
  | bl b => cases ru; exact PySem.P.repr_of_bool ⟨.str _, H, I.tok _, ⟨_, rfl⟩, q⟩
  | int i => obtain ⟨t, rfl⟩ := ru; exact PySem.P.repr_of_int (of_decide_eq_true (by simpa only [toPy, PyData.showable] using sh)) ⟨.str _, H, I.tok _, ⟨_, rfl⟩, q⟩
  | str y => obtain ⟨t, rfl⟩ := ru; exact PySem.P.repr_of_str ⟨.str _, H, I.tok _, ⟨_, rfl⟩, q⟩ (by simpa only [toPy, PyData.shown] using hz)
  | tup a r => cases ru; exact PySem.repr_of_reads' rd sh (fun _ => nm) hr.gd (by omega) (fun _ _ e => e) (fun h' u tk hk => ⟨.str _, H, I.kept hk, ⟨_, rfl⟩, q⟩) hz
  | lst a r => cases ru; exact PySem.repr_of_reads' rd sh (fun _ => nm) hr.gd (by omega) (fun _ _ e => e) (fun h' u tk hk => ⟨.str _, H, I.kept hk, ⟨_, rfl⟩, q⟩) hz
  | dct a r => cases ru; exact PySem.repr_of_reads' rd sh (fun _ => nm) hr.gd (by omega) (fun _ _ e => e) (fun h' u tk hk => ⟨.str _, H, I.kept hk, ⟨_, rfl⟩, q⟩) hz
  | scr a => cases ok
def bReprA : List T → Option T
  | [x] => if okR x && (toPy x).showable && decide ((toPy x).shown.length ≤ cap) && decide ((toPy x).depth ≤ 60) then some (.str (toPy x).shown) else none
  | _ => none
theorem cd_reprA {k : Nat} (hr : RoomG k X.A) : CallD X (.builtin "repr") bReprA := by
  refine ⟨_, cr_reprA hr, fun H S F μ xs vs c Q h rv e q => ?_⟩
  unfold bReprA at e
  split at e
  · split at e
    · rename_i x hc
      simp only [Bool.and_eq_true, decide_eq_true_eq] at hc
      cases e
      obtain ⟨v, rfl, r⟩ := rvs1 rv
      exact ⟨x, v, F, rfl, h.sys, h.sub, r, hc.1.1.1, hc.1.1.2, by rw [cap_eq]; exact hc.1.2, hc.2, q.same h (.str _)⟩
    · cases e
  · cases e
end
end Dl
/-! Dl13: str(int). -/
namespace Dl
open PySem PySem.Spec PyProof.Rows L2
section
variable {X : Cx}
def bStr : List T → Option T
  | [.int n] => if n.natAbs.log2 < 1920 then some (.str (toString n)) else none
  | [.bl k] => some (.str (if k then "True" else "False"))
  | _ => none
theorem cd_str : CallD X (.type "str") bStr := by
  refine ⟨_, (call_str_int (X := X)).or call_str_bool, fun H S F μ xs vs c Q h rv e q => ?_⟩
  unfold bStr at e
  split at e
  · split at e
    · rename_i hl
      cases e
      obtain ⟨v, rfl, r⟩ := rvs1 rv
      cases r
      exact .inl ⟨_, rfl, hl, q.same h (.str _)⟩
    · cases e
  · cases e
    obtain ⟨v, rfl, r⟩ := rvs1 rv
    cases r
    exact .inr ⟨_, rfl, q.same h (.str _)⟩
  · cases e
/-- a, b = x, y in turn, through a tuple: names that are cells, or more than three -/
def sMany (fs : Exs) (is : List Nat) : Sx := fun ρ S => thenS (fs ρ S) fun ws S1 => if ws.length ≤ cap then (match bindWs (is.map Pat.nm) ws ρ with
  | some ρ2 => .nx ρ2 S1
  | none => .no) else .no
theorem ds_many {es ts : List Expr} {fs : Exs} {is : List Nat} {k kt : Nat} {pt pos p2 : Pos} (hc : X.calm = true) (ha : DA X es fs) (hp : DPats X ts (is.map Pat.nm)) (hn : (assignEach ts X.env).length = is.length := by rfl) (hst : (assignEach ts X.env).findIdx? (·.1) = none := by rfl)
    (hs : swapsWithSole [.Tuple ts kt pt] (.Tuple es k p2) pos.line X.env = pure false := by rfl) (hw : swappedStores [.Tuple ts kt pt] (.Tuple es k p2) X.env = pure none := by rfl) (h1 : (assignEach [.Tuple ts kt pt] X.env).map (·.2) = [assign (.Tuple ts kt pt) X.env] := by rfl) :
    DS X (.Assign [.Tuple ts kt pt] (.Tuple es k p2) pos) (sMany fs is) := by
  intro σ H ρ S F μ D h hs' q
  obtain ⟨ws, S1, e1, q⟩ := thenS_holds q
  split at q
  · rename_i hl
    split at q
    · rename_i ρ2 e2
      refine wps (ps_asg (pe_tup paW) pgW hs hw h1) (ha σ H ρ S F μ _ S1 _ h hs' e1 fun vs H1 F1 μ1 r1 g1 q1 => ⟨by rw [← q1.length, cap_eq]; exact hl, fun p hp' => ?_⟩)
      obtain ⟨r2, g2⟩ := r1.new (.tup vs) hp'
      exact tup_run hc hp hn hst (by rw [List.length_map]) r2 (hs'.gr (g1.trans g2)) (SqT.of upd_same) (q1.gr g2) e2 fun σ2 s2 _ => q σ2 _ _ _ r2 (g1.trans g2) s2
    · exact False.elim q
  · exact False.elim q
end
end Dl
/-! Dl14: t[::-1] of a tuple. -/
namespace Dl
open PySem PySem.Spec PyProof.Rows L2 HT
theorem adjust_rev (n : Nat) : Builtin.Slice.sliceAdjust none none (-1) (n : Int) = ((n : Int) - 1, -1) := by
  unfold Builtin.Slice.sliceAdjust
  have h1 : ((-1 : Int) < 0) := by omega
  simp only [h1, if_true]
theorem places_rev (n : Nat) : Builtin.Slice.slicePlaces ((n : Int) - 1) (-1) (-1) = n := by
  unfold Builtin.Slice.slicePlaces
  have h1 : ¬ ((-1 : Int) > 0) := by omega
  simp only [h1, if_false]
  by_cases h : (n : Int) - 1 > -1
  · have e : ((n : Int) - 1 - -1 - 1) / (- -1) + 1 = (n : Int) := by
      rw [show (- -1 : Int) = 1 by decide, Int.ediv_one]
      omega
    simp only [h, if_true, e, Int.toNat_natCast]
  · have e : n = 0 := by omega
    subst e
    simp
theorem pick_rev (xs : Array Value) : ((List.range xs.size).filterMap fun (m : Nat) => xs[(((xs.size : Int) - 1) + (m : Int) * (-1)).toNat]?).toArray = xs.toList.reverse.toArray := by
  have e : (fun (m : Nat) => xs[(((xs.size : Int) - 1) + (m : Int) * (-1)).toNat]?) = (fun i => xs[i]?) ∘ (fun k => xs.size - 1 - k) := by
    funext m
    have : (((xs.size : Int) - 1) + (m : Int) * (-1)).toNat = xs.size - 1 - m := by omega
    simp only [Function.comp, this]
  rw [e, ← List.filterMap_map, PySem.W.krv_range, List.filterMap_reverse, PySem.W.krv_all]
section
variable {prog : Program} {w : World} {A : Around} {E : Value → Shared → Prop} {s : Shared}
theorem sliceApplied_rev {sl : Addr} {vl vu vs : Value} {n : Nat} {Q : Int × Int × Nat → Shared → Prop} (hs : s.heap.IsSliceOf sl vl vu vs) (pl : IsPart vl none) (pu : IsPart vu none) (ps : IsPart vs (some (-1)))
    (h : Q ((n : Int) - 1, -1, n) s) : wpAny (model prog w) A (Builtin.Slice.sliceApplied (.ref sl) (pure (n : Int))) Q E s := by
  obtain ⟨os, hos, hcs, hds⟩ := id hs
  unfold Builtin.Slice.sliceApplied Builtin.Slice.sliceFields
  refine wpAny_bind (wpAny_bind (wpAny_field hos hds (x := vl) rfl (wpAny_bind (wpAny_field hos hds (x := vu) rfl (wpAny_bind (wpAny_field hos hds (x := vs) rfl (wpAny_pure ?_)))))))
  refine wpAny_bind (slicePart_ ps ?_)
  show wpAny _ _ (if ((-1 : Int) == 0) = true then _ else _) _ _ s
  rw [if_neg (by decide)]
  refine wpAny_bind (slicePart_ pl (wpAny_bind (slicePart_ pu (wpAny_bind (wpAny_pure ?_)))))
  show wpAny _ _ (match Builtin.Slice.sliceAdjust none none (-1) (n : Int) with | (lo, hi) => pure (lo, (-1 : Int), Builtin.Slice.slicePlaces lo hi (-1))) _ _ s
  rw [adjust_rev n]
  show wpAny _ _ (pure ((n : Int) - 1, (-1 : Int), Builtin.Slice.slicePlaces ((n : Int) - 1) (-1) (-1))) _ _ s
  rw [places_rev]
  exact wpAny_pure h
theorem getItem_tuple_rev {t sl : Addr} {items : Array Value} {vl vu vs : Value} {Q : Value → Shared → Prop} (ht : IsTup s.heap t items) (hs : s.heap.IsSliceOf sl vl vu vs) (pl : IsPart vl none) (pu : IsPart vu none) (ps : IsPart vs (some (-1)))
    (h : Q (.ref s.heap.objs.size) { s with heap := s.heap.push { cls := .type "tuple", data := .seq items.toList.reverse.toArray } })
    (hsz : items.size ≤ sizeLine) : wpAny (model prog w) A (getItem (.ref t) (.ref sl)) Q E s := by
  have htake : sizeOk (.seq items.toList.reverse.toArray) := by
    show items.toList.reverse.toArray.size ≤ sizeLine
    rw [List.size_toArray, List.length_reverse, Array.length_toList]
    exact hsz
  obtain ⟨os, hos, hcs, hds⟩ := id hs
  have hTs : s.TypeIs (.ref sl) "slice" := ⟨os, hos, hcs⟩
  unfold getItem
  try with_reducible refine wpAny_holding ?_
  first | refine wpAny_bind (wpAny_pure ?_) | skip
  refine wpAny_bind (wpAny_sequenceKey ht.typeIs (by decide) ?_)
  refine wpAny_bind (wpAny_callSpecial?_slot (name := Str.ofString "__getitem__") ht.typeIs PyProof.Rows.slot_tuple_getitem
    (wpAny_call_entry PyProof.Rows.slot_tuple_getitem ht.typeIs entry_tuple_getitem ?_ (args_tuple_getitem _ _)))
  show wpAny _ _ (Builtin.Tuple.tupleItemsOf (.ref t) >>= _) _ _ s
  refine wpAny_bind (tupleItemsOf_ ht ?_)
  refine wpAny_bind (wpAny_typeOf hTs ?_)
  rw [if_pos (by decide)]
  refine wpAny_bind (sliceApplied_rev hs pl pu ps ?_)
  have hno : ¬ ((((items.size : Int) - 1) == 0 && (-1 : Int) == 1 && items.size == items.size) = true) := by
    intro q
    rw [Bool.and_eq_true, Bool.and_eq_true] at q
    exact absurd q.1.2 (by decide)
  show wpAny _ _ (if (((items.size : Int) - 1) == 0 && (-1 : Int) == 1 && items.size == items.size) = true then _ else _) _ _ s
  rw [if_neg hno, pick_rev]
  first
    | exact wpAny_bind (m := Builtin.Tuple.tupleExact _) (wpAny_newObj_type (wpAny_pure ⟨_, rfl, wpAny_pure h⟩) htake)
    | exact wpAny_bind (m := Builtin.Tuple.tupleExact _) (wpAny_newObj_type (wpAny_bind (wpAny_pure (wpAny_pure ⟨_, rfl, wpAny_pure h⟩))) htake)
    | exact wpAny_bind (wpAny_bind (m := Builtin.Tuple.tupleExact _) (wpAny_newObj_type (wpAny_pure (wpAny_pure ⟨_, rfl, wpAny_pure h⟩)) htake))
    | exact wpAny_bind (wpAny_bind (m := Builtin.Tuple.tupleExact _) (wpAny_newObj_type (wpAny_pure ⟨_, rfl, wpAny_pure h⟩) htake))
end
section
variable {X : Cx} {e a : Expr} {te : TE} {fa : Ex} {pos : Pos}
def tRevA (K : PySem.W.Frag) (te : TE) : TE := fun σ H Q => te σ H fun x H1 => ∃ a xs, x = .ref a ∧ ((SqL K H1 a xs ∧ ∀ p, H1 p = none → Q (.ref p) (upd H1 p (.lst xs.reverse))) ∨ (SqT K H1 a xs ∧ ∀ p, H1 p = none → Q (.ref p) (upd H1 p (.tup xs.reverse))))
theorem pe_revA {k : Nat} {p1 p2 p3 pos : Pos} (he : PE X e te) : PE X (.Subscript e (.Slice none none (some (.UnaryOp .USub (.Constant (.int 1) k p1) p2)) p3) pos) (tRevA X.K te) := by
  refine ⟨fun pins s σ H Q I h => ?_⟩
  refine Subscript_ (thn (he.run pins s σ H _ I h) fun v s1 ⟨x, H1, I1, r1, q1⟩ => ?_)
  obtain ⟨a, xs, ex, q⟩ := q1
  subst ex
  cases r1
  have hst : PO X (some (.UnaryOp .USub (.Constant (.int 1) k p1) p2)) (tPart (tUn (rU fun i => .int (-i)) (tC (.int 1)))) := po_some (pe_un un_neg pe_int)
  refine wpAny_Slice (thn (po_none.run pins s1 σ H1 (fun o H2 => o = none ∧ H2 = H1) I1 ⟨rfl, rfl⟩) fun vl s2 ⟨l, H2, I2, pl, el, e2⟩ => ?_)
  subst el e2
  refine thn (po_none.run pins s2 σ H2 (fun o H3 => o = none ∧ H3 = H2) I2 ⟨rfl, rfl⟩) fun vu s3 ⟨u, H3, I3, pu, eu, e3⟩ => ?_
  subst eu e3
  refine thn (hst.run pins s3 σ H3 (fun o H4 => o = some (-1) ∧ H4 = H3) I3 ⟨1, rfl, -1, rfl, rfl, rfl⟩) fun vs s4 ⟨o, H4, I4, ps, eo, e4⟩ => ?_
  subst eo e4
  have I5 : Inv X pins σ H4 { s4 with heap := s4.heap.push { cls := .type "slice", data := .fields #[vl, vu, vs] } } := I4.kept (t' := s4.toks) fun b ob q => Heap.get?_push_of_some _ q
  show wpAny (model X.prog X.w) X.A (subscriptTail e (.Slice none none (some (.UnaryOp .USub (.Constant (.int 1) k p1) p2)) p3) (.ref a) (.ref s4.heap.objs.size)) (EP X pins σ Q) X.xe { s4 with heap := s4.heap.push { cls := .type "slice", data := .fields #[vl, vu, vs] } }
  rcases q with ⟨hx, q⟩ | ⟨hx, q⟩
  · obtain ⟨its, r, ht, hz⟩ := I5.list hx
    have hlen := r.length
    refine tail_any (ops := [.ref a, .ref s4.heap.objs.size]) ht.isList.typeIs (PySem.slot_list_getitem.lookup) ?_ (by with_unfolding_all rfl)
    refine wpAny_getItem_list_slice ht.isList (Heap.IsSliceOf.new _ vl vu vs) pl pu ps (by decide) ?_ (by rw [List.size_toArray]; omega)
    rw [PySem.W.krv_pick]
    refine ⟨.ref _, _, I5.laid (t' := s4.toks) (o := .lst xs.reverse) (fun b ob q => Heap.get?_push_of_some _ q) (Nat.le_refl _) ?_, rfl, q _ (I5.hok.fresh (Nat.le_refl _))⟩
    exact ⟨by rw [List.length_reverse]; exact hz, _, 0, r.reverse, Heap.get?_push_size _ rfl⟩
  · obtain ⟨its, r, ht, hz⟩ := I5.tuple hx
    have hlen := r.length
    refine tail_any (ops := [.ref a, .ref s4.heap.objs.size]) ht.typeIs (PyProof.Rows.slot_tuple_getitem.lookup) ?_ (by with_unfolding_all rfl)
    refine getItem_tuple_rev ht (Heap.IsSliceOf.new _ vl vu vs) pl pu ps ?_ (by rw [List.size_toArray]; omega)
    refine ⟨.ref _, _, I5.laid (t' := s4.toks) (o := .tup xs.reverse) (fun b ob q => Heap.get?_push_of_some _ q) (Nat.le_refl _) ?_, rfl, q _ (I5.hok.fresh (Nat.le_refl _))⟩
    exact ⟨by rw [List.length_reverse]; exact hz, _, r.reverse, IsTup.new _ _⟩
def gRevA : T → Option T
  | .lst xs => some (.lst xs.reverse)
  | .tup xs => some (.tup xs.reverse)
  | _ => none
theorem de_revA {k : Nat} {p1 p2 p3 : Pos} (ha : DE X a fa) : DE X (.Subscript a (.Slice none none (some (.UnaryOp .USub (.Constant (.int 1) k p1) p2)) p3) pos) (e1 gRevA fa) := by
  intro σ H ρ S F μ w S' Q h hs ee hQ
  obtain ⟨w1, x, c, h1, h2, h3, rfl⟩ := e1_eq ee
  refine wpe (pe_revA peW) (ha σ H ρ S F μ w1 S' _ h hs h1 fun v H1 F1 μ1 r1 g1 q1 => ?_)
  have rv := view_rv r1 q1 h2
  unfold gRevA at h3
  split at h3
  · cases h3
    cases rv with
    | lst av r =>
      refine ⟨_, _, rfl, .inl ⟨SqL.of av, fun p hp => ?_⟩⟩
      obtain ⟨r2, g2⟩ := r1.new (.lst _) hp
      exact hQ _ _ _ _ r2 (g1.trans g2) (show Rp _ _ _ _ from .lst upd_same (r.reverse.mono g2.same))
  · cases h3
    cases rv with
    | tup av r =>
      refine ⟨_, _, rfl, .inr ⟨Same.sqT r1.sub av, fun p hp => ?_⟩⟩
      obtain ⟨r2, g2⟩ := r1.new (.tup _) hp
      exact hQ _ _ _ _ r2 (g1.trans g2) (show Rp _ _ _ _ from .tup (SqT.of upd_same) (r.reverse.mono g2.same))
  · cases h3
end
end Dl
/-! KcA: k14's own defs, as denotations (printed by gen.py). -/
namespace Dl
open PySem
def b__law_is_free : Sx := sCons (sSet 3 (eCall (lst1 bSorted) (aCons (eComp [4] (srcS (eVar 0)) (.nm 4) (tE (e2 gEq (e2 gAnd (e2 gShr (eVar 4) (eVar 2)) (eC (.int 1))) (eC (.int 1)))) (e2 gAnd (eVar 4) (eVar 1))) (aNil))))
  (sRet (e2 gEq (eComp [5, 6] (srcZ2 (aCons (eVar 3) (aCons (eSl (eVar 3) (oSome (eC (.int 1))) oNone) (aNil)))) (.tp [.nm 5, .nm 6]) (tE (e2 gNe (e2 gAnd (eVar 5) (eVar 6)) (eVar 5))) (eC (.int 1))) (eLst (aNil))))
def d__law_is_free : Den := fnF 3 7 b__law_is_free
def b__law_ways : Sx := sCons (sPar 1 2 (aCons (eComp [9] (srcS (eIx (eVar 0) (eC (.int 1)))) (.nm 9) (tTrue) (eCall bSum (aCons (eComp [7] (srcS (eVar 9)) (.nm 7) (tTrue) (e2 gShl (eC (.int 1)) (eVar 7))) (aNil)))) (aCons (e2 gSub (e2 gShl (eC (.int 1)) (eIx (eVar 0) (eC (.int 0)))) (eC (.int 1))) (aNil))))
  (sCons (sSet 3 (eDict1B (eC (.int 0)) (eC (.int 1))))
  (sCons (sFor (srcR1 (aCons (eIx (eVar 0) (eC (.int 0))) (aNil))) (.nm 4) (sCons (sSet 5 (eDictB))
  (sCons (sLock 3 (sFor (srcD 3) (.nm 6) (sFor (srcR1 (aCons (eIx (eVar 0) (eC (.int 0))) (aNil))) (.nm 7) (sIf (tAndD (tE (e2 gEq (e2 gAnd (e2 gShr (eVar 6) (eVar 7)) (eC (.int 1))) (eC (.int 0)))) (tE (eFn 3 (d__law_is_free) (aCons (eVar 1) (aCons (e2 gSub (eVar 2) (eVar 6)) (aCons (eVar 7) (aNil))))))) (sCons (sSet 8 (e2 gAdd (eVar 6) (e2 gShl (eC (.int 1)) (eVar 7))))
  (sAsg (e2 gAdd (eGet (eVar 5) (eVar 8) (eC (.int 0))) (eIx (eVar 3) (eVar 6))) (gSubD (eVar 5) (eVar 8)))) (sNil)))))
  (sSet 3 (eVar 5)))))
  (sRet (eCall bSum (aCons (eLock 3 (eComp [6] (srcD 3) (.nm 6) (tTrue) (eIx (eVar 3) (eVar 6)))) (aNil))))))
def d__law_ways : Den := fnF 1 10 b__law_ways
end Dl
/-! DkH: denotations of the defs that several laws share (printed by gen.py). -/
namespace Dl
open PySem
def b__law_odd : Sx := sCons (sSet 1 (eLst (aCons (eC .non) (aCons (eC (.bl true)) (aCons (eC (.bl false)) (aCons (eC (.int 0)) (aCons (eC (.int 1)) (aCons (e1 gNeg (eC (.int 1))) (aCons (eC (.int 2)) (aCons (eC (.int 8)) (aCons (eC (.int 16)) (aCons (e2 gPow (eC (.int 10)) (eC (.int 12))) (aCons (e2 gAdd (e2 gPow (eC (.int 10)) (eC (.int 12))) (eC (.int 1))) (aCons (e2 gPow (eC (.int 10)) (eC (.int 59))) (aCons (eC (.str "")) (aCons (eC (.str "0")) (aCons (eC (.str "order")) (aCons (eTup (aNil)) (aCons (eTup (aCons (eC (.int 0)) (aNil))) (aNil))))))))))))))))))))
  (sRet (eIx (e2 gAdd (eVar 1) (eLst (aCons (eTup (aCons (eC (.int 0)) (aCons (eC (.int 1)) (aNil)))) (aCons (eLst (aNil)) (aCons (eDict0) (aCons (eLst (aCons (eC (.int 0)) (aNil))) (aCons (eTup (aCons (eC (.bl true)) (aNil))) (aCons (eTup (aCons (eTup (aNil)) (aNil))) (aNil))))))))) (eFn 2 (d__law_next) (aCons (eVar 0) (aCons (eC (.int 23)) (aNil))))))
def d__law_odd : Den := fnF 1 2 b__law_odd
def b_is_integer_in : Sx := sRet (eAnd (e1 (gIsi "int") (eVar 0)) (eAnd (eNot (e1 (gIsi "bool") (eVar 0))) (e3 gLe gLe (eVar 1) (eVar 0) (eVar 2))))
def d_is_integer_in : Den := fnF 3 3 b_is_integer_in
def b_is_ascending : Sx := sRet (eCall bAll (aCons (eComp [1, 2] (srcZ2 (aCons (eVar 0) (aCons (eSl (eVar 0) (oSome (eC (.int 1))) oNone) (aNil)))) (.tp [.nm 1, .nm 2]) (tTrue) (e2 gLt (eVar 1) (eVar 2))) (aNil)))
def d_is_ascending : Den := fnF 1 3 b_is_ascending
def b_is_subset_of : Sx := sCons (sIf (tOrD (tNotD (tE (e1 (gIsi "tuple") (eVar 1)))) (tNotD (tE (eCall bAll (aCons (eComp [2] (srcS (eVar 1)) (.nm 2) (tTrue) (eFn 3 (d_is_integer_in) (aCons (eVar 2) (aCons (eC (.int 0)) (aCons (e2 gSub (eVar 0) (eC (.int 1))) (aNil)))))) (aNil)))))) (sRet (eC (.bl false))) (sNil))
  (sRet (eFn 1 (d_is_ascending) (aCons (eVar 1) (aNil))))
def d_is_subset_of : Den := fnF 2 3 b_is_subset_of
def b_is_table : Sx := sCons (sIf (tOrD (tNotD (tE (e1 (gIsi "tuple") (eVar 0)))) (tOrD (tE (e2 gNe (eCall bLen (aCons (eVar 0) (aNil))) (eC (.int 2)))) (tNotD (tE (eFn 3 (d_is_integer_in) (aCons (eIx (eVar 0) (eC (.int 0))) (aCons (eC (.int 1)) (aCons (eC (.int 10)) (aNil))))))))) (sRet (eC (.bl false))) (sNil))
  (sCons (sAsg (eVar 0) (gPat (.tp [.nm 1, .nm 2])))
  (sCons (sIf (tOrD (tNotD (tE (e1 (gIsi "tuple") (eVar 2)))) (tE (e2 gGt (eCall bLen (aCons (eVar 2) (aNil))) (eC (.int 10))))) (sRet (eC (.bl false))) (sNil))
  (sRet (eCall bAll (aCons (eComp [3] (srcS (eVar 2)) (.nm 3) (tTrue) (eFn 2 (d_is_subset_of) (aCons (eVar 1) (aCons (eVar 3) (aNil))))) (aNil))))))
def d_is_table : Den := fnF 1 4 b_is_table
def b__law_whole : Sx := sRet (eAnd (e1 (gIsi "int") (eVar 0)) (eNot (e1 (gIsi "bool") (eVar 0))))
def d__law_whole : Den := fnF 1 1 b__law_whole
def b__law_bent (d__law_bent : Nat → Den) (n : Nat) : Sx := sCons (sIf (tAndD (tE (e1 (gIsi "tuple") (eVar 1))) (tAndD (tE (e2 gNe (eVar 1) (eTup (aNil)))) (tAndD (tE (e2 gGt (eVar 2) (eC (.int 0)))) (tE (e2 gGt (eFn 2 (d__law_next) (aCons (eVar 0) (aCons (eC (.int 4)) (aNil)))) (eC (.int 0))))))) (sCons (sSet 3 (eFn 2 (d__law_next) (aCons (eVar 0) (aCons (eCall bLen (aCons (eVar 1) (aNil))) (aNil)))))
  (sRet (e2 gAdd (e2 gAdd (eSl (eVar 1) oNone (oSome (eVar 3))) (eTup (aCons (eFn 3 (d__law_bent n) (aCons (eVar 0) (aCons (eIx (eVar 1) (eVar 3)) (aCons (e2 gSub (eVar 2) (eC (.int 1))) (aNil))))) (aNil)))) (eSl (eVar 1) (oSome (e2 gAdd (eVar 3) (eC (.int 1)))) oNone)))) (sNil))
  (sCons (sIf (tE (e1 (gIsi "tuple") (eVar 1))) (sRet (eIx (eLst (aCons (eSl (eVar 1) (oSome (eC (.int 1))) oNone) (aCons (e2 gAdd (eVar 1) (eSl (eVar 1) (oSome (e1 gNeg (eC (.int 1)))) oNone)) (aCons (e1 gRevA (eVar 1)) (aCons (eCall (lst1 bList) (aCons (eVar 1) (aNil))) (aCons (eFn 1 (d__law_odd) (aCons (eVar 0) (aNil))) (aNil))))))) (eFn 2 (d__law_next) (aCons (eVar 0) (aCons (eC (.int 5)) (aNil)))))) (sNil))
  (sCons (sIf (tE (e1 (gIsi "int") (eVar 1))) (sRet (eIx (eLst (aCons (e2 gAdd (eVar 1) (eC (.int 1))) (aCons (e2 gSub (eVar 1) (eC (.int 1))) (aCons (eCall bStr (aCons (eVar 1) (aNil))) (aCons (e2 gEq (eVar 1) (eC (.int 1))) (aCons (eC (.int 0)) (aCons (eFn 1 (d__law_odd) (aCons (eVar 0) (aNil))) (aNil)))))))) (eFn 2 (d__law_next) (aCons (eVar 0) (aCons (eC (.int 6)) (aNil)))))) (sNil))
  (sRet (eFn 1 (d__law_odd) (aCons (eVar 0) (aNil))))))
def d__law_bent : Nat → Den
  | 0 => fun _ _ => .no
  | n + 1 => fnF 3 4 (b__law_bent (fun _ => d__law_bent n) n)
def b_check_demand : Sx := sIf (tNotD (tE (eFn 3 (d_is_integer_in) (aCons (eVar 1) (aCons (eC (.int 0)) (aCons (e2 gSub (eIx (eVar 0) (eC (.int 0))) (eC (.int 1))) (aNil))))))) (sNo) (sNil)
def d_check_demand : Den := fnF 2 2 b_check_demand
def b_check_offer : Sx := sIf (tNotD (tE (eFn 3 (d_is_integer_in) (aCons (eVar 1) (aCons (eC (.int 0)) (aCons (e2 gSub (eCall bLen (aCons (eIx (eVar 0) (eC (.int 1))) (aNil))) (eC (.int 1))) (aNil))))))) (sNo) (sNil)
def d_check_offer : Den := fnF 2 2 b_check_offer
def b_check_some_demands : Sx := sIf (tOrD (tNotD (tE (eFn 2 (d_is_subset_of) (aCons (eIx (eVar 0) (eC (.int 0))) (aCons (eVar 1) (aNil)))))) (tE (e2 gEq (eVar 1) (eTup (aNil))))) (sNo) (sNil)
def d_check_some_demands : Den := fnF 2 2 b_check_some_demands
def b_covering_offers : Sx := sCons (sExpr (eFn 2 (d_check_demand) (aCons (eVar 0) (aCons (eVar 1) (aNil)))))
  (sRet (eCall bTuple (aCons (eComp [2, 3] (srcEn (aCons (eIx (eVar 0) (eC (.int 1))) (aNil))) (.tp [.nm 2, .nm 3]) (tE (e2 gIn (eVar 1) (eVar 3))) (eVar 2)) (aNil))))
def d_covering_offers : Den := fnF 2 4 b_covering_offers
def b_restrict_demands : Sx := sCons (sExpr (eFn 2 (d_check_some_demands) (aCons (eVar 0) (aCons (eVar 1) (aNil)))))
  (sCons (sSet 2 (eLstB (aNil)))
  (sCons (sFor (srcS (eIx (eVar 0) (eC (.int 1)))) (.nm 3) (sExpr (eM1 kAppend (eVar 2) (eCall bTuple (aCons (eComp [4, 5] (srcEn (aCons (eVar 1) (aNil))) (.tp [.nm 4, .nm 5]) (tE (e2 gIn (eVar 5) (eVar 3))) (eVar 4)) (aNil))))))
  (sRet (eTup (aCons (eCall bLen (aCons (eVar 1) (aNil))) (aCons (eCall bTuple (aCons (eVar 2) (aNil))) (aNil)))))))
def d_restrict_demands : Den := fnF 2 6 b_restrict_demands
def b_add_offer : Sx := sCons (sIf (tNotD (tE (eFn 2 (d_is_subset_of) (aCons (eIx (eVar 0) (eC (.int 0))) (aCons (eVar 1) (aNil)))))) (sNo) (sNil))
  (sCons (sIf (tE (e2 gGe (eCall bLen (aCons (eIx (eVar 0) (eC (.int 1))) (aNil))) (eC (.int 10)))) (sNo) (sNil))
  (sRet (eTup (aCons (eIx (eVar 0) (eC (.int 0))) (aCons (e2 gAdd (eIx (eVar 0) (eC (.int 1))) (eTup (aCons (eVar 1) (aNil)))) (aNil))))))
def d_add_offer : Den := fnF 2 2 b_add_offer
def b_remove_offer : Sx := sCons (sExpr (eFn 2 (d_check_offer) (aCons (eVar 0) (aCons (eVar 1) (aNil)))))
  (sRet (eTup (aCons (eIx (eVar 0) (eC (.int 0))) (aCons (e2 gAdd (eSl (eIx (eVar 0) (eC (.int 1))) oNone (oSome (eVar 1))) (eSl (eIx (eVar 0) (eC (.int 1))) (oSome (e2 gAdd (eVar 1) (eC (.int 1)))) oNone)) (aNil)))))
def d_remove_offer : Den := fnF 2 2 b_remove_offer
def b_transpose : Sx := sCons (sIf (tE (e2 gEq (eIx (eVar 0) (eC (.int 1))) (eTup (aNil)))) (sNo) (sNil))
  (sRet (eTup (aCons (eCall bLen (aCons (eIx (eVar 0) (eC (.int 1))) (aNil))) (aCons (eCall bTuple (aCons (eComp [1] (srcR1 (aCons (eIx (eVar 0) (eC (.int 0))) (aNil))) (.nm 1) (tTrue) (eFn 2 (d_covering_offers) (aCons (eVar 0) (aCons (eVar 1) (aNil))))) (aNil))) (aNil)))))
def d_transpose : Den := fnF 1 2 b_transpose
def b_simple_in : Sx := sCons (sAsg (eTup (aCons (eFn 1 (d_masks_of) (aCons (eVar 0) (aNil))) (aCons (eFn 1 (d_mask_of) (aCons (eVar 1) (aNil))) (aNil)))) (gPat (.tp [.nm 2, .nm 3])))
  (sRet (eComp [4] (srcS (eVar 1)) (.nm 4) (tE (eFn 3 (d_is_simple) (aCons (eVar 2) (aCons (eVar 3) (aCons (eVar 4) (aNil)))))) (eVar 4)))
def d_simple_in : Den := fnF 2 5 b_simple_in
def b_simple_demands : Sx := sCons (sExpr (eFn 2 (d_check_some_demands) (aCons (eVar 0) (aCons (eVar 1) (aNil)))))
  (sRet (eCall bTuple (aCons (eFn 2 (d_simple_in) (aCons (eVar 0) (aCons (eVar 1) (aNil)))) (aNil))))
def d_simple_demands : Den := fnF 2 2 b_simple_demands
def b__law_is_order : Sx := sCons (sIf (tOrD (tNotD (tE (e1 (gIsi "tuple") (eVar 1)))) (tE (e2 gNe (eComp [2] (srcS (eVar 1)) (.nm 2) (tNotD (tE (eFn 1 (d__law_whole) (aCons (eVar 2) (aNil))))) (eVar 2)) (eLst (aNil))))) (sRet (eC (.bl false))) (sNil))
  (sRet (e2 gEq (eCall (lst1 bSorted) (aCons (eVar 1) (aNil))) (eListR1 (aCons (eIx (eVar 0) (eC (.int 0))) (aNil)))))
def d__law_is_order : Den := fnF 2 3 b__law_is_order
def b_stuck_set : Sx := sCons (sSet 1 (eListR1B (aCons (eIx (eVar 0) (eC (.int 0))) (aNil))))
  (sCons (sSet 2 (eFn 2 (d_simple_in) (aCons (eVar 0) (aCons (eVar 1) (aNil)))))
  (sCons (whL (tE (e2 gNe (eVar 2) (eLst (aNil)))) (sCons (sExpr (eM1 kRemove (eVar 1) (eIx (eVar 2) (eC (.int 0)))))
  (sSet 2 (eFn 2 (d_simple_in) (aCons (eVar 0) (aCons (eVar 1) (aNil)))))) LL)
  (sRet (eVar 1))))
def d_stuck_set : Den := fnF 1 3 b_stuck_set
def b_smallest_order : Sx := sCons (sPar 1 2 (aCons (eListR1B (aCons (eIx (eVar 0) (eC (.int 0))) (aNil))) (aCons (eLstB (aNil)) (aNil))))
  (sCons (whL (tE (e2 gNe (eVar 1) (eLst (aNil)))) (sCons (sExpr (eM1 kAppend (eVar 2) (eIx (eFn 2 (d_simple_in) (aCons (eVar 0) (aCons (eVar 1) (aNil)))) (eC (.int 0)))))
  (sExpr (eM1 kRemove (eVar 1) (eIx (eVar 2) (e1 gNeg (eC (.int 1))))))) LL)
  (sRet (eCall bTuple (aCons (eVar 2) (aNil)))))
def d_smallest_order : Den := fnF 1 3 b_smallest_order
def b_last_difference : Sx := sRet (eIx (eComp [2] (srcR1 (aCons (eCall bLen (aCons (eVar 0) (aNil))) (aNil))) (.nm 2) (tE (e2 gNe (eIx (eVar 0) (eVar 2)) (eIx (eVar 1) (eVar 2)))) (eVar 2)) (e1 gNeg (eC (.int 1))))
def d_last_difference : Den := fnF 2 3 b_last_difference
def b_columns_of : Sx := sRet (eComp [1] (srcR1 (aCons (eCall bLen (aCons (eIx (eVar 0) (eC (.int 0))) (aNil))) (aNil))) (.nm 1) (tTrue) (eCall bTuple (aCons (eComp [2] (srcS (eVar 0)) (.nm 2) (tTrue) (eIx (eVar 2) (eVar 1))) (aNil))))
def d_columns_of : Den := fnF 1 3 b_columns_of
def b_sort_keys : Sx := sRet (eComp [1] (srcS (eVar 0)) (.nm 1) (tTrue) (e1 gRevA (eVar 1)))
def d_sort_keys : Den := fnF 1 2 b_sort_keys
def b_first_corner : Sx := sCons (sFor (srcR1 (aCons (eCall bLen (aCons (eVar 0) (aNil))) (aNil))) (.nm 1) (sFor (srcR1 (aCons (eVar 1) (aNil))) (.nm 2) (sFor (srcR1 (aCons (eCall bLen (aCons (eIx (eVar 0) (eC (.int 0))) (aNil))) (aNil))) (.nm 3) (sFor (srcR2 (aCons (e2 gAdd (eVar 3) (eC (.int 1))) (aCons (eCall bLen (aCons (eIx (eVar 0) (eC (.int 0))) (aNil))) (aNil)))) (.nm 4) (sIf (tE (e2 gEq (eTup (aCons (eIx (eIx (eVar 0) (eVar 2)) (eVar 3)) (aCons (eIx (eIx (eVar 0) (eVar 2)) (eVar 4)) (aCons (eIx (eIx (eVar 0) (eVar 1)) (eVar 3)) (aCons (eIx (eIx (eVar 0) (eVar 1)) (eVar 4)) (aNil)))))) (eTup (aCons (eC (.int 1)) (aCons (eC (.int 1)) (aCons (eC (.int 1)) (aCons (eC (.int 0)) (aNil)))))))) (sRet (eTup (aCons (eLst (aCons (eVar 2) (aCons (eVar 1) (aNil)))) (aCons (eLst (aCons (eVar 3) (aCons (eVar 4) (aNil)))) (aNil))))) (sNil))))))
  (sRet (eC .non))
def d_first_corner : Den := fnF 1 5 b_first_corner
def b_grow_corner : Sx := sCons (sSet 3 (eFn 1 (d_columns_of) (aCons (eVar 0) (aNil))))
  (whL (tE (eC (.bl true))) (sCons (sSet 4 (eFn 2 (d_last_difference) (aCons (eIx (eVar 3) (eIx (eVar 2) (e1 gNeg (eC (.int 2))))) (aCons (eIx (eVar 3) (eIx (eVar 2) (e1 gNeg (eC (.int 1))))) (aNil)))))
  (sCons (sSet 5 (eFn 2 (d_last_difference) (aCons (eIx (eVar 0) (eIx (eVar 1) (e1 gNeg (eC (.int 2))))) (aCons (eIx (eVar 0) (eIx (eVar 1) (e1 gNeg (eC (.int 1))))) (aNil)))))
  (sCons (sExpr (eM1 kAppend (eVar 1) (eVar 4)))
  (sCons (sExpr (eM1 kAppend (eVar 2) (eVar 5)))
  (sIf (tE (e2 gEq (eIx (eIx (eVar 0) (eVar 4)) (eVar 5)) (eC (.int 1)))) (sRet (eTup (aCons (eVar 1) (aCons (eVar 2) (aNil))))) (sNil)))))) LL)
def d_grow_corner : Den := fnF 3 6 b_grow_corner
def b_ring_cycle : Sx := sCons (sMany (aCons (eLstB (aCons (eIx (eVar 1) (eC (.int 0))) (aNil))) (aCons (eLstB (aNil)) (aNil))) [3, 4])
  (sCons (whL (tOrD (tE (e2 gLt (eCall bLen (aCons (eVar 3) (aNil))) (eCall bLen (aCons (eVar 1) (aNil))))) (tE (e2 gLt (eCall bLen (aCons (eVar 4) (aNil))) (eCall bLen (aCons (eVar 2) (aNil)))))) (sCons (sSet 5 (eComp [6] (srcS (eVar 2)) (.nm 6) (tAndD (tE (e2 gEq (eIx (eIx (eVar 0) (eIx (eVar 3) (e1 gNeg (eC (.int 1))))) (eVar 6)) (eC (.int 1)))) (tE (e2 gNotIn (eVar 6) (eVar 4)))) (eVar 6)))
  (sCons (sExpr (eM1 kAppend (eVar 4) (eIx (eVar 5) (eC (.int 0)))))
  (sExpr (eM1 kExtend (eVar 3) (eComp [7] (srcS (eVar 1)) (.nm 7) (tAndD (tE (e2 gEq (eIx (eIx (eVar 0) (eVar 7)) (eIx (eVar 5) (eC (.int 0)))) (eC (.int 1)))) (tE (e2 gNotIn (eVar 7) (eVar 3)))) (eVar 7)))))) LL)
  (sRet (eTup (aCons (eVar 3) (aCons (eVar 4) (aNil))))))
def d_ring_cycle : Den := fnF 3 8 b_ring_cycle
def b_only_in : Sx := sRet (eComp [3] (srcS (eVar 2)) (.nm 3) (tAndD (tE (e2 gIn (eVar 3) (eVar 0))) (tE (e2 gNotIn (eVar 3) (eVar 1)))) (eVar 3))
def d_only_in : Den := fnF 3 4 b_only_in
def b_conflict_at : Sx := sCons (sSet 3 (eComp [8, 9] (srcEn (aCons (eIx (eVar 0) (eC (.int 1))) (aNil))) (.tp [.nm 8, .nm 9]) (tE (e2 gIn (eVar 2) (eVar 9))) (eVar 8)))
  (sCons (sFor (srcS (eVar 3)) (.nm 4) (sFor (srcS (eVar 3)) (.nm 5) (sCons (sPar 6 7 (aCons (eFn 3 (d_only_in) (aCons (eIx (eIx (eVar 0) (eC (.int 1))) (eVar 4)) (aCons (eIx (eIx (eVar 0) (eC (.int 1))) (eVar 5)) (aCons (eVar 1) (aNil))))) (aCons (eFn 3 (d_only_in) (aCons (eIx (eIx (eVar 0) (eC (.int 1))) (eVar 5)) (aCons (eIx (eIx (eVar 0) (eC (.int 1))) (eVar 4)) (aCons (eVar 1) (aNil))))) (aNil))))
  (sIf (tAndD (tE (e2 gNe (eVar 6) (eLst (aNil)))) (tE (e2 gNe (eVar 7) (eLst (aNil))))) (sRet (eTup (aCons (eVar 2) (aCons (eIx (eVar 6) (eC (.int 0))) (aCons (eIx (eVar 7) (eC (.int 0))) (aCons (eVar 4) (aCons (eVar 5) (aNil)))))))) (sNil)))))
  (sRet (eC .non)))
def d_conflict_at : Den := fnF 3 10 b_conflict_at
def b_is_choice : Sx := sRet (eFn 2 (d_is_subset_of) (aCons (eCall bLen (aCons (eIx (eVar 0) (eC (.int 1))) (aNil))) (aCons (eVar 1) (aNil))))
def d_is_choice : Den := fnF 2 2 b_is_choice
def b__law_amount : Sx := sRet (eIx (eLst (aCons (eC (.int 0)) (aCons (eC (.int 1)) (aCons (eFn 2 (d__law_next) (aCons (eVar 0) (aCons (eC (.int 4)) (aNil)))) (aCons (eFn 2 (d__law_next) (aCons (eVar 0) (aCons (eC (.int 12)) (aNil)))) (aCons (eFn 2 (d__law_next) (aCons (eVar 0) (aCons (e2 gAdd (e2 gPow (eC (.int 10)) (eC (.int 12))) (eC (.int 1))) (aNil)))) (aCons (e2 gPow (eC (.int 10)) (eC (.int 12))) (aNil)))))))) (eFn 2 (d__law_next) (aCons (eVar 0) (aCons (eC (.int 6)) (aNil)))))
def d__law_amount : Den := fnF 1 1 b__law_amount
def b__law_data : Sx := sCons (sSet 2 (eIx (eLst (aCons (eC (.int 3)) (aCons (eC (.int 12)) (aCons (eC (.int 0)) (aNil))))) (eFn 2 (d__law_next) (aCons (eVar 0) (aCons (eC (.int 3)) (aNil))))))
  (sCons (sSet 3 (e2 gAdd (eIx (eVar 1) (eC (.int 0))) (eCall bLen (aCons (eIx (eVar 1) (eC (.int 1))) (aNil)))))
  (sCons (sSet 4 (eComp [5] (srcR1 (aCons (eVar 3) (aNil))) (.nm 5) (tTrue) (eFn 2 (d__law_next) (aCons (eVar 0) (aCons (e2 gAdd (eVar 2) (eC (.int 1))) (aNil))))))
  (sCons (sIf (tE (e2 gEq (eVar 2) (eC (.int 0)))) (sSet 4 (eComp [5] (srcR1 (aCons (eVar 3) (aNil))) (.nm 5) (tTrue) (eFn 1 (d__law_amount) (aCons (eVar 0) (aNil))))) (sNil))
  (sRet (eTup (aCons (eCall bTuple (aCons (eSl (eVar 4) (oSome (eIx (eVar 1) (eC (.int 0)))) oNone) (aNil))) (aCons (eCall bTuple (aCons (eSl (eVar 4) oNone (oSome (eIx (eVar 1) (eC (.int 0))))) (aNil))) (aNil))))))))
def d__law_data : Den := fnF 2 6 b__law_data
def b__law_choice_cost : Sx := sCons (sSet 4 (eLstB (aNil)))
  (sCons (sFor (srcS (eVar 3)) (.nm 5) (sExpr (eM1 kExtend (eVar 4) (eCall (lst1 bList) (aCons (eIx (eIx (eVar 0) (eC (.int 1))) (eVar 5)) (aNil))))))
  (sRet (e2 gAdd (eCall bSum (aCons (eComp [5] (srcS (eVar 3)) (.nm 5) (tTrue) (eIx (eVar 1) (eVar 5))) (aNil))) (eCall bSum (aCons (eComp [6, 7] (srcEn (aCons (eVar 2) (aNil))) (.tp [.nm 6, .nm 7]) (tE (e2 gNotIn (eVar 6) (eVar 4))) (eVar 7)) (aNil))))))
def d__law_choice_cost : Den := fnF 4 8 b__law_choice_cost
def b__law_drawn_choice : Sx := sRet (eFn 3 (d__law_part) (aCons (eVar 0) (aCons (eListR1 (aCons (eCall bLen (aCons (eIx (eVar 1) (eC (.int 1))) (aNil))) (aNil))) (aCons (e2 gAdd (eC (.int 1)) (eFn 2 (d__law_next) (aCons (eVar 0) (aCons (eC (.int 3)) (aNil))))) (aNil)))))
def d__law_drawn_choice : Den := fnF 2 2 b__law_drawn_choice
def b_is_collection : Sx := sCons (sIf (tOrD (tNotD (tE (e1 (gIsi "tuple") (eVar 3)))) (tE (e2 gNe (eCall bLen (aCons (eVar 3) (aNil))) (eIx (eVar 0) (eC (.int 0)))))) (sRet (eC (.bl false))) (sNil))
  (sCons (sIf (tNotD (tE (eCall bAll (aCons (eComp [6, 7] (srcZ2 (aCons (eVar 3) (aCons (eVar 2) (aNil)))) (.tp [.nm 6, .nm 7]) (tTrue) (eFn 3 (d_is_integer_in) (aCons (eVar 6) (aCons (eC (.int 0)) (aCons (eVar 7) (aNil)))))) (aNil))))) (sRet (eC (.bl false))) (sNil))
  (sRet (eCall bAll (aCons (eComp [4, 5] (srcZ2 (aCons (eIx (eVar 0) (eC (.int 1))) (aCons (eVar 1) (aNil)))) (.tp [.nm 4, .nm 5]) (tTrue) (e2 gLe (eCall bSum (aCons (eComp [8] (srcS (eVar 4)) (.nm 8) (tTrue) (eIx (eVar 3) (eVar 8))) (aNil))) (eVar 5))) (aNil)))))
def d_is_collection : Den := fnF 4 9 b_is_collection
def b__law_payments : Sx := sCons (sMany (aCons (eCallB bList (aCons (eVar 1) (aNil))) (aCons (e2L gRep (eLst (aCons (eC (.int 0)) (aNil))) (eIx (eVar 0) (eC (.int 0)))) (aNil))) [4, 5])
  (sCons (sFor (srcS (eVar 3)) (.nm 6) (sCons (sSet 7 (eComp [8, 9] (srcEn (aCons (eIx (eVar 0) (eC (.int 1))) (aNil))) (.tp [.nm 8, .nm 9]) (tE (e2 gIn (eVar 6) (eVar 9))) (eVar 8)))
  (sCons (sAsg (eCall bMin (aCons (e2 gAdd (eLst (aCons (eIx (eVar 2) (eVar 6)) (aNil))) (eComp [8] (srcS (eVar 7)) (.nm 8) (tTrue) (eIx (eVar 4) (eVar 8)))) (aNil))) (gSubD (eVar 5) (eVar 6)))
  (sFor (srcS (eVar 7)) (.nm 8) (sAsg (e2 gSub (eIx (eVar 4) (eVar 8)) (eIx (eVar 5) (eVar 6))) (gSubD (eVar 4) (eVar 8)))))))
  (sRet (eCall bTuple (aCons (eVar 5) (aNil)))))
def d__law_payments : Den := fnF 4 10 b__law_payments
def b__law_is_collection : Sx := sCons (sIf (tOrD (tNotD (tE (e1 (gIsi "tuple") (eVar 3)))) (tOrD (tE (e2 gNe (eCall bLen (aCons (eVar 3) (aNil))) (eIx (eVar 0) (eC (.int 0))))) (tE (e2 gNe (eComp [8] (srcS (eVar 3)) (.nm 8) (tNotD (tE (eFn 1 (d__law_whole) (aCons (eVar 8) (aNil))))) (eVar 8)) (eLst (aNil)))))) (sRet (eC (.bl false))) (sNil))
  (sCons (sIf (tE (e2 gNe (eComp [4, 5] (srcEn (aCons (eVar 3) (aNil))) (.tp [.nm 4, .nm 5]) (tNotD (tE (e3 gLe gLe (eC (.int 0)) (eVar 5) (eIx (eVar 2) (eVar 4))))) (eVar 4)) (eLst (aNil)))) (sRet (eC (.bl false))) (sNil))
  (sRet (e2 gEq (eComp [6, 7] (srcEn (aCons (eIx (eVar 0) (eC (.int 1))) (aNil))) (.tp [.nm 6, .nm 7]) (tE (e2 gGt (eCall bSum (aCons (eComp [4] (srcS (eVar 7)) (.nm 4) (tTrue) (eIx (eVar 3) (eVar 4))) (aNil))) (eIx (eVar 1) (eVar 6)))) (eVar 6)) (eLst (aNil)))))
def d__law_is_collection : Den := fnF 4 9 b__law_is_collection
def b_unpaid_penalties : Sx := sRet (eCall bSum (aCons (eComp [2, 3] (srcEn (aCons (eVar 0) (aNil))) (.tp [.nm 2, .nm 3]) (tE (e2 gEq (e2 gAnd (e2 gShr (eVar 1) (eVar 2)) (eC (.int 1))) (eC (.int 0)))) (eVar 3)) (aNil)))
def d_unpaid_penalties : Den := fnF 2 4 b_unpaid_penalties
def b__law_lowest : Sx := sCons (sSet 3 (eDict1B (eC (.int 0)) (eC (.int 0))))
  (sCons (sFor (srcZ2 (aCons (eIx (eVar 0) (eC (.int 1))) (aCons (eVar 1) (aNil)))) (.tp [.nm 4, .nm 5]) (sCons (sSet 7 (eCall bSum (aCons (eComp [11] (srcS (eVar 4)) (.nm 11) (tTrue) (e2 gShl (eC (.int 1)) (eVar 11))) (aNil))))
  (sFor (srcS (eCall (lst1 bList) (aCons (eVar 3) (aNil)))) (.nm 8) (sCons (sPar 9 10 (aCons (e2 gOr (eVar 8) (eVar 7)) (aCons (e2 gAdd (eIx (eVar 3) (eVar 8)) (eVar 5)) (aNil))))
  (sAsg (eCall bMin (aCons (eGet (eVar 3) (eVar 9) (eVar 10)) (aCons (eVar 10) (aNil)))) (gSubD (eVar 3) (eVar 9)))))))
  (sCons (sSet 6 (eLstB (aNil)))
  (sCons (sFor (srcS (eVar 3)) (.nm 7) (sExpr (eM1 kAppend (eVar 6) (e2 gAdd (eIx (eVar 3) (eVar 7)) (eCall bSum (aCons (eComp [11, 12] (srcEn (aCons (eVar 2) (aNil))) (.tp [.nm 11, .nm 12]) (tE (e2 gEq (e2 gAnd (e2 gShr (eVar 7) (eVar 11)) (eC (.int 1))) (eC (.int 0)))) (eVar 12)) (aNil)))))))
  (sRet (eCall bMin (aCons (eVar 6) (aNil)))))))
def d__law_lowest : Den := fnF 3 13 b__law_lowest
def b__law_choices : Sx := sCons (sSet 1 (eLst (aCons (eTup (aNil)) (aNil))))
  (sCons (sFor (srcR1 (aCons (eVar 0) (aNil))) (.nm 2) (sSet 1 (e2 gAdd (eVar 1) (eComp [3] (srcS (eVar 1)) (.nm 3) (tTrue) (e2 gAdd (eVar 3) (eTup (aCons (eVar 2) (aNil))))))))
  (sRet (eVar 1)))
def d__law_choices : Den := fnF 1 4 b__law_choices
def b__law_later : Sx := sCons (sFor (srcS (e1 gRevA (eVar 1))) (.nm 4) (sIf (tE (e2 gNe (e2 gIn (eVar 4) (eIx (eIx (eVar 0) (eC (.int 1))) (eVar 2))) (e2 gIn (eVar 4) (eIx (eIx (eVar 0) (eC (.int 1))) (eVar 3))))) (sRet (e2 gIn (eVar 4) (eIx (eIx (eVar 0) (eC (.int 1))) (eVar 2)))) (sNil)))
  (sRet (e2 gGt (eVar 2) (eVar 3)))
def d__law_later : Den := fnF 4 5 b__law_later
def b__law_second_pass : Sx := sCons (sMany (aCons (eListR1B (aCons (eCall bLen (aCons (eIx (eVar 0) (eC (.int 1))) (aNil))) (aNil))) (aCons (eLstB (aNil)) (aCons (eLst (aNil)) (aNil)))) [4, 5, 6])
  (sCons (whL (tE (e2 gNe (eVar 4) (eLst (aNil)))) (sCons (sSet 7 (eIx (eVar 4) (eC (.int 0))))
  (sCons (sFor (srcS (eVar 4)) (.nm 8) (sIf (tAndD (tE (e2 gNe (eVar 8) (eVar 7))) (tE (eFn 4 (d__law_later) (aCons (eVar 0) (aCons (eVar 3) (aCons (eVar 8) (aCons (eVar 7) (aNil)))))))) (sSet 7 (eVar 8)) (sNil)))
  (sCons (sExpr (eM1 kRemove (eVar 4) (eVar 7)))
  (sCons (sSet 9 (eComp [10] (srcS (eIx (eIx (eVar 0) (eC (.int 1))) (eVar 7))) (.nm 10) (tE (e2 gGt (eIx (eVar 2) (eVar 10)) (eC (.int 0)))) (eVar 10)))
  (sIf (tE (e2 gEq (eCall bSum (aCons (eComp [10] (srcS (eVar 9)) (.nm 10) (tTrue) (eIx (eVar 2) (eVar 10))) (aNil))) (eIx (eVar 1) (eVar 7)))) (sIf (tE (e2 gEq (eComp [10] (srcS (eVar 9)) (.nm 10) (tE (e2 gIn (eVar 10) (eVar 6))) (eVar 10)) (eLst (aNil)))) (sCons (sExpr (eM1 kAppend (eVar 5) (eVar 7)))
  (sSet 6 (e2 gAdd (eVar 6) (eVar 9)))) (sNil)) (sNil)))))) LL)
  (sRet (eCall bTuple (aCons (eCall (lst1 bSorted) (aCons (eVar 5) (aNil))) (aNil)))))
def d__law_second_pass : Den := fnF 4 11 b__law_second_pass
def b__law_orders : Sx := sCons (sSet 1 (eLst (aCons (eTup (aNil)) (aNil))))
  (sCons (sFor (srcR1 (aCons (eVar 0) (aNil))) (.nm 2) (sCons (sSet 3 (eLst (aNil)))
  (sCons (sFor (srcS (eVar 1)) (.nm 4) (sSet 3 (e2 gAdd (eVar 3) (eComp [5] (srcR1 (aCons (e2 gAdd (eCall bLen (aCons (eVar 4) (aNil))) (eC (.int 1))) (aNil))) (.nm 5) (tTrue) (e2 gAdd (e2 gAdd (eSl (eVar 4) oNone (oSome (eVar 5))) (eTup (aCons (eVar 2) (aNil)))) (eSl (eVar 4) (oSome (eVar 5)) oNone))))))
  (sSet 1 (eVar 3)))))
  (sRet (eVar 1)))
def d__law_orders : Den := fnF 1 6 b__law_orders
def b__law_are_amounts : Sx := sCons (sIf (tOrD (tNotD (tE (e1 (gIsi "tuple") (eVar 0)))) (tE (e2 gNe (eCall bLen (aCons (eVar 0) (aNil))) (eVar 1)))) (sRet (eC (.bl false))) (sNil))
  (sRet (e2 gEq (eComp [2] (srcS (eVar 0)) (.nm 2) (tOrD (tNotD (tE (eFn 1 (d__law_whole) (aCons (eVar 2) (aNil))))) (tNotD (tE (e3 gLe gLe (eC (.int 0)) (eVar 2) (e2 gPow (eC (.int 10)) (eC (.int 12))))))) (eVar 2)) (eLst (aNil))))
def d__law_are_amounts : Den := fnF 2 3 b__law_are_amounts
def b__law_is_failure : Sx := sCons (sIf (tOrD (tNotD (tE (e1 (gIsi "tuple") (eVar 2)))) (tE (e2 gNe (eCall bLen (aCons (eVar 2) (aNil))) (eC (.int 3))))) (sRet (eC (.bl false))) (sNil))
  (sCons (sAsg (eVar 2) (gPat (.tp [.nm 3, .nm 4, .nm 5])))
  (sCons (sIf (tOrD (tNotD (tE (eFn 2 (d__law_are_amounts) (aCons (eVar 3) (aCons (eCall bLen (aCons (eIx (eVar 0) (eC (.int 1))) (aNil))) (aNil)))))) (tNotD (tE (eFn 2 (d__law_are_amounts) (aCons (eVar 4) (aCons (eIx (eVar 0) (eC (.int 0))) (aNil))))))) (sRet (eC (.bl false))) (sNil))
  (sCons (sIf (tNotD (tE (eFn 4 (d__law_is_collection) (aCons (eVar 0) (aCons (eVar 3) (aCons (eVar 4) (aCons (eVar 5) (aNil)))))))) (sRet (eC (.bl false))) (sNil))
  (sRet (e2 gGt (eCall bSum (aCons (eVar 5) (aNil))) (eCall bSum (aCons (eFn 4 (d__law_payments) (aCons (eVar 0) (aCons (eVar 3) (aCons (eVar 4) (aCons (eVar 1) (aNil)))))) (aNil))))))))
def d__law_is_failure : Den := fnF 3 6 b__law_is_failure
def b_is_amount : Sx := sRet (eFn 3 (d_is_integer_in) (aCons (eVar 0) (aCons (eC (.int 0)) (aCons (eC (.int 1000000000000)) (aNil)))))
def d_is_amount : Den := fnF 1 1 b_is_amount
def b_are_amounts : Sx := sRet (eAnd (e1 (gIsi "tuple") (eVar 1)) (eAnd (e2 gEq (eCall bLen (aCons (eVar 1) (aNil))) (eVar 0)) (eCall bAll (aCons (eComp [2] (srcS (eVar 1)) (.nm 2) (tTrue) (eFn 1 (d_is_amount) (aCons (eVar 2) (aNil)))) (aNil)))))
def d_are_amounts : Den := fnF 2 3 b_are_amounts
def b_are_separate : Sx := sCons (sIf (tNotD (tE (eFn 2 (d_is_subset_of) (aCons (eIx (eVar 0) (eC (.int 0))) (aCons (eVar 1) (aNil)))))) (sRet (eC (.bl false))) (sNil))
  (sRet (eCall bAll (aCons (eComp [2] (srcS (eIx (eVar 0) (eC (.int 1)))) (.nm 2) (tTrue) (e2 gLt (eCall bLen (aCons (eComp [3] (srcS (eVar 2)) (.nm 3) (tE (e2 gIn (eVar 3) (eVar 1))) (eVar 3)) (aNil))) (eC (.int 2)))) (aNil))))
def d_are_separate : Den := fnF 2 4 b_are_separate
def b__law_uncovered : Sx := sRet (eComp [1] (srcR1 (aCons (eIx (eVar 0) (eC (.int 0))) (aNil))) (.nm 1) (tE (e2 gEq (eComp [2] (srcS (eIx (eVar 0) (eC (.int 1)))) (.nm 2) (tE (e2 gIn (eVar 1) (eVar 2))) (eC (.int 1))) (eLst (aNil)))) (eVar 1))
def d__law_uncovered : Den := fnF 1 3 b__law_uncovered
def b__law_covered : Sx := sCons (sPar 2 3 (aCons (eFn 1 (d__law_uncovered) (aCons (eVar 1) (aNil))) (aCons (eIx (eVar 1) (eC (.int 1))) (aNil))))
  (sCons (whL (tAndD (tE (e2 gNe (eVar 2) (eLst (aNil)))) (tE (e2 gLt (eCall bLen (aCons (eVar 3) (aNil))) (eC (.int 10))))) (sCons (sSet 4 (e2 gAdd (eC (.int 1)) (eFn 2 (d__law_next) (aCons (eVar 0) (aCons (eCall bLen (aCons (eVar 2) (aNil))) (aNil))))))
  (sCons (sSet 3 (e2 gAdd (eVar 3) (eTup (aCons (eCall bTuple (aCons (eSl (eVar 2) oNone (oSome (eVar 4))) (aNil))) (aNil)))))
  (sSet 2 (eSl (eVar 2) (oSome (eVar 4)) oNone)))) LL)
  (sRet (eTup (aCons (eIx (eVar 1) (eC (.int 0))) (aCons (eVar 3) (aNil))))))
def d__law_covered : Den := fnF 2 5 b__law_covered
def b__law_cover_cost : Sx := sCons (sSet 2 (eDict1B (eC (.int 0)) (eC (.int 0))))
  (sCons (sFor (srcZ2 (aCons (eIx (eVar 0) (eC (.int 1))) (aCons (eVar 1) (aNil)))) (.tp [.nm 3, .nm 4]) (sCons (sSet 5 (eCall bSum (aCons (eComp [9] (srcS (eVar 3)) (.nm 9) (tTrue) (e2 gShl (eC (.int 1)) (eVar 9))) (aNil))))
  (sFor (srcS (eCall (lst1 bList) (aCons (eVar 2) (aNil)))) (.nm 6) (sCons (sPar 7 8 (aCons (e2 gOr (eVar 6) (eVar 5)) (aCons (e2 gAdd (eIx (eVar 2) (eVar 6)) (eVar 4)) (aNil))))
  (sAsg (eCall bMin (aCons (eGet (eVar 2) (eVar 7) (eVar 8)) (aCons (eVar 8) (aNil)))) (gSubD (eVar 2) (eVar 7)))))))
  (sRet (eIx (eVar 2) (e2 gSub (e2 gShl (eC (.int 1)) (eIx (eVar 0) (eC (.int 0)))) (eC (.int 1))))))
def d__law_cover_cost : Den := fnF 2 10 b__law_cover_cost
def b_replaced : Sx := sRet (e2 gAdd (e2 gAdd (eSl (eVar 0) oNone (oSome (eVar 1))) (eTup (aCons (eVar 2) (aNil)))) (eSl (eVar 0) (oSome (e2 gAdd (eVar 1) (eC (.int 1)))) oNone))
def d_replaced : Den := fnF 3 3 b_replaced
def b_without_index : Sx := sRet (e2 gAdd (eSl (eVar 0) oNone (oSome (eVar 1))) (eSl (eVar 0) (oSome (e2 gAdd (eVar 1) (eC (.int 1)))) oNone))
def d_without_index : Den := fnF 2 2 b_without_index
def b_are_pairs : Sx := sCons (sIf (tOrD (tNotD (tE (e1 (gIsi "tuple") (eVar 0)))) (tE (e2 gGt (eCall bLen (aCons (eVar 0) (aNil))) (eVar 1)))) (sRet (eC (.bl false))) (sNil))
  (sRet (eCall bAll (aCons (eComp [2] (srcS (eVar 0)) (.nm 2) (tTrue) (eAnd (e1 (gIsi "tuple") (eVar 2)) (e2 gEq (eCall bLen (aCons (eVar 2) (aNil))) (eC (.int 2))))) (aNil))))
def d_are_pairs : Den := fnF 2 3 b_are_pairs
def b_is_interval : Sx := sRet (eAnd (eFn 3 (d_is_integer_in) (aCons (eVar 1) (aCons (eC (.int 0)) (aCons (e2 gSub (eVar 0) (eC (.int 1))) (aNil))))) (eFn 3 (d_is_integer_in) (aCons (eVar 2) (aCons (eVar 1) (aCons (e2 gSub (eVar 0) (eC (.int 1))) (aNil))))))
def d_is_interval : Den := fnF 3 3 b_is_interval
def b_interval_table : Sx := sCons (sIf (tOrD (tNotD (tE (eFn 2 (d_are_pairs) (aCons (eVar 1) (aCons (eC (.int 10)) (aNil)))))) (tNotD (tE (eCall bAll (aCons (eComp [2, 3] (srcS (eVar 1)) (.tp [.nm 2, .nm 3]) (tTrue) (eFn 3 (d_is_interval) (aCons (eVar 0) (aCons (eVar 2) (aCons (eVar 3) (aNil)))))) (aNil)))))) (sNo) (sNil))
  (sRet (eTup (aCons (eVar 0) (aCons (eCall bTuple (aCons (eComp [2, 3] (srcS (eVar 1)) (.tp [.nm 2, .nm 3]) (tTrue) (eCall bTuple (aCons (eComp [4] (srcR2 (aCons (eVar 2) (aCons (e2 gAdd (eVar 3) (eC (.int 1))) (aNil)))) (.nm 4) (tTrue) (eVar 4)) (aNil)))) (aNil))) (aNil)))))
def d_interval_table : Den := fnF 2 5 b_interval_table
def b__law_ranges : Sx := sCons (sSet 3 (eLstB (aNil)))
  (sCons (sFor (srcR1 (aCons (eFn 2 (d__law_next) (aCons (eVar 0) (aCons (e2 gAdd (eVar 2) (eC (.int 1))) (aNil)))) (aNil))) (.nm 4) (sCons (sSet 5 (eFn 2 (d__law_next) (aCons (eVar 0) (aCons (eVar 1) (aNil)))))
  (sExpr (eM1 kAppend (eVar 3) (eTup (aCons (eVar 5) (aCons (e2 gAdd (eVar 5) (eFn 2 (d__law_next) (aCons (eVar 0) (aCons (e2 gSub (eVar 1) (eVar 5)) (aNil))))) (aNil))))))))
  (sRet (eCall bTuple (aCons (eVar 3) (aNil)))))
def d__law_ranges : Den := fnF 3 6 b__law_ranges
def b_is_vertex : Sx := sRet (eFn 3 (d_is_integer_in) (aCons (eVar 1) (aCons (eC (.int 0)) (aCons (eCall bLen (aCons (eVar 0) (aNil))) (aNil)))))
def d_is_vertex : Den := fnF 2 2 b_is_vertex
def b_distances_up : Sx := sCons (sPar 2 3 (aCons (eDict1B (eVar 1) (eC (.int 0))) (aCons (eC (.int 0)) (aNil))))
  (sCons (whL (tE (e2 gGt (eVar 1) (eC (.int 0)))) (sCons (sAsg (eIx (eVar 0) (e2 gSub (eVar 1) (eC (.int 1)))) (gPat (.tp [.nm 1, .nm 4])))
  (sCons (sAug 3 kAdd (eVar 4))
  (sAsg (eVar 3) (gSubD (eVar 2) (eVar 1))))) LL)
  (sRet (eVar 2)))
def d_distances_up : Den := fnF 2 5 b_distances_up
def b_distance_between : Sx := sCons (sPar 3 4 (aCons (eFn 2 (d_distances_up) (aCons (eVar 0) (aCons (eVar 1) (aNil)))) (aCons (eC (.int 0)) (aNil))))
  (sCons (whL (tE (e2 gNotIn (eVar 2) (eVar 3))) (sCons (sAsg (eIx (eVar 0) (e2 gSub (eVar 2) (eC (.int 1)))) (gPat (.tp [.nm 2, .nm 5])))
  (sAug 4 kAdd (eVar 5))) LL)
  (sRet (e2 gAdd (eVar 4) (eIx (eVar 3) (eVar 2)))))
def d_distance_between : Den := fnF 3 6 b_distance_between
def b_tree_distance : Sx := sCons (sFor (srcS (eTup (aCons (eVar 1) (aCons (eVar 2) (aNil))))) (.nm 3) (sIf (tNotD (tE (eFn 2 (d_is_vertex) (aCons (eVar 0) (aCons (eVar 3) (aNil)))))) (sNo) (sNil)))
  (sRet (eFn 3 (d_distance_between) (aCons (eVar 0) (aCons (eVar 1) (aCons (eVar 2) (aNil))))))
def d_tree_distance : Den := fnF 3 4 b_tree_distance
def b__law_tree : Sx := sCons (sPar 2 3 (aCons (eFn 2 (d__law_next) (aCons (eVar 0) (aCons (eC (.int 4)) (aNil)))) (aCons (eIx (eLst (aCons (eC (.int 1)) (aCons (eC (.int 3)) (aCons (e2 gPow (eC (.int 10)) (eC (.int 12))) (aNil))))) (eFn 2 (d__law_next) (aCons (eVar 0) (aCons (eC (.int 3)) (aNil))))) (aNil))))
  (sCons (sSet 4 (eLstB (aNil)))
  (sCons (sFor (srcR1 (aCons (eFn 2 (d__law_next) (aCons (eVar 0) (aCons (eVar 1) (aNil)))) (aNil))) (.nm 5) (sCons (sSet 6 (eIx (eLst (aCons (eVar 5) (aCons (eC (.int 0)) (aCons (eFn 2 (d__law_next) (aCons (eVar 0) (aCons (e2 gAdd (eVar 5) (eC (.int 1))) (aNil)))) (aCons (eFn 2 (d__law_next) (aCons (eVar 0) (aCons (e2 gAdd (eVar 5) (eC (.int 1))) (aNil)))) (aNil)))))) (eVar 2)))
  (sExpr (eM1 kAppend (eVar 4) (eTup (aCons (eVar 6) (aCons (e2 gAdd (eC (.int 1)) (eFn 2 (d__law_next) (aCons (eVar 0) (aCons (eVar 3) (aNil))))) (aNil))))))))
  (sRet (eCall bTuple (aCons (eVar 4) (aNil))))))
def d__law_tree : Den := fnF 2 7 b__law_tree
def b__law_distances : Sx := sCons (sSet 1 (eVecB (aCons (eLstB (aCons (eC (.int 0)) (aNil))) (aNil))))
  (sCons (sFor (srcEn (aCons (eVar 0) (aNil))) (.tp [.nm 2, .tp [.nm 3, .nm 4]]) (sCons (sSet 5 (eComp [7] (srcS (eIx (eVar 1) (eVar 3))) (.nm 7) (tTrue) (e2 gAdd (eVar 7) (eVar 4))))
  (sCons (sFor (srcZ2 (aCons (eVar 1) (aCons (eVar 5) (aNil)))) (.tp [.nm 6, .nm 7]) (sExpr (eM1 kAppend (eVar 6) (eVar 7))))
  (sExpr (eM1 kAppend (eVar 1) (e2L gCat (eVar 5) (eLst (aCons (eC (.int 0)) (aNil)))))))))
  (sRet (eVar 1)))
def d__law_distances : Den := fnF 1 8 b__law_distances
def b_is_ball : Sx := sRet (eAnd (eFn 2 (d_is_vertex) (aCons (eVar 0) (aCons (eVar 1) (aNil)))) (eFn 3 (d_is_integer_in) (aCons (eVar 2) (aCons (eC (.int 0)) (aCons (eC (.int 1000000000000)) (aNil))))))
def d_is_ball : Den := fnF 3 3 b_is_ball
def b_vertices_in : Sx := sRet (eCall bTuple (aCons (eComp [3] (srcR1 (aCons (e2 gAdd (eCall bLen (aCons (eVar 0) (aNil))) (eC (.int 1))) (aNil))) (.nm 3) (tE (e2 gLe (eFn 3 (d_distance_between) (aCons (eVar 0) (aCons (eVar 1) (aCons (eVar 3) (aNil))))) (eVar 2))) (eVar 3)) (aNil)))
def d_vertices_in : Den := fnF 3 4 b_vertices_in
def b_ball_table : Sx := sCons (sIf (tOrD (tNotD (tE (eFn 2 (d_are_pairs) (aCons (eVar 1) (aCons (eC (.int 10)) (aNil)))))) (tNotD (tE (eCall bAll (aCons (eComp [2, 3] (srcS (eVar 1)) (.tp [.nm 2, .nm 3]) (tTrue) (eFn 3 (d_is_ball) (aCons (eVar 0) (aCons (eVar 2) (aCons (eVar 3) (aNil)))))) (aNil)))))) (sNo) (sNil))
  (sRet (eTup (aCons (e2 gAdd (eCall bLen (aCons (eVar 0) (aNil))) (eC (.int 1))) (aCons (eCall bTuple (aCons (eComp [2, 3] (srcS (eVar 1)) (.tp [.nm 2, .nm 3]) (tTrue) (eFn 3 (d_vertices_in) (aCons (eVar 0) (aCons (eVar 2) (aCons (eVar 3) (aNil)))))) (aNil))) (aNil)))))
def d_ball_table : Den := fnF 2 4 b_ball_table
def b__law_balls : Sx := sCons (sPar 3 4 (aCons (eFn 1 (d__law_distances) (aCons (eVar 1) (aNil))) (aCons (eLstB (aNil)) (aNil))))
  (sCons (sFor (srcR1 (aCons (eFn 2 (d__law_next) (aCons (eVar 0) (aCons (e2 gAdd (eVar 2) (eC (.int 1))) (aNil)))) (aNil))) (.nm 5) (sCons (sSet 6 (eFn 2 (d__law_next) (aCons (eVar 0) (aCons (eCall bLen (aCons (eVar 3) (aNil))) (aNil)))))
  (sCons (sSet 7 (e2 gSub (e2 gAdd (eFn 2 (d__law_one) (aCons (eVar 0) (aCons (eIx (eVar 3) (eVar 6)) (aNil)))) (eFn 2 (d__law_next) (aCons (eVar 0) (aCons (eC (.int 3)) (aNil))))) (eC (.int 1))))
  (sExpr (eM1 kAppend (eVar 4) (eTup (aCons (eVar 6) (aCons (eCall bMax (aCons (eC (.int 0)) (aCons (eCall bMin (aCons (e2 gPow (eC (.int 10)) (eC (.int 12))) (aCons (eVar 7) (aNil)))) (aNil)))) (aNil)))))))))
  (sRet (eCall bTuple (aCons (eVar 4) (aNil)))))
def d__law_balls : Den := fnF 3 8 b__law_balls
def b_farthest_first : Sx := sCons (sSet 1 (eComp [2] (srcR1 (aCons (e2 gAdd (eCall bLen (aCons (eVar 0) (aNil))) (eC (.int 1))) (aNil))) (.nm 2) (tTrue) (eTup (aCons (e2 gSub (eC (.int 0)) (eIx (eFn 2 (d_distances_up) (aCons (eVar 0) (aCons (eVar 2) (aNil)))) (eC (.int 0)))) (aCons (eVar 2) (aNil))))))
  (sRet (eCall bTuple (aCons (eComp [3, 2] (srcS (eCall (lst1 bSorted) (aCons (eVar 1) (aNil)))) (.tp [.nm 3, .nm 2]) (tTrue) (eVar 2)) (aNil))))
def d_farthest_first : Den := fnF 1 4 b_farthest_first
def b__law_line : Sx := sCons (sMany (aCons (eLstB (aNil)) (aCons (eLst (aNil)) (aCons (eFn 2 (d__law_next) (aCons (eVar 0) (aCons (eC (.int 3)) (aNil)))) (aNil)))) [2, 3, 4])
  (sCons (sFor (srcR1 (aCons (e2 gAdd (eC (.int 1)) (eFn 2 (d__law_next) (aCons (eVar 0) (aCons (eC (.int 6)) (aNil))))) (aNil))) (.nm 5) (sCons (sSet 7 (e2 gAdd (eVar 4) (eIx (eLst (aCons (eC (.int 0)) (aCons (eC (.int 0)) (aCons (eFn 2 (d__law_next) (aCons (eVar 0) (aCons (eVar 1) (aNil)))) (aNil))))) (eFn 2 (d__law_next) (aCons (eVar 0) (aCons (eC (.int 3)) (aNil)))))))
  (sCons (sSet 8 (e2 gAdd (eVar 7) (eFn 2 (d__law_next) (aCons (eVar 0) (aCons (eVar 1) (aNil))))))
  (sCons (sExpr (eM1 kAppend (eVar 2) (eTup (aCons (eVar 7) (aCons (eVar 8) (aCons (eIx (eLst (aCons (eC (.int 1)) (aCons (eC (.int 2)) (aCons (eFn 2 (d__law_next) (aCons (eVar 0) (aCons (eC (.int 8)) (aNil)))) (aCons (eFn 1 (d__law_amount) (aCons (eVar 0) (aNil))) (aNil)))))) (eFn 2 (d__law_next) (aCons (eVar 0) (aCons (eC (.int 4)) (aNil))))) (aNil)))))))
  (sCons (sSet 3 (e2 gAdd (eVar 3) (eLst (aCons (eVar 7) (aCons (eVar 8) (aCons (e2 gAdd (eVar 7) (eFn 2 (d__law_next) (aCons (eVar 0) (aCons (e2 gAdd (e2 gSub (eVar 8) (eVar 7)) (eC (.int 1))) (aNil))))) (aNil)))))))
  (sSet 4 (e2 gAdd (eVar 8) (eC (.int 1)))))))))
  (sCons (sSet 6 (eLstB (aNil)))
  (sCons (sFor (srcR1 (aCons (eFn 2 (d__law_next) (aCons (eVar 0) (aCons (eC (.int 11)) (aNil)))) (aNil))) (.nm 5) (sCons (sSet 9 (eComp [13] (srcR1 (aCons (eC (.int 2)) (aNil))) (.nm 13) (tTrue) (eCall bMax (aCons (eC (.int 0)) (aCons (eCall bMin (aCons (e2 gPow (eC (.int 10)) (eC (.int 12))) (aCons (e2 gSub (e2 gAdd (eFn 2 (d__law_one) (aCons (eVar 0) (aCons (eVar 3) (aNil)))) (eFn 2 (d__law_next) (aCons (eVar 0) (aCons (eC (.int 5)) (aNil))))) (eC (.int 2))) (aNil)))) (aNil))))))
  (sCons (sPar 10 11 (aCons (eCall bMin (aCons (eVar 9) (aNil))) (aCons (eCall bMax (aCons (eVar 9) (aNil))) (aNil))))
  (sCons (sSet 12 (eCall bMin (aCons (e2 gPow (eC (.int 10)) (eC (.int 12))) (aCons (e2 gMul (e2 gAdd (e2 gSub (eVar 11) (eVar 10)) (eC (.int 1))) (eFn 2 (d__law_next) (aCons (eVar 0) (aCons (eC (.int 4)) (aNil))))) (aNil)))))
  (sExpr (eM1 kAppend (eVar 6) (eTup (aCons (eVar 10) (aCons (eVar 11) (aCons (eIx (eLst (aCons (eFn 2 (d__law_next) (aCons (eVar 0) (aCons (eC (.int 20)) (aNil)))) (aCons (eVar 12) (aCons (eFn 1 (d__law_amount) (aCons (eVar 0) (aNil))) (aNil))))) (eFn 2 (d__law_next) (aCons (eVar 0) (aCons (eC (.int 3)) (aNil))))) (aNil)))))))))))
  (sRet (eTup (aCons (eCall bTuple (aCons (eVar 2) (aNil))) (aCons (eCall bTuple (aCons (eVar 6) (aNil))) (aNil))))))))
def d__law_line : Den := fnF 2 14 b__law_line
def b__law_wide_line : Sx := sRet (eFn 2 (d__law_line) (aCons (eVar 0) (aCons (eIx (eLst (aCons (eC (.int 4)) (aCons (eC (.int 12)) (aCons (e2 gMul (eC (.int 8)) (e2 gPow (eC (.int 10)) (eC (.int 10)))) (aNil))))) (eFn 2 (d__law_next) (aCons (eVar 0) (aCons (eC (.int 3)) (aNil))))) (aNil))))
def d__law_wide_line : Den := fnF 1 1 b__law_wide_line
def b_segment_rows : Sx := sCons (sIf (tOrD (tE (e2 gIs (eVar 3) (eC .non))) (tE (e2 gLe (e2 gMul (eVar 2) (e2 gAdd (e2 gSub (eVar 1) (eVar 0)) (eC (.int 1)))) (eVar 3)))) (sRet (eLst (aCons (eTup (aCons (eVar 0) (aCons (eVar 1) (aCons (eVar 2) (aNil))))) (aNil)))) (sNil))
  (sCons (sSet 4 (e2 gDiv (eVar 3) (eVar 2)))
  (sCons (sSet 5 (eLstB (aCons (eTup (aCons (eVar 0) (aCons (e2 gSub (e2 gAdd (eVar 0) (eVar 4)) (eC (.int 1))) (aCons (eVar 2) (aNil))))) (aCons (eTup (aCons (e2 gAdd (eVar 0) (eVar 4)) (aCons (e2 gAdd (eVar 0) (eVar 4)) (aCons (e2 gMod (eVar 3) (eVar 2)) (aNil))))) (aNil)))))
  (sCons (sExpr (eM1 kAppend (eVar 5) (eTup (aCons (e2 gAdd (e2 gAdd (eVar 0) (eVar 4)) (eC (.int 1))) (aCons (eVar 1) (aCons (eC (.int 0)) (aNil)))))))
  (sRet (eComp [6] (srcS (eVar 5)) (.nm 6) (tE (e2 gLe (eIx (eVar 6) (eC (.int 0))) (eIx (eVar 6) (eC (.int 1))))) (eVar 6))))))
def d_segment_rows : Den := fnF 4 7 b_segment_rows
def b_merge_rows : Sx := sCons (sSet 1 (eLstB (aNil)))
  (sCons (sFor (srcS (eVar 0)) (.tp [.nm 2, .nm 3, .nm 4]) (sIf (tAndD (tE (e2 gNe (eVar 1) (eLst (aNil)))) (tAndD (tE (e2 gEq (e2 gAdd (eIx (eIx (eVar 1) (e1 gNeg (eC (.int 1)))) (eC (.int 1))) (eC (.int 1))) (eVar 2))) (tE (e2 gEq (eIx (eIx (eVar 1) (e1 gNeg (eC (.int 1)))) (eC (.int 2))) (eVar 4))))) (sAsg (eTup (aCons (eIx (eIx (eVar 1) (e1 gNeg (eC (.int 1)))) (eC (.int 0))) (aCons (eVar 3) (aCons (eVar 4) (aNil))))) (gSubD (eVar 1) (e1 gNeg (eC (.int 1))))) (sExpr (eM1 kAppend (eVar 1) (eTup (aCons (eVar 2) (aCons (eVar 3) (aCons (eVar 4) (aNil)))))))))
  (sRet (eCall bTuple (aCons (eVar 1) (aNil)))))
def d_merge_rows : Den := fnF 1 5 b_merge_rows
def b__law_demands : Sx := sCons (sSet 1 (eLstB (aNil)))
  (sCons (sFor (srcS (eIx (eVar 0) (eC (.int 0)))) (.tp [.nm 2, .nm 3, .nm 4]) (sExpr (eM1 kExtend (eVar 1) (eComp [5] (srcR2 (aCons (eVar 2) (aCons (e2 gAdd (eVar 3) (eC (.int 1))) (aNil)))) (.nm 5) (tTrue) (eVar 5)))))
  (sRet (eVar 1)))
def d__law_demands : Den := fnF 1 6 b__law_demands
def b__law_count : Sx := sRet (eCall bSum (aCons (eComp [1, 2, 3] (srcS (eIx (eVar 0) (eC (.int 0)))) (.tp [.nm 1, .nm 2, .nm 3]) (tTrue) (e2 gAdd (e2 gSub (eVar 2) (eVar 1)) (eC (.int 1)))) (aNil)))
def d__law_count : Den := fnF 1 4 b__law_count
def b__law_paid : Sx := sCons (sSet 3 (eC (.int 0)))
  (sCons (sFor (srcS (eVar 0)) (.tp [.nm 4, .nm 5, .nm 6]) (sSet 3 (e2 gAdd (eVar 3) (e2 gMul (eCall bMax (aCons (eC (.int 0)) (aCons (e2 gAdd (e2 gSub (eCall bMin (aCons (eVar 5) (aCons (eVar 2) (aNil)))) (eCall bMax (aCons (eVar 4) (aCons (eVar 1) (aNil))))) (eC (.int 1))) (aNil)))) (eVar 6)))))
  (sRet (eVar 3)))
def d__law_paid : Den := fnF 3 7 b__law_paid
def b__law_end_line : Sx := sCons (sAsg (eFn 1 (d__law_wide_line) (aCons (eVar 0) (aNil))) (gPat (.tp [.nm 1, .nm 2])))
  (sCons (sIf (tE (e2 gGt (eFn 2 (d__law_next) (aCons (eVar 0) (aCons (eC (.int 4)) (aNil)))) (eC (.int 0)))) (sRet (eTup (aCons (eVar 1) (aCons (eVar 2) (aNil))))) (sNil))
  (sCons (sAsg (eIx (eVar 1) (e1 gNeg (eC (.int 1)))) (gPat (.tp [.nm 3, .nm 4, .nm 5])))
  (sCons (sSet 6 (eFn 1 (d__law_amount) (aCons (eVar 0) (aNil))))
  (sRet (eTup (aCons (e2 gAdd (eSl (eVar 1) oNone (oSome (e1 gNeg (eC (.int 1))))) (eTup (aCons (eTup (aCons (eVar 3) (aCons (e2 gPow (eC (.int 10)) (eC (.int 12))) (aCons (eVar 5) (aNil))))) (aNil)))) (aCons (e2 gAdd (eSl (eVar 2) oNone (oSome (eC (.int 9)))) (eTup (aCons (eTup (aCons (eVar 3) (aCons (e2 gPow (eC (.int 10)) (eC (.int 12))) (aCons (eVar 6) (aNil))))) (aNil)))) (aNil))))))))
def d__law_end_line : Den := fnF 1 7 b__law_end_line
def b_is_demand : Sx := sRet (eAnd (eFn 3 (d_is_integer_in) (aCons (eVar 1) (aCons (eC (.int 0)) (aCons (eC (.int 1000000000000)) (aNil))))) (eCall bAny (aCons (eComp [2, 3, 4] (srcS (eIx (eVar 0) (eC (.int 0)))) (.tp [.nm 2, .nm 3, .nm 4]) (tTrue) (e3 gLe gLe (eVar 2) (eVar 1) (eVar 3))) (aNil))))
def d_is_demand : Den := fnF 2 5 b_is_demand
def b_value_at : Sx := sRet (eIx (eComp [2, 3, 4] (srcS (eVar 0)) (.tp [.nm 2, .nm 3, .nm 4]) (tE (e3 gLe gLe (eVar 2) (eVar 1) (eVar 3))) (eVar 4)) (eC (.int 0)))
def d_value_at : Den := fnF 2 5 b_value_at
def b_reach_of : Sx := sCons (sAsg (eVar 1) (gPat (.tp [.nm 2, .nm 3, .nm 4])))
  (sCons (sSet 5 (eComp [6, 7, 8] (srcS (eIx (eVar 0) (eC (.int 0)))) (.tp [.nm 6, .nm 7, .nm 8]) (tTrue) (eTup (aCons (eCall bMax (aCons (eVar 2) (aCons (eVar 6) (aNil)))) (aCons (eCall bMin (aCons (eVar 3) (aCons (eVar 7) (aNil)))) (aNil))))))
  (sCons (sSet 5 (eComp [6, 7] (srcS (eVar 5)) (.tp [.nm 6, .nm 7]) (tE (e2 gLe (eVar 6) (eVar 7))) (eTup (aCons (eVar 6) (aCons (eVar 7) (aNil))))))
  (sRet (eIf (tE (e2 gNe (eVar 5) (eLst (aNil)))) (eTup (aCons (eIx (eIx (eVar 5) (e1 gNeg (eC (.int 1)))) (eC (.int 1))) (aCons (e2 gSub (eC (.int 0)) (eIx (eIx (eVar 5) (eC (.int 0))) (eC (.int 0)))) (aNil)))) (eTup (aCons (e1 gNeg (eC (.int 1))) (aCons (eC (.int 0)) (aNil))))))))
def d_reach_of : Den := fnF 2 9 b_reach_of
def b_share_payment : Sx := sCons (sAsg (eTup (aCons (eCall bMax (aCons (eIx (eVar 1) (eC (.int 0))) (aCons (eIx (eVar 2) (eC (.int 0))) (aNil)))) (aCons (eCall bMin (aCons (eIx (eVar 1) (eC (.int 1))) (aCons (eIx (eVar 2) (eC (.int 1))) (aNil)))) (aNil)))) (gPat (.tp [.nm 3, .nm 4])))
  (sRet (eCall bAny (aCons (eComp [5, 6, 7] (srcS (eVar 0)) (.tp [.nm 5, .nm 6, .nm 7]) (tTrue) (eAnd (e2 gGt (eVar 7) (eC (.int 0))) (e2 gLe (eCall bMax (aCons (eVar 3) (aCons (eVar 5) (aNil)))) (eCall bMin (aCons (eVar 4) (aCons (eVar 6) (aNil))))))) (aNil))))
def d_share_payment : Den := fnF 3 8 b_share_payment
def b_line_table : Sx := sCons (sIf (tOrD (tNotD (tE (e1 (gIsi "tuple") (eVar 1)))) (tNotD (tE (e3 gLe gLe (eC (.int 1)) (eCall bLen (aCons (eVar 1) (aNil))) (eC (.int 10)))))) (sNo) (sNil))
  (sCons (sIf (tOrD (tNotD (tE (eCall bAll (aCons (eComp [7] (srcS (eVar 1)) (.nm 7) (tTrue) (eFn 2 (d_is_demand) (aCons (eVar 0) (aCons (eVar 7) (aNil))))) (aNil))))) (tNotD (tE (eFn 1 (d_is_ascending) (aCons (eVar 1) (aNil)))))) (sNo) (sNil))
  (sCons (sSet 2 (eLstB (aNil)))
  (sCons (sFor (srcS (eIx (eVar 0) (eC (.int 1)))) (.tp [.nm 3, .nm 4, .nm 5]) (sExpr (eM1 kAppend (eVar 2) (eCall bTuple (aCons (eComp [8, 7] (srcEn (aCons (eVar 1) (aNil))) (.tp [.nm 8, .nm 7]) (tE (e3 gLe gLe (eVar 3) (eVar 7) (eVar 4))) (eVar 8)) (aNil))))))
  (sCons (sSet 6 (eCall bTuple (aCons (eComp [3, 4, 5] (srcS (eIx (eVar 0) (eC (.int 1)))) (.tp [.nm 3, .nm 4, .nm 5]) (tTrue) (eVar 5)) (aNil))))
  (sRet (eTup (aCons (eTup (aCons (eCall bLen (aCons (eVar 1) (aNil))) (aCons (eCall bTuple (aCons (eVar 2) (aNil))) (aNil)))) (aCons (eVar 6) (aCons (eCall bTuple (aCons (eComp [7] (srcS (eVar 1)) (.nm 7) (tTrue) (eFn 2 (d_value_at) (aCons (eIx (eVar 0) (eC (.int 0))) (aCons (eVar 7) (aNil))))) (aNil))) (aNil))))))))))
def d_line_table : Den := fnF 2 9 b_line_table
def b__wall : Sx := whL (tE (eC (.bl true))) (sPass) LL
def d__wall : Den := fnF 1 1 b__wall
def b_first_state : Sx := sCons (sIf (tNotD (tE (eFn 1 (d_is_table) (aCons (eVar 0) (aNil))))) (sNo) (sNil))
  (sCons (sIf (tNotD (tE (eFn 2 (d_are_amounts) (aCons (eCall bLen (aCons (eIx (eVar 0) (eC (.int 1))) (aNil))) (aCons (eVar 1) (aNil)))))) (sNo) (sNil))
  (sCons (sIf (tNotD (tE (eFn 2 (d_are_amounts) (aCons (eIx (eVar 0) (eC (.int 0))) (aCons (eVar 2) (aNil)))))) (sNo) (sNil))
  (sRet (eTup (aCons (eVar 0) (aCons (eVar 1) (aCons (eVar 2) (aNil))))))))
def d_first_state : Den := fnF 3 3 b_first_state
def b_check_amount : Sx := sIf (tNotD (tE (eFn 1 (d_is_amount) (aCons (eVar 0) (aNil))))) (sNo) (sNil)
def d_check_amount : Den := fnF 1 1 b_check_amount
def b_with_demand : Sx := sCons (sAsg (eVar 0) (gPat (.tp [.nm 3, .nm 4, .nm 5])))
  (sCons (sExpr (eFn 1 (d_check_amount) (aCons (eVar 1) (aNil))))
  (sCons (sIf (tNotD (tE (eFn 2 (d_is_subset_of) (aCons (eCall bLen (aCons (eIx (eVar 3) (eC (.int 1))) (aNil))) (aCons (eVar 2) (aNil)))))) (sNo) (sNil))
  (sCons (sIf (tE (e2 gGe (eIx (eVar 3) (eC (.int 0))) (eC (.int 10)))) (sNo) (sNil))
  (sCons (sSet 6 (eComp [7, 8] (srcEn (aCons (eIx (eVar 3) (eC (.int 1))) (aNil))) (.tp [.nm 7, .nm 8]) (tTrue) (eIf (tE (e2 gIn (eVar 7) (eVar 2))) (e2 gAdd (eVar 8) (eTup (aCons (eIx (eVar 3) (eC (.int 0))) (aNil)))) (eVar 8))))
  (sRet (eTup (aCons (eTup (aCons (e2 gAdd (eIx (eVar 3) (eC (.int 0))) (eC (.int 1))) (aCons (eCall bTuple (aCons (eVar 6) (aNil))) (aNil)))) (aCons (eVar 4) (aCons (e2 gAdd (eVar 5) (eTup (aCons (eVar 1) (aNil)))) (aNil))))))))))
def d_with_demand : Den := fnF 3 9 b_with_demand
def b_without_demand : Sx := sCons (sAsg (eVar 0) (gPat (.tp [.nm 2, .nm 3, .nm 4])))
  (sCons (sExpr (eFn 2 (d_check_demand) (aCons (eVar 2) (aCons (eVar 1) (aNil)))))
  (sCons (sIf (tE (e2 gEq (eIx (eVar 2) (eC (.int 0))) (eC (.int 1)))) (sNo) (sNil))
  (sCons (sSet 5 (eCall bTuple (aCons (eComp [6] (srcR1 (aCons (eIx (eVar 2) (eC (.int 0))) (aNil))) (.nm 6) (tE (e2 gNe (eVar 6) (eVar 1))) (eVar 6)) (aNil))))
  (sRet (eTup (aCons (eFn 2 (d_restrict_demands) (aCons (eVar 2) (aCons (eVar 5) (aNil)))) (aCons (eVar 3) (aCons (eFn 2 (d_without_index) (aCons (eVar 4) (aCons (eVar 1) (aNil)))) (aNil)))))))))
def d_without_demand : Den := fnF 2 7 b_without_demand
def b_with_offer : Sx := sCons (sAsg (eVar 0) (gPat (.tp [.nm 3, .nm 4, .nm 5])))
  (sCons (sExpr (eFn 1 (d_check_amount) (aCons (eVar 1) (aNil))))
  (sCons (sIf (tNotD (tE (eFn 2 (d_is_subset_of) (aCons (eIx (eVar 3) (eC (.int 0))) (aCons (eVar 2) (aNil)))))) (sNo) (sNil))
  (sCons (sIf (tE (e2 gGe (eCall bLen (aCons (eIx (eVar 3) (eC (.int 1))) (aNil))) (eC (.int 10)))) (sNo) (sNil))
  (sRet (eTup (aCons (eTup (aCons (eIx (eVar 3) (eC (.int 0))) (aCons (e2 gAdd (eIx (eVar 3) (eC (.int 1))) (eTup (aCons (eVar 2) (aNil)))) (aNil)))) (aCons (e2 gAdd (eVar 4) (eTup (aCons (eVar 1) (aNil)))) (aCons (eVar 5) (aNil)))))))))
def d_with_offer : Den := fnF 3 6 b_with_offer
def b_without_offer : Sx := sCons (sAsg (eVar 0) (gPat (.tp [.nm 2, .nm 3, .nm 4])))
  (sRet (eTup (aCons (eFn 2 (d_remove_offer) (aCons (eVar 2) (aCons (eVar 1) (aNil)))) (aCons (eFn 2 (d_without_index) (aCons (eVar 3) (aCons (eVar 1) (aNil)))) (aCons (eVar 4) (aNil))))))
def d_without_offer : Den := fnF 2 5 b_without_offer
def b_with_price : Sx := sCons (sAsg (eVar 0) (gPat (.tp [.nm 3, .nm 4, .nm 5])))
  (sCons (sExpr (eFn 2 (d_check_offer) (aCons (eVar 3) (aCons (eVar 1) (aNil)))))
  (sCons (sExpr (eFn 1 (d_check_amount) (aCons (eVar 2) (aNil))))
  (sRet (eTup (aCons (eVar 3) (aCons (eFn 3 (d_replaced) (aCons (eVar 4) (aCons (eVar 1) (aCons (eVar 2) (aNil))))) (aCons (eVar 5) (aNil))))))))
def d_with_price : Den := fnF 3 6 b_with_price
def b_with_penalty : Sx := sCons (sAsg (eVar 0) (gPat (.tp [.nm 3, .nm 4, .nm 5])))
  (sCons (sExpr (eFn 2 (d_check_demand) (aCons (eVar 3) (aCons (eVar 1) (aNil)))))
  (sCons (sExpr (eFn 1 (d_check_amount) (aCons (eVar 2) (aNil))))
  (sRet (eTup (aCons (eVar 3) (aCons (eVar 4) (aCons (eFn 3 (d_replaced) (aCons (eVar 5) (aCons (eVar 1) (aCons (eVar 2) (aNil))))) (aNil))))))))
def d_with_penalty : Den := fnF 3 6 b_with_penalty
def b_state_after : Sx := sCons (sSet 2 (eIx (eVar 1) (eC (.int 0))))
  (sCons (sIf (tE (e2 gEq (eVar 2) (eC (.str "add_demand")))) (sRet (eFn 3 (d_with_demand) (aCons (eVar 0) (aCons (eIx (eVar 1) (eC (.int 1))) (aCons (eIx (eVar 1) (eC (.int 2))) (aNil)))))) (sNil))
  (sCons (sIf (tE (e2 gEq (eVar 2) (eC (.str "remove_demand")))) (sRet (eFn 2 (d_without_demand) (aCons (eVar 0) (aCons (eIx (eVar 1) (eC (.int 1))) (aNil))))) (sNil))
  (sCons (sIf (tE (e2 gEq (eVar 2) (eC (.str "add_offer")))) (sRet (eFn 3 (d_with_offer) (aCons (eVar 0) (aCons (eIx (eVar 1) (eC (.int 1))) (aCons (eIx (eVar 1) (eC (.int 2))) (aNil)))))) (sNil))
  (sCons (sIf (tE (e2 gEq (eVar 2) (eC (.str "remove_offer")))) (sRet (eFn 2 (d_without_offer) (aCons (eVar 0) (aCons (eIx (eVar 1) (eC (.int 1))) (aNil))))) (sNil))
  (sCons (sIf (tE (e2 gEq (eVar 2) (eC (.str "set_price")))) (sRet (eFn 3 (d_with_price) (aCons (eVar 0) (aCons (eIx (eVar 1) (eC (.int 1))) (aCons (eIx (eVar 1) (eC (.int 2))) (aNil)))))) (sNil))
  (sRet (eFn 3 (d_with_penalty) (aCons (eVar 0) (aCons (eIx (eVar 1) (eC (.int 1))) (aCons (eIx (eVar 1) (eC (.int 2))) (aNil)))))))))))
def d_state_after : Den := fnF 2 3 b_state_after
def b__law_is_amount : Sx := sRet (eAnd (eFn 1 (d__law_whole) (aCons (eVar 0) (aNil))) (e3 gLe gLe (eC (.int 0)) (eVar 0) (e2 gPow (eC (.int 10)) (eC (.int 12)))))
def d__law_is_amount : Den := fnF 1 1 b__law_is_amount
def b__law_operation : Sx := sCons (sAsg (eVar 1) (gPat (.tp [.tp [.nm 2, .nm 3], .nm 4, .nm 5])))
  (sCons (sPar 6 7 (aCons (eFn 2 (d__law_next) (aCons (eVar 0) (aCons (eC (.int 10)) (aNil)))) (aCons (eFn 1 (d__law_amount) (aCons (eVar 0) (aNil))) (aNil))))
  (sCons (sIf (tE (e2 gLt (eVar 6) (eC (.int 3)))) (sRet (eTup (aCons (eC (.str "add_offer")) (aCons (eVar 7) (aCons (eFn 3 (d__law_part) (aCons (eVar 0) (aCons (eListR1 (aCons (eVar 2) (aNil))) (aCons (e2 gAdd (eC (.int 1)) (eFn 2 (d__law_next) (aCons (eVar 0) (aCons (eC (.int 3)) (aNil))))) (aNil))))) (aNil)))))) (sNil))
  (sCons (sIf (tE (e2 gLt (eVar 6) (eC (.int 5)))) (sRet (eTup (aCons (eC (.str "add_demand")) (aCons (eVar 7) (aCons (eFn 3 (d__law_part) (aCons (eVar 0) (aCons (eListR1 (aCons (eCall bLen (aCons (eVar 3) (aNil))) (aNil))) (aCons (e2 gAdd (eC (.int 1)) (eFn 2 (d__law_next) (aCons (eVar 0) (aCons (eC (.int 3)) (aNil))))) (aNil))))) (aNil)))))) (sNil))
  (sCons (sIf (tE (e2 gLt (eVar 6) (eC (.int 7)))) (sRet (eTup (aCons (eC (.str "set_price")) (aCons (eFn 2 (d__law_next) (aCons (eVar 0) (aCons (e2 gAdd (eCall bLen (aCons (eVar 3) (aNil))) (eC (.int 1))) (aNil)))) (aCons (eVar 7) (aNil)))))) (sNil))
  (sCons (sIf (tE (e2 gEq (eVar 6) (eC (.int 7)))) (sRet (eTup (aCons (eC (.str "set_penalty")) (aCons (eFn 2 (d__law_next) (aCons (eVar 0) (aCons (eVar 2) (aNil)))) (aCons (eVar 7) (aNil)))))) (sNil))
  (sCons (sIf (tE (e2 gEq (eVar 6) (eC (.int 8)))) (sRet (eTup (aCons (eC (.str "remove_offer")) (aCons (eFn 2 (d__law_next) (aCons (eVar 0) (aCons (e2 gAdd (eCall bLen (aCons (eVar 3) (aNil))) (eC (.int 1))) (aNil)))) (aNil))))) (sNil))
  (sRet (eTup (aCons (eC (.str "remove_demand")) (aCons (eFn 2 (d__law_next) (aCons (eVar 0) (aCons (eVar 2) (aNil)))) (aNil)))))))))))
def d__law_operation : Den := fnF 2 8 b__law_operation
def b__law_begun : Sx := sCons (sPar 1 2 (aCons (e2 gAdd (eC (.int 1)) (eFn 2 (d__law_next) (aCons (eVar 0) (aCons (eVar 1) (aNil))))) (aCons (eFn 2 (d__law_next) (aCons (eVar 0) (aCons (e2 gAdd (eVar 2) (eC (.int 1))) (aNil)))) (aNil))))
  (sCons (sSet 3 (eFn 3 (d__law_any) (aCons (eVar 0) (aCons (eVar 1) (aCons (eVar 2) (aNil))))))
  (sCons (sIf (tE (e2 gEq (eFn 2 (d__law_next) (aCons (eVar 0) (aCons (eC (.int 2)) (aNil)))) (eC (.int 0)))) (sSet 3 (eFn 3 (d__law_intervals) (aCons (eVar 0) (aCons (eVar 1) (aCons (eVar 2) (aNil)))))) (sNil))
  (sCons (sAsg (eFn 2 (d__law_data) (aCons (eVar 0) (aCons (eVar 3) (aNil)))) (gPat (.tp [.nm 4, .nm 5])))
  (sRet (eTup (aCons (eVar 3) (aCons (eVar 4) (aCons (eVar 5) (aNil)))))))))
def d__law_begun : Den := fnF 3 6 b__law_begun
def b_check_string : Sx := sIf (tNotD (tE (e1 (gIsi "str") (eVar 0)))) (sNo) (sNil)
def d_check_string : Den := fnF 1 1 b_check_string
def b_parse_demand : Sx := sCons (sIf (tOrD (tE (e2 gNe (eCall bLen (aCons (eVar 1) (aNil))) (eC (.int 1)))) (tOrD (tE (e2 gGt (eIx (eVar 1) (eC (.int 0))) (eC (.int 1000000000000)))) (tE (e2 gEq (eCall bLen (aCons (eVar 0) (aNil))) (eC (.int 10)))))) (sRet (eC .non)) (sNil))
  (sRet (e2 gAdd (eVar 0) (eTup (aCons (eIx (eVar 1) (eC (.int 0))) (aNil)))))
def d_parse_demand : Den := fnF 2 2 b_parse_demand
def b_parse_offer : Sx := sCons (sIf (tOrD (tE (e2 gEq (eVar 2) (eTup (aNil)))) (tOrD (tE (e2 gGt (eIx (eVar 2) (eC (.int 0))) (eC (.int 1000000000000)))) (tOrD (tE (e2 gEq (eCall bLen (aCons (eVar 0) (aNil))) (eC (.int 10)))) (tE (e2 gEq (eVar 1) (eC (.int 0))))))) (sRet (eC .non)) (sNil))
  (sCons (sSet 3 (eSl (eVar 2) (oSome (eC (.int 1))) oNone))
  (sCons (sIf (tOrD (tNotD (tE (eFn 1 (d_is_ascending) (aCons (eVar 3) (aNil))))) (tNotD (tE (eCall bAll (aCons (eComp [4] (srcS (eVar 3)) (.nm 4) (tTrue) (e2 gLt (eVar 4) (eVar 1))) (aNil)))))) (sRet (eC .non)) (sNil))
  (sRet (e2 gAdd (eVar 0) (eTup (aCons (eTup (aCons (eIx (eVar 2) (eC (.int 0))) (aCons (eVar 3) (aNil)))) (aNil)))))))
def d_parse_offer : Den := fnF 3 5 b_parse_offer
end Dl
/-! Dm1: what is known of slots and cells; denotations judged by it. -/
namespace Dl
open PySem
/-- what is known of a slot: nothing; a tree; a word read as a tree (a tree, or a cell of the caller's); an own cell; an own cell by its number; the deck -/
inductive Sl where
  | un | tr (x : T) | vw (x : T) | bx (c : Cell) | bn (n : Nat) (c : Cell) | dk
def gS : List Sl → Nat → Sl
  | [], _ => .un
  | s :: _, 0 => s
  | _ :: r, i + 1 => gS r i
def gE : Env → Nat → Option W
  | [], _ => none
  | s :: _, 0 => s
  | _ :: r, i + 1 => gE r i
theorem gS_set : ∀ (Γ : List Sl) (i j : Nat) (s : Sl), gS (Γ.set i s) j = if i = j ∧ i < Γ.length then s else gS Γ j
  | [], i, j, s => by simp [gS]
  | t :: r, 0, 0, s => by simp [gS]
  | t :: r, 0, j + 1, s => by simp [gS]
  | t :: r, i + 1, 0, s => by simp [gS]
  | t :: r, i + 1, j + 1, s => by
    rw [List.set_cons_succ, gS, gS, gS_set r i j s]
    simp
theorem gE_set : ∀ (ρ : Env) (i j : Nat) (s : Option W), gE (ρ.set i s) j = if i = j ∧ i < ρ.length then s else gE ρ j
  | [], i, j, s => by simp [gE]
  | t :: r, 0, 0, s => by simp [gE]
  | t :: r, 0, j + 1, s => by simp [gE]
  | t :: r, i + 1, 0, s => by simp [gE]
  | t :: r, i + 1, j + 1, s => by
    rw [List.set_cons_succ, gE, gE, gE_set r i j s]
    simp
theorem gE_get : ∀ (ρ : Env) (i : Nat), ρ[i]?.join = gE ρ i
  | [], i => by simp [gE]
  | s :: r, 0 => by simp [gE]
  | s :: r, i + 1 => by rw [List.getElem?_cons_succ, gE, gE_get r i]
theorem var_eq (i : Nat) (ρ : Env) (S : Sto) : eVar i ρ S = match gE ρ i with
    | some w => .ok w S
    | none => .no := by
  unfold eVar
  rw [← gE_get]
  cases h : ρ[i]? with
  | none => rfl
  | some o => cases o <;> rfl
/-- the word, read in what stands below P -/
def Vw (P : Sto) (w : W) (x : T) : Prop := w = .t x ∨ ∃ n c, w = .r n ∧ 3 ≤ n ∧ P[n]? = some c ∧ c.view = some x
def SlOk (P S : Sto) (o : Option W) : Sl → Prop
  | .un => True
  | .tr x => o = some (.t x)
  | .vw x => ∃ w, o = some w ∧ Vw P w x
  | .bx c => ∃ n, o = some (.r n) ∧ P.length ≤ n ∧ S[n]? = some c
  | .bn n c => o = some (.r n) ∧ P.length ≤ n ∧ S[n]? = some c
  | .dk => o = some (.r 2)
def Sl.own : Sl → Bool
  | .bx _ => true
  | .bn _ _ => true
  | _ => false
def Sl.known : Sl → Bool
  | .un => false
  | _ => true
structure Ag (P : Sto) (Γ : List Sl) (ρ : Env) (S : Sto) : Prop where
  big : 3 ≤ P.length
  pre : ∃ C, S = P ++ C
  len : ρ.length = Γ.length
  slot : ∀ i, SlOk P S (gE ρ i) (gS Γ i)
  nd : ∀ i j n, (gS Γ i).own = true → (gS Γ j).own = true → gE ρ i = some (.r n) → gE ρ j = some (.r n) → i = j
theorem pre_get' {P S C : Sto} {n : Nat} (e : S = P ++ C) (h : n < P.length) : S[n]? = P[n]? := by
  rw [e, List.getElem?_append_left h]
theorem get_lt {P : Sto} {n : Nat} {c : Cell} (h : P[n]? = some c) : n < P.length := (List.getElem?_eq_some_iff.mp h).1
theorem Vw.app {P : Sto} {w : W} {x : T} (C : Sto) (h : Vw P w x) : Vw (P ++ C) w x := by
  rcases h with h | ⟨n, c, h1, h2, h3, h4⟩
  · exact .inl h
  · exact .inr ⟨n, c, h1, h2, by rw [List.getElem?_append_left (get_lt h3)]; exact h3, h4⟩
theorem Vw.view {P : Sto} {w : W} {x : T} (h : Vw P w x) : view P w = some x := by
  rcases h with h | ⟨n, c, h1, h2, h3, h4⟩
  · rw [h]; rfl
  · rw [h1]; show P[n]?.bind Cell.view = _; rw [h3]; exact h4
/-- what an expression hands over: a tree, or the word of a slot -/
inductive Vl where
  | t (x : T) | s (i : Nat)
def VlOk (ρ : Env) (v : Vl) (w : W) : Prop := match v with
  | .t x => w = .t x
  | .s i => gE ρ i = some w
def Sl.view : Sl → Option T
  | .tr x => some x
  | .vw x => some x
  | .bx c => c.view
  | .bn _ c => c.view
  | _ => none
def Sl.tree : Sl → Option T
  | .tr x => some x
  | _ => none
/-- read -/
def lv (Γ : List Sl) : Vl → Option T
  | .t x => some x
  | .s i => (gS Γ i).view
/-- as a tree -/
def tv (Γ : List Sl) : Vl → Option T
  | .t x => some x
  | .s i => (gS Γ i).tree
theorem slot_view {P S : Sto} {ρ : Env} {Γ : List Sl} {i : Nat} {w : W} {x : T} (a : Ag P Γ ρ S) (hw : gE ρ i = some w) (e : (gS Γ i).view = some x) : Vw S w x := by
  have q := a.slot i
  rw [hw] at q
  obtain ⟨C, hC⟩ := a.pre
  cases hs : gS Γ i with
  | un => rw [hs] at e; cases e
  | tr y => rw [hs] at e q; cases e; cases q; exact .inl rfl
  | vw y =>
    rw [hs] at e q
    cases e
    obtain ⟨w', h1, h2⟩ := q
    cases h1
    rw [hC]
    exact h2.app C
  | bx c =>
    rw [hs] at e q
    obtain ⟨n, h1, h2, h3⟩ := q
    cases h1
    exact .inr ⟨n, c, rfl, Nat.le_trans a.big h2, h3, e⟩
  | bn n c =>
    rw [hs] at e q
    obtain ⟨h1, h2, h3⟩ := q
    cases h1
    exact .inr ⟨n, c, rfl, Nat.le_trans a.big h2, h3, e⟩
  | dk => rw [hs] at e; cases e
theorem lv_vw {P S : Sto} {ρ : Env} {Γ : List Sl} {v : Vl} {w : W} {x : T} (a : Ag P Γ ρ S) (hw : VlOk ρ v w) (e : lv Γ v = some x) : Vw S w x := by
  cases v with
  | t y => cases e; exact .inl hw
  | s i => exact slot_view a hw e
theorem lv_view {P S : Sto} {ρ : Env} {Γ : List Sl} {v : Vl} {w : W} {x : T} (a : Ag P Γ ρ S) (hw : VlOk ρ v w) (e : lv Γ v = some x) : view S w = some x := (lv_vw a hw e).view
theorem tv_tree {P S : Sto} {ρ : Env} {Γ : List Sl} {v : Vl} {w : W} {x : T} (a : Ag P Γ ρ S) (hw : VlOk ρ v w) (e : tv Γ v = some x) : w = .t x := by
  cases v with
  | t y => cases e; exact hw
  | s i =>
    have q := a.slot i
    have hw : gE ρ i = some w := hw
    have e : (gS Γ i).tree = some x := e
    rw [hw] at q
    cases hs : gS Γ i with
    | tr y => rw [hs] at e q; cases e; cases q; rfl
    | un => rw [hs] at e; cases e
    | vw _ => rw [hs] at e; cases e
    | bx _ => rw [hs] at e; cases e
    | bn _ _ => rw [hs] at e; cases e
    | dk => rw [hs] at e; cases e
/-- what an expression leaves as it was -/
structure Fr (Γ Γ' : List Sl) (ρ : Env) (S S' : Sto) : Prop where
  le : S.length ≤ S'.length
  eq : ∀ n c, S[n]? = some c → 3 ≤ n → (∀ i, (gS Γ i).own = true → gE ρ i ≠ some (.r n)) → S'[n]? = some c
  sub : ∀ i, (gS Γ' i).own = true → (gS Γ i).own = true
theorem Fr.refl {Γ : List Sl} {ρ : Env} {S : Sto} : Fr Γ Γ ρ S S := ⟨Nat.le_refl _, fun _ _ h _ _ => h, fun _ h => h⟩
theorem Fr.trans {Γ Γ1 Γ2 : List Sl} {ρ : Env} {S S1 S2 : Sto} (a : Fr Γ Γ1 ρ S S1) (b : Fr Γ1 Γ2 ρ S1 S2) : Fr Γ Γ2 ρ S S2 :=
  ⟨Nat.le_trans a.le b.le, fun n c h h3 hf => b.eq n c (a.eq n c h h3 hf) h3 fun i hi => hf i (a.sub i hi), fun i h => a.sub i (b.sub i h)⟩
/-! ### judgements -/
/-- an expression -/
def JX (P : Sto) (Γ : List Sl) (f : Ex) (P' : Sto) (Γ' : List Sl) (v : Vl) : Prop := ∀ ρ S, Ag P Γ ρ S → ∃ w S', f ρ S = .ok w S' ∧ Ag P' Γ' ρ S' ∧ VlOk ρ v w ∧ Fr Γ Γ' ρ S S'
/-- .. whose word is a new cell -/
def JN (P : Sto) (Γ : List Sl) (f : Ex) (P' : Sto) (Γ' : List Sl) (c : Cell) : Prop := ∀ ρ S, Ag P Γ ρ S → ∃ S', f ρ S = .ok (.r S'.length) (S' ++ [c]) ∧ Ag P' Γ' ρ S' ∧ Fr Γ Γ' ρ S S'
/-- a test -/
def JC (P : Sto) (Γ : List Sl) (t : Tx) (P' : Sto) (Γ' : List Sl) (b : Bool) : Prop := ∀ ρ S, Ag P Γ ρ S → ∃ S', t ρ S = .ok b S' ∧ Ag P' Γ' ρ S' ∧ Fr Γ Γ' ρ S S'
def VlsOk (ρ : Env) : List Vl → List W → Prop
  | [], [] => True
  | v :: vs, w :: ws => VlOk ρ v w ∧ VlsOk ρ vs ws
  | _, _ => False
/-- arguments -/
def JA (P : Sto) (Γ : List Sl) (fs : Exs) (P' : Sto) (Γ' : List Sl) (vs : List Vl) : Prop := ∀ ρ S, Ag P Γ ρ S → ∃ ws S', fs ρ S = .ok ws S' ∧ Ag P' Γ' ρ S' ∧ VlsOk ρ vs ws ∧ Fr Γ Γ' ρ S S'
/-- a bound of a slice -/
def JO (P : Sto) (Γ : List Sl) (o : Ox) (P' : Sto) (Γ' : List Sl) (b : Option Int) : Prop := ∀ ρ S, Ag P Γ ρ S → ∃ S', o ρ S = .ok b S' ∧ Ag P' Γ' ρ S' ∧ Fr Γ Γ' ρ S S'
def lvs (Γ : List Sl) : List Vl → Option (List T)
  | [] => some []
  | v :: vs => match lv Γ v with
    | some x => (match lvs Γ vs with
      | some xs => some (x :: xs)
      | none => none)
    | none => none
def tvs (Γ : List Sl) : List Vl → Option (List T)
  | [] => some []
  | v :: vs => match tv Γ v with
    | some x => (match tvs Γ vs with
      | some xs => some (x :: xs)
      | none => none)
    | none => none
section
variable {P P1 P2 P3 P' S : Sto} {Γ Γ1 Γ2 Γ3 Γ' : List Sl} {ρ : Env} {f fa fb fc : Ex} {fs : Exs} {t u : Tx} {v v1 v2 v3 : Vl} {vs : List Vl} {x y z : T} {xs : List T} {b : Bool} {i : Nat}
theorem lvs_views (a : Ag P Γ ρ S) : ∀ {vs : List Vl} {ws : List W} {xs : List T}, VlsOk ρ vs ws → lvs Γ vs = some xs → views S ws = some xs
  | [], [], xs, _, e => by cases e; rfl
  | [], _ :: _, _, h, _ => h.elim
  | _ :: _, [], _, h, _ => h.elim
  | v :: vs, w :: ws, xs, h, e => by
    unfold lvs at e
    split at e
    · rename_i x hx
      split at e
      · rename_i ys hys
        cases e
        unfold views
        rw [lv_view a h.1 hx, lvs_views a h.2 hys]; rfl
      · cases e
    · cases e
theorem tvs_trees (a : Ag P Γ ρ S) : ∀ {vs : List Vl} {ws : List W} {xs : List T}, VlsOk ρ vs ws → tvs Γ vs = some xs → ws = xs.map W.t
  | [], [], xs, _, e => by cases e; rfl
  | [], _ :: _, _, h, _ => h.elim
  | _ :: _, [], _, h, _ => h.elim
  | v :: vs, w :: ws, xs, h, e => by
    unfold tvs at e
    split at e
    · rename_i x hx
      split at e
      · rename_i ys hys
        cases e
        rw [tv_tree a h.1 hx, tvs_trees a h.2 hys]; rfl
      · cases e
    · cases e
theorem j_var (h : (gS Γ i).known = true := by rfl) : JX P Γ (eVar i) P Γ (.s i) := by
  intro ρ S a
  have q := a.slot i
  cases e : gE ρ i with
  | some w => exact ⟨w, S, by rw [var_eq, e], a, e, .refl⟩
  | none =>
    rw [e] at q
    cases hs : gS Γ i with
    | un => rw [hs] at h; cases h
    | tr y => rw [hs] at q; cases q
    | vw y => rw [hs] at q; obtain ⟨_, q, _⟩ := q; cases q
    | bx c => rw [hs] at q; obtain ⟨_, q, _⟩ := q; cases q
    | bn n c => rw [hs] at q; obtain ⟨q, _⟩ := q; cases q
    | dk => rw [hs] at q; cases q
theorem j_C : JX P Γ (eC x) P Γ (.t x) := fun ρ S a => ⟨_, S, rfl, a, rfl, .refl⟩
theorem ja_nil : JA P Γ aNil P Γ [] := fun ρ S a => ⟨_, S, rfl, a, trivial, .refl⟩
theorem ja_cons (h : JX P Γ f P1 Γ1 v) (h2 : JA P1 Γ1 fs P2 Γ2 vs) : JA P Γ (aCons f fs) P2 Γ2 (v :: vs) := by
  intro ρ S a
  obtain ⟨w, S1, e1, a1, q1, r1⟩ := h ρ S a
  obtain ⟨ws, S2, e2, a2, q2, r2⟩ := h2 ρ S1 a1
  exact ⟨w :: ws, S2, by rw [ap_aCons, e1, bind_ok', e2]; rfl, a2, ⟨q1, q2⟩, r1.trans r2⟩
theorem toTs_trees (xs : List T) : toTs (xs.map W.t) = some xs := toTs_map xs
theorem j_tup (h : JA P Γ fs P1 Γ1 vs) (e : tvs Γ1 vs = some xs := by rfl) (hl : xs.length ≤ cap := by decide) : JX P Γ (eTup fs) P1 Γ1 (.t (.tup xs)) := by
  intro ρ S a
  obtain ⟨ws, S1, e1, a1, q1, r1⟩ := h ρ S a
  have := tvs_trees a1 q1 e
  subst this
  exact ⟨_, S1, by rw [ap_eTup, e1, bind_ok']; unfold treeOf; rw [List.length_map, if_pos hl, toTs_map]; rfl, a1, rfl, r1⟩
theorem j_lst (h : JA P Γ fs P1 Γ1 vs) (e : tvs Γ1 vs = some xs := by rfl) (hl : xs.length ≤ cap := by decide) : JX P Γ (eLst fs) P1 Γ1 (.t (.lst xs)) := by
  intro ρ S a
  obtain ⟨ws, S1, e1, a1, q1, r1⟩ := h ρ S a
  have := tvs_trees a1 q1 e
  subst this
  exact ⟨_, S1, by rw [ap_eLst, e1, bind_ok']; unfold treeOf; rw [List.length_map, if_pos hl, toTs_map]; rfl, a1, rfl, r1⟩
theorem jn_lst (h : JA P Γ fs P1 Γ1 vs) (e : tvs Γ1 vs = some xs := by rfl) (hl : xs.length ≤ cap := by decide) : JN P Γ (eLstB fs) P1 Γ1 (.lst xs) := by
  intro ρ S a
  obtain ⟨ws, S1, e1, a1, q1, r1⟩ := h ρ S a
  have := tvs_trees a1 q1 e
  subst this
  exact ⟨S1, by unfold eLstB; rw [e1, bind_ok', List.length_map, if_pos hl, toTs_map], a1, r1⟩
theorem j_e2 {g : T → T → Option T} (h1 : JX P Γ fa P1 Γ1 v1) (h2 : JX P1 Γ1 fb P2 Γ2 v2) (hg : g x y = some z) (e1 : lv Γ2 v1 = some x := by rfl) (e2' : lv Γ2 v2 = some y := by rfl) : JX P Γ (e2 g fa fb) P2 Γ2 (.t z) := by
  intro ρ S a
  obtain ⟨w, S1, q1, a1, k1, r1⟩ := h1 ρ S a
  obtain ⟨w2, S2, q2, a2, k2, r2⟩ := h2 ρ S1 a1
  exact ⟨_, S2, by rw [ap_e2, q1, bind_ok', q2, bind_ok', lv_view a2 k1 e1, lv_view a2 k2 e2']; simp [hg], a2, rfl, r1.trans r2⟩
theorem j_e1 {g : T → Option T} (h1 : JX P Γ fa P1 Γ1 v1) (hg : g x = some z) (e1' : lv Γ1 v1 = some x := by rfl) : JX P Γ (e1 g fa) P1 Γ1 (.t z) := by
  intro ρ S a
  obtain ⟨w, S1, q1, a1, k1, r1⟩ := h1 ρ S a
  exact ⟨_, S1, by rw [ap_e1, q1, bind_ok', lv_view a1 k1 e1']; simp [hg], a1, rfl, r1⟩
theorem jn_e2 {g : T → T → Option (List T)} (h1 : JX P Γ fa P1 Γ1 v1) (h2 : JX P1 Γ1 fb P2 Γ2 v2) (hg : g x y = some xs) (e1 : lv Γ2 v1 = some x := by rfl) (e2' : lv Γ2 v2 = some y := by rfl) : JN P Γ (e2L g fa fb) P2 Γ2 (.lst xs) := by
  intro ρ S a
  obtain ⟨w, S1, q1, a1, k1, r1⟩ := h1 ρ S a
  obtain ⟨w2, S2, q2, a2, k2, r2⟩ := h2 ρ S1 a1
  exact ⟨S2, by unfold e2L; rw [q1, bind_ok', q2, bind_ok', lv_view a2 k1 e1, lv_view a2 k2 e2']; simp [hg], a2, r1.trans r2⟩
theorem j_call {g : List T → Option T} (h : JA P Γ fs P1 Γ1 vs) (hg : g xs = some z) (e : lvs Γ1 vs = some xs := by rfl) : JX P Γ (eCall g fs) P1 Γ1 (.t z) := by
  intro ρ S a
  obtain ⟨ws, S1, e1, a1, q1, r1⟩ := h ρ S a
  exact ⟨_, S1, by rw [ap_eCall, e1, bind_ok', lvs_views a1 q1 e]; simp [hg], a1, rfl, r1⟩
theorem jn_call {g : List T → Option (List T)} {ys : List T} (h : JA P Γ fs P1 Γ1 vs) (hg : g xs = some ys) (e : lvs Γ1 vs = some xs := by rfl) : JN P Γ (eCallB g fs) P1 Γ1 (.lst ys) := by
  intro ρ S a
  obtain ⟨ws, S1, e1, a1, q1, r1⟩ := h ρ S a
  exact ⟨S1, by unfold eCallB; rw [e1, bind_ok', lvs_views a1 q1 e]; simp [hg], a1, r1⟩
theorem ixW_vw {w : W} (h : Vw S w x) (hg : ixT x y = some z) : ixW S w y = some (.t z) := by
  rcases h with h | ⟨n, c, h1, h2, h3, h4⟩
  · rw [h]; simp [ixW, hg]
  · subst h1
    unfold ixW
    simp only [h3, Option.bind_some]
    cases c with
    | lst xs =>
      cases h4
      cases y with
      | int i => simp only [Cell.at]; have hg : L2.atI xs i = some z := hg; rw [hg]; rfl
      | _ => cases hg
    | vec ws =>
      cases q : toTs ws with
      | none => simp [Cell.view, q] at h4
      | some ys =>
        simp [Cell.view, q] at h4
        subst h4
        have := toTs_some q
        subst this
        cases y with
        | int i =>
          have hg : L2.atI ys i = some z := hg
          simp only [Cell.at]
          unfold L2.atI at hg ⊢
          rw [List.length_map]
          cases hx : L2.ixN ys.length i with
          | none => rw [hx] at hg; cases hg
          | some j =>
            rw [hx] at hg
            simp only [Option.bind_some] at hg ⊢
            rw [List.getElem?_map, hg]; rfl
        | _ => cases hg
    | dic kvs =>
      cases h4
      have hg : (keyOf y).bind (fun k => lookK kvs k) = some z := by cases y <;> exact hg
      cases hk : keyOf y with
      | none => rw [hk] at hg; cases hg
      | some k => rw [hk] at hg; simp only [Option.bind_some] at hg; simp only [hk, Option.bind_some, hg]; rfl
    | frz kvs =>
      cases h4
      have hg : (keyOf y).bind (fun k => lookK kvs k) = some z := by cases y <;> exact hg
      cases hk : keyOf y with
      | none => rw [hk] at hg; cases hg
      | some k => rw [hk] at hg; simp only [Option.bind_some] at hg; simp only [hk, Option.bind_some, hg]; rfl
    | dead => cases h4
theorem j_ix (h1 : JX P Γ fa P1 Γ1 v1) (h2 : JX P1 Γ1 fb P2 Γ2 v2) (hg : ixT x y = some z) (e1 : lv Γ2 v1 = some x := by rfl) (e2' : lv Γ2 v2 = some y := by rfl) : JX P Γ (eIx fa fb) P2 Γ2 (.t z) := by
  intro ρ S a
  obtain ⟨w, S1, q1, a1, k1, r1⟩ := h1 ρ S a
  obtain ⟨w2, S2, q2, a2, k2, r2⟩ := h2 ρ S1 a1
  exact ⟨_, S2, by rw [ap_eIx, q1, bind_ok', q2, bind_ok', lv_view a2 k2 e2', Option.bind_some, ixW_vw (lv_vw a2 k1 e1) hg]; rfl, a2, rfl, r1.trans r2⟩
theorem jo_none : JO P Γ oNone P Γ none := fun ρ S a => ⟨S, rfl, a, .refl⟩
theorem jo_some {k : Int} (h : JX P Γ f P1 Γ1 v) (e : tv Γ1 v = some (.int k) := by rfl) : JO P Γ (oSome f) P1 Γ1 (some k) := by
  intro ρ S a
  obtain ⟨w, S1, q1, a1, k1, r1⟩ := h ρ S a
  have := tv_tree a1 k1 e
  subst this
  exact ⟨S1, by rw [ap_oSome, q1]; rfl, a1, r1⟩
theorem j_sl {l r : Ox} {lo hi : Option Int} (h1 : JX P Γ fa P1 Γ1 v1) (h2 : JO P1 Γ1 l P2 Γ2 lo) (h3 : JO P2 Γ2 r P3 Γ3 hi) (hg : gSl x lo hi = some z) (e1 : lv Γ3 v1 = some x := by rfl) : JX P Γ (eSl fa l r) P3 Γ3 (.t z) := by
  intro ρ S a
  obtain ⟨w, S1, q1, a1, k1, r1⟩ := h1 ρ S a
  obtain ⟨S2, q2, a2, r2⟩ := h2 ρ S1 a1
  obtain ⟨S3, q3, a3, r3⟩ := h3 ρ S2 a2
  exact ⟨_, S3, by rw [ap_eSl, q1, bind_ok', q2, bind_ok', q3, bind_ok', lv_view a3 k1 e1]; simp [hg], a3, rfl, (r1.trans r2).trans r3⟩
theorem j_e3 {g g' : T → T → Option T} {b1 b2 : Bool} (h1 : JX P Γ fa P1 Γ1 v1) (h2 : JX P1 Γ1 fb P2 Γ2 v2) (h3 : JX P2 Γ2 fc P2 Γ2 v3) (hg : g x y = some (.bl b1)) (hg' : g' y z = some (.bl b2))
    (e1 : lv Γ2 v1 = some x := by rfl) (e2' : lv Γ2 v2 = some y := by rfl) (e3' : lv Γ2 v3 = some z := by rfl) : JX P Γ (e3 g g' fa fb fc) P2 Γ2 (.t (.bl (b1 && b2))) := by
  intro ρ S a
  obtain ⟨w, S1, q1, a1, k1, r1⟩ := h1 ρ S a
  obtain ⟨w2, S2, q2, a2, k2, r2⟩ := h2 ρ S1 a1
  cases b1 with
  | false => exact ⟨_, S2, by unfold e3; rw [q1, bind_ok', q2, bind_ok', lv_view a2 k1 e1, lv_view a2 k2 e2']; simp [hg], a2, rfl, r1.trans r2⟩
  | true =>
    obtain ⟨w3, S3, q3, a3, k3, r3⟩ := h3 ρ S2 a2
    exact ⟨_, S3, by unfold e3; rw [q1, bind_ok', q2, bind_ok', lv_view a2 k1 e1, lv_view a2 k2 e2']; simp [hg, q3, lv_view a3 k2 e2', lv_view a3 k3 e3', hg'], a3, rfl, (r1.trans r2).trans r3⟩
theorem jc_tE (h : JX P Γ f P1 Γ1 v) (e : tv Γ1 v = some (.bl b) := by rfl) : JC P Γ (tE f) P1 Γ1 b := by
  intro ρ S a
  obtain ⟨w, S1, q1, a1, k1, r1⟩ := h ρ S a
  have := tv_tree a1 k1 e
  subst this
  exact ⟨S1, by rw [ap_tE, q1]; rfl, a1, r1⟩
theorem jc_not (h : JC P Γ t P1 Γ1 b) : JC P Γ (tNotD t) P1 Γ1 (!b) := by
  intro ρ S a
  obtain ⟨S1, q1, a1, r1⟩ := h ρ S a
  exact ⟨S1, by unfold tNotD; rw [q1]; rfl, a1, r1⟩
theorem j_not (h : JX P Γ f P1 Γ1 v) (e : tv Γ1 v = some (.bl b) := by rfl) : JX P Γ (eNot f) P1 Γ1 (.t (.bl (!b))) := by
  intro ρ S a
  obtain ⟨S1, q1, a1, r1⟩ := jc_tE h e ρ S a
  exact ⟨_, S1, by unfold eNot; rw [q1]; rfl, a1, rfl, r1⟩
theorem jc_true : JC P Γ tTrue P Γ true := fun ρ S a => ⟨S, rfl, a, .refl⟩
/-- and, or: with what the second gives only where it is asked -/
theorem jc_and {c d : Bool} (h : JC P Γ t P1 Γ1 c) (h1 : c = true → JC P1 Γ1 u P2 Γ2 d) (h2 : c = false → d = false ∧ P2 = P1 ∧ Γ2 = Γ1) : JC P Γ (tAndD t u) P2 Γ2 d := by
  intro ρ S a
  obtain ⟨S1, q1, a1, r1⟩ := h ρ S a
  cases c with
  | true =>
    obtain ⟨S2, q2, a2, r2⟩ := h1 rfl ρ S1 a1
    exact ⟨S2, by unfold tAndD; rw [q1, bind_ok', if_pos rfl, q2], a2, r1.trans r2⟩
  | false =>
    obtain ⟨rfl, rfl, rfl⟩ := h2 rfl
    exact ⟨S1, by unfold tAndD; rw [q1]; rfl, a1, r1⟩
theorem jc_or {c d : Bool} (h : JC P Γ t P1 Γ1 c) (h1 : c = false → JC P1 Γ1 u P2 Γ2 d) (h2 : c = true → d = true ∧ P2 = P1 ∧ Γ2 = Γ1) : JC P Γ (tOrD t u) P2 Γ2 d := by
  intro ρ S a
  obtain ⟨S1, q1, a1, r1⟩ := h ρ S a
  cases c with
  | false =>
    obtain ⟨S2, q2, a2, r2⟩ := h1 rfl ρ S1 a1
    exact ⟨S2, by unfold tOrD; rw [q1, bind_ok']; exact q2, a2, r1.trans r2⟩
  | true =>
    obtain ⟨rfl, rfl, rfl⟩ := h2 rfl
    exact ⟨S1, by unfold tOrD; rw [q1]; rfl, a1, r1⟩
theorem jc_andP {c d : Bool} (h : JC P Γ t P1 Γ1 c) (h1 : JC P1 Γ1 u P1 Γ1 d) : JC P Γ (tAndD t u) P1 Γ1 (c && d) :=
  jc_and h (fun e => by rw [e]; exact h1) (fun e => by rw [e]; exact ⟨rfl, rfl, rfl⟩)
theorem jc_orP {c d : Bool} (h : JC P Γ t P1 Γ1 c) (h1 : JC P1 Γ1 u P1 Γ1 d) : JC P Γ (tOrD t u) P1 Γ1 (c || d) :=
  jc_or h (fun e => by rw [e]; exact h1) (fun e => by rw [e]; exact ⟨rfl, rfl, rfl⟩)
theorem j_and {c d : Bool} (h : JX P Γ fa P1 Γ1 v) (h1 : c = true → ∃ v', JX P1 Γ1 fb P2 Γ2 v' ∧ tv Γ2 v' = some (.bl d)) (h2 : c = false → d = false ∧ P2 = P1 ∧ Γ2 = Γ1) (e : tv Γ1 v = some (.bl c) := by rfl) : JX P Γ (eAnd fa fb) P2 Γ2 (.t (.bl d)) := by
  intro ρ S a
  obtain ⟨S1, q1, a1, r1⟩ := jc_tE h e ρ S a
  cases c with
  | true =>
    obtain ⟨v', k, e'⟩ := h1 rfl
    obtain ⟨w, S2, q2, a2, k2, r2⟩ := k ρ S1 a1
    have := tv_tree a2 k2 e'
    subst this
    exact ⟨_, S2, by unfold eAnd; rw [q1, bind_ok', if_pos rfl, q2], a2, rfl, r1.trans r2⟩
  | false =>
    obtain ⟨rfl, rfl, rfl⟩ := h2 rfl
    exact ⟨_, S1, by unfold eAnd; rw [q1]; rfl, a1, rfl, r1⟩
theorem j_or {c d : Bool} (h : JX P Γ fa P1 Γ1 v) (h1 : c = false → ∃ v', JX P1 Γ1 fb P2 Γ2 v' ∧ tv Γ2 v' = some (.bl d)) (h2 : c = true → d = true ∧ P2 = P1 ∧ Γ2 = Γ1) (e : tv Γ1 v = some (.bl c) := by rfl) : JX P Γ (eOr fa fb) P2 Γ2 (.t (.bl d)) := by
  intro ρ S a
  obtain ⟨S1, q1, a1, r1⟩ := jc_tE h e ρ S a
  cases c with
  | false =>
    obtain ⟨v', k, e'⟩ := h1 rfl
    obtain ⟨w, S2, q2, a2, k2, r2⟩ := k ρ S1 a1
    have := tv_tree a2 k2 e'
    subst this
    exact ⟨_, S2, by unfold eOr; rw [q1, bind_ok']; exact q2, a2, rfl, r1.trans r2⟩
  | true =>
    obtain ⟨rfl, rfl, rfl⟩ := h2 rfl
    exact ⟨_, S1, by unfold eOr; rw [q1]; rfl, a1, rfl, r1⟩
theorem j_andP {c d : Bool} (h : JX P Γ fa P1 Γ1 v) (h1 : JX P1 Γ1 fb P1 Γ1 v2) (e : tv Γ1 v = some (.bl c) := by rfl) (e2' : tv Γ1 v2 = some (.bl d) := by rfl) : JX P Γ (eAnd fa fb) P1 Γ1 (.t (.bl (c && d))) :=
  j_and h (fun k => ⟨v2, h1, by rw [e2', k]; rfl⟩) (fun k => by rw [k]; exact ⟨rfl, rfl, rfl⟩) e
theorem j_orP {c d : Bool} (h : JX P Γ fa P1 Γ1 v) (h1 : JX P1 Γ1 fb P1 Γ1 v2) (e : tv Γ1 v = some (.bl c) := by rfl) (e2' : tv Γ1 v2 = some (.bl d) := by rfl) : JX P Γ (eOr fa fb) P1 Γ1 (.t (.bl (c || d))) :=
  j_or h (fun k => ⟨v2, h1, by rw [e2', k]; rfl⟩) (fun k => by rw [k]; exact ⟨rfl, rfl, rfl⟩) e
/-- x if b else y -/
theorem j_if {x' : T} (h : JC P Γ t P1 Γ1 b) (h1 : b = true → ∃ v', JX P1 Γ1 fa P2 Γ2 v' ∧ tv Γ2 v' = some x') (h2 : b = false → ∃ v', JX P1 Γ1 fb P2 Γ2 v' ∧ tv Γ2 v' = some x') : JX P Γ (eIf t fa fb) P2 Γ2 (.t x') := by
  intro ρ S a
  obtain ⟨S1, q1, a1, r1⟩ := h ρ S a
  cases b with
  | true =>
    obtain ⟨v', k, e'⟩ := h1 rfl
    obtain ⟨w, S2, q2, a2, k2, r2⟩ := k ρ S1 a1
    have := tv_tree a2 k2 e'
    subst this
    exact ⟨_, S2, by unfold eIf; rw [q1, bind_ok', if_pos rfl, q2], a2, rfl, r1.trans r2⟩
  | false =>
    obtain ⟨v', k, e'⟩ := h2 rfl
    obtain ⟨w, S2, q2, a2, k2, r2⟩ := k ρ S1 a1
    have := tv_tree a2 k2 e'
    subst this
    exact ⟨_, S2, by unfold eIf; rw [q1, bind_ok']; exact q2, a2, rfl, r1.trans r2⟩
theorem j_ifP {α : Type} {e : α → T} {a1 a2 : α} (h : JC P Γ t P1 Γ1 b) (h1 : JX P1 Γ1 fa P1 Γ1 v1) (h2 : JX P1 Γ1 fb P1 Γ1 v2) (e1 : tv Γ1 v1 = some (e a1) := by rfl) (e2' : tv Γ1 v2 = some (e a2) := by rfl) : JX P Γ (eIf t fa fb) P1 Γ1 (.t (e (cond b a1 a2))) :=
  j_if h (fun k => ⟨v1, h1, by rw [e1, k]; rfl⟩) (fun k => ⟨v2, h2, by rw [e2', k]; rfl⟩)
end
end Dl
/-! Dm2: statements, loops, comprehensions, calls of defs, judged by what is known. -/
namespace Dl
open PySem
/-! ### how what is known changes -/
def forget (Γ : List Sl) : List Nat → List Sl
  | [] => Γ
  | i :: is => forget (Γ.set i .un) is
section
variable {P P1 P2 P3 P' S S' : Sto} {Γ Γ1 Γ2 Γ3 Γ' : List Sl} {ρ ρ' : Env} {f fa fb fc : Ex} {fs : Exs} {t u : Tx} {v v1 v2 v3 : Vl} {vs : List Vl} {x y z : T} {xs : List T} {b : Bool} {i j : Nat} {c : Cell} {g g1 g2 : Sx}
theorem ne_len (h : gS Γ i ≠ .un) : i < Γ.length := by
  induction Γ generalizing i with
  | nil => exact absurd rfl h
  | cons s r ih =>
    cases i with
    | zero => simp
    | succ i => have := ih (i := i) h; simp; omega
/-- a slot is forgotten -/
theorem Ag.un (a : Ag P Γ ρ S) (i : Nat) : Ag P (Γ.set i .un) ρ S := by
  refine ⟨a.big, a.pre, by simpa using a.len, fun k => ?_, fun k m n h1 h2 h3 h4 => ?_⟩
  · rw [gS_set]
    split
    · trivial
    · exact a.slot k
  · rw [gS_set] at h1 h2
    split at h1
    · cases h1
    · split at h2
      · cases h2
      · exact a.nd k m n h1 h2 h3 h4
theorem Ag.forget (a : Ag P Γ ρ S) (is : List Nat) : Ag P (forget Γ is) ρ S := by
  induction is generalizing Γ with
  | nil => exact a
  | cons i is ih => exact ih (a.un i)
/-- a slot gets a word that is no own cell -/
theorem Ag.set {s : Sl} {o : Option W} (a : Ag P Γ ρ S) (hs : s.own = false) (ho : SlOk P S o s) (i : Nat) : Ag P (Γ.set i s) (ρ.set i o) S := by
  refine ⟨a.big, a.pre, by simpa using a.len, fun k => ?_, fun k m n h1 h2 h3 h4 => ?_⟩
  · rw [gS_set, gE_set, a.len]
    split
    · exact ho
    · exact a.slot k
  · rw [gS_set] at h1 h2
    rw [gE_set, a.len] at h3 h4
    split at h1
    · rw [hs] at h1; cases h1
    · split at h2
      · rw [hs] at h2; cases h2
      · rename_i n1 n2
        rw [if_neg n1] at h3
        rw [if_neg n2] at h4
        exact a.nd k m n h1 h2 h3 h4
/-- the env's other places do not matter -/
theorem Ag.env (a : Ag P Γ ρ S) (hl : ρ'.length = ρ.length) (he : ∀ i, gS Γ i ≠ .un → gE ρ' i = gE ρ i) : Ag P Γ ρ' S := by
  refine ⟨a.big, a.pre, hl.trans a.len, fun k => ?_, fun k m n h1 h2 h3 h4 => ?_⟩
  · by_cases e : gS Γ k = .un
    · rw [e]; trivial
    · rw [he k e]; exact a.slot k
  · have k1 : gS Γ k ≠ .un := fun z => by rw [z] at h1; cases h1
    have k2 : gS Γ m ≠ .un := fun z => by rw [z] at h2; cases h2
    rw [he k k1] at h3
    rw [he m k2] at h4
    exact a.nd k m n h1 h2 h3 h4
/-- a new cell -/
theorem Ag.new (a : Ag P Γ ρ S) (c : Cell) : Ag P Γ ρ (S ++ [c]) := by
  obtain ⟨C, hC⟩ := a.pre
  refine ⟨a.big, ⟨C ++ [c], by rw [hC, List.append_assoc]⟩, a.len, fun k => ?_, a.nd⟩
  have q := a.slot k
  cases hs : gS Γ k with
  | bx c' => rw [hs] at q; obtain ⟨n, h1, h2, h3⟩ := q; exact ⟨n, h1, h2, by rw [List.getElem?_append_left (get_lt h3)]; exact h3⟩
  | bn n c' => rw [hs] at q; obtain ⟨h1, h2, h3⟩ := q; exact ⟨h1, h2, by rw [List.getElem?_append_left (get_lt h3)]; exact h3⟩
  | un => trivial
  | tr y => rw [hs] at q; exact q
  | vw y => rw [hs] at q; exact q
  | dk => rw [hs] at q; exact q
theorem Ag.own_lt {n : Nat} (a : Ag P Γ ρ S) (h : (gS Γ i).own = true) (e : gE ρ i = some (.r n)) : P.length ≤ n ∧ n < S.length := by
  have q := a.slot i
  cases hs : gS Γ i with
  | bx c' => rw [hs] at q; obtain ⟨m, h1, h2, h3⟩ := q; rw [e] at h1; cases h1; exact ⟨h2, get_lt h3⟩
  | bn m c' => rw [hs] at q; obtain ⟨h1, h2, h3⟩ := q; rw [e] at h1; cases h1; exact ⟨h2, get_lt h3⟩
  | _ => rw [hs] at h; cases h
theorem Ag.box (a : Ag P Γ ρ S) (c : Cell) (i : Nat) : Ag P (Γ.set i (.bx c)) (ρ.set i (some (.r S.length))) (S ++ [c]) := by
  obtain ⟨C, hC⟩ := a.pre
  have a' := a.new c
  have hP : P.length ≤ S.length := by rw [hC]; simp
  refine ⟨a.big, a'.pre, by simpa using a.len, fun k => ?_, fun k m n h1 h2 h3 h4 => ?_⟩
  · rw [gS_set, gE_set, a.len]
    split
    · exact ⟨S.length, rfl, hP, by simp⟩
    · exact a'.slot k
  · rw [gE_set, a.len] at h3 h4
    rw [gS_set] at h1 h2
    by_cases e1 : i = k ∧ i < Γ.length <;> by_cases e2 : i = m ∧ i < Γ.length
    · rw [← e1.1, e2.1]
    · rw [if_pos e1] at h3
      rw [if_neg e2] at h2 h4
      cases h3
      have := (a.own_lt h2 h4).2
      omega
    · rw [if_pos e2] at h4
      rw [if_neg e1] at h1 h3
      cases h4
      have := (a.own_lt h1 h3).2
      omega
    · rw [if_neg e1] at h1 h3
      rw [if_neg e2] at h2 h4
      exact a.nd k m n h1 h2 h3 h4
/-- an own cell is written -/
theorem Ag.put {n : Nat} (a : Ag P Γ ρ S) (c c' : Cell) (hi : gS Γ i = .bx c) (e : gE ρ i = some (.r n)) : Ag P (Γ.set i (.bx c')) ρ (S.set n c') := by
  have ho : (gS Γ i).own = true := by rw [hi]; rfl
  obtain ⟨l1, l2⟩ := a.own_lt ho e
  obtain ⟨C, hC⟩ := a.pre
  have hl : i < Γ.length := ne_len (by rw [hi]; exact fun z => nomatch z)
  refine ⟨a.big, ⟨C.set (n - P.length) c', by rw [hC, List.set_append_right _ _ l1]⟩, by simpa using a.len, fun k => ?_, fun k m n' h1 h2 h3 h4 => ?_⟩
  · rw [gS_set]
    split
    · rename_i h
      rw [← h.1]
      exact ⟨n, e, l1, by rw [List.getElem?_set_self l2]⟩
    · rename_i h
      have ne : i ≠ k := fun z => h ⟨z, hl⟩
      have q := a.slot k
      cases hs : gS Γ k with
      | bx c'' =>
        rw [hs] at q
        obtain ⟨m, h1, h2, h3⟩ := q
        have : n ≠ m := fun z => ne (a.nd i k n ho (by rw [hs]; rfl) e (z ▸ h1))
        exact ⟨m, h1, h2, by rw [List.getElem?_set_ne this]; exact h3⟩
      | bn m c'' =>
        rw [hs] at q
        obtain ⟨h1, h2, h3⟩ := q
        have : n ≠ m := fun z => ne (a.nd i k n ho (by rw [hs]; rfl) e (z ▸ h1))
        exact ⟨h1, h2, by rw [List.getElem?_set_ne this]; exact h3⟩
      | un => trivial
      | tr y => rw [hs] at q; exact q
      | vw y => rw [hs] at q; exact q
      | dk => rw [hs] at q; exact q
  · have k1 : (gS Γ k).own = true := by
      rw [gS_set] at h1
      split at h1
      · rename_i h; rw [← h.1]; exact ho
      · exact h1
    have k2 : (gS Γ m).own = true := by
      rw [gS_set] at h2
      split at h2
      · rename_i h; rw [← h.1]; exact ho
      · exact h2
    exact a.nd k m n' k1 k2 h3 h4
/-- an own cell, by its number -/
theorem Ag.open (a : Ag P Γ ρ S) (hi : gS Γ i = .bx c) : ∃ n, Ag P (Γ.set i (.bn n c)) ρ S := by
  have q := a.slot i
  rw [hi] at q
  obtain ⟨n, h1, h2, h3⟩ := q
  have ho : (gS Γ i).own = true := by rw [hi]; rfl
  refine ⟨n, a.big, a.pre, by simpa using a.len, fun k => ?_, fun k m n' k1 k2 h3 h4 => ?_⟩
  · rw [gS_set]
    split
    · rename_i h; rw [← h.1]; exact ⟨h1, h2, h3⟩
    · exact a.slot k
  · have k1 : (gS Γ k).own = true := by
      rw [gS_set] at k1
      split at k1
      · rename_i h; rw [← h.1]; exact ho
      · exact k1
    have k2 : (gS Γ m).own = true := by
      rw [gS_set] at k2
      split at k2
      · rename_i h; rw [← h.1]; exact ho
      · exact k2
    exact a.nd k m n' k1 k2 h3 h4
theorem Ag.close {n : Nat} (a : Ag P Γ ρ S) (hi : gS Γ i = .bn n c) : Ag P (Γ.set i (.bx c)) ρ S := by
  have q := a.slot i
  rw [hi] at q
  obtain ⟨h1, h2, h3⟩ := q
  have ho : (gS Γ i).own = true := by rw [hi]; rfl
  refine ⟨a.big, a.pre, by simpa using a.len, fun k => ?_, fun k m n' k1 k2 h3 h4 => ?_⟩
  · rw [gS_set]
    split
    · rename_i h; rw [← h.1]; exact ⟨n, h1, h2, h3⟩
    · exact a.slot k
  · have k1 : (gS Γ k).own = true := by
      rw [gS_set] at k1
      split at k1
      · rename_i h; rw [← h.1]; exact ho
      · exact k1
    have k2 : (gS Γ m).own = true := by
      rw [gS_set] at k2
      split at k2
      · rename_i h; rw [← h.1]; exact ho
      · exact k2
    exact a.nd k m n' k1 k2 h3 h4
/-- one own cell's word handed on to another slot -/
theorem Ag.move (a : Ag P Γ ρ S) (hij : i ≠ j) (hj : gS Γ j = .bx c) : Ag P ((Γ.set j .un).set i (.bx c)) (ρ.set i (gE ρ j)) S := by
  have q := a.slot j
  rw [hj] at q
  obtain ⟨n, h1, h2, h3⟩ := q
  have ho : (gS Γ j).own = true := by rw [hj]; rfl
  have a1 := a.un j
  have l1 : (Γ.set j Sl.un).length = Γ.length := by simp
  have hlj : j < Γ.length := ne_len (by rw [hj]; exact fun z => nomatch z)
  have gj : ∀ k, (gS (Γ.set j .un) k).own = true → gE ρ k ≠ some (.r n) := fun k hk e => by
    rw [gS_set] at hk
    split at hk
    · cases hk
    · rename_i h
      exact h ⟨a.nd j k n ho hk h1 e, hlj⟩
  refine ⟨a.big, a.pre, by simpa using a.len, fun k => ?_, fun k m n' k1 k2 e3 e4 => ?_⟩
  · rw [gS_set, gE_set, l1, a.len]
    split
    · exact ⟨n, h1, h2, h3⟩
    · exact a1.slot k
  · rw [gS_set, l1] at k1 k2
    rw [gE_set, a.len] at e3 e4
    by_cases c1 : i = k ∧ i < Γ.length <;> by_cases c2 : i = m ∧ i < Γ.length
    · rw [← c1.1, c2.1]
    · rw [if_pos c1] at e3
      rw [if_neg c2] at k2 e4
      rw [h1] at e3
      cases e3
      exact absurd e4 (gj m k2)
    · rw [if_pos c2] at e4
      rw [if_neg c1] at k1 e3
      rw [h1] at e4
      cases e4
      exact absurd e3 (gj k k1)
    · rw [if_neg c1] at k1 e3
      rw [if_neg c2] at k2 e4
      exact a1.nd k m n' k1 k2 e3 e4
/-! ### statements -/
/-- how a statement ends: onward; onward or by continue, some slots forgotten; with a value; by break -/
inductive Out where
  | nx (P : Sto) (Γ : List Sl) | fin (ct : Bool) (is : List Nat) (P : Sto) (Γ : List Sl) | rt (P : Sto) (x : T) | bk (is : List Nat) (P : Sto) (Γ : List Sl)
def Out.holds (o : O) : Out → Prop
  | .nx P Γ => ∃ ρ' S', o = .nx ρ' S' ∧ Ag P Γ ρ' S'
  | .fin ct is P Γ => ∃ ρ' S' Γ', (o = .nx ρ' S' ∨ (ct = true ∧ o = .ct ρ' S')) ∧ Ag P Γ' ρ' S' ∧ forget Γ' is = Γ
  | .bk is P Γ => ∃ ρ' S' Γ', o = .bk ρ' S' ∧ Ag P Γ' ρ' S' ∧ forget Γ' is = Γ
  | .rt P x => ∃ w S', o = .rt w S' ∧ (∃ C, S' = P ++ C) ∧ (w = .t x ∨ ∃ n c, w = .r n ∧ P.length ≤ n ∧ S'[n]? = some c ∧ c.tree = some x)
def JS (P : Sto) (Γ : List Sl) (g : Sx) (o : Out) : Prop := ∀ ρ S, Ag P Γ ρ S → o.holds (g ρ S)
theorem js_nil : JS P Γ sNil (.nx P Γ) := fun ρ S a => ⟨ρ, S, rfl, a⟩
theorem js_pass : JS P Γ sPass (.nx P Γ) := fun ρ S a => ⟨ρ, S, rfl, a⟩
theorem js_cons {o : Out} (h1 : JS P Γ g1 (.nx P1 Γ1)) (h2 : JS P1 Γ1 g2 o) : JS P Γ (sCons g1 g2) o := by
  intro ρ S a
  obtain ⟨ρ1, S1, e1, a1⟩ := h1 ρ S a
  unfold sCons
  rw [e1]
  exact h2 ρ1 S1 a1
/-- join of two ways -/
theorem js_consJ {o : Out} {is : List Nat} (h1 : JS P Γ g1 (.fin false is P1 Γ1)) (h2 : JS P1 Γ1 g2 o) : JS P Γ (sCons g1 g2) o := by
  intro ρ S a
  obtain ⟨ρ1, S1, Γ', e1, a1, rfl⟩ := h1 ρ S a
  have e1 : g1 ρ S = .nx ρ1 S1 := by
    rcases e1 with e1 | ⟨e1, _⟩
    · exact e1
    · cases e1
  unfold sCons
  rw [e1]
  exact h2 ρ1 S1 (a1.forget is)
/-- the block ends ahead of its end -/
theorem js_consR {x : T} (h1 : JS P Γ g1 (.rt P1 x)) : JS P Γ (sCons g1 g2) (.rt P1 x) := by
  intro ρ S a
  obtain ⟨w, S1, e1, k⟩ := h1 ρ S a
  exact ⟨w, S1, by unfold sCons; rw [e1], k⟩
theorem js_consB {is : List Nat} (h1 : JS P Γ g1 (.bk is P1 Γ1)) : JS P Γ (sCons g1 g2) (.bk is P1 Γ1) := by
  intro ρ S a
  obtain ⟨ρ1, S1, Γ', e1, k⟩ := h1 ρ S a
  exact ⟨ρ1, S1, Γ', by unfold sCons; rw [e1], k⟩
/-- .. by continue -/
inductive CtEnd (P : Sto) (Γ : List Sl) (g : Sx) (is : List Nat) (P1 : Sto) (Γ1 : List Sl) : Prop where
  | mk : (∀ ρ S, Ag P Γ ρ S → ∃ ρ' S' Γ', g ρ S = .ct ρ' S' ∧ Ag P1 Γ' ρ' S' ∧ forget Γ' is = Γ1) → CtEnd P Γ g is P1 Γ1
theorem ct_cont {is : List Nat} (e : forget Γ is = Γ1) : CtEnd P Γ sCont is P Γ1 := ⟨fun ρ S a => ⟨ρ, S, Γ, rfl, a, e⟩⟩
theorem ct_cons {is : List Nat} (h1 : JS P Γ g1 (.nx P1 Γ1)) (h2 : CtEnd P1 Γ1 g2 is P2 Γ2) : CtEnd P Γ (sCons g1 g2) is P2 Γ2 := by
  obtain ⟨h2⟩ := h2
  refine ⟨fun ρ S a => ?_⟩
  obtain ⟨ρ1, S1, e1, a1⟩ := h1 ρ S a
  unfold sCons
  rw [e1]
  exact h2 ρ1 S1 a1
theorem ct_consL {is : List Nat} (h1 : CtEnd P Γ g1 is P1 Γ1) : CtEnd P Γ (sCons g1 g2) is P1 Γ1 := by
  obtain ⟨h1⟩ := h1
  refine ⟨fun ρ S a => ?_⟩
  obtain ⟨ρ1, S1, Γ', e1, k⟩ := h1 ρ S a
  exact ⟨ρ1, S1, Γ', by unfold sCons; rw [e1], k⟩
theorem ct_ifT {is : List Nat} (hc : JC P Γ t P1 Γ1 b) (hb : b = true) (h : CtEnd P1 Γ1 g1 is P2 Γ2) : CtEnd P Γ (sIf t g1 g2) is P2 Γ2 := by
  subst hb
  obtain ⟨h⟩ := h
  refine ⟨fun ρ S a => ?_⟩
  obtain ⟨S1, e1, a1, r1⟩ := hc ρ S a
  unfold sIf
  rw [e1]
  exact h ρ S1 a1
theorem ct_ifF {is : List Nat} (hc : JC P Γ t P1 Γ1 b) (hb : b = false) (h : CtEnd P1 Γ1 g2 is P2 Γ2) : CtEnd P Γ (sIf t g1 g2) is P2 Γ2 := by
  subst hb
  obtain ⟨h⟩ := h
  refine ⟨fun ρ S a => ?_⟩
  obtain ⟨S1, e1, a1, r1⟩ := hc ρ S a
  unfold sIf
  rw [e1]
  exact h ρ S1 a1
theorem js_ct {is : List Nat} (h : CtEnd P Γ g is P1 Γ1) : JS P Γ g (.fin true is P1 Γ1) := by
  obtain ⟨h⟩ := h
  intro ρ S a
  obtain ⟨ρ', S', Γ', e, a', k⟩ := h ρ S a
  exact ⟨ρ', S', Γ', .inr ⟨rfl, e⟩, a', k⟩
theorem js_fin {ct : Bool} {is : List Nat} (h : JS P Γ g (.nx P1 Γ1)) (e : forget Γ1 is = Γ2) : JS P Γ g (.fin ct is P1 Γ2) := by
  intro ρ S a
  obtain ⟨ρ', S', e1, a'⟩ := h ρ S a
  exact ⟨ρ', S', Γ1, .inl e1, a', e⟩
theorem js_break {is : List Nat} (e : forget Γ is = Γ1) : JS P Γ sBreak (.bk is P Γ1) := fun ρ S a => ⟨ρ, S, Γ, rfl, a, e⟩
theorem js_ret (h : JX P Γ f P1 Γ1 v) (e : tv Γ1 v = some x := by rfl) : JS P Γ (sRet f) (.rt P1 x) := by
  intro ρ S a
  obtain ⟨w, S1, e1, a1, k1, r1⟩ := h ρ S a
  exact ⟨w, S1, by unfold sRet; rw [e1]; rfl, a1.pre, .inl (tv_tree a1 k1 e)⟩
/-- an own cell is handed back -/
theorem js_retB (h : gS Γ i = .bx c := by rfl) (e : c.tree = some x := by rfl) : JS P Γ (sRet (eVar i)) (.rt P x) := by
  intro ρ S a
  have q := a.slot i
  rw [h] at q
  obtain ⟨n, h1, h2, h3⟩ := q
  exact ⟨.r n, S, by unfold sRet; rw [var_eq, h1]; rfl, a.pre, .inr ⟨n, c, rfl, h2, h3, e⟩⟩
theorem js_retC {x : T} (h : JN P Γ f P1 Γ1 c) (e : c.tree = some x := by rfl) : JS P Γ (sRet f) (.rt P1 x) := by
  intro ρ S a
  obtain ⟨S1, e1, a1, r1⟩ := h ρ S a
  obtain ⟨C, hC⟩ := a1.pre
  exact ⟨_, _, by unfold sRet; rw [e1]; rfl, ⟨C ++ [c], by rw [hC, List.append_assoc]⟩, .inr ⟨_, c, rfl, by rw [hC]; simp, by simp, e⟩⟩
theorem js_retN : JS P Γ sRetN (.rt P .non) := fun ρ S a => ⟨_, S, rfl, a.pre, .inl rfl⟩
theorem js_expr (h : JX P Γ f P1 Γ1 v) : JS P Γ (sExpr f) (.nx P1 Γ1) := by
  intro ρ S a
  obtain ⟨w, S1, e1, a1, k1, r1⟩ := h ρ S a
  exact ⟨ρ, S1, by unfold sExpr; rw [e1]; rfl, a1⟩
theorem js_set (h : JX P Γ f P1 Γ1 v) (i : Nat) (e : tv Γ1 v = some x := by rfl) : JS P Γ (sSet i f) (.nx P1 (Γ1.set i (.tr x))) := by
  intro ρ S a
  obtain ⟨w, S1, e1, a1, k1, r1⟩ := h ρ S a
  have := tv_tree a1 k1 e
  subst this
  exact ⟨_, S1, by unfold sSet; rw [e1]; rfl, a1.set (s := .tr x) (o := some (.t x)) rfl rfl i⟩
theorem js_setN (h : JN P Γ f P1 Γ1 c) (i : Nat) : JS P Γ (sSet i f) (.nx P1 (Γ1.set i (.bx c))) := by
  intro ρ S a
  obtain ⟨S1, e1, a1, r1⟩ := h ρ S a
  exact ⟨_, _, by unfold sSet; rw [e1]; rfl, a1.box c i⟩
theorem js_move (i : Nat) (hij : i ≠ j := by decide) (h : gS Γ j = .bx c := by rfl) : JS P Γ (sSet i (eVar j)) (.nx P ((Γ.set j .un).set i (.bx c))) := by
  intro ρ S a
  have q := a.slot j
  rw [h] at q
  obtain ⟨n, h1, h2, h3⟩ := q
  refine ⟨_, S, ?_, a.move hij h⟩
  unfold sSet
  rw [var_eq, h1]; rfl
theorem js_ifT {o : Out} (hc : JC P Γ t P1 Γ1 b) (hb : b = true) (h : JS P1 Γ1 g1 o) : JS P Γ (sIf t g1 g2) o := by
  subst hb
  intro ρ S a
  obtain ⟨S1, e1, a1, r1⟩ := hc ρ S a
  unfold sIf
  rw [e1]
  exact h ρ S1 a1
theorem js_ifF {o : Out} (hc : JC P Γ t P1 Γ1 b) (hb : b = false) (h : JS P1 Γ1 g2 o) : JS P Γ (sIf t g1 g2) o := by
  subst hb
  intro ρ S a
  obtain ⟨S1, e1, a1, r1⟩ := hc ρ S a
  unfold sIf
  rw [e1]
  exact h ρ S1 a1
/-! ### several values at once -/
def free (Γ : List Sl) (ρ : Env) (n : Nat) : Prop := ∀ i, (gS Γ i).own = true → gE ρ i ≠ some (.r n)
theorem Ag.fresh {n : Nat} (a : Ag P Γ ρ S) (h : S.length ≤ n) : free Γ ρ n := fun i hi e => by
  have := (a.own_lt hi e).2
  omega
/-- an own cell that no slot has gets one -/
theorem Ag.take {n : Nat} (a : Ag P Γ ρ S) (hf : free Γ ρ n) (hP : P.length ≤ n) (hc : S[n]? = some c) (i : Nat) : Ag P (Γ.set i (.bx c)) (ρ.set i (some (.r n))) S := by
  refine ⟨a.big, a.pre, by simpa using a.len, fun k => ?_, fun k m n' h1 h2 h3 h4 => ?_⟩
  · rw [gS_set, gE_set, a.len]
    split
    · exact ⟨n, rfl, hP, hc⟩
    · exact a.slot k
  · rw [gE_set, a.len] at h3 h4
    rw [gS_set] at h1 h2
    by_cases e1 : i = k ∧ i < Γ.length <;> by_cases e2 : i = m ∧ i < Γ.length
    · rw [← e1.1, e2.1]
    · rw [if_pos e1] at h3
      rw [if_neg e2] at h2 h4
      cases h3
      exact absurd h4 (hf m h2)
    · rw [if_pos e2] at h4
      rw [if_neg e1] at h1 h3
      cases h4
      exact absurd h3 (hf k h1)
    · rw [if_neg e1] at h1 h3
      rw [if_neg e2] at h2 h4
      exact a.nd k m n' h1 h2 h3 h4
/-- values on their way to slots; n0 the least number of a new cell -/
def Pend (P : Sto) (Γ : List Sl) (ρ : Env) (S : Sto) : Nat → List Sl → List W → Prop
  | _, [], [] => True
  | n0, .tr x :: ss, w :: ws => w = .t x ∧ Pend P Γ ρ S n0 ss ws
  | n0, .bx c :: ss, w :: ws => ∃ n, w = .r n ∧ n0 ≤ n ∧ P.length ≤ n ∧ S[n]? = some c ∧ free Γ ρ n ∧ Pend P Γ ρ S (n + 1) ss ws
  | _, _, _ => False
def JAS (P : Sto) (Γ : List Sl) (fs : Exs) (P' : Sto) (Γ' : List Sl) (ss : List Sl) : Prop := ∀ ρ S, Ag P Γ ρ S → ∃ ws S', fs ρ S = .ok ws S' ∧ Ag P' Γ' ρ S' ∧ Pend P' Γ' ρ S' S.length ss ws ∧ Fr Γ Γ' ρ S S'
theorem Pend.less {m n : Nat} (h : m ≤ n) : ∀ {ss : List Sl} {ws : List W}, Pend P Γ ρ S n ss ws → Pend P Γ ρ S m ss ws
  | [], [], _ => trivial
  | .tr _ :: ss, _ :: ws, q => ⟨q.1, Pend.less h q.2⟩
  | .bx _ :: ss, _ :: ws, ⟨k, q1, q2, q3⟩ => ⟨k, q1, Nat.le_trans h q2, q3⟩
  | [], _ :: _, q => q.elim
  | .un :: _, ws, q => by cases ws <;> exact q.elim
  | .vw _ :: _, ws, q => by cases ws <;> exact q.elim
  | .bn _ _ :: _, ws, q => by cases ws <;> exact q.elim
  | .dk :: _, ws, q => by cases ws <;> exact q.elim
  | .tr _ :: _, [], q => q.elim
  | .bx _ :: _, [], q => q.elim
theorem jas_nil : JAS P Γ aNil P Γ [] := fun ρ S a => ⟨_, S, rfl, a, trivial, .refl⟩
theorem jas_t {ss : List Sl} (h : JX P Γ f P1 Γ1 v) (h2 : JAS P1 Γ1 fs P2 Γ2 ss) (e : tv Γ1 v = some x := by rfl) : JAS P Γ (aCons f fs) P2 Γ2 (.tr x :: ss) := by
  intro ρ S a
  obtain ⟨w, S1, e1, a1, k1, r1⟩ := h ρ S a
  have := tv_tree a1 k1 e
  subst this
  obtain ⟨ws, S2, e2, a2, q2, r2⟩ := h2 ρ S1 a1
  exact ⟨.t x :: ws, S2, by rw [ap_aCons, e1, bind_ok', e2]; rfl, a2, ⟨rfl, q2.less r1.le⟩, r1.trans r2⟩
theorem jas_n {ss : List Sl} (h : JN P Γ f P1 Γ1 c) (h2 : JAS P1 Γ1 fs P2 Γ2 ss) (hP : P2.length = P1.length := by rfl) : JAS P Γ (aCons f fs) P2 Γ2 (.bx c :: ss) := by
  intro ρ S a
  obtain ⟨S1, e1, a1, r1⟩ := h ρ S a
  have a1' := a1.new c
  obtain ⟨ws, S2, e2, a2, q2, r2⟩ := h2 ρ _ a1'
  obtain ⟨C, hC⟩ := a1.pre
  have hl : P1.length ≤ S1.length := by rw [hC]; simp
  have rn : Fr Γ1 Γ1 ρ S1 (S1 ++ [c]) := ⟨by simp, fun n c' h _ _ => by rw [List.getElem?_append_left (get_lt h)]; exact h, fun _ h => h⟩
  have fr : free Γ1 ρ S1.length := a1.fresh (Nat.le_refl _)
  refine ⟨.r S1.length :: ws, S2, by rw [ap_aCons, e1, bind_ok', e2]; rfl, a2, ⟨S1.length, rfl, r1.le, by rw [hP]; exact hl, r2.eq _ c (by simp) (Nat.le_trans a1.big hl) fr, fun i hi => fr i (r2.sub i hi), ?_⟩, (r1.trans rn).trans r2⟩
  have := q2
  simp at this
  exact this
/-- .. are put where they belong -/
def putAll (Γ : List Sl) : List Nat → List Sl → List Sl
  | i :: is, s :: ss => putAll (Γ.set i s) is ss
  | _, _ => Γ
def putAllE (ρ : Env) : List Nat → List W → Env
  | i :: is, w :: ws => putAllE (ρ.set i (some w)) is ws
  | _, _ => ρ
theorem Pend.slot {n0 n : Nat} {o : Option W} {s : Sl} (i : Nat) (hs : (s.own = true → ∀ k, n0 ≤ k → o ≠ some (.r k))) : ∀ {ss : List Sl} {ws : List W}, n0 ≤ n → Pend P Γ ρ S n ss ws → ρ.length = Γ.length → Pend P (Γ.set i s) (ρ.set i o) S n ss ws
  | [], [], _, _, _ => trivial
  | .tr _ :: ss, _ :: ws, hn, q, hl => ⟨q.1, Pend.slot i hs hn q.2 hl⟩
  | .bx _ :: ss, _ :: ws, hn, ⟨k, q1, q2, q3, q4, q5, q6⟩, hl => by
    refine ⟨k, q1, q2, q3, q4, fun m hm e => ?_, Pend.slot i hs (by omega) q6 hl⟩
    rw [gS_set] at hm
    rw [gE_set, hl] at e
    split at hm
    · rename_i h
      rw [if_pos h] at e
      exact hs hm k (by omega) e
    · rename_i h
      rw [if_neg h] at e
      exact q5 m hm e
  | [], _ :: _, _, q, _ => q.elim
  | .un :: _, ws, _, q, _ => by cases ws <;> exact q.elim
  | .vw _ :: _, ws, _, q, _ => by cases ws <;> exact q.elim
  | .bn _ _ :: _, ws, _, q, _ => by cases ws <;> exact q.elim
  | .dk :: _, ws, _, q, _ => by cases ws <;> exact q.elim
  | .tr _ :: _, [], _, q, _ => q.elim
  | .bx _ :: _, [], _, q, _ => q.elim
theorem putAll_ag : ∀ {is : List Nat} {n : Nat} {ss : List Sl} {ws : List W} {Γ : List Sl} {ρ : Env}, Ag P Γ ρ S → Pend P Γ ρ S n ss ws → Ag P (putAll Γ is ss) (putAllE ρ is ws) S
  | [], _, ss, ws, _, _, a, q => by cases ss <;> cases ws <;> exact a
  | _ :: _, _, [], ws, _, _, a, q => by cases ws; exact a; exact q.elim
  | i :: is, n, .tr x :: ss, w :: ws, Γ, ρ, a, q => by
    obtain ⟨rfl, q2⟩ := q
    show Ag P (putAll (Γ.set i (.tr x)) is ss) (putAllE (ρ.set i (some (.t x))) is ws) S
    exact putAll_ag (is := is) (Γ := Γ.set i (.tr x)) (a.set (s := .tr x) (o := some (.t x)) rfl rfl i) (q2.slot (n0 := n) i (fun h => by cases h) (Nat.le_refl _) a.len)
  | i :: is, n, .bx c :: ss, w :: ws, Γ, ρ, a, ⟨k, q1, q2, q3, q4, q5, q6⟩ => by
    subst q1
    show Ag P (putAll (Γ.set i (.bx c)) is ss) (putAllE (ρ.set i (some (.r k))) is ws) S
    exact putAll_ag (is := is) (Γ := Γ.set i (.bx c)) (a.take q5 q3 q4 i) (q6.slot (n0 := k + 1) i (fun _ m hm (e : some (W.r k) = some (W.r m)) => by cases e; omega) (Nat.le_refl _) a.len)
  | _ :: _, _, .tr _ :: _, [], _, _, _, q => q.elim
  | _ :: _, _, .bx _ :: _, [], _, _, _, q => q.elim
  | _ :: _, _, .un :: _, ws, _, _, _, q => by cases ws <;> exact q.elim
  | _ :: _, _, .vw _ :: _, ws, _, _, _, q => by cases ws <;> exact q.elim
  | _ :: _, _, .bn _ _ :: _, ws, _, _, _, q => by cases ws <;> exact q.elim
  | _ :: _, _, .dk :: _, ws, _, _, _, q => by cases ws <;> exact q.elim
theorem Pend.len : ∀ {n : Nat} {ss : List Sl} {ws : List W}, Pend P Γ ρ S n ss ws → ws.length = ss.length
  | _, [], [], _ => rfl
  | _, .tr _ :: ss, _ :: ws, q => by rw [List.length_cons, List.length_cons, Pend.len q.2]
  | _, .bx _ :: ss, _ :: ws, ⟨_, _, _, _, _, _, q⟩ => by rw [List.length_cons, List.length_cons, Pend.len q]
  | _, [], _ :: _, q => q.elim
  | _, .un :: _, ws, q => by cases ws <;> exact q.elim
  | _, .vw _ :: _, ws, q => by cases ws <;> exact q.elim
  | _, .bn _ _ :: _, ws, q => by cases ws <;> exact q.elim
  | _, .dk :: _, ws, q => by cases ws <;> exact q.elim
  | _, .tr _ :: _, [], q => q.elim
  | _, .bx _ :: _, [], q => q.elim
theorem js_par {s1 s2 : Sl} (i j : Nat) (h : JAS P Γ fs P1 Γ1 [s1, s2]) : JS P Γ (sPar i j fs) (.nx P1 ((Γ1.set i s1).set j s2)) := by
  intro ρ S a
  obtain ⟨ws, S1, e1, a1, q1, r1⟩ := h ρ S a
  have hl := q1.len
  match ws, hl with
  | [w, u], _ => exact ⟨_, S1, by unfold sPar; rw [e1]; rfl, putAll_ag (is := [i, j]) a1 q1⟩
theorem js_par3 {s1 s2 s3 : Sl} (i j k : Nat) (h : JAS P Γ fs P1 Γ1 [s1, s2, s3]) : JS P Γ (sPar3 i j k fs) (.nx P1 (((Γ1.set i s1).set j s2).set k s3)) := by
  intro ρ S a
  obtain ⟨ws, S1, e1, a1, q1, r1⟩ := h ρ S a
  have hl := q1.len
  match ws, hl with
  | [w, u, z], _ => exact ⟨_, S1, by unfold sPar3; rw [e1]; rfl, putAll_ag (is := [i, j, k]) a1 q1⟩
theorem bindWs_nms : ∀ (is : List Nat) (ws : List W) (ρ : Env), is.length = ws.length → bindWs (is.map Pat.nm) ws ρ = some (putAllE ρ is ws)
  | [], [], ρ, _ => rfl
  | i :: is, w :: ws, ρ, h => by
    rw [List.map_cons, bindWs, bindW, Option.bind_some, bindWs_nms is ws _ (by simpa using h)]; rfl
  | [], _ :: _, _, h => by cases h
  | _ :: _, [], _, h => by cases h
theorem js_many {ss : List Sl} (is : List Nat) (h : JAS P Γ fs P1 Γ1 ss) (hl : is.length = ss.length := by rfl) (hc : ss.length ≤ cap := by decide) : JS P Γ (sMany fs is) (.nx P1 (putAll Γ1 is ss)) := by
  intro ρ S a
  obtain ⟨ws, S1, e1, a1, q1, r1⟩ := h ρ S a
  have hw := q1.len
  refine ⟨_, S1, ?_, putAll_ag (is := is) a1 q1⟩
  unfold sMany
  rw [e1]
  show (if ws.length ≤ cap then _ else _) = _
  rw [if_pos (by rw [hw]; exact hc), bindWs_nms is ws ρ (by rw [hw]; exact hl)]
/-- a, b, .. = e -/
theorem pend_trees : ∀ (n : Nat) (xs : List T), Pend P Γ ρ S n (xs.map Sl.tr) (xs.map W.t)
  | _, [] => trivial
  | n, _ :: xs => ⟨rfl, pend_trees n xs⟩
theorem js_unp {xs : List T} (h : JX P Γ f P1 Γ1 v) (is : List Nat) (e : tv Γ1 v = some (.tup xs) := by rfl) (hl : is.length = xs.length := by rfl) : JS P Γ (sAsg f (gPat (.tp (is.map Pat.nm)))) (.nx P1 (putAll Γ1 is (xs.map Sl.tr))) := by
  intro ρ S a
  obtain ⟨w, S1, e1, a1, k1, r1⟩ := h ρ S a
  have := tv_tree a1 k1 e
  subst this
  refine ⟨_, S1, ?_, putAll_ag (is := is) a1 (pend_trees 0 xs)⟩
  unfold sAsg gPat
  rw [e1]
  show thenS (R.of (bindW _ (.t (.tup xs)) ρ) S1) _ = _
  rw [bindW, bindWs_nms is _ ρ (by simpa using hl)]
  rfl
end
end Dl
/-! Dm3: defs and their calls, methods, loops, comprehensions. -/
namespace Dl
open PySem
/-! ### defs -/
/-- how an argument is handed over: a tree; a word that reads as a tree; the deck -/
inductive Ak where
  | t (x : T) | v (x : T) | d
def AkOk (S : Sto) : Ak → W → Prop
  | .t x, w => w = .t x
  | .v x, w => Vw S w x
  | .d, w => w = .r 2
def AksOk (S : Sto) : List Ak → List W → Prop
  | [], [] => True
  | k :: ks, w :: ws => AkOk S k w ∧ AksOk S ks ws
  | _, _ => False
def Ak.sl : Ak → Sl
  | .t x => .tr x
  | .v x => .vw x
  | .d => .dk
def isDk : Sl → Bool
  | .dk => true
  | _ => false
def vDk (Γ : List Sl) : Vl → Bool
  | .s i => isDk (gS Γ i)
  | _ => false
/-- the values are what is asked -/
def Fit (Γ : List Sl) : List Vl → List Ak → Prop
  | [], [] => True
  | v :: vs, .t x :: ks => tv Γ v = some x ∧ Fit Γ vs ks
  | v :: vs, .v x :: ks => lv Γ v = some x ∧ Fit Γ vs ks
  | v :: vs, .d :: ks => vDk Γ v = true ∧ Fit Γ vs ks
  | _, _ => False
structure FnP (den : Den) (ks : List Ak) (z : T) : Prop where
  run : ∀ (S : Sto) (ws : List W), 3 ≤ S.length → AksOk S ks ws → den ws S = .ok (.t z) S
structure FnD (den : Den) (ks : List Ak) (δ δ' : Deck) (z : T) : Prop where
  run : ∀ (Z : Sto) (ws : List W), AksOk (dk δ Z) ks ws → den ws (dk δ Z) = .ok (.t z) (dk δ' Z)
section
variable {P P1 P2 P3 P' S S' : Sto} {Γ Γ0 Γ1 Γ2 Γ3 Γ' : List Sl} {ρ ρ' : Env} {f fa fb fc : Ex} {fs : Exs} {t u : Tx} {v v1 v2 v3 : Vl} {vs : List Vl} {x y z : T} {xs : List T} {b : Bool} {i j n N : Nat} {c : Cell} {g g1 g2 : Sx} {ks : List Ak} {δ δ' : Deck} {Z : Sto} {den : Den}
theorem fit_ok (a : Ag P Γ ρ S) : ∀ {vs : List Vl} {ws : List W} {ks : List Ak}, VlsOk ρ vs ws → Fit Γ vs ks → AksOk S ks ws
  | [], [], [], _, _ => trivial
  | v :: vs, w :: ws, .t x :: ks, h, e => ⟨tv_tree a h.1 e.1, fit_ok a h.2 e.2⟩
  | v :: vs, w :: ws, .v x :: ks, h, e => ⟨lv_vw a h.1 e.1, fit_ok a h.2 e.2⟩
  | .s i :: vs, w :: ws, .d :: ks, h, e => by
    refine ⟨?_, fit_ok a h.2 e.2⟩
    have q := a.slot i
    have e1 : isDk (gS Γ i) = true := e.1
    have h1 : gE ρ i = some w := h.1
    cases hs : gS Γ i with
    | dk => rw [hs, h1] at q; cases q; rfl
    | _ => rw [hs] at e1; cases e1
  | .t _ :: _, _ :: _, .d :: _, _, e => by cases e.1
  | [], _ :: _, _, h, _ => h.elim
  | _ :: _, [], _, h, _ => h.elim
  | [], [], _ :: _, _, e => e.elim
  | _ :: _, _ :: _, [], _, e => e.elim
theorem fit_len : ∀ {vs : List Vl} {ks : List Ak}, Fit Γ vs ks → vs.length = ks.length
  | [], [], _ => rfl
  | _ :: _, .t _ :: _, h => by rw [List.length_cons, List.length_cons, fit_len h.2]
  | _ :: _, .v _ :: _, h => by rw [List.length_cons, List.length_cons, fit_len h.2]
  | _ :: _, .d :: _, h => by rw [List.length_cons, List.length_cons, fit_len h.2]
  | [], _ :: _, h => h.elim
  | _ :: _, [], h => h.elim
theorem vls_len : ∀ {vs : List Vl} {ws : List W}, VlsOk ρ vs ws → ws.length = vs.length
  | [], [], _ => rfl
  | _ :: _, _ :: _, h => by rw [List.length_cons, List.length_cons, vls_len h.2]
  | [], _ :: _, h => h.elim
  | _ :: _, [], h => h.elim
theorem aks_len : ∀ {ks : List Ak} {ws : List W}, AksOk S ks ws → ws.length = ks.length
  | [], [], _ => rfl
  | _ :: _, _ :: _, h => by rw [List.length_cons, List.length_cons, aks_len h.2]
  | [], _ :: _, h => h.elim
  | _ :: _, [], h => h.elim
/-- the start -/
def startG (ks : List Ak) (m : Nat) : List Sl := ks.map Ak.sl ++ List.replicate m .un
theorem gS_un : ∀ (m i : Nat), gS (List.replicate m Sl.un) i = .un
  | 0, _ => rfl
  | m + 1, 0 => rfl
  | m + 1, i + 1 => by rw [List.replicate_succ, gS, gS_un m i]
theorem start_len : ∀ (ks : List Ak) (m : Nat), (startG ks m).length = ks.length + m
  | ks, m => by simp [startG]
theorem gS_start : ∀ (ks : List Ak) (m i : Nat), (gS (startG ks m) i).own = false
  | [], m, i => by show (gS (List.replicate m .un) i).own = false; rw [gS_un]; rfl
  | k :: ks, m, 0 => by cases k <;> rfl
  | _ :: ks, m, i + 1 => gS_start ks m i
theorem start_slot {m : Nat} : ∀ {ks : List Ak} {ws : List W}, AksOk S ks ws → ∀ i, SlOk S S (gE (ws.map some ++ List.replicate m none) i) (gS (startG ks m) i)
  | [], [], _, i => by show SlOk S S _ (gS (List.replicate m .un) i); rw [gS_un]; trivial
  | [], _ :: _, h, _ => h.elim
  | _ :: _, [], h, _ => h.elim
  | .t x :: ks, w :: ws, h, 0 => congrArg some h.1
  | .v x :: ks, w :: ws, h, 0 => ⟨w, rfl, h.1⟩
  | .d :: ks, w :: ws, h, 0 => congrArg some h.1
  | k :: ks, w :: ws, h, i + 1 => start_slot h.2 i
theorem start_ag {ws : List W} {m : Nat} (h3 : 3 ≤ S.length) (h : AksOk S ks ws) : Ag S (startG ks m) (envOf (ks.length + m) ws) S := by
  have hl := aks_len h
  have e : envOf (ks.length + m) ws = ws.map some ++ List.replicate m none := by
    unfold envOf
    rw [show ks.length + m - ws.length = m by omega]
  refine ⟨h3, ⟨[], by simp⟩, by rw [e, start_len]; simp [hl], fun i => by rw [e]; exact start_slot h i, fun i j n h1 _ _ _ => ?_⟩
  rw [gS_start] at h1
  cases h1
theorem finW_ok {C : Sto} {w : W} {x : T} (hS : S' = P ++ C) (hl : P.length = S.length) (h : w = .t x ∨ ∃ n c, w = .r n ∧ P.length ≤ n ∧ S'[n]? = some c ∧ c.tree = some x) : finW S S' w = some (.t x) := by
  rcases h with h | ⟨n, c, h1, h2, h3, h4⟩
  · rw [h]; rfl
  · rw [h1]
    show (if n < S.length then some (W.r n) else (S'[n]?.bind Cell.tree).map W.t) = _
    rw [if_neg (by rw [← hl]; exact Nat.not_lt.mpr h2), h3]
    simp [h4]
theorem trunc_self (P C : Sto) : truncOk P (P ++ C) = true := truncOk_app P C
/-- a def that neither draws nor writes -/
theorem fnP_mk (n N : Nat) {m : Nat} (hn : ks.length = n := by rfl) (hN : n + m = N := by rfl) (h : ∀ P, JS P (startG ks m) g (.rt P z)) : FnP (fnF n N g) ks z := by
  refine ⟨fun S ws h3 ha => ?_⟩
  have hl := aks_len ha
  subst hN; subst hn
  obtain ⟨w, S', e, ⟨C, hC⟩, k⟩ := h S _ S (start_ag h3 ha)
  unfold fnF callF
  rw [if_pos hl, e]
  show (if truncOk S S' then R.of (finW S S' w) (S'.take S.length) else .no) = _
  rw [finW_ok hC rfl k, hC, trunc_self, if_pos rfl, List.take_left']
  rfl
  rfl
theorem fnP_mkN (n N : Nat) {m : Nat} (hn : ks.length = n := by rfl) (hN : n + m = N := by rfl) (h : ∀ P, ∃ Γ', JS P (startG ks m) g (.nx P Γ')) : FnP (fnF n N g) ks .non := by
  refine ⟨fun S ws h3 ha => ?_⟩
  have hl := aks_len ha
  subst hN; subst hn
  obtain ⟨Γ', h⟩ := h S
  obtain ⟨ρ', S', e, a'⟩ := h _ S (start_ag h3 ha)
  obtain ⟨C, hC⟩ := a'.pre
  unfold fnF callF
  rw [if_pos hl, e]
  show (if truncOk S S' then R.ok (W.t .non) (S'.take S.length) else .no) = _
  rw [hC, trunc_self, if_pos rfl, List.take_left']
  rfl
/-- a def that draws -/
theorem fnD_mk (n N : Nat) {m : Nat} (hn : ks.length = n := by rfl) (hN : n + m = N := by rfl) (h : ∀ Z, JS (dk δ Z) (startG ks m) g (.rt (dk δ' Z) z)) : FnD (fnF n N g) ks δ δ' z := by
  refine ⟨fun Z ws ha => ?_⟩
  have hl := aks_len ha
  subst hN; subst hn
  obtain ⟨w, S', e, ⟨C, hC⟩, k⟩ := h Z _ _ (start_ag (show 3 ≤ Z.length + 3 by omega) ha)
  unfold fnF callF
  rw [if_pos hl, e]
  show (if truncOk (dk δ Z) S' then R.of (finW (dk δ Z) S' w) (S'.take (dk δ Z).length) else .no) = _
  rw [finW_ok (S := dk δ Z) hC rfl k, hC, dk_trunc, if_pos rfl, dk_take]
  rfl
theorem j_fnP (h : JA P Γ fs P1 Γ1 vs) (r : FnP den ks z) (hk : Fit Γ1 vs ks) (hn : vs.length = n := by rfl) : JX P Γ (eFn n den fs) P1 Γ1 (.t z) := by
  intro ρ S a
  obtain ⟨ws, S1, e1, a1, q1, r1⟩ := h ρ S a
  obtain ⟨C, hC⟩ := a1.pre
  refine ⟨.t z, S1, ?_, a1, rfl, r1⟩
  unfold eFn
  rw [e1, bind_ok', if_pos ((vls_len q1).trans hn)]
  exact r.run S1 ws (by rw [hC]; simp; have := a1.big; omega) (fit_ok a1 q1 hk)
theorem dk_get3 {n : Nat} (h : 3 ≤ n) : (dk δ Z)[n]? = (dk δ' Z)[n]? := by
  obtain ⟨k, rfl⟩ : ∃ k, n = k + 3 := ⟨n - 3, by omega⟩
  rfl
theorem Ag.deck (a : Ag (dk δ Z) Γ ρ (dk δ Z ++ S)) (δ' : Deck) : Ag (dk δ' Z) Γ ρ (dk δ' Z ++ S) := by
  refine ⟨a.big, ⟨S, rfl⟩, a.len, fun k => ?_, a.nd⟩
  have q := a.slot k
  have g3 : ∀ n, (dk δ Z).length ≤ n → (dk δ' Z ++ S)[n]? = (dk δ Z ++ S)[n]? := fun n hn => by
    have e1 : (dk δ Z).length = Z.length + 3 := rfl
    have e2 : (dk δ' Z).length = Z.length + 3 := rfl
    rw [List.getElem?_append_right hn, List.getElem?_append_right (by omega)]
    rw [e1, e2]
  cases hs : gS Γ k with
  | un => trivial
  | tr y => rw [hs] at q; exact q
  | vw y =>
    rw [hs] at q
    obtain ⟨w, h1, h2⟩ := q
    refine ⟨w, h1, ?_⟩
    rcases h2 with h2 | ⟨n, c, e1, e2, e3, e4⟩
    · exact .inl h2
    · exact .inr ⟨n, c, e1, e2, by rw [← dk_get3 (δ := δ) e2]; exact e3, e4⟩
  | bx c => rw [hs] at q; obtain ⟨n, h1, h2, h3⟩ := q; exact ⟨n, h1, h2, by rw [g3 n h2]; exact h3⟩
  | bn n c => rw [hs] at q; obtain ⟨h1, h2, h3⟩ := q; exact ⟨h1, h2, by rw [g3 n h2]; exact h3⟩
  | dk => rw [hs] at q; exact q
theorem fr_deck : Fr Γ Γ ρ (dk δ Z ++ S) (dk δ' Z ++ S) := by
  refine ⟨by simp, fun n c h h3 _ => ?_, fun _ h => h⟩
  obtain ⟨k, rfl⟩ : ∃ k, n = k + 3 := ⟨n - 3, by omega⟩
  exact h
theorem j_fnD (h : JA P Γ fs (dk δ Z) Γ1 vs) (r : FnD den ks δ δ' z) (hk : Fit Γ1 vs ks) (hn : vs.length = n := by rfl) : JX P Γ (eFn n den fs) (dk δ' Z) Γ1 (.t z) := by
  intro ρ S a
  obtain ⟨ws, S1, e1, a1, q1, r1⟩ := h ρ S a
  obtain ⟨C, hC⟩ := a1.pre
  subst hC
  refine ⟨.t z, dk δ' Z ++ C, ?_, a1.deck δ', rfl, r1.trans fr_deck⟩
  unfold eFn
  rw [e1, bind_ok', if_pos ((vls_len q1).trans hn)]
  exact r.run (Z ++ C) ws (fit_ok a1 q1 hk)
/-! ### methods of own cells -/
def Sl.isL : Sl → Bool
  | .bx (.lst _) => true
  | .bx (.vec _) => true
  | _ => false
theorem fr_put {m : Nat} (a : Ag P Γ ρ S) (c c' : Cell) (hi : gS Γ i = .bx c) (e : gE ρ i = some (.r m)) : Fr Γ (Γ.set i (.bx c')) ρ S (S.set m c') := by
  have ho : (gS Γ i).own = true := by rw [hi]; rfl
  refine ⟨by simp, fun n c h h3 hf => ?_, fun k hk => ?_⟩
  · have : m ≠ n := fun z => hf i ho (z ▸ e)
    rw [List.getElem?_set_ne this]; exact h
  · rw [gS_set] at hk
    split at hk
    · rename_i h; rw [← h.1]; exact ho
    · exact hk
theorem j_m1 {k : Sto → Cell → W → Option (W × Cell)} {c' : Cell} {x' : T} (ha : JX P Γ fa P1 Γ1 v) (h0 : (gS Γ i).isL = true) (h1 : gS Γ1 i = .bx c) (hk : ∀ ρ S w, Ag P1 Γ1 ρ S → VlOk ρ v w → k S c w = some (.t x', c')) :
    JX P Γ (eM1 k (eVar i) fa) P1 (Γ1.set i (.bx c')) (.t x') := by
  intro ρ S a
  obtain ⟨w, S1, e1, a1, k1, r1⟩ := ha ρ S a
  have q := a1.slot i
  rw [h1] at q
  obtain ⟨m, m1, m2, m3⟩ := q
  have hlive : live S m = true := by
    have q0 := a.slot i
    cases hs : gS Γ i with
    | bx c0 =>
      rw [hs] at q0 h0
      obtain ⟨m', n1, n2, n3⟩ := q0
      rw [m1] at n1
      cases n1
      unfold live
      rw [n3]
      cases c0 <;> first | rfl | cases h0
    | _ => rw [hs] at h0; cases h0
  refine ⟨.t x', S1.set m c', ?_, a1.put c c' h1 m1, rfl, r1.trans (fr_put a1 c c' h1 m1)⟩
  unfold eM1
  rw [var_eq, m1]
  show (if live S m then _ else _) = _
  rw [if_pos hlive, e1, bind_ok', m3, Option.bind_some, hk ρ S1 w a1 k1]
theorem j_append {α : Type} (e : α → T) (xs : List α) (x : α) (ha : JX P Γ fa P1 Γ1 v) (hl : xs.length < 16777216) (h0 : (gS Γ i).isL = true := by rfl) (h1 : gS Γ1 i = .bx (.lst (xs.map e)) := by rfl) (h2 : tv Γ1 v = some (e x) := by rfl) :
    JX P Γ (eM1 kAppend (eVar i) fa) P1 (Γ1.set i (.bx (.lst ((xs ++ [x]).map e)))) (.t .non) :=
  j_m1 ha h0 h1 fun ρ S w a k => by
    have := tv_tree a k h2
    subst this
    unfold kAppend
    simp only
    rw [if_pos (by rw [List.length_map]; exact hl), List.map_append]; rfl
theorem j_extend {α : Type} (e : α → T) (xs ys : List α) (ha : JX P Γ fa P1 Γ1 v) (hl : xs.length + ys.length ≤ 16777216) (h0 : (gS Γ i).isL = true := by rfl) (h1 : gS Γ1 i = .bx (.lst (xs.map e)) := by rfl) (h2 : lv Γ1 v = some (.lst (ys.map e)) := by rfl) :
    JX P Γ (eM1 kExtend (eVar i) fa) P1 (Γ1.set i (.bx (.lst ((xs ++ ys).map e)))) (.t .non) :=
  j_m1 ha h0 h1 fun ρ S w a k => by
    unfold kExtend
    rw [lv_view a k h2]
    simp only
    rw [if_pos (by rw [List.length_map, List.length_map]; exact hl), List.map_append]
/-- xs.pop(k): what comes out, what is left -/
def popAt {α : Type} (xs : List α) (k : Int) : Option (α × List α) := if k.natAbs < 1000000000 then (L2.ixN xs.length k).bind fun j => (xs[j]?).map fun x => (x, xs.eraseIdx j) else none
theorem j_popAt {α : Type} (e : α → T) {xs ys : List α} {k : Int} {y : α} (ha : JX P Γ fa P1 Γ1 v) (hp : popAt xs k = some (y, ys)) (h0 : (gS Γ i).isL = true := by rfl) (h1 : gS Γ1 i = .bx (.lst (xs.map e)) := by rfl) (h2 : tv Γ1 v = some (.int k) := by rfl) :
    JX P Γ (eM1 kPopAt (eVar i) fa) P1 (Γ1.set i (.bx (.lst (ys.map e)))) (.t (e y)) :=
  j_m1 ha h0 h1 fun ρ S w a kk => by
    have := tv_tree a kk h2
    subst this
    unfold popAt at hp
    split at hp
    · rename_i hb
      unfold kPopAt
      simp only
      rw [if_pos hb, List.length_map]
      cases hx : L2.ixN xs.length k with
      | none => rw [hx] at hp; cases hp
      | some m =>
        rw [hx] at hp
        simp only [Option.bind_some] at hp ⊢
        rw [List.getElem?_map]
        cases hm : xs[m]? with
        | none => rw [hm] at hp; cases hp
        | some z => rw [hm] at hp; cases hp; simp [erase_map]
    · cases hp
/-- xs.remove(k) of ints -/
def remI (xs : List Int) (k : Int) : Option (List Int) := (placeOf k xs).map fun j => xs.eraseIdx j
theorem intsOf_ints (xs : List Int) : intsOf (xs.map T.int) = some xs := intsOf_map xs
theorem j_remove {xs ys : List Int} {k : Int} (ha : JX P Γ fa P1 Γ1 v) (hp : remI xs k = some ys) (h0 : (gS Γ i).isL = true := by rfl) (h1 : gS Γ1 i = .bx (.lst (xs.map T.int)) := by rfl) (h2 : tv Γ1 v = some (.int k) := by rfl) :
    JX P Γ (eM1 kRemove (eVar i) fa) P1 (Γ1.set i (.bx (.lst (ys.map T.int)))) (.t .non) :=
  j_m1 ha h0 h1 fun ρ S w a kk => by
    have := tv_tree a kk h2
    subst this
    unfold remI at hp
    unfold kRemove
    simp only
    rw [intsOf_ints, Option.bind_some]
    cases hx : placeOf k xs with
    | none => rw [hx] at hp; cases hp
    | some m => rw [hx] at hp; cases hp; rfl
/-- xs[k] = v, d[k] = v -/
theorem js_put {c' : Cell} {fi : Ex} (h1 : JX P Γ f P1 Γ1 v1) (h2 : JX P1 Γ1 fi P2 Γ2 v2) (i : Nat) (hp : c.put y (.t x) = some c') (k0 : (gS Γ1 i).known = true := by rfl) (k1 : gS Γ2 i = .bx c := by rfl) (k2 : tv Γ2 v1 = some x := by rfl) (k3 : lv Γ2 v2 = some y := by rfl) :
    JS P Γ (sAsg f (gSubD (eVar i) fi)) (.nx P2 (Γ2.set i (.bx c'))) := by
  intro ρ S a
  obtain ⟨w, S1, e1, a1, q1, r1⟩ := h1 ρ S a
  obtain ⟨w2, S2, e2, a2, q2, r2⟩ := h2 ρ S1 a1
  have := tv_tree a2 q1 k2
  subst this
  have q := a2.slot i
  rw [k1] at q
  obtain ⟨m, m1, m2, m3⟩ := q
  refine ⟨ρ, S2.set m c', ?_, a2.put c c' k1 m1⟩
  unfold sAsg gSubD
  rw [e1]
  show thenS ((eVar i ρ S1).bind _) _ = _
  rw [var_eq, m1]
  simp only [bind_ok', e2, lv_view a2 q2 k3, Option.bind_some, m3, hp, thenS_ok]
def setI {α : Type} (xs : List α) (k : Int) (x : α) : Option (List α) := (L2.ixN xs.length k).map fun j => xs.set j x
theorem js_putL {α : Type} (e : α → T) {xs ys : List α} {k : Int} {y : α} {fi : Ex} (h1 : JX P Γ f P1 Γ1 v1) (h2 : JX P1 Γ1 fi P2 Γ2 v2) (i : Nat) (hp : setI xs k y = some ys) (k0 : (gS Γ1 i).known = true := by rfl) (k1 : gS Γ2 i = .bx (.lst (xs.map e)) := by rfl) (k2 : tv Γ2 v1 = some (e y) := by rfl) (k3 : lv Γ2 v2 = some (.int k) := by rfl) :
    JS P Γ (sAsg f (gSubD (eVar i) fi)) (.nx P2 (Γ2.set i (.bx (.lst (ys.map e))))) := by
  refine js_put h1 h2 i ?_ k0 k1 k2 k3
  unfold setI at hp
  unfold Cell.put
  simp only
  rw [List.length_map]
  cases hx : L2.ixN xs.length k with
  | none => rw [hx] at hp; cases hp
  | some m => rw [hx] at hp; cases hp; simp [List.map_set]
end
end Dl
/-! Dm4: what is walked, loops, comprehensions. -/
namespace Dl
open PySem
/-! ### plain loops -/
inductive Fl (σ β : Type) where
  | nx (s : σ) | rt (v : β) | bk (s : σ)
def forO {α σ : Type} (F : α → σ → Option σ) : List α → σ → Option σ
  | [], s => some s
  | x :: xs, s => (F x s).bind (forO F xs)
/-- how a loop ends -/
inductive Lo (σ β : Type) where
  | go (s : σ) | rt (v : β)
def loK {σ β γ : Type} (r : Lo σ β) (kr : β → Option γ) (kn : σ → Option γ) : Option γ := match r with
  | .go s => kn s
  | .rt v => kr v
def forF {α σ β : Type} (F : α → σ → Option (Fl σ β)) : List α → σ → Option (Lo σ β)
  | [], s => some (.go s)
  | x :: xs, s => (F x s).bind fun r => match r with
    | .nx s => forF F xs s
    | .rt v => some (.rt v)
    | .bk s => some (.go s)
def whO {σ : Type} (C : σ → Option Bool) (B : σ → Option σ) : Nat → σ → Option σ
  | 0, _ => none
  | n + 1, s => (C s).bind fun b => cond b ((B s).bind (whO C B n)) (some s)
def whF {σ β : Type} (C : σ → Option Bool) (B : σ → Option (Fl σ β)) : Nat → σ → Option (Lo σ β)
  | 0, _ => none
  | n + 1, s => (C s).bind fun b => cond b ((B s).bind fun r => match r with
    | .nx s => whF C B n s
    | .rt v => some (.rt v)
    | .bk s => some (.go s)) (some (.go s))
def compO {α β : Type} (F : α → Option (Option β)) : List α → Option (List β)
  | [] => some []
  | x :: xs => (F x).bind fun o => (compO F xs).bind fun ys => some (match o with
    | some y => y :: ys
    | none => ys)
def compS {α β σ : Type} (F : α → σ → Option (Option β × σ)) : List α → σ → Option (List β × σ)
  | [], s => some ([], s)
  | x :: xs, s => (F x s).bind fun r => (compS F xs r.2).bind fun q => some ((match r.1 with
    | some y => y :: q.1
    | none => q.1), q.2)
theorem ob {α β : Type} {o : Option α} {k : α → Option β} {r : β} (h : o.bind k = some r) : ∃ a, o = some a ∧ k a = some r := by
  cases o with
  | none => cases h
  | some a => exact ⟨a, rfl, h⟩
theorem cd {α : Type} {c : Bool} {A B : Option α} {r : α} (h : cond c A B = some r) : (c = true ∧ A = some r) ∨ (c = false ∧ B = some r) := by
  cases c with
  | true => exact .inl ⟨rfl, h⟩
  | false => exact .inr ⟨rfl, h⟩
theorem compO_tot {α β : Type} (c : α → Bool) (y : α → β) : ∀ xs : List α, compO (fun x => some (cond (c x) (some (y x)) none)) xs = some ((xs.filter c).map y)
  | [] => rfl
  | x :: xs => by
    rw [compO, Option.bind_some, compO_tot c y xs]
    cases h : c x with
    | true => simp [h]
    | false => simp [h]
theorem compO_all {α β : Type} (y : α → β) : ∀ xs : List α, compO (fun x => some (some (y x))) xs = some (xs.map y)
  | [] => rfl
  | x :: xs => by rw [compO, Option.bind_some, compO_all y xs]; rfl
def chk (p : Prop) [Decidable p] : Option Unit := if p then some () else none
theorem chk_ok {p : Prop} [Decidable p] {u : Unit} (h : chk p = some u) : p := by
  unfold chk at h
  split at h
  · assumption
  · cases h
theorem chk_true {p : Prop} [Decidable p] (h : p) : chk p = some () := if_pos h
def rngL (lo hi : Int) : List Int := (List.range (hi - lo).toNat).map fun i => lo + (i : Nat)
def enumI {α : Type} (xs : List α) : List (Int × α) := ((List.range xs.length).zip xs).map fun p => (((p.1 : Nat) : Int), p.2)
/-! ### what is walked -/
def SameP (P P2 : Sto) : Prop := P.length = P2.length ∧ ∀ n, 3 ≤ n → P[n]? = P2[n]?
theorem SameP.refl {P : Sto} : SameP P P := ⟨rfl, fun _ _ => rfl⟩
theorem same_dk {δ δ' : Deck} {Z : Sto} : SameP (dk δ Z) (dk δ' Z) := ⟨rfl, fun _ h => dk_get3 h⟩
def JSrc (P : Sto) (Γ : List Sl) (src : Srcx) (P' : Sto) (Γ' : List Sl) (its : List Item) : Prop := ∀ ρ S, Ag P Γ ρ S → ∃ gd S', src ρ S = .ok ⟨its, gd⟩ S' ∧ Ag P' Γ' ρ S' ∧ Fr Γ Γ' ρ S S' ∧ ∀ P2 C, SameP P' P2 → gd (P2 ++ C) = true
def Sl.low : Sl → Option T
  | .tr x => some x
  | .vw x => some x
  | _ => none
/-- read below P -/
def lvw (Γ : List Sl) : Vl → Option T
  | .t x => some x
  | .s i => (gS Γ i).low
def tcon : SK → List T → T
  | .l => T.lst
  | .t => T.tup
section
variable {P P1 P2 P3 P' S S' : Sto} {Γ Γ0 Γ1 Γ2 Γ3 Γ' : List Sl} {ρ ρ' : Env} {f fa fb fc : Ex} {fs : Exs} {t u : Tx} {v v1 v2 v3 : Vl} {vs : List Vl} {x y z : T} {xs : List T} {b : Bool} {i j n N : Nat} {c : Cell} {g g1 g2 : Sx} {δ δ' : Deck} {Z : Sto} {src : Srcx} {p : Pat} {its : List Item} {α β σ : Type}
theorem lvw_vw {w : W} (a : Ag P Γ ρ S) (hw : VlOk ρ v w) (e : lvw Γ v = some x) : Vw P w x := by
  cases v with
  | t y => cases e; exact .inl hw
  | s i =>
    have q := a.slot i
    have hw : gE ρ i = some w := hw
    have e : (gS Γ i).low = some x := e
    rw [hw] at q
    cases hs : gS Γ i with
    | tr y => rw [hs] at e q; cases e; cases q; exact .inl rfl
    | vw y => rw [hs] at e q; cases e; obtain ⟨w', h1, h2⟩ := q; cases h1; exact h2
    | _ => rw [hs] at e; cases e
theorem cont_vw {w : W} {C : Sto} (k : SK) (h : Vw P w (tcon k xs)) : ∃ gd, cont (P ++ C) w = some (k, xs.map W.t, gd) ∧ ∀ P2 C2, SameP P P2 → gd (P2 ++ C2) = true := by
  rcases h with h | ⟨n, c, h1, h2, h3, h4⟩
  · rw [h]
    cases k with
    | l => exact ⟨gTrue, rfl, fun _ _ _ => rfl⟩
    | t => exact ⟨gTrue, rfl, fun _ _ _ => rfl⟩
  · subst h1
    have h5 : (P ++ C)[n]? = some c := by rw [List.getElem?_append_left (get_lt h3)]; exact h3
    have key : ∀ P2 C2, SameP P P2 → (P2 ++ C2)[n]? = some c := fun P2 C2 hs => by
      rw [List.getElem?_append_left (by rw [← hs.1]; exact get_lt h3), ← hs.2 n h2]; exact h3
    cases c with
    | lst ys =>
      cases k with
      | l =>
        cases h4
        exact ⟨fun S' => sameL xs S'[n]?, by simp only [cont, h5], fun P2 C2 hs => by simp only [key P2 C2 hs]; exact sameL_self xs⟩
      | t => cases h4
    | vec ws =>
      cases q : toTs ws with
      | none => simp [Cell.view, q] at h4
      | some ys =>
        simp [Cell.view, q] at h4
        cases k with
        | l =>
          cases h4
          have := toTs_some q
          subst this
          exact ⟨fun S' => sameV (xs.map W.t) S'[n]?, by simp only [cont, h5], fun P2 C2 hs => by simp only [key P2 C2 hs]; exact sameV_self _⟩
        | t => cases h4
    | dic _ => cases k <;> cases h4
    | frz _ => cases k <;> cases h4
    | dead => cases h4
/-- a list, a tuple -/
theorem src_k (k : SK) (e : α → T) (ys : List α) (h : JX P Γ f P1 Γ1 v) (hv : lvw Γ1 v = some (tcon k (ys.map e))) : JSrc P Γ (srcS f) P1 Γ1 (ys.map fun y => .one (.t (e y))) := by
  intro ρ S a
  obtain ⟨w, S1, e1, a1, k1, r1⟩ := h ρ S a
  obtain ⟨C, hC⟩ := a1.pre
  obtain ⟨gd, q1, q2⟩ := cont_vw (C := C) k (lvw_vw a1 k1 hv)
  refine ⟨gd, S1, ?_, a1, r1, q2⟩
  rw [ap_srcS, e1, bind_ok', hC, q1]
  simp [Function.comp_def]
theorem src_l (e : α → T) (ys : List α) (h : JX P Γ f P1 Γ1 v) (hv : lvw Γ1 v = some (.lst (ys.map e)) := by rfl) : JSrc P Γ (srcS f) P1 Γ1 (ys.map fun y => .one (.t (e y))) := src_k .l e ys h hv
theorem src_u (e : α → T) (ys : List α) (h : JX P Γ f P1 Γ1 v) (hv : lvw Γ1 v = some (.tup (ys.map e)) := by rfl) : JSrc P Γ (srcS f) P1 Γ1 (ys.map fun y => .one (.t (e y))) := src_k .t e ys h hv
theorem src_scr (ns : List Int) (h : JX P Γ f P1 Γ1 v) (hv : tv Γ1 v = some (.scr ns) := by rfl) : JSrc P Γ (srcS f) P1 Γ1 (ns.map fun y => .one (.t (.int y))) := by
  intro ρ S a
  obtain ⟨w, S1, e1, a1, k1, r1⟩ := h ρ S a
  have := tv_tree a1 k1 hv
  subst this
  refine ⟨gTrue, S1, ?_, a1, r1, fun _ _ _ => rfl⟩
  rw [ap_srcS, e1, bind_ok', cont_scr]
  simp [Function.comp_def]
theorem rng_items (lo hi : Int) : rngI lo (hi - lo).toNat = (rngL lo hi).map fun i => Item.one (.t (.int i)) := by
  unfold rngI rngL
  rw [List.map_map]
  rfl
theorem src_r1 {hi : Int} (h : JA P Γ fs P1 Γ1 [v]) (hr : hi.natAbs < 4000000000000000000) (e : tv Γ1 v = some (.int hi) := by rfl) : JSrc P Γ (srcR1 fs) P1 Γ1 ((rngL 0 hi).map fun i => .one (.t (.int i))) := by
  intro ρ S a
  obtain ⟨ws, S1, e1, a1, k1, r1⟩ := h ρ S a
  have hl := vls_len k1
  match ws, hl with
  | [w], _ =>
    have := tv_tree a1 k1.1 e
    subst this
    refine ⟨gTrue, S1, ?_, a1, r1, fun _ _ _ => rfl⟩
    have : rlim hi = true := by simp [rlim, hr]
    rw [ap_srcR1, e1, bind_ok']
    simp only [rng1, this, if_true, of_some]
    rw [← rng_items 0 hi]
    simp
theorem src_r2 {lo hi : Int} (h : JA P Γ fs P1 Γ1 [v1, v2]) (hr : lo.natAbs < 4000000000000000000 ∧ hi.natAbs < 4000000000000000000) (e1' : tv Γ1 v1 = some (.int lo) := by rfl) (e2' : tv Γ1 v2 = some (.int hi) := by rfl) : JSrc P Γ (srcR2 fs) P1 Γ1 ((rngL lo hi).map fun i => .one (.t (.int i))) := by
  intro ρ S a
  obtain ⟨ws, S1, e1, a1, k1, r1⟩ := h ρ S a
  have hl := vls_len k1
  match ws, hl with
  | [w, w'], _ =>
    have := tv_tree a1 k1.1 e1'
    subst this
    have := tv_tree a1 k1.2.1 e2'
    subst this
    refine ⟨gTrue, S1, ?_, a1, r1, fun _ _ _ => rfl⟩
    have h1 : rlim lo = true := by simp [rlim, hr.1]
    have h2 : rlim hi = true := by simp [rlim, hr.2]
    unfold srcR2
    rw [e1, bind_ok']
    simp only [rng2, h1, h2, Bool.and_self, if_true, of_some]
    rw [← rng_items lo hi]
theorem src_enk (k : SK) (e : α → T) (ys : List α) (h : JA P Γ fs P1 Γ1 [v]) (hv : lvw Γ1 v = some (tcon k (ys.map e))) : JSrc P Γ (srcEn fs) P1 Γ1 ((enumI ys).map fun p => .tp [.t (.int p.1), .t (e p.2)]) := by
  intro ρ S a
  obtain ⟨ws, S1, e1, a1, k1, r1⟩ := h ρ S a
  have hl := vls_len k1
  match ws, hl with
  | [w], _ =>
    obtain ⟨C, hC⟩ := a1.pre
    obtain ⟨gd, q1, q2⟩ := cont_vw (C := C) k (lvw_vw a1 k1.1 hv)
    refine ⟨gd, S1, ?_, a1, r1, q2⟩
    unfold srcEn
    rw [e1, bind_ok']
    show R.of ((cont S1 w).map _) S1 = _
    rw [hC, q1]
    simp only [Option.map_some, of_some, enumW, enumI, List.length_map, List.map_map, List.zip_map_right]
    rfl
theorem src_enl (e : α → T) (ys : List α) (h : JA P Γ fs P1 Γ1 [v]) (hv : lvw Γ1 v = some (.lst (ys.map e)) := by rfl) : JSrc P Γ (srcEn fs) P1 Γ1 ((enumI ys).map fun p => .tp [.t (.int p.1), .t (e p.2)]) := src_enk .l e ys h hv
theorem src_enu (e : α → T) (ys : List α) (h : JA P Γ fs P1 Γ1 [v]) (hv : lvw Γ1 v = some (.tup (ys.map e)) := by rfl) : JSrc P Γ (srcEn fs) P1 Γ1 ((enumI ys).map fun p => .tp [.t (.int p.1), .t (e p.2)]) := src_enk .t e ys h hv
theorem src_zk (k : SK) (e : α → T) (e' : β → T) (xs : List α) (ys : List β) (h : JA P Γ fs P1 Γ1 [v1, v2]) (hv : lvw Γ1 v1 = some (tcon k (xs.map e))) (hv2 : lvw Γ1 v2 = some (tcon k (ys.map e'))) :
    JSrc P Γ (srcZ2 fs) P1 Γ1 ((xs.zip ys).map fun p => .tp [.t (e p.1), .t (e' p.2)]) := by
  intro ρ S a
  obtain ⟨ws, S1, e1, a1, k1, r1⟩ := h ρ S a
  have hl := vls_len k1
  match ws, hl with
  | [w, w'], _ =>
    obtain ⟨C, hC⟩ := a1.pre
    obtain ⟨gd, q1, q2⟩ := cont_vw (C := C) k (lvw_vw a1 k1.1 hv)
    obtain ⟨gd', q4, q5⟩ := cont_vw (C := C) k (lvw_vw a1 k1.2.1 hv2)
    refine ⟨fun S => gd S && gd' S, S1, ?_, a1, r1, fun P2 C2 hs => by show (gd (P2 ++ C2) && gd' (P2 ++ C2)) = true; rw [q2 P2 C2 hs, q5 P2 C2 hs]; rfl⟩
    have hs : sameK k k = true := by cases k <;> rfl
    rw [ap_srcZ2, e1, bind_ok']
    unfold zip2
    simp only
    rw [hC, q1, q4]
    simp only [Option.bind_some, hs, if_true, of_some, zipW, List.map_map, List.zip_map]
    rfl
theorem src_zl (e : α → T) (e' : β → T) (xs : List α) (ys : List β) (h : JA P Γ fs P1 Γ1 [v1, v2]) (hv : lvw Γ1 v1 = some (.lst (xs.map e)) := by rfl) (hv2 : lvw Γ1 v2 = some (.lst (ys.map e')) := by rfl) :
    JSrc P Γ (srcZ2 fs) P1 Γ1 ((xs.zip ys).map fun p => .tp [.t (e p.1), .t (e' p.2)]) := src_zk .l e e' xs ys h hv hv2
theorem src_zu (e : α → T) (e' : β → T) (xs : List α) (ys : List β) (h : JA P Γ fs P1 Γ1 [v1, v2]) (hv : lvw Γ1 v1 = some (.tup (xs.map e)) := by rfl) (hv2 : lvw Γ1 v2 = some (.tup (ys.map e')) := by rfl) :
    JSrc P Γ (srcZ2 fs) P1 Γ1 ((xs.zip ys).map fun p => .tp [.t (e p.1), .t (e' p.2)]) := src_zk .t e e' xs ys h hv hv2
/-! ### targets -/
def BindOk (p : Pat) (it : Item) (is : List Nat) (Γ Γ' : List Sl) : Prop := ∀ P ρ S, Ag P Γ ρ S → ∃ ρ1, bindI p it ρ = some ρ1 ∧ Ag P Γ' ρ1 S ∧ ρ1.length = ρ.length ∧ (∀ k, k ∉ is → gE ρ1 k = gE ρ k) ∧ ∀ k, (gS Γ' k).own = true → k ∉ is ∧ (gS Γ k).own = true
theorem putAllE_len : ∀ (is : List Nat) (ws : List W) (ρ : Env), (putAllE ρ is ws).length = ρ.length
  | [], _, _ => rfl
  | _ :: _, [], _ => rfl
  | i :: is, w :: ws, ρ => by rw [putAllE, putAllE_len is ws]; simp
theorem putAllE_ne : ∀ (is : List Nat) (ws : List W) (ρ : Env) (k : Nat), k ∉ is → gE (putAllE ρ is ws) k = gE ρ k
  | [], _, _, _, _ => rfl
  | _ :: _, [], _, _, _ => rfl
  | i :: is, w :: ws, ρ, k, h => by
    simp only [List.mem_cons, not_or] at h
    rw [putAllE, putAllE_ne is ws _ k h.2, gE_set, if_neg fun z => h.1 z.1.symm]
theorem set_own {i : Nat} (k : Nat) (h : (gS (Γ.set i (.tr x)) k).own = true) : k ≠ i ∧ (gS Γ k).own = true := by
  rw [gS_set] at h
  split at h
  · cases h
  · rename_i hn
    refine ⟨fun e => ?_, h⟩
    subst e
    have : gS Γ k ≠ .un := fun z => by rw [z] at h; cases h
    exact hn ⟨rfl, ne_len this⟩
theorem putAll_own : ∀ (is : List Nat) (xs : List T) (Γ : List Sl), is.length = xs.length → ∀ k, (gS (putAll Γ is (xs.map Sl.tr)) k).own = true → k ∉ is ∧ (gS Γ k).own = true
  | [], [], Γ, _, k, h => ⟨by simp, h⟩
  | i :: is, x :: xs, Γ, hl, k, h => by
    obtain ⟨h1, h2⟩ := putAll_own is xs (Γ.set i (.tr x)) (by simpa using hl) k h
    obtain ⟨h3, h4⟩ := set_own k h2
    exact ⟨by simp [h1, h3], h4⟩
  | [], _ :: _, _, hl, _, _ => by cases hl
  | _ :: _, [], _, hl, _, _ => by cases hl
theorem bi_nm (i : Nat) : BindOk (.nm i) (.one (.t x)) [i] Γ (Γ.set i (.tr x)) := fun P ρ S a =>
  ⟨ρ.set i (some (.t x)), rfl, a.set (s := .tr x) (o := some (.t x)) rfl rfl i, by simp, fun k hk => by rw [gE_set, if_neg]; simp at hk; exact fun z => hk z.1.symm, fun k hk => ⟨by simpa using (set_own k hk).1, (set_own k hk).2⟩⟩
theorem bi_tp (is : List Nat) {xs : List T} (hl : is.length = xs.length := by rfl) : BindOk (.tp (is.map Pat.nm)) (.tp (xs.map W.t)) is Γ (putAll Γ is (xs.map Sl.tr)) := fun P ρ S a =>
  ⟨putAllE ρ is (xs.map W.t), by unfold bindI; exact bindWs_nms is _ ρ (by simpa using hl), putAll_ag (is := is) a (pend_trees 0 xs), putAllE_len _ _ _, fun k hk => putAllE_ne _ _ _ _ hk, fun k hk => putAll_own is xs _ hl k hk⟩
theorem bi_one (is : List Nat) {xs : List T} (hl : is.length = xs.length := by rfl) : BindOk (.tp (is.map Pat.nm)) (.one (.t (.tup xs))) is Γ (putAll Γ is (xs.map Sl.tr)) := fun P ρ S a =>
  ⟨putAllE ρ is (xs.map W.t), by unfold bindI; exact bindWs_nms is _ ρ (by simpa using hl), putAll_ag (is := is) a (pend_trees 0 xs), putAllE_len _ _ _, fun k hk => putAllE_ne _ _ _ _ hk, fun k hk => putAll_own is xs _ hl k hk⟩
theorem bi_nmtp (i : Nat) {xs : List T} : BindOk (.nm i) (.tp (xs.map W.t)) [i] Γ (Γ.set i (.tr (.tup xs))) := fun P ρ S a =>
  ⟨ρ.set i (some (.t (.tup xs))), by show (toTs (xs.map W.t)).map _ = _; rw [toTs_map]; rfl, a.set (s := .tr (.tup xs)) (o := some (.t (.tup xs))) rfl rfl i, by simp, fun k hk => by rw [gE_set, if_neg]; simp at hk; exact fun z => hk z.1.symm, fun k hk => ⟨by simpa using (set_own k hk).1, (set_own k hk).2⟩⟩
theorem bi_12 (i j k : Nat) {x y z : T} : BindOk (.tp [.nm i, .tp [.nm j, .nm k]]) (.tp [.t x, .t (.tup [y, z])]) [i, j, k] Γ (putAll Γ [i, j, k] [.tr x, .tr y, .tr z]) := fun P ρ S a =>
  ⟨putAllE ρ [i, j, k] [.t x, .t y, .t z], rfl, putAll_ag (is := [i, j, k]) (ss := [.tr x, .tr y, .tr z]) a (pend_trees 0 [x, y, z]), putAllE_len _ _ _, fun m hm => putAllE_ne _ _ _ _ hm, fun m hm => putAll_own [i, j, k] [x, y, z] _ rfl m hm⟩
/-- back from the target -/
theorem gS_forget_ne : ∀ (is : List Nat) (Γ : List Sl) (k : Nat), gS (forget Γ is) k ≠ .un → k ∉ is ∧ gS (forget Γ is) k = gS Γ k
  | [], Γ, k, _ => ⟨by simp, rfl⟩
  | i :: is, Γ, k, h => by
    obtain ⟨h1, h2⟩ := gS_forget_ne is (Γ.set i .un) k h
    have h' : gS (Γ.set i .un) k ≠ .un := by rw [← h2]; exact h
    rw [gS_set] at h'
    split at h'
    · exact absurd rfl h'
    · rename_i hn
      refine ⟨fun hm => ?_, ?_⟩
      · rcases List.mem_cons.mp hm with z | z
        · subst z
          by_cases hl : k < Γ.length
          · exact hn ⟨rfl, hl⟩
          · have : gS Γ k = .un := by
              by_cases e : gS Γ k = .un
              · exact e
              · exact absurd (ne_len e) hl
            exact h' this
        · exact h1 z
      · show gS (forget (Γ.set i .un) is) k = _
        rw [h2, gS_set, if_neg hn]
/-! ### for -/
def Fl.out {σ β : Type} (js : List Nat) (Pf : σ → Sto) (G : σ → List Sl) (PR : β → Sto) (eR : β → T) : Fl σ β → Out
  | .nx s => .fin true js (Pf s) (G s)
  | .rt v => .rt (PR v) (eR v)
  | .bk s => .bk js (Pf s) (G s)
def Lo.out {σ β : Type} (Pf : σ → Sto) (G : σ → List Sl) (PR : β → Sto) (eR : β → T) : Lo σ β → Out
  | .go s => .nx (Pf s) (G s)
  | .rt v => .rt (PR v) (eR v)
theorem for_run {ε : α → Item} {F : α → σ → Option (Fl σ β)} {gd : Sto → Bool} (Pf : σ → Sto) (G : σ → List Sl) (Gx : α → σ → List Sl) (PR : β → Sto) (eR : β → T) (is js : List Nat) (P0 : Sto)
    (hP : ∀ s, SameP P0 (Pf s)) (hg : ∀ P2 C, SameP P0 P2 → gd (P2 ++ C) = true)
    (hb : ∀ x s, BindOk p (ε x) is (G s) (Gx x s)) (hF : ∀ x s r, F x s = some r → JS (Pf s) (Gx x s) g (r.out js Pf G PR eR)) : ∀ (xs : List α) (s : σ) (r : Lo σ β) (ρ : Env) (S : Sto), Ag (Pf s) (G s) ρ S → forF F xs s = some r →
      (r.out Pf G PR eR).holds (forL gd p g (xs.map ε) ρ S)
  | [], s, r, ρ, S, a, h => by
    obtain ⟨C, hC⟩ := a.pre
    cases h
    refine ⟨ρ, S, ?_, a⟩
    rw [List.map_nil, forL, hC, hg _ C (hP s), if_pos rfl]
  | x :: xs, s, r, ρ, S, a, h => by
    obtain ⟨C, hC⟩ := a.pre
    obtain ⟨r1, h1, h2⟩ := ob h
    obtain ⟨ρ1, b1, a1, b2, b3, b4⟩ := hb x s _ _ _ a
    have q := hF x s r1 h1 ρ1 S a1
    have gg : gd S = true := by rw [hC]; exact hg _ C (hP s)
    have e0 : forL gd p g ((x :: xs).map ε) ρ S = loopS (forL gd p g (xs.map ε)) (g ρ1 S) := by
      rw [List.map_cons, forL, if_pos gg, b1]
    rw [e0]
    cases r1 with
    | nx s1 =>
      obtain ⟨ρ2, S2, Γ', e2, a2, rfl'⟩ := q
      have ih := for_run Pf G Gx PR eR is js P0 hP hg hb hF xs s1 r ρ2 S2 (by rw [← rfl']; exact a2.forget js) h2
      rcases e2 with e2 | ⟨_, e2⟩
      · rw [e2]; exact ih
      · rw [e2]; exact ih
    | rt v =>
      cases h2
      obtain ⟨w, S2, e2, k⟩ := q
      exact ⟨w, S2, by rw [e2]; rfl, k⟩
    | bk s1 =>
      cases h2
      obtain ⟨ρ2, S2, Γ', e2, a2, rfl'⟩ := q
      exact ⟨ρ2, S2, by rw [e2]; rfl, by rw [← rfl']; exact a2.forget js⟩
theorem js_forG {ε : α → Item} {F : α → σ → Option (Fl σ β)} {xs : List α} {s0 : σ} {r : Lo σ β} (h : forF F xs s0 = some r) (Pf : σ → Sto) (G : σ → List Sl) (Gx : α → σ → List Sl) (PR : β → Sto) (eR : β → T) (is js : List Nat)
    (hs : JSrc P Γ src (Pf s0) Γ1 (xs.map ε)) (hP : ∀ s, SameP (Pf s0) (Pf s)) (h0 : forget Γ1 js = G s0) (hb : ∀ x s, BindOk p (ε x) is (G s) (Gx x s)) (hF : ∀ x s r, F x s = some r → JS (Pf s) (Gx x s) g (r.out js Pf G PR eR)) :
    JS P Γ (sFor src p g) (r.out Pf G PR eR) := by
  intro ρ S a
  obtain ⟨gd, S1, e1, a1, r1, hg⟩ := hs ρ S a
  have q := for_run (gd := gd) Pf G Gx PR eR is js _ hP hg hb hF xs s0 r ρ S1 (by rw [← h0]; exact a1.forget js) h
  unfold sFor
  rw [e1]
  exact q
theorem forO_F {F : α → σ → Option σ} : ∀ (xs : List α) (s s' : σ), forO F xs s = some s' → forF (β := Empty) (fun x s => (F x s).map Fl.nx) xs s = some (.go s')
  | [], s, s', h => by cases h; rfl
  | x :: xs, s, s', h => by
    obtain ⟨s1, h1, h2⟩ := ob h
    rw [forF, h1]
    exact forO_F xs s1 s' h2
theorem js_for {ε : α → Item} {F : α → σ → Option σ} {xs : List α} {s0 s' : σ} (h : forO F xs s0 = some s') (Pf : σ → Sto) (G : σ → List Sl) (Gx : α → σ → List Sl) (is js : List Nat)
    (hs : JSrc P Γ src (Pf s0) Γ1 (xs.map ε)) (hP : ∀ s, SameP (Pf s0) (Pf s)) (h0 : forget Γ1 js = G s0) (hb : ∀ x s, BindOk p (ε x) is (G s) (Gx x s)) (hF : ∀ x s s', F x s = some s' → JS (Pf s) (Gx x s) g (.fin true js (Pf s') (G s'))) :
    JS P Γ (sFor src p g) (.nx (Pf s') (G s')) :=
  js_forG (β := Empty) (forO_F xs s0 s' h) Pf G Gx (fun e => nomatch e) (fun e => nomatch e) is js hs hP h0 hb fun x s r hr => by
    cases hx : F x s with
    | none => rw [hx] at hr; cases hr
    | some s1 => rw [hx] at hr; cases hr; exact hF x s s1 hx
theorem js_forN {ε : α → Item} {F : α → σ → Option (Fl σ β)} {xs : List α} {s0 s' : σ} (h : forF F xs s0 = some (.go s')) (Pf : σ → Sto) (G : σ → List Sl) (Gx : α → σ → List Sl) (PR : β → Sto) (eR : β → T) (is js : List Nat)
    (hs : JSrc P Γ src (Pf s0) Γ1 (xs.map ε)) (hP : ∀ s, SameP (Pf s0) (Pf s)) (h0 : forget Γ1 js = G s0) (hb : ∀ x s, BindOk p (ε x) is (G s) (Gx x s)) (hF : ∀ x s r, F x s = some r → JS (Pf s) (Gx x s) g (r.out js Pf G PR eR)) :
    JS P Γ (sFor src p g) (.nx (Pf s') (G s')) := js_forG h Pf G Gx PR eR is js hs hP h0 hb hF
theorem js_forR {ε : α → Item} {F : α → σ → Option (Fl σ β)} {xs : List α} {s0 : σ} {v : β} (h : forF F xs s0 = some (.rt v)) (Pf : σ → Sto) (G : σ → List Sl) (Gx : α → σ → List Sl) (PR : β → Sto) (eR : β → T) (is js : List Nat)
    (hs : JSrc P Γ src (Pf s0) Γ1 (xs.map ε)) (hP : ∀ s, SameP (Pf s0) (Pf s)) (h0 : forget Γ1 js = G s0) (hb : ∀ x s, BindOk p (ε x) is (G s) (Gx x s)) (hF : ∀ x s r, F x s = some r → JS (Pf s) (Gx x s) g (r.out js Pf G PR eR)) :
    JS P Γ (sFor src p g) (.rt (PR v) (eR v)) := js_forG h Pf G Gx PR eR is js hs hP h0 hb hF
theorem js_consG {r : Lo σ β} {Pf : σ → Sto} {G : σ → List Sl} {PR : β → Sto} {eR : β → T} {o : Out} (h1 : JS P Γ g1 (r.out Pf G PR eR)) (hn : ∀ s, r = .go s → JS (Pf s) (G s) g2 o) (hr : ∀ v, r = .rt v → o = .rt (PR v) (eR v)) : JS P Γ (sCons g1 g2) o := by
  cases r with
  | go s => exact js_cons h1 (hn s rfl)
  | rt v => rw [hr v rfl]; exact js_consR h1
theorem js_endG {r : Lo σ β} {Pf : σ → Sto} {G : σ → List Sl} {PR : β → Sto} {eR : β → T} {o : Out} (h1 : JS P Γ g1 (r.out Pf G PR eR)) (hn : ∀ s, r = .go s → JS P Γ g1 (.nx (Pf s) (G s)) → JS P Γ g1 o) (hr : ∀ v, r = .rt v → o = .rt (PR v) (eR v)) : JS P Γ g1 o := by
  cases r with
  | go s => exact hn s rfl h1
  | rt v => rw [hr v rfl]; exact h1
theorem ctot {α : Type} {C : Bool} {Y : α} {o : Option α} (h : some (cond C (some Y) none) = some o) : (C = true ∧ o = some Y) ∨ (C = false ∧ o = none) := by
  cases C with
  | true => exact .inl ⟨rfl, (Option.some.inj h).symm⟩
  | false => exact .inr ⟨rfl, (Option.some.inj h).symm⟩
/-! ### while -/
theorem wh_run {C : σ → Option Bool} {B : σ → Option (Fl σ β)} (Pf : σ → Sto) (G : σ → List Sl) (PR : β → Sto) (eR : β → T) (js : List Nat)
    (hC : ∀ s b, C s = some b → JC (Pf s) (G s) t (Pf s) (G s) b) (hB : ∀ s r, B s = some r → JS (Pf s) (G s) g (r.out js Pf G PR eR)) : ∀ (n : Nat) (s : σ) (r : Lo σ β) (ρ : Env) (S : Sto), Ag (Pf s) (G s) ρ S → whF C B n s = some r →
      (r.out Pf G PR eR).holds (whL t g n ρ S)
  | 0, _, _, _, _, _, h => by cases h
  | n + 1, s, r, ρ, S, a, h => by
    obtain ⟨b, h1, h2⟩ := ob h
    obtain ⟨S1, e1, a1, _⟩ := hC s b h1 ρ S a
    unfold whL
    rw [e1]
    cases b with
    | false => cases h2; exact ⟨ρ, S1, rfl, a1⟩
    | true =>
      obtain ⟨r1, h3, h4⟩ := ob (show (B s).bind _ = some r from h2)
      have q := hB s r1 h3 ρ S1 a1
      show (r.out Pf G PR eR).holds (loopS (whL t g n) (g ρ S1))
      cases r1 with
      | nx s1 =>
        obtain ⟨ρ2, S2, Γ', e2, a2, rfl'⟩ := q
        have ih := wh_run Pf G PR eR js hC hB n s1 r ρ2 S2 (by rw [← rfl']; exact a2.forget js) h4
        rcases e2 with e2 | ⟨_, e2⟩
        · rw [e2]; exact ih
        · rw [e2]; exact ih
      | rt v =>
        cases h4
        obtain ⟨w, S2, e2, k⟩ := q
        exact ⟨w, S2, by rw [e2]; rfl, k⟩
      | bk s1 =>
        cases h4
        obtain ⟨ρ2, S2, Γ', e2, a2, rfl'⟩ := q
        exact ⟨ρ2, S2, by rw [e2]; rfl, by rw [← rfl']; exact a2.forget js⟩
theorem js_whileG {C : σ → Option Bool} {B : σ → Option (Fl σ β)} {s0 : σ} {r : Lo σ β} (h : whF C B n s0 = some r) (Pf : σ → Sto) (G : σ → List Sl) (PR : β → Sto) (eR : β → T) (js : List Nat) (hP : Pf s0 = P) (h0 : forget Γ js = G s0)
    (hC : ∀ s b, C s = some b → JC (Pf s) (G s) t (Pf s) (G s) b) (hB : ∀ s r, B s = some r → JS (Pf s) (G s) g (r.out js Pf G PR eR)) : JS P Γ (whL t g n) (r.out Pf G PR eR) := by
  intro ρ S a
  subst hP
  exact wh_run Pf G PR eR js hC hB n s0 r ρ S (by rw [← h0]; exact a.forget js) h
theorem whO_F {C : σ → Option Bool} {B : σ → Option σ} : ∀ (n : Nat) (s s' : σ), whO C B n s = some s' → whF (β := Empty) C (fun s => (B s).map Fl.nx) n s = some (.go s')
  | 0, _, _, h => by cases h
  | n + 1, s, s', h => by
    obtain ⟨b, h1, h2⟩ := ob h
    rw [whF, h1]
    cases b with
    | false => cases h2; rfl
    | true =>
      obtain ⟨s1, h3, h4⟩ := ob (show (B s).bind _ = some s' from h2)
      simp only [Option.bind_some, cond_true, h3, Option.map_some]
      exact whO_F n s1 s' h4
theorem js_while {C : σ → Option Bool} {B : σ → Option σ} {s0 s' : σ} (h : whO C B n s0 = some s') (Pf : σ → Sto) (G : σ → List Sl) (js : List Nat) (hP : Pf s0 = P) (h0 : forget Γ js = G s0)
    (hC : ∀ s b, C s = some b → JC (Pf s) (G s) t (Pf s) (G s) b) (hB : ∀ s s', B s = some s' → JS (Pf s) (G s) g (.fin true js (Pf s') (G s'))) : JS P Γ (whL t g n) (.nx (Pf s') (G s')) :=
  js_whileG (β := Empty) (whO_F n s0 s' h) Pf G (fun e => nomatch e) (fun e => nomatch e) js hP h0 hC fun s r hr => by
    cases hx : B s with
    | none => rw [hx] at hr; cases hr
    | some s1 => rw [hx] at hr; cases hr; exact hB s s1 hx
theorem js_whileN {C : σ → Option Bool} {B : σ → Option (Fl σ β)} {s0 s' : σ} (h : whF C B n s0 = some (.go s')) (Pf : σ → Sto) (G : σ → List Sl) (PR : β → Sto) (eR : β → T) (js : List Nat) (hP : Pf s0 = P) (h0 : forget Γ js = G s0)
    (hC : ∀ s b, C s = some b → JC (Pf s) (G s) t (Pf s) (G s) b) (hB : ∀ s r, B s = some r → JS (Pf s) (G s) g (r.out js Pf G PR eR)) : JS P Γ (whL t g n) (.nx (Pf s') (G s')) := js_whileG h Pf G PR eR js hP h0 hC hB
theorem js_whileR {C : σ → Option Bool} {B : σ → Option (Fl σ β)} {s0 : σ} {v : β} (h : whF C B n s0 = some (.rt v)) (Pf : σ → Sto) (G : σ → List Sl) (PR : β → Sto) (eR : β → T) (js : List Nat) (hP : Pf s0 = P) (h0 : forget Γ js = G s0)
    (hC : ∀ s b, C s = some b → JC (Pf s) (G s) t (Pf s) (G s) b) (hB : ∀ s r, B s = some r → JS (Pf s) (G s) g (r.out js Pf G PR eR)) : JS P Γ (whL t g n) (.rt (PR v) (eR v)) := js_whileG h Pf G PR eR js hP h0 hC hB
/-! ### comprehensions -/
def JCB (P : Sto) (Γ : List Sl) (t : Tx) (f : Ex) (P' : Sto) (Γ' : List Sl) (o : Option T) : Prop := ∀ ρ S, Ag P Γ ρ S → ∃ S', Ag P' Γ' ρ S' ∧ Fr Γ Γ' ρ S S' ∧ (match o with
  | none => t ρ S = .ok false S'
  | some y => ∃ S1, t ρ S = .ok true S1 ∧ f ρ S1 = .ok (.t y) S')
theorem jcb_none (h : JC P Γ t P1 Γ1 b) (hb : b = false) : JCB P Γ t f P1 Γ1 none := by
  subst hb
  intro ρ S a
  obtain ⟨S1, e1, a1, r1⟩ := h ρ S a
  exact ⟨S1, a1, r1, e1⟩
theorem jcb_some (h : JC P Γ t P1 Γ1 b) (hb : b = true) (h2 : JX P1 Γ1 f P2 Γ2 v) (e : tv Γ2 v = some x := by rfl) : JCB P Γ t f P2 Γ2 (some x) := by
  subst hb
  intro ρ S a
  obtain ⟨S1, e1, a1, r1⟩ := h ρ S a
  obtain ⟨w, S2, e2, a2, k2, r2⟩ := h2 ρ S1 a1
  have := tv_tree a2 k2 e
  subst this
  exact ⟨S2, a2, r1.trans r2, S1, e1, e2⟩
theorem wipe_ag : ∀ (vs : List Nat) {Γ : List Sl} {ρ : Env}, Ag P Γ ρ S → Ag P (forget Γ vs) (wipeE ρ vs) S := by
  intro vs Γ ρ a
  have hl : ∀ (vs : List Nat) (ρ : Env), (wipeE ρ vs).length = ρ.length := by
    intro vs ρ
    induction vs with
    | nil => rfl
    | cons v vs ih => unfold wipeE; rw [List.length_set, ih]
  have hne : ∀ (vs : List Nat) (ρ : Env) (k : Nat), k ∉ vs → gE (wipeE ρ vs) k = gE ρ k := by
    intro vs ρ k
    induction vs with
    | nil => intro _; rfl
    | cons v vs ih =>
      intro h
      simp only [List.mem_cons, not_or] at h
      unfold wipeE
      rw [gE_set, if_neg fun z => h.1 z.1.symm, ih h.2]
  exact (a.forget vs).env (hl vs ρ) fun i hi => hne vs ρ i (gS_forget_ne vs Γ i hi).1
theorem wipe_ne : ∀ (vs : List Nat) (ρ : Env) (k : Nat), k ∉ vs → gE (wipeE ρ vs) k = gE ρ k := by
  intro vs ρ k
  induction vs with
  | nil => intro _; rfl
  | cons v vs ih =>
    intro h
    simp only [List.mem_cons, not_or] at h
    unfold wipeE
    rw [gE_set, if_neg fun z => h.1 z.1.symm, ih h.2]
theorem wipe_len : ∀ (vs : List Nat) (ρ : Env), (wipeE ρ vs).length = ρ.length := by
  intro vs ρ
  induction vs with
  | nil => rfl
  | cons v vs ih => unfold wipeE; rw [List.length_set, ih]
/-- the env comes back, the words of the comprehension's own slots as they were -/
theorem forget_own : ∀ (vs : List Nat) (Γ : List Sl) (i : Nat), (gS (forget Γ vs) i).own = true → (gS Γ i).own = true
  | [], _, _, h => h
  | v :: vs, Γ, i, h => by
    have := forget_own vs (Γ.set v .un) i h
    rw [gS_set] at this
    split at this
    · cases this
    · exact this
theorem gS_forget_get : ∀ (vs : List Nat) (Γ : List Sl) (i : Nat), i ∉ vs → gS (forget Γ vs) i = gS Γ i
  | [], _, _, _ => rfl
  | v :: vs, Γ, i, h => by
    simp only [List.mem_cons, not_or] at h
    show gS (forget (Γ.set v .un) vs) i = _
    rw [gS_forget_get vs _ i h.2, gS_set, if_neg fun z => h.1 z.1.symm]
theorem unwipe {vs : List Nat} (a : Ag P Γ ρ S) (hv : vs.all (fun v => !(gS Γ v).own) = true) (a' : Ag P (forget Γ vs) (wipeE ρ vs) S') : Ag P Γ ρ S' := by
  have hall : ∀ v ∈ vs, (gS Γ v).own = false := fun v hm => by
    have := List.all_eq_true.mp hv v hm
    simpa using this
  have hnv : ∀ i, (gS Γ i).own = true → i ∉ vs := fun i hi hm => by rw [hall i hm] at hi; cases hi
  refine ⟨a.big, a'.pre, a.len, fun k => ?_, a.nd⟩
  by_cases hk : k ∈ vs
  · have q := a.slot k
    have := hall k hk
    cases hs : gS Γ k with
    | un => trivial
    | tr y => rw [hs] at q; exact q
    | vw y => rw [hs] at q; exact q
    | dk => rw [hs] at q; exact q
    | bx c => rw [hs] at this; cases this
    | bn n c => rw [hs] at this; cases this
  · have q := a'.slot k
    rw [wipe_ne vs ρ k hk, gS_forget_get vs Γ k hk] at q
    exact q
theorem unwipe_fr {vs : List Nat} (h0 : forget Γ vs = Γ1) (hv : vs.all (fun v => !(gS Γ v).own) = true) (r : Fr Γ1 Γ1 (wipeE ρ vs) S S') : Fr Γ Γ ρ S S' := by
  subst h0
  refine ⟨r.le, fun n c h h3 hf => r.eq n c h h3 fun i hi e => ?_, fun _ h => h⟩
  have hi' : gS (forget Γ vs) i ≠ .un := fun z => by rw [z] at hi; cases hi
  obtain ⟨k1, k2⟩ := gS_forget_ne vs Γ i hi'
  rw [wipe_ne vs ρ i k1] at e
  exact hf i (by rw [← k2]; exact hi) e
theorem compR {ε : α → Item} {F : α → σ → Option (Option β × σ)} {gd : Sto → Bool} (e : β → T) (Pf : σ → Sto) (G : σ → List Sl) (Gx : α → σ → List Sl) (is js : List Nat) (P0 : Sto)
    (hP : ∀ s, SameP P0 (Pf s)) (hg : ∀ P2 C, SameP P0 P2 → gd (P2 ++ C) = true)
    (hb : ∀ x s, BindOk p (ε x) is (G s) (Gx x s)) (hu : ∀ s i, i ∈ is → gS (G s) i = .un) (hF : ∀ x s o s', F x s = some (o, s') → ∃ Γ', JCB (Pf s) (Gx x s) t f (Pf s') Γ' (o.map e) ∧ forget Γ' is = G s') : ∀ (xs : List α) (s s' : σ) (ys : List β) (ρ : Env) (S : Sto), Ag (Pf s) (G s) ρ S → compS F xs s = some (ys, s') →
      ∃ S', compL gd p t f (xs.map ε) ρ S = .ok (ys.map e) S' ∧ Ag (Pf s') (G s') ρ S' ∧ Fr (G s) (G s') ρ S S'
  | [], s, s', ys, ρ, S, a, h => by
    obtain ⟨C, hC⟩ := a.pre
    cases h
    refine ⟨S, ?_, a, .refl⟩
    rw [List.map_nil, compL, hC, hg _ C (hP s), if_pos rfl]; rfl
  | x :: xs, s, s', ys, ρ, S, a, h => by
    obtain ⟨C, hC⟩ := a.pre
    obtain ⟨⟨o, s1⟩, h1, h2⟩ := ob h
    obtain ⟨⟨zs, s2⟩, h3, h4⟩ := ob h2
    cases h4
    obtain ⟨ρ1, b1, a1, b2, b3, b4⟩ := hb x s _ _ _ a
    obtain ⟨Γ', q, hf⟩ := hF x s o s1 h1
    obtain ⟨S1, a2, r2, q⟩ := q ρ1 S a1
    have gg : gd S = true := by rw [hC]; exact hg _ C (hP s)
    have a3 : Ag (Pf s1) (G s1) ρ S1 := by
      have a3 := a2.forget is
      rw [hf] at a3
      refine a3.env b2.symm fun i hi => (b3 i fun hm => hi (hu s1 i hm)).symm
    have r3 : Fr (G s) (G s1) ρ S S1 := by
      refine ⟨r2.le, fun n c h h3 hf' => r2.eq n c h h3 fun i hi e => ?_, fun i hi => ?_⟩
      · obtain ⟨k1, k2⟩ := b4 i hi
        exact hf' i k2 (by rw [← b3 i k1]; exact e)
      · rw [← hf] at hi
        exact (b4 i (r2.sub i (forget_own is Γ' i hi))).2
    obtain ⟨S2, e2, a4, r4⟩ := compR e Pf G Gx is js P0 hP hg hb hu hF xs s1 s2 zs ρ S1 a3 h3
    refine ⟨S2, ?_, a4, r3.trans r4⟩
    rw [List.map_cons, compL, if_pos gg, b1]
    cases o with
    | none =>
      have q : t ρ1 S = .ok false S1 := q
      simp only [q, bind_ok']
      exact e2
    | some y =>
      obtain ⟨S3, q1, q2⟩ : ∃ S3, t ρ1 S = .ok true S3 ∧ f ρ1 S3 = .ok (.t (e y)) S1 := q
      simp only [q1, q2, bind_ok', if_true, e2, List.map_cons]
/-- a comprehension that neither draws nor writes -/
theorem compO_S {F : α → Option (Option β)} : ∀ (xs : List α) (ys : List β), compO F xs = some ys → compS (fun x (_ : Unit) => (F x).map fun o => (o, ())) xs () = some (ys, ())
  | [], ys, h => by cases h; rfl
  | x :: xs, ys, h => by
    obtain ⟨o, h1, h2⟩ := ob h
    obtain ⟨zs, h3, h4⟩ := ob h2
    cases h4
    rw [compS, h1]
    simp only [Option.map_some, Option.bind_some, compO_S xs zs h3]
theorem comp_pure {ε : α → Item} {F : α → Option (Option β)} {xs : List α} {ys : List β} (h : compO F xs = some ys) (e : β → T) (Gx : α → List Sl) (is vs : List Nat) (Γw : List Sl)
    (hs : JSrc P Γ src P1 Γ1 (xs.map ε)) (h0 : forget Γ1 vs = Γw) (hv : vs.all (fun v => !(gS Γ1 v).own) = true) (hb : ∀ x, BindOk p (ε x) is Γw (Gx x)) (hu : ∀ i, i ∈ is → gS Γw i = .un)
    (hF : ∀ x o, F x = some o → ∃ Γ', JCB P1 (Gx x) t f P1 Γ' (o.map e) ∧ forget Γ' is = Γw) (ρ : Env) (S : Sto) (a : Ag P Γ ρ S) :
    ∃ gd S1 S', src ρ S = .ok ⟨xs.map ε, gd⟩ S1 ∧ compL gd p t f (xs.map ε) (wipeE ρ vs) S1 = .ok (ys.map e) S' ∧ Ag P1 Γ1 ρ S' ∧ Fr Γ Γ1 ρ S S' := by
  obtain ⟨gd, S1, e1, a1, r1, hg⟩ := hs ρ S a
  have aw := wipe_ag vs a1
  rw [h0] at aw
  obtain ⟨S2, e2, a2, r2⟩ := compR (σ := Unit) e (fun _ => P1) (fun _ => Γw) (fun x _ => Gx x) is is P1 (fun _ => SameP.refl) hg (fun x _ => hb x) (fun _ i hi => hu i hi) (fun x _ o _ hx => by
    cases hf : F x with
    | none => rw [hf] at hx; cases hx
    | some o' => rw [hf] at hx; cases hx; exact hF x o hf) xs () () ys _ S1 aw (compO_S xs ys h)
  exact ⟨gd, S1, S2, e1, e2, unwipe a1 hv (by rw [h0]; exact a2), r1.trans (unwipe_fr h0 hv r2)⟩
theorem j_comp {ε : α → Item} {F : α → Option (Option β)} {xs : List α} {ys : List β} (h : compO F xs = some ys) (hl : xs.length ≤ 16777216) (e : β → T) (Gx : α → List Sl) (is : List Nat) (Γw : List Sl)
    (hs : JSrc P Γ src P1 Γ1 (xs.map ε)) (h0 : forget Γ1 is = Γw) (hb : ∀ x, BindOk p (ε x) is Γw (Gx x))
    (hF : ∀ x o, F x = some o → ∃ Γ', JCB P1 (Gx x) t f P1 Γ' (o.map e) ∧ forget Γ' is = Γw) (hu : is.all (fun i => !(gS Γw i).known) = true := by rfl) (hv : is.all (fun v => !(gS Γ1 v).own) = true := by rfl) : JX P Γ (eComp is src p t f) P1 Γ1 (.t (.lst (ys.map e))) := by
  intro ρ S a
  obtain ⟨gd, S1, S', e1, e2, a', r'⟩ := comp_pure h e Gx is is Γw hs h0 hv hb (fun i hi => by
    have := List.all_eq_true.mp hu i hi
    cases hs : gS Γw i with
    | un => rfl
    | _ => rw [hs] at this; cases this) hF ρ S a
  refine ⟨_, S', ?_, a', rfl, r'⟩
  rw [ap_eComp, e1, bind_ok']
  simp only [List.length_map]
  rw [if_pos (show xs.length ≤ cap from hl), e2]
  rfl
theorem jn_comp {ε : α → Item} {F : α → Option (Option β)} {xs : List α} {ys : List β} (h : compO F xs = some ys) (hl : xs.length ≤ 16777216) (e : β → T) (Gx : α → List Sl) (is : List Nat) (Γw : List Sl)
    (hs : JSrc P Γ src P1 Γ1 (xs.map ε)) (h0 : forget Γ1 is = Γw) (hb : ∀ x, BindOk p (ε x) is Γw (Gx x))
    (hF : ∀ x o, F x = some o → ∃ Γ', JCB P1 (Gx x) t f P1 Γ' (o.map e) ∧ forget Γ' is = Γw) (hu : is.all (fun i => !(gS Γw i).known) = true := by rfl) (hv : is.all (fun v => !(gS Γ1 v).own) = true := by rfl) : JN P Γ (eCompB is src p t f) P1 Γ1 (.lst (ys.map e)) := by
  intro ρ S a
  obtain ⟨gd, S1, S', e1, e2, a', r'⟩ := comp_pure h e Gx is is Γw hs h0 hv hb (fun i hi => by
    have := List.all_eq_true.mp hu i hi
    cases hs : gS Γw i with
    | un => rfl
    | _ => rw [hs] at this; cases this) hF ρ S a
  refine ⟨S', ?_, a', r'⟩
  unfold eCompB
  rw [e1, bind_ok']
  simp only [List.length_map]
  rw [if_pos (show xs.length ≤ cap from hl), e2]
  rfl
/-- a comprehension that draws or writes -/
theorem j_compS {ε : α → Item} {F : α → σ → Option (Option β × σ)} {xs : List α} {ys : List β} {s0 s' : σ} (h : compS F xs s0 = some (ys, s')) (hl : xs.length ≤ 16777216) (e : β → T) (Pf : σ → Sto) (G : σ → List Sl) (Gx : α → σ → List Sl) (is : List Nat)
    (hs : JSrc P Γ src (Pf s0) Γ1 (xs.map ε)) (hP : ∀ s, SameP (Pf s0) (Pf s)) (h0 : forget Γ1 is = G s0) (hb : ∀ x s, BindOk p (ε x) is (G s) (Gx x s))
    (hF : ∀ x s o s', F x s = some (o, s') → ∃ Γ', JCB (Pf s) (Gx x s) t f (Pf s') Γ' (o.map e) ∧ forget Γ' is = G s') (hu : ∀ s, is.all (fun i => !(gS (G s) i).known) = true := by intro _; rfl) : JX P Γ (eComp is src p t f) (Pf s') (G s') (.t (.lst (ys.map e))) := by
  intro ρ S a
  obtain ⟨gd, S1, e1, a1, r1, hg⟩ := hs ρ S a
  have hun : ∀ s i, i ∈ is → gS (G s) i = .un := fun s i hi => by
    have := List.all_eq_true.mp (hu s) i hi
    cases hs : gS (G s) i with
    | un => rfl
    | _ => rw [hs] at this; cases this
  have aw := wipe_ag is a1
  rw [h0] at aw
  obtain ⟨S2, e2, a2, r2⟩ := compR e Pf G Gx is is _ hP hg hb hun hF xs s0 s' ys _ S1 aw h
  refine ⟨_, S2, ?_, a2.env (by rw [wipe_len]) fun i hi => (wipe_ne is ρ i fun hm => hi (hun s' i hm)).symm, rfl, ?_⟩
  · rw [ap_eComp, e1, bind_ok']
    simp only [List.length_map]
    rw [if_pos (show xs.length ≤ cap from hl), e2]
    rfl
  · refine r1.trans ⟨r2.le, fun n c hn h3 hf => r2.eq n c hn h3 fun i hi e => ?_, fun i hi => ?_⟩
    · rw [← h0] at hi
      have hi' : gS (forget Γ1 is) i ≠ .un := fun z => by rw [z] at hi; cases hi
      obtain ⟨k1, k2⟩ := gS_forget_ne is Γ1 i hi'
      rw [wipe_ne is ρ i k1] at e
      exact hf i (by rw [← k2]; exact hi) e
    · have := r2.sub i hi
      rw [← h0] at this
      exact forget_own is Γ1 i this
end
end Dl
/-! Dm5: plain values as trees; the operators on plain values. -/
namespace Dl
open PySem
section
variable {α β γ δ' ε : Type}
abbrev eA (x : T) : T := x
abbrev eN (_ : Unit) : T := .non
abbrev eU (e : α → T) (xs : List α) : T := .tup (xs.map e)
abbrev eL (e : α → T) (xs : List α) : T := .lst (xs.map e)
abbrev eP2 (e1 : α → T) (e2 : β → T) (p : α × β) : T := .tup [e1 p.1, e2 p.2]
abbrev eP3 (e1 : α → T) (e2 : β → T) (e3 : γ → T) (p : α × β × γ) : T := .tup [e1 p.1, e2 p.2.1, e3 p.2.2]
abbrev eP4 (e1 : α → T) (e2 : β → T) (e3 : γ → T) (e4 : δ' → T) (p : α × β × γ × δ') : T := .tup [e1 p.1, e2 p.2.1, e3 p.2.2.1, e4 p.2.2.2]
abbrev eP5 (e1 : α → T) (e2 : β → T) (e3 : γ → T) (e4 : δ' → T) (e5 : ε → T) (p : α × β × γ × δ' × ε) : T := .tup [e1 p.1, e2 p.2.1, e3 p.2.2.1, e4 p.2.2.2.1, e5 p.2.2.2.2]
def eO (e : α → T) : Option α → T
  | none => .non
  | some x => e x
theorem sv {x y : α} (e : α → T) (h : some x = some y) : some (e x) = some (e y) := by cases h; rfl
/-! ### any -/
def asBo : T → Option Bool
  | .bl b => some b
  | _ => none
def asIn : T → Option Int
  | .int i => some i
  | _ => none
def asSt : T → Option Str
  | .str i => some i
  | _ => none
def asTu : T → Option (List T)
  | .tup xs => some xs
  | _ => none
def asLi : T → Option (List T)
  | .lst xs => some xs
  | _ => none
theorem asBo_eq {x : T} {b : Bool} (h : asBo x = some b) : x = .bl b := by cases x <;> cases h; rfl
theorem asIn_eq {x : T} {b : Int} (h : asIn x = some b) : x = .int b := by cases x <;> cases h; rfl
theorem asSt_eq {x : T} {b : Str} (h : asSt x = some b) : x = .str b := by cases x <;> cases h; rfl
theorem map_eA (xs : List T) : xs.map eA = xs := List.map_id xs
theorem asTu_eq {x : T} {b : List T} (h : asTu x = some b) : x = eU eA b := by rw [eU, map_eA]; cases x <;> cases h; rfl
theorem asLi_eq {x : T} {b : List T} (h : asLi x = some b) : x = eL eA b := by rw [eL, map_eA]; cases x <;> cases h; rfl
end
/-! ### ints -/
section
variable {a b c : Int}
def oMul (a b : Int) : Option Int := if smallI a || smallI b then some (a * b) else none
def oDiv (a b : Int) : Option Int := if 0 < b ∧ b.natAbs < 18446744073709551616 then some (a / b) else none
def oMod (a b : Int) : Option Int := if 0 < b then some (a % b) else none
def oPow (a b : Int) : Option Int := if cpow a b then some (a ^ b.toNat) else none
def oShl (a b : Int) : Option Int := if cpow a b then some (a * 2 ^ b.toNat) else none
def oShr (a b : Int) : Option Int := if 0 ≤ b then some (a / 2 ^ b.toNat) else none
theorem g_add : gAdd (.int a) (.int b) = some (.int (a + b)) := rfl
theorem g_sub : gSub (.int a) (.int b) = some (.int (a - b)) := rfl
theorem g_mul (h : oMul a b = some c) : gMul (.int a) (.int b) = some (.int c) := by
  unfold oMul at h; unfold gMul; split at h
  · rename_i k; cases h; simp only [k, if_true]
  · cases h
theorem g_div (h : oDiv a b = some c) : gDiv (.int a) (.int b) = some (.int c) := by
  unfold oDiv at h; unfold gDiv; split at h
  · rename_i k; cases h; simp only [k, and_self, if_true]
  · cases h
theorem g_mod (h : oMod a b = some c) : gMod (.int a) (.int b) = some (.int c) := by
  unfold oMod at h; unfold gMod; split at h
  · rename_i k; cases h; simp only [k, if_true]
  · cases h
theorem g_pow (h : oPow a b = some c) : gPow (.int a) (.int b) = some (.int c) := by
  unfold oPow at h; unfold gPow; split at h
  · rename_i k; cases h; simp only [k, if_true]
  · cases h
theorem g_shl (h : oShl a b = some c) : gShl (.int a) (.int b) = some (.int c) := by
  unfold oShl at h; unfold gShl; split at h
  · rename_i k; cases h; simp only [k, if_true]
  · cases h
theorem g_shr (h : oShr a b = some c) : gShr (.int a) (.int b) = some (.int c) := by
  unfold oShr at h; unfold gShr; split at h
  · rename_i k; cases h; simp only [k, if_true]
  · cases h
theorem g_and : gAnd (.int a) (.int b) = some (.int (Builtin.bitAnd a b)) := rfl
theorem g_or : gOr (.int a) (.int b) = some (.int (Builtin.bitOr a b)) := rfl
theorem g_neg : gNeg (.int a) = some (.int (-a)) := rfl
theorem g_eqI : gEq (.int a) (.int b) = some (.bl (decide (a = b))) := by
  simp [gEq, shp, lay, dep, eqT]
  by_cases h : a = b <;> simp [h]
theorem g_neI : gNe (.int a) (.int b) = some (.bl (!decide (a = b))) := by
  simp [gNe, shp, lay, dep, eqT]
  by_cases h : a = b <;> simp [h]
theorem g_lt : gLt (.int a) (.int b) = some (.bl (decide (a < b))) := rfl
theorem g_le : gLe (.int a) (.int b) = some (.bl (decide (a ≤ b))) := rfl
theorem g_gt : gGt (.int a) (.int b) = some (.bl (decide (b < a))) := rfl
theorem g_ge : gGe (.int a) (.int b) = some (.bl (decide (b ≤ a))) := rfl
theorem g_bits : gBitLen (.int a) = some (.int ((Builtin.Int.intBits a : Nat) : Int)) := rfl
theorem g_abs : bAbs [.int a] = some (.int (if a < 0 then -a else a)) := rfl
theorem g_min2 : bMin [.int a, .int b] = some (.int (if b < a then b else a)) := rfl
theorem g_max2 : bMax [.int a, .int b] = some (.int (if b > a then b else a)) := rfl
theorem g_eqS {x y : Str} : gEq (.str x) (.str y) = some (.bl (decide (x = y))) := rfl
theorem g_neS {x y : Str} : gNe (.str x) (.str y) = some (.bl (!decide (x = y))) := rfl
end
/-! ### what may be compared -/
theorem eqTs_nil (xs : List T) : eqTs xs [] = xs.isEmpty := by cases xs <;> rfl
theorem gEq_shp {x y : T} (h1 : shp x = true) (h2 : shp y = true) : gEq x y = some (.bl (eqT x y)) := by
  unfold gEq
  split
  · simp [eqT]
    rename_i a b
    by_cases h : a = b <;> simp [h]
  · rename_i xs
    show _ = some (T.bl (eqTs xs []))
    rw [eqTs_nil]
  · rename_i xs
    show _ = some (T.bl (eqTs xs []))
    rw [eqTs_nil]
  · simp [h1, h2]
theorem gNe_shp {x y : T} (h1 : shp x = true) (h2 : shp y = true) : gNe x y = some (.bl (!eqT x y)) := by
  unfold gNe
  split
  · simp [eqT]
    rename_i a b
    by_cases h : a = b <;> simp [h]
  · rename_i xs
    show _ = some (T.bl (!eqTs xs []))
    rw [eqTs_nil]
  · rename_i xs
    show _ = some (T.bl (!eqTs xs []))
    rw [eqTs_nil]
  · simp [h1, h2]
structure Lay {α : Type} (e : α → T) (k : Nat) : Prop where
  lay : ∀ x, lay (e x) = true
  dep : ∀ x, dep (e x) ≤ k
structure Nice {α : Type} (e : α → T) (k : Nat) : Prop extends Lay e k where
  inj : ∀ x y, eqT (e x) (e y) = true ↔ x = y
section
variable {α β γ : Type} {e : α → T} {e' : β → T} {e'' : γ → T} {k k' k'' : Nat}
theorem Lay.shp (h : Lay e k) (hk : k ≤ 60) (x : α) : shp (e x) = true := by
  unfold Dl.shp
  rw [h.lay x]
  have := h.dep x
  simp; omega
theorem lay_int : Lay T.int 0 := ⟨fun _ => rfl, fun _ => Nat.le_refl _⟩
theorem lay_bl : Lay T.bl 0 := ⟨fun _ => rfl, fun _ => Nat.le_refl _⟩
theorem nice_int : Nice T.int 0 := ⟨lay_int, fun x y => by simp [eqT]⟩
theorem nice_bl : Nice T.bl 0 := ⟨lay_bl, fun x y => by simp [eqT]⟩
theorem lays_map (h : Lay e k) : ∀ xs : List α, lays (xs.map e) = true
  | [] => rfl
  | x :: xs => by rw [List.map_cons, lays, h.lay x, lays_map h xs]; rfl
theorem deps_map (h : Lay e k) : ∀ xs : List α, deps (xs.map e) ≤ k
  | [] => Nat.zero_le _
  | x :: xs => by rw [List.map_cons, deps]; have := h.dep x; have := deps_map h xs; omega
theorem lay_U (h : Lay e k) : Lay (eU e) (k + 1) := ⟨fun xs => by show lays _ = true; exact lays_map h xs, fun xs => by show deps _ + 1 ≤ _; have := deps_map h xs; omega⟩
theorem lay_L (h : Lay e k) : Lay (eL e) (k + 1) := ⟨fun xs => by show lays _ = true; exact lays_map h xs, fun xs => by show deps _ + 1 ≤ _; have := deps_map h xs; omega⟩
theorem lay_P2 (h : Lay e k) (h' : Lay e' k') : Lay (eP2 e e') (k + k' + 1) := ⟨fun p => by show (lay _ && (lay _ && true)) = true; rw [h.lay, h'.lay]; rfl, fun p => by show max (dep _) (max (dep _) 0) + 1 ≤ _; have := h.dep p.1; have := h'.dep p.2; omega⟩
theorem eqTs_map (h : Nice e k) : ∀ xs ys : List α, eqTs (xs.map e) (ys.map e) = true ↔ xs = ys
  | [], [] => by simp [eqTs]
  | [], _ :: _ => by simp [eqTs]
  | _ :: _, [] => by simp [eqTs]
  | x :: xs, y :: ys => by
    rw [List.map_cons, List.map_cons, eqTs, Bool.and_eq_true, h.inj, eqTs_map h xs ys]
    simp
theorem nice_U (h : Nice e k) : Nice (eU e) (k + 1) := ⟨lay_U h.toLay, fun xs ys => by show eqTs _ _ = true ↔ _; exact eqTs_map h xs ys⟩
theorem nice_L (h : Nice e k) : Nice (eL e) (k + 1) := ⟨lay_L h.toLay, fun xs ys => by show eqTs _ _ = true ↔ _; exact eqTs_map h xs ys⟩
theorem nice_P2 (h : Nice e k) (h' : Nice e' k') : Nice (eP2 e e') (k + k' + 1) := ⟨lay_P2 h.toLay h'.toLay, fun p q => by
  show (eqT _ _ && (eqT _ _ && true)) = true ↔ _
  rw [Bool.and_true, Bool.and_eq_true, h.inj, h'.inj]
  constructor
  · intro z; exact Prod.ext z.1 z.2
  · intro z; rw [z]; exact ⟨rfl, rfl⟩⟩
theorem g_eqN [DecidableEq α] (h : Nice e k) (hk : k ≤ 60) (x y : α) : gEq (e x) (e y) = some (.bl (decide (x = y))) := by
  rw [gEq_shp (h.shp hk x) (h.shp hk y)]
  congr 2
  rw [Bool.eq_iff_iff, h.inj, decide_eq_true_eq]
theorem g_neN [DecidableEq α] (h : Nice e k) (hk : k ≤ 60) (x y : α) : gNe (e x) (e y) = some (.bl (!decide (x = y))) := by
  rw [gNe_shp (h.shp hk x) (h.shp hk y)]
  congr 2
  rw [Bool.eq_iff_iff]
  simp [← h.inj]
theorem shp_nilL : shp (.lst []) = true := rfl
theorem shp_nilU : shp (.tup []) = true := rfl
theorem g_eqE (xs : List α) : gEq (eL e xs) (.lst []) = some (.bl xs.isEmpty) := by
  show some (T.bl (xs.map e).isEmpty) = _
  cases xs <;> rfl
theorem g_neE (xs : List α) : gNe (eL e xs) (.lst []) = some (.bl (!xs.isEmpty)) := by
  show some (T.bl (!(xs.map e).isEmpty)) = _
  cases xs <;> rfl
theorem g_eqEU (xs : List α) : gEq (eU e xs) (.tup []) = some (.bl xs.isEmpty) := by
  show some (T.bl (xs.map e).isEmpty) = _
  cases xs <;> rfl
theorem g_neEU (xs : List α) : gNe (eU e xs) (.tup []) = some (.bl (!xs.isEmpty)) := by
  show some (T.bl (!(xs.map e).isEmpty)) = _
  cases xs <;> rfl
/-! ### lists and tuples -/
def catO (xs ys : List α) : Option (List α) := if xs.length + ys.length ≤ 16777216 then some (xs ++ ys) else none
def repO (xs : List α) (k : Int) : Option (List α) := if 0 ≤ k ∧ k < 1000000 ∧ xs.length * k.toNat ≤ 16777216 then some (List.replicate k.toNat xs).flatten else none
def appO (xs : List α) (x : α) : Option (List α) := if xs.length < 16777216 then some (xs ++ [x]) else none
theorem g_catL {xs ys zs : List α} (h : catO xs ys = some zs) : gAdd (eL e xs) (eL e ys) = some (eL e zs) := by
  unfold catO at h
  split at h
  · rename_i k; cases h
    show (if (xs.map e).length + (ys.map e).length ≤ cap then _ else _) = _
    rw [List.length_map, List.length_map, if_pos (show xs.length + ys.length ≤ cap from k), ← List.map_append]
  · cases h
theorem g_catU {xs ys zs : List α} (h : catO xs ys = some zs) : gAdd (eU e xs) (eU e ys) = some (eU e zs) := by
  unfold catO at h
  split at h
  · rename_i k; cases h
    show (if (xs.map e).length + (ys.map e).length ≤ cap then _ else _) = _
    rw [List.length_map, List.length_map, if_pos (show xs.length + ys.length ≤ cap from k), ← List.map_append]
  · cases h
theorem gn_cat {xs ys zs : List α} (h : catO xs ys = some zs) : gCat (eL e xs) (eL e ys) = some (zs.map e) := by
  unfold catO at h
  split at h
  · rename_i k; cases h
    show (if (xs.map e).length + (ys.map e).length ≤ cap then _ else _) = _
    rw [List.length_map, List.length_map, if_pos (show xs.length + ys.length ≤ cap from k), ← List.map_append]
  · cases h
theorem g_repL {xs zs : List α} {n : Int} (h : repO xs n = some zs) : gMul (eL e xs) (.int n) = some (eL e zs) := by
  unfold repO at h
  split at h
  · rename_i k; cases h
    show (if 0 ≤ n ∧ n < 1000000 ∧ (xs.map e).length * n.toNat ≤ cap then _ else _) = _
    rw [List.length_map, if_pos (show 0 ≤ n ∧ n < 1000000 ∧ xs.length * n.toNat ≤ cap from k), eL, List.map_flatten, List.map_replicate]
  · cases h
def rptO (xs : List α) (k : Int) : Option (List α) := if k.natAbs ≤ 1000 ∧ xs.length ≤ 1000 then some (List.replicate k.toNat xs).flatten else none
theorem g_repU {xs zs : List α} {n : Int} (h : rptO xs n = some zs) : gMul (eU e xs) (.int n) = some (eU e zs) := by
  unfold rptO at h
  split at h
  · rename_i k; cases h
    show (if n.natAbs ≤ 1000 ∧ (xs.map e).length ≤ 1000 then _ else _) = _
    rw [List.length_map, if_pos k, eU, List.map_flatten, List.map_replicate]
  · cases h
theorem gn_rep {xs zs : List α} {n : Int} (h : repO xs n = some zs) : gRep (eL e xs) (.int n) = some (zs.map e) := by
  unfold repO at h
  split at h
  · rename_i k; cases h
    show (if 0 ≤ n ∧ n < 1000000 ∧ (xs.map e).length * n.toNat ≤ cap then _ else _) = _
    rw [List.length_map, if_pos (show 0 ≤ n ∧ n < 1000000 ∧ xs.length * n.toNat ≤ cap from k), List.map_flatten, List.map_replicate]
  · cases h
theorem atI_map {xs : List α} {i : Int} {y : α} (h : L2.atI xs i = some y) : L2.atI (xs.map e) i = some (e y) := by
  unfold L2.atI at h ⊢
  rw [List.length_map]
  cases hx : L2.ixN xs.length i with
  | none => rw [hx] at h; cases h
  | some j =>
    rw [hx] at h
    simp only [Option.bind_some] at h ⊢
    rw [List.getElem?_map, h]; rfl
theorem g_ixL {xs : List α} {i : Int} {y : α} (h : L2.atI xs i = some y) : ixT (eL e xs) (.int i) = some (e y) := atI_map h
theorem g_ixU {xs : List α} {i : Int} {y : α} (h : L2.atI xs i = some y) : ixT (eU e xs) (.int i) = some (e y) := atI_map h
theorem g_slL (xs : List α) (lo hi : Option Int) : gSl (eL e xs) lo hi = some (eL e (cutL xs lo hi)) := by show some (T.lst (cutL (xs.map e) lo hi)) = _; rw [cutL_map]
theorem g_slU (xs : List α) (lo hi : Option Int) : gSl (eU e xs) lo hi = some (eU e (cutL xs lo hi)) := by show some (T.tup (cutL (xs.map e) lo hi)) = _; rw [cutL_map]
theorem g_revL (xs : List α) : gRevA (eL e xs) = some (eL e xs.reverse) := by show some (T.lst (xs.map e).reverse) = _; rw [← List.map_reverse]
theorem g_revU (xs : List α) : gRevA (eU e xs) = some (eU e xs.reverse) := by show some (T.tup (xs.map e).reverse) = _; rw [← List.map_reverse]
theorem g_lenL (xs : List α) : bLen [eL e xs] = some (.int xs.length) := by show some (T.int ((xs.map e).length : Nat)) = _; rw [List.length_map]
theorem g_lenU (xs : List α) : bLen [eU e xs] = some (.int xs.length) := by show some (T.int ((xs.map e).length : Nat)) = _; rw [List.length_map]
theorem g_tupL (xs : List α) : bTuple [eL e xs] = some (eU e xs) := rfl
theorem g_tupU (xs : List α) : bTuple [eU e xs] = some (eU e xs) := rfl
theorem g_lstL (xs : List α) : lst1 bList [eL e xs] = some (eL e xs) := rfl
theorem g_lstU (xs : List α) : lst1 bList [eU e xs] = some (eL e xs) := rfl
theorem gn_lstL (xs : List α) : bList [eL e xs] = some (xs.map e) := rfl
theorem gn_lstU (xs : List α) : bList [eU e xs] = some (xs.map e) := rfl
theorem g_sum (ns : List Int) : bSum [eL T.int ns] = some (.int ns.sum) := by show (intsOf (ns.map T.int)).bind _ = _; rw [intsOf_map]; rfl
theorem g_all (bs : List Bool) : bAll [eL T.bl bs] = some (.bl (bs.all fun b => b)) := by show (bls (bs.map T.bl)).bind _ = _; rw [bls_map]; rfl
theorem g_any (bs : List Bool) : bAny [eL T.bl bs] = some (.bl (bs.any fun b => b)) := by show (bls (bs.map T.bl)).bind _ = _; rw [bls_map]; rfl
theorem g_srtL (ns : List Int) : lst1 bSorted [eL T.int ns] = some (eL T.int (isort ns)) := by show ((intsOf (ns.map T.int)).map _).map _ = _; rw [intsOf_map]; rfl
theorem g_srtU (ns : List Int) : lst1 bSorted [eU T.int ns] = some (eL T.int (isort ns)) := by show ((intsOf (ns.map T.int)).map _).map _ = _; rw [intsOf_map]; rfl
def minO (ns : List Int) : Option Int := if ns.isEmpty then none else some (minI ns)
def maxO (ns : List Int) : Option Int := if ns.isEmpty then none else some (maxI ns)
theorem g_minL {ns : List Int} {m : Int} (h : minO ns = some m) : bMin [eL T.int ns] = some (.int m) := by
  show (intsOf (ns.map T.int)).bind _ = _
  rw [intsOf_map]
  unfold minO at h
  simp only [Option.bind_some]
  split at h
  · cases h
  · rename_i k; cases h; rw [if_neg k]
theorem g_maxL {ns : List Int} {m : Int} (h : maxO ns = some m) : bMax [eL T.int ns] = some (.int m) := by
  show (intsOf (ns.map T.int)).bind _ = _
  rw [intsOf_map]
  unfold maxO at h
  simp only [Option.bind_some]
  split at h
  · cases h
  · rename_i k; cases h; rw [if_neg k]
theorem any_int (x : Int) : ∀ ns : List Int, (ns.map T.int).any (fun z => eqT z (.int x)) = decide (x ∈ ns)
  | [] => by simp
  | n :: ns => by
    rw [List.map_cons, List.any_cons, any_int x ns]
    rw [Bool.eq_iff_iff]
    simp [eqT]
    constructor
    · rintro (h | h)
      · exact .inl h.symm
      · exact .inr h
    · rintro (h | h)
      · exact .inl h.symm
      · exact .inr h
theorem flat_ints : ∀ ns : List Int, (ns.map T.int).all flat = true
  | [] => rfl
  | n :: ns => by rw [List.map_cons, List.all_cons, flat_ints ns]; rfl
theorem g_inL (x : Int) (ns : List Int) : gIn (.int x) (eL T.int ns) = some (.bl (decide (x ∈ ns))) := by
  show Option.map T.bl (if flat (.int x) && (ns.map T.int).all flat then some ((ns.map T.int).any fun z => eqT z (.int x)) else none) = _
  rw [flat_ints, any_int]; rfl
theorem g_inU (x : Int) (ns : List Int) : gIn (.int x) (eU T.int ns) = some (.bl (decide (x ∈ ns))) := g_inL x ns
theorem g_ninL (x : Int) (ns : List Int) : gNotIn (.int x) (eL T.int ns) = some (.bl (!decide (x ∈ ns))) := by
  show Option.map _ (if flat (.int x) && (ns.map T.int).all flat then some ((ns.map T.int).any fun z => eqT z (.int x)) else none) = _
  rw [flat_ints, any_int]; rfl
theorem g_ninU (x : Int) (ns : List Int) : gNotIn (.int x) (eU T.int ns) = some (.bl (!decide (x ∈ ns))) := g_ninL x ns
/-! ### products -/
theorem ix2_0 (p : α × β) : ixT (eP2 e e' p) (.int 0) = some (e p.1) := by simp [ixT, L2.atI, L2.ixN]
theorem ix2_1 (p : α × β) : ixT (eP2 e e' p) (.int 1) = some (e' p.2) := by simp [ixT, L2.atI, L2.ixN]
theorem ix3_0 (p : α × β × γ) : ixT (eP3 e e' e'' p) (.int 0) = some (e p.1) := by simp [ixT, L2.atI, L2.ixN]
theorem ix3_1 (p : α × β × γ) : ixT (eP3 e e' e'' p) (.int 1) = some (e' p.2.1) := by simp [ixT, L2.atI, L2.ixN]
theorem ix3_2 (p : α × β × γ) : ixT (eP3 e e' e'' p) (.int 2) = some (e'' p.2.2) := by simp [ixT, L2.atI, L2.ixN]
/-! ### is None, isinstance, repr, str -/
theorem g_isO (h : ∀ x, isN (e x) = false) (o : Option α) : gIs (eO e o) .non = some (.bl o.isNone) := by
  cases o with
  | none => rfl
  | some x => show some (T.bl (isN (e x))) = _; rw [h x]; rfl
theorem g_isnO (h : ∀ x, isN (e x) = false) (o : Option α) : gIsNot (eO e o) .non = some (.bl o.isSome) := by
  cases o with
  | none => rfl
  | some x => show some (T.bl (!isN (e x))) = _; rw [h x]; rfl
theorem g_isA (x : T) : gIs x .non = some (.bl (isN x)) := rfl
theorem g_isnA (x : T) : gIsNot x .non = some (.bl (!isN x)) := rfl
def oRepr (x : T) : Option Str := if okR x && (toPy x).showable && decide ((toPy x).shown.length ≤ cap) && decide ((toPy x).depth ≤ 60) then some (toPy x).shown else none
theorem g_repr {x : T} {s : Str} (h : oRepr x = some s) : bReprA [x] = some (.str s) := by
  unfold oRepr at h
  unfold bReprA
  simp only
  split at h
  · rename_i k; cases h; rw [if_pos k]
  · cases h
def oStr (n : Int) : Option Str := if n.natAbs.log2 < 1920 then some (toString n : String) else none
theorem g_str {n : Int} {s : Str} (h : oStr n = some s) : bStr [.int n] = some (.str s) := by
  unfold oStr at h
  unfold bStr
  simp only
  split at h
  · rename_i k; cases h; rw [if_pos k]
  · cases h
end
/-! ### methods, by the word of what they give -/
section
variable {P P1 P2 : Sto} {Γ Γ1 Γ2 : List Sl} {f fa fi : Ex} {v v1 v2 : Vl} {i : Nat} {α : Type}
theorem jx_append (e : α → T) {xs ys : List α} {x : α} (hy : appO xs x = some ys) (ha : JX P Γ fa P1 Γ1 v) (h0 : (gS Γ i).isL = true) (h1 : gS Γ1 i = .bx (.lst (xs.map e))) (h2 : tv Γ1 v = some (e x)) :
    JX P Γ (eM1 kAppend (eVar i) fa) P1 (Γ1.set i (.bx (.lst (ys.map e)))) (.t .non) := by
  unfold appO at hy
  split at hy
  · rename_i k; cases hy; exact j_append e xs x ha k h0 h1 h2
  · cases hy
theorem jx_extend (e : α → T) {xs ys zs : List α} (hy : catO xs ys = some zs) (ha : JX P Γ fa P1 Γ1 v) (h0 : (gS Γ i).isL = true) (h1 : gS Γ1 i = .bx (.lst (xs.map e))) (h2 : lv Γ1 v = some (.lst (ys.map e))) :
    JX P Γ (eM1 kExtend (eVar i) fa) P1 (Γ1.set i (.bx (.lst (zs.map e)))) (.t .non) := by
  unfold catO at hy
  split at hy
  · rename_i k; cases hy; exact j_extend e xs ys ha k h0 h1 h2
  · cases hy
end
theorem bo_eq {o : Option T} {b : Bool} (h : o.bind asBo = some b) : o = some (.bl b) := by
  cases o with
  | none => cases h
  | some x => rw [asBo_eq h]
theorem in_eq {o : Option T} {b : Int} (h : o.bind asIn = some b) : o = some (.int b) := by
  cases o with
  | none => cases h
  | some x => rw [asIn_eq h]
def asP2 : T → Option (T × T)
  | .tup [a, b] => some (a, b)
  | _ => none
def asP3 : T → Option (T × T × T)
  | .tup [a, b, c] => some (a, b, c)
  | _ => none
def asP5 : T → Option (T × T × T × T × T)
  | .tup [a, b, c, d, e] => some (a, b, c, d, e)
  | _ => none
theorem asP2_eq {x : T} {a b : T} (h : asP2 x = some (a, b)) : some x = some (.tup [a, b]) := by
  unfold asP2 at h
  split at h
  · cases h; rfl
  · cases h
theorem asP3_eq {x : T} {a b c : T} (h : asP3 x = some (a, b, c)) : some x = some (.tup [a, b, c]) := by
  unfold asP3 at h
  split at h
  · cases h; rfl
  · cases h
theorem asP5_eq {x : T} {a b c d e : T} (h : asP5 x = some (a, b, c, d, e)) : some x = some (.tup [a, b, c, d, e]) := by
  unfold asP5 at h
  split at h
  · cases h; rfl
  · cases h
/-! ### more rules -/
theorem capOk {n : Nat} (h : n.ble 1000 = true) : n ≤ cap := Nat.le_trans (Nat.le_of_ble_eq_true h) (by decide)
section
variable {P P1 : Sto} {Γ Γ1 : List Sl} {fa fb : Ex} {t u : Tx} {v : Vl} {b c d : Bool}
theorem jc_andE (h : JC P Γ t P1 Γ1 c) (h1 : c = true → JC P1 Γ1 u P1 Γ1 d) (h2 : c = false → d = false) : JC P Γ (tAndD t u) P1 Γ1 d := jc_and h h1 fun z => ⟨h2 z, rfl, rfl⟩
theorem jc_orE (h : JC P Γ t P1 Γ1 c) (h1 : c = false → JC P1 Γ1 u P1 Γ1 d) (h2 : c = true → d = true) : JC P Γ (tOrD t u) P1 Γ1 d := jc_or h h1 fun z => ⟨h2 z, rfl, rfl⟩
theorem j_andE (h : JX P Γ fa P1 Γ1 v) (h1 : c = true → ∃ v', JX P1 Γ1 fb P1 Γ1 v' ∧ tv Γ1 v' = some (.bl d)) (h2 : c = false → d = false) (e : tv Γ1 v = some (.bl c)) : JX P Γ (eAnd fa fb) P1 Γ1 (.t (.bl d)) := j_and h h1 (fun z => ⟨h2 z, rfl, rfl⟩) e
theorem j_orE (h : JX P Γ fa P1 Γ1 v) (h1 : c = false → ∃ v', JX P1 Γ1 fb P1 Γ1 v' ∧ tv Γ1 v' = some (.bl d)) (h2 : c = true → d = true) (e : tv Γ1 v = some (.bl c)) : JX P Γ (eOr fa fb) P1 Γ1 (.t (.bl d)) := j_or h h1 (fun z => ⟨h2 z, rfl, rfl⟩) e
theorem j_ifE {x' : T} (h : JC P Γ t P1 Γ1 b) (h1 : b = true → ∃ v', JX P1 Γ1 fa P1 Γ1 v' ∧ tv Γ1 v' = some x') (h2 : b = false → ∃ v', JX P1 Γ1 fb P1 Γ1 v' ∧ tv Γ1 v' = some x') : JX P Γ (eIf t fa fb) P1 Γ1 (.t x') := j_if h h1 h2
end
section
variable {P P1 P2 : Sto} {Γ Γ1 Γ2 : List Sl} {f fa fi : Ex} {fs : Exs} {v v1 v2 : Vl} {i : Nat} {α : Type}
theorem jn_eq (e : α → T) {xs ys : List α} (h : some xs = some ys) (k : JN P Γ f P1 Γ1 (.lst (xs.map e))) : JN P Γ f P1 Γ1 (.lst (ys.map e)) := by cases h; exact k
theorem rngL_V (lo hi : Int) : (rngL lo hi).map T.int = rngV lo hi := by unfold rngL rngV; rw [List.map_map]; rfl
theorem lrgA {hi : Int} (h : rok 0 hi = true) : lrg [.t (.int hi)] = some (0, hi) := by unfold lrg; simp [h]
theorem lrgB {lo hi : Int} (h : rok lo hi = true) : lrg [.t (.int lo), .t (.int hi)] = some (lo, hi) := by unfold lrg; simp [h]
theorem j_listR1 {hi : Int} (h : JA P Γ fs P1 Γ1 [v]) (hr : rok 0 hi = true) (e : tv Γ1 v = some (.int hi)) : JX P Γ (eListR1 fs) P1 Γ1 (.t (eL T.int (rngL 0 hi))) := by
  intro ρ S a
  obtain ⟨ws, S1, e1, a1, k1, r1⟩ := h ρ S a
  have hl := vls_len k1
  match ws, hl with
  | [w], _ =>
    have := tv_tree a1 k1.1 e
    subst this
    refine ⟨_, S1, ?_, a1, rfl, r1⟩
    unfold eListR1
    rw [e1, bind_ok', lrgA hr, eL, rngL_V]; rfl
theorem jn_listR1 {hi : Int} (h : JA P Γ fs P1 Γ1 [v]) (hr : rok 0 hi = true) (e : tv Γ1 v = some (.int hi)) : JN P Γ (eListR1B fs) P1 Γ1 (.lst ((rngL 0 hi).map T.int)) := by
  intro ρ S a
  obtain ⟨ws, S1, e1, a1, k1, r1⟩ := h ρ S a
  have hl := vls_len k1
  match ws, hl with
  | [w], _ =>
    have := tv_tree a1 k1.1 e
    subst this
    refine ⟨S1, ?_, a1, r1⟩
    unfold eListR1B
    rw [e1, bind_ok', lrgA hr, rngL_V]
theorem j_listR2 {lo hi : Int} (h : JA P Γ fs P1 Γ1 [v1, v2]) (hr : rok lo hi = true) (e : tv Γ1 v1 = some (.int lo)) (e' : tv Γ1 v2 = some (.int hi)) : JX P Γ (eListR2 fs) P1 Γ1 (.t (eL T.int (rngL lo hi))) := by
  intro ρ S a
  obtain ⟨ws, S1, e1, a1, k1, r1⟩ := h ρ S a
  have hl := vls_len k1
  match ws, hl with
  | [w, w'], _ =>
    have := tv_tree a1 k1.1 e
    subst this
    have := tv_tree a1 k1.2.1 e'
    subst this
    refine ⟨_, S1, ?_, a1, rfl, r1⟩
    unfold eListR2 eListR1
    rw [e1, bind_ok', lrgB hr, eL, rngL_V]; rfl
theorem js_aug {k : Int → Int → Int} {a b c : Int} (i : Nat) (h : JX P Γ f P1 Γ1 v) (e1' : (gS Γ i).tree = some (.int a)) (e2 : tv Γ1 v = some (.int b)) (hc : some (k a b) = some c) : JS P Γ (sAug i k f) (.nx P1 (Γ1.set i (.tr (.int c)))) := by
  cases hc
  intro ρ S ag
  have q := ag.slot i
  have hs : gE ρ i = some (.t (.int a)) := by
    cases hs : gS Γ i with
    | tr y => rw [hs] at q e1'; cases e1'; exact q
    | un => rw [hs] at e1'; cases e1'
    | vw _ => rw [hs] at e1'; cases e1'
    | bx _ => rw [hs] at e1'; cases e1'
    | bn _ _ => rw [hs] at e1'; cases e1'
    | dk => rw [hs] at e1'; cases e1'
  obtain ⟨w, S1, e1, a1, k1, r1⟩ := h ρ S ag
  have := tv_tree a1 k1 e2
  subst this
  refine ⟨_, S1, ?_, a1.set (s := .tr (.int (k a b))) (o := some (.t (.int (k a b)))) rfl rfl i⟩
  unfold sAug
  have hj := gE_get ρ i
  rw [hs] at hj
  cases hx : ρ[i]? with
  | none => rw [hx] at hj; cases hj
  | some o => rw [hx] at hj; cases hj; simp only [e1, thenS_ok]
theorem js_augAdd {a b c : Int} (i : Nat) (h : JX P Γ f P1 Γ1 v) (e1' : (gS Γ i).tree = some (.int a)) (e2 : tv Γ1 v = some (.int b)) (hc : some (a + b) = some c) : JS P Γ (sAug i kAdd f) (.nx P1 (Γ1.set i (.tr (.int c)))) := js_aug i h e1' e2 hc
theorem js_augSub {a b c : Int} (i : Nat) (h : JX P Γ f P1 Γ1 v) (e1' : (gS Γ i).tree = some (.int a)) (e2 : tv Γ1 v = some (.int b)) (hc : some (a - b) = some c) : JS P Γ (sAug i kSub f) (.nx P1 (Γ1.set i (.tr (.int c)))) := js_aug i h e1' e2 hc
end
end Dl
/-! Dm6: the deck's draw, the law's own start. -/
namespace Dl
open PySem
theorem nx_loopU {m : Int} (h0 : 0 < m) (h1 : m < 18446744073709551616) (cs : List Int) (n : Int) : ∀ (ds : List Int) (L : Nat) (x : Option W), ds.length < L →
    (∃ v ds', (∀ Z, whL nxT nxB L [some (.r 2), some (.t (.int m)), none, none, x] (dk ⟨ds, cs, n⟩ Z) = .rt (.t (.int v)) (dk ⟨ds', cs, n⟩ Z)) ∧ 0 ≤ v ∧ v < m ∧ ds'.length ≤ ds.length) ∨
    ∃ x', ∀ Z, whL nxT nxB L [some (.r 2), some (.t (.int m)), none, none, x] (dk ⟨ds, cs, n⟩ Z) = .nx [some (.r 2), some (.t (.int m)), none, none, x'] (dk ⟨[], cs, n⟩ Z)
  | [], 0, _, h => absurd h (Nat.lt_irrefl _)
  | [], L + 1, x, _ => by
    refine .inr ⟨x, fun Z => ?_⟩
    have e := ne_nil []
    rw [List.map_nil] at e
    simp [whL, e]
  | d :: ds, 0, _, h => absurd h (Nat.not_lt_zero _)
  | d :: ds, L + 1, x, h => by
    have h1' : m.natAbs < 18446744073709551616 := by omega
    have hl : ds.length < L := by simpa using h
    have e := ne_nil (d :: ds)
    have p0 := put_ints0 d ds (d / m)
    have p1 := fun S => pop_ints0 S d ds
    rw [List.map_cons] at e p0 p1
    have s0 := fun (Z : Sto) (xs : List Int) => dks0 ⟨d :: ds, cs, n⟩ Z xs
    by_cases hd : 0 < d
    · refine .inl ⟨d % m, d / m :: ds, fun Z => ?_, Int.emod_nonneg _ (by omega), Int.emod_lt_of_pos _ h0, by simp⟩
      have s0 := s0 Z (d / m :: ds)
      simp [whL, e, atI0, hd, h0, h1', p0] 
      exact s0
    · rcases nx_loopU h0 h1 cs n ds L (some (.t (.int d))) hl with ⟨v, ds', h2, h3, h4, h5⟩ | ⟨x', h2⟩
      · refine .inl ⟨v, ds', fun Z => ?_, h3, h4, by simp; omega⟩
        simp [whL, e, atI0, hd, h0, h1', p1]
        exact h2 Z
      · refine .inr ⟨x', fun Z => ?_⟩
        simp [whL, e, atI0, hd, h0, h1', p1]
        exact h2 Z
/-- a draw below m -/
theorem next_okU {δ : Deck} {b m : Int} (h : δ.Ok b) (hb : b < 1000000000000) (h0 : 0 < m) (h1 : m < 18446744073709551616) :
    ∃ v δ', (∀ Z, d__law_next [.r 2, .t (.int m)] (dk δ Z) = .ok (.t (.int v)) (dk δ' Z)) ∧ 0 ≤ v ∧ v < m ∧ δ'.Ok (b + 1) := by
  obtain ⟨ds, cs, n⟩ := δ
  have hL : ds.length < LL := Nat.lt_of_le_of_lt h.ds (by decide)
  rcases nx_loopU h0 h1 cs n ds LL none hL with ⟨v, ds', h2, h3, h4, h5⟩ | ⟨x', h2⟩
  · refine ⟨v, ⟨ds', cs, n⟩, fun Z => fn_dk0 rfl ?_, h3, h4, ⟨Nat.le_trans h5 h.ds, h.cs0, h.cs1, h.n0, Int.le_trans h.n1 (by omega)⟩⟩
    unfold b__law_next
    rw [ap_sCons]
    rw [show envOf 5 [W.r 2, .t (.int m)] = [some (.r 2), some (.t (.int m)), none, none, none] from rfl, h2 Z]
  · have n0 : 0 ≤ n := h.n0
    have n1 : n ≤ b := h.n1
    have c0 : 0 < cs.length := h.cs0
    have k1 : (0 : Int) < cs.length := by omega
    have k2 : 0 ≤ (n + 1) % (cs.length : Int) := Int.emod_nonneg _ (by omega)
    have k3 : (n + 1) % (cs.length : Int) < cs.length := Int.emod_lt_of_pos _ k1
    have a1 : L2.atI (cs.map T.int) ((n + 1) % (cs.length : Int)) = some (.int (cs[((n + 1) % (cs.length : Int)).toNat]'(by omega))) := by
      rw [atI_int k2 (by rw [List.length_map]; exact k3)]
      simp
    generalize cs[((n + 1) % (cs.length : Int)).toNat]'(by omega) = c at a1
    let cell := c % 2147483647
    have hc0 : 0 ≤ cell := Int.emod_nonneg _ (by decide)
    have hc1 : cell < 2147483647 := Int.emod_lt_of_pos _ (by decide)
    have q1 : smallI cell = true := by simp [smallI]; omega
    have q2 : smallI 69621 = true := by decide
    have q3 : smallI 40014 = true := by decide
    have q4 : smallI (n + 1) = true := by simp [smallI]; omega
    let mixed := (cell * (48271 + 69621 * (n + 1)) + 40014 * (n + 1) * (n + 1) + 79) % 2147483629
    have hm0 : 0 ≤ mixed := Int.emod_nonneg _ (by decide)
    have hm1 : mixed < 2147483629 := Int.emod_lt_of_pos _ (by decide)
    have q5 : smallI mixed = true := by simp [smallI]; omega
    refine ⟨mixed * mixed % 2147483587 / 16 % m, ⟨[], cs, n + 1⟩, fun Z => fn_dk0 rfl ?_, Int.emod_nonneg _ (by omega), Int.emod_lt_of_pos _ h0, ⟨by simp, h.cs0, h.cs1, by show 0 ≤ n + 1; omega, by show n + 1 ≤ b + 1; omega⟩⟩
    unfold b__law_next
    rw [ap_sCons]
    rw [show envOf 5 [W.r 2, .t (.int m)] = [some (.r 2), some (.t (.int m)), none, none, none] from rfl, h2 Z]
    have q1' : smallI (c % 2147483647) = true := q1
    have q5' : smallI ((c % 2147483647 * (48271 + 69621 * (n + 1)) + 40014 * (n + 1) * (n + 1) + 79) % 2147483629) = true := q5
    simp [put_vec2, c0, a1, h0, q2, q3, q4, q1', q5', mixed, cell]
open Classical in
/-- a draw -/
noncomputable def m_law_next (δ : Deck) (m : Int) : Option (Int × Deck) :=
  if h : ∃ r : Int × Deck, ∀ Z, d__law_next [.r 2, .t (.int m)] (dk δ Z) = .ok (.t (.int r.1)) (dk r.2 Z) then some h.choose else none
theorem r_law_next {δ0 δ' : Deck} {many v : Int} (h : m_law_next δ0 many = some (v, δ')) : FnD d__law_next [.d, .t (T.int many)] δ0 δ' (T.int v) := by
  unfold m_law_next at h
  split at h
  · rename_i k
    have e := Option.some.inj h
    have q := k.choose_spec
    rw [e] at q
    refine ⟨fun Z ws ha => ?_⟩
    match ws, ha with
    | [w1, w2], ⟨h1, h2, _⟩ =>
      have h1 : w1 = .r 2 := h1
      have h2 : w2 = .t (.int many) := h2
      subst h1; subst h2
      exact q Z
  · cases h
theorem next_spec {δ : Deck} {b m : Int} (h : δ.Ok b) (hb : b < 1000000000000) (h0 : 0 < m) (h1 : m < 18446744073709551616) :
    ∃ v δ', m_law_next δ m = some (v, δ') ∧ 0 ≤ v ∧ v < m ∧ δ'.Ok (b + 1) := by
  obtain ⟨v, δ', q, v0, v1, ok⟩ := next_okU h hb h0 h1
  have ex : ∃ r : Int × Deck, ∀ Z, d__law_next [.r 2, .t (.int m)] (dk δ Z) = .ok (.t (.int r.1)) (dk r.2 Z) := ⟨(v, δ'), q⟩
  refine ⟨v, δ', ?_, v0, v1, ok⟩
  unfold m_law_next
  rw [dif_pos ex]
  have q2 := ex.choose_spec
  have e := (q2 []).symm.trans (q [])
  have d1 : ex.choose.1 = v := by injection e with e1 _; injection e1 with e1; injection e1
  have d2 : dk ex.choose.2 [] = dk δ' [] := by injection e
  have d3 : ex.choose.2 = δ' := by
    have inj : ∀ a b : Deck, dk a [] = dk b [] → a = b := by
      intro a b z
      have mapinj : ∀ xs ys : List Int, xs.map T.int = ys.map T.int → xs = ys := fun xs ys h => (List.map_inj_right (fun x y h => by injection h)).mp h
      obtain ⟨a1, a2, a3⟩ := a
      obtain ⟨b1, b2, b3⟩ := b
      simp only [dk] at z
      injection z with z1 z
      injection z with z2 z
      injection z with z3 _
      injection z1 with z1
      injection z2 with z2
      injection z3 with z3
      injection z3 with _ z3
      injection z3 with _ z3
      injection z3 with z3 _
      injection z3 with z3
      injection z3 with z3
      have z1 : a1 = b1 := mapinj _ _ z1
      have z2 : a2 = b2 := mapinj _ _ z2
      subst z1; subst z2; subst z3; rfl
    exact inj _ _ d2
  rw [← d1, ← d3]
theorem j_dict0 {P : Sto} {Γ : List Sl} : JX P Γ eDict0 P Γ (.t (.dct [])) := fun ρ S a => ⟨_, S, rfl, a, rfl, .refl⟩
/-- the law: the deck first -/
theorem law_run {N m : Nat} {rest : Sx} {δ0 : Deck} {ns : List Int} {P : Sto} {z : T} (hN : 2 + m = N) (hd : d__law_deck [.t (.scr ns)] [] = .ok (.r 2) (dk δ0 [])) (h : JS (dk δ0 []) (.tr (.scr ns) :: .dk :: List.replicate m .un) rest (.rt P z)) :
    ∃ S', fnF 1 N (sCons (sSet 1 (eFn 1 d__law_deck (aCons (eVar 0) aNil))) rest) [.t (.scr ns)] [] = .ok (.t z) S' := by
  subst hN
  have e0 : envOf (2 + m) [W.t (.scr ns)] = some (.t (.scr ns)) :: none :: List.replicate m none := by
    unfold envOf
    rw [show 2 + m - [W.t (T.scr ns)].length = m + 1 by simp; omega]
    rfl
  have e1 : sSet 1 (eFn 1 d__law_deck (aCons (eVar 0) aNil)) (some (.t (.scr ns)) :: none :: List.replicate m none) [] = .nx (some (.t (.scr ns)) :: some (.r 2) :: List.replicate m none) (dk δ0 []) := by
    have : eFn 1 d__law_deck (aCons (eVar 0) aNil) (some (.t (.scr ns)) :: none :: List.replicate m none) [] = .ok (.r 2) (dk δ0 []) := by
      rw [ap_eFn, ap_aCons, show eVar 0 (some (W.t (.scr ns)) :: none :: List.replicate m none) [] = .ok (.t (.scr ns)) [] from rfl]
      simp only [bind_ok', ap_aNil, List.length_cons, List.length_nil, if_true, hd]
    rw [ap_sSet, this]; rfl
  have gEn : ∀ (m i : Nat), gE (List.replicate m none) i = none := by
    intro m
    induction m with
    | zero => intro i; rfl
    | succ m ih => intro i; cases i with
      | zero => rfl
      | succ i => rw [List.replicate_succ, gE, ih]
  have ag : Ag (dk δ0 []) (.tr (.scr ns) :: .dk :: List.replicate m .un) (some (.t (.scr ns)) :: some (.r 2) :: List.replicate m none) (dk δ0 []) := by
    refine ⟨Nat.le_refl 3, ⟨[], by simp⟩, by simp, fun i => ?_, fun i j n h1 _ _ _ => ?_⟩
    · match i with
      | 0 => exact rfl
      | 1 => exact rfl
      | i + 2 =>
        show SlOk _ _ (gE (List.replicate m none) i) (gS (List.replicate m .un) i)
        rw [gS_un]; trivial
    · match i with
      | 0 => cases h1
      | 1 => cases h1
      | i + 2 =>
        have h1 : (gS (List.replicate m .un) i).own = true := h1
        rw [gS_un] at h1; cases h1
  obtain ⟨w, S', e, ⟨C, hC⟩, k⟩ := h _ _ ag
  refine ⟨[], ?_⟩
  unfold fnF callF
  rw [if_pos (show [W.t (T.scr ns)].length = 1 from rfl), e0]
  have e2 : sCons (sSet 1 (eFn 1 d__law_deck (aCons (eVar 0) aNil))) rest (some (.t (.scr ns)) :: none :: List.replicate m none) [] = .rt w S' := by
    rw [sCons_nx e1, e]
  rw [e2]
  show (if truncOk [] S' then R.of (finW [] S' w) (S'.take 0) else .no) = _
  rw [show truncOk [] S' = true from rfl, if_pos rfl]
  have fw : finW [] S' w = some (.t z) := by
    rcases k with k | ⟨n, c, h1, h2, h3, h4⟩
    · rw [k]; rfl
    · rw [h1]
      show (if n < 0 then some (W.r n) else (S'[n]?.bind Cell.tree).map W.t) = _
      rw [if_neg (Nat.not_lt_zero _), h3]
      simp [h4]
  rw [fw]; rfl
end Dl
/-! DmF: plain functions of the defs that several laws share, and that the denotations do what they say (printed by tgen.py). -/
namespace Dl
open PySem
noncomputable section
def m_law_odd (δ0 : Deck) : Option (T × Deck) :=
  (some ([T.non, (T.bl true), (T.bl false), (T.int (0:Int)), (T.int (1:Int)), (T.int (-(1:Int))), (T.int (2:Int)), (T.int (8:Int)), (T.int (16:Int)), (T.int (1000000000000:Int)), (T.int ((1000000000000:Int) + (1:Int))), (T.int (100000000000000000000000000000000000000000000000000000000000:Int)), (T.str ("":Str)), (T.str ("0":Str)), (T.str ("order":Str)), (T.tup []), (eU T.int ([(0:Int)]))])).bind fun some_ =>
  (catO some_ ([(eP2 T.int T.int ((0:Int), (1:Int))), (T.lst []), (T.dct []), (eL T.int ([(0:Int)])), (eU T.bl ([true])), (eU eA ([(T.tup [])]))])).bind fun t1 =>
  (m_law_next δ0 (23:Int)).bind fun (v1, δ1) =>
  (L2.atI t1 v1).bind fun t2 =>
  some (t2, δ1)
theorem r_law_odd {δ0 δ' : Deck} {v : T} (h : m_law_odd δ0 = some (v, δ')) : FnD d__law_odd [.d] δ0 δ' v := by
  refine fnD_mk 1 2 (m := 1) rfl rfl fun Z => ?_
  unfold b__law_odd
  unfold m_law_odd at h
  replace h := ob h; obtain ⟨some_, h1, h⟩ := h
  refine js_cons (js_set (j_lst (ja_cons j_C (ja_cons j_C (ja_cons j_C (ja_cons j_C (ja_cons j_C (ja_cons (j_e1 j_C g_neg rfl) (ja_cons j_C (ja_cons j_C (ja_cons j_C (ja_cons (j_e2 j_C j_C (g_pow (c := 1000000000000) (by decide +kernel)) rfl rfl) (ja_cons (j_e2 (j_e2 j_C j_C (g_pow (c := 1000000000000) (by decide +kernel)) rfl rfl) j_C g_add rfl rfl) (ja_cons (j_e2 j_C j_C (g_pow (c := 100000000000000000000000000000000000000000000000000000000000) (by decide +kernel)) rfl rfl) (ja_cons j_C (ja_cons j_C (ja_cons j_C (ja_cons (j_tup ja_nil rfl (capOk rfl)) (ja_cons (j_tup (ja_cons j_C ja_nil) rfl (capOk rfl)) ja_nil))))))))))))))))) rfl (capOk rfl)) 1 (sv (eL eA) h1)) ?g5
  replace h := ob h; obtain ⟨t1, h2, h⟩ := h
  replace h := ob h; obtain ⟨⟨v1, δ1⟩, h3, h⟩ := h
  replace h := ob h; obtain ⟨t2, h4, h⟩ := h
  obtain ⟨hv, hd⟩ := Prod.mk.inj (Option.some.inj h); subst hv; subst hd
  exact js_ret (j_ix (j_e2 (j_var rfl) (j_lst (ja_cons (j_tup (ja_cons j_C (ja_cons j_C ja_nil)) rfl (capOk rfl)) (ja_cons (j_lst ja_nil rfl (capOk rfl)) (ja_cons j_dict0 (ja_cons (j_lst (ja_cons j_C ja_nil) rfl (capOk rfl)) (ja_cons (j_tup (ja_cons j_C ja_nil) rfl (capOk rfl)) (ja_cons (j_tup (ja_cons (j_tup ja_nil rfl (capOk rfl)) ja_nil) rfl (capOk rfl)) ja_nil)))))) rfl (capOk rfl)) (g_catL (e := eA) h2) rfl rfl) (j_fnD (ja_cons (j_var rfl) (ja_cons j_C ja_nil)) (r_law_next h3) ⟨rfl, rfl, trivial⟩ rfl) (g_ixL (e := eA) h4) rfl rfl) rfl
def m_is_integer_in (value : T) (low : Int) (high : Int) : Option Bool :=
  (cond (isiB value "int") ((cond (!(isiB value "bool")) (((gLe (T.int low) value).bind asBo).bind fun b1 =>
  ((gLe value (T.int high)).bind asBo).bind fun b2 =>
  some (b1 && b2)) (some false)).bind fun b3 =>
  some b3) (some false)).bind fun b4 =>
  some b4
theorem r_is_integer_in {value : T} {low : Int} {high : Int} {v : Bool} (h : m_is_integer_in value low high = some v) : FnP d_is_integer_in [.v value, .t (T.int low), .t (T.int high)] (T.bl v) := by
  refine fnP_mk 3 3 (m := 0) rfl rfl fun P => ?_
  unfold b_is_integer_in
  unfold m_is_integer_in at h
  replace h := ob h; obtain ⟨b4, h6, h⟩ := h
  have hv := Option.some.inj h; subst hv
  refine js_ret (j_andE (j_e1 (j_var rfl) rfl rfl) ?g7 ?g8 rfl) rfl
  case g7 =>
    intro hc
    try clear h
    have h := h6
    replace h := cd h; rcases h with ⟨hd, h⟩ | ⟨hd, h⟩
    · replace h := ob h; obtain ⟨b3, h3, h⟩ := h
      have hv := Option.some.inj h; subst hv
      refine ⟨_, (j_andE (j_not (j_e1 (j_var rfl) rfl rfl) rfl) ?g4 ?g5 rfl), rfl⟩
      case g4 =>
        intro hc
        try clear h
        have h := h3
        replace h := cd h; rcases h with ⟨hd, h⟩ | ⟨hd, h⟩
        · replace h := ob h; obtain ⟨b1, h1, h⟩ := h
          replace h := ob h; obtain ⟨b2, h2, h⟩ := h
          have hv := Option.some.inj h; subst hv
          exact ⟨_, (j_e3 (j_var rfl) (j_var rfl) (j_var rfl) (bo_eq h1) (bo_eq h2) rfl rfl rfl), rfl⟩
        · rw [hd] at hc; cases hc
      case g5 =>
        intro hc
        try clear h
        have h := h3
        replace h := cd h; rcases h with ⟨hd, h⟩ | ⟨hd, h⟩
        · rw [hd] at hc; cases hc
        · have hv := Option.some.inj h; subst hv; rfl
    · rw [hd] at hc; cases hc
  case g8 =>
    intro hc
    try clear h
    have h := h6
    replace h := cd h; rcases h with ⟨hd, h⟩ | ⟨hd, h⟩
    · rw [hd] at hc; cases hc
    · have hv := Option.some.inj h; subst hv; rfl
def m_is_ascending (items : List T) : Option Bool :=
  (chk ((List.zip items (cutL items (some (1:Int)) none)).length ≤ 16777216)).bind fun _ =>
  (compO (fun (one, other) =>
    ((gLt one other).bind asBo).bind fun b1 =>
    some (some b1)) (List.zip items (cutL items (some (1:Int)) none))).bind fun ys =>
  some (ys.all fun b => b)
theorem r_is_ascending {items : List T} {v : Bool} (h : m_is_ascending items = some v) : FnP d_is_ascending [.v (eU eA items)] (T.bl v) := by
  refine fnP_mk 1 3 (m := 2) rfl rfl fun P => ?_
  unfold b_is_ascending
  unfold m_is_ascending at h
  replace h := ob h; obtain ⟨_, h1, h⟩ := h
  replace h := ob h; obtain ⟨ys, h3, h⟩ := h
  have hv := Option.some.inj h; subst hv
  refine js_ret (j_call (ja_cons (j_comp h3 (chk_ok h1) T.bl (fun (one, other) => [.vw (eU eA items), .tr one, .tr other]) [1, 2] [.vw (eU eA items), .un, .un] (src_zu eA eA items (cutL items (some (1:Int)) none) (ja_cons (j_var rfl) (ja_cons (j_sl (j_var rfl) (jo_some j_C rfl) jo_none (g_slU (e := eA) _ _ _) rfl) ja_nil)) rfl rfl) rfl (by rintro ⟨one, other⟩; exact bi_tp [1, 2] (xs := [one, other]) rfl) ?g4 rfl rfl) ja_nil) (g_all _) rfl) rfl
  case g4 =>
    rintro ⟨one, other⟩ o h
    replace h := ob h; obtain ⟨b1, h2, h⟩ := h
    have hv := Option.some.inj h; subst hv
    exact ⟨_, jcb_some jc_true rfl (j_e2 (j_var rfl) (j_var rfl) (bo_eq h2) rfl rfl) rfl, rfl⟩
def m_is_ascending_i (items : List Int) : Option Bool :=
  (chk ((List.zip items (cutL items (some (1:Int)) none)).length ≤ 16777216)).bind fun _ =>
  some (((List.zip items (cutL items (some (1:Int)) none)).map (fun (one, other) => (decide (one < other)))).all fun b => b)
theorem r_is_ascending_i {items : List Int} {v : Bool} (h : m_is_ascending_i items = some v) : FnP d_is_ascending [.v (eU T.int items)] (T.bl v) := by
  refine fnP_mk 1 3 (m := 2) rfl rfl fun P => ?_
  unfold b_is_ascending
  unfold m_is_ascending_i at h
  replace h := ob h; obtain ⟨_, h1, h⟩ := h
  have hv := Option.some.inj h; subst hv
  refine js_ret (j_call (ja_cons (j_comp (compO_all (fun (one, other) => (decide (one < other))) (List.zip items (cutL items (some (1:Int)) none))) (chk_ok h1) T.bl (fun (one, other) => [.vw (eU T.int items), .tr (T.int one), .tr (T.int other)]) [1, 2] [.vw (eU T.int items), .un, .un] (src_zu T.int T.int items (cutL items (some (1:Int)) none) (ja_cons (j_var rfl) (ja_cons (j_sl (j_var rfl) (jo_some j_C rfl) jo_none (g_slU (e := T.int) _ _ _) rfl) ja_nil)) rfl rfl) rfl (by rintro ⟨one, other⟩; exact bi_tp [1, 2] (xs := [(T.int one), (T.int other)]) rfl) ?g2 rfl rfl) ja_nil) (g_all _) rfl) rfl
  case g2 =>
    rintro ⟨one, other⟩ o h
    have hv := Option.some.inj h; subst hv
    exact ⟨_, jcb_some jc_true rfl (j_e2 (j_var rfl) (j_var rfl) g_lt rfl rfl) rfl, rfl⟩
def m_is_subset_of (count : Int) (value : T) : Option Bool :=
  (cond (!(isiB value "tuple")) (some true) ((asTu value).bind fun z1 =>
  (chk (z1.length ≤ 16777216)).bind fun _ =>
  (compO (fun item =>
    (m_is_integer_in item (0:Int) (count - (1:Int))).bind fun v1 =>
    some (some v1)) z1).bind fun ys =>
  some (!(ys.all fun b => b)))).bind fun b1 =>
  cond b1 (some false) (
  (asTu value).bind fun z2 =>
  (m_is_ascending z2).bind fun v2 =>
  some v2)
theorem r_is_subset_of {count : Int} {value : T} {v : Bool} (h : m_is_subset_of count value = some v) : FnP d_is_subset_of [.t (T.int count), .v value] (T.bl v) := by
  refine fnP_mk 2 3 (m := 1) rfl rfl fun P => ?_
  unfold b_is_subset_of
  unfold m_is_subset_of at h
  replace h := ob h; obtain ⟨b1, h6, h⟩ := h
  replace h := cd h; rcases h with ⟨hc, h⟩ | ⟨hc, h⟩
  · refine js_consR (js_ifT (jc_orE (jc_not (jc_tE (j_e1 (j_var rfl) rfl rfl) rfl)) ?g7 ?g8) hc ?_)
    case g7 =>
      intro hc
      try clear h
      have h := h6
      replace h := cd h; rcases h with ⟨hd, h⟩ | ⟨hd, h⟩
      · rw [hd] at hc; cases hc
      · replace h := ob h; obtain ⟨z1, h1, h⟩ := h
        have h1e := asTu_eq h1; subst h1e
        replace h := ob h; obtain ⟨_, h2, h⟩ := h
        replace h := ob h; obtain ⟨ys, h4, h⟩ := h
        have hv := Option.some.inj h; subst hv
        refine (jc_not (jc_tE (j_call (ja_cons (j_comp h4 (chk_ok h2) T.bl (fun item => [.tr (T.int count), .vw (eU eA z1), .tr item]) [2] [.tr (T.int count), .vw (eU eA z1), .un] (src_u eA z1 (j_var rfl) rfl) rfl (by rintro item; exact bi_nm 2) ?g5 rfl rfl) ja_nil) (g_all _) rfl) rfl))
        case g5 =>
          rintro item o h
          replace h := ob h; obtain ⟨v1, h3, h⟩ := h
          have hv := Option.some.inj h; subst hv
          exact ⟨_, jcb_some jc_true rfl (j_fnP (ja_cons (j_var rfl) (ja_cons j_C (ja_cons (j_e2 (j_var rfl) j_C g_sub rfl rfl) ja_nil))) (r_is_integer_in h3) ⟨rfl, rfl, rfl, trivial⟩ rfl) rfl, rfl⟩
    case g8 =>
      intro hc
      try clear h
      have h := h6
      replace h := cd h; rcases h with ⟨hd, h⟩ | ⟨hd, h⟩
      · have hv := Option.some.inj h; subst hv; rfl
      · rw [hd] at hc; cases hc
    have hv := Option.some.inj h; subst hv
    exact js_ret j_C rfl
  · refine js_cons (js_ifF (jc_orE (jc_not (jc_tE (j_e1 (j_var rfl) rfl rfl) rfl)) ?g7q1 ?g8q1) hc js_nil) ?_
    case g7q1 =>
      intro hc
      try clear h
      have h := h6
      replace h := cd h; rcases h with ⟨hd, h⟩ | ⟨hd, h⟩
      · rw [hd] at hc; cases hc
      · replace h := ob h; obtain ⟨z1, h1, h⟩ := h
        have h1e := asTu_eq h1; subst h1e
        replace h := ob h; obtain ⟨_, h2, h⟩ := h
        replace h := ob h; obtain ⟨ys, h4, h⟩ := h
        have hv := Option.some.inj h; subst hv
        refine (jc_not (jc_tE (j_call (ja_cons (j_comp h4 (chk_ok h2) T.bl (fun item => [.tr (T.int count), .vw (eU eA z1), .tr item]) [2] [.tr (T.int count), .vw (eU eA z1), .un] (src_u eA z1 (j_var rfl) rfl) rfl (by rintro item; exact bi_nm 2) ?g5q1 rfl rfl) ja_nil) (g_all _) rfl) rfl))
        case g5q1 =>
          rintro item o h
          replace h := ob h; obtain ⟨v1, h3, h⟩ := h
          have hv := Option.some.inj h; subst hv
          exact ⟨_, jcb_some jc_true rfl (j_fnP (ja_cons (j_var rfl) (ja_cons j_C (ja_cons (j_e2 (j_var rfl) j_C g_sub rfl rfl) ja_nil))) (r_is_integer_in h3) ⟨rfl, rfl, rfl, trivial⟩ rfl) rfl, rfl⟩
    case g8q1 =>
      intro hc
      try clear h
      have h := h6
      replace h := cd h; rcases h with ⟨hd, h⟩ | ⟨hd, h⟩
      · have hv := Option.some.inj h; subst hv; rfl
      · rw [hd] at hc; cases hc
    replace h := ob h; obtain ⟨z2, h9, h⟩ := h
    have h9e := asTu_eq h9; subst h9e
    replace h := ob h; obtain ⟨v2, h10, h⟩ := h
    have hv := Option.some.inj h; subst hv
    exact js_ret (j_fnP (ja_cons (j_var rfl) ja_nil) (r_is_ascending h10) ⟨rfl, trivial⟩ rfl) rfl
def m_is_table (value : T) : Option Bool :=
  (cond (!(isiB value "tuple")) (some true) (((bLen [value]).bind asIn).bind fun t1 =>
  (cond (!decide (t1 = (2:Int))) (some true) ((ixT value (T.int (0:Int))).bind fun t2 =>
  (m_is_integer_in t2 (1:Int) (10:Int)).bind fun v1 =>
  some (!v1))).bind fun b1 =>
  some b1)).bind fun b2 =>
  cond b2 (some false) (
  (asP2 value).bind fun (demands, offers) =>
  (cond (!(isiB offers "tuple")) (some true) (((bLen [offers]).bind asIn).bind fun t3 =>
  some (decide ((10:Int) < t3)))).bind fun b3 =>
  cond b3 (some false) (
  (asTu offers).bind fun z1 =>
  (chk (z1.length ≤ 16777216)).bind fun _ =>
  (compO (fun offer =>
    (asIn demands).bind fun z2 =>
    (m_is_subset_of z2 offer).bind fun v2 =>
    some (some v2)) z1).bind fun ys =>
  some (ys.all fun b => b)))
theorem r_is_table {value : T} {v : Bool} (h : m_is_table value = some v) : FnP d_is_table [.t value] (T.bl v) := by
  refine fnP_mk 1 4 (m := 3) rfl rfl fun P => ?_
  unfold b_is_table
  unfold m_is_table at h
  replace h := ob h; obtain ⟨b2, h7, h⟩ := h
  replace h := cd h; rcases h with ⟨hc, h⟩ | ⟨hc, h⟩
  · refine js_consR (js_ifT (jc_orE (jc_not (jc_tE (j_e1 (j_var rfl) rfl rfl) rfl)) ?g8 ?g9) hc ?_)
    case g8 =>
      intro hc
      try clear h
      have h := h7
      replace h := cd h; rcases h with ⟨hd, h⟩ | ⟨hd, h⟩
      · rw [hd] at hc; cases hc
      · replace h := ob h; obtain ⟨t1, h1, h⟩ := h
        replace h := ob h; obtain ⟨b1, h4, h⟩ := h
        have hv := Option.some.inj h; subst hv
        refine (jc_orE (jc_tE (j_e2 (j_call (ja_cons (j_var rfl) ja_nil) (in_eq h1) rfl) j_C g_neI rfl rfl) rfl) ?g5 ?g6)
        case g5 =>
          intro hc
          try clear h
          have h := h4
          replace h := cd h; rcases h with ⟨hd, h⟩ | ⟨hd, h⟩
          · rw [hd] at hc; cases hc
          · replace h := ob h; obtain ⟨t2, h2, h⟩ := h
            replace h := ob h; obtain ⟨v1, h3, h⟩ := h
            have hv := Option.some.inj h; subst hv
            exact (jc_not (jc_tE (j_fnP (ja_cons (j_ix (j_var rfl) j_C h2 rfl rfl) (ja_cons j_C (ja_cons j_C ja_nil))) (r_is_integer_in h3) ⟨rfl, rfl, rfl, trivial⟩ rfl) rfl))
        case g6 =>
          intro hc
          try clear h
          have h := h4
          replace h := cd h; rcases h with ⟨hd, h⟩ | ⟨hd, h⟩
          · have hv := Option.some.inj h; subst hv; rfl
          · rw [hd] at hc; cases hc
    case g9 =>
      intro hc
      try clear h
      have h := h7
      replace h := cd h; rcases h with ⟨hd, h⟩ | ⟨hd, h⟩
      · have hv := Option.some.inj h; subst hv; rfl
      · rw [hd] at hc; cases hc
    have hv := Option.some.inj h; subst hv
    exact js_ret j_C rfl
  · refine js_cons (js_ifF (jc_orE (jc_not (jc_tE (j_e1 (j_var rfl) rfl rfl) rfl)) ?g8q2 ?g9q2) hc js_nil) ?_
    case g8q2 =>
      intro hc
      try clear h
      have h := h7
      replace h := cd h; rcases h with ⟨hd, h⟩ | ⟨hd, h⟩
      · rw [hd] at hc; cases hc
      · replace h := ob h; obtain ⟨t1, h1, h⟩ := h
        replace h := ob h; obtain ⟨b1, h4, h⟩ := h
        have hv := Option.some.inj h; subst hv
        refine (jc_orE (jc_tE (j_e2 (j_call (ja_cons (j_var rfl) ja_nil) (in_eq h1) rfl) j_C g_neI rfl rfl) rfl) ?g5q2 ?g6q2)
        case g5q2 =>
          intro hc
          try clear h
          have h := h4
          replace h := cd h; rcases h with ⟨hd, h⟩ | ⟨hd, h⟩
          · rw [hd] at hc; cases hc
          · replace h := ob h; obtain ⟨t2, h2, h⟩ := h
            replace h := ob h; obtain ⟨v1, h3, h⟩ := h
            have hv := Option.some.inj h; subst hv
            exact (jc_not (jc_tE (j_fnP (ja_cons (j_ix (j_var rfl) j_C h2 rfl rfl) (ja_cons j_C (ja_cons j_C ja_nil))) (r_is_integer_in h3) ⟨rfl, rfl, rfl, trivial⟩ rfl) rfl))
        case g6q2 =>
          intro hc
          try clear h
          have h := h4
          replace h := cd h; rcases h with ⟨hd, h⟩ | ⟨hd, h⟩
          · have hv := Option.some.inj h; subst hv; rfl
          · rw [hd] at hc; cases hc
    case g9q2 =>
      intro hc
      try clear h
      have h := h7
      replace h := cd h; rcases h with ⟨hd, h⟩ | ⟨hd, h⟩
      · have hv := Option.some.inj h; subst hv; rfl
      · rw [hd] at hc; cases hc
    replace h := ob h; obtain ⟨⟨demands, offers⟩, h10, h⟩ := h
    refine js_cons (js_unp (j_var rfl) [1, 2] (asP2_eq h10) rfl) ?g22
    replace h := ob h; obtain ⟨b3, h12, h⟩ := h
    replace h := cd h; rcases h with ⟨hc, h⟩ | ⟨hc, h⟩
    · refine js_consR (js_ifT (jc_orE (jc_not (jc_tE (j_e1 (j_var rfl) rfl rfl) rfl)) ?g13 ?g14) hc ?_)
      case g13 =>
        intro hc
        try clear h
        have h := h12
        replace h := cd h; rcases h with ⟨hd, h⟩ | ⟨hd, h⟩
        · rw [hd] at hc; cases hc
        · replace h := ob h; obtain ⟨t3, h11, h⟩ := h
          have hv := Option.some.inj h; subst hv
          exact (jc_tE (j_e2 (j_call (ja_cons (j_var rfl) ja_nil) (in_eq h11) rfl) j_C g_gt rfl rfl) rfl)
      case g14 =>
        intro hc
        try clear h
        have h := h12
        replace h := cd h; rcases h with ⟨hd, h⟩ | ⟨hd, h⟩
        · have hv := Option.some.inj h; subst hv; rfl
        · rw [hd] at hc; cases hc
      have hv := Option.some.inj h; subst hv
      exact js_ret j_C rfl
    · refine js_cons (js_ifF (jc_orE (jc_not (jc_tE (j_e1 (j_var rfl) rfl rfl) rfl)) ?g13q3 ?g14q3) hc js_nil) ?_
      case g13q3 =>
        intro hc
        try clear h
        have h := h12
        replace h := cd h; rcases h with ⟨hd, h⟩ | ⟨hd, h⟩
        · rw [hd] at hc; cases hc
        · replace h := ob h; obtain ⟨t3, h11, h⟩ := h
          have hv := Option.some.inj h; subst hv
          exact (jc_tE (j_e2 (j_call (ja_cons (j_var rfl) ja_nil) (in_eq h11) rfl) j_C g_gt rfl rfl) rfl)
      case g14q3 =>
        intro hc
        try clear h
        have h := h12
        replace h := cd h; rcases h with ⟨hd, h⟩ | ⟨hd, h⟩
        · have hv := Option.some.inj h; subst hv; rfl
        · rw [hd] at hc; cases hc
      replace h := ob h; obtain ⟨z1, h15, h⟩ := h
      have h15e := asTu_eq h15; subst h15e
      replace h := ob h; obtain ⟨_, h16, h⟩ := h
      replace h := ob h; obtain ⟨ys, h19, h⟩ := h
      have hv := Option.some.inj h; subst hv
      refine js_ret (j_call (ja_cons (j_comp h19 (chk_ok h16) T.bl (fun offer => [.tr value, .tr demands, .tr (eU eA z1), .tr offer]) [3] [.tr value, .tr demands, .tr (eU eA z1), .un] (src_u eA z1 (j_var rfl) rfl) rfl (by rintro offer; exact bi_nm 3) ?g20 rfl rfl) ja_nil) (g_all _) rfl) rfl
      case g20 =>
        rintro offer o h
        replace h := ob h; obtain ⟨z2, h17, h⟩ := h
        have h17e := asIn_eq h17; subst h17e
        replace h := ob h; obtain ⟨v2, h18, h⟩ := h
        have hv := Option.some.inj h; subst hv
        exact ⟨_, jcb_some jc_true rfl (j_fnP (ja_cons (j_var rfl) (ja_cons (j_var rfl) ja_nil)) (r_is_subset_of h18) ⟨rfl, rfl, trivial⟩ rfl) rfl, rfl⟩
def m_law_one_i (δ0 : Deck) (some_ : List Int) : Option (Int × Deck) :=
  (m_law_next δ0 (some_.length : Int)).bind fun (v1, δ1) =>
  (L2.atI some_ v1).bind fun t1 =>
  some (t1, δ1)
theorem r_law_one_i {δ0 δ' : Deck} {some_ : List Int} {v : Int} (h : m_law_one_i δ0 some_ = some (v, δ')) : FnD d__law_one [.d, .v (eL T.int some_)] δ0 δ' (T.int v) := by
  refine fnD_mk 2 2 (m := 0) rfl rfl fun Z => ?_
  unfold b__law_one
  unfold m_law_one_i at h
  replace h := ob h; obtain ⟨⟨v1, δ1⟩, h1, h⟩ := h
  replace h := ob h; obtain ⟨t1, h2, h⟩ := h
  obtain ⟨hv, hd⟩ := Prod.mk.inj (Option.some.inj h); subst hv; subst hd
  exact js_ret (j_ix (j_var rfl) (j_fnD (ja_cons (j_var rfl) (ja_cons (j_call (ja_cons (j_var rfl) ja_nil) (g_lenL (e := T.int) _) rfl) ja_nil)) (r_law_next h1) ⟨rfl, rfl, trivial⟩ rfl) (g_ixL (e := T.int) h2) rfl rfl) rfl
def m_law_one_u (δ0 : Deck) (some_ : List Int) : Option (Int × Deck) :=
  (m_law_next δ0 (some_.length : Int)).bind fun (v1, δ1) =>
  (L2.atI some_ v1).bind fun t1 =>
  some (t1, δ1)
theorem r_law_one_u {δ0 δ' : Deck} {some_ : List Int} {v : Int} (h : m_law_one_u δ0 some_ = some (v, δ')) : FnD d__law_one [.d, .v (eU T.int some_)] δ0 δ' (T.int v) := by
  refine fnD_mk 2 2 (m := 0) rfl rfl fun Z => ?_
  unfold b__law_one
  unfold m_law_one_u at h
  replace h := ob h; obtain ⟨⟨v1, δ1⟩, h1, h⟩ := h
  replace h := ob h; obtain ⟨t1, h2, h⟩ := h
  obtain ⟨hv, hd⟩ := Prod.mk.inj (Option.some.inj h); subst hv; subst hd
  exact js_ret (j_ix (j_var rfl) (j_fnD (ja_cons (j_var rfl) (ja_cons (j_call (ja_cons (j_var rfl) ja_nil) (g_lenU (e := T.int) _) rfl) ja_nil)) (r_law_next h1) ⟨rfl, rfl, trivial⟩ rfl) (g_ixU (e := T.int) h2) rfl rfl) rfl
def m_law_one_o (δ0 : Deck) (some_ : List (List Int)) : Option ((List Int) × Deck) :=
  (m_law_next δ0 (some_.length : Int)).bind fun (v1, δ1) =>
  (L2.atI some_ v1).bind fun t1 =>
  some (t1, δ1)
theorem r_law_one_o {δ0 δ' : Deck} {some_ : List (List Int)} {v : List Int} (h : m_law_one_o δ0 some_ = some (v, δ')) : FnD d__law_one [.d, .v (eL (eU T.int) some_)] δ0 δ' (eU T.int v) := by
  refine fnD_mk 2 2 (m := 0) rfl rfl fun Z => ?_
  unfold b__law_one
  unfold m_law_one_o at h
  replace h := ob h; obtain ⟨⟨v1, δ1⟩, h1, h⟩ := h
  replace h := ob h; obtain ⟨t1, h2, h⟩ := h
  obtain ⟨hv, hd⟩ := Prod.mk.inj (Option.some.inj h); subst hv; subst hd
  exact js_ret (j_ix (j_var rfl) (j_fnD (ja_cons (j_var rfl) (ja_cons (j_call (ja_cons (j_var rfl) ja_nil) (g_lenL (e := (eU T.int)) _) rfl) ja_nil)) (r_law_next h1) ⟨rfl, rfl, trivial⟩ rfl) (g_ixL (e := (eU T.int)) h2) rfl rfl) rfl
def m_law_same : Nat → T → T → Option Bool
  | 0 => fun _ _ => none
  | n + 1 => fun found due =>
    cond (["tuple", "list"].any fun c => isiB due c) (cond (!decide ((isiB found "tuple") = (isiB due "tuple"))) (some false) (
    cond (!decide ((isiB found "list") = (isiB due "list"))) (some false) (
    ((bLen [found]).bind asIn).bind fun t1 =>
    ((bLen [due]).bind asIn).bind fun t2 =>
    cond (!decide (t1 = t2)) (some false) (
    ((bLen [due]).bind asIn).bind fun t3 =>
    (chk (t3.natAbs < 4000000000000000000)).bind fun _ =>
    (chk ((rngL 0 t3).length ≤ 16777216)).bind fun _ =>
    (compO (fun k_ =>
      (ixT found (T.int k_)).bind fun t4 =>
      (ixT due (T.int k_)).bind fun t5 =>
      (m_law_same n t4 t5).bind fun v1 =>
      cond (!v1) (some (some k_)) (some none)) (rngL 0 t3)).bind fun ys =>
    some (ys.isEmpty))))) (
    cond (isiB due "dict") ((cond (isiB found "dict") (((gEq found due).bind asBo).bind fun b1 =>
    some b1) (some false)).bind fun b2 =>
    some b2) (
    cond (isN due) (some (isN found)) (
    cond (isiB due "str") ((cond (isiB found "str") (((gEq found due).bind asBo).bind fun b3 =>
    some b3) (some false)).bind fun b4 =>
    some b4) (
    (cond (isiB found "int") ((cond (decide ((isiB found "bool") = (isiB due "bool"))) (((gEq found due).bind asBo).bind fun b5 =>
    some b5) (some false)).bind fun b6 =>
    some b6) (some false)).bind fun b7 =>
    some b7))))
theorem rr_law_same : ∀ (n : Nat) (found : T) (due : T) (v : Bool), m_law_same n found due = some v → FnP (d__law_same n) [.v found, .v due] (T.bl v)
  | 0 => by intros; rename_i h; cases h
  | n + 1 => by
    intro found due v h
    refine fnP_mk 2 3 (m := 1) rfl rfl fun P => ?_
    unfold b__law_same
    unfold m_law_same at h
    replace h := cd h; rcases h with ⟨hc, h⟩ | ⟨hc, h⟩
    · refine js_consR (js_ifT (jc_tE (j_e1 (j_var rfl) rfl rfl) rfl) hc ?_)
      replace h := cd h; rcases h with ⟨hc, h⟩ | ⟨hc, h⟩
      · refine js_consR (js_ifT (jc_tE (j_e2 (j_e1 (j_var rfl) rfl rfl) (j_e1 (j_var rfl) rfl rfl) (g_neN nice_bl (by decide) _ _) rfl rfl) rfl) hc ?_)
        have hv := Option.some.inj h; subst hv
        exact js_ret j_C rfl
      · refine js_cons (js_ifF (jc_tE (j_e2 (j_e1 (j_var rfl) rfl rfl) (j_e1 (j_var rfl) rfl rfl) (g_neN nice_bl (by decide) _ _) rfl rfl) rfl) hc js_nil) ?_
        replace h := cd h; rcases h with ⟨hc, h⟩ | ⟨hc, h⟩
        · refine js_consR (js_ifT (jc_tE (j_e2 (j_e1 (j_var rfl) rfl rfl) (j_e1 (j_var rfl) rfl rfl) (g_neN nice_bl (by decide) _ _) rfl rfl) rfl) hc ?_)
          have hv := Option.some.inj h; subst hv
          exact js_ret j_C rfl
        · refine js_cons (js_ifF (jc_tE (j_e2 (j_e1 (j_var rfl) rfl rfl) (j_e1 (j_var rfl) rfl rfl) (g_neN nice_bl (by decide) _ _) rfl rfl) rfl) hc js_nil) ?_
          replace h := ob h; obtain ⟨t1, h1, h⟩ := h
          replace h := ob h; obtain ⟨t2, h2, h⟩ := h
          replace h := cd h; rcases h with ⟨hc, h⟩ | ⟨hc, h⟩
          · refine js_consR (js_ifT (jc_tE (j_e2 (j_call (ja_cons (j_var rfl) ja_nil) (in_eq h1) rfl) (j_call (ja_cons (j_var rfl) ja_nil) (in_eq h2) rfl) g_neI rfl rfl) rfl) hc ?_)
            have hv := Option.some.inj h; subst hv
            exact js_ret j_C rfl
          · refine js_cons (js_ifF (jc_tE (j_e2 (j_call (ja_cons (j_var rfl) ja_nil) (in_eq h1) rfl) (j_call (ja_cons (j_var rfl) ja_nil) (in_eq h2) rfl) g_neI rfl rfl) rfl) hc js_nil) ?_
            replace h := ob h; obtain ⟨t3, h3, h⟩ := h
            replace h := ob h; obtain ⟨_, h4, h⟩ := h
            replace h := ob h; obtain ⟨_, h5, h⟩ := h
            replace h := ob h; obtain ⟨ys, h9, h⟩ := h
            have hv := Option.some.inj h; subst hv
            refine js_ret (j_e2 (j_comp h9 (chk_ok h5) T.int (fun k_ => [.vw found, .vw due, .tr (T.int k_)]) [2] [.vw found, .vw due, .un] (src_r1 (ja_cons (j_call (ja_cons (j_var rfl) ja_nil) (in_eq h3) rfl) ja_nil) (chk_ok h4) rfl) rfl (by rintro k_; exact bi_nm 2) ?g10 rfl rfl) (j_lst ja_nil rfl (capOk rfl)) (g_eqE (e := T.int) _) rfl rfl) rfl
            case g10 =>
              rintro k_ o h
              replace h := ob h; obtain ⟨t4, h6, h⟩ := h
              replace h := ob h; obtain ⟨t5, h7, h⟩ := h
              replace h := ob h; obtain ⟨v1, h8, h⟩ := h
              replace h := cd h; rcases h with ⟨hc, h⟩ | ⟨hc, h⟩
              · have hv := Option.some.inj h; subst hv
                exact ⟨_, jcb_some (jc_not (jc_tE (j_fnP (ja_cons (j_ix (j_var rfl) (j_var rfl) h6 rfl rfl) (ja_cons (j_ix (j_var rfl) (j_var rfl) h7 rfl rfl) ja_nil)) (rr_law_same n _ _ _ h8) ⟨rfl, rfl, trivial⟩ rfl) rfl)) hc (j_var rfl) rfl, rfl⟩
              · have hv := Option.some.inj h; subst hv
                exact ⟨_, jcb_none (jc_not (jc_tE (j_fnP (ja_cons (j_ix (j_var rfl) (j_var rfl) h6 rfl rfl) (ja_cons (j_ix (j_var rfl) (j_var rfl) h7 rfl rfl) ja_nil)) (rr_law_same n _ _ _ h8) ⟨rfl, rfl, trivial⟩ rfl) rfl)) hc, rfl⟩
    · refine js_cons (js_ifF (jc_tE (j_e1 (j_var rfl) rfl rfl) rfl) hc js_nil) ?_
      replace h := cd h; rcases h with ⟨hc, h⟩ | ⟨hc, h⟩
      · refine js_consR (js_ifT (jc_tE (j_e1 (j_var rfl) rfl rfl) rfl) hc ?_)
        replace h := ob h; obtain ⟨b2, h15, h⟩ := h
        have hv := Option.some.inj h; subst hv
        refine js_ret (j_andE (j_e1 (j_var rfl) rfl rfl) ?g16 ?g17 rfl) rfl
        case g16 =>
          intro hc
          try clear h
          have h := h15
          replace h := cd h; rcases h with ⟨hd, h⟩ | ⟨hd, h⟩
          · replace h := ob h; obtain ⟨b1, h14, h⟩ := h
            have hv := Option.some.inj h; subst hv
            exact ⟨_, (j_e2 (j_var rfl) (j_var rfl) (bo_eq h14) rfl rfl), rfl⟩
          · rw [hd] at hc; cases hc
        case g17 =>
          intro hc
          try clear h
          have h := h15
          replace h := cd h; rcases h with ⟨hd, h⟩ | ⟨hd, h⟩
          · rw [hd] at hc; cases hc
          · have hv := Option.some.inj h; subst hv; rfl
      · refine js_cons (js_ifF (jc_tE (j_e1 (j_var rfl) rfl rfl) rfl) hc js_nil) ?_
        replace h := cd h; rcases h with ⟨hc, h⟩ | ⟨hc, h⟩
        · refine js_consR (js_ifT (jc_tE (j_e2 (j_var rfl) j_C (g_isA _) rfl rfl) rfl) hc ?_)
          have hv := Option.some.inj h; subst hv
          exact js_ret (j_e2 (j_var rfl) j_C (g_isA _) rfl rfl) rfl
        · refine js_cons (js_ifF (jc_tE (j_e2 (j_var rfl) j_C (g_isA _) rfl rfl) rfl) hc js_nil) ?_
          replace h := cd h; rcases h with ⟨hc, h⟩ | ⟨hc, h⟩
          · refine js_consR (js_ifT (jc_tE (j_e1 (j_var rfl) rfl rfl) rfl) hc ?_)
            replace h := ob h; obtain ⟨b4, h19, h⟩ := h
            have hv := Option.some.inj h; subst hv
            refine js_ret (j_andE (j_e1 (j_var rfl) rfl rfl) ?g20 ?g21 rfl) rfl
            case g20 =>
              intro hc
              try clear h
              have h := h19
              replace h := cd h; rcases h with ⟨hd, h⟩ | ⟨hd, h⟩
              · replace h := ob h; obtain ⟨b3, h18, h⟩ := h
                have hv := Option.some.inj h; subst hv
                exact ⟨_, (j_e2 (j_var rfl) (j_var rfl) (bo_eq h18) rfl rfl), rfl⟩
              · rw [hd] at hc; cases hc
            case g21 =>
              intro hc
              try clear h
              have h := h19
              replace h := cd h; rcases h with ⟨hd, h⟩ | ⟨hd, h⟩
              · rw [hd] at hc; cases hc
              · have hv := Option.some.inj h; subst hv; rfl
          · refine js_cons (js_ifF (jc_tE (j_e1 (j_var rfl) rfl rfl) rfl) hc js_nil) ?_
            replace h := ob h; obtain ⟨b7, h26, h⟩ := h
            have hv := Option.some.inj h; subst hv
            refine js_ret (j_andE (j_e1 (j_var rfl) rfl rfl) ?g27 ?g28 rfl) rfl
            case g27 =>
              intro hc
              try clear h
              have h := h26
              replace h := cd h; rcases h with ⟨hd, h⟩ | ⟨hd, h⟩
              · replace h := ob h; obtain ⟨b6, h23, h⟩ := h
                have hv := Option.some.inj h; subst hv
                refine ⟨_, (j_andE (j_e2 (j_e1 (j_var rfl) rfl rfl) (j_e1 (j_var rfl) rfl rfl) (g_eqN nice_bl (by decide) _ _) rfl rfl) ?g24 ?g25 rfl), rfl⟩
                case g24 =>
                  intro hc
                  try clear h
                  have h := h23
                  replace h := cd h; rcases h with ⟨hd, h⟩ | ⟨hd, h⟩
                  · replace h := ob h; obtain ⟨b5, h22, h⟩ := h
                    have hv := Option.some.inj h; subst hv
                    exact ⟨_, (j_e2 (j_var rfl) (j_var rfl) (bo_eq h22) rfl rfl), rfl⟩
                  · rw [hd] at hc; cases hc
                case g25 =>
                  intro hc
                  try clear h
                  have h := h23
                  replace h := cd h; rcases h with ⟨hd, h⟩ | ⟨hd, h⟩
                  · rw [hd] at hc; cases hc
                  · have hv := Option.some.inj h; subst hv; rfl
              · rw [hd] at hc; cases hc
            case g28 =>
              intro hc
              try clear h
              have h := h26
              replace h := cd h; rcases h with ⟨hd, h⟩ | ⟨hd, h⟩
              · rw [hd] at hc; cases hc
              · have hv := Option.some.inj h; subst hv; rfl
theorem r_law_same (n : Nat) {found : T} {due : T} {v : Bool} (h : m_law_same n found due = some v) : FnP (d__law_same n) [.v found, .v due] (T.bl v) := rr_law_same n _ _ _ h
def m_law_whole (thing : T) : Option Bool :=
  some ((isiB thing "int") && (!(isiB thing "bool")))
theorem r_law_whole {thing : T} {v : Bool} (h : m_law_whole thing = some v) : FnP d__law_whole [.v thing] (T.bl v) := by
  refine fnP_mk 1 1 (m := 0) rfl rfl fun P => ?_
  unfold b__law_whole
  unfold m_law_whole at h
  have hv := Option.some.inj h; subst hv
  exact js_ret (j_andP (j_e1 (j_var rfl) rfl rfl) (j_not (j_e1 (j_var rfl) rfl rfl) rfl) rfl rfl) rfl
def m_law_bent : Nat → Deck → T → Int → Option (T × Deck)
  | 0 => fun _ _ _ => none
  | n + 1 => fun δ0 thing deep =>
    (cond (isiB thing "tuple") (((gNe thing (T.tup [])).bind asBo).bind fun b1 =>
    (cond b1 ((cond (decide ((0:Int) < deep)) ((m_law_next δ0 (4:Int)).bind fun (v1, δ1) =>
    some ((decide ((0:Int) < v1)), δ1)) (some (false, δ0))).bind fun (b2, δ2) =>
    some (b2, δ2)) (some (false, δ0))).bind fun (b3, δ3) =>
    some (b3, δ3)) (some (false, δ0))).bind fun (b4, δ4) =>
    cond b4 (((bLen [thing]).bind asIn).bind fun t1 =>
    (m_law_next δ4 t1).bind fun (v2, δ5) =>
    (gSl thing none (some v2)).bind fun t2 =>
    (ixT thing (T.int v2)).bind fun t3 =>
    (m_law_bent n δ5 t3 (deep - (1:Int))).bind fun (v3, δ6) =>
    (gAdd t2 (eU eA ([v3]))).bind fun t4 =>
    (gSl thing (some (v2 + (1:Int))) none).bind fun t5 =>
    (gAdd t4 t5).bind fun t6 =>
    some (t6, δ6)) (
    cond (isiB thing "tuple") ((gSl thing (some (1:Int)) none).bind fun t7 =>
    (gSl thing (some (-(1:Int))) none).bind fun t8 =>
    (gAdd thing t8).bind fun t9 =>
    (gRevA thing).bind fun t10 =>
    (lst1 bList [thing]).bind fun t11 =>
    (m_law_odd δ4).bind fun (v4, δ7) =>
    (m_law_next δ7 (5:Int)).bind fun (v5, δ8) =>
    (L2.atI ([t7, t9, t10, t11, v4]) v5).bind fun t12 =>
    some (t12, δ8)) (
    cond (isiB thing "int") ((gAdd thing (T.int (1:Int))).bind fun t13 =>
    (gSub thing (T.int (1:Int))).bind fun t14 =>
    (bStr [thing]).bind fun t15 =>
    ((gEq thing (T.int (1:Int))).bind asBo).bind fun b5 =>
    (m_law_odd δ4).bind fun (v6, δ9) =>
    (m_law_next δ9 (6:Int)).bind fun (v7, δ10) =>
    (L2.atI ([t13, t14, t15, (T.bl b5), (T.int (0:Int)), v6]) v7).bind fun t16 =>
    some (t16, δ10)) (
    (m_law_odd δ4).bind fun (v8, δ11) =>
    some (v8, δ11))))
theorem rr_law_bent : ∀ (n : Nat) (δ0 δ' : Deck) (thing : T) (deep : Int) (v : T), m_law_bent n δ0 thing deep = some (v, δ') → FnD (d__law_bent n) [.d, .v thing, .t (T.int deep)] δ0 δ' v
  | 0 => by intros; rename_i h; cases h
  | n + 1 => by
    intro δ0 δ' thing deep v h
    refine fnD_mk 3 4 (m := 1) rfl rfl fun Z => ?_
    unfold b__law_bent
    unfold m_law_bent at h
    replace h := ob h; obtain ⟨⟨b4, δ4⟩, h9, h⟩ := h
    replace h := cd h; rcases h with ⟨hc, h⟩ | ⟨hc, h⟩
    · refine js_consR (js_ifT (jc_and (P2 := dk δ4 Z) (Γ2 := [.dk, .vw thing, .tr (T.int deep), .un]) (jc_tE (j_e1 (j_var rfl) rfl rfl) rfl) ?g10 ?g11) hc ?_)
      case g10 =>
        intro hc
        try clear h
        have h := h9
        replace h := cd h; rcases h with ⟨hd, h⟩ | ⟨hd, h⟩
        · replace h := ob h; obtain ⟨b1, h1, h⟩ := h
          replace h := ob h; obtain ⟨⟨b3, δ3⟩, h6, h⟩ := h
          obtain ⟨hv, hd⟩ := Prod.mk.inj (Option.some.inj h); subst hv; subst hd
          refine (jc_and (P2 := dk δ3 Z) (Γ2 := [.dk, .vw thing, .tr (T.int deep), .un]) (jc_tE (j_e2 (j_var rfl) (j_tup ja_nil rfl (capOk rfl)) (bo_eq h1) rfl rfl) rfl) ?g7 ?g8)
          case g7 =>
            intro hc
            try clear h
            have h := h6
            replace h := cd h; rcases h with ⟨hd, h⟩ | ⟨hd, h⟩
            · replace h := ob h; obtain ⟨⟨b2, δ2⟩, h3, h⟩ := h
              obtain ⟨hv, hd⟩ := Prod.mk.inj (Option.some.inj h); subst hv; subst hd
              refine (jc_and (P2 := dk δ2 Z) (Γ2 := [.dk, .vw thing, .tr (T.int deep), .un]) (jc_tE (j_e2 (j_var rfl) j_C g_gt rfl rfl) rfl) ?g4 ?g5)
              case g4 =>
                intro hc
                try clear h
                have h := h3
                replace h := cd h; rcases h with ⟨hd, h⟩ | ⟨hd, h⟩
                · replace h := ob h; obtain ⟨⟨v1, δ1⟩, h2, h⟩ := h
                  obtain ⟨hv, hd⟩ := Prod.mk.inj (Option.some.inj h); subst hv; subst hd
                  exact (jc_tE (j_e2 (j_fnD (ja_cons (j_var rfl) (ja_cons j_C ja_nil)) (r_law_next h2) ⟨rfl, rfl, trivial⟩ rfl) j_C g_gt rfl rfl) rfl)
                · rw [hd] at hc; cases hc
              case g5 =>
                intro hc
                try clear h
                have h := h3
                replace h := cd h; rcases h with ⟨hd, h⟩ | ⟨hd, h⟩
                · rw [hd] at hc; cases hc
                · obtain ⟨hv, hd⟩ := Prod.mk.inj (Option.some.inj h); subst hv; subst hd; exact ⟨rfl, rfl, rfl⟩
            · rw [hd] at hc; cases hc
          case g8 =>
            intro hc
            try clear h
            have h := h6
            replace h := cd h; rcases h with ⟨hd, h⟩ | ⟨hd, h⟩
            · rw [hd] at hc; cases hc
            · obtain ⟨hv, hd⟩ := Prod.mk.inj (Option.some.inj h); subst hv; subst hd; exact ⟨rfl, rfl, rfl⟩
        · rw [hd] at hc; cases hc
      case g11 =>
        intro hc
        try clear h
        have h := h9
        replace h := cd h; rcases h with ⟨hd, h⟩ | ⟨hd, h⟩
        · rw [hd] at hc; cases hc
        · obtain ⟨hv, hd⟩ := Prod.mk.inj (Option.some.inj h); subst hv; subst hd; exact ⟨rfl, rfl, rfl⟩
      replace h := ob h; obtain ⟨t1, h12, h⟩ := h
      replace h := ob h; obtain ⟨⟨v2, δ5⟩, h13, h⟩ := h
      refine js_cons (js_set (j_fnD (ja_cons (j_var rfl) (ja_cons (j_call (ja_cons (j_var rfl) ja_nil) (in_eq h12) rfl) ja_nil)) (r_law_next h13) ⟨rfl, rfl, trivial⟩ rfl) 3 rfl) ?g20
      replace h := ob h; obtain ⟨t2, h14, h⟩ := h
      replace h := ob h; obtain ⟨t3, h15, h⟩ := h
      replace h := ob h; obtain ⟨⟨v3, δ6⟩, h16, h⟩ := h
      replace h := ob h; obtain ⟨t4, h17, h⟩ := h
      replace h := ob h; obtain ⟨t5, h18, h⟩ := h
      replace h := ob h; obtain ⟨t6, h19, h⟩ := h
      obtain ⟨hv, hd⟩ := Prod.mk.inj (Option.some.inj h); subst hv; subst hd
      exact js_ret (j_e2 (j_e2 (j_sl (j_var rfl) jo_none (jo_some (j_var rfl) rfl) h14 rfl) (j_tup (ja_cons (j_fnD (ja_cons (j_var rfl) (ja_cons (j_ix (j_var rfl) (j_var rfl) h15 rfl rfl) (ja_cons (j_e2 (j_var rfl) j_C g_sub rfl rfl) ja_nil))) (rr_law_bent n _ _ _ _ _ h16) ⟨rfl, rfl, rfl, trivial⟩ rfl) ja_nil) rfl (capOk rfl)) h17 rfl rfl) (j_sl (j_var rfl) (jo_some (j_e2 (j_var rfl) j_C g_add rfl rfl) rfl) jo_none h18 rfl) h19 rfl rfl) rfl
    · refine js_cons (js_ifF (jc_and (P2 := dk δ4 Z) (Γ2 := [.dk, .vw thing, .tr (T.int deep), .un]) (jc_tE (j_e1 (j_var rfl) rfl rfl) rfl) ?g10q12 ?g11q12) hc js_nil) ?_
      case g10q12 =>
        intro hc
        try clear h
        have h := h9
        replace h := cd h; rcases h with ⟨hd, h⟩ | ⟨hd, h⟩
        · replace h := ob h; obtain ⟨b1, h1, h⟩ := h
          replace h := ob h; obtain ⟨⟨b3, δ3⟩, h6, h⟩ := h
          obtain ⟨hv, hd⟩ := Prod.mk.inj (Option.some.inj h); subst hv; subst hd
          refine (jc_and (P2 := dk δ3 Z) (Γ2 := [.dk, .vw thing, .tr (T.int deep), .un]) (jc_tE (j_e2 (j_var rfl) (j_tup ja_nil rfl (capOk rfl)) (bo_eq h1) rfl rfl) rfl) ?g7q12 ?g8q12)
          case g7q12 =>
            intro hc
            try clear h
            have h := h6
            replace h := cd h; rcases h with ⟨hd, h⟩ | ⟨hd, h⟩
            · replace h := ob h; obtain ⟨⟨b2, δ2⟩, h3, h⟩ := h
              obtain ⟨hv, hd⟩ := Prod.mk.inj (Option.some.inj h); subst hv; subst hd
              refine (jc_and (P2 := dk δ2 Z) (Γ2 := [.dk, .vw thing, .tr (T.int deep), .un]) (jc_tE (j_e2 (j_var rfl) j_C g_gt rfl rfl) rfl) ?g4q12 ?g5q12)
              case g4q12 =>
                intro hc
                try clear h
                have h := h3
                replace h := cd h; rcases h with ⟨hd, h⟩ | ⟨hd, h⟩
                · replace h := ob h; obtain ⟨⟨v1, δ1⟩, h2, h⟩ := h
                  obtain ⟨hv, hd⟩ := Prod.mk.inj (Option.some.inj h); subst hv; subst hd
                  exact (jc_tE (j_e2 (j_fnD (ja_cons (j_var rfl) (ja_cons j_C ja_nil)) (r_law_next h2) ⟨rfl, rfl, trivial⟩ rfl) j_C g_gt rfl rfl) rfl)
                · rw [hd] at hc; cases hc
              case g5q12 =>
                intro hc
                try clear h
                have h := h3
                replace h := cd h; rcases h with ⟨hd, h⟩ | ⟨hd, h⟩
                · rw [hd] at hc; cases hc
                · obtain ⟨hv, hd⟩ := Prod.mk.inj (Option.some.inj h); subst hv; subst hd; exact ⟨rfl, rfl, rfl⟩
            · rw [hd] at hc; cases hc
          case g8q12 =>
            intro hc
            try clear h
            have h := h6
            replace h := cd h; rcases h with ⟨hd, h⟩ | ⟨hd, h⟩
            · rw [hd] at hc; cases hc
            · obtain ⟨hv, hd⟩ := Prod.mk.inj (Option.some.inj h); subst hv; subst hd; exact ⟨rfl, rfl, rfl⟩
        · rw [hd] at hc; cases hc
      case g11q12 =>
        intro hc
        try clear h
        have h := h9
        replace h := cd h; rcases h with ⟨hd, h⟩ | ⟨hd, h⟩
        · rw [hd] at hc; cases hc
        · obtain ⟨hv, hd⟩ := Prod.mk.inj (Option.some.inj h); subst hv; subst hd; exact ⟨rfl, rfl, rfl⟩
      replace h := cd h; rcases h with ⟨hc, h⟩ | ⟨hc, h⟩
      · refine js_consR (js_ifT (jc_tE (j_e1 (j_var rfl) rfl rfl) rfl) hc ?_)
        replace h := ob h; obtain ⟨t7, h21, h⟩ := h
        replace h := ob h; obtain ⟨t8, h22, h⟩ := h
        replace h := ob h; obtain ⟨t9, h23, h⟩ := h
        replace h := ob h; obtain ⟨t10, h24, h⟩ := h
        replace h := ob h; obtain ⟨t11, h25, h⟩ := h
        replace h := ob h; obtain ⟨⟨v4, δ7⟩, h26, h⟩ := h
        replace h := ob h; obtain ⟨⟨v5, δ8⟩, h27, h⟩ := h
        replace h := ob h; obtain ⟨t12, h28, h⟩ := h
        obtain ⟨hv, hd⟩ := Prod.mk.inj (Option.some.inj h); subst hv; subst hd
        exact js_ret (j_ix (j_lst (ja_cons (j_sl (j_var rfl) (jo_some j_C rfl) jo_none h21 rfl) (ja_cons (j_e2 (j_var rfl) (j_sl (j_var rfl) (jo_some (j_e1 j_C g_neg rfl) rfl) jo_none h22 rfl) h23 rfl rfl) (ja_cons (j_e1 (j_var rfl) h24 rfl) (ja_cons (j_call (ja_cons (j_var rfl) ja_nil) h25 rfl) (ja_cons (j_fnD (ja_cons (j_var rfl) ja_nil) (r_law_odd h26) ⟨rfl, trivial⟩ rfl) ja_nil))))) rfl (capOk rfl)) (j_fnD (ja_cons (j_var rfl) (ja_cons j_C ja_nil)) (r_law_next h27) ⟨rfl, rfl, trivial⟩ rfl) (g_ixL (e := eA) h28) rfl rfl) rfl
      · refine js_cons (js_ifF (jc_tE (j_e1 (j_var rfl) rfl rfl) rfl) hc js_nil) ?_
        replace h := cd h; rcases h with ⟨hc, h⟩ | ⟨hc, h⟩
        · refine js_consR (js_ifT (jc_tE (j_e1 (j_var rfl) rfl rfl) rfl) hc ?_)
          replace h := ob h; obtain ⟨t13, h29, h⟩ := h
          replace h := ob h; obtain ⟨t14, h30, h⟩ := h
          replace h := ob h; obtain ⟨t15, h31, h⟩ := h
          replace h := ob h; obtain ⟨b5, h32, h⟩ := h
          replace h := ob h; obtain ⟨⟨v6, δ9⟩, h33, h⟩ := h
          replace h := ob h; obtain ⟨⟨v7, δ10⟩, h34, h⟩ := h
          replace h := ob h; obtain ⟨t16, h35, h⟩ := h
          obtain ⟨hv, hd⟩ := Prod.mk.inj (Option.some.inj h); subst hv; subst hd
          exact js_ret (j_ix (j_lst (ja_cons (j_e2 (j_var rfl) j_C h29 rfl rfl) (ja_cons (j_e2 (j_var rfl) j_C h30 rfl rfl) (ja_cons (j_call (ja_cons (j_var rfl) ja_nil) h31 rfl) (ja_cons (j_e2 (j_var rfl) j_C (bo_eq h32) rfl rfl) (ja_cons j_C (ja_cons (j_fnD (ja_cons (j_var rfl) ja_nil) (r_law_odd h33) ⟨rfl, trivial⟩ rfl) ja_nil)))))) rfl (capOk rfl)) (j_fnD (ja_cons (j_var rfl) (ja_cons j_C ja_nil)) (r_law_next h34) ⟨rfl, rfl, trivial⟩ rfl) (g_ixL (e := eA) h35) rfl rfl) rfl
        · refine js_cons (js_ifF (jc_tE (j_e1 (j_var rfl) rfl rfl) rfl) hc js_nil) ?_
          replace h := ob h; obtain ⟨⟨v8, δ11⟩, h36, h⟩ := h
          obtain ⟨hv, hd⟩ := Prod.mk.inj (Option.some.inj h); subst hv; subst hd
          exact js_ret (j_fnD (ja_cons (j_var rfl) ja_nil) (r_law_odd h36) ⟨rfl, trivial⟩ rfl) rfl
theorem r_law_bent (n : Nat) {δ0 δ' : Deck} {thing : T} {deep : Int} {v : T} (h : m_law_bent n δ0 thing deep = some (v, δ')) : FnD (d__law_bent n) [.d, .v thing, .t (T.int deep)] δ0 δ' v := rr_law_bent n _ _ _ _ _ h
def m_law_part (δ0 : Deck) (items : List Int) (share : Int) : Option ((List Int) × Deck) :=
  (chk (items.length ≤ 16777216)).bind fun _ =>
  (compS (fun item δ1 =>
    (m_law_next δ1 (4:Int)).bind fun (v1, δ2) =>
    cond (decide (share ≤ v1)) (some (some item, δ2)) (some (none, δ2))) items δ0).bind fun (ys, δ3) =>
  some (ys, δ3)
theorem r_law_part {δ0 δ' : Deck} {items : List Int} {share : Int} {v : List Int} (h : m_law_part δ0 items share = some (v, δ')) : FnD d__law_part [.d, .v (eL T.int items), .t (T.int share)] δ0 δ' (eU T.int v) := by
  refine fnD_mk 3 4 (m := 1) rfl rfl fun Z => ?_
  unfold b__law_part
  unfold m_law_part at h
  replace h := ob h; obtain ⟨_, h1, h⟩ := h
  replace h := ob h; obtain ⟨⟨ys, δ3⟩, h3, h⟩ := h
  obtain ⟨hv, hd⟩ := Prod.mk.inj (Option.some.inj h); subst hv; subst hd
  refine js_ret (j_call (ja_cons (j_compS h3 (chk_ok h1) T.int (fun δ1 => dk δ1 Z) (fun δ1 => [.dk, .vw (eL T.int items), .tr (T.int share), .un]) (fun item δ1 => [.dk, .vw (eL T.int items), .tr (T.int share), .tr (T.int item)]) [3] (src_l T.int items (j_var rfl) rfl) (fun _ => same_dk) rfl (by rintro item δ1; exact bi_nm 3) ?g4 (by rintro δ1; rfl)) ja_nil) (g_tupL (e := T.int) _) rfl) rfl
  case g4 =>
    rintro item δ1 o s' h
    replace h := ob h; obtain ⟨⟨v1, δ2⟩, h2, h⟩ := h
    replace h := cd h; rcases h with ⟨hc, h⟩ | ⟨hc, h⟩
    · obtain ⟨hv, hd⟩ := Prod.mk.inj (Option.some.inj h); subst hv; subst hd
      exact ⟨_, jcb_some (jc_tE (j_e2 (j_fnD (ja_cons (j_var rfl) (ja_cons j_C ja_nil)) (r_law_next h2) ⟨rfl, rfl, trivial⟩ rfl) (j_var rfl) g_ge rfl rfl) rfl) hc (j_var rfl) rfl, rfl⟩
    · obtain ⟨hv, hd⟩ := Prod.mk.inj (Option.some.inj h); subst hv; subst hd
      exact ⟨_, jcb_none (jc_tE (j_e2 (j_fnD (ja_cons (j_var rfl) (ja_cons j_C ja_nil)) (r_law_next h2) ⟨rfl, rfl, trivial⟩ rfl) (j_var rfl) g_ge rfl rfl) rfl) hc, rfl⟩
def m_law_part_u (δ0 : Deck) (items : List Int) (share : Int) : Option ((List Int) × Deck) :=
  (chk (items.length ≤ 16777216)).bind fun _ =>
  (compS (fun item δ1 =>
    (m_law_next δ1 (4:Int)).bind fun (v1, δ2) =>
    cond (decide (share ≤ v1)) (some (some item, δ2)) (some (none, δ2))) items δ0).bind fun (ys, δ3) =>
  some (ys, δ3)
theorem r_law_part_u {δ0 δ' : Deck} {items : List Int} {share : Int} {v : List Int} (h : m_law_part_u δ0 items share = some (v, δ')) : FnD d__law_part [.d, .v (eU T.int items), .t (T.int share)] δ0 δ' (eU T.int v) := by
  refine fnD_mk 3 4 (m := 1) rfl rfl fun Z => ?_
  unfold b__law_part
  unfold m_law_part_u at h
  replace h := ob h; obtain ⟨_, h1, h⟩ := h
  replace h := ob h; obtain ⟨⟨ys, δ3⟩, h3, h⟩ := h
  obtain ⟨hv, hd⟩ := Prod.mk.inj (Option.some.inj h); subst hv; subst hd
  refine js_ret (j_call (ja_cons (j_compS h3 (chk_ok h1) T.int (fun δ1 => dk δ1 Z) (fun δ1 => [.dk, .vw (eU T.int items), .tr (T.int share), .un]) (fun item δ1 => [.dk, .vw (eU T.int items), .tr (T.int share), .tr (T.int item)]) [3] (src_u T.int items (j_var rfl) rfl) (fun _ => same_dk) rfl (by rintro item δ1; exact bi_nm 3) ?g4 (by rintro δ1; rfl)) ja_nil) (g_tupL (e := T.int) _) rfl) rfl
  case g4 =>
    rintro item δ1 o s' h
    replace h := ob h; obtain ⟨⟨v1, δ2⟩, h2, h⟩ := h
    replace h := cd h; rcases h with ⟨hc, h⟩ | ⟨hc, h⟩
    · obtain ⟨hv, hd⟩ := Prod.mk.inj (Option.some.inj h); subst hv; subst hd
      exact ⟨_, jcb_some (jc_tE (j_e2 (j_fnD (ja_cons (j_var rfl) (ja_cons j_C ja_nil)) (r_law_next h2) ⟨rfl, rfl, trivial⟩ rfl) (j_var rfl) g_ge rfl rfl) rfl) hc (j_var rfl) rfl, rfl⟩
    · obtain ⟨hv, hd⟩ := Prod.mk.inj (Option.some.inj h); subst hv; subst hd
      exact ⟨_, jcb_none (jc_tE (j_e2 (j_fnD (ja_cons (j_var rfl) (ja_cons j_C ja_nil)) (r_law_next h2) ⟨rfl, rfl, trivial⟩ rfl) (j_var rfl) g_ge rfl rfl) rfl) hc, rfl⟩
def m_law_shuffled (δ0 : Deck) (count : Int) : Option ((List Int) × Deck) :=
  (chk (rok (0:Int) count = true)).bind fun _ =>
  (some (rngL (0:Int) count)).bind fun left =>
  (whO (fun (left2, found, δ1) =>
    some (!left2.isEmpty)) (fun (left2, found, δ1) =>
    (m_law_next δ1 (left2.length : Int)).bind fun (v1, δ2) =>
    (popAt left2 v1).bind fun (t1, left3) =>
    (appO found t1).bind fun found2 =>
    some (left3, found2, δ2)) LL (left, [], δ0)).bind fun (left4, found3, δ3) =>
  some (found3, δ3)
theorem r_law_shuffled {δ0 δ' : Deck} {count : Int} {v : List Int} (h : m_law_shuffled δ0 count = some (v, δ')) : FnD d__law_shuffled [.d, .t (T.int count)] δ0 δ' (eU T.int v) := by
  refine fnD_mk 2 4 (m := 2) rfl rfl fun Z => ?_
  unfold b__law_shuffled
  unfold m_law_shuffled at h
  replace h := ob h; obtain ⟨_, h1, h⟩ := h
  replace h := ob h; obtain ⟨left, h2, h⟩ := h
  refine js_cons (js_par 2 3 (jas_n (jn_eq T.int h2 (jn_listR1 (ja_cons (j_var rfl) ja_nil) (chk_ok h1) rfl)) (jas_n (jn_lst ja_nil rfl (capOk rfl)) jas_nil rfl) rfl)) ?g10
  replace h := ob h; obtain ⟨⟨left4, found3, δ3⟩, h6, h⟩ := h
  refine js_cons (js_while h6 (fun (_, _, δ1) => dk δ1 Z) (fun (left2, found, δ1) => [.dk, .tr (T.int count), .bx (.lst (left2.map T.int)), .bx (.lst (found.map T.int))]) [] rfl rfl ?g8 ?g7) ?g9
  case g8 =>
    rintro ⟨left2, found, δ1⟩ b h
    have hv := Option.some.inj h; subst hv
    exact (jc_tE (j_e2 (j_var rfl) (j_lst ja_nil rfl (capOk rfl)) (g_neE (e := T.int) _) rfl rfl) rfl)
  case g7 =>
    rintro ⟨left2, found, δ1⟩ s' h
    replace h := ob h; obtain ⟨⟨v1, δ2⟩, h3, h⟩ := h
    replace h := ob h; obtain ⟨⟨t1, left3⟩, h4, h⟩ := h
    replace h := ob h; obtain ⟨found2, h5, h⟩ := h
    have hv := Option.some.inj h; subst hv
    exact js_fin (js_expr (jx_append T.int h5 (j_popAt T.int (j_fnD (ja_cons (j_var rfl) (ja_cons (j_call (ja_cons (j_var rfl) ja_nil) (g_lenL (e := T.int) _) rfl) ja_nil)) (r_law_next h3) ⟨rfl, rfl, trivial⟩ rfl) h4 rfl rfl rfl) rfl rfl rfl)) rfl
  obtain ⟨hv, hd⟩ := Prod.mk.inj (Option.some.inj h); subst hv; subst hd
  exact js_ret (j_call (ja_cons (j_var rfl) ja_nil) (g_tupL (e := T.int) _) rfl) rfl
def m_law_intervals (δ0 : Deck) (demands : Int) (offers : Int) : Option ((Int × (List (List Int))) × Deck) :=
  (m_law_shuffled δ0 demands).bind fun (v1, δ1) =>
  (chk (offers.natAbs < 4000000000000000000)).bind fun _ =>
  (forO (fun k_ (found, δ2) =>
    (m_law_next δ2 demands).bind fun (v2, δ3) =>
    (m_law_next δ3 demands).bind fun (v3, δ4) =>
    (appO found (isort (cutL v1 (some v2) (some ((v2 + (1:Int)) + v3))))).bind fun found2 =>
    some (found2, δ4)) (rngL 0 offers) ([], δ1)).bind fun (found3, δ5) =>
  some ((demands, found3), δ5)
theorem r_law_intervals {δ0 δ' : Deck} {demands : Int} {offers : Int} {v : Int × (List (List Int))} (h : m_law_intervals δ0 demands offers = some (v, δ')) : FnD d__law_intervals [.d, .t (T.int demands), .t (T.int offers)] δ0 δ' (eP2 T.int (eU (eU T.int)) v) := by
  refine fnD_mk 3 7 (m := 4) rfl rfl fun Z => ?_
  unfold b__law_intervals
  unfold m_law_intervals at h
  replace h := ob h; obtain ⟨⟨v1, δ1⟩, h1, h⟩ := h
  refine js_cons (js_par 3 4 (jas_t (j_fnD (ja_cons (j_var rfl) (ja_cons (j_var rfl) ja_nil)) (r_law_shuffled h1) ⟨rfl, rfl, trivial⟩ rfl) (jas_n (jn_lst ja_nil rfl (capOk rfl)) jas_nil rfl) rfl)) ?g10
  replace h := ob h; obtain ⟨_, h2, h⟩ := h
  replace h := ob h; obtain ⟨⟨found3, δ5⟩, h7, h⟩ := h
  refine js_cons (js_for h7 (fun (_, δ2) => dk δ2 Z) (fun (found, δ2) => [.dk, .tr (T.int demands), .tr (T.int offers), .tr (eU T.int v1), .bx (.lst (found.map (eU T.int))), .un, .un]) (fun k_ (found, δ2) => [.dk, .tr (T.int demands), .tr (T.int offers), .tr (eU T.int v1), .bx (.lst (found.map (eU T.int))), .tr (T.int k_), .un]) [5] [5, 6] (src_r1 (ja_cons (j_var rfl) ja_nil) (chk_ok h2) rfl) (by rintro ⟨found, δ2⟩; exact same_dk) rfl (by rintro k_ ⟨found, δ2⟩; exact bi_nm 5) ?g8) ?g9
  case g8 =>
    rintro k_ ⟨found, δ2⟩ s' h
    replace h := ob h; obtain ⟨⟨v2, δ3⟩, h3, h⟩ := h
    refine js_cons (js_set (j_fnD (ja_cons (j_var rfl) (ja_cons (j_var rfl) ja_nil)) (r_law_next h3) ⟨rfl, rfl, trivial⟩ rfl) 6 rfl) ?g6
    replace h := ob h; obtain ⟨⟨v3, δ4⟩, h4, h⟩ := h
    replace h := ob h; obtain ⟨found2, h5, h⟩ := h
    have hv := Option.some.inj h; subst hv
    exact js_fin (js_expr (jx_append (eU T.int) h5 (j_call (ja_cons (j_call (ja_cons (j_sl (j_var rfl) (jo_some (j_var rfl) rfl) (jo_some (j_e2 (j_e2 (j_var rfl) j_C g_add rfl rfl) (j_fnD (ja_cons (j_var rfl) (ja_cons (j_var rfl) ja_nil)) (r_law_next h4) ⟨rfl, rfl, trivial⟩ rfl) g_add rfl rfl) rfl) (g_slU (e := T.int) _ _ _) rfl) ja_nil) (g_srtU _) rfl) ja_nil) (g_tupL (e := T.int) _) rfl) rfl rfl rfl)) rfl
  obtain ⟨hv, hd⟩ := Prod.mk.inj (Option.some.inj h); subst hv; subst hd
  exact js_ret (j_tup (ja_cons (j_var rfl) (ja_cons (j_call (ja_cons (j_var rfl) ja_nil) (g_tupL (e := (eU T.int)) _) rfl) ja_nil)) rfl (capOk rfl)) rfl
def m_law_around (δ0 : Deck) (demands : Int) (offers : Int) : Option ((Int × (List (List Int))) × Deck) :=
  (m_law_shuffled δ0 demands).bind fun (v1, δ1) =>
  (m_law_next δ1 (3:Int)).bind fun (v2, δ2) =>
  (chk (offers.natAbs < 4000000000000000000)).bind fun _ =>
  (forO (fun k_ (found, δ3) =>
    cond ((decide (((3:Int) + v2) ≤ demands)) && (decide (k_ < ((3:Int) + v2)))) (
    (L2.atI v1 k_).bind fun t1 =>
    (oMod (k_ + (1:Int)) ((3:Int) + v2)).bind fun t2 =>
    (L2.atI v1 t2).bind fun t3 =>
    (m_law_part_u δ3 (cutL v1 (some ((3:Int) + v2)) none) (3:Int)).bind fun (v3, δ4) =>
    (catO ([t1, t3]) v3).bind fun t4 =>
    (appO found (isort t4)).bind fun found2 =>
    some (found2, δ4)) (
    (chk (rok (0:Int) demands = true)).bind fun _ =>
    (m_law_next δ3 (3:Int)).bind fun (v4, δ5) =>
    (m_law_part δ5 (rngL (0:Int) demands) ((1:Int) + v4)).bind fun (v5, δ6) =>
    (appO found v5).bind fun found3 =>
    some (found3, δ6))) (rngL 0 offers) ([], δ2)).bind fun (found4, δ7) =>
  (chk (offers.natAbs < 4000000000000000000)).bind fun _ =>
  (chk ((rngL 0 offers).length ≤ 16777216)).bind fun _ =>
  (compS (fun k_2 (found5, δ8) =>
    (m_law_next δ8 (found5.length : Int)).bind fun (v6, δ9) =>
    (popAt found5 v6).bind fun (t5, found6) =>
    some (some t5, (found6, δ9))) (rngL 0 offers) (found4, δ7)).bind fun (ys, found7, δ10) =>
  some ((demands, ys), δ10)
theorem r_law_around {δ0 δ' : Deck} {demands : Int} {offers : Int} {v : Int × (List (List Int))} (h : m_law_around δ0 demands offers = some (v, δ')) : FnD d__law_around [.d, .t (T.int demands), .t (T.int offers)] δ0 δ' (eP2 T.int (eU (eU T.int)) v) := by
  refine fnD_mk 3 7 (m := 4) rfl rfl fun Z => ?_
  unfold b__law_around
  unfold m_law_around at h
  replace h := ob h; obtain ⟨⟨v1, δ1⟩, h1, h⟩ := h
  replace h := ob h; obtain ⟨⟨v2, δ2⟩, h2, h⟩ := h
  refine js_cons (js_par 3 4 (jas_t (j_fnD (ja_cons (j_var rfl) (ja_cons (j_var rfl) ja_nil)) (r_law_shuffled h1) ⟨rfl, rfl, trivial⟩ rfl) (jas_t (j_e2 j_C (j_fnD (ja_cons (j_var rfl) (ja_cons j_C ja_nil)) (r_law_next h2) ⟨rfl, rfl, trivial⟩ rfl) g_add rfl rfl) jas_nil rfl) rfl)) ?g25
  refine js_cons (js_setN (jn_lst ja_nil rfl (capOk rfl)) 5) ?g24
  replace h := ob h; obtain ⟨_, h3, h⟩ := h
  replace h := ob h; obtain ⟨⟨found4, δ7⟩, h15, h⟩ := h
  refine js_cons (js_for h15 (fun (_, δ3) => dk δ3 Z) (fun (found, δ3) => [.dk, .tr (T.int demands), .tr (T.int offers), .tr (eU T.int v1), .tr (T.int ((3:Int) + v2)), .bx (.lst (found.map (eU T.int))), .un]) (fun k_ (found, δ3) => [.dk, .tr (T.int demands), .tr (T.int offers), .tr (eU T.int v1), .tr (T.int ((3:Int) + v2)), .bx (.lst (found.map (eU T.int))), .tr (T.int k_)]) [6] [6] (src_r1 (ja_cons (j_var rfl) ja_nil) (chk_ok h3) rfl) (by rintro ⟨found, δ3⟩; exact same_dk) rfl (by rintro k_ ⟨found, δ3⟩; exact bi_nm 6) ?g16) ?g23
  case g16 =>
    rintro k_ ⟨found, δ3⟩ s' h
    replace h := cd h; rcases h with ⟨hc, h⟩ | ⟨hc, h⟩
    · refine js_ifT (jc_andP (jc_tE (j_e2 (j_var rfl) (j_var rfl) g_le rfl rfl) rfl) (jc_tE (j_e2 (j_var rfl) (j_var rfl) g_lt rfl rfl) rfl)) hc ?_
      replace h := ob h; obtain ⟨t1, h4, h⟩ := h
      replace h := ob h; obtain ⟨t2, h5, h⟩ := h
      replace h := ob h; obtain ⟨t3, h6, h⟩ := h
      replace h := ob h; obtain ⟨⟨v3, δ4⟩, h7, h⟩ := h
      replace h := ob h; obtain ⟨t4, h8, h⟩ := h
      replace h := ob h; obtain ⟨found2, h9, h⟩ := h
      have hv := Option.some.inj h; subst hv
      exact js_fin (js_expr (jx_append (eU T.int) h9 (j_call (ja_cons (j_call (ja_cons (j_e2 (j_lst (ja_cons (j_ix (j_var rfl) (j_var rfl) (g_ixU (e := T.int) h4) rfl rfl) (ja_cons (j_ix (j_var rfl) (j_e2 (j_e2 (j_var rfl) j_C g_add rfl rfl) (j_var rfl) (g_mod h5) rfl rfl) (g_ixU (e := T.int) h6) rfl rfl) ja_nil)) rfl (capOk rfl)) (j_call (ja_cons (j_fnD (ja_cons (j_var rfl) (ja_cons (j_sl (j_var rfl) (jo_some (j_var rfl) rfl) jo_none (g_slU (e := T.int) _ _ _) rfl) (ja_cons j_C ja_nil))) (r_law_part_u h7) ⟨rfl, rfl, rfl, trivial⟩ rfl) ja_nil) (g_lstU (e := T.int) _) rfl) (g_catL (e := T.int) h8) rfl rfl) ja_nil) (g_srtL _) rfl) ja_nil) (g_tupL (e := T.int) _) rfl) rfl rfl rfl)) rfl
    · refine js_ifF (jc_andP (jc_tE (j_e2 (j_var rfl) (j_var rfl) g_le rfl rfl) rfl) (jc_tE (j_e2 (j_var rfl) (j_var rfl) g_lt rfl rfl) rfl)) hc ?_
      replace h := ob h; obtain ⟨_, h11, h⟩ := h
      replace h := ob h; obtain ⟨⟨v4, δ5⟩, h12, h⟩ := h
      replace h := ob h; obtain ⟨⟨v5, δ6⟩, h13, h⟩ := h
      replace h := ob h; obtain ⟨found3, h14, h⟩ := h
      have hv := Option.some.inj h; subst hv
      exact js_fin (js_expr (jx_append (eU T.int) h14 (j_fnD (ja_cons (j_var rfl) (ja_cons (j_listR1 (ja_cons (j_var rfl) ja_nil) (chk_ok h11) rfl) (ja_cons (j_e2 j_C (j_fnD (ja_cons (j_var rfl) (ja_cons j_C ja_nil)) (r_law_next h12) ⟨rfl, rfl, trivial⟩ rfl) g_add rfl rfl) ja_nil))) (r_law_part h13) ⟨rfl, rfl, rfl, trivial⟩ rfl) rfl rfl rfl)) rfl
  replace h := ob h; obtain ⟨_, h17, h⟩ := h
  replace h := ob h; obtain ⟨_, h18, h⟩ := h
  replace h := ob h; obtain ⟨⟨ys, found7, δ10⟩, h21, h⟩ := h
  obtain ⟨hv, hd⟩ := Prod.mk.inj (Option.some.inj h); subst hv; subst hd
  refine js_ret (j_tup (ja_cons (j_var rfl) (ja_cons (j_call (ja_cons (j_compS h21 (chk_ok h18) (eU T.int) (fun (_, δ8) => dk δ8 Z) (fun (found5, δ8) => [.dk, .tr (T.int demands), .tr (T.int offers), .tr (eU T.int v1), .tr (T.int ((3:Int) + v2)), .bx (.lst (found5.map (eU T.int))), .un]) (fun k_2 (found5, δ8) => [.dk, .tr (T.int demands), .tr (T.int offers), .tr (eU T.int v1), .tr (T.int ((3:Int) + v2)), .bx (.lst (found5.map (eU T.int))), .tr (T.int k_2)]) [6] (src_r1 (ja_cons (j_var rfl) ja_nil) (chk_ok h17) rfl) (fun _ => same_dk) rfl (by rintro k_2 ⟨found5, δ8⟩; exact bi_nm 6) ?g22 (by rintro ⟨found5, δ8⟩; rfl)) ja_nil) (g_tupL (e := (eU T.int)) _) rfl) ja_nil)) rfl (capOk rfl)) rfl
  case g22 =>
    rintro k_2 ⟨found5, δ8⟩ o s' h
    replace h := ob h; obtain ⟨⟨v6, δ9⟩, h19, h⟩ := h
    replace h := ob h; obtain ⟨⟨t5, found6⟩, h20, h⟩ := h
    obtain ⟨hv, hd⟩ := Prod.mk.inj (Option.some.inj h); subst hv; subst hd
    exact ⟨_, jcb_some jc_true rfl (j_popAt (eU T.int) (j_fnD (ja_cons (j_var rfl) (ja_cons (j_call (ja_cons (j_var rfl) ja_nil) (g_lenL (e := (eU T.int)) _) rfl) ja_nil)) (r_law_next h19) ⟨rfl, rfl, trivial⟩ rfl) h20 rfl rfl rfl) rfl, rfl⟩
def m_law_any (δ0 : Deck) (demands : Int) (offers : Int) : Option ((Int × (List (List Int))) × Deck) :=
  (m_law_next δ0 (4:Int)).bind fun (v1, δ1) =>
  (chk (offers.natAbs < 4000000000000000000)).bind fun _ =>
  (forO (fun k_ (found, δ2) =>
    (cond (!found.isEmpty) ((m_law_next δ2 (6:Int)).bind fun (v2, δ3) =>
    some ((decide (v2 = (0:Int))), δ3)) (some (false, δ2))).bind fun (b1, δ4) =>
    cond b1 (
    (m_law_one_o δ4 found).bind fun (v3, δ5) =>
    (appO found v3).bind fun found2 =>
    some (found2, δ5)) (
    (chk (rok (0:Int) demands = true)).bind fun _ =>
    (m_law_part δ4 (rngL (0:Int) demands) v1).bind fun (v4, δ6) =>
    (appO found v4).bind fun found3 =>
    some (found3, δ6))) (rngL 0 offers) ([], δ1)).bind fun (found4, δ7) =>
  some ((demands, found4), δ7)
theorem r_law_any {δ0 δ' : Deck} {demands : Int} {offers : Int} {v : Int × (List (List Int))} (h : m_law_any δ0 demands offers = some (v, δ')) : FnD d__law_any [.d, .t (T.int demands), .t (T.int offers)] δ0 δ' (eP2 T.int (eU (eU T.int)) v) := by
  refine fnD_mk 3 6 (m := 3) rfl rfl fun Z => ?_
  unfold b__law_any
  unfold m_law_any at h
  replace h := ob h; obtain ⟨⟨v1, δ1⟩, h1, h⟩ := h
  refine js_cons (js_par 3 4 (jas_t (j_fnD (ja_cons (j_var rfl) (ja_cons j_C ja_nil)) (r_law_next h1) ⟨rfl, rfl, trivial⟩ rfl) (jas_n (jn_lst ja_nil rfl (capOk rfl)) jas_nil rfl) rfl)) ?g16
  replace h := ob h; obtain ⟨_, h2, h⟩ := h
  replace h := ob h; obtain ⟨⟨found4, δ7⟩, h13, h⟩ := h
  refine js_cons (js_for h13 (fun (_, δ2) => dk δ2 Z) (fun (found, δ2) => [.dk, .tr (T.int demands), .tr (T.int offers), .tr (T.int v1), .bx (.lst (found.map (eU T.int))), .un]) (fun k_ (found, δ2) => [.dk, .tr (T.int demands), .tr (T.int offers), .tr (T.int v1), .bx (.lst (found.map (eU T.int))), .tr (T.int k_)]) [5] [5] (src_r1 (ja_cons (j_var rfl) ja_nil) (chk_ok h2) rfl) (by rintro ⟨found, δ2⟩; exact same_dk) rfl (by rintro k_ ⟨found, δ2⟩; exact bi_nm 5) ?g14) ?g15
  case g14 =>
    rintro k_ ⟨found, δ2⟩ s' h
    replace h := ob h; obtain ⟨⟨b1, δ4⟩, h4, h⟩ := h
    replace h := cd h; rcases h with ⟨hc, h⟩ | ⟨hc, h⟩
    · refine js_ifT (jc_and (P2 := dk δ4 Z) (Γ2 := [.dk, .tr (T.int demands), .tr (T.int offers), .tr (T.int v1), .bx (.lst (found.map (eU T.int))), .tr (T.int k_)]) (jc_tE (j_e2 (j_var rfl) (j_lst ja_nil rfl (capOk rfl)) (g_neE (e := (eU T.int)) _) rfl rfl) rfl) ?g5 ?g6) hc ?_
      case g5 =>
        intro hc
        try clear h
        have h := h4
        replace h := cd h; rcases h with ⟨hd, h⟩ | ⟨hd, h⟩
        · replace h := ob h; obtain ⟨⟨v2, δ3⟩, h3, h⟩ := h
          obtain ⟨hv, hd⟩ := Prod.mk.inj (Option.some.inj h); subst hv; subst hd
          exact (jc_tE (j_e2 (j_fnD (ja_cons (j_var rfl) (ja_cons j_C ja_nil)) (r_law_next h3) ⟨rfl, rfl, trivial⟩ rfl) j_C g_eqI rfl rfl) rfl)
        · rw [hd] at hc; cases hc
      case g6 =>
        intro hc
        try clear h
        have h := h4
        replace h := cd h; rcases h with ⟨hd, h⟩ | ⟨hd, h⟩
        · rw [hd] at hc; cases hc
        · obtain ⟨hv, hd⟩ := Prod.mk.inj (Option.some.inj h); subst hv; subst hd; exact ⟨rfl, rfl, rfl⟩
      replace h := ob h; obtain ⟨⟨v3, δ5⟩, h7, h⟩ := h
      replace h := ob h; obtain ⟨found2, h8, h⟩ := h
      have hv := Option.some.inj h; subst hv
      exact js_fin (js_expr (jx_append (eU T.int) h8 (j_fnD (ja_cons (j_var rfl) (ja_cons (j_var rfl) ja_nil)) (r_law_one_o h7) ⟨rfl, rfl, trivial⟩ rfl) rfl rfl rfl)) rfl
    · refine js_ifF (jc_and (P2 := dk δ4 Z) (Γ2 := [.dk, .tr (T.int demands), .tr (T.int offers), .tr (T.int v1), .bx (.lst (found.map (eU T.int))), .tr (T.int k_)]) (jc_tE (j_e2 (j_var rfl) (j_lst ja_nil rfl (capOk rfl)) (g_neE (e := (eU T.int)) _) rfl rfl) rfl) ?g5q18 ?g6q18) hc ?_
      case g5q18 =>
        intro hc
        try clear h
        have h := h4
        replace h := cd h; rcases h with ⟨hd, h⟩ | ⟨hd, h⟩
        · replace h := ob h; obtain ⟨⟨v2, δ3⟩, h3, h⟩ := h
          obtain ⟨hv, hd⟩ := Prod.mk.inj (Option.some.inj h); subst hv; subst hd
          exact (jc_tE (j_e2 (j_fnD (ja_cons (j_var rfl) (ja_cons j_C ja_nil)) (r_law_next h3) ⟨rfl, rfl, trivial⟩ rfl) j_C g_eqI rfl rfl) rfl)
        · rw [hd] at hc; cases hc
      case g6q18 =>
        intro hc
        try clear h
        have h := h4
        replace h := cd h; rcases h with ⟨hd, h⟩ | ⟨hd, h⟩
        · rw [hd] at hc; cases hc
        · obtain ⟨hv, hd⟩ := Prod.mk.inj (Option.some.inj h); subst hv; subst hd; exact ⟨rfl, rfl, rfl⟩
      replace h := ob h; obtain ⟨_, h10, h⟩ := h
      replace h := ob h; obtain ⟨⟨v4, δ6⟩, h11, h⟩ := h
      replace h := ob h; obtain ⟨found3, h12, h⟩ := h
      have hv := Option.some.inj h; subst hv
      exact js_fin (js_expr (jx_append (eU T.int) h12 (j_fnD (ja_cons (j_var rfl) (ja_cons (j_listR1 (ja_cons (j_var rfl) ja_nil) (chk_ok h10) rfl) (ja_cons (j_var rfl) ja_nil))) (r_law_part h11) ⟨rfl, rfl, rfl, trivial⟩ rfl) rfl rfl rfl)) rfl
  obtain ⟨hv, hd⟩ := Prod.mk.inj (Option.some.inj h); subst hv; subst hd
  exact js_ret (j_tup (ja_cons (j_var rfl) (ja_cons (j_call (ja_cons (j_var rfl) ja_nil) (g_tupL (e := (eU T.int)) _) rfl) ja_nil)) rfl (capOk rfl)) rfl
def m_law_table (δ0 : Deck) (demands : Int) (offers : Int) : Option ((Int × (List (List Int))) × Deck) :=
  (m_law_next δ0 demands).bind fun (v1, δ1) =>
  (m_law_next δ1 (offers + (1:Int))).bind fun (v2, δ2) =>
  (m_law_next δ2 (5:Int)).bind fun (v3, δ3) =>
  cond (decide (v3 < (2:Int))) ((m_law_intervals δ3 ((1:Int) + v1) v2).bind fun (v4, δ4) =>
  some (v4, δ4)) (
  (cond (decide (v3 = (2:Int))) ((m_law_around δ3 ((1:Int) + v1) v2).bind fun (v5, δ5) =>
  some (v5, δ5)) ((m_law_any δ3 ((1:Int) + v1) v2).bind fun (v6, δ6) =>
  some (v6, δ6))).bind fun (t1, δ7) =>
  some (t1, δ7))
theorem r_law_table {δ0 δ' : Deck} {demands : Int} {offers : Int} {v : Int × (List (List Int))} (h : m_law_table δ0 demands offers = some (v, δ')) : FnD d__law_table [.d, .t (T.int demands), .t (T.int offers)] δ0 δ' (eP2 T.int (eU (eU T.int)) v) := by
  refine fnD_mk 3 4 (m := 1) rfl rfl fun Z => ?_
  unfold b__law_table
  unfold m_law_table at h
  replace h := ob h; obtain ⟨⟨v1, δ1⟩, h1, h⟩ := h
  replace h := ob h; obtain ⟨⟨v2, δ2⟩, h2, h⟩ := h
  refine js_cons (js_par 1 2 (jas_t (j_e2 j_C (j_fnD (ja_cons (j_var rfl) (ja_cons (j_var rfl) ja_nil)) (r_law_next h1) ⟨rfl, rfl, trivial⟩ rfl) g_add rfl rfl) (jas_t (j_fnD (ja_cons (j_var rfl) (ja_cons (j_e2 (j_var rfl) j_C g_add rfl rfl) ja_nil)) (r_law_next h2) ⟨rfl, rfl, trivial⟩ rfl) jas_nil rfl) rfl)) ?g12
  replace h := ob h; obtain ⟨⟨v3, δ3⟩, h3, h⟩ := h
  refine js_cons (js_set (j_fnD (ja_cons (j_var rfl) (ja_cons j_C ja_nil)) (r_law_next h3) ⟨rfl, rfl, trivial⟩ rfl) 3 rfl) ?g11
  replace h := cd h; rcases h with ⟨hc, h⟩ | ⟨hc, h⟩
  · refine js_consR (js_ifT (jc_tE (j_e2 (j_var rfl) j_C g_lt rfl rfl) rfl) hc ?_)
    replace h := ob h; obtain ⟨⟨v4, δ4⟩, h4, h⟩ := h
    obtain ⟨hv, hd⟩ := Prod.mk.inj (Option.some.inj h); subst hv; subst hd
    exact js_ret (j_fnD (ja_cons (j_var rfl) (ja_cons (j_var rfl) (ja_cons (j_var rfl) ja_nil))) (r_law_intervals h4) ⟨rfl, rfl, rfl, trivial⟩ rfl) rfl
  · refine js_cons (js_ifF (jc_tE (j_e2 (j_var rfl) j_C g_lt rfl rfl) rfl) hc js_nil) ?_
    replace h := ob h; obtain ⟨⟨t1, δ7⟩, h7, h⟩ := h
    obtain ⟨hv, hd⟩ := Prod.mk.inj (Option.some.inj h); subst hv; subst hd
    refine js_ret (j_if (P2 := dk δ7 Z) (Γ2 := [.dk, .tr (T.int ((1:Int) + v1)), .tr (T.int v2), .tr (T.int v3)]) (x' := (eP2 T.int (eU (eU T.int)) t1)) (jc_tE (j_e2 (j_var rfl) j_C g_eqI rfl rfl) rfl) ?g8 ?g9) rfl
    case g8 =>
      intro hc
      try clear h
      have h := h7
      replace h := cd h; rcases h with ⟨hd, h⟩ | ⟨hd, h⟩
      · replace h := ob h; obtain ⟨⟨v5, δ5⟩, h5, h⟩ := h
        obtain ⟨hv, hd⟩ := Prod.mk.inj (Option.some.inj h); subst hv; subst hd
        exact ⟨_, (j_fnD (ja_cons (j_var rfl) (ja_cons (j_var rfl) (ja_cons (j_var rfl) ja_nil))) (r_law_around h5) ⟨rfl, rfl, rfl, trivial⟩ rfl), rfl⟩
      · rw [hd] at hc; cases hc
    case g9 =>
      intro hc
      try clear h
      have h := h7
      replace h := cd h; rcases h with ⟨hd, h⟩ | ⟨hd, h⟩
      · rw [hd] at hc; cases hc
      · replace h := ob h; obtain ⟨⟨v6, δ6⟩, h6, h⟩ := h
        obtain ⟨hv, hd⟩ := Prod.mk.inj (Option.some.inj h); subst hv; subst hd
        exact ⟨_, (j_fnD (ja_cons (j_var rfl) (ja_cons (j_var rfl) (ja_cons (j_var rfl) ja_nil))) (r_law_any h6) ⟨rfl, rfl, rfl, trivial⟩ rfl), rfl⟩
def m_mask_of (demands : List Int) : Option Int :=
  (chk (demands.length ≤ 16777216)).bind fun _ =>
  (compO (fun demand =>
    (oShl (1:Int) demand).bind fun t1 =>
    some (some t1)) demands).bind fun ys =>
  some ys.sum
theorem r_mask_of {demands : List Int} {v : Int} (h : m_mask_of demands = some v) : FnP d_mask_of [.v (eL T.int demands)] (T.int v) := by
  refine fnP_mk 1 2 (m := 1) rfl rfl fun P => ?_
  unfold b_mask_of
  unfold m_mask_of at h
  replace h := ob h; obtain ⟨_, h1, h⟩ := h
  replace h := ob h; obtain ⟨ys, h3, h⟩ := h
  have hv := Option.some.inj h; subst hv
  refine js_ret (j_call (ja_cons (j_comp h3 (chk_ok h1) T.int (fun demand => [.vw (eL T.int demands), .tr (T.int demand)]) [1] [.vw (eL T.int demands), .un] (src_l T.int demands (j_var rfl) rfl) rfl (by rintro demand; exact bi_nm 1) ?g4 rfl rfl) ja_nil) (g_sum _) rfl) rfl
  case g4 =>
    rintro demand o h
    replace h := ob h; obtain ⟨t1, h2, h⟩ := h
    have hv := Option.some.inj h; subst hv
    exact ⟨_, jcb_some jc_true rfl (j_e2 j_C (j_var rfl) (g_shl h2) rfl rfl) rfl, rfl⟩
def m_mask_of_u (demands : List Int) : Option Int :=
  (chk (demands.length ≤ 16777216)).bind fun _ =>
  (compO (fun demand =>
    (oShl (1:Int) demand).bind fun t1 =>
    some (some t1)) demands).bind fun ys =>
  some ys.sum
theorem r_mask_of_u {demands : List Int} {v : Int} (h : m_mask_of_u demands = some v) : FnP d_mask_of [.v (eU T.int demands)] (T.int v) := by
  refine fnP_mk 1 2 (m := 1) rfl rfl fun P => ?_
  unfold b_mask_of
  unfold m_mask_of_u at h
  replace h := ob h; obtain ⟨_, h1, h⟩ := h
  replace h := ob h; obtain ⟨ys, h3, h⟩ := h
  have hv := Option.some.inj h; subst hv
  refine js_ret (j_call (ja_cons (j_comp h3 (chk_ok h1) T.int (fun demand => [.vw (eU T.int demands), .tr (T.int demand)]) [1] [.vw (eU T.int demands), .un] (src_u T.int demands (j_var rfl) rfl) rfl (by rintro demand; exact bi_nm 1) ?g4 rfl rfl) ja_nil) (g_sum _) rfl) rfl
  case g4 =>
    rintro demand o h
    replace h := ob h; obtain ⟨t1, h2, h⟩ := h
    have hv := Option.some.inj h; subst hv
    exact ⟨_, jcb_some jc_true rfl (j_e2 j_C (j_var rfl) (g_shl h2) rfl rfl) rfl, rfl⟩
def m_masks_of (table : Int × (List (List Int))) : Option (List Int) :=
  (chk (table.2.length ≤ 16777216)).bind fun _ =>
  (compO (fun offer =>
    (m_mask_of_u offer).bind fun v1 =>
    some (some v1)) table.2).bind fun ys =>
  some ys
theorem r_masks_of {table : Int × (List (List Int))} {v : List Int} (h : m_masks_of table = some v) : FnP d_masks_of [.v (eP2 T.int (eU (eU T.int)) table)] (eL T.int v) := by
  refine fnP_mk 1 2 (m := 1) rfl rfl fun P => ?_
  unfold b_masks_of
  unfold m_masks_of at h
  replace h := ob h; obtain ⟨_, h1, h⟩ := h
  replace h := ob h; obtain ⟨ys, h3, h⟩ := h
  have hv := Option.some.inj h; subst hv
  refine js_ret (j_comp h3 (chk_ok h1) T.int (fun offer => [.vw (eP2 T.int (eU (eU T.int)) table), .tr (eU T.int offer)]) [1] [.vw (eP2 T.int (eU (eU T.int)) table), .un] (src_u (eU T.int) table.2 (j_ix (j_var rfl) j_C (ix2_1 (e := T.int) (e' := (eU (eU T.int))) _) rfl rfl) rfl) rfl (by rintro offer; exact bi_nm 1) ?g4 rfl rfl) rfl
  case g4 =>
    rintro offer o h
    replace h := ob h; obtain ⟨v1, h2, h⟩ := h
    have hv := Option.some.inj h; subst hv
    exact ⟨_, jcb_some jc_true rfl (j_fnP (ja_cons (j_var rfl) ja_nil) (r_mask_of_u h2) ⟨rfl, trivial⟩ rfl) rfl, rfl⟩
def m_is_simple (masks : List Int) (rest : Int) (demand : Int) : Option Bool :=
  (chk (masks.length ≤ 16777216)).bind fun _ =>
  (compO (fun mask =>
    (oShr mask demand).bind fun t1 =>
    cond (decide ((Builtin.bitAnd t1 (1:Int)) = (1:Int))) (some (some (Builtin.bitAnd mask rest))) (some none)) masks).bind fun ys =>
  (chk ((List.zip (isort ys) (cutL (isort ys) (some (1:Int)) none)).length ≤ 16777216)).bind fun _ =>
  some (((List.zip (isort ys) (cutL (isort ys) (some (1:Int)) none)).map (fun (one, other) => (decide ((Builtin.bitAnd one other) = one)))).all fun b => b)
theorem r_is_simple {masks : List Int} {rest : Int} {demand : Int} {v : Bool} (h : m_is_simple masks rest demand = some v) : FnP d_is_simple [.v (eL T.int masks), .t (T.int rest), .t (T.int demand)] (T.bl v) := by
  refine fnP_mk 3 7 (m := 4) rfl rfl fun P => ?_
  unfold b_is_simple
  unfold m_is_simple at h
  replace h := ob h; obtain ⟨_, h1, h⟩ := h
  replace h := ob h; obtain ⟨ys, h3, h⟩ := h
  refine js_cons (js_set (j_call (ja_cons (j_comp h3 (chk_ok h1) T.int (fun mask => [.vw (eL T.int masks), .tr (T.int rest), .tr (T.int demand), .un, .tr (T.int mask), .un, .un]) [4] [.vw (eL T.int masks), .tr (T.int rest), .tr (T.int demand), .un, .un, .un, .un] (src_l T.int masks (j_var rfl) rfl) rfl (by rintro mask; exact bi_nm 4) ?g4 rfl rfl) ja_nil) (g_srtL _) rfl) 3 rfl) ?g7
  case g4 =>
    rintro mask o h
    replace h := ob h; obtain ⟨t1, h2, h⟩ := h
    replace h := cd h; rcases h with ⟨hc, h⟩ | ⟨hc, h⟩
    · have hv := Option.some.inj h; subst hv
      exact ⟨_, jcb_some (jc_tE (j_e2 (j_e2 (j_e2 (j_var rfl) (j_var rfl) (g_shr h2) rfl rfl) j_C g_and rfl rfl) j_C g_eqI rfl rfl) rfl) hc (j_e2 (j_var rfl) (j_var rfl) g_and rfl rfl) rfl, rfl⟩
    · have hv := Option.some.inj h; subst hv
      exact ⟨_, jcb_none (jc_tE (j_e2 (j_e2 (j_e2 (j_var rfl) (j_var rfl) (g_shr h2) rfl rfl) j_C g_and rfl rfl) j_C g_eqI rfl rfl) rfl) hc, rfl⟩
  replace h := ob h; obtain ⟨_, h5, h⟩ := h
  have hv := Option.some.inj h; subst hv
  refine js_ret (j_call (ja_cons (j_comp (compO_all (fun (one, other) => (decide ((Builtin.bitAnd one other) = one))) (List.zip (isort ys) (cutL (isort ys) (some (1:Int)) none))) (chk_ok h5) T.bl (fun (one, other) => [.vw (eL T.int masks), .tr (T.int rest), .tr (T.int demand), .tr (eL T.int (isort ys)), .un, .tr (T.int one), .tr (T.int other)]) [5, 6] [.vw (eL T.int masks), .tr (T.int rest), .tr (T.int demand), .tr (eL T.int (isort ys)), .un, .un, .un] (src_zl T.int T.int (isort ys) (cutL (isort ys) (some (1:Int)) none) (ja_cons (j_var rfl) (ja_cons (j_sl (j_var rfl) (jo_some j_C rfl) jo_none (g_slL (e := T.int) _ _ _) rfl) ja_nil)) rfl rfl) rfl (by rintro ⟨one, other⟩; exact bi_tp [5, 6] (xs := [(T.int one), (T.int other)]) rfl) ?g6 rfl rfl) ja_nil) (g_all _) rfl) rfl
  case g6 =>
    rintro ⟨one, other⟩ o h
    have hv := Option.some.inj h; subst hv
    exact ⟨_, jcb_some jc_true rfl (j_e2 (j_e2 (j_var rfl) (j_var rfl) g_and rfl rfl) (j_var rfl) g_eqI rfl rfl) rfl, rfl⟩
def m_simple_in (table : Int × (List (List Int))) (rest : List Int) : Option (List Int) :=
  (m_masks_of table).bind fun v1 =>
  (m_mask_of rest).bind fun v2 =>
  (chk (rest.length ≤ 16777216)).bind fun _ =>
  (compO (fun demand =>
    (m_is_simple v1 v2 demand).bind fun v3 =>
    cond v3 (some (some demand)) (some none)) rest).bind fun ys =>
  some ys
theorem r_simple_in {table : Int × (List (List Int))} {rest : List Int} {v : List Int} (h : m_simple_in table rest = some v) : FnP d_simple_in [.v (eP2 T.int (eU (eU T.int)) table), .v (eL T.int rest)] (eL T.int v) := by
  refine fnP_mk 2 5 (m := 3) rfl rfl fun P => ?_
  unfold b_simple_in
  unfold m_simple_in at h
  replace h := ob h; obtain ⟨v1, h1, h⟩ := h
  replace h := ob h; obtain ⟨v2, h2, h⟩ := h
  refine js_cons (js_unp (j_tup (ja_cons (j_fnP (ja_cons (j_var rfl) ja_nil) (r_masks_of h1) ⟨rfl, trivial⟩ rfl) (ja_cons (j_fnP (ja_cons (j_var rfl) ja_nil) (r_mask_of h2) ⟨rfl, trivial⟩ rfl) ja_nil)) rfl (capOk rfl)) [2, 3] rfl rfl) ?g7
  replace h := ob h; obtain ⟨_, h3, h⟩ := h
  replace h := ob h; obtain ⟨ys, h5, h⟩ := h
  have hv := Option.some.inj h; subst hv
  refine js_ret (j_comp h5 (chk_ok h3) T.int (fun demand => [.vw (eP2 T.int (eU (eU T.int)) table), .vw (eL T.int rest), .tr (eL T.int v1), .tr (T.int v2), .tr (T.int demand)]) [4] [.vw (eP2 T.int (eU (eU T.int)) table), .vw (eL T.int rest), .tr (eL T.int v1), .tr (T.int v2), .un] (src_l T.int rest (j_var rfl) rfl) rfl (by rintro demand; exact bi_nm 4) ?g6 rfl rfl) rfl
  case g6 =>
    rintro demand o h
    replace h := ob h; obtain ⟨v3, h4, h⟩ := h
    replace h := cd h; rcases h with ⟨hc, h⟩ | ⟨hc, h⟩
    · have hv := Option.some.inj h; subst hv
      exact ⟨_, jcb_some (jc_tE (j_fnP (ja_cons (j_var rfl) (ja_cons (j_var rfl) (ja_cons (j_var rfl) ja_nil))) (r_is_simple h4) ⟨rfl, rfl, rfl, trivial⟩ rfl) rfl) hc (j_var rfl) rfl, rfl⟩
    · have hv := Option.some.inj h; subst hv
      exact ⟨_, jcb_none (jc_tE (j_fnP (ja_cons (j_var rfl) (ja_cons (j_var rfl) (ja_cons (j_var rfl) ja_nil))) (r_is_simple h4) ⟨rfl, rfl, rfl, trivial⟩ rfl) rfl) hc, rfl⟩
def m_simple_in_u (table : Int × (List (List Int))) (rest : List Int) : Option (List Int) :=
  (m_masks_of table).bind fun v1 =>
  (m_mask_of_u rest).bind fun v2 =>
  (chk (rest.length ≤ 16777216)).bind fun _ =>
  (compO (fun demand =>
    (m_is_simple v1 v2 demand).bind fun v3 =>
    cond v3 (some (some demand)) (some none)) rest).bind fun ys =>
  some ys
theorem r_simple_in_u {table : Int × (List (List Int))} {rest : List Int} {v : List Int} (h : m_simple_in_u table rest = some v) : FnP d_simple_in [.v (eP2 T.int (eU (eU T.int)) table), .v (eU T.int rest)] (eL T.int v) := by
  refine fnP_mk 2 5 (m := 3) rfl rfl fun P => ?_
  unfold b_simple_in
  unfold m_simple_in_u at h
  replace h := ob h; obtain ⟨v1, h1, h⟩ := h
  replace h := ob h; obtain ⟨v2, h2, h⟩ := h
  refine js_cons (js_unp (j_tup (ja_cons (j_fnP (ja_cons (j_var rfl) ja_nil) (r_masks_of h1) ⟨rfl, trivial⟩ rfl) (ja_cons (j_fnP (ja_cons (j_var rfl) ja_nil) (r_mask_of_u h2) ⟨rfl, trivial⟩ rfl) ja_nil)) rfl (capOk rfl)) [2, 3] rfl rfl) ?g7
  replace h := ob h; obtain ⟨_, h3, h⟩ := h
  replace h := ob h; obtain ⟨ys, h5, h⟩ := h
  have hv := Option.some.inj h; subst hv
  refine js_ret (j_comp h5 (chk_ok h3) T.int (fun demand => [.vw (eP2 T.int (eU (eU T.int)) table), .vw (eU T.int rest), .tr (eL T.int v1), .tr (T.int v2), .tr (T.int demand)]) [4] [.vw (eP2 T.int (eU (eU T.int)) table), .vw (eU T.int rest), .tr (eL T.int v1), .tr (T.int v2), .un] (src_u T.int rest (j_var rfl) rfl) rfl (by rintro demand; exact bi_nm 4) ?g6 rfl rfl) rfl
  case g6 =>
    rintro demand o h
    replace h := ob h; obtain ⟨v3, h4, h⟩ := h
    replace h := cd h; rcases h with ⟨hc, h⟩ | ⟨hc, h⟩
    · have hv := Option.some.inj h; subst hv
      exact ⟨_, jcb_some (jc_tE (j_fnP (ja_cons (j_var rfl) (ja_cons (j_var rfl) (ja_cons (j_var rfl) ja_nil))) (r_is_simple h4) ⟨rfl, rfl, rfl, trivial⟩ rfl) rfl) hc (j_var rfl) rfl, rfl⟩
    · have hv := Option.some.inj h; subst hv
      exact ⟨_, jcb_none (jc_tE (j_fnP (ja_cons (j_var rfl) (ja_cons (j_var rfl) (ja_cons (j_var rfl) ja_nil))) (r_is_simple h4) ⟨rfl, rfl, rfl, trivial⟩ rfl) rfl) hc, rfl⟩
def m_stuck_set (table : Int × (List (List Int))) : Option (List Int) :=
  (chk (rok (0:Int) table.1 = true)).bind fun _ =>
  (some (rngL (0:Int) table.1)).bind fun rest =>
  (m_simple_in table rest).bind fun v1 =>
  (whO (fun (rest2, simple) =>
    some (!simple.isEmpty)) (fun (rest2, simple) =>
    (L2.atI simple (0:Int)).bind fun t1 =>
    (remI rest2 t1).bind fun rest3 =>
    (m_simple_in table rest3).bind fun v2 =>
    some (rest3, v2)) LL (rest, v1)).bind fun (rest4, simple2) =>
  some rest4
theorem r_stuck_set {table : Int × (List (List Int))} {v : List Int} (h : m_stuck_set table = some v) : FnP d_stuck_set [.v (eP2 T.int (eU (eU T.int)) table)] (eL T.int v) := by
  refine fnP_mk 1 3 (m := 2) rfl rfl fun P => ?_
  unfold b_stuck_set
  unfold m_stuck_set at h
  replace h := ob h; obtain ⟨_, h1, h⟩ := h
  replace h := ob h; obtain ⟨rest, h2, h⟩ := h
  refine js_cons (js_setN (jn_eq T.int h2 (jn_listR1 (ja_cons (j_ix (j_var rfl) j_C (ix2_0 (e := T.int) (e' := (eU (eU T.int))) _) rfl rfl) ja_nil) (chk_ok h1) rfl)) 1) ?g13
  replace h := ob h; obtain ⟨v1, h3, h⟩ := h
  refine js_cons (js_set (j_fnP (ja_cons (j_var rfl) (ja_cons (j_var rfl) ja_nil)) (r_simple_in h3) ⟨rfl, rfl, trivial⟩ rfl) 2 rfl) ?g12
  replace h := ob h; obtain ⟨⟨rest4, simple2⟩, h8, h⟩ := h
  refine js_cons (js_while h8 (fun (_, _) => P) (fun (rest2, simple) => [.vw (eP2 T.int (eU (eU T.int)) table), .bx (.lst (rest2.map T.int)), .tr (eL T.int simple)]) [] rfl rfl ?g10 ?g9) ?g11
  case g10 =>
    rintro ⟨rest2, simple⟩ b h
    have hv := Option.some.inj h; subst hv
    exact (jc_tE (j_e2 (j_var rfl) (j_lst ja_nil rfl (capOk rfl)) (g_neE (e := T.int) _) rfl rfl) rfl)
  case g9 =>
    rintro ⟨rest2, simple⟩ s' h
    replace h := ob h; obtain ⟨t1, h4, h⟩ := h
    replace h := ob h; obtain ⟨rest3, h5, h⟩ := h
    refine js_cons (js_expr (j_remove (j_ix (j_var rfl) j_C (g_ixL (e := T.int) h4) rfl rfl) h5 rfl rfl rfl)) ?g7
    replace h := ob h; obtain ⟨v2, h6, h⟩ := h
    have hv := Option.some.inj h; subst hv
    exact js_fin (js_set (j_fnP (ja_cons (j_var rfl) (ja_cons (j_var rfl) ja_nil)) (r_simple_in h6) ⟨rfl, rfl, trivial⟩ rfl) 2 rfl) rfl
  have hv := Option.some.inj h; subst hv
  exact js_retB rfl rfl
def m_simple_digits (masks : List Int) (rest : Int) : Option (List Int) :=
  (chk (((Builtin.Int.intBits rest : Nat) : Int).natAbs < 4000000000000000000)).bind fun _ =>
  (chk ((rngL 0 ((Builtin.Int.intBits rest : Nat) : Int)).length ≤ 16777216)).bind fun _ =>
  (compO (fun demand =>
    (oShr rest demand).bind fun t1 =>
    (cond (decide ((Builtin.bitAnd t1 (1:Int)) = (1:Int))) ((m_is_simple masks rest demand).bind fun v1 =>
    some v1) (some false)).bind fun b1 =>
    cond b1 (some (some demand)) (some none)) (rngL 0 ((Builtin.Int.intBits rest : Nat) : Int))).bind fun ys =>
  some ys
theorem r_simple_digits {masks : List Int} {rest : Int} {v : List Int} (h : m_simple_digits masks rest = some v) : FnP d_simple_digits [.v (eL T.int masks), .t (T.int rest)] (eL T.int v) := by
  refine fnP_mk 2 3 (m := 1) rfl rfl fun P => ?_
  unfold b_simple_digits
  unfold m_simple_digits at h
  replace h := ob h; obtain ⟨_, h1, h⟩ := h
  replace h := ob h; obtain ⟨_, h2, h⟩ := h
  replace h := ob h; obtain ⟨ys, h8, h⟩ := h
  have hv := Option.some.inj h; subst hv
  refine js_ret (j_comp h8 (chk_ok h2) T.int (fun demand => [.vw (eL T.int masks), .tr (T.int rest), .tr (T.int demand)]) [2] [.vw (eL T.int masks), .tr (T.int rest), .un] (src_r1 (ja_cons (j_e1 (j_var rfl) g_bits rfl) ja_nil) (chk_ok h1) rfl) rfl (by rintro demand; exact bi_nm 2) ?g9 rfl rfl) rfl
  case g9 =>
    rintro demand o h
    replace h := ob h; obtain ⟨t1, h3, h⟩ := h
    replace h := ob h; obtain ⟨b1, h5, h⟩ := h
    replace h := cd h; rcases h with ⟨hc, h⟩ | ⟨hc, h⟩
    · have hv := Option.some.inj h; subst hv
      refine ⟨_, jcb_some (jc_andE (jc_tE (j_e2 (j_e2 (j_e2 (j_var rfl) (j_var rfl) (g_shr h3) rfl rfl) j_C g_and rfl rfl) j_C g_eqI rfl rfl) rfl) ?g6 ?g7) hc (j_var rfl) rfl, rfl⟩
      case g6 =>
        intro hc
        try clear h
        have h := h5
        replace h := cd h; rcases h with ⟨hd, h⟩ | ⟨hd, h⟩
        · replace h := ob h; obtain ⟨v1, h4, h⟩ := h
          have hv := Option.some.inj h; subst hv
          exact (jc_tE (j_fnP (ja_cons (j_var rfl) (ja_cons (j_var rfl) (ja_cons (j_var rfl) ja_nil))) (r_is_simple h4) ⟨rfl, rfl, rfl, trivial⟩ rfl) rfl)
        · rw [hd] at hc; cases hc
      case g7 =>
        intro hc
        try clear h
        have h := h5
        replace h := cd h; rcases h with ⟨hd, h⟩ | ⟨hd, h⟩
        · rw [hd] at hc; cases hc
        · have hv := Option.some.inj h; subst hv; rfl
    · have hv := Option.some.inj h; subst hv
      refine ⟨_, jcb_none (jc_andE (jc_tE (j_e2 (j_e2 (j_e2 (j_var rfl) (j_var rfl) (g_shr h3) rfl rfl) j_C g_and rfl rfl) j_C g_eqI rfl rfl) rfl) ?g6q1 ?g7q1) hc, rfl⟩
      case g6q1 =>
        intro hc
        try clear h
        have h := h5
        replace h := cd h; rcases h with ⟨hd, h⟩ | ⟨hd, h⟩
        · replace h := ob h; obtain ⟨v1, h4, h⟩ := h
          have hv := Option.some.inj h; subst hv
          exact (jc_tE (j_fnP (ja_cons (j_var rfl) (ja_cons (j_var rfl) (ja_cons (j_var rfl) ja_nil))) (r_is_simple h4) ⟨rfl, rfl, rfl, trivial⟩ rfl) rfl)
        · rw [hd] at hc; cases hc
      case g7q1 =>
        intro hc
        try clear h
        have h := h5
        replace h := cd h; rcases h with ⟨hd, h⟩ | ⟨hd, h⟩
        · rw [hd] at hc; cases hc
        · have hv := Option.some.inj h; subst hv; rfl
def m_is_choice (table : Int × (List (List Int))) (value : T) : Option Bool :=
  (m_is_subset_of (table.2.length : Int) value).bind fun v1 =>
  some v1
theorem r_is_choice {table : Int × (List (List Int))} {value : T} {v : Bool} (h : m_is_choice table value = some v) : FnP d_is_choice [.v (eP2 T.int (eU (eU T.int)) table), .v value] (T.bl v) := by
  refine fnP_mk 2 2 (m := 0) rfl rfl fun P => ?_
  unfold b_is_choice
  unfold m_is_choice at h
  replace h := ob h; obtain ⟨v1, h1, h⟩ := h
  have hv := Option.some.inj h; subst hv
  exact js_ret (j_fnP (ja_cons (j_call (ja_cons (j_ix (j_var rfl) j_C (ix2_1 (e := T.int) (e' := (eU (eU T.int))) _) rfl rfl) ja_nil) (g_lenU (e := (eU T.int)) _) rfl) (ja_cons (j_var rfl) ja_nil)) (r_is_subset_of h1) ⟨rfl, rfl, trivial⟩ rfl) rfl
def m_law_amount (δ0 : Deck) : Option (Int × Deck) :=
  (m_law_next δ0 (4:Int)).bind fun (v1, δ1) =>
  (m_law_next δ1 (12:Int)).bind fun (v2, δ2) =>
  (m_law_next δ2 ((1000000000000:Int) + (1:Int))).bind fun (v3, δ3) =>
  (m_law_next δ3 (6:Int)).bind fun (v4, δ4) =>
  (L2.atI ([(0:Int), (1:Int), v1, v2, v3, (1000000000000:Int)]) v4).bind fun t1 =>
  some (t1, δ4)
theorem r_law_amount {δ0 δ' : Deck} {v : Int} (h : m_law_amount δ0 = some (v, δ')) : FnD d__law_amount [.d] δ0 δ' (T.int v) := by
  refine fnD_mk 1 1 (m := 0) rfl rfl fun Z => ?_
  unfold b__law_amount
  unfold m_law_amount at h
  replace h := ob h; obtain ⟨⟨v1, δ1⟩, h1, h⟩ := h
  replace h := ob h; obtain ⟨⟨v2, δ2⟩, h2, h⟩ := h
  replace h := ob h; obtain ⟨⟨v3, δ3⟩, h3, h⟩ := h
  replace h := ob h; obtain ⟨⟨v4, δ4⟩, h4, h⟩ := h
  replace h := ob h; obtain ⟨t1, h5, h⟩ := h
  obtain ⟨hv, hd⟩ := Prod.mk.inj (Option.some.inj h); subst hv; subst hd
  exact js_ret (j_ix (j_lst (ja_cons j_C (ja_cons j_C (ja_cons (j_fnD (ja_cons (j_var rfl) (ja_cons j_C ja_nil)) (r_law_next h1) ⟨rfl, rfl, trivial⟩ rfl) (ja_cons (j_fnD (ja_cons (j_var rfl) (ja_cons j_C ja_nil)) (r_law_next h2) ⟨rfl, rfl, trivial⟩ rfl) (ja_cons (j_fnD (ja_cons (j_var rfl) (ja_cons (j_e2 (j_e2 j_C j_C (g_pow (c := 1000000000000) (by decide +kernel)) rfl rfl) j_C g_add rfl rfl) ja_nil)) (r_law_next h3) ⟨rfl, rfl, trivial⟩ rfl) (ja_cons (j_e2 j_C j_C (g_pow (c := 1000000000000) (by decide +kernel)) rfl rfl) ja_nil)))))) rfl (capOk rfl)) (j_fnD (ja_cons (j_var rfl) (ja_cons j_C ja_nil)) (r_law_next h4) ⟨rfl, rfl, trivial⟩ rfl) (g_ixL (e := T.int) h5) rfl rfl) rfl
def m_law_data (δ0 : Deck) (table : Int × (List (List Int))) : Option (((List Int) × (List Int)) × Deck) :=
  (m_law_next δ0 (3:Int)).bind fun (v1, δ1) =>
  (L2.atI ([(3:Int), (12:Int), (0:Int)]) v1).bind fun t1 =>
  (some (table.1 + (table.2.length : Int))).bind fun count =>
  (chk (count.natAbs < 4000000000000000000)).bind fun _ =>
  (chk ((rngL 0 count).length ≤ 16777216)).bind fun _ =>
  (compS (fun k_ δ2 =>
    (m_law_next δ2 (t1 + (1:Int))).bind fun (v2, δ3) =>
    some (some v2, δ3)) (rngL 0 count) δ1).bind fun (ys, δ4) =>
  (cond (decide (t1 = (0:Int))) (
  (chk (count.natAbs < 4000000000000000000)).bind fun _ =>
  (chk ((rngL 0 count).length ≤ 16777216)).bind fun _ =>
  (compS (fun k_2 δ5 =>
    (m_law_amount δ5).bind fun (v3, δ6) =>
    some (some v3, δ6)) (rngL 0 count) δ4).bind fun (ys2, δ7) =>
  some (ys2, δ7)) (
  some (ys, δ4))).bind fun (found, δ8) =>
  some (((cutL found (some table.1) none), (cutL found none (some table.1))), δ8)
theorem r_law_data {δ0 δ' : Deck} {table : Int × (List (List Int))} {v : (List Int) × (List Int)} (h : m_law_data δ0 table = some (v, δ')) : FnD d__law_data [.d, .v (eP2 T.int (eU (eU T.int)) table)] δ0 δ' (eP2 (eU T.int) (eU T.int) v) := by
  refine fnD_mk 2 6 (m := 4) rfl rfl fun Z => ?_
  unfold b__law_data
  unfold m_law_data at h
  replace h := ob h; obtain ⟨⟨v1, δ1⟩, h1, h⟩ := h
  replace h := ob h; obtain ⟨t1, h2, h⟩ := h
  refine js_cons (js_set (j_ix (j_lst (ja_cons j_C (ja_cons j_C (ja_cons j_C ja_nil))) rfl (capOk rfl)) (j_fnD (ja_cons (j_var rfl) (ja_cons j_C ja_nil)) (r_law_next h1) ⟨rfl, rfl, trivial⟩ rfl) (g_ixL (e := T.int) h2) rfl rfl) 2 rfl) ?g18
  replace h := ob h; obtain ⟨count, h3, h⟩ := h
  refine js_cons (js_set (j_e2 (j_ix (j_var rfl) j_C (ix2_0 (e := T.int) (e' := (eU (eU T.int))) _) rfl rfl) (j_call (ja_cons (j_ix (j_var rfl) j_C (ix2_1 (e := T.int) (e' := (eU (eU T.int))) _) rfl rfl) ja_nil) (g_lenU (e := (eU T.int)) _) rfl) g_add rfl rfl) 3 (sv T.int h3)) ?g17
  replace h := ob h; obtain ⟨_, h4, h⟩ := h
  replace h := ob h; obtain ⟨_, h5, h⟩ := h
  replace h := ob h; obtain ⟨⟨ys, δ4⟩, h7, h⟩ := h
  refine js_cons (js_set (j_compS h7 (chk_ok h5) T.int (fun δ2 => dk δ2 Z) (fun δ2 => [.dk, .vw (eP2 T.int (eU (eU T.int)) table), .tr (T.int t1), .tr (T.int count), .un, .un]) (fun k_ δ2 => [.dk, .vw (eP2 T.int (eU (eU T.int)) table), .tr (T.int t1), .tr (T.int count), .un, .tr (T.int k_)]) [5] (src_r1 (ja_cons (j_var rfl) ja_nil) (chk_ok h4) rfl) (fun _ => same_dk) rfl (by rintro k_ δ2; exact bi_nm 5) ?g8 (by rintro δ2; rfl)) 4 rfl) ?g16
  case g8 =>
    rintro k_ δ2 o s' h
    replace h := ob h; obtain ⟨⟨v2, δ3⟩, h6, h⟩ := h
    obtain ⟨hv, hd⟩ := Prod.mk.inj (Option.some.inj h); subst hv; subst hd
    exact ⟨_, jcb_some jc_true rfl (j_fnD (ja_cons (j_var rfl) (ja_cons (j_e2 (j_var rfl) j_C g_add rfl rfl) ja_nil)) (r_law_next h6) ⟨rfl, rfl, trivial⟩ rfl) rfl, rfl⟩
  replace h := ob h; obtain ⟨⟨found, δ8⟩, h14, h⟩ := h
  refine js_consJ (is := [5]) (P1 := dk δ8 Z) (Γ1 := [.dk, .vw (eP2 T.int (eU (eU T.int)) table), .tr (T.int t1), .tr (T.int count), .tr (eL T.int found), .un]) ?g15 ?_
  case g15 =>
    try clear h
    try clear h
    have h := h14
    replace h := cd h; rcases h with ⟨hc, h⟩ | ⟨hc, h⟩
    · refine js_ifT (jc_tE (j_e2 (j_var rfl) j_C g_eqI rfl rfl) rfl) hc ?_
      replace h := ob h; obtain ⟨_, h9, h⟩ := h
      replace h := ob h; obtain ⟨_, h10, h⟩ := h
      replace h := ob h; obtain ⟨⟨ys2, δ7⟩, h12, h⟩ := h
      have hv0 := Option.some.inj h; obtain ⟨ha1, hv1⟩ := Prod.mk.inj hv0; subst ha1; subst hv1
      refine js_fin (js_set (j_compS h12 (chk_ok h10) T.int (fun δ5 => dk δ5 Z) (fun δ5 => [.dk, .vw (eP2 T.int (eU (eU T.int)) table), .tr (T.int t1), .tr (T.int count), .tr (eL T.int ys), .un]) (fun k_2 δ5 => [.dk, .vw (eP2 T.int (eU (eU T.int)) table), .tr (T.int t1), .tr (T.int count), .tr (eL T.int ys), .tr (T.int k_2)]) [5] (src_r1 (ja_cons (j_var rfl) ja_nil) (chk_ok h9) rfl) (fun _ => same_dk) rfl (by rintro k_2 δ5; exact bi_nm 5) ?g13 (by rintro δ5; rfl)) 4 rfl) rfl
      case g13 =>
        rintro k_2 δ5 o s' h
        replace h := ob h; obtain ⟨⟨v3, δ6⟩, h11, h⟩ := h
        obtain ⟨hv, hd⟩ := Prod.mk.inj (Option.some.inj h); subst hv; subst hd
        exact ⟨_, jcb_some jc_true rfl (j_fnD (ja_cons (j_var rfl) ja_nil) (r_law_amount h11) ⟨rfl, trivial⟩ rfl) rfl, rfl⟩
    · refine js_ifF (jc_tE (j_e2 (j_var rfl) j_C g_eqI rfl rfl) rfl) hc ?_
      have hv0 := Option.some.inj h; obtain ⟨ha1, hv1⟩ := Prod.mk.inj hv0; subst ha1; subst hv1
      exact js_fin js_nil rfl
  obtain ⟨hv, hd⟩ := Prod.mk.inj (Option.some.inj h); subst hv; subst hd
  exact js_ret (j_tup (ja_cons (j_call (ja_cons (j_sl (j_var rfl) (jo_some (j_ix (j_var rfl) j_C (ix2_0 (e := T.int) (e' := (eU (eU T.int))) _) rfl rfl) rfl) jo_none (g_slL (e := T.int) _ _ _) rfl) ja_nil) (g_tupL (e := T.int) _) rfl) (ja_cons (j_call (ja_cons (j_sl (j_var rfl) jo_none (jo_some (j_ix (j_var rfl) j_C (ix2_0 (e := T.int) (e' := (eU (eU T.int))) _) rfl rfl) rfl) (g_slL (e := T.int) _ _ _) rfl) ja_nil) (g_tupL (e := T.int) _) rfl) ja_nil)) rfl (capOk rfl)) rfl
def m_law_choice_cost (table : Int × (List (List Int))) (prices : List Int) (penalties : List Int) (choice : List Int) : Option Int :=
  (forO (fun k_ covered =>
    (L2.atI table.2 k_).bind fun t1 =>
    (catO covered t1).bind fun covered2 =>
    some covered2) choice []).bind fun covered3 =>
  (chk (choice.length ≤ 16777216)).bind fun _ =>
  (compO (fun k_2 =>
    (L2.atI prices k_2).bind fun t2 =>
    some (some t2)) choice).bind fun ys =>
  (chk ((enumI penalties).length ≤ 16777216)).bind fun _ =>
  some (ys.sum + (((enumI penalties).filter (fun (d1, own) => (!decide (d1 ∈ covered3)))).map (fun (d1, own) => own)).sum)
theorem r_law_choice_cost {table : Int × (List (List Int))} {prices : List Int} {penalties : List Int} {choice : List Int} {v : Int} (h : m_law_choice_cost table prices penalties choice = some v) : FnP d__law_choice_cost [.v (eP2 T.int (eU (eU T.int)) table), .v (eU T.int prices), .v (eU T.int penalties), .v (eU T.int choice)] (T.int v) := by
  refine fnP_mk 4 8 (m := 4) rfl rfl fun P => ?_
  unfold b__law_choice_cost
  unfold m_law_choice_cost at h
  refine js_cons (js_setN (jn_lst ja_nil rfl (capOk rfl)) 4) ?g12
  replace h := ob h; obtain ⟨covered3, h3, h⟩ := h
  refine js_cons (js_for h3 (fun _ => P) (fun covered => [.vw (eP2 T.int (eU (eU T.int)) table), .vw (eU T.int prices), .vw (eU T.int penalties), .vw (eU T.int choice), .bx (.lst (covered.map T.int)), .un, .un, .un]) (fun k_ covered => [.vw (eP2 T.int (eU (eU T.int)) table), .vw (eU T.int prices), .vw (eU T.int penalties), .vw (eU T.int choice), .bx (.lst (covered.map T.int)), .tr (T.int k_), .un, .un]) [5] [5] (src_u T.int choice (j_var rfl) rfl) (by rintro covered; exact SameP.refl) rfl (by rintro k_ covered; exact bi_nm 5) ?g4) ?g11
  case g4 =>
    rintro k_ covered s' h
    replace h := ob h; obtain ⟨t1, h1, h⟩ := h
    replace h := ob h; obtain ⟨covered2, h2, h⟩ := h
    have hv := Option.some.inj h; subst hv
    exact js_fin (js_expr (jx_extend T.int h2 (j_call (ja_cons (j_ix (j_ix (j_var rfl) j_C (ix2_1 (e := T.int) (e' := (eU (eU T.int))) _) rfl rfl) (j_var rfl) (g_ixU (e := (eU T.int)) h1) rfl rfl) ja_nil) (g_lstU (e := T.int) _) rfl) rfl rfl rfl)) rfl
  replace h := ob h; obtain ⟨_, h5, h⟩ := h
  replace h := ob h; obtain ⟨ys, h7, h⟩ := h
  replace h := ob h; obtain ⟨_, h9, h⟩ := h
  have hv := Option.some.inj h; subst hv
  refine js_ret (j_e2 (j_call (ja_cons (j_comp h7 (chk_ok h5) T.int (fun k_2 => [.vw (eP2 T.int (eU (eU T.int)) table), .vw (eU T.int prices), .vw (eU T.int penalties), .vw (eU T.int choice), .bx (.lst (covered3.map T.int)), .tr (T.int k_2), .un, .un]) [5] [.vw (eP2 T.int (eU (eU T.int)) table), .vw (eU T.int prices), .vw (eU T.int penalties), .vw (eU T.int choice), .bx (.lst (covered3.map T.int)), .un, .un, .un] (src_u T.int choice (j_var rfl) rfl) rfl (by rintro k_2; exact bi_nm 5) ?g8 rfl rfl) ja_nil) (g_sum _) rfl) (j_call (ja_cons (j_comp (compO_tot (fun (d1, own) => (!decide (d1 ∈ covered3))) (fun (d1, own) => own) (enumI penalties)) (chk_ok h9) T.int (fun (d1, own) => [.vw (eP2 T.int (eU (eU T.int)) table), .vw (eU T.int prices), .vw (eU T.int penalties), .vw (eU T.int choice), .bx (.lst (covered3.map T.int)), .un, .tr (T.int d1), .tr (T.int own)]) [6, 7] [.vw (eP2 T.int (eU (eU T.int)) table), .vw (eU T.int prices), .vw (eU T.int penalties), .vw (eU T.int choice), .bx (.lst (covered3.map T.int)), .un, .un, .un] (src_enu T.int penalties (ja_cons (j_var rfl) ja_nil) rfl) rfl (by rintro ⟨d1, own⟩; exact bi_tp [6, 7] (xs := [(T.int d1), (T.int own)]) rfl) ?g10 rfl rfl) ja_nil) (g_sum _) rfl) g_add rfl rfl) rfl
  case g8 =>
    rintro k_2 o h
    replace h := ob h; obtain ⟨t2, h6, h⟩ := h
    have hv := Option.some.inj h; subst hv
    exact ⟨_, jcb_some jc_true rfl (j_ix (j_var rfl) (j_var rfl) (g_ixU (e := T.int) h6) rfl rfl) rfl, rfl⟩
  case g10 =>
    rintro ⟨d1, own⟩ o h
    replace h := ctot h; rcases h with ⟨hc, rfl⟩ | ⟨hc, rfl⟩
    · exact ⟨_, jcb_some (jc_tE (j_e2 (j_var rfl) (j_var rfl) (g_ninL _ _) rfl rfl) rfl) hc (j_var rfl) rfl, rfl⟩
    · exact ⟨_, jcb_none (jc_tE (j_e2 (j_var rfl) (j_var rfl) (g_ninL _ _) rfl rfl) rfl) hc, rfl⟩
def m_law_drawn_choice (δ0 : Deck) (table : Int × (List (List Int))) : Option ((List Int) × Deck) :=
  (chk (rok (0:Int) (table.2.length : Int) = true)).bind fun _ =>
  (m_law_next δ0 (3:Int)).bind fun (v1, δ1) =>
  (m_law_part δ1 (rngL (0:Int) (table.2.length : Int)) ((1:Int) + v1)).bind fun (v2, δ2) =>
  some (v2, δ2)
theorem r_law_drawn_choice {δ0 δ' : Deck} {table : Int × (List (List Int))} {v : List Int} (h : m_law_drawn_choice δ0 table = some (v, δ')) : FnD d__law_drawn_choice [.d, .v (eP2 T.int (eU (eU T.int)) table)] δ0 δ' (eU T.int v) := by
  refine fnD_mk 2 2 (m := 0) rfl rfl fun Z => ?_
  unfold b__law_drawn_choice
  unfold m_law_drawn_choice at h
  replace h := ob h; obtain ⟨_, h2, h⟩ := h
  replace h := ob h; obtain ⟨⟨v1, δ1⟩, h3, h⟩ := h
  replace h := ob h; obtain ⟨⟨v2, δ2⟩, h4, h⟩ := h
  obtain ⟨hv, hd⟩ := Prod.mk.inj (Option.some.inj h); subst hv; subst hd
  exact js_ret (j_fnD (ja_cons (j_var rfl) (ja_cons (j_listR1 (ja_cons (j_call (ja_cons (j_ix (j_var rfl) j_C (ix2_1 (e := T.int) (e' := (eU (eU T.int))) _) rfl rfl) ja_nil) (g_lenU (e := (eU T.int)) _) rfl) ja_nil) (chk_ok h2) rfl) (ja_cons (j_e2 j_C (j_fnD (ja_cons (j_var rfl) (ja_cons j_C ja_nil)) (r_law_next h3) ⟨rfl, rfl, trivial⟩ rfl) g_add rfl rfl) ja_nil))) (r_law_part h4) ⟨rfl, rfl, rfl, trivial⟩ rfl) rfl
def m_is_collection (table : Int × (List (List Int))) (prices : List Int) (penalties : List Int) (value : T) : Option Bool :=
  (cond (!(isiB value "tuple")) (some true) (((bLen [value]).bind asIn).bind fun t1 =>
  some (!decide (t1 = table.1)))).bind fun b1 =>
  cond b1 (some false) (
  (asTu value).bind fun z1 =>
  (chk ((List.zip z1 penalties).length ≤ 16777216)).bind fun _ =>
  (compO (fun (amount, penalty) =>
    (m_is_integer_in amount (0:Int) penalty).bind fun v1 =>
    some (some v1)) (List.zip z1 penalties)).bind fun ys =>
  cond (!(ys.all fun b => b)) (some false) (
  (chk ((List.zip table.2 prices).length ≤ 16777216)).bind fun _ =>
  (compO (fun (offer, price) =>
    (chk (offer.length ≤ 16777216)).bind fun _ =>
    (compO (fun demand =>
      (L2.atI z1 demand).bind fun t2 =>
      (asIn t2).bind fun z2 =>
      some (some z2)) offer).bind fun ys2 =>
    some (some (decide (ys2.sum ≤ price)))) (List.zip table.2 prices)).bind fun ys3 =>
  some (ys3.all fun b => b)))
theorem r_is_collection {table : Int × (List (List Int))} {prices : List Int} {penalties : List Int} {value : T} {v : Bool} (h : m_is_collection table prices penalties value = some v) : FnP d_is_collection [.v (eP2 T.int (eU (eU T.int)) table), .v (eU T.int prices), .v (eU T.int penalties), .v value] (T.bl v) := by
  refine fnP_mk 4 9 (m := 5) rfl rfl fun P => ?_
  unfold b_is_collection
  unfold m_is_collection at h
  replace h := ob h; obtain ⟨b1, h2, h⟩ := h
  replace h := cd h; rcases h with ⟨hc, h⟩ | ⟨hc, h⟩
  · refine js_consR (js_ifT (jc_orE (jc_not (jc_tE (j_e1 (j_var rfl) rfl rfl) rfl)) ?g3 ?g4) hc ?_)
    case g3 =>
      intro hc
      try clear h
      have h := h2
      replace h := cd h; rcases h with ⟨hd, h⟩ | ⟨hd, h⟩
      · rw [hd] at hc; cases hc
      · replace h := ob h; obtain ⟨t1, h1, h⟩ := h
        have hv := Option.some.inj h; subst hv
        exact (jc_tE (j_e2 (j_call (ja_cons (j_var rfl) ja_nil) (in_eq h1) rfl) (j_ix (j_var rfl) j_C (ix2_0 (e := T.int) (e' := (eU (eU T.int))) _) rfl rfl) g_neI rfl rfl) rfl)
    case g4 =>
      intro hc
      try clear h
      have h := h2
      replace h := cd h; rcases h with ⟨hd, h⟩ | ⟨hd, h⟩
      · have hv := Option.some.inj h; subst hv; rfl
      · rw [hd] at hc; cases hc
    have hv := Option.some.inj h; subst hv
    exact js_ret j_C rfl
  · refine js_cons (js_ifF (jc_orE (jc_not (jc_tE (j_e1 (j_var rfl) rfl rfl) rfl)) ?g3q1 ?g4q1) hc js_nil) ?_
    case g3q1 =>
      intro hc
      try clear h
      have h := h2
      replace h := cd h; rcases h with ⟨hd, h⟩ | ⟨hd, h⟩
      · rw [hd] at hc; cases hc
      · replace h := ob h; obtain ⟨t1, h1, h⟩ := h
        have hv := Option.some.inj h; subst hv
        exact (jc_tE (j_e2 (j_call (ja_cons (j_var rfl) ja_nil) (in_eq h1) rfl) (j_ix (j_var rfl) j_C (ix2_0 (e := T.int) (e' := (eU (eU T.int))) _) rfl rfl) g_neI rfl rfl) rfl)
    case g4q1 =>
      intro hc
      try clear h
      have h := h2
      replace h := cd h; rcases h with ⟨hd, h⟩ | ⟨hd, h⟩
      · have hv := Option.some.inj h; subst hv; rfl
      · rw [hd] at hc; cases hc
    replace h := ob h; obtain ⟨z1, h5, h⟩ := h
    have h5e := asTu_eq h5; subst h5e
    replace h := ob h; obtain ⟨_, h6, h⟩ := h
    replace h := ob h; obtain ⟨ys, h8, h⟩ := h
    replace h := cd h; rcases h with ⟨hc, h⟩ | ⟨hc, h⟩
    · refine js_consR (js_ifT (jc_not (jc_tE (j_call (ja_cons (j_comp h8 (chk_ok h6) T.bl (fun (amount, penalty) => [.vw (eP2 T.int (eU (eU T.int)) table), .vw (eU T.int prices), .vw (eU T.int penalties), .vw (eU eA z1), .un, .un, .tr amount, .tr (T.int penalty), .un]) [6, 7] [.vw (eP2 T.int (eU (eU T.int)) table), .vw (eU T.int prices), .vw (eU T.int penalties), .vw (eU eA z1), .un, .un, .un, .un, .un] (src_zu eA T.int z1 penalties (ja_cons (j_var rfl) (ja_cons (j_var rfl) ja_nil)) rfl rfl) rfl (by rintro ⟨amount, penalty⟩; exact bi_tp [6, 7] (xs := [amount, (T.int penalty)]) rfl) ?g9 rfl rfl) ja_nil) (g_all _) rfl) rfl)) hc ?_)
      case g9 =>
        rintro ⟨amount, penalty⟩ o h
        replace h := ob h; obtain ⟨v1, h7, h⟩ := h
        have hv := Option.some.inj h; subst hv
        exact ⟨_, jcb_some jc_true rfl (j_fnP (ja_cons (j_var rfl) (ja_cons j_C (ja_cons (j_var rfl) ja_nil))) (r_is_integer_in h7) ⟨rfl, rfl, rfl, trivial⟩ rfl) rfl, rfl⟩
      have hv := Option.some.inj h; subst hv
      exact js_ret j_C rfl
    · refine js_cons (js_ifF (jc_not (jc_tE (j_call (ja_cons (j_comp h8 (chk_ok h6) T.bl (fun (amount, penalty) => [.vw (eP2 T.int (eU (eU T.int)) table), .vw (eU T.int prices), .vw (eU T.int penalties), .vw (eU eA z1), .un, .un, .tr amount, .tr (T.int penalty), .un]) [6, 7] [.vw (eP2 T.int (eU (eU T.int)) table), .vw (eU T.int prices), .vw (eU T.int penalties), .vw (eU eA z1), .un, .un, .un, .un, .un] (src_zu eA T.int z1 penalties (ja_cons (j_var rfl) (ja_cons (j_var rfl) ja_nil)) rfl rfl) rfl (by rintro ⟨amount, penalty⟩; exact bi_tp [6, 7] (xs := [amount, (T.int penalty)]) rfl) ?g9q2 rfl rfl) ja_nil) (g_all _) rfl) rfl)) hc js_nil) ?_
      case g9q2 =>
        rintro ⟨amount, penalty⟩ o h
        replace h := ob h; obtain ⟨v1, h7, h⟩ := h
        have hv := Option.some.inj h; subst hv
        exact ⟨_, jcb_some jc_true rfl (j_fnP (ja_cons (j_var rfl) (ja_cons j_C (ja_cons (j_var rfl) ja_nil))) (r_is_integer_in h7) ⟨rfl, rfl, rfl, trivial⟩ rfl) rfl, rfl⟩
      replace h := ob h; obtain ⟨_, h10, h⟩ := h
      replace h := ob h; obtain ⟨ys3, h16, h⟩ := h
      have hv := Option.some.inj h; subst hv
      refine js_ret (j_call (ja_cons (j_comp h16 (chk_ok h10) T.bl (fun (offer, price) => [.vw (eP2 T.int (eU (eU T.int)) table), .vw (eU T.int prices), .vw (eU T.int penalties), .vw (eU eA z1), .tr (eU T.int offer), .tr (T.int price), .un, .un, .un]) [4, 5] [.vw (eP2 T.int (eU (eU T.int)) table), .vw (eU T.int prices), .vw (eU T.int penalties), .vw (eU eA z1), .un, .un, .un, .un, .un] (src_zu (eU T.int) T.int table.2 prices (ja_cons (j_ix (j_var rfl) j_C (ix2_1 (e := T.int) (e' := (eU (eU T.int))) _) rfl rfl) (ja_cons (j_var rfl) ja_nil)) rfl rfl) rfl (by rintro ⟨offer, price⟩; exact bi_tp [4, 5] (xs := [(eU T.int offer), (T.int price)]) rfl) ?g17 rfl rfl) ja_nil) (g_all _) rfl) rfl
      case g17 =>
        rintro ⟨offer, price⟩ o h
        replace h := ob h; obtain ⟨_, h11, h⟩ := h
        replace h := ob h; obtain ⟨ys2, h14, h⟩ := h
        have hv := Option.some.inj h; subst hv
        refine ⟨_, jcb_some jc_true rfl (j_e2 (j_call (ja_cons (j_comp h14 (chk_ok h11) T.int (fun demand => [.vw (eP2 T.int (eU (eU T.int)) table), .vw (eU T.int prices), .vw (eU T.int penalties), .vw (eU eA z1), .tr (eU T.int offer), .tr (T.int price), .un, .un, .tr (T.int demand)]) [8] [.vw (eP2 T.int (eU (eU T.int)) table), .vw (eU T.int prices), .vw (eU T.int penalties), .vw (eU eA z1), .tr (eU T.int offer), .tr (T.int price), .un, .un, .un] (src_u T.int offer (j_var rfl) rfl) rfl (by rintro demand; exact bi_nm 8) ?g15 rfl rfl) ja_nil) (g_sum _) rfl) (j_var rfl) g_le rfl rfl) rfl, rfl⟩
        case g15 =>
          rintro demand o h
          replace h := ob h; obtain ⟨t2, h12, h⟩ := h
          replace h := ob h; obtain ⟨z2, h13, h⟩ := h
          have h13e := asIn_eq h13; subst h13e
          have hv := Option.some.inj h; subst hv
          exact ⟨_, jcb_some jc_true rfl (j_ix (j_var rfl) (j_var rfl) (g_ixU (e := eA) h12) rfl rfl) rfl, rfl⟩
def m_law_payments (table : Int × (List (List Int))) (prices : List Int) (penalties : List Int) (order_ : List Int) : Option (List Int) :=
  (repO ([(0:Int)]) table.1).bind fun t1 =>
  (forO (fun demand (left, found) =>
    (chk ((enumI table.2).length ≤ 16777216)).bind fun _ =>
    (some (((enumI table.2).filter (fun (k_, offer) => (decide (demand ∈ offer)))).map (fun (k_, offer) => k_))).bind fun some_ =>
    (L2.atI penalties demand).bind fun t2 =>
    (chk (some_.length ≤ 16777216)).bind fun _ =>
    (compO (fun k_2 =>
      (L2.atI left k_2).bind fun t3 =>
      some (some t3)) some_).bind fun ys =>
    (catO ([t2]) ys).bind fun t4 =>
    (minO t4).bind fun t5 =>
    (setI found demand t5).bind fun found2 =>
    (forO (fun k_3 left2 =>
      (L2.atI left2 k_3).bind fun t6 =>
      (L2.atI found2 demand).bind fun t7 =>
      (setI left2 k_3 (t6 - t7)).bind fun left3 =>
      some left3) some_ left).bind fun left4 =>
    some (left4, found2)) order_ (prices, t1)).bind fun (left5, found3) =>
  some found3
theorem r_law_payments {table : Int × (List (List Int))} {prices : List Int} {penalties : List Int} {order_ : List Int} {v : List Int} (h : m_law_payments table prices penalties order_ = some v) : FnP d__law_payments [.v (eP2 T.int (eU (eU T.int)) table), .v (eU T.int prices), .v (eU T.int penalties), .v (eU T.int order_)] (eU T.int v) := by
  refine fnP_mk 4 10 (m := 6) rfl rfl fun P => ?_
  unfold b__law_payments
  unfold m_law_payments at h
  replace h := ob h; obtain ⟨t1, h1, h⟩ := h
  refine js_cons (js_many [4, 5] (jas_n (jn_call (ja_cons (j_var rfl) ja_nil) (gn_lstU (e := T.int) _) rfl) (jas_n (jn_e2 (j_lst (ja_cons j_C ja_nil) rfl (capOk rfl)) (j_ix (j_var rfl) j_C (ix2_0 (e := T.int) (e' := (eU (eU T.int))) _) rfl rfl) (gn_rep (e := T.int) h1) rfl rfl) jas_nil rfl) rfl) rfl (capOk rfl)) ?g23
  replace h := ob h; obtain ⟨⟨left5, found3⟩, h20, h⟩ := h
  refine js_cons (js_for h20 (fun (_, _) => P) (fun (left, found) => [.vw (eP2 T.int (eU (eU T.int)) table), .vw (eU T.int prices), .vw (eU T.int penalties), .vw (eU T.int order_), .bx (.lst (left.map T.int)), .bx (.lst (found.map T.int)), .un, .un, .un, .un]) (fun demand (left, found) => [.vw (eP2 T.int (eU (eU T.int)) table), .vw (eU T.int prices), .vw (eU T.int penalties), .vw (eU T.int order_), .bx (.lst (left.map T.int)), .bx (.lst (found.map T.int)), .tr (T.int demand), .un, .un, .un]) [6] [6, 7, 8, 9] (src_u T.int order_ (j_var rfl) rfl) (by rintro ⟨left, found⟩; exact SameP.refl) rfl (by rintro demand ⟨left, found⟩; exact bi_nm 6) ?g21) ?g22
  case g21 =>
    rintro demand ⟨left, found⟩ s' h
    replace h := ob h; obtain ⟨_, h2, h⟩ := h
    replace h := ob h; obtain ⟨some_, h4, h⟩ := h
    refine js_cons (js_set (j_comp (compO_tot (fun (k_, offer) => (decide (demand ∈ offer))) (fun (k_, offer) => k_) (enumI table.2)) (chk_ok h2) T.int (fun (k_, offer) => [.vw (eP2 T.int (eU (eU T.int)) table), .vw (eU T.int prices), .vw (eU T.int penalties), .vw (eU T.int order_), .bx (.lst (left.map T.int)), .bx (.lst (found.map T.int)), .tr (T.int demand), .un, .tr (T.int k_), .tr (eU T.int offer)]) [8, 9] [.vw (eP2 T.int (eU (eU T.int)) table), .vw (eU T.int prices), .vw (eU T.int penalties), .vw (eU T.int order_), .bx (.lst (left.map T.int)), .bx (.lst (found.map T.int)), .tr (T.int demand), .un, .un, .un] (src_enu (eU T.int) table.2 (ja_cons (j_ix (j_var rfl) j_C (ix2_1 (e := T.int) (e' := (eU (eU T.int))) _) rfl rfl) ja_nil) rfl) rfl (by rintro ⟨k_, offer⟩; exact bi_tp [8, 9] (xs := [(T.int k_), (eU T.int offer)]) rfl) ?g3 rfl rfl) 7 (sv (eL T.int) h4)) ?g19
    case g3 =>
      rintro ⟨k_, offer⟩ o h
      replace h := ctot h; rcases h with ⟨hc, rfl⟩ | ⟨hc, rfl⟩
      · exact ⟨_, jcb_some (jc_tE (j_e2 (j_var rfl) (j_var rfl) (g_inU _ _) rfl rfl) rfl) hc (j_var rfl) rfl, rfl⟩
      · exact ⟨_, jcb_none (jc_tE (j_e2 (j_var rfl) (j_var rfl) (g_inU _ _) rfl rfl) rfl) hc, rfl⟩
    replace h := ob h; obtain ⟨t2, h5, h⟩ := h
    replace h := ob h; obtain ⟨_, h6, h⟩ := h
    replace h := ob h; obtain ⟨ys, h8, h⟩ := h
    replace h := ob h; obtain ⟨t4, h10, h⟩ := h
    replace h := ob h; obtain ⟨t5, h11, h⟩ := h
    replace h := ob h; obtain ⟨found2, h12, h⟩ := h
    refine js_cons (js_putL T.int (j_call (ja_cons (j_e2 (j_lst (ja_cons (j_ix (j_var rfl) (j_var rfl) (g_ixU (e := T.int) h5) rfl rfl) ja_nil) rfl (capOk rfl)) (j_comp h8 (chk_ok h6) T.int (fun k_2 => [.vw (eP2 T.int (eU (eU T.int)) table), .vw (eU T.int prices), .vw (eU T.int penalties), .vw (eU T.int order_), .bx (.lst (left.map T.int)), .bx (.lst (found.map T.int)), .tr (T.int demand), .tr (eL T.int some_), .tr (T.int k_2), .un]) [8] [.vw (eP2 T.int (eU (eU T.int)) table), .vw (eU T.int prices), .vw (eU T.int penalties), .vw (eU T.int order_), .bx (.lst (left.map T.int)), .bx (.lst (found.map T.int)), .tr (T.int demand), .tr (eL T.int some_), .un, .un] (src_l T.int some_ (j_var rfl) rfl) rfl (by rintro k_2; exact bi_nm 8) ?g9 rfl rfl) (g_catL (e := T.int) h10) rfl rfl) ja_nil) (g_minL h11) rfl) (j_var rfl) 5 h12 rfl rfl rfl rfl) ?g18
    case g9 =>
      rintro k_2 o h
      replace h := ob h; obtain ⟨t3, h7, h⟩ := h
      have hv := Option.some.inj h; subst hv
      exact ⟨_, jcb_some jc_true rfl (j_ix (j_var rfl) (j_var rfl) (g_ixL (e := T.int) h7) rfl rfl) rfl, rfl⟩
    replace h := ob h; obtain ⟨left4, h16, h⟩ := h
    have hv := Option.some.inj h; subst hv
    refine js_fin (js_for h16 (fun _ => P) (fun left2 => [.vw (eP2 T.int (eU (eU T.int)) table), .vw (eU T.int prices), .vw (eU T.int penalties), .vw (eU T.int order_), .bx (.lst (left2.map T.int)), .bx (.lst (found2.map T.int)), .tr (T.int demand), .tr (eL T.int some_), .un, .un]) (fun k_3 left2 => [.vw (eP2 T.int (eU (eU T.int)) table), .vw (eU T.int prices), .vw (eU T.int penalties), .vw (eU T.int order_), .bx (.lst (left2.map T.int)), .bx (.lst (found2.map T.int)), .tr (T.int demand), .tr (eL T.int some_), .tr (T.int k_3), .un]) [8] [8] (src_l T.int some_ (j_var rfl) rfl) (by rintro left2; exact SameP.refl) rfl (by rintro k_3 left2; exact bi_nm 8) ?g17) rfl
    case g17 =>
      rintro k_3 left2 s' h
      replace h := ob h; obtain ⟨t6, h13, h⟩ := h
      replace h := ob h; obtain ⟨t7, h14, h⟩ := h
      replace h := ob h; obtain ⟨left3, h15, h⟩ := h
      have hv := Option.some.inj h; subst hv
      exact js_fin (js_putL T.int (j_e2 (j_ix (j_var rfl) (j_var rfl) (g_ixL (e := T.int) h13) rfl rfl) (j_ix (j_var rfl) (j_var rfl) (g_ixL (e := T.int) h14) rfl rfl) g_sub rfl rfl) (j_var rfl) 4 h15 rfl rfl rfl rfl) rfl
  have hv := Option.some.inj h; subst hv
  exact js_ret (j_call (ja_cons (j_var rfl) ja_nil) (g_tupL (e := T.int) _) rfl) rfl
def m_law_is_collection (table : Int × (List (List Int))) (prices : List Int) (penalties : List Int) (thing : T) : Option Bool :=
  (cond (!(isiB thing "tuple")) (some true) (((bLen [thing]).bind asIn).bind fun t1 =>
  (cond (!decide (t1 = table.1)) (some true) ((asTu thing).bind fun z1 =>
  (chk (z1.length ≤ 16777216)).bind fun _ =>
  (compO (fun one =>
    (m_law_whole one).bind fun v1 =>
    cond (!v1) (some (some one)) (some none)) z1).bind fun ys =>
  some (!ys.isEmpty))).bind fun b1 =>
  some b1)).bind fun b2 =>
  cond b2 (some false) (
  (asTu thing).bind fun z2 =>
  (chk ((enumI z2).length ≤ 16777216)).bind fun _ =>
  (compO (fun (d1, own) =>
    (L2.atI penalties d1).bind fun t2 =>
    ((gLe (T.int (0:Int)) own).bind asBo).bind fun b3 =>
    ((gLe own (T.int t2)).bind asBo).bind fun b4 =>
    cond (!(b3 && b4)) (some (some d1)) (some none)) (enumI z2)).bind fun ys2 =>
  cond (!ys2.isEmpty) (some false) (
  (chk ((enumI table.2).length ≤ 16777216)).bind fun _ =>
  (compO (fun (k_, offer) =>
    (chk (offer.length ≤ 16777216)).bind fun _ =>
    (compO (fun d2 =>
      (L2.atI z2 d2).bind fun t3 =>
      (asIn t3).bind fun z3 =>
      some (some z3)) offer).bind fun ys3 =>
    (L2.atI prices k_).bind fun t4 =>
    cond (decide (t4 < ys3.sum)) (some (some k_)) (some none)) (enumI table.2)).bind fun ys4 =>
  some (ys4.isEmpty)))
theorem r_law_is_collection {table : Int × (List (List Int))} {prices : List Int} {penalties : List Int} {thing : T} {v : Bool} (h : m_law_is_collection table prices penalties thing = some v) : FnP d__law_is_collection [.v (eP2 T.int (eU (eU T.int)) table), .v (eU T.int prices), .v (eU T.int penalties), .v thing] (T.bl v) := by
  refine fnP_mk 4 9 (m := 5) rfl rfl fun P => ?_
  unfold b__law_is_collection
  unfold m_law_is_collection at h
  replace h := ob h; obtain ⟨b2, h10, h⟩ := h
  replace h := cd h; rcases h with ⟨hc, h⟩ | ⟨hc, h⟩
  · refine js_consR (js_ifT (jc_orE (jc_not (jc_tE (j_e1 (j_var rfl) rfl rfl) rfl)) ?g11 ?g12) hc ?_)
    case g11 =>
      intro hc
      try clear h
      have h := h10
      replace h := cd h; rcases h with ⟨hd, h⟩ | ⟨hd, h⟩
      · rw [hd] at hc; cases hc
      · replace h := ob h; obtain ⟨t1, h1, h⟩ := h
        replace h := ob h; obtain ⟨b1, h7, h⟩ := h
        have hv := Option.some.inj h; subst hv
        refine (jc_orE (jc_tE (j_e2 (j_call (ja_cons (j_var rfl) ja_nil) (in_eq h1) rfl) (j_ix (j_var rfl) j_C (ix2_0 (e := T.int) (e' := (eU (eU T.int))) _) rfl rfl) g_neI rfl rfl) rfl) ?g8 ?g9)
        case g8 =>
          intro hc
          try clear h
          have h := h7
          replace h := cd h; rcases h with ⟨hd, h⟩ | ⟨hd, h⟩
          · rw [hd] at hc; cases hc
          · replace h := ob h; obtain ⟨z1, h2, h⟩ := h
            have h2e := asTu_eq h2; subst h2e
            replace h := ob h; obtain ⟨_, h3, h⟩ := h
            replace h := ob h; obtain ⟨ys, h5, h⟩ := h
            have hv := Option.some.inj h; subst hv
            refine (jc_tE (j_e2 (j_comp h5 (chk_ok h3) eA (fun one => [.vw (eP2 T.int (eU (eU T.int)) table), .vw (eU T.int prices), .vw (eU T.int penalties), .vw (eU eA z1), .un, .un, .un, .un, .tr one]) [8] [.vw (eP2 T.int (eU (eU T.int)) table), .vw (eU T.int prices), .vw (eU T.int penalties), .vw (eU eA z1), .un, .un, .un, .un, .un] (src_u eA z1 (j_var rfl) rfl) rfl (by rintro one; exact bi_nm 8) ?g6 rfl rfl) (j_lst ja_nil rfl (capOk rfl)) (g_neE (e := eA) _) rfl rfl) rfl)
            case g6 =>
              rintro one o h
              replace h := ob h; obtain ⟨v1, h4, h⟩ := h
              replace h := cd h; rcases h with ⟨hc, h⟩ | ⟨hc, h⟩
              · have hv := Option.some.inj h; subst hv
                exact ⟨_, jcb_some (jc_not (jc_tE (j_fnP (ja_cons (j_var rfl) ja_nil) (r_law_whole h4) ⟨rfl, trivial⟩ rfl) rfl)) hc (j_var rfl) rfl, rfl⟩
              · have hv := Option.some.inj h; subst hv
                exact ⟨_, jcb_none (jc_not (jc_tE (j_fnP (ja_cons (j_var rfl) ja_nil) (r_law_whole h4) ⟨rfl, trivial⟩ rfl) rfl)) hc, rfl⟩
        case g9 =>
          intro hc
          try clear h
          have h := h7
          replace h := cd h; rcases h with ⟨hd, h⟩ | ⟨hd, h⟩
          · have hv := Option.some.inj h; subst hv; rfl
          · rw [hd] at hc; cases hc
    case g12 =>
      intro hc
      try clear h
      have h := h10
      replace h := cd h; rcases h with ⟨hd, h⟩ | ⟨hd, h⟩
      · have hv := Option.some.inj h; subst hv; rfl
      · rw [hd] at hc; cases hc
    have hv := Option.some.inj h; subst hv
    exact js_ret j_C rfl
  · refine js_cons (js_ifF (jc_orE (jc_not (jc_tE (j_e1 (j_var rfl) rfl rfl) rfl)) ?g11q5 ?g12q5) hc js_nil) ?_
    case g11q5 =>
      intro hc
      try clear h
      have h := h10
      replace h := cd h; rcases h with ⟨hd, h⟩ | ⟨hd, h⟩
      · rw [hd] at hc; cases hc
      · replace h := ob h; obtain ⟨t1, h1, h⟩ := h
        replace h := ob h; obtain ⟨b1, h7, h⟩ := h
        have hv := Option.some.inj h; subst hv
        refine (jc_orE (jc_tE (j_e2 (j_call (ja_cons (j_var rfl) ja_nil) (in_eq h1) rfl) (j_ix (j_var rfl) j_C (ix2_0 (e := T.int) (e' := (eU (eU T.int))) _) rfl rfl) g_neI rfl rfl) rfl) ?g8q5 ?g9q5)
        case g8q5 =>
          intro hc
          try clear h
          have h := h7
          replace h := cd h; rcases h with ⟨hd, h⟩ | ⟨hd, h⟩
          · rw [hd] at hc; cases hc
          · replace h := ob h; obtain ⟨z1, h2, h⟩ := h
            have h2e := asTu_eq h2; subst h2e
            replace h := ob h; obtain ⟨_, h3, h⟩ := h
            replace h := ob h; obtain ⟨ys, h5, h⟩ := h
            have hv := Option.some.inj h; subst hv
            refine (jc_tE (j_e2 (j_comp h5 (chk_ok h3) eA (fun one => [.vw (eP2 T.int (eU (eU T.int)) table), .vw (eU T.int prices), .vw (eU T.int penalties), .vw (eU eA z1), .un, .un, .un, .un, .tr one]) [8] [.vw (eP2 T.int (eU (eU T.int)) table), .vw (eU T.int prices), .vw (eU T.int penalties), .vw (eU eA z1), .un, .un, .un, .un, .un] (src_u eA z1 (j_var rfl) rfl) rfl (by rintro one; exact bi_nm 8) ?g6q5 rfl rfl) (j_lst ja_nil rfl (capOk rfl)) (g_neE (e := eA) _) rfl rfl) rfl)
            case g6q5 =>
              rintro one o h
              replace h := ob h; obtain ⟨v1, h4, h⟩ := h
              replace h := cd h; rcases h with ⟨hc, h⟩ | ⟨hc, h⟩
              · have hv := Option.some.inj h; subst hv
                exact ⟨_, jcb_some (jc_not (jc_tE (j_fnP (ja_cons (j_var rfl) ja_nil) (r_law_whole h4) ⟨rfl, trivial⟩ rfl) rfl)) hc (j_var rfl) rfl, rfl⟩
              · have hv := Option.some.inj h; subst hv
                exact ⟨_, jcb_none (jc_not (jc_tE (j_fnP (ja_cons (j_var rfl) ja_nil) (r_law_whole h4) ⟨rfl, trivial⟩ rfl) rfl)) hc, rfl⟩
        case g9q5 =>
          intro hc
          try clear h
          have h := h7
          replace h := cd h; rcases h with ⟨hd, h⟩ | ⟨hd, h⟩
          · have hv := Option.some.inj h; subst hv; rfl
          · rw [hd] at hc; cases hc
    case g12q5 =>
      intro hc
      try clear h
      have h := h10
      replace h := cd h; rcases h with ⟨hd, h⟩ | ⟨hd, h⟩
      · have hv := Option.some.inj h; subst hv; rfl
      · rw [hd] at hc; cases hc
    replace h := ob h; obtain ⟨z2, h13, h⟩ := h
    have h13e := asTu_eq h13; subst h13e
    replace h := ob h; obtain ⟨_, h14, h⟩ := h
    replace h := ob h; obtain ⟨ys2, h18, h⟩ := h
    replace h := cd h; rcases h with ⟨hc, h⟩ | ⟨hc, h⟩
    · refine js_consR (js_ifT (jc_tE (j_e2 (j_comp h18 (chk_ok h14) T.int (fun (d1, own) => [.vw (eP2 T.int (eU (eU T.int)) table), .vw (eU T.int prices), .vw (eU T.int penalties), .vw (eU eA z2), .tr (T.int d1), .tr own, .un, .un, .un]) [4, 5] [.vw (eP2 T.int (eU (eU T.int)) table), .vw (eU T.int prices), .vw (eU T.int penalties), .vw (eU eA z2), .un, .un, .un, .un, .un] (src_enu eA z2 (ja_cons (j_var rfl) ja_nil) rfl) rfl (by rintro ⟨d1, own⟩; exact bi_tp [4, 5] (xs := [(T.int d1), own]) rfl) ?g19 rfl rfl) (j_lst ja_nil rfl (capOk rfl)) (g_neE (e := T.int) _) rfl rfl) rfl) hc ?_)
      case g19 =>
        rintro ⟨d1, own⟩ o h
        replace h := ob h; obtain ⟨t2, h15, h⟩ := h
        replace h := ob h; obtain ⟨b3, h16, h⟩ := h
        replace h := ob h; obtain ⟨b4, h17, h⟩ := h
        replace h := cd h; rcases h with ⟨hc, h⟩ | ⟨hc, h⟩
        · have hv := Option.some.inj h; subst hv
          exact ⟨_, jcb_some (jc_not (jc_tE (j_e3 j_C (j_var rfl) (j_ix (j_var rfl) (j_var rfl) (g_ixU (e := T.int) h15) rfl rfl) (bo_eq h16) (bo_eq h17) rfl rfl rfl) rfl)) hc (j_var rfl) rfl, rfl⟩
        · have hv := Option.some.inj h; subst hv
          exact ⟨_, jcb_none (jc_not (jc_tE (j_e3 j_C (j_var rfl) (j_ix (j_var rfl) (j_var rfl) (g_ixU (e := T.int) h15) rfl rfl) (bo_eq h16) (bo_eq h17) rfl rfl rfl) rfl)) hc, rfl⟩
      have hv := Option.some.inj h; subst hv
      exact js_ret j_C rfl
    · refine js_cons (js_ifF (jc_tE (j_e2 (j_comp h18 (chk_ok h14) T.int (fun (d1, own) => [.vw (eP2 T.int (eU (eU T.int)) table), .vw (eU T.int prices), .vw (eU T.int penalties), .vw (eU eA z2), .tr (T.int d1), .tr own, .un, .un, .un]) [4, 5] [.vw (eP2 T.int (eU (eU T.int)) table), .vw (eU T.int prices), .vw (eU T.int penalties), .vw (eU eA z2), .un, .un, .un, .un, .un] (src_enu eA z2 (ja_cons (j_var rfl) ja_nil) rfl) rfl (by rintro ⟨d1, own⟩; exact bi_tp [4, 5] (xs := [(T.int d1), own]) rfl) ?g19q7 rfl rfl) (j_lst ja_nil rfl (capOk rfl)) (g_neE (e := T.int) _) rfl rfl) rfl) hc js_nil) ?_
      case g19q7 =>
        rintro ⟨d1, own⟩ o h
        replace h := ob h; obtain ⟨t2, h15, h⟩ := h
        replace h := ob h; obtain ⟨b3, h16, h⟩ := h
        replace h := ob h; obtain ⟨b4, h17, h⟩ := h
        replace h := cd h; rcases h with ⟨hc, h⟩ | ⟨hc, h⟩
        · have hv := Option.some.inj h; subst hv
          exact ⟨_, jcb_some (jc_not (jc_tE (j_e3 j_C (j_var rfl) (j_ix (j_var rfl) (j_var rfl) (g_ixU (e := T.int) h15) rfl rfl) (bo_eq h16) (bo_eq h17) rfl rfl rfl) rfl)) hc (j_var rfl) rfl, rfl⟩
        · have hv := Option.some.inj h; subst hv
          exact ⟨_, jcb_none (jc_not (jc_tE (j_e3 j_C (j_var rfl) (j_ix (j_var rfl) (j_var rfl) (g_ixU (e := T.int) h15) rfl rfl) (bo_eq h16) (bo_eq h17) rfl rfl rfl) rfl)) hc, rfl⟩
      replace h := ob h; obtain ⟨_, h20, h⟩ := h
      replace h := ob h; obtain ⟨ys4, h27, h⟩ := h
      have hv := Option.some.inj h; subst hv
      refine js_ret (j_e2 (j_comp h27 (chk_ok h20) T.int (fun (k_, offer) => [.vw (eP2 T.int (eU (eU T.int)) table), .vw (eU T.int prices), .vw (eU T.int penalties), .vw (eU eA z2), .un, .un, .tr (T.int k_), .tr (eU T.int offer), .un]) [6, 7] [.vw (eP2 T.int (eU (eU T.int)) table), .vw (eU T.int prices), .vw (eU T.int penalties), .vw (eU eA z2), .un, .un, .un, .un, .un] (src_enu (eU T.int) table.2 (ja_cons (j_ix (j_var rfl) j_C (ix2_1 (e := T.int) (e' := (eU (eU T.int))) _) rfl rfl) ja_nil) rfl) rfl (by rintro ⟨k_, offer⟩; exact bi_tp [6, 7] (xs := [(T.int k_), (eU T.int offer)]) rfl) ?g28 rfl rfl) (j_lst ja_nil rfl (capOk rfl)) (g_eqE (e := T.int) _) rfl rfl) rfl
      case g28 =>
        rintro ⟨k_, offer⟩ o h
        replace h := ob h; obtain ⟨_, h21, h⟩ := h
        replace h := ob h; obtain ⟨ys3, h24, h⟩ := h
        replace h := ob h; obtain ⟨t4, h26, h⟩ := h
        replace h := cd h; rcases h with ⟨hc, h⟩ | ⟨hc, h⟩
        · have hv := Option.some.inj h; subst hv
          refine ⟨_, jcb_some (jc_tE (j_e2 (j_call (ja_cons (j_comp h24 (chk_ok h21) T.int (fun d2 => [.vw (eP2 T.int (eU (eU T.int)) table), .vw (eU T.int prices), .vw (eU T.int penalties), .vw (eU eA z2), .tr (T.int d2), .un, .tr (T.int k_), .tr (eU T.int offer), .un]) [4] [.vw (eP2 T.int (eU (eU T.int)) table), .vw (eU T.int prices), .vw (eU T.int penalties), .vw (eU eA z2), .un, .un, .tr (T.int k_), .tr (eU T.int offer), .un] (src_u T.int offer (j_var rfl) rfl) rfl (by rintro d2; exact bi_nm 4) ?g25 rfl rfl) ja_nil) (g_sum _) rfl) (j_ix (j_var rfl) (j_var rfl) (g_ixU (e := T.int) h26) rfl rfl) g_gt rfl rfl) rfl) hc (j_var rfl) rfl, rfl⟩
          case g25 =>
            rintro d2 o h
            replace h := ob h; obtain ⟨t3, h22, h⟩ := h
            replace h := ob h; obtain ⟨z3, h23, h⟩ := h
            have h23e := asIn_eq h23; subst h23e
            have hv := Option.some.inj h; subst hv
            exact ⟨_, jcb_some jc_true rfl (j_ix (j_var rfl) (j_var rfl) (g_ixU (e := eA) h22) rfl rfl) rfl, rfl⟩
        · have hv := Option.some.inj h; subst hv
          refine ⟨_, jcb_none (jc_tE (j_e2 (j_call (ja_cons (j_comp h24 (chk_ok h21) T.int (fun d2 => [.vw (eP2 T.int (eU (eU T.int)) table), .vw (eU T.int prices), .vw (eU T.int penalties), .vw (eU eA z2), .tr (T.int d2), .un, .tr (T.int k_), .tr (eU T.int offer), .un]) [4] [.vw (eP2 T.int (eU (eU T.int)) table), .vw (eU T.int prices), .vw (eU T.int penalties), .vw (eU eA z2), .un, .un, .tr (T.int k_), .tr (eU T.int offer), .un] (src_u T.int offer (j_var rfl) rfl) rfl (by rintro d2; exact bi_nm 4) ?g25q8 rfl rfl) ja_nil) (g_sum _) rfl) (j_ix (j_var rfl) (j_var rfl) (g_ixU (e := T.int) h26) rfl rfl) g_gt rfl rfl) rfl) hc, rfl⟩
          case g25q8 =>
            rintro d2 o h
            replace h := ob h; obtain ⟨t3, h22, h⟩ := h
            replace h := ob h; obtain ⟨z3, h23, h⟩ := h
            have h23e := asIn_eq h23; subst h23e
            have hv := Option.some.inj h; subst hv
            exact ⟨_, jcb_some jc_true rfl (j_ix (j_var rfl) (j_var rfl) (g_ixU (e := eA) h22) rfl rfl) rfl, rfl⟩
def m_unpaid_penalties (penalties : List Int) (mask : Int) : Option Int :=
  (chk ((enumI penalties).length ≤ 16777216)).bind fun _ =>
  (compO (fun (demand, amount) =>
    (oShr mask demand).bind fun t1 =>
    cond (decide ((Builtin.bitAnd t1 (1:Int)) = (0:Int))) (some (some amount)) (some none)) (enumI penalties)).bind fun ys =>
  some ys.sum
theorem r_unpaid_penalties {penalties : List Int} {mask : Int} {v : Int} (h : m_unpaid_penalties penalties mask = some v) : FnP d_unpaid_penalties [.v (eU T.int penalties), .t (T.int mask)] (T.int v) := by
  refine fnP_mk 2 4 (m := 2) rfl rfl fun P => ?_
  unfold b_unpaid_penalties
  unfold m_unpaid_penalties at h
  replace h := ob h; obtain ⟨_, h1, h⟩ := h
  replace h := ob h; obtain ⟨ys, h3, h⟩ := h
  have hv := Option.some.inj h; subst hv
  refine js_ret (j_call (ja_cons (j_comp h3 (chk_ok h1) T.int (fun (demand, amount) => [.vw (eU T.int penalties), .tr (T.int mask), .tr (T.int demand), .tr (T.int amount)]) [2, 3] [.vw (eU T.int penalties), .tr (T.int mask), .un, .un] (src_enu T.int penalties (ja_cons (j_var rfl) ja_nil) rfl) rfl (by rintro ⟨demand, amount⟩; exact bi_tp [2, 3] (xs := [(T.int demand), (T.int amount)]) rfl) ?g4 rfl rfl) ja_nil) (g_sum _) rfl) rfl
  case g4 =>
    rintro ⟨demand, amount⟩ o h
    replace h := ob h; obtain ⟨t1, h2, h⟩ := h
    replace h := cd h; rcases h with ⟨hc, h⟩ | ⟨hc, h⟩
    · have hv := Option.some.inj h; subst hv
      exact ⟨_, jcb_some (jc_tE (j_e2 (j_e2 (j_e2 (j_var rfl) (j_var rfl) (g_shr h2) rfl rfl) j_C g_and rfl rfl) j_C g_eqI rfl rfl) rfl) hc (j_var rfl) rfl, rfl⟩
    · have hv := Option.some.inj h; subst hv
      exact ⟨_, jcb_none (jc_tE (j_e2 (j_e2 (j_e2 (j_var rfl) (j_var rfl) (g_shr h2) rfl rfl) j_C g_and rfl rfl) j_C g_eqI rfl rfl) rfl) hc, rfl⟩
def m_is_amount (value : T) : Option Bool :=
  (m_is_integer_in value (0:Int) (1000000000000:Int)).bind fun v1 =>
  some v1
theorem r_is_amount {value : T} {v : Bool} (h : m_is_amount value = some v) : FnP d_is_amount [.v value] (T.bl v) := by
  refine fnP_mk 1 1 (m := 0) rfl rfl fun P => ?_
  unfold b_is_amount
  unfold m_is_amount at h
  replace h := ob h; obtain ⟨v1, h1, h⟩ := h
  have hv := Option.some.inj h; subst hv
  exact js_ret (j_fnP (ja_cons (j_var rfl) (ja_cons j_C (ja_cons j_C ja_nil))) (r_is_integer_in h1) ⟨rfl, rfl, rfl, trivial⟩ rfl) rfl
def m_are_amounts (count : Int) (value : T) : Option Bool :=
  (cond (isiB value "tuple") (((bLen [value]).bind asIn).bind fun t1 =>
  (cond (decide (t1 = count)) ((asTu value).bind fun z1 =>
  (chk (z1.length ≤ 16777216)).bind fun _ =>
  (compO (fun item =>
    (m_is_amount item).bind fun v1 =>
    some (some v1)) z1).bind fun ys =>
  some (ys.all fun b => b)) (some false)).bind fun b1 =>
  some b1) (some false)).bind fun b2 =>
  some b2
theorem r_are_amounts {count : Int} {value : T} {v : Bool} (h : m_are_amounts count value = some v) : FnP d_are_amounts [.t (T.int count), .v value] (T.bl v) := by
  refine fnP_mk 2 3 (m := 1) rfl rfl fun P => ?_
  unfold b_are_amounts
  unfold m_are_amounts at h
  replace h := ob h; obtain ⟨b2, h10, h⟩ := h
  have hv := Option.some.inj h; subst hv
  refine js_ret (j_andE (j_e1 (j_var rfl) rfl rfl) ?g11 ?g12 rfl) rfl
  case g11 =>
    intro hc
    try clear h
    have h := h10
    replace h := cd h; rcases h with ⟨hd, h⟩ | ⟨hd, h⟩
    · replace h := ob h; obtain ⟨t1, h1, h⟩ := h
      replace h := ob h; obtain ⟨b1, h7, h⟩ := h
      have hv := Option.some.inj h; subst hv
      refine ⟨_, (j_andE (j_e2 (j_call (ja_cons (j_var rfl) ja_nil) (in_eq h1) rfl) (j_var rfl) g_eqI rfl rfl) ?g8 ?g9 rfl), rfl⟩
      case g8 =>
        intro hc
        try clear h
        have h := h7
        replace h := cd h; rcases h with ⟨hd, h⟩ | ⟨hd, h⟩
        · replace h := ob h; obtain ⟨z1, h2, h⟩ := h
          have h2e := asTu_eq h2; subst h2e
          replace h := ob h; obtain ⟨_, h3, h⟩ := h
          replace h := ob h; obtain ⟨ys, h5, h⟩ := h
          have hv := Option.some.inj h; subst hv
          refine ⟨_, (j_call (ja_cons (j_comp h5 (chk_ok h3) T.bl (fun item => [.tr (T.int count), .vw (eU eA z1), .tr item]) [2] [.tr (T.int count), .vw (eU eA z1), .un] (src_u eA z1 (j_var rfl) rfl) rfl (by rintro item; exact bi_nm 2) ?g6 rfl rfl) ja_nil) (g_all _) rfl), rfl⟩
          case g6 =>
            rintro item o h
            replace h := ob h; obtain ⟨v1, h4, h⟩ := h
            have hv := Option.some.inj h; subst hv
            exact ⟨_, jcb_some jc_true rfl (j_fnP (ja_cons (j_var rfl) ja_nil) (r_is_amount h4) ⟨rfl, trivial⟩ rfl) rfl, rfl⟩
        · rw [hd] at hc; cases hc
      case g9 =>
        intro hc
        try clear h
        have h := h7
        replace h := cd h; rcases h with ⟨hd, h⟩ | ⟨hd, h⟩
        · rw [hd] at hc; cases hc
        · have hv := Option.some.inj h; subst hv; rfl
    · rw [hd] at hc; cases hc
  case g12 =>
    intro hc
    try clear h
    have h := h10
    replace h := cd h; rcases h with ⟨hd, h⟩ | ⟨hd, h⟩
    · rw [hd] at hc; cases hc
    · have hv := Option.some.inj h; subst hv; rfl
end
end Dl
/-! Sp1: loops by invariants; what the deck's defs give. -/
namespace Dl
open PySem
/-! ### plain loops -/
section
variable {α β γ σ : Type}
theorem forO_inv {F : α → σ → Option σ} (I : Nat → σ → Prop) (xs : List α) (s : σ) (h : I 0 s) (hF : ∀ n x s, xs[n]? = some x → I n s → ∃ s', F x s = some s' ∧ I (n + 1) s') : ∃ s', forO F xs s = some s' ∧ I xs.length s' := by
  have key : ∀ (post pre : List α) (s : σ), xs = pre ++ post → I pre.length s → ∃ s', forO F post s = some s' ∧ I xs.length s' := by
    intro post
    induction post with
    | nil => intro pre s e h; rw [List.append_nil] at e; subst e; exact ⟨s, rfl, h⟩
    | cons x post ih =>
      intro pre s e h
      obtain ⟨s1, e1, h1⟩ := hF pre.length x s (by rw [e]; simp) h
      obtain ⟨s2, e2, h2⟩ := ih (pre ++ [x]) s1 (by rw [e]; simp) (by simpa using h1)
      exact ⟨s2, by rw [forO, e1, Option.bind_some, e2], h2⟩
  exact key xs [] s rfl h
theorem forF_inv {F : α → σ → Option (Fl σ β)} (I : Nat → σ → Prop) (xs : List α) (s : σ) (h : I 0 s) (hF : ∀ n x s, xs[n]? = some x → I n s → ∃ s', F x s = some (.nx s') ∧ I (n + 1) s') : ∃ s', forF F xs s = some (.go s') ∧ I xs.length s' := by
  have key : ∀ (post pre : List α) (s : σ), xs = pre ++ post → I pre.length s → ∃ s', forF F post s = some (.go s') ∧ I xs.length s' := by
    intro post
    induction post with
    | nil => intro pre s e h; rw [List.append_nil] at e; subst e; exact ⟨s, rfl, h⟩
    | cons x post ih =>
      intro pre s e h
      obtain ⟨s1, e1, h1⟩ := hF pre.length x s (by rw [e]; simp) h
      obtain ⟨s2, e2, h2⟩ := ih (pre ++ [x]) s1 (by rw [e]; simp) (by simpa using h1)
      exact ⟨s2, by rw [forF, e1, Option.bind_some]; exact e2, h2⟩
  exact key xs [] s rfl h
theorem compO_eq {F : α → Option (Option β)} {h : α → Option β} : ∀ (xs : List α), (∀ x ∈ xs, F x = some (h x)) → compO F xs = some (xs.filterMap h)
  | [], _ => rfl
  | x :: xs, hF => by
    rw [compO, hF x List.mem_cons_self, Option.bind_some, compO_eq xs fun y hy => hF y (List.mem_cons_of_mem _ hy), Option.bind_some, List.filterMap_cons]
    cases h x <;> rfl
theorem compO_map {F : α → Option (Option β)} {h : α → β} (xs : List α) (hF : ∀ x ∈ xs, F x = some (some (h x))) : compO F xs = some (xs.map h) := by
  rw [compO_eq (h := fun x => some (h x)) xs hF]
  congr 1
  induction xs with
  | nil => rfl
  | cons x xs ih => simp [ih fun y hy => hF y (List.mem_cons_of_mem _ hy)]
theorem compO_flt {F : α → Option (Option β)} {c : α → Bool} {h : α → β} (xs : List α) (hF : ∀ x ∈ xs, F x = cond (c x) (some (some (h x))) (some none)) : compO F xs = some ((xs.filter c).map h) := by
  rw [compO_eq (h := fun x => cond (c x) (some (h x)) none) xs fun x hx => by rw [hF x hx]; cases c x <;> rfl]
  congr 1
  clear hF
  induction xs with
  | nil => rfl
  | cons x xs ih => cases hc : c x <;> simp [List.filterMap_cons, List.filter_cons, hc, ih]
end
def LD : Int := 999999999999
/-! ### lists -/
section
variable {α : Type}
theorem appO_ok {xs : List α} (x : α) (h : xs.length < 16777216) : appO xs x = some (xs ++ [x]) := if_pos h
theorem catO_ok {xs ys : List α} (h : xs.length + ys.length ≤ 16777216) : catO xs ys = some (xs ++ ys) := if_pos h
theorem ixN_ok {n : Nat} {i : Int} (h0 : 0 ≤ i) (h1 : i < n) : L2.ixN n i = some i.toNat := by unfold L2.ixN; rw [if_pos h0, if_pos h1]
theorem atI_get {xs : List α} {i : Int} (h0 : 0 ≤ i) (h1 : i < xs.length) : ∃ x, L2.atI xs i = some x ∧ xs[i.toNat]? = some x := by
  have hl : i.toNat < xs.length := by omega
  exact ⟨xs[i.toNat], by unfold L2.atI; rw [ixN_ok h0 h1, Option.bind_some, List.getElem?_eq_getElem hl], List.getElem?_eq_getElem hl⟩
theorem atI_mem {xs : List α} {i : Int} (h0 : 0 ≤ i) (h1 : i < xs.length) : ∃ x, L2.atI xs i = some x ∧ x ∈ xs := by
  obtain ⟨x, e, g⟩ := atI_get h0 h1
  exact ⟨x, e, List.mem_of_getElem? g⟩
theorem atI_nat (xs : List α) (k : Nat) : L2.atI xs (k : Int) = xs[k]? := by
  unfold L2.atI L2.ixN
  rw [if_pos (Int.natCast_nonneg k)]
  by_cases h : k < xs.length
  · rw [if_pos (by omega)]; simp
  · rw [if_neg (by omega), List.getElem?_eq_none (by omega)]; rfl
theorem popAt_ok {xs : List α} {i : Int} (h0 : 0 ≤ i) (h1 : i < xs.length) (hl : xs.length < 1000000000) : ∃ x, popAt xs i = some (x, xs.eraseIdx i.toNat) ∧ xs[i.toNat]? = some x ∧ (x :: xs.eraseIdx i.toNat).Perm xs ∧ (xs.eraseIdx i.toNat).length + 1 = xs.length := by
  have hi : i.toNat < xs.length := by omega
  refine ⟨xs[i.toNat], ?_, List.getElem?_eq_getElem hi, ?_, ?_⟩
  · unfold popAt
    rw [if_pos (by omega), ixN_ok h0 h1, Option.bind_some, List.getElem?_eq_getElem hi]; rfl
  · have pe : ∀ (xs : List α) (i : Nat) (h : i < xs.length), (xs[i] :: xs.eraseIdx i).Perm xs := by
      intro xs
      induction xs with
      | nil => intro i h; cases h
      | cons a r ih =>
        intro i h
        cases i with
        | zero => exact List.Perm.refl _
        | succ i => exact (List.Perm.swap _ _ _).trans (List.Perm.cons a (ih i (by simpa using h)))
    exact pe xs _ hi
  · rw [List.length_eraseIdx, if_pos hi]; omega
theorem setI_ok {xs : List α} {i : Int} (x : α) (h0 : 0 ≤ i) (h1 : i < xs.length) : setI xs i x = some (xs.set i.toNat x) := by unfold setI; rw [ixN_ok h0 h1]; rfl
end
theorem get_lt' {α : Type} {xs : List α} {n : Nat} {x : α} (h : xs[n]? = some x) : n < xs.length := (List.getElem?_eq_some_iff.mp h).1
theorem rngL_nats (n : Nat) : rngL 0 (n : Int) = nats n := by
  unfold rngL nats
  rw [Int.sub_zero, Int.toNat_natCast]
  refine List.map_congr_left fun i _ => ?_
  rw [Int.zero_add]; rfl
theorem rngL_0 {n : Int} (h : 0 ≤ n) : rngL 0 n = nats n.toNat := by
  rw [← rngL_nats, Int.toNat_of_nonneg h]
theorem rngL_len (a b : Int) : (rngL a b).length = (b - a).toNat := by unfold rngL; simp
theorem rok0 {n : Int} (h0 : 0 ≤ n) (h1 : n ≤ 1000000) : rok 0 n = true := by
  simp [rok, rlim, cap]; omega
/-! ### runs -/
def Run {γ : Type} (o : Option γ) (Q : γ → Prop) : Prop := ∃ r, o = some r ∧ Q r
section
variable {α β γ σ : Type} {Q : γ → Prop}
theorem run_some {r : γ} (h : Q r) : Run (some r) Q := ⟨r, rfl, h⟩
theorem run_bind {o : Option α} {k : α → Option γ} {P : α → Prop} (h : Run o P) (hk : ∀ a, P a → Run (k a) Q) : Run (o.bind k) Q := by
  obtain ⟨a, rfl, p⟩ := h
  exact hk a p
theorem run_eq {o : Option α} {k : α → Option γ} {a : α} (h : o = some a) (hk : Run (k a) Q) : Run (o.bind k) Q := by subst h; exact hk
theorem run_let {a : α} {k : α → Option γ} (hk : Run (k a) Q) : Run ((some a).bind k) Q := hk
theorem run_chk {p : Prop} [Decidable p] {k : Unit → Option γ} (h : p) (hk : Run (k ()) Q) : Run ((chk p).bind k) Q := by rw [chk_true h]; exact hk
theorem run_cond {c : Bool} {A B : Option γ} (h1 : c = true → Run A Q) (h2 : c = false → Run B Q) : Run (cond c A B) Q := by
  cases c with
  | true => exact h1 rfl
  | false => exact h2 rfl
theorem Run.imp {o : Option γ} {Q' : γ → Prop} (h : Run o Q) (q : ∀ r, Q r → Q' r) : Run o Q' := by
  obtain ⟨r, e, h⟩ := h
  exact ⟨r, e, q r h⟩
theorem run_forO {F : α → σ → Option σ} {k : σ → Option γ} {xs : List α} {s : σ} (I : Nat → σ → Prop) (h0 : I 0 s) (hF : ∀ n x s, xs[n]? = some x → I n s → Run (F x s) (I (n + 1))) (hk : ∀ s, I xs.length s → Run (k s) Q) : Run ((forO F xs s).bind k) Q := by
  obtain ⟨s', e, h⟩ := forO_inv I xs s h0 hF
  exact run_eq e (hk s' h)
/-- a loop that always goes on -/
theorem run_forF {F : α → σ → Option (Fl σ β)} {k : Lo σ β → Option γ} {xs : List α} {s : σ} (I : Nat → σ → Prop) (h0 : I 0 s) (hF : ∀ n x s, xs[n]? = some x → I n s → Run (F x s) fun r => ∃ s', r = .nx s' ∧ I (n + 1) s') (hk : ∀ s, I xs.length s → Run (k (.go s)) Q) : Run ((forF F xs s).bind k) Q := by
  obtain ⟨s', e, h⟩ := forF_inv I xs s h0 fun n x s hx hi => by
    obtain ⟨r, e, s', rfl, h⟩ := hF n x s hx hi
    exact ⟨s', e, h⟩
  exact run_eq e (hk s' h)
theorem run_whO {C : σ → Option Bool} {B : σ → Option σ} {k : σ → Option γ} {s : σ} {L : Nat} (I : Nat → σ → Prop) (m : Nat) (hm : m < L) (h0 : I m s)
    (hC : ∀ n s, I n s → ∃ b, C s = some b ∧ (b = true → 0 < n ∧ Run (B s) (I (n - 1))) ∧ (b = false → Run (k s) Q)) : Run ((whO C B L s).bind k) Q := by
  induction m generalizing s L with
  | zero =>
    obtain ⟨n, rfl⟩ : ∃ n, L = n + 1 := ⟨L - 1, by omega⟩
    obtain ⟨b, e, h1, h2⟩ := hC 0 s h0
    cases b with
    | true => exact absurd (h1 rfl).1 (Nat.lt_irrefl 0)
    | false => exact run_eq (by rw [whO, e]; rfl) (h2 rfl)
  | succ m ih =>
    obtain ⟨n, rfl⟩ : ∃ n, L = n + 1 := ⟨L - 1, by omega⟩
    obtain ⟨b, e, h1, h2⟩ := hC (m + 1) s h0
    cases b with
    | false => exact run_eq (by rw [whO, e]; rfl) (h2 rfl)
    | true =>
      obtain ⟨_, s', e', h'⟩ := h1 rfl
      have := ih (s := s') (L := n) (by omega) h'
      have e2 : whO C B (n + 1) s = whO C B n s' := by rw [whO, e]; simp only [Option.bind_some, cond_true, e']
      rw [e2]; exact this
/-- .. of fewer and fewer: the measure may drop by more -/
theorem run_compS {F : α → σ → Option (Option β × σ)} {k : List β × σ → Option γ} {xs : List α} {s : σ} (I : List α → List β → σ → Prop) (h0 : I [] [] s)
    (hF : ∀ pre x post ys s, xs = pre ++ x :: post → I pre ys s → Run (F x s) fun r => I (pre ++ [x]) (ys ++ r.1.toList) r.2) (hk : ∀ ys s, I xs ys s → Run (k (ys, s)) Q) : Run ((compS F xs s).bind k) Q := by
  have key : ∀ (post pre : List α) (ys : List β) (s : σ), xs = pre ++ post → I pre ys s → ∃ zs s', compS F post s = some (zs, s') ∧ I xs (ys ++ zs) s' := by
    intro post
    induction post with
    | nil => intro pre ys s e h; rw [List.append_nil] at e; subst e; exact ⟨[], s, rfl, by simpa using h⟩
    | cons x post ih =>
      intro pre ys s e h
      obtain ⟨⟨o, s1⟩, e1, h1⟩ := hF pre x post ys s e h
      obtain ⟨zs, s2, e2, h2⟩ := ih (pre ++ [x]) (ys ++ o.toList) s1 (by rw [e]; simp) h1
      refine ⟨o.toList ++ zs, s2, ?_, by rw [← List.append_assoc]; exact h2⟩
      rw [compS, e1]
      simp only [Option.bind_some, e2]
      cases o <;> rfl
  obtain ⟨zs, s', e, h⟩ := key xs [] [] s rfl h0
  exact run_eq e (hk zs s' (by simpa using h))
end
/-! ### the deck's defs -/
theorem next_run {δ : Deck} {b m : Int} (h : δ.Ok b) (hb : b ≤ LD) (h0 : 0 < m) (h1 : m < 18446744073709551616) :
    Run (m_law_next δ m) fun r => 0 ≤ r.1 ∧ r.1 < m ∧ r.2.Ok (b + 1) := by
  obtain ⟨v, δ', e, a, b, c⟩ := next_spec h (by unfold LD at hb; omega) h0 h1
  exact ⟨(v, δ'), e, a, b, c⟩
theorem part_run {δ : Deck} {b share : Int} {xs : List Int} (h : δ.Ok b) (hb : b + xs.length ≤ LD) (hl : xs.length ≤ 16777216) :
    Run (m_law_part δ xs share) fun r => r.1.Sublist xs ∧ r.2.Ok (b + xs.length) := by
  unfold m_law_part
  refine run_chk hl ?_
  refine run_compS (fun pre ys δ => ys.Sublist pre ∧ δ.Ok (b + pre.length)) ⟨.slnil, by simpa using h⟩ ?_ ?_
  · rintro pre x post ys δ rfl ⟨hs, hd⟩
    have hb : b + pre.length ≤ LD := by simp at hb; omega
    refine run_bind (next_run hd hb (by decide) (by decide)) ?_
    rintro ⟨v, δ1⟩ ⟨_, _, h1⟩
    refine run_cond (fun _ => run_some ?_) (fun _ => run_some ?_)
    · exact ⟨hs.append (List.Sublist.refl [x]), h1.mono (by simp; omega)⟩
    · exact ⟨by simpa using hs.trans (List.sublist_append_left pre [x]), h1.mono (by simp; omega)⟩
  · rintro ys δ ⟨hs, hd⟩
    exact run_some ⟨hs, hd⟩
theorem part_u_run {δ : Deck} {b share : Int} {xs : List Int} (h : δ.Ok b) (hb : b + xs.length ≤ LD) (hl : xs.length ≤ 16777216) :
    Run (m_law_part_u δ xs share) fun r => r.1.Sublist xs ∧ r.2.Ok (b + xs.length) := part_run h hb hl
theorem shuffled_run {δ : Deck} {b n : Int} (h : δ.Ok b) (n0 : 0 ≤ n) (n1 : n ≤ 100000) (hb : b + n ≤ LD) :
    Run (m_law_shuffled δ n) fun r => r.1.Perm (nats n.toNat) ∧ r.2.Ok (b + n) := by
  have hlen : (rngL 0 n).length = n.toNat := by rw [rngL_len]; omega
  unfold m_law_shuffled
  refine run_chk (rok0 n0 (by omega)) ?_
  refine run_let ?_
  refine run_whO (fun k (s : List Int × List Int × Deck) => s.1.length = k ∧ (s.2.1 ++ s.1).Perm (rngL 0 n) ∧ s.2.2.Ok (b + n - k)) n.toNat (by unfold LL; omega) ⟨hlen, List.Perm.refl _, h.mono (by omega)⟩ ?_
  rintro k ⟨left, found, δ⟩ ⟨hk, hp, hd⟩
  have hk : left.length = k := hk
  have hp : (found ++ left).Perm (rngL 0 n) := hp
  have hd : δ.Ok (b + n - k) := hd
  have htot : found.length + left.length = n.toNat := by have := hp.length_eq; rw [List.length_append, hlen] at this; exact this
  refine ⟨!left.isEmpty, rfl, fun hne => ?_, fun he => ?_⟩
  · have hl0 : 0 < left.length := by cases left with
      | nil => cases hne
      | cons _ _ => simp
    refine ⟨by omega, ?_⟩
    refine run_bind (next_run hd (by omega) (by omega) (by omega)) ?_
    rintro ⟨v, δ1⟩ ⟨v0, v1, h1⟩
    simp only at v0 v1 h1
    obtain ⟨x, e2, _, pm, hl⟩ := popAt_ok (xs := left) v0 v1 (by omega)
    refine run_eq e2 ?_
    refine run_eq (appO_ok x (by omega)) ?_
    refine run_some ⟨?_, ?_, ?_⟩
    · show (left.eraseIdx v.toNat).length = k - 1
      omega
    · show ((found ++ [x]) ++ left.eraseIdx v.toNat).Perm _
      rw [List.append_assoc]
      exact (List.Perm.append_left found pm).trans hp
    · exact Deck.Ok.mono h1 (by omega)
  · have : left = [] := by cases left with
      | nil => rfl
      | cons _ _ => cases he
    subst this
    refine run_some ⟨?_, hd.mono (by omega)⟩
    rw [List.append_nil, rngL_0 n0] at hp
    exact hp
/-- a drawn table -/
structure TabOk (dm om : Int) (t : Int × List (List Int)) : Prop where
  d1 : 1 ≤ t.1
  d2 : t.1 ≤ dm
  om : (t.2.length : Int) ≤ om
  off : ∀ o ∈ t.2, OffOk t.1 o
theorem one_i_run {δ : Deck} {b : Int} {xs : List Int} (h : δ.Ok b) (hb : b ≤ LD) (ne : xs ≠ []) (hl : xs.length < 1000000000) : Run (m_law_one_i δ xs) fun r => r.1 ∈ xs ∧ r.2.Ok (b + 1) := by
  have hp : 0 < xs.length := List.length_pos_iff.mpr ne
  unfold m_law_one_i
  refine run_bind (next_run h hb (by omega) (by omega)) ?_
  rintro ⟨v, δ1⟩ ⟨v0, v1, h1⟩
  obtain ⟨x, e2, hm⟩ := atI_mem v0 v1
  exact run_eq e2 (run_some ⟨hm, h1⟩)
theorem one_u_run {δ : Deck} {b : Int} {xs : List Int} (h : δ.Ok b) (hb : b ≤ LD) (ne : xs ≠ []) (hl : xs.length < 1000000000) : Run (m_law_one_u δ xs) fun r => r.1 ∈ xs ∧ r.2.Ok (b + 1) := one_i_run h hb ne hl
theorem one_o_run {δ : Deck} {b : Int} {xs : List (List Int)} (h : δ.Ok b) (hb : b ≤ LD) (ne : xs ≠ []) (hl : xs.length < 1000000000) : Run (m_law_one_o δ xs) fun r => r.1 ∈ xs ∧ r.2.Ok (b + 1) := by
  have hp : 0 < xs.length := List.length_pos_iff.mpr ne
  unfold m_law_one_o
  refine run_bind (next_run h hb (by omega) (by omega)) ?_
  rintro ⟨v, δ1⟩ ⟨v0, v1, h1⟩
  obtain ⟨x, e2, hm⟩ := atI_mem v0 v1
  exact run_eq e2 (run_some ⟨hm, h1⟩)
theorem nats_len' {n : Int} (h : 0 ≤ n) : ((nats n.toNat).length : Int) = n := by rw [nats_len]; omega
theorem intervals_run {δ : Deck} {b d k : Int} (h : δ.Ok b) (d0 : 0 < d) (d1 : d ≤ 1000) (k0 : 0 ≤ k) (k1 : k ≤ 1000) (hb : b + d + 2 * k ≤ LD) :
    Run (m_law_intervals δ d k) fun r => r.1.1 = d ∧ (r.1.2.length : Int) = k ∧ (∀ o ∈ r.1.2, OffOk d o) ∧ r.2.Ok (b + d + 2 * k) := by
  have hlen : ((rngL 0 k).length : Int) = k := by rw [rngL_len]; omega
  unfold m_law_intervals
  refine run_bind (shuffled_run h (by omega) (by omega) (by omega)) ?_
  rintro ⟨order, δ1⟩ ⟨pm, h1⟩
  simp only at pm h1
  obtain ⟨nd, rg, len⟩ := perm_rng pm
  refine run_chk (by omega) ?_
  refine run_forO (fun n (s : List (List Int) × Deck) => s.1.length = n ∧ (∀ o ∈ s.1, OffOk d o) ∧ s.2.Ok (b + d + 2 * n)) ⟨rfl, (by intro _ h; cases h), by simpa using h1⟩ ?_ ?_
  · rintro n x ⟨os, δ2⟩ hx ⟨hl, ho, hd⟩
    have hn := get_lt' hx
    have hl : os.length = n := hl
    have hd : δ2.Ok (b + d + 2 * n) := hd
    refine run_bind (next_run hd (by omega) (by omega) (by omega)) ?_
    rintro ⟨v, δ3⟩ ⟨v0, v1, h3⟩
    simp only at v0 v1 h3
    refine run_bind (next_run h3 (by omega) (by omega) (by omega)) ?_
    rintro ⟨v', δ4⟩ ⟨w0, w1, h4⟩
    simp only at w0 w1 h4
    refine run_eq (appO_ok _ (by omega)) ?_
    refine run_some ⟨by show (os ++ [_]).length = n + 1; simp [hl], fun o hm => ?_, Deck.Ok.mono h4 (by omega)⟩
    rcases List.mem_append.mp hm with hm | hm
    · exact ho o hm
    · rw [List.mem_singleton.mp hm]
      exact off_sort (nd.sublist (cutL_sub _ _ _)) fun x hx => by have := rg x ((cutL_sub _ _ _).subset hx); omega
  · rintro ⟨os, δ2⟩ ⟨hl, ho, hd⟩
    rw [hlen] at hd
    exact run_some ⟨rfl, by show (os.length : Int) = k; rw [show os.length = _ from hl]; exact hlen, ho, hd⟩
theorem around_run {δ : Deck} {b d k : Int} (h : δ.Ok b) (d0 : 0 < d) (d1 : d ≤ 100) (k0 : 0 ≤ k) (k1 : k ≤ 100) (hb : b + 1000 + 200 * k ≤ LD) :
    Run (m_law_around δ d k) fun r => r.1.1 = d ∧ (r.1.2.length : Int) = k ∧ (∀ o ∈ r.1.2, OffOk d o) ∧ r.2.Ok (b + 1000 + 200 * k) := by
  have hlen : ((rngL 0 k).length : Int) = k := by rw [rngL_len]; omega
  have hlenN : (rngL 0 k).length = k.toNat := by omega
  unfold m_law_around
  refine run_bind (shuffled_run h (by omega) (by omega) (by omega)) ?_
  rintro ⟨order, δ1⟩ ⟨pm, h1⟩
  simp only at pm h1
  obtain ⟨nd, rg, len⟩ := perm_rng pm
  refine run_bind (next_run h1 (by omega) (by decide) (by decide)) ?_
  rintro ⟨sz, δ2⟩ ⟨s0, s1, h2⟩
  simp only at s0 s1 h2
  refine run_chk (by omega) ?_
  refine run_forO (fun n (s : List (List Int) × Deck) => s.1.length = n ∧ (∀ o ∈ s.1, OffOk d o) ∧ s.2.Ok (b + d + 1 + 150 * n)) ⟨rfl, (by intro _ h; cases h), by simpa using h2⟩ ?_ ?_
  · rintro n x ⟨os, δ3⟩ hx ⟨hl, ho, hd⟩
    have hn := get_lt' hx
    have hl : os.length = n := hl
    have hd : δ3.Ok (b + d + 1 + 150 * n) := hd
    have hx0 : 0 ≤ x ∧ x < k := by
      rw [rngL_0 k0] at hx
      have := nats_mem.mp (List.mem_of_getElem? hx)
      omega
    refine run_cond (fun hc => ?_) (fun _ => ?_)
    · simp only [Bool.and_eq_true, decide_eq_true_eq] at hc
      obtain ⟨t1, e1, m1⟩ := atI_mem (xs := order) (i := x) hx0.1 (by omega)
      have hmd : 0 ≤ (x + 1) % (3 + sz) ∧ (x + 1) % (3 + sz) < 3 + sz := ⟨Int.emod_nonneg _ (by omega), Int.emod_lt_of_pos _ (by omega)⟩
      obtain ⟨t3, e3, m3⟩ := atI_mem (xs := order) (i := (x + 1) % (3 + sz)) hmd.1 (by omega)
      have hmod : oMod (x + 1) (3 + sz) = some ((x + 1) % (3 + sz)) := if_pos (by omega)
      refine run_eq e1 (run_eq hmod (run_eq e3 ?_))
      have hsub := cutL_sub order (some (3 + sz)) none
      have hsl : (cutL order (some (3 + sz)) none).length ≤ 100 := by have := hsub.length_le; omega
      refine run_bind (part_u_run hd (by omega) (by omega)) ?_
      rintro ⟨ys, δ4⟩ ⟨hys, h4⟩
      simp only at hys h4
      have hyl : ys.length ≤ 100 := by have := hys.length_le; omega
      refine run_eq (catO_ok (by simp; omega)) ?_
      refine run_eq (appO_ok _ (by omega)) ?_
      refine run_some ⟨by show (os ++ [_]).length = n + 1; simp [hl], fun o hm => ?_, Deck.Ok.mono h4 (by omega)⟩
      rcases List.mem_append.mp hm with hm | hm
      · exact ho o hm
      · rw [List.mem_singleton.mp hm]
        refine off_sort ?_ fun z hz => ?_
        · have c1 : cutL order (some (3 + sz)) none = order.drop (3 + sz).toNat := by
            have := cut_from order (n := (3 + sz).toNat)
            rw [Int.toNat_of_nonneg (by omega)] at this
            exact this
          have i1 : order[x.toNat]? = some t1 := by
            have := atI_get (xs := order) (i := x) hx0.1 (by omega)
            obtain ⟨q, q1, q2⟩ := this
            rw [e1] at q1; cases q1; exact q2
          have i3 : order[((x + 1) % (3 + sz)).toNat]? = some t3 := by
            have := atI_get (xs := order) (i := (x + 1) % (3 + sz)) hmd.1 (by omega)
            obtain ⟨q, q1, q2⟩ := this
            rw [e3] at q1; cases q1; exact q2
          have inj : ∀ (i j : Nat) (a : Int), order[i]? = some a → order[j]? = some a → i = j := fun i j a hi hj => by
            obtain ⟨p1, p2⟩ := List.getElem?_eq_some_iff.mp hi
            obtain ⟨q1, q2⟩ := List.getElem?_eq_some_iff.mp hj
            exact (List.getElem_inj nd).mp (p2.trans q2.symm)
          have nin : ∀ (i : Nat) (a : Int), order[i]? = some a → i < (3 + sz).toNat → a ∉ ys := fun i a hi hlt hm => by
            have := hys.subset hm
            rw [c1] at this
            obtain ⟨j, hj⟩ := List.mem_iff_getElem?.mp this
            rw [List.getElem?_drop] at hj
            have := inj i _ a hi hj
            omega
          have t13 : t1 ≠ t3 := fun e => by
            subst e
            have := inj _ _ _ i1 i3
            have hx3 : x < 3 + sz := hc.2
            have e4 : x = (x + 1) % (3 + sz) := by omega
            have e0 : x + 1 < 3 + sz ∨ x + 1 = 3 + sz := by omega
            rcases e0 with l | e5
            · rw [Int.emod_eq_of_lt (by omega) l] at e4; omega
            · rw [e5, Int.emod_self] at e4; omega
          show ([t1, t3] ++ ys).Nodup
          simp only [List.cons_append, List.nil_append, List.nodup_cons, List.mem_cons, not_or]
          exact ⟨⟨t13, nin _ _ i1 (by omega)⟩, nin _ _ i3 (by omega), (nd.sublist hsub).sublist hys⟩
        · have hz : z ∈ [t1, t3] ++ ys := hz
          simp only [List.cons_append, List.nil_append, List.mem_cons] at hz
          rcases hz with rfl | rfl | hz
          · have := rg _ m1; omega
          · have := rg _ m3; omega
          · have := rg z (hsub.subset (hys.subset hz)); omega
    · refine run_chk (rok0 (by omega) (by omega)) ?_
      refine run_bind (next_run hd (by omega) (by decide) (by decide)) ?_
      rintro ⟨v, δ5⟩ ⟨v0, v1, h5⟩
      simp only at v0 v1 h5
      have hl2 : ((rngL 0 d).length : Int) = d := by rw [rngL_len]; omega
      refine run_bind (part_run h5 (by omega) (by omega)) ?_
      rintro ⟨ys, δ6⟩ ⟨hys, h6⟩
      simp only at hys h6
      refine run_eq (appO_ok _ (by omega)) ?_
      refine run_some ⟨by show (os ++ [_]).length = n + 1; simp [hl], fun o hm => ?_, Deck.Ok.mono h6 (by omega)⟩
      rcases List.mem_append.mp hm with hm | hm
      · exact ho o hm
      · rw [List.mem_singleton.mp hm]
        rw [rngL_0 (by omega)] at hys
        have := off_sub (off_nats d.toNat) hys
        rw [Int.toNat_of_nonneg (by omega)] at this
        exact this
  · rintro ⟨os, δ3⟩ ⟨hl, ho, hd⟩
    have hl : os.length = (rngL 0 k).length := hl
    rw [hlen] at hd
    refine run_chk (by omega) (run_chk (by omega) ?_)
    refine run_compS (fun pre ys (s : List (List Int) × Deck) => ys.length = pre.length ∧ s.1.length + pre.length = (rngL 0 k).length ∧ (∀ o ∈ ys, OffOk d o) ∧ (∀ o ∈ s.1, OffOk d o) ∧ s.2.Ok (b + d + 1 + 150 * k + pre.length)) ⟨rfl, by simpa using hl, (by intro _ h; cases h), ho, by simpa using hd⟩ ?_ ?_
    · rintro pre x post ys ⟨os, δ4⟩ hpre ⟨g1, g2, g3, g4, g5⟩
      simp only at g2 g4 g5
      have hp : pre.length < (rngL 0 k).length := by rw [hpre]; simp
      refine run_bind (next_run g5 (by omega) (by omega) (by omega)) ?_
      rintro ⟨v, δ5⟩ ⟨v0, v1, h5⟩
      simp only at v0 v1 h5
      obtain ⟨o, e2, _, pm2, hl2⟩ := popAt_ok (xs := os) v0 v1 (by omega)
      refine run_eq e2 ?_
      refine run_some ⟨by simp [g1], ?_, ?_, ?_, Deck.Ok.mono h5 (by simp; omega)⟩
      · show (os.eraseIdx v.toNat).length + (pre ++ [x]).length = _
        simp; omega
      · intro o' hm
        rcases List.mem_append.mp hm with hm | hm
        · exact g3 o' hm
        · simp at hm; rw [hm]; exact g4 o (pm2.mem_iff.mp List.mem_cons_self)
      · intro o' hm
        exact g4 o' (pm2.mem_iff.mp (List.mem_cons_of_mem _ hm))
    · rintro ys ⟨os, δ4⟩ ⟨g1, g2, g3, g4, g5⟩
      exact run_some ⟨rfl, by show (ys.length : Int) = k; omega, g3, Deck.Ok.mono g5 (by omega)⟩
theorem any_run {δ : Deck} {b d k : Int} (h : δ.Ok b) (d0 : 0 < d) (d1 : d ≤ 100) (k0 : 0 ≤ k) (k1 : k ≤ 100) (hb : b + 10 + 150 * k ≤ LD) :
    Run (m_law_any δ d k) fun r => r.1.1 = d ∧ (r.1.2.length : Int) = k ∧ (∀ o ∈ r.1.2, OffOk d o) ∧ r.2.Ok (b + 10 + 150 * k) := by
  have hlen : ((rngL 0 k).length : Int) = k := by rw [rngL_len]; omega
  unfold m_law_any
  refine run_bind (next_run h (by omega) (by decide) (by decide)) ?_
  rintro ⟨share, δ1⟩ ⟨s0, s1, h1⟩
  simp only at s0 s1 h1
  refine run_chk (by omega) ?_
  refine run_forO (fun n (s : List (List Int) × Deck) => s.1.length = n ∧ (∀ o ∈ s.1, OffOk d o) ∧ s.2.Ok (b + 1 + 150 * n)) ⟨rfl, (by intro _ h; cases h), by simpa using h1⟩ ?_ ?_
  · rintro n x ⟨os, δ2⟩ hx ⟨hl, ho, hd⟩
    have hn := get_lt' hx
    have hl : os.length = n := hl
    have hd : δ2.Ok (b + 1 + 150 * n) := hd
    refine run_bind (P := fun r : Bool × Deck => r.2.Ok (b + 2 + 150 * n) ∧ (r.1 = true → os ≠ [])) (run_cond (fun hc => ?_) (fun _ => run_some ⟨hd.mono (by omega), fun h => by cases h⟩)) ?_
    · refine run_bind (next_run hd (by omega) (by decide) (by decide)) ?_
      rintro ⟨v, δ3⟩ ⟨v0, v1, h3⟩
      exact run_some ⟨Deck.Ok.mono h3 (by omega), fun _ e => by subst e; cases hc⟩
    · rintro ⟨c, δ4⟩ ⟨h4, hne⟩
      simp only at h4 hne
      refine run_cond (fun hc => ?_) (fun _ => ?_)
      · refine run_bind (one_o_run h4 (by omega) (hne hc) (by omega)) ?_
        rintro ⟨o, δ5⟩ ⟨hm, h5⟩
        simp only at hm h5
        refine run_eq (appO_ok _ (by omega)) ?_
        refine run_some ⟨by show (os ++ [_]).length = n + 1; simp [hl], fun o' hm' => ?_, Deck.Ok.mono h5 (by omega)⟩
        rcases List.mem_append.mp hm' with hm' | hm'
        · exact ho o' hm'
        · rw [List.mem_singleton.mp hm']; exact ho o hm
      · refine run_chk (rok0 (by omega) (by omega)) ?_
        have hl2 : ((rngL 0 d).length : Int) = d := by rw [rngL_len]; omega
        refine run_bind (part_run h4 (by omega) (by omega)) ?_
        rintro ⟨ys, δ6⟩ ⟨hys, h6⟩
        simp only at hys h6
        refine run_eq (appO_ok _ (by omega)) ?_
        refine run_some ⟨by show (os ++ [_]).length = n + 1; simp [hl], fun o hm => ?_, Deck.Ok.mono h6 (by omega)⟩
        rcases List.mem_append.mp hm with hm | hm
        · exact ho o hm
        · rw [List.mem_singleton.mp hm]
          rw [rngL_0 (by omega)] at hys
          have := off_sub (off_nats d.toNat) hys
          rw [Int.toNat_of_nonneg (by omega)] at this
          exact this
  · rintro ⟨os, δ2⟩ ⟨hl, ho, hd⟩
    rw [hlen] at hd
    exact run_some ⟨rfl, by show (os.length : Int) = k; rw [show os.length = _ from hl]; exact hlen, ho, Deck.Ok.mono hd (by omega)⟩
theorem table_run {δ : Deck} {b dm om : Int} (h : δ.Ok b) (d0 : 0 < dm) (d1 : dm ≤ 20) (o0 : 0 ≤ om) (o1 : om ≤ 20) (hb : b + 6000 ≤ LD) :
    Run (m_law_table δ dm om) fun r => TabOk dm om r.1 ∧ r.2.Ok (b + 6000) := by
  unfold m_law_table
  refine run_bind (next_run h (by omega) (by omega) (by omega)) ?_
  rintro ⟨v1, δ1⟩ ⟨a0, a1, h1⟩
  simp only at a0 a1 h1
  refine run_bind (next_run h1 (by omega) (by omega) (by omega)) ?_
  rintro ⟨v2, δ2⟩ ⟨b0, b1, h2⟩
  simp only at b0 b1 h2
  refine run_bind (next_run h2 (by omega) (by decide) (by decide)) ?_
  rintro ⟨v3, δ3⟩ ⟨c0, c1, h3⟩
  simp only at c0 c1 h3
  have fin : ∀ (t : Int × List (List Int)) (δ : Deck) (c : Int), t.1 = 1 + v1 → (t.2.length : Int) = v2 → (∀ o ∈ t.2, OffOk (1 + v1) o) → δ.Ok c → c ≤ b + 6000 → TabOk dm om t ∧ δ.Ok (b + 6000) := fun t δ c e1 e2 e3 e4 e5 =>
    ⟨⟨by omega, by omega, by omega, by rw [e1]; exact e3⟩, e4.mono e5⟩
  refine run_cond (fun _ => ?_) (fun _ => ?_)
  · refine run_bind (intervals_run h3 (by omega) (by omega) b0 (by omega) (by omega)) ?_
    rintro ⟨t, δ4⟩ ⟨e1, e2, e3, e4⟩
    exact run_some (fin t δ4 _ e1 e2 e3 e4 (by omega))
  · refine run_bind (P := fun r => TabOk dm om r.1 ∧ r.2.Ok (b + 6000)) (run_cond (fun _ => ?_) (fun _ => ?_)) ?_
    · refine run_bind (around_run h3 (by omega) (by omega) b0 (by omega) (by omega)) ?_
      rintro ⟨t, δ4⟩ ⟨e1, e2, e3, e4⟩
      exact run_some (fin t δ4 _ e1 e2 e3 e4 (by omega))
    · refine run_bind (any_run h3 (by omega) (by omega) b0 (by omega) (by omega)) ?_
      rintro ⟨t, δ4⟩ ⟨e1, e2, e3, e4⟩
      exact run_some (fin t δ4 _ e1 e2 e3 e4 (by omega))
    · rintro ⟨t, δ4⟩ q
      exact run_some q
end Dl
/-! Sp2: drawn things of any kind: their size, their repr, how they are bent. -/
namespace Dl
open PySem
/-! ### small things -/
mutual
def smT (N : Nat) : T → Bool
  | .non => true
  | .bl _ => true
  | .int i => decide (i.natAbs ≤ N)
  | .str x => decide (x.length ≤ 100) && x.cps.toList.all fun c => decide (c < 16 ^ 8)
  | .tup xs => smTs N xs
  | .lst xs => smTs N xs
  | .dct kvs => kvs.isEmpty
  | .scr _ => false
def smTs (N : Nat) : List T → Bool
  | [] => true
  | x :: xs => smT N x && smTs N xs
end
mutual
def szT : T → Nat
  | .non => 4
  | .bl _ => 5
  | .int _ => 80
  | .str _ => 1002
  | .tup xs => szTs xs + 3
  | .lst xs => szTs xs + 3
  | .dct _ => 2
  | .scr _ => 0
def szTs : List T → Nat
  | [] => 0
  | x :: xs => szT x + 2 + szTs xs
end
mutual
def dpT : T → Nat
  | .tup xs => dpTs xs + 1
  | .lst xs => dpTs xs + 1
  | .dct _ => 1
  | .scr _ => 1
  | _ => 0
def dpTs : List T → Nat
  | [] => 0
  | x :: xs => max (dpT x) (dpTs xs)
end
theorem ten70 {n N : Nat} (h : n ≤ N) (hN : N < 10 ^ 70) : n < 10 ^ 70 := Nat.lt_of_le_of_lt h hN
theorem int_shown {i : Int} (h : i.natAbs < 10 ^ 70) : (PyData.shown (.int i)).length ≤ 80 := by
  rcases Int.le_total 0 i with h0 | h0
  · have := PyProof.Rows.toString_length_le h0 (k := 70) (by decide) (by omega)
    have e : (PyData.shown (.int i)).length = (Str.ofString (toString i)).length := rfl
    omega
  · obtain ⟨n, rfl⟩ : ∃ n : Nat, i = -(n : Int) := ⟨i.natAbs, by omega⟩
    have := PyProof.Rows.toString_length_le (v := (n : Int)) (Int.natCast_nonneg _) (k := 70) (by decide) (by omega)
    have e : (PyData.shown (.int (-(n : Int)))).length = (Str.ofString (toString (-(n : Int)))).length := rfl
    rw [e]
    cases n with
    | zero => exact Nat.le_trans this (by decide)
    | succ n =>
      have e2 : toString (-((n + 1 : Nat) : Int)) = "-" ++ toString ((n + 1 : Nat) : Int) := rfl
      rw [e2]
      have e3 : (Str.ofString ("-" ++ toString ((n + 1 : Nat) : Int))).length = (Str.ofString (toString ((n + 1 : Nat) : Int))).length + 1 := by
        rw [PyProof.Rows.ofString_length, PyProof.Rows.ofString_length]
        simp
      omega
theorem int_log {i : Int} (h : i.natAbs < 10 ^ 70) : i.natAbs.log2 < 1920 := by
  have : i.natAbs < 2 ^ 1920 := Nat.lt_trans h (by decide +kernel)
  by_cases z : i.natAbs = 0
  · rw [z]; decide
  · exact (Nat.log2_lt z).mpr this
theorem tup_len' (ts : List Str) : (tupleText ts).length ≤ piled ts + 3 := by
  unfold tupleText
  rw [strLen_append, strLen_append]
  have e1 : ((("(" : String) : Str)).length = 1 := rfl
  have e3 : (((if ts.length == 1 then ",)" else ")" : String) : Str)).length ≤ 2 := by split <;> decide
  rw [e1]
  cases ts with
  | nil =>
    have : (Str.join ", " []).length = 0 := rfl
    omega
  | cons t r =>
    have := join_length_add (t :: r) (by simp)
    omega
theorem list_len' (ts : List Str) : (listText ts).length ≤ piled ts + 2 := by
  unfold listText
  rw [strLen_append]
  have e1 : ((("]" : String) : Str)).length = 1 := rfl
  cases ts with
  | nil => exact Nat.le_refl _
  | cons t r =>
    have h := textFrom_length_pos r 1 (("[" : Str) ++ (if (0 : Nat) > 0 then ", " else "" : String) ++ t) (Nat.succ_pos 0)
    have e : ((("[" : Str) ++ (if (0 : Nat) > 0 then ", " else "" : String) ++ t)).length = 1 + t.length := by
      rw [strLen_append, strLen_append]; rfl
    have hY : (textFrom 0 "[" (t :: r)).length = (textFrom 1 (("[" : Str) ++ (if (0 : Nat) > 0 then ", " else "" : String) ++ t) r).length := rfl
    rw [hY, h, e, piled_cons, e1]; omega
section
variable {N : Nat} (hN : N < 10 ^ 70)
include hN
mutual
theorem shown_le : ∀ x : T, smT N x = true → (toPy x).shown.length ≤ szT x
  | .non, _ => by decide +kernel
  | .bl b, _ => by cases b <;> decide +kernel
  | .int i, h => int_shown (ten70 (of_decide_eq_true h) hN)
  | .str x, h => by
    have h : (decide (x.length ≤ 100) && x.cps.toList.all fun c => decide (c < 16 ^ 8)) = true := h
    simp only [Bool.and_eq_true, decide_eq_true_eq] at h
    have := PySem.StrLaws.reprText_len x fun c hc => of_decide_eq_true (List.all_eq_true.mp h.2 c hc)
    show (reprText x).length ≤ 1002
    omega
  | .tup xs, h => by
    have := shown_les xs h
    have l := tup_len' (PyData.shownAll (toPys xs))
    show (tupleText (PyData.shownAll (toPys xs))).length ≤ szTs xs + 3
    omega
  | .lst xs, h => by
    have := shown_les xs h
    have l := list_len' (PyData.shownAll (toPys xs))
    show (listText (PyData.shownAll (toPys xs))).length ≤ szTs xs + 3
    omega
  | .dct kvs, h => by show (PyData.shown (.dict [])).length ≤ 2; decide +kernel
  | .scr _, h => by cases h
theorem shown_les : ∀ xs : List T, smTs N xs = true → piled (PyData.shownAll (toPys xs)) ≤ szTs xs
  | [], _ => Nat.le_refl _
  | x :: xs, h => by
    have h : (smT N x && smTs N xs) = true := h
    simp only [Bool.and_eq_true] at h
    have h1 := shown_le x h.1
    have h2 := shown_les xs h.2
    show piled ((toPy x).shown :: PyData.shownAll (toPys xs)) ≤ szT x + 2 + szTs xs
    rw [piled_cons]; omega
end
mutual
theorem showable_sm : ∀ x : T, smT N x = true → (toPy x).showable = true
  | .non, _ => rfl
  | .bl b, _ => rfl
  | .int i, h => decide_eq_true (int_log (ten70 (of_decide_eq_true h) hN))
  | .str x, h => rfl
  | .tup xs, h => showable_sms xs h
  | .lst xs, h => showable_sms xs h
  | .dct kvs, h => rfl
  | .scr _, h => rfl
theorem showable_sms : ∀ xs : List T, smTs N xs = true → PyData.showableAll (toPys xs) = true
  | [], _ => rfl
  | x :: xs, h => by
    have h : (smT N x && smTs N xs) = true := h
    simp only [Bool.and_eq_true] at h
    show ((toPy x).showable && PyData.showableAll (toPys xs)) = true
    rw [showable_sm x h.1, showable_sms xs h.2]; rfl
end
end
mutual
theorem okR_sm {N : Nat} : ∀ x : T, smT N x = true → okR x = true
  | .non, _ => rfl
  | .bl b, _ => rfl
  | .int i, h => rfl
  | .str x, h => rfl
  | .tup xs, h => okR_sms xs h
  | .lst xs, h => okR_sms xs h
  | .dct kvs, h => h
  | .scr _, h => by cases h
theorem okR_sms {N : Nat} : ∀ xs : List T, smTs N xs = true → okRs xs = true
  | [], _ => rfl
  | x :: xs, h => by
    have h : (smT N x && smTs N xs) = true := h
    simp only [Bool.and_eq_true] at h
    show (okR x && okRs xs) = true
    rw [okR_sm x h.1, okR_sms xs h.2]; rfl
end
mutual
theorem depth_dp : ∀ x : T, (toPy x).depth ≤ dpT x
  | .non => Nat.le_refl _
  | .bl b => Nat.le_refl _
  | .int i => Nat.le_refl _
  | .str x => Nat.le_refl _
  | .tup xs => Nat.succ_le_succ (depth_dps xs)
  | .lst xs => Nat.succ_le_succ (depth_dps xs)
  | .dct kvs => Nat.le_refl _
  | .scr _ => Nat.le_refl _
theorem depth_dps : ∀ xs : List T, PyData.depthAll (toPys xs) ≤ dpTs xs
  | [] => Nat.le_refl _
  | x :: xs => by
    have h1 := depth_dp x
    have h2 := depth_dps xs
    show max (toPy x).depth (PyData.depthAll (toPys xs)) ≤ max (dpT x) (dpTs xs)
    omega
end
/-- a small thing: its ints, its depth, its size -/
structure Sm (N d k : Nat) (x : T) : Prop where
  ok : smT N x = true
  dp : dpT x ≤ d
  sz : szT x ≤ k
theorem repr_sm {N d k : Nat} {x : T} (h : Sm N d k x) (hN : N < 10 ^ 70) (hd : d ≤ 60) (hk : k ≤ 16777216) : oRepr x = some (toPy x).shown := by
  unfold oRepr
  have l1 := shown_le hN x h.ok
  have l2 := depth_dp x
  rw [if_pos]
  have hs := h.sz
  have hdp := h.dp
  rw [okR_sm x h.ok, showable_sm hN x h.ok, decide_eq_true (show (toPy x).shown.length ≤ cap by unfold cap; omega), decide_eq_true (show (toPy x).depth ≤ 60 by omega)]
  rfl
theorem Sm.mono {N N' d d' k k' : Nat} {x : T} (h : Sm N d k x) (h1 : N ≤ N') (h2 : d ≤ d') (h3 : k ≤ k') : Sm N' d' k' x := by
  have key : ∀ x : T, smT N x = true → smT N' x = true := by
    apply @T.rec (motive_1 := fun x => smT N x = true → smT N' x = true) (motive_2 := fun xs => smTs N xs = true → smTs N' xs = true) (motive_3 := fun _ => True) (motive_4 := fun _ => True)
    · exact fun h => h
    · exact fun _ h => h
    · exact fun i h => decide_eq_true (Nat.le_trans (of_decide_eq_true h) h1)
    · exact fun _ h => h
    · exact fun _ ih h => ih h
    · exact fun _ ih h => ih h
    · exact fun _ _ h => h
    · exact fun _ h => h
    · exact fun h => h
    · intro x xs h1 h2 h
      have h : (smT N x && smTs N xs) = true := h
      simp only [Bool.and_eq_true] at h
      show (smT N' x && smTs N' xs) = true
      rw [h1 h.1, h2 h.2]; rfl
    · trivial
    · exact fun _ _ _ _ => trivial
    · exact fun _ _ _ => trivial
  exact ⟨key x h.ok, Nat.le_trans h.dp h2, Nat.le_trans h.sz h3⟩
/-! ### parts of small things -/
theorem sms_iff {N : Nat} : ∀ {xs : List T}, smTs N xs = true ↔ ∀ x ∈ xs, smT N x = true
  | [] => by simp [smTs]
  | x :: xs => by rw [smTs, Bool.and_eq_true, sms_iff (xs := xs)]; simp
theorem dps_iff {d : Nat} : ∀ {xs : List T}, dpTs xs ≤ d ↔ ∀ x ∈ xs, dpT x ≤ d
  | [] => by simp [dpTs]
  | x :: xs => by
    rw [dpTs, Nat.max_le, dps_iff (xs := xs)]; simp
theorem szs_app : ∀ (xs ys : List T), szTs (xs ++ ys) = szTs xs + szTs ys
  | [], ys => by simp [szTs]
  | x :: xs, ys => by rw [List.cons_append, szTs, szTs, szs_app xs ys]; omega
theorem szs_sub {xs ys : List T} (h : xs.Sublist ys) : szTs xs ≤ szTs ys := by
  induction h with
  | slnil => exact Nat.le_refl _
  | cons a _ ih => rw [szTs]; omega
  | cons_cons a _ ih => rw [szTs, szTs]; omega
theorem szs_perm {xs ys : List T} (h : xs.Perm ys) : szTs xs = szTs ys := by
  induction h with
  | nil => rfl
  | cons a _ ih => rw [szTs, szTs, ih]
  | swap a b l => rw [szTs, szTs, szTs, szTs]; omega
  | trans _ _ h1 h2 => exact h1.trans h2
theorem szs_mem {x : T} {xs : List T} (h : x ∈ xs) : szT x + 2 ≤ szTs xs := by
  have := szs_sub (List.singleton_sublist.mpr h)
  rw [szTs, szTs] at this
  omega
theorem szs_len (xs : List T) : 2 * xs.length ≤ szTs xs := by
  induction xs with
  | nil => exact Nat.le_refl _
  | cons x xs ih => rw [szTs, List.length_cons]; omega
theorem Sm.tup {N d k : Nat} {xs : List T} (h1 : ∀ x ∈ xs, smT N x = true) (h2 : ∀ x ∈ xs, dpT x ≤ d) (h3 : szTs xs + 3 ≤ k) : Sm N (d + 1) k (.tup xs) := ⟨sms_iff.mpr h1, Nat.succ_le_succ (dps_iff.mpr h2), h3⟩
theorem Sm.lst {N d k : Nat} {xs : List T} (h1 : ∀ x ∈ xs, smT N x = true) (h2 : ∀ x ∈ xs, dpT x ≤ d) (h3 : szTs xs + 3 ≤ k) : Sm N (d + 1) k (.lst xs) := ⟨sms_iff.mpr h1, Nat.succ_le_succ (dps_iff.mpr h2), h3⟩
theorem sm_int {N d k : Nat} {i : Int} (h : i.natAbs ≤ N) (hk : 80 ≤ k) : Sm N d k (.int i) := ⟨decide_eq_true h, Nat.zero_le _, hk⟩
theorem sm_bl {N d k : Nat} (b : Bool) (hk : 5 ≤ k) : Sm N d k (.bl b) := ⟨rfl, Nat.zero_le _, hk⟩
theorem ofString_small (s : String) : (Str.ofString s).cps.toList.all (fun c => decide (c < 16 ^ 8)) = true := by
  rw [List.all_eq_true]
  intro c hc
  have : (Str.ofString s).cps.toList = s.toList.map fun c => c.toNat := by rw [Str.ofString_eq_toList]
  rw [this] at hc
  obtain ⟨a, _, rfl⟩ := List.mem_map.mp hc
  have : a.toNat < 2 ^ 32 := a.val.toNat_lt
  exact decide_eq_true (by omega)
theorem sm_str {N d k : Nat} (s : String) (h : (Str.ofString s).length ≤ 100) (hk : 1002 ≤ k) : Sm N d k (.str (Str.ofString s)) := by
  refine ⟨?_, Nat.zero_le _, hk⟩
  show (decide (_ ≤ 100) && _) = true
  rw [decide_eq_true h, ofString_small]; rfl
theorem str_int {i : Int} (h : i.natAbs < 10 ^ 70) : bStr [.int i] = some (.str (Str.ofString (toString i))) := by
  unfold bStr
  simp only
  rw [if_pos (int_log h)]
theorem cut_to {α : Type} (xs : List α) {v : Int} (h : 0 ≤ v) : cutL xs none (some v) = xs.take v.toNat := by
  obtain ⟨n, rfl⟩ : ∃ n : Nat, v = n := ⟨v.toNat, by omega⟩
  unfold cutL
  rw [HT.sIx_nat, HT.sIx_none]
  simp
theorem cut_fr {α : Type} (xs : List α) {v : Int} (h : 0 ≤ v) : cutL xs (some v) none = xs.drop v.toNat := by
  obtain ⟨n, rfl⟩ : ∃ n : Nat, v = n := ⟨v.toNat, by omega⟩
  exact cut_from xs
/-! ### odd things -/
def oddN : Nat := 10 ^ 60
theorem odd_run {δ : Deck} {b : Int} (h : δ.Ok b) (hb : b ≤ LD) : Run (m_law_odd δ) fun r => Sm oddN 2 1100 r.1 ∧ r.2.Ok (b + 1) := by
  unfold m_law_odd
  refine run_let ?_
  refine run_eq (catO_ok (by decide)) ?_
  refine run_bind (next_run h hb (by decide) (by decide)) ?_
  rintro ⟨v, δ1⟩ ⟨v0, v1, h1⟩
  simp only at v0 v1 h1
  obtain ⟨x, e, hm⟩ := atI_mem (xs := [T.non, (T.bl true), (T.bl false), (T.int (0:Int)), (T.int (1:Int)), (T.int (-(1:Int))), (T.int (2:Int)), (T.int (8:Int)), (T.int (16:Int)), (T.int (1000000000000:Int)), (T.int ((1000000000000:Int) + (1:Int))), (T.int (100000000000000000000000000000000000000000000000000000000000:Int)), (T.str ("":Str)), (T.str ("0":Str)), (T.str ("order":Str)), (T.tup []), (eU T.int ([(0:Int)]))] ++ [(eP2 T.int T.int ((0:Int), (1:Int))), (T.lst []), (T.dct []), (eL T.int ([(0:Int)])), (eU T.bl ([true])), (eU eA ([(T.tup [])]))]) v0 v1
  refine run_eq e (run_some ⟨?_, h1⟩)
  have all : ∀ y ∈ [T.non, (T.bl true), (T.bl false), (T.int (0:Int)), (T.int (1:Int)), (T.int (-(1:Int))), (T.int (2:Int)), (T.int (8:Int)), (T.int (16:Int)), (T.int (1000000000000:Int)), (T.int ((1000000000000:Int) + (1:Int))), (T.int (100000000000000000000000000000000000000000000000000000000000:Int)), (T.str ("":Str)), (T.str ("0":Str)), (T.str ("order":Str)), (T.tup []), (eU T.int ([(0:Int)]))] ++ [(eP2 T.int T.int ((0:Int), (1:Int))), (T.lst []), (T.dct []), (eL T.int ([(0:Int)])), (eU T.bl ([true])), (eU eA ([(T.tup [])]))], (smT oddN y && decide (dpT y ≤ 2) && decide (szT y ≤ 1100)) = true := by
    apply List.all_eq_true.mp
    decide +kernel
  have := all x hm
  simp only [Bool.and_eq_true, decide_eq_true_eq] at this
  exact ⟨this.1.1, this.1.2, this.2⟩
/-! ### bent things -/
theorem isi_tup {x : T} (h : isiB x "tuple" = true) : ∃ xs, x = .tup xs := by
  cases x with
  | tup xs => exact ⟨xs, rfl⟩
  | _ => simp [isiB, tyT, isiS] at h
theorem isi_int {x : T} (h : isiB x "int" = true) : (∃ i, x = .int i) ∨ ∃ b, x = .bl b := by
  cases x with
  | int i => exact .inl ⟨i, rfl⟩
  | bl b => exact .inr ⟨b, rfl⟩
  | _ => simp [isiB, tyT, isiS] at h
theorem toStr_len {i : Int} (h : i.natAbs < 10 ^ 70) : (Str.ofString (toString i)).length ≤ 80 := int_shown h
theorem bent_run {N : Nat} (hN0 : oddN ≤ N) (hN : N + 1 < 10 ^ 70) : ∀ (n : Nat) (δ : Deck) (b : Int) (x : T) (deep : Int) (d k : Nat), deep.toNat < n → k ≤ 4000000 → Sm N d k x → δ.Ok b → b + 10 * n ≤ LD →
    Run (m_law_bent n δ x deep) fun r => Sm (N + 1) (d + 3) (2 * szT x + 4000) r.1 ∧ r.2.Ok (b + 10 * n)
  | 0, _, _, _, _, _, _, h, _, _, _, _ => absurd h (Nat.not_lt_zero _)
  | n + 1, δ, b, x, deep, d, k, hn, hk, hx, h, hb => by
    have hNN : N < 10 ^ 70 := by omega
    have odd1 : ∀ {y : T}, Sm oddN 2 1100 y → smT (N + 1) y = true ∧ dpT y ≤ 2 ∧ szT y ≤ 1100 := fun hy => by
      have := Sm.mono (N' := N + 1) (d' := 2) (k' := 1100) hy (by omega) (Nat.le_refl _) (Nat.le_refl _)
      exact ⟨this.ok, this.dp, this.sz⟩
    have hx1 := hx.mono (N' := N + 1) (Nat.le_succ N) (Nat.le_refl d) (Nat.le_refl k)
    unfold m_law_bent
    refine run_bind (P := fun r : Bool × Deck => r.2.Ok (b + 1) ∧ (r.1 = true → ∃ xs, x = .tup xs ∧ xs ≠ [] ∧ 0 < deep)) ?_ ?_
    · refine run_cond (fun ht => ?_) (fun _ => run_some ⟨h.mono (by omega), (by intro h; cases h)⟩)
      obtain ⟨xs, rfl⟩ := isi_tup ht
      have g1 : (gNe (.tup xs) (.tup [])).bind asBo = some (!xs.isEmpty) := rfl
      refine run_eq g1 ?_
      refine run_bind (P := fun r : Bool × Deck => r.2.Ok (b + 1) ∧ (r.1 = true → xs ≠ [] ∧ 0 < deep)) ?_ ?_
      · refine run_cond (fun hne => ?_) (fun _ => run_some ⟨h.mono (by omega), (by intro h; cases h)⟩)
        refine run_bind (P := fun r : Bool × Deck => r.2.Ok (b + 1) ∧ (r.1 = true → 0 < deep)) ?_ ?_
        · refine run_cond (fun hd => ?_) (fun _ => run_some ⟨h.mono (by omega), (by intro h; cases h)⟩)
          refine run_bind (next_run h (by omega) (by decide) (by decide)) ?_
          rintro ⟨v, δ1⟩ ⟨_, _, h1⟩
          exact run_some ⟨h1, fun _ => of_decide_eq_true hd⟩
        · rintro ⟨c, δ1⟩ ⟨h1, h2⟩
          exact run_some ⟨h1, fun e => ⟨(by intro z; subst z; cases hne), h2 e⟩⟩
      · rintro ⟨c, δ1⟩ ⟨h1, h2⟩
        exact run_some ⟨h1, fun e => ⟨xs, rfl, h2 e⟩⟩
    · rintro ⟨c, δ1⟩ ⟨h1, h2⟩
      simp only at h1 h2
      refine run_cond (fun hc => ?_) (fun _ => ?_)
      · obtain ⟨xs, rfl, hne, hd⟩ := h2 hc
        have hp : 0 < xs.length := List.length_pos_iff.mpr hne
        have hsz : szTs xs + 3 ≤ k := hx.sz
        have hlen := szs_len xs
        have g1 : (bLen [T.tup xs]).bind asIn = some (xs.length : Int) := rfl
        refine run_eq g1 ?_
        refine run_bind (next_run h1 (by omega) (by omega) (by omega)) ?_
        rintro ⟨v, δ2⟩ ⟨v0, v1, h3⟩
        simp only at v0 v1 h3
        obtain ⟨y, e1, e2⟩ := atI_get (xs := xs) v0 v1
        have ym : y ∈ xs := List.mem_of_getElem? e2
        have g2 : gSl (.tup xs) none (some v) = some (.tup (xs.take v.toNat)) := by show some (T.tup (cutL xs none (some v))) = _; rw [cut_to xs v0]
        have g3 : ixT (.tup xs) (.int v) = some y := e1
        refine run_eq g2 (run_eq g3 ?_)
        have ysm : Sm N (d - 1) k y := ⟨sms_iff.mp hx.ok y ym, by
          have := dps_iff.mp (show dpTs xs ≤ d - 1 by have := hx.dp; have e : dpT (.tup xs) = dpTs xs + 1 := rfl; omega) y ym
          exact this, by have := szs_mem ym; omega⟩
        refine run_bind (bent_run hN0 hN n δ2 (b + 2) y (deep - 1) (d - 1) k (by omega) hk ysm (Deck.Ok.mono h3 (by omega)) (by omega)) ?_
        rintro ⟨z, δ3⟩ ⟨hz, h4⟩
        simp only at hz h4
        have dpos : 1 ≤ d := by have := hx.dp; have e : dpT (.tup xs) = dpTs xs + 1 := rfl; omega
        have g4 : gAdd (.tup (xs.take v.toNat)) (eU eA [z]) = some (.tup (xs.take v.toNat ++ [z])) := by
          show (if (xs.take v.toNat).length + 1 ≤ cap then _ else _) = _
          rw [if_pos (by rw [List.length_take]; unfold cap; omega)]; rfl
        have g5 : gSl (.tup xs) (some (v + 1)) none = some (.tup (xs.drop (v + 1).toNat)) := by show some (T.tup (cutL xs (some (v + 1)) none)) = _; rw [cut_fr xs (by omega)]
        have g6 : gAdd (.tup (xs.take v.toNat ++ [z])) (.tup (xs.drop (v + 1).toNat)) = some (.tup ((xs.take v.toNat ++ [z]) ++ xs.drop (v + 1).toNat)) := by
          show (if (xs.take v.toNat ++ [z]).length + (xs.drop (v + 1).toNat).length ≤ cap then _ else _) = _
          rw [if_pos (by rw [List.length_append, List.length_take, List.length_drop]; simp; unfold cap; omega)]
        refine run_eq g4 (run_eq g5 (run_eq g6 (run_some ⟨?_, Deck.Ok.mono h4 (by omega)⟩)))
        have hsplit : xs = xs.take v.toNat ++ y :: xs.drop (v + 1).toNat := by
          have hv : v.toNat < xs.length := by omega
          have e3 : xs[v.toNat] = y := by
            obtain ⟨_, e⟩ := List.getElem?_eq_some_iff.mp e2
            exact e
          rw [← e3, show (v + 1).toNat = v.toNat + 1 by omega, ← List.drop_eq_getElem_cons hv, List.take_append_drop]
        have hs2 : szTs xs = szTs (xs.take v.toNat) + (szT y + 2 + szTs (xs.drop (v + 1).toNat)) := by
          have := congrArg szTs hsplit
          rw [szs_app, szTs] at this
          exact this
        have hzz := hz.sz
        have mem : ∀ w ∈ (xs.take v.toNat ++ [z]) ++ xs.drop (v + 1).toNat, w = z ∨ w ∈ xs := fun w hw => by
          simp only [List.mem_append, List.mem_singleton] at hw
          rcases hw with (hw | hw) | hw
          · exact .inr (List.mem_of_mem_take hw)
          · exact .inl hw
          · exact .inr (List.mem_of_mem_drop hw)
        have := Sm.tup (N := N + 1) (d := d + 2) (k := 2 * szT (.tup xs) + 4000) (xs := (xs.take v.toNat ++ [z]) ++ xs.drop (v + 1).toNat) (fun w hw => ?_) (fun w hw => ?_) ?_
        · exact this
        · rcases mem w hw with rfl | hw
          · exact hz.ok
          · exact sms_iff.mp hx1.ok w hw
        · rcases mem w hw with rfl | hw
          · have := hz.dp; omega
          · have := dps_iff.mp (show dpTs xs ≤ d by have := hx.dp; have e : dpT (.tup xs) = dpTs xs + 1 := rfl; omega) w hw
            omega
        · rw [szs_app, szs_app, szTs, szTs]
          have e : szT (.tup xs) = szTs xs + 3 := rfl
          omega
      · refine run_cond (fun ht => ?_) (fun _ => ?_)
        · obtain ⟨xs, rfl⟩ := isi_tup ht
          have hsz : szTs xs + 3 ≤ k := hx.sz
          have hlen := szs_len xs
          have e0 : szT (.tup xs) = szTs xs + 3 := rfl
          have hok := sms_iff.mp hx1.ok
          have hdp := dps_iff.mp (show dpTs xs ≤ d by have := hx.dp; have e : dpT (.tup xs) = dpTs xs + 1 := rfl; omega)
          have g7 : gSl (.tup xs) (some 1) none = some (.tup (xs.drop 1)) := by show some (T.tup (cutL xs (some 1) none)) = _; rw [cut_fr xs (by decide)]; rfl
          have g8 : gSl (.tup xs) (some (-1)) none = some (.tup (cutL xs (some (-1)) none)) := rfl
          have sub8 := cutL_sub xs (some (-1)) none
          have l8 := sub8.length_le
          have s8 := szs_sub sub8
          have g9 : gAdd (.tup xs) (.tup (cutL xs (some (-1)) none)) = some (.tup (xs ++ cutL xs (some (-1)) none)) := by
            show (if xs.length + (cutL xs (some (-1)) none).length ≤ cap then _ else _) = _
            rw [if_pos (by unfold cap; omega)]
          have g10 : gRevA (.tup xs) = some (.tup xs.reverse) := rfl
          have g11 : lst1 bList [T.tup xs] = some (.lst xs) := rfl
          refine run_eq g7 (run_eq g8 (run_eq g9 (run_eq g10 (run_eq g11 ?_))))
          refine run_bind (odd_run h1 (by omega)) ?_
          rintro ⟨o, δ2⟩ ⟨ho, h3⟩
          simp only at ho h3
          refine run_bind (next_run h3 (by omega) (by decide) (by decide)) ?_
          rintro ⟨v, δ3⟩ ⟨v0, v1, h4⟩
          simp only at v0 v1 h4
          obtain ⟨y, e1, ym⟩ := atI_mem (xs := [T.tup (xs.drop 1), .tup (xs ++ cutL xs (some (-1)) none), .tup xs.reverse, .lst xs, o]) v0 v1
          refine run_eq e1 (run_some ⟨?_, Deck.Ok.mono h4 (by omega)⟩)
          obtain ⟨o1, o2, o3⟩ := odd1 ho
          simp only [List.mem_cons, List.not_mem_nil, or_false] at ym
          rcases ym with rfl | rfl | rfl | rfl | rfl
          · have s1 := szs_sub (List.drop_sublist 1 xs)
            exact (Sm.tup (d := d) (fun w hw => hok w (List.mem_of_mem_drop hw)) (fun w hw => hdp w (List.mem_of_mem_drop hw)) (show szTs (xs.drop 1) + 3 ≤ 2 * szT (.tup xs) + 4000 by omega)).mono (Nat.le_refl _) (by omega) (Nat.le_refl _)
          · refine (Sm.tup (d := d) (fun w hw => ?_) (fun w hw => ?_) (show szTs (xs ++ cutL xs (some (-1)) none) + 3 ≤ 2 * szT (.tup xs) + 4000 by rw [szs_app]; omega)).mono (Nat.le_refl _) (by omega) (Nat.le_refl _)
            · rcases List.mem_append.mp hw with hw | hw
              · exact hok w hw
              · exact hok w (sub8.subset hw)
            · rcases List.mem_append.mp hw with hw | hw
              · exact hdp w hw
              · exact hdp w (sub8.subset hw)
          · have s1 := szs_perm (List.reverse_perm xs)
            exact (Sm.tup (d := d) (fun w hw => hok w (List.mem_reverse.mp hw)) (fun w hw => hdp w (List.mem_reverse.mp hw)) (show szTs xs.reverse + 3 ≤ 2 * szT (.tup xs) + 4000 by omega)).mono (Nat.le_refl _) (by omega) (Nat.le_refl _)
          · exact (Sm.lst (d := d) hok hdp (show szTs xs + 3 ≤ 2 * szT (.tup xs) + 4000 by omega)).mono (Nat.le_refl _) (by omega) (Nat.le_refl _)
          · have fin : Sm (N + 1) (d + 3) (2 * szT (.tup xs) + 4000) y := ⟨o1, by omega, by omega⟩
            exact fin
        · refine run_cond (fun ht => ?_) (fun _ => ?_)
          · have core : ∀ (i : Int) (u v w : T), i.natAbs ≤ N → u = .int (i + 1) → v = .int (i - 1) → (∃ s : String, w = .str (Str.ofString s) ∧ (Str.ofString s).length ≤ 100) → ∀ b5 : Bool,
                Run ((m_law_odd δ1).bind fun (v6, δ9) => (m_law_next δ9 (6:Int)).bind fun (v7, δ10) => (L2.atI ([u, v, w, (T.bl b5), (T.int (0:Int)), v6]) v7).bind fun t16 => some (t16, δ10)) fun r => Sm (N + 1) (d + 3) (2 * szT x + 4000) r.1 ∧ r.2.Ok (b + 10 * ((n + 1 : Nat) : Int)) := by
              rintro i u v w hi rfl rfl ⟨s, rfl, hs⟩ b5
              refine run_bind (odd_run h1 (by omega)) ?_
              rintro ⟨o, δ2⟩ ⟨ho, h3⟩
              simp only at ho h3
              refine run_bind (next_run h3 (by omega) (by decide) (by decide)) ?_
              rintro ⟨v, δ3⟩ ⟨v0, v1, h4⟩
              simp only at v0 v1 h4
              obtain ⟨y, e1, ym⟩ := atI_mem (xs := [T.int (i + 1), .int (i - 1), .str (Str.ofString s), .bl b5, .int 0, o]) v0 v1
              refine run_eq e1 (run_some ⟨?_, Deck.Ok.mono h4 (by omega)⟩)
              obtain ⟨o1, o2, o3⟩ := odd1 ho
              simp only [List.mem_cons, List.not_mem_nil, or_false] at ym
              rcases ym with rfl | rfl | rfl | rfl | rfl | rfl
              · exact sm_int (by omega) (by omega)
              · exact sm_int (by omega) (by omega)
              · exact sm_str s hs (by omega)
              · exact sm_bl b5 (by omega)
              · exact sm_int (by simp) (by omega)
              · have fin : Sm (N + 1) (d + 3) (2 * szT x + 4000) y := ⟨o1, by omega, by omega⟩
                exact fin
            rcases isi_int ht with ⟨i, rfl⟩ | ⟨c, rfl⟩
            · have hi : i.natAbs ≤ N := of_decide_eq_true hx.ok
              have g3 := str_int (i := i) (by omega)
              have g4 : (gEq (.int i) (.int 1)).bind asBo = some (decide (i = 1)) := by rw [g_eqI]; rfl
              refine run_eq rfl (run_eq rfl (run_eq g3 (run_eq g4 ?_)))
              exact core i _ _ _ hi rfl rfl ⟨_, rfl, Nat.le_trans (toStr_len (by omega)) (by decide)⟩ _
            · have g4 : (gEq (.bl c) (.int 1)).bind asBo = some (eqT (.bl c) (.int 1)) := by rw [gEq_shp rfl rfl]; rfl
              have g3 : bStr [.bl c] = some (.str (Str.ofString (if c then "True" else "False"))) := by cases c <;> rfl
              refine run_eq rfl (run_eq rfl (run_eq g3 (run_eq g4 ?_)))
              exact core (b2I c) _ _ _ (by have : (b2I c).natAbs ≤ 1 := by cases c <;> decide
                                           have : 1 ≤ oddN := by decide +kernel
                                           omega) rfl rfl ⟨_, rfl, by cases c <;> decide⟩ _
          · refine run_bind (odd_run h1 (by omega)) ?_
            rintro ⟨o, δ2⟩ ⟨ho, h3⟩
            simp only at ho h3
            obtain ⟨o1, o2, o3⟩ := odd1 ho
            have fin : Sm (N + 1) (d + 3) (2 * szT x + 4000) o := ⟨o1, by omega, by omega⟩
            exact run_some ⟨fin, Deck.Ok.mono h3 (by omega)⟩
end Dl
/-! Sp3: checks of ints; amounts; payments; sameness. -/
namespace Dl
open PySem
def isI : T → Bool
  | .int _ => true
  | _ => false
def intIn (v : T) (lo hi : Int) : Bool := match v with
  | .int i => decide (lo ≤ i) && decide (i ≤ hi)
  | _ => false
theorem int_in (v : T) (lo hi : Int) : m_is_integer_in v lo hi = some (intIn v lo hi) := by
  cases v <;> simp [m_is_integer_in, isiB, tyT, isiS, intIn, gCmp, asBo]
theorem whole (v : T) : m_law_whole v = some (isI v) := by
  cases v <;> simp [m_law_whole, isiB, tyT, isiS, isI]
theorem ints_all : ∀ (xs : List T), xs.all isI = true → ∃ ns : List Int, xs = ns.map T.int
  | [], _ => ⟨[], rfl⟩
  | x :: xs, h => by
    rw [List.all_cons, Bool.and_eq_true] at h
    obtain ⟨ns, rfl⟩ := ints_all xs h.2
    cases x with
    | int i => exact ⟨i :: ns, rfl⟩
    | _ => cases h.1
/-! ### sameness -/
mutual
/-- no dict within -/
def ndT : T → Bool
  | .tup xs => ndTs xs
  | .lst xs => ndTs xs
  | .dct _ => false
  | .scr _ => false
  | _ => true
def ndTs : List T → Bool
  | [] => true
  | x :: xs => ndT x && ndTs xs
end
theorem nds_iff : ∀ {xs : List T}, ndTs xs = true ↔ ∀ x ∈ xs, ndT x = true
  | [] => by simp [ndTs]
  | x :: xs => by rw [ndTs, Bool.and_eq_true, nds_iff (xs := xs)]; simp
theorem same_refl : ∀ (n : Nat) (x : T), dpT x < n → ndT x = true → (∀ xs, x = .tup xs ∨ x = .lst xs → xs.length ≤ 16777216) → szT x ≤ 16777216 → m_law_same n x x = some true
  | 0, _, h, _, _, _ => absurd h (Nat.not_lt_zero _)
  | n + 1, x, hd, nd, _, hs => by
    have seq : ∀ xs : List T, dpTs xs < n → ndTs xs = true → szTs xs ≤ 16777216 → (x = .tup xs ∨ x = .lst xs) → m_law_same (n + 1) x x = some true := by
      intro xs hd nd hs hx
      have hlen := szs_len xs
      have l1 : (bLen [x]).bind asIn = some (xs.length : Int) := by rcases hx with rfl | rfl <;> rfl
      have tt : (["tuple", "list"].any fun c => isiB x c) = true := by rcases hx with rfl | rfl <;> simp [isiB, tyT, isiS]
      have hl : ((rngL 0 (xs.length : Int)).length : Int) = xs.length := by rw [rngL_len]; omega
      have hc : compO (fun k_ => (ixT x (T.int k_)).bind fun t4 => (ixT x (T.int k_)).bind fun t5 => (m_law_same n t4 t5).bind fun v1 => cond (!v1) (some (some k_)) (some none)) (rngL 0 (xs.length : Int)) = some [] := by
        rw [compO_eq (h := fun _ => (none : Option Int))]
        · simp
        · intro k hk
          rw [rngL_nats] at hk
          obtain ⟨k0, k1⟩ := nats_mem.mp hk
          obtain ⟨y, e1, ym⟩ := atI_mem (xs := xs) k0 k1
          have e2 : ixT x (T.int k) = some y := by rcases hx with rfl | rfl <;> exact e1
          have sz := szs_mem ym
          have ih := same_refl n y (Nat.lt_of_le_of_lt (dps_iff.mp (Nat.le_refl _) y ym) hd) (nds_iff.mp nd y ym) (fun ys hy => by
            have := szs_len ys
            rcases hy with rfl | rfl
            · have : szT (.tup ys) = szTs ys + 3 := rfl; omega
            · have : szT (.lst ys) = szTs ys + 3 := rfl; omega) (by omega)
          simp only [e2, Option.bind_some, ih, Bool.not_true, cond_false]
      unfold m_law_same
      rw [tt]
      simp only [decide_true, Bool.not_true, cond_true, cond_false, l1, Option.bind_some]
      rw [chk_true (by omega), Option.bind_some, chk_true (by omega), Option.bind_some, hc]
      rfl
    cases x with
    | tup xs => exact seq xs (by have e : dpT (.tup xs) = dpTs xs + 1 := rfl; omega) nd (by have e : szT (.tup xs) = szTs xs + 3 := rfl; omega) (.inl rfl)
    | lst xs => exact seq xs (by have e : dpT (.lst xs) = dpTs xs + 1 := rfl; omega) nd (by have e : szT (.lst xs) = szTs xs + 3 := rfl; omega) (.inr rfl)
    | non => simp [m_law_same, isiB, tyT, isiS, isN]
    | bl b => simp [m_law_same, isiB, tyT, isiS, isN, gEq_shp, eqT, asBo, shp, lay, dep]
    | int i => simp [m_law_same, isiB, tyT, isiS, isN, g_eqI, asBo]
    | str s => simp [m_law_same, isiB, tyT, isiS, isN, g_eqS, asBo]
    | dct _ => cases nd
    | scr _ => cases nd
theorem same_bool (b : Bool) : m_law_same RD (.bl b) (.bl b) = some true := same_refl 40 (.bl b) (by show 0 < 40; decide) rfl (by rintro xs (h | h) <;> cases h) (by show 5 ≤ _; decide)
theorem same_int' (i : Int) : m_law_same RD (.int i) (.int i) = some true := same_refl 40 (.int i) (by show 0 < 40; decide) rfl (by rintro xs (h | h) <;> cases h) (by show 80 ≤ _; decide)
/-! ### amounts -/
def BIG : Int := 1000000000000
theorem amount_run {δ : Deck} {b : Int} (h : δ.Ok b) (hb : b + 4 ≤ LD) : Run (m_law_amount δ) fun r => 0 ≤ r.1 ∧ r.1 ≤ BIG ∧ r.2.Ok (b + 4) := by
  unfold m_law_amount
  refine run_bind (next_run h (by omega) (by decide) (by decide)) ?_
  rintro ⟨v1, δ1⟩ ⟨a0, a1, h1⟩
  simp only at a0 a1 h1
  refine run_bind (next_run h1 (by omega) (by decide) (by decide)) ?_
  rintro ⟨v2, δ2⟩ ⟨b0, b1, h2⟩
  simp only at b0 b1 h2
  refine run_bind (next_run h2 (by omega) (by decide) (by decide)) ?_
  rintro ⟨v3, δ3⟩ ⟨c0, c1, h3⟩
  simp only at c0 c1 h3
  refine run_bind (next_run h3 (by omega) (by decide) (by decide)) ?_
  rintro ⟨v4, δ4⟩ ⟨d0, d1, h4⟩
  simp only at d0 d1 h4
  obtain ⟨y, e1, ym⟩ := atI_mem (xs := [(0:Int), 1, v1, v2, v3, 1000000000000]) d0 d1
  refine run_eq e1 (run_some ?_)
  have : 0 ≤ y ∧ y ≤ BIG := by
    unfold BIG
    simp only [List.mem_cons, List.not_mem_nil, or_false] at ym
    rcases ym with rfl | rfl | rfl | rfl | rfl | rfl <;> omega
  exact ⟨this.1, this.2, Deck.Ok.mono h4 (by omega)⟩
structure AmOk (n : Nat) (xs : List Int) : Prop where
  len : xs.length = n
  rng : ∀ x ∈ xs, 0 ≤ x ∧ x ≤ BIG
theorem data_run {δ : Deck} {b dm om : Int} {t : Int × List (List Int)} (h : δ.Ok b) (ht : TabOk dm om t) (hd : dm ≤ 20) (ho : om ≤ 20) (hb : b + 201 ≤ LD) :
    Run (m_law_data δ t) fun r => AmOk t.2.length r.1.1 ∧ AmOk t.1.toNat r.1.2 ∧ r.2.Ok (b + 201) := by
  have h1 := ht.d1
  have h2 := ht.d2
  have h3 := ht.om
  unfold m_law_data
  refine run_bind (next_run h (by omega) (by decide) (by decide)) ?_
  rintro ⟨v1, δ1⟩ ⟨a0, a1, k1⟩
  simp only at a0 a1 k1
  obtain ⟨few, e1, fm⟩ := atI_mem (xs := [(3:Int), 12, 0]) a0 a1
  have hf : 0 ≤ few ∧ few ≤ 12 := by
    simp only [List.mem_cons, List.not_mem_nil, or_false] at fm
    rcases fm with rfl | rfl | rfl <;> omega
  refine run_eq e1 (run_let ?_)
  have hl : ((rngL 0 (t.1 + (t.2.length : Int))).length : Int) = t.1 + t.2.length := by rw [rngL_len]; omega
  have hl' : (rngL 0 (t.1 + (t.2.length : Int))).length ≤ 40 := by omega
  refine run_chk (by omega) (run_chk (by omega) ?_)
  refine run_compS (fun pre ys δ => ys.length = pre.length ∧ (∀ y ∈ ys, 0 ≤ y ∧ y ≤ BIG) ∧ δ.Ok (b + 1 + pre.length)) ⟨rfl, (by intro _ h; cases h), by simpa using k1⟩ ?_ ?_
  · rintro pre x post ys δ hpre ⟨g1, g2, g3⟩
    have hp : pre.length < 40 := by
      have := congrArg List.length hpre
      rw [List.length_append, List.length_cons] at this; omega
    refine run_bind (next_run g3 (by omega) (by omega) (by omega)) ?_
    rintro ⟨v, δ2⟩ ⟨b0, b1, k2⟩
    simp only at b0 b1 k2
    refine run_some ⟨by simp [g1], ?_, Deck.Ok.mono k2 (by simp; omega)⟩
    intro y hy
    rcases List.mem_append.mp hy with hy | hy
    · exact g2 y hy
    · simp at hy; subst hy; unfold BIG; omega
  · rintro ys δ2 ⟨g1, g2, g3⟩
    refine run_bind (P := fun r : List Int × Deck => r.1.length = (rngL 0 (t.1 + (t.2.length : Int))).length ∧ (∀ y ∈ r.1, 0 ≤ y ∧ y ≤ BIG) ∧ r.2.Ok (b + 201)) (run_cond (fun _ => ?_) (fun _ => ?_)) ?_
    · refine run_chk (by omega) (run_chk (by omega) ?_)
      refine run_compS (fun pre ys δ => ys.length = pre.length ∧ (∀ y ∈ ys, 0 ≤ y ∧ y ≤ BIG) ∧ δ.Ok (b + 41 + 4 * pre.length)) ⟨rfl, (by intro _ h; cases h), g3.mono (by simp; omega)⟩ ?_ ?_
      · rintro pre x post ys δ hpre ⟨q1, q2, q3⟩
        have hp : pre.length < 40 := by
          have := congrArg List.length hpre
          rw [List.length_append, List.length_cons] at this; omega
        refine run_bind (amount_run q3 (by omega)) ?_
        rintro ⟨v, δ3⟩ ⟨b0, b1, k2⟩
        simp only at b0 b1 k2
        refine run_some ⟨by simp [q1], ?_, Deck.Ok.mono k2 (by simp; omega)⟩
        intro y hy
        rcases List.mem_append.mp hy with hy | hy
        · exact q2 y hy
        · simp at hy; subst hy; exact ⟨b0, b1⟩
      · rintro ys δ3 ⟨q1, q2, q3⟩
        exact run_some ⟨q1, q2, Deck.Ok.mono q3 (by omega)⟩
    · exact run_some ⟨g1, g2, g3.mono (by omega)⟩
    · rintro ⟨found, δ4⟩ ⟨q1, q2, q3⟩
      simp only at q1 q2 q3
      refine run_some ⟨⟨?_, fun x hx => q2 x ((cutL_sub _ _ _).subset hx)⟩, ⟨?_, fun x hx => q2 x ((cutL_sub _ _ _).subset hx)⟩, q3⟩
      · show (cutL found (some t.1) none).length = _
        rw [cut_fr found (by omega), List.length_drop]; omega
      · show (cutL found none (some t.1)).length = _
        rw [cut_to found (by omega), List.length_take]; omega
end Dl
/-! Sp4: payments, collections. -/
namespace Dl
open PySem
theorem enum_len {α : Type} (xs : List α) : (enumI xs).length = xs.length := by simp [enumI]
theorem enum_get {α : Type} {xs : List α} {n : Nat} {p : Int × α} : (enumI xs)[n]? = some p ↔ p.1 = n ∧ xs[n]? = some p.2 := by
  unfold enumI
  rw [List.getElem?_map]
  by_cases h : n < xs.length
  · have e1 : ((List.range xs.length).zip xs)[n]? = some (n, xs[n]) := by
      rw [List.getElem?_zip_eq_some]
      exact ⟨by simp [h], List.getElem?_eq_getElem h⟩
    rw [e1, List.getElem?_eq_getElem h]
    simp only [Option.map_some, Option.some.injEq]
    constructor
    · rintro rfl; exact ⟨rfl, rfl⟩
    · rintro ⟨h1, h2⟩; exact Prod.ext h1.symm h2
  · have e1 : ((List.range xs.length).zip xs)[n]? = none := List.getElem?_eq_none (by simp; omega)
    rw [e1, List.getElem?_eq_none (by omega)]
    simp
theorem enum_mem {α : Type} {xs : List α} {p : Int × α} : p ∈ enumI xs ↔ 0 ≤ p.1 ∧ xs[p.1.toNat]? = some p.2 := by
  rw [List.mem_iff_getElem?]
  constructor
  · rintro ⟨n, h⟩
    obtain ⟨h1, h2⟩ := enum_get.mp h
    refine ⟨by omega, ?_⟩
    rw [h1, Int.toNat_natCast]; exact h2
  · rintro ⟨h1, h2⟩
    exact ⟨p.1.toNat, enum_get.mpr ⟨by omega, h2⟩⟩
theorem enum_fst {α : Type} (xs : List α) : (enumI xs).map Prod.fst = nats xs.length := by
  refine List.ext_getElem? fun n => ?_
  rw [List.getElem?_map]
  by_cases h : n < xs.length
  · have : (enumI xs)[n]? = some ((n : Int), xs[n]) := enum_get.mpr ⟨rfl, List.getElem?_eq_getElem h⟩
    rw [this]
    simp [nats, h]
  · rw [List.getElem?_eq_none (by rw [enum_len]; omega), List.getElem?_eq_none (by rw [nats_len]; omega)]; rfl
/-- the numbers of the offers with d -/
def cov (os : List (List Int)) (d : Int) : List Int := ((enumI os).filter fun (k_, offer) => decide (d ∈ offer)).map fun (k_, offer) => k_
theorem cov_sub (os : List (List Int)) (d : Int) : (cov os d).Sublist (nats os.length) := by
  unfold cov
  rw [← enum_fst os]
  exact List.Sublist.map Prod.fst List.filter_sublist
theorem cov_nodup (os : List (List Int)) (d : Int) : (cov os d).Nodup := (nats_nodup _).sublist (cov_sub os d)
theorem cov_mem {os : List (List Int)} {d k : Int} : k ∈ cov os d ↔ 0 ≤ k ∧ ∃ o, os[k.toNat]? = some o ∧ d ∈ o := by
  unfold cov
  rw [List.mem_map]
  constructor
  · rintro ⟨⟨k', o⟩, h1, rfl⟩
    obtain ⟨h2, h3⟩ := List.mem_filter.mp h1
    obtain ⟨h4, h5⟩ := enum_mem.mp h2
    exact ⟨h4, o, h5, of_decide_eq_true h3⟩
  · rintro ⟨h1, o, h2, h3⟩
    exact ⟨(k, o), List.mem_filter.mpr ⟨enum_mem.mpr ⟨h1, h2⟩, decide_eq_true h3⟩, rfl⟩
theorem minI_mem : ∀ {xs : List Int}, xs ≠ [] → minI xs ∈ xs ∧ ∀ x ∈ xs, minI xs ≤ x
  | [], h => absurd rfl h
  | [x], _ => by simp [minI]
  | x :: y :: r, _ => by
    obtain ⟨h1, h2⟩ := minI_mem (xs := y :: r) (by simp)
    show (if x ≤ minI (y :: r) then x else minI (y :: r)) ∈ _ ∧ ∀ z ∈ _, (if x ≤ minI (y :: r) then x else minI (y :: r)) ≤ z
    split
    · rename_i h
      exact ⟨by simp, fun z hz => by
        rcases List.mem_cons.mp hz with rfl | hz
        · exact Int.le_refl _
        · exact Int.le_trans h (h2 z hz)⟩
    · rename_i h
      exact ⟨List.mem_cons_of_mem _ h1, fun z hz => by
        rcases List.mem_cons.mp hz with rfl | hz
        · omega
        · exact h2 z hz⟩
theorem minO_ok {xs : List Int} (h : xs ≠ []) : minO xs = some (minI xs) := by
  unfold minO
  cases xs with
  | nil => exact absurd rfl h
  | cons x r => rfl
/-! ### payments along an order -/
/-- the payment of a demand -/
def pay1 (os : List (List Int)) (pens left : List Int) (d : Int) : Int := minI ((pens.getD d.toNat 0) :: (cov os d).map fun k => left.getD k.toNat 0)
def payL (os : List (List Int)) (left : List Int) (d x : Int) : List Int := (List.range left.length).map fun (k : Nat) => if (k : Int) ∈ cov os d then left.getD k 0 - x else left.getD k 0
def payG (os : List (List Int)) (pens : List Int) : List Int → List Int → List Int → List Int × List Int
  | [], left, found => (left, found)
  | d :: r, left, found => payG os pens r (payL os left d (pay1 os pens left d)) (found.set d.toNat (pay1 os pens left d))
theorem getD_get {xs : List Int} {k : Nat} {x : Int} (h : xs[k]? = some x) : xs.getD k 0 = x := by simp [List.getD, h]
theorem atI_getD {xs : List Int} {i : Int} (h0 : 0 ≤ i) (h1 : i < xs.length) : L2.atI xs i = some (xs.getD i.toNat 0) := by
  obtain ⟨x, e, g⟩ := atI_get h0 h1
  rw [e, getD_get g]
theorem payL_len (os : List (List Int)) (left : List Int) (d x : Int) : (payL os left d x).length = left.length := by simp [payL]
theorem payL_get (os : List (List Int)) (left : List Int) (d x : Int) {k : Nat} (h : k < left.length) : (payL os left d x).getD k 0 = if (k : Int) ∈ cov os d then left.getD k 0 - x else left.getD k 0 := by
  have : (payL os left d x)[k]? = some (if (k : Int) ∈ cov os d then left.getD k 0 - x else left.getD k 0) := by simp [payL, h]
  exact getD_get this
/-- the inner loop -/
theorem pay_inner {os : List (List Int)} {left found2 : List Int} {d x : Int} (hc : os.length = left.length) (e7 : L2.atI found2 d = some x) :
    forO (fun k_3 left2 => (L2.atI left2 k_3).bind fun t6 => (L2.atI found2 d).bind fun t7 => (setI left2 k_3 (t6 - t7)).bind fun left3 => some left3) (cov os d) left = some (payL os left d x) := by
  obtain ⟨l', e, h1, h2⟩ := forO_inv (F := fun k_3 left2 => (L2.atI left2 k_3).bind fun t6 => (L2.atI found2 d).bind fun t7 => (setI left2 k_3 (t6 - t7)).bind fun left3 => some left3)
    (fun n l2 => l2.length = left.length ∧ ∀ k : Nat, k < left.length → l2.getD k 0 = if (k : Int) ∈ (cov os d).take n then left.getD k 0 - x else left.getD k 0) (cov os d) left ⟨rfl, fun k hk => by simp⟩ (by
      rintro n k l2 hk ⟨g1, g2⟩
      have hm := List.mem_of_getElem? hk
      have hr := nats_mem.mp ((cov_sub os d).subset hm)
      have e6 := atI_getD (xs := l2) (i := k) hr.1 (by omega)
      have es := setI_ok (xs := l2) (i := k) (l2.getD k.toNat 0 - x) hr.1 (by omega)
      refine ⟨l2.set k.toNat (l2.getD k.toNat 0 - x), by simp only [e6, e7, es, Option.bind_some], by simp [g1], fun j hj => ?_⟩
      have hn := get_lt' hk
      have ht : (cov os d).take (n + 1) = (cov os d).take n ++ [k] := by
        rw [List.take_add_one, hk]; rfl
      rw [ht]
      have hnot : k ∉ (cov os d).take n := fun hm2 => by
        obtain ⟨j, hj⟩ := List.mem_iff_getElem?.mp hm2
        have hj' : j < n := by
          have := get_lt' hj
          rw [List.length_take] at this; omega
        rw [List.getElem?_take_of_lt hj'] at hj
        have := (List.getElem?_inj (get_lt' hj) (cov_nodup os d)).mp (hj.trans hk.symm)
        omega
      by_cases e : j = k.toNat
      · subst e
        have hk2 : ((k.toNat : Nat) : Int) = k := by omega
        rw [hk2]
        have := g2 k.toNat (by omega)
        rw [hk2, if_neg hnot] at this
        rw [if_pos (by simp)]
        have e2 : (l2.set k.toNat (l2.getD k.toNat 0 - x)).getD k.toNat 0 = l2.getD k.toNat 0 - x := by
          simp [List.getD, List.getElem?_set_self (show k.toNat < l2.length by omega)]
        rw [e2, this]
      · have e2 : (l2.set k.toNat (l2.getD k.toNat 0 - x)).getD j 0 = l2.getD j 0 := by
          simp [List.getD, List.getElem?_set_ne (Ne.symm e)]
        rw [e2, g2 j hj]
        have : (j : Int) ≠ k := fun z => e (by omega)
        simp [this])
  rw [e]
  congr 1
  refine List.ext_getElem (by rw [payL_len]; exact h1) fun k hk1 hk2 => ?_
  have hk : k < left.length := by omega
  have a := h2 k hk
  have b := payL_get os left d x hk
  rw [List.take_length] at a
  have c : l'.getD k 0 = (payL os left d x).getD k 0 := by rw [a, b]
  simpa [List.getD, hk1, hk2, hk] using c
theorem forO_step {α σ : Type} {F : α → σ → Option σ} {x : α} {xs : List α} {s s1 : σ} (h : F x s = some s1) : forO F (x :: xs) s = forO F xs s1 := by rw [forO, h, Option.bind_some]
/-- what the law's own payments are -/
theorem law_payments {t : Int × List (List Int)} {prices pens order : List Int} {dm om : Int} (ht : TabOk dm om t) (hd : dm ≤ 20) (ho : om ≤ 20) (hp : prices.length = t.2.length) (hq : pens.length = t.1.toNat) (hr : ∀ x ∈ order, 0 ≤ x ∧ x < t.1) :
    m_law_payments t prices pens order = some (payG t.2 pens order prices (List.replicate t.1.toNat 0)).2 := by
  have h1 := ht.d1
  have h2 := ht.d2
  have h3 := ht.om
  have e1 : repO [(0:Int)] t.1 = some (List.replicate t.1.toNat 0) := by
    unfold repO
    rw [if_pos (by simp; omega)]
    congr 1
    generalize t.1.toNat = n
    induction n with
    | zero => rfl
    | succ n ih => rw [List.replicate_succ, List.flatten_cons, ih, List.replicate_succ]; rfl
  unfold m_law_payments
  rw [e1, Option.bind_some]
  have key : ∀ (order left found : List Int), (∀ x ∈ order, 0 ≤ x ∧ x < t.1) → left.length = t.2.length → found.length = t.1.toNat →
      forO (fun demand ((left, found) : List Int × List Int) => (chk ((enumI t.2).length ≤ 16777216)).bind fun _ => (some (((enumI t.2).filter (fun (k_, offer) => (decide (demand ∈ offer)))).map (fun (k_, offer) => k_))).bind fun some_ =>
        (L2.atI pens demand).bind fun t2 => (chk (some_.length ≤ 16777216)).bind fun _ => (compO (fun k_2 => (L2.atI left k_2).bind fun t3 => some (some t3)) some_).bind fun ys => (catO ([t2]) ys).bind fun t4 => (minO t4).bind fun t5 =>
        (setI found demand t5).bind fun found2 => (forO (fun k_3 left2 => (L2.atI left2 k_3).bind fun t6 => (L2.atI found2 demand).bind fun t7 => (setI left2 k_3 (t6 - t7)).bind fun left3 => some left3) some_ left).bind fun left4 =>
        some (left4, found2)) order (left, found) = some (payG t.2 pens order left found) := by
    intro order
    induction order with
    | nil => intro left found _ _ _; rfl
    | cons d r ih =>
      intro left found hr hl hf
      obtain ⟨d0, d1⟩ := hr d List.mem_cons_self
      have hcl : (cov t.2 d).length ≤ 20 := by
        have := (cov_sub t.2 d).length_le
        rw [nats_len] at this; omega
      have ec : compO (fun k_2 => (L2.atI left k_2).bind fun t3 => some (some t3)) (cov t.2 d) = some ((cov t.2 d).map fun k => left.getD k.toNat 0) := compO_map _ fun k hk => by
        have := nats_mem.mp ((cov_sub t.2 d).subset hk)
        rw [atI_getD this.1 (by omega)]; rfl
      have e5 := minO_ok (xs := [pens.getD d.toNat 0] ++ (cov t.2 d).map fun k => left.getD k.toNat 0) (by simp)
      have e6 := setI_ok (xs := found) (i := d) (pay1 t.2 pens left d) d0 (by omega)
      have e7 : L2.atI (found.set d.toNat (pay1 t.2 pens left d)) d = some (pay1 t.2 pens left d) := by
        rw [atI_getD d0 (by simp; omega)]
        simp [List.getD, List.getElem?_set_self (show d.toNat < found.length by omega)]
      have ei := pay_inner (os := t.2) (left := left) (d := d) (by omega) e7
      have ecov : ((enumI t.2).filter (fun (k_, offer) => (decide (d ∈ offer)))).map (fun (k_, offer) => k_) = cov t.2 d := rfl
      refine (forO_step ?_).trans (ih (payL t.2 left d (pay1 t.2 pens left d)) (found.set d.toNat (pay1 t.2 pens left d)) (fun x hx => hr x (List.mem_cons_of_mem _ hx)) (by rw [payL_len]; exact hl) (by rw [List.length_set]; exact hf))
      have e5' : minI ([pens.getD d.toNat 0] ++ (cov t.2 d).map fun k => left.getD k.toNat 0) = pay1 t.2 pens left d := rfl
      simp only [chk_true (show (enumI t.2).length ≤ 16777216 by rw [enum_len]; omega), Option.bind_some]
      rw [ecov, atI_getD (xs := pens) d0 (by omega), Option.bind_some, chk_true (show (cov t.2 d).length ≤ 16777216 by omega), Option.bind_some, ec, Option.bind_some, catO_ok (xs := [pens.getD d.toNat 0]) (ys := (cov t.2 d).map fun k => left.getD k.toNat 0) (by simp; omega), Option.bind_some, e5, Option.bind_some, e5', e6, Option.bind_some, ei, Option.bind_some]
  rw [key order prices _ hr hp (by simp)]
  rfl
theorem payG_ok (os : List (List Int)) (pens : List Int) (hpens : ∀ x ∈ pens, 0 ≤ x ∧ x ≤ BIG) : ∀ (order left found : List Int), (∀ x ∈ left, 0 ≤ x) → os.length = left.length → (∀ x ∈ found, 0 ≤ x ∧ x ≤ BIG) →
    (payG os pens order left found).2.length = found.length ∧ ∀ x ∈ (payG os pens order left found).2, 0 ≤ x ∧ x ≤ BIG
  | [], left, found, _, _, hf => ⟨rfl, hf⟩
  | d :: r, left, found, hl, hc, hf => by
    have g0 : ∀ (xs : List Int) (n : Nat), (∀ x ∈ xs, 0 ≤ x) → 0 ≤ xs.getD n 0 := fun xs n h => by
      by_cases e : n < xs.length
      · rw [getD_get (List.getElem?_eq_getElem e)]; exact h _ (List.getElem_mem e)
      · simp [List.getD, List.getElem?_eq_none (show xs.length ≤ n by omega)]
    have hb : pens.getD d.toNat 0 ≤ BIG := by
      by_cases e : d.toNat < pens.length
      · rw [getD_get (List.getElem?_eq_getElem e)]; exact (hpens _ (List.getElem_mem e)).2
      · simp [List.getD, List.getElem?_eq_none (show pens.length ≤ d.toNat by omega), BIG]
    obtain ⟨m1, m2⟩ := minI_mem (xs := (pens.getD d.toNat 0) :: (cov os d).map fun k => left.getD k.toNat 0) (by simp)
    have p0 : 0 ≤ pay1 os pens left d := by
      have : ∀ z ∈ (pens.getD d.toNat 0) :: (cov os d).map fun k => left.getD k.toNat 0, 0 ≤ z := fun z hz => by
        rcases List.mem_cons.mp hz with rfl | hz
        · exact g0 _ _ fun x hx => (hpens x hx).1
        · obtain ⟨k, _, rfl⟩ := List.mem_map.mp hz
          exact g0 _ _ hl
      exact this _ m1
    have p1 : pay1 os pens left d ≤ BIG := Int.le_trans (m2 _ List.mem_cons_self) hb
    have ih := payG_ok os pens hpens r (payL os left d (pay1 os pens left d)) (found.set d.toNat (pay1 os pens left d)) (fun x hx => by
      unfold payL at hx
      obtain ⟨k, hk, rfl⟩ := List.mem_map.mp hx
      split
      · rename_i hm
        have := m2 (left.getD k 0) (List.mem_cons_of_mem _ (List.mem_map.mpr ⟨(k : Int), hm, by simp⟩))
        have e : minI ((pens.getD d.toNat 0) :: (cov os d).map fun k => left.getD k.toNat 0) = pay1 os pens left d := rfl
        omega
      · exact g0 _ _ hl) (by rw [payL_len]; exact hc) (fun x hx => by
      rcases List.mem_or_eq_of_mem_set hx with h | rfl
      · exact hf x h
      · exact ⟨p0, p1⟩)
    exact ⟨by rw [payG, ih.1]; simp, ih.2⟩
end Dl
/-! Sp5: collections, the program's check and the laws' own. -/
namespace Dl
open PySem
def collI (t : Int × List (List Int)) (prices pens ns : List Int) : Bool :=
  ((ns.zip pens).all fun p => decide (0 ≤ p.1) && decide (p.1 ≤ p.2)) && ((t.2.zip prices).all fun p => decide ((p.1.map fun d => ns.getD d.toNat 0).sum ≤ p.2))
/-- is it a collection -/
def collB (t : Int × List (List Int)) (prices pens : List Int) : T → Bool
  | .tup xs => match intsOf xs with
    | some ns => decide ((ns.length : Int) = t.1) && collI t prices pens ns
    | none => false
  | _ => false
theorem intsOf_none : ∀ {xs : List T}, intsOf xs = none → xs.all isI = false
  | [], h => by cases h
  | x :: xs, h => by
    cases x with
    | int i =>
      have h : (intsOf xs).map (i :: ·) = none := h
      have : intsOf xs = none := by
        cases e : intsOf xs with
        | none => rfl
        | some _ => rw [e] at h; cases h
      rw [List.all_cons, intsOf_none this, Bool.and_false]
    | _ => rfl
theorem asc_few' : ∀ {xs : List Int} {a N : Int}, xs.Pairwise (· < ·) → (∀ x ∈ xs, a ≤ x ∧ x < N) → a ≤ N → (xs.length : Int) ≤ N - a
  | [], a, N, _, _, h => by simp; omega
  | x :: xs, a, N, hp, hr, h => by
    obtain ⟨p1, p2⟩ := List.pairwise_cons.mp hp
    have := hr x List.mem_cons_self
    have ih := asc_few' (a := x + 1) (N := N) p2 (fun y hy => ⟨by have := p1 y hy; omega, (hr y (List.mem_cons_of_mem _ hy)).2⟩) (by omega)
    rw [List.length_cons]; push_cast; omega
theorem isi_ntup {v : T} (h : ∀ xs, v ≠ .tup xs) : isiB v "tuple" = false := by
  cases v with
  | tup xs => exact absurd rfl (h xs)
  | _ => simp [isiB, tyT, isiS]
section
variable {t : Int × List (List Int)} {prices pens : List Int} {dm om : Int} (ht : TabOk dm om t) (hd : dm ≤ 20) (ho : om ≤ 20) (hp : AmOk t.2.length prices) (hq : AmOk t.1.toNat pens)
include ht hd ho hp hq
theorem off_sum {ns : List Int} (hn : (ns.length : Int) = t.1) {o : List Int} (hm : o ∈ t.2) :
    compO (fun demand => (L2.atI (ns.map T.int) demand).bind fun t2 => (asIn t2).bind fun z2 => some (some z2)) o = some (o.map fun d => ns.getD d.toNat 0) :=
  compO_map _ fun d hd' => by
    have := (ht.off o hm).rng d hd'
    obtain ⟨x, e, g⟩ := atI_get (xs := ns) (i := d) this.1 (by omega)
    rw [atI_map e, Option.bind_some, getD_get g]; rfl
theorem off_len' {o : List Int} (hm : o ∈ t.2) : o.length ≤ 20 := by
  have h1 := ht.d1
  have h2 := ht.d2
  have := asc_few' (a := 0) (N := t.1) (ht.off o hm).asc (ht.off o hm).rng (by omega)
  omega
theorem is_coll {v : T} (hv : ∀ xs, v = .tup xs → xs.length ≤ 16777216) : m_is_collection t prices pens v = some (collB t prices pens v) := by
  have h1 := ht.d1
  have h2 := ht.d2
  have h3 := ht.om
  have lp := hp.len
  have lq := hq.len
  by_cases hx : ∃ xs, v = .tup xs
  · obtain ⟨xs, rfl⟩ := hx
    have ev : isiB (.tup xs) "tuple" = true := by simp [isiB, tyT, isiS]
    have el : (bLen [T.tup xs]).bind asIn = some (xs.length : Int) := rfl
    unfold m_is_collection
    rw [ev, el]
    simp only [Bool.not_true, cond_false, Option.bind_some]
    by_cases hl : (xs.length : Int) = t.1
    · rw [decide_eq_true hl]
      simp only [Bool.not_true, cond_false]
      have hz : (List.zip xs pens).length ≤ 16777216 := by rw [List.length_zip]; omega
      rw [show asTu (.tup xs) = some xs from rfl, Option.bind_some, chk_true hz, Option.bind_some]
      rw [compO_map (h := fun p => intIn p.1 0 p.2) _ (fun p _ => by show (m_is_integer_in p.1 0 p.2).bind _ = _; rw [int_in]; rfl), Option.bind_some]
      cases hi : intsOf xs with
      | none =>
        have na := intsOf_none hi
        have : (((List.zip xs pens).map fun p => intIn p.1 0 p.2).all fun b => b) = false := by
          rw [List.all_eq_false] at na ⊢
          obtain ⟨x, hx, hxi⟩ := na
          obtain ⟨n, hn⟩ := List.mem_iff_getElem?.mp hx
          have hn' := get_lt' hn
          have hnp : n < pens.length := by omega
          refine ⟨intIn x 0 pens[n], List.mem_map.mpr ⟨(x, pens[n]), List.mem_iff_getElem?.mpr ⟨n, ?_⟩, rfl⟩, ?_⟩
          · rw [List.getElem?_zip_eq_some]; exact ⟨hn, List.getElem?_eq_getElem hnp⟩
          · cases x <;> simp [isI, intIn] at hxi ⊢
        rw [this]
        simp only [Bool.not_false, cond_true]
        show _ = some (match intsOf xs with | some ns => _ | none => false)
        rw [hi]
      | some ns =>
        have := intsOf_some hi
        subst this
        rw [List.length_map] at hl
        have e1 : (((List.zip (ns.map T.int) pens).map fun p => intIn p.1 0 p.2).all fun b => b) = (ns.zip pens).all fun p => decide (0 ≤ p.1) && decide (p.1 ≤ p.2) := by
          rw [List.zip_map_left, List.map_map, List.all_map]
          rfl
        rw [e1]
        have hz2 : (List.zip t.2 prices).length ≤ 16777216 := by rw [List.length_zip]; omega
        have e2 : compO (fun ((offer, price) : List Int × Int) => (chk (offer.length ≤ 16777216)).bind fun _ => (compO (fun demand => (L2.atI (ns.map T.int) demand).bind fun t2 => (asIn t2).bind fun z2 => some (some z2)) offer).bind fun ys2 => some (some (decide (ys2.sum ≤ price)))) (List.zip t.2 prices)
            = some ((List.zip t.2 prices).map fun p => decide ((p.1.map fun d => ns.getD d.toNat 0).sum ≤ p.2)) := compO_map _ fun p hp' => by
          have hm : p.1 ∈ t.2 := (List.of_mem_zip hp').1
          show (chk (p.1.length ≤ 16777216)).bind _ = _
          have := off_len' ht hd ho hp hq hm
          rw [chk_true (show p.1.length ≤ 16777216 by omega), Option.bind_some, off_sum ht hd ho hp hq hl hm]; rfl
        rw [chk_true hz2, Option.bind_some, e2, Option.bind_some, List.all_map]
        show _ = some (match intsOf (ns.map T.int) with | some ns => _ | none => false)
        simp only [hi, decide_eq_true hl, collI, Bool.true_and]
        cases ((ns.zip pens).all fun p => decide (0 ≤ p.1) && decide (p.1 ≤ p.2)) with
        | true => rfl
        | false => rfl
    · rw [decide_eq_false hl]
      simp only [Bool.not_false, cond_true]
      show _ = some (match intsOf xs with | some ns => _ | none => false)
      cases hi : intsOf xs with
      | none => rfl
      | some ns =>
        have := intsOf_some hi
        subst this
        rw [List.length_map] at hl
        simp only [decide_eq_false hl, Bool.false_and]
  · have hx' : ∀ xs, v ≠ .tup xs := fun xs e => hx ⟨xs, e⟩
    unfold m_is_collection
    rw [isi_ntup hx']
    have : collB t prices pens v = false := by
      cases v with
      | tup xs => exact absurd rfl (hx' xs)
      | _ => rfl
    rw [this]; rfl
theorem law_coll {v : T} (hv : ∀ xs, v = .tup xs → xs.length ≤ 16777216) : m_law_is_collection t prices pens v = some (collB t prices pens v) := by
  have h1 := ht.d1
  have h2 := ht.d2
  have h3 := ht.om
  have lp := hp.len
  have lq := hq.len
  by_cases hx : ∃ xs, v = .tup xs
  · obtain ⟨xs, rfl⟩ := hx
    have ev : isiB (.tup xs) "tuple" = true := by simp [isiB, tyT, isiS]
    have el : (bLen [T.tup xs]).bind asIn = some (xs.length : Int) := rfl
    have et : asTu (.tup xs) = some xs := rfl
    have ew : compO (fun one => (m_law_whole one).bind fun v1 => cond (!v1) (some (some one)) (some none)) xs = some ((xs.filter fun x => !isI x).map fun x => x) := compO_flt _ fun x _ => by
      rw [whole, Option.bind_some]
    unfold m_law_is_collection
    rw [ev, el, et]
    simp only [Bool.not_true, cond_false, Option.bind_some]
    rw [chk_true (hv xs rfl), Option.bind_some, ew]
    simp only [Option.bind_some, List.map_id']
    by_cases hl : (xs.length : Int) = t.1
    · rw [decide_eq_true hl]
      simp only [Bool.not_true, cond_false, Option.bind_some]
      cases hi : intsOf xs with
      | none =>
        have na := intsOf_none hi
        have : (xs.filter fun x => !isI x).isEmpty = false := by
          rw [List.all_eq_false] at na
          obtain ⟨x, hx, hxi⟩ := na
          cases hf : xs.filter fun x => !isI x with
          | nil =>
            have := List.filter_eq_nil_iff.mp hf x hx
            simp [hxi] at this
          | cons _ _ => rfl
        rw [this]
        show _ = some (match intsOf xs with | some ns => _ | none => false)
        rw [hi]; rfl
      | some ns =>
        have := intsOf_some hi
        subst this
        rw [List.length_map] at hl
        have e0 : ((ns.map T.int).filter fun x => !isI x).isEmpty = true := by
          rw [List.isEmpty_iff, List.filter_eq_nil_iff]
          intro x hx
          obtain ⟨n, _, rfl⟩ := List.mem_map.mp hx
          simp [isI]
        rw [e0]
        simp only [Bool.not_true, cond_false]
        have hz : (enumI (ns.map T.int)).length ≤ 16777216 := by rw [enum_len, List.length_map]; omega
        rw [chk_true hz, Option.bind_some]
        have e1 : compO (fun ((d1, own) : Int × T) => (L2.atI pens d1).bind fun t2 => ((gLe (T.int (0:Int)) own).bind asBo).bind fun b3 => ((gLe own (T.int t2)).bind asBo).bind fun b4 => cond (!(b3 && b4)) (some (some d1)) (some none)) (enumI (ns.map T.int))
            = some (((enumI (ns.map T.int)).filter fun p => !intIn p.2 0 (pens.getD p.1.toNat 0)).map fun p => p.1) := compO_flt _ fun p hp' => by
          obtain ⟨g1, g2⟩ := enum_mem.mp hp'
          have g3 := get_lt' g2
          rw [List.length_map] at g3
          rw [List.getElem?_map] at g2
          obtain ⟨n, hn, he⟩ : ∃ n, ns[p.1.toNat]? = some n ∧ T.int n = p.2 := by
            cases e : ns[p.1.toNat]? with
            | none => rw [e] at g2; cases g2
            | some n => rw [e] at g2; exact ⟨n, rfl, by simpa using g2⟩
          show (L2.atI pens p.1).bind _ = _
          rw [atI_getD g1 (by omega), Option.bind_some, ← he]
          rfl
        rw [e1, Option.bind_some]
        have hz2 : (enumI t.2).length ≤ 16777216 := by rw [enum_len]; omega
        have e2 : compO (fun ((k_, offer) : Int × List Int) => (chk (offer.length ≤ 16777216)).bind fun _ => (compO (fun d2 => (L2.atI (ns.map T.int) d2).bind fun t3 => (asIn t3).bind fun z3 => some (some z3)) offer).bind fun ys3 => (L2.atI prices k_).bind fun t4 => cond (decide (t4 < ys3.sum)) (some (some k_)) (some none)) (enumI t.2)
            = some (((enumI t.2).filter fun p => decide (prices.getD p.1.toNat 0 < (p.2.map fun d => ns.getD d.toNat 0).sum)).map fun p => p.1) := compO_flt _ fun p hp' => by
          obtain ⟨g1, g2⟩ := enum_mem.mp hp'
          have hm := List.mem_of_getElem? g2
          have g3 := get_lt' g2
          show (chk (p.2.length ≤ 16777216)).bind _ = _
          have := off_len' ht hd ho hp hq hm
          rw [chk_true (show p.2.length ≤ 16777216 by omega), Option.bind_some, off_sum ht hd ho hp hq hl hm, Option.bind_some, atI_getD g1 (by omega), Option.bind_some]
        have f1 : (((enumI (ns.map T.int)).filter fun p => !intIn p.2 0 (pens.getD p.1.toNat 0)).map fun p => p.1).isEmpty = (ns.zip pens).all fun p => decide (0 ≤ p.1) && decide (p.1 ≤ p.2) := by
          rw [Bool.eq_iff_iff, List.isEmpty_iff, List.map_eq_nil_iff, List.filter_eq_nil_iff, List.all_eq_true]
          constructor
          · intro h p hp'
            obtain ⟨n, hn⟩ := List.mem_iff_getElem?.mp hp'
            rw [List.getElem?_zip_eq_some] at hn
            have := h ((n : Int), T.int p.1) (enum_mem.mpr ⟨Int.natCast_nonneg _, by rw [Int.toNat_natCast, List.getElem?_map, hn.1]; rfl⟩)
            rw [Int.toNat_natCast, getD_get hn.2] at this
            simpa [intIn] using this
          · intro h p hp' hc
            obtain ⟨g1, g2⟩ := enum_mem.mp hp'
            have g3 := get_lt' g2
            rw [List.length_map] at g3
            rw [List.getElem?_map] at g2
            have hn : ns[p.1.toNat]? = some ns[p.1.toNat] := List.getElem?_eq_getElem g3
            rw [hn] at g2
            have he : T.int ns[p.1.toNat] = p.2 := by simpa using g2
            have hq' : p.1.toNat < pens.length := by omega
            have := h (ns[p.1.toNat], pens[p.1.toNat]) (List.mem_iff_getElem?.mpr ⟨p.1.toNat, by rw [List.getElem?_zip_eq_some]; exact ⟨hn, List.getElem?_eq_getElem hq'⟩⟩)
            rw [← he, getD_get (List.getElem?_eq_getElem hq')] at hc
            simp [intIn] at hc this
            omega
        have f2 : (((enumI t.2).filter fun p => decide (prices.getD p.1.toNat 0 < (p.2.map fun d => ns.getD d.toNat 0).sum)).map fun p => p.1).isEmpty = (t.2.zip prices).all fun p => decide ((p.1.map fun d => ns.getD d.toNat 0).sum ≤ p.2) := by
          rw [Bool.eq_iff_iff, List.isEmpty_iff, List.map_eq_nil_iff, List.filter_eq_nil_iff, List.all_eq_true]
          constructor
          · intro h p hp'
            obtain ⟨n, hn⟩ := List.mem_iff_getElem?.mp hp'
            rw [List.getElem?_zip_eq_some] at hn
            have := h ((n : Int), p.1) (enum_mem.mpr ⟨Int.natCast_nonneg _, by rw [Int.toNat_natCast]; exact hn.1⟩)
            rw [Int.toNat_natCast, getD_get hn.2] at this
            simpa using this
          · intro h p hp' hc
            obtain ⟨g1, g2⟩ := enum_mem.mp hp'
            have g3 := get_lt' g2
            have hq' : p.1.toNat < prices.length := by omega
            have := h (p.2, prices[p.1.toNat]) (List.mem_iff_getElem?.mpr ⟨p.1.toNat, by rw [List.getElem?_zip_eq_some]; exact ⟨g2, List.getElem?_eq_getElem hq'⟩⟩)
            rw [getD_get (List.getElem?_eq_getElem hq')] at hc
            simp at hc this
            omega
        rw [f1]
        show _ = some (match intsOf (ns.map T.int) with | some ns => _ | none => false)
        simp only [hi, decide_eq_true hl, collI, Bool.true_and]
        cases hA : ((ns.zip pens).all fun p => decide (0 ≤ p.1) && decide (p.1 ≤ p.2)) with
        | true =>
          simp only [Bool.not_true, cond_false, Bool.true_and]
          rw [chk_true hz2, Option.bind_some, e2, Option.bind_some, f2]
        | false => rfl
    · rw [decide_eq_false hl]
      simp only [Bool.not_false, cond_true, Option.bind_some]
      show _ = some (match intsOf xs with | some ns => _ | none => false)
      cases hi : intsOf xs with
      | none => rfl
      | some ns =>
        have := intsOf_some hi
        subst this
        rw [List.length_map] at hl
        simp only [decide_eq_false hl, Bool.false_and]
  · have hx' : ∀ xs, v ≠ .tup xs := fun xs e => hx ⟨xs, e⟩
    unfold m_law_is_collection
    rw [isi_ntup hx']
    have : collB t prices pens v = false := by
      cases v with
      | tup xs => exact absurd rfl (hx' xs)
      | _ => rfl
    rw [this]; rfl
end
theorem sm_ints {xs : List Int} {n : Nat} (h : ∀ x ∈ xs, x.natAbs ≤ oddN) (hl : xs.length ≤ n) : Sm oddN 1 (82 * n + 3) (eU T.int xs) := by
  have hs : szTs (xs.map T.int) = 82 * xs.length := by
    clear h hl
    induction xs with
    | nil => rfl
    | cons x xs ih => rw [List.map_cons, szTs, ih, List.length_cons]; show 80 + 2 + _ = _; omega
  refine Sm.tup (d := 0) (fun x hx => ?_) (fun x hx => ?_) ?_
  · obtain ⟨i, hi, rfl⟩ := List.mem_map.mp hx
    exact decide_eq_true (h i hi)
  · obtain ⟨i, hi, rfl⟩ := List.mem_map.mp hx
    exact Nat.le_refl 0
  · rw [hs]; omega
theorem sm_intsL {xs : List Int} {n : Nat} (h : ∀ x ∈ xs, x.natAbs ≤ oddN) (hl : xs.length ≤ n) : Sm oddN 1 (82 * n + 3) (eL T.int xs) := by
  have := sm_ints h hl
  exact ⟨this.ok, this.dp, this.sz⟩
theorem big_odd {x : Int} (h : -1 ≤ x ∧ x ≤ BIG + 1) : x.natAbs ≤ oddN := by
  unfold BIG at h
  have : (1000000000001 : Nat) ≤ oddN := by decide
  omega
theorem rpt_len (k : Int) (h0 : 0 ≤ k) (h1 : k ≤ 1000) (x : Int) : rptO [x] k = some (List.replicate k.toNat x) := by
  unfold rptO
  rw [if_pos ⟨by omega, by simp⟩]
  congr 1
  generalize k.toNat = n
  induction n with
  | zero => rfl
  | succ n ih => rw [List.replicate_succ, List.flatten_cons, ih, List.replicate_succ]; rfl
theorem szs_le {xs : List T} {k : Nat} (h : ∀ x ∈ xs, szT x ≤ k) : szTs xs ≤ (k + 2) * xs.length := by
  induction xs with
  | nil => exact Nat.zero_le _
  | cons x xs ih =>
    have h1 := h x List.mem_cons_self
    have h2 := ih fun y hy => h y (List.mem_cons_of_mem _ hy)
    rw [szTs, List.length_cons, Nat.mul_succ]; omega
theorem Sm.seq {N d k n : Nat} {xs : List T} (h : ∀ x ∈ xs, Sm N d k x) (hl : xs.length ≤ n) : Sm N (d + 1) ((k + 2) * n + 3) (.tup xs) :=
  Sm.tup (fun x hx => (h x hx).ok) (fun x hx => (h x hx).dp) (by
    have := szs_le fun x hx => (h x hx).sz
    have := Nat.mul_le_mul_left (k + 2) hl
    omega)
theorem Sm.seqL {N d k n : Nat} {xs : List T} (h : ∀ x ∈ xs, Sm N d k x) (hl : xs.length ≤ n) : Sm N (d + 1) ((k + 2) * n + 3) (.lst xs) := by
  have := Sm.seq h hl
  exact ⟨this.ok, this.dp, this.sz⟩
theorem sm_eU {α : Type} {e : α → T} {N d k n : Nat} {xs : List α} (h : ∀ x ∈ xs, Sm N d k (e x)) (hl : xs.length ≤ n) : Sm N (d + 1) ((k + 2) * n + 3) (eU e xs) :=
  Sm.seq (fun x hx => by obtain ⟨y, hy, rfl⟩ := List.mem_map.mp hx; exact h y hy) (by rw [List.length_map]; exact hl)
theorem sm_eL {α : Type} {e : α → T} {N d k n : Nat} {xs : List α} (h : ∀ x ∈ xs, Sm N d k (e x)) (hl : xs.length ≤ n) : Sm N (d + 1) ((k + 2) * n + 3) (eL e xs) :=
  Sm.seqL (fun x hx => by obtain ⟨y, hy, rfl⟩ := List.mem_map.mp hx; exact h y hy) (by rw [List.length_map]; exact hl)
theorem Sm.pair {N d k : Nat} {x y : T} (hx : Sm N d k x) (hy : Sm N d k y) : Sm N (d + 1) ((k + 2) * 2 + 3) (.tup [x, y]) :=
  Sm.seq (fun z hz => by simp at hz; rcases hz with rfl | rfl <;> assumption) (Nat.le_refl _)
section
variable {t : Int × List (List Int)} {prices pens : List Int} {dm om : Int} (ht : TabOk dm om t) (hd : dm ≤ 20) (ho : om ≤ 20) (hp : AmOk t.2.length prices) (hq : AmOk t.1.toNat pens)
include ht hd ho
theorem off_len20 {o : List Int} (hm : o ∈ t.2) : o.length ≤ 20 := by
  have h1 := ht.d1
  have h2 := ht.d2
  have := asc_few' (a := 0) (N := t.1) (ht.off o hm).asc (ht.off o hm).rng (by omega)
  omega
theorem sm_tab : Sm oddN 3 70000 (eP2 T.int (eU (eU T.int)) t) := by
  have h1 := ht.d1
  have h2 := ht.d2
  have h3 := ht.om
  have a : Sm oddN 2 33000 (eU (eU T.int) t.2) := (sm_eU (k := 1643) (n := 20) (fun o hm => sm_ints (n := 20) (fun x hx => by have := (ht.off o hm).rng x hx; exact big_odd (by unfold BIG; omega)) (off_len20 ht hd ho hm)) (by omega)).mono (Nat.le_refl _) (Nat.le_refl _) (by decide)
  have b : Sm oddN 2 33000 (T.int t.1) := sm_int (big_odd (by unfold BIG; omega)) (by decide)
  exact (Sm.pair b a).mono (Nat.le_refl _) (Nat.le_refl _) (by decide)
include hp hq
theorem rep_list {vs : List T} {N d k : Nat} (hN : oddN ≤ N) (h3 : 3 ≤ d) (hv : ∀ v ∈ vs, Sm N d k v) : Sm N (d + 1) ((70000 + k + 2) * (3 + vs.length) + 3) (eL eA ([eP2 T.int (eU (eU T.int)) t, eU T.int prices, eU T.int pens] ++ vs)) := by
  have h1 := ht.d1
  have h2 := ht.d2
  have h4 := ht.om
  refine sm_eL (k := 70000 + k) (fun x hx => ?_) (by simp only [List.length_append, List.length_cons, List.length_nil]; omega)
  rcases List.mem_append.mp hx with hx | hx
  · simp only [List.mem_cons, List.not_mem_nil, or_false] at hx
    rcases hx with rfl | rfl | rfl
    · exact (sm_tab ht hd ho).mono hN h3 (by omega)
    · exact (sm_ints (n := 20) (fun x hx => big_odd (by have := hp.rng x hx; unfold BIG at *; omega)) (by have := hp.len; omega)).mono hN (by omega) (by omega)
    · exact (sm_ints (n := 20) (fun x hx => big_odd (by have := hq.rng x hx; unfold BIG at *; omega)) (by have := hq.len; omega)).mono hN (by omega) (by omega)
  · exact (hv x hx).mono (Nat.le_refl _) (Nat.le_refl _) (by omega)
end
end Dl
namespace K20
open PySem PySem.Spec PyProof.Rows L2 Dl
def top (i : Nat) : Stmt := PySem.Challenge.pw_payorder_k20_collections_checked.main.body.getD i (.Pass ⟨0, 0, 0, 0⟩)
abbrev s_is_integer_in : Stmt := top 1
theorem S_is_integer_in : FnScope ["value", "low", "high"] ["value", "low", "high"] (defScope s_is_integer_in) := ⟨rfl, rfl, rfl, by decide +kernel, rfl, by decide +kernel, by decide +kernel⟩
theorem ok_is_integer_in {P : Program} {w : World} {K : PySem.W.Frag} {mg : Str → Option Value} {base : Heap} (bt : Bt mg) {f : Addr} {fd : FuncData} (F : Fun K "is_integer_in" "is_integer_in" s_is_integer_in f fd) : FnG P w K mg base 1 f fd ["value", "low", "high"] (spD K 3 d_is_integer_in) :=
  fn_ok F S_is_integer_in fun cdv A outer s H E hr =>
  (dss_one (ds_ret (de_and (de_isi rfl bt.isinstance rfl bt.int_ (by decide +kernel) (by decide) (by decide) (de_var (i := 0))) (de_and (de_not (de_isi rfl bt.isinstance rfl bt.bool (by decide +kernel) (by decide) (by decide) (de_var (i := 0)))) (de_one (de_chain (od_le hr) (od_le hr) (de_var (i := 1)) (de_var (i := 0)) (de_var (i := 2))))))))
abbrev s_is_collection : Stmt := top 3
theorem S_is_collection : FnScope ["table", "prices", "penalties", "value", "offer", "price", "amount", "penalty", "demand"] ["table", "prices", "penalties", "value"] (defScope s_is_collection) := ⟨rfl, rfl, rfl, by decide +kernel, rfl, by decide +kernel, by decide +kernel⟩
theorem ok_is_collection {P : Program} {w : World} {K : PySem.W.Frag} {mg : Str → Option Value} {base : Heap} (bt : Bt mg) (C_is_integer_in : Cl P w K mg base 1 "is_integer_in" 3 d_is_integer_in) {f : Addr} {fd : FuncData} (F : Fun K "is_collection" "is_collection" s_is_collection f fd) : FnG P w K mg base 2 f fd ["table", "prices", "penalties", "value"] (spD K 4 d_is_collection) :=
  fn_ok F S_is_collection fun cdv A outer s H E hr =>
  (dss_cons (ds_if (dw_pt (dw_or (dt_not (dt_val (de_isi rfl bt.isinstance rfl bt.tuple (by decide +kernel) (by decide) (by decide) (de_var (i := 3))))) (dw_or1 (dt_cmp (od_ne hr) (de_callB cd_len rfl bt.len (by decide +kernel) (da_cons (de_var (i := 3)) da_nil)) (de_ix hr (de_var (i := 0)) de_int))))) (dss_one (ds_ret de_bl)) dss_nil)
  (dss_cons (ds_if (dt_not (dt_val (de_callB (cd_all rfl) rfl bt.all (by decide +kernel) (da_cons (de_comp (own := [("amount", 6), ("penalty", 7)]) rfl S_is_collection.nd (ds_zip2 rfl bt.zip (da_cons (de_var (i := 3)) (da_cons (de_var (i := 2)) da_nil))) (by rfl) (fun _ _ _ _ _ => (di_tup rfl (dps_cons (dp_name (i := 6) S_is_collection.nd) (dps_cons (dp_name (i := 7) S_is_collection.nd) dps_nil)))) (fun _ _ _ _ _ => dts_nil) (fun _ _ _ _ _ => (de_callC C_is_integer_in (hr.less (by first | exact Nat.le_refl _ | decide | exact Nat.le_trans (by decide) (Nat.le_add_right _ _))) rfl (da_cons (de_var (i := 6)) (da_cons de_int (da_cons (de_var (i := 7)) da_nil)))))) da_nil)))) (dss_one (ds_ret de_bl)) dss_nil)
  (dss_one (ds_ret (de_callB (cd_all rfl) rfl bt.all (by decide +kernel) (da_cons (de_comp (own := [("offer", 4), ("price", 5)]) rfl S_is_collection.nd (ds_zip2 rfl bt.zip (da_cons (de_ix hr (de_var (i := 0)) de_int) (da_cons (de_var (i := 1)) da_nil))) (by rfl) (fun _ _ _ _ _ => (di_tup rfl (dps_cons (dp_name (i := 4) S_is_collection.nd) (dps_cons (dp_name (i := 5) S_is_collection.nd) dps_nil)))) (fun _ _ _ _ _ => dts_nil) (fun _ _ _ _ _ => (de_cmp (od_le hr) (de_callB (cd_sum rfl) rfl bt.sum (by decide +kernel) (da_cons (de_comp (own := [("demand", 8)]) rfl S_is_collection.nd (ds_seq (de_var (i := 4))) (by rfl) (fun _ _ _ _ _ => (di_name (i := 8) S_is_collection.nd)) (fun _ _ _ _ _ => dts_nil) (fun _ _ _ _ _ => (de_ix hr (de_var (i := 3)) (de_var (i := 8))))) da_nil)) (de_var (i := 5))))) da_nil))))))
abbrev s__law_deck : Stmt := top 5
theorem S__law_deck : FnScope ["script", "cells", "cell"] ["script"] (defScope s__law_deck) := ⟨rfl, rfl, rfl, by decide +kernel, rfl, by decide +kernel, by decide +kernel⟩
theorem ok__law_deck {P : Program} {w : World} {K : PySem.W.Frag} {mg : Str → Option Value} {base : Heap} (bt : Bt mg) {f : Addr} {fd : FuncData} (F : Fun K "_law_deck" "_law_deck" s__law_deck f fd) : FnG P w K mg base 1 f fd ["script"] (spD K 1 d__law_deck) :=
  fn_okK F S__law_deck fun cdv A outer s H E hr =>
  (dss_cons (ds_setComp (i := 1) (own := [("cell", 2)]) rfl S__law_deck.nd (ds_seq (de_var (i := 0))) (by rfl) (fun _ _ _ _ _ => (di_name (i := 2) S__law_deck.nd)) (fun _ _ _ _ _ => dts_nil) (fun _ _ _ _ _ => (de_callB cd_abs rfl bt.abs (by decide +kernel) (da_cons (de_var (i := 2)) da_nil))) rfl (by decide +kernel))
  (dss_one (ds_ret (de_vecB (da_cons (de_compB (own := [("cell", 2)]) rfl S__law_deck.nd (ds_seq (de_var (i := 1))) (by rfl) (fun _ _ _ _ _ => (di_name (i := 2) S__law_deck.nd)) (fun _ _ _ _ _ => (dts_one (dt_cmp (od_ge hr) (de_var (i := 2)) (de_op od_pow de_int de_int)))) (fun _ _ _ _ _ => (de_var (i := 2)))) (da_cons (de_opB ol_cat (de_var (i := 1)) (de_lst (da_cons (de_op od_add (de_callB cd_len rfl bt.len (by decide +kernel) (da_cons (de_var (i := 1)) da_nil)) de_int) da_nil))) (da_cons de_int da_nil)))))))
abbrev s__law_next : Stmt := top 6
theorem S__law_next : FnScope ["deck", "many", "cell", "mixed", "rest"] ["deck", "many"] (defScope s__law_next) := ⟨rfl, rfl, rfl, by decide +kernel, rfl, by decide +kernel, by decide +kernel⟩
theorem ok__law_next {P : Program} {w : World} {K : PySem.W.Frag} {mg : Str → Option Value} {base : Heap} (bt : Bt mg) {f : Addr} {fd : FuncData} (F : Fun K "_law_next" "_law_next" s__law_next f fd) : FnG P w K mg base 1 f fd ["deck", "many"] (spD K 2 d__law_next) :=
  fn_ok F S__law_next fun cdv A outer s H E hr =>
  (dss_cons (ds_while (L := LL) (dt_cmp (od_ne hr) (de_ix hr (de_var (i := 0)) de_int) (de_lst da_nil)) (dss_cons (ds_set (i := 4) S__law_next.nd (de_ix hr (de_ix hr (de_var (i := 0)) de_int) de_int))
  (dss_cons (ds_if (dt_cmp (od_gt hr) (de_var (i := 4)) de_int) (dss_cons (ds_asg (de_op od_div (de_var (i := 4)) (de_var (i := 1))) (dg_sub hr (de_ix hr (de_var (i := 0)) de_int) de_int))
  (dss_one (ds_ret (de_op od_mod (de_var (i := 4)) (de_var (i := 1)))))) dss_nil)
  (dss_one (ds_expr (de_popAt (de_ix hr (de_var (i := 0)) de_int) de_int))))))
  (dss_cons (ds_asg (de_op od_add (de_ix hr (de_var (i := 0)) de_int) de_int) (dg_sub hr (de_var (i := 0)) de_int))
  (dss_cons (ds_set (i := 2) S__law_next.nd (de_op od_mod (de_ix hr (de_ix hr (de_var (i := 0)) de_int) (de_op od_mod (de_ix hr (de_var (i := 0)) de_int) (de_callB cd_len rfl bt.len (by decide +kernel) (da_cons (de_ix hr (de_var (i := 0)) de_int) da_nil)))) de_int))
  (dss_cons (ds_set (i := 3) S__law_next.nd (de_op od_add (de_op od_add (de_op od_mul (de_var (i := 2)) (de_op od_add de_int (de_op od_mul de_int (de_ix hr (de_var (i := 0)) de_int)))) (de_op od_mul (de_op od_mul de_int (de_ix hr (de_var (i := 0)) de_int)) (de_ix hr (de_var (i := 0)) de_int))) de_int))
  (dss_cons (ds_set (i := 3) S__law_next.nd (de_op od_mod (de_var (i := 3)) de_int))
  (dss_one (ds_ret (de_op od_mod (de_op od_div (de_op od_mod (de_op od_mul (de_var (i := 3)) (de_var (i := 3))) de_int) de_int) (de_var (i := 1))))))))))
abbrev s__law_one : Stmt := top 7
theorem S__law_one : FnScope ["deck", "some"] ["deck", "some"] (defScope s__law_one) := ⟨rfl, rfl, rfl, by decide +kernel, rfl, by decide +kernel, by decide +kernel⟩
theorem ok__law_one {P : Program} {w : World} {K : PySem.W.Frag} {mg : Str → Option Value} {base : Heap} (bt : Bt mg) (C__law_next : Cl P w K mg base 1 "_law_next" 2 d__law_next) {f : Addr} {fd : FuncData} (F : Fun K "_law_one" "_law_one" s__law_one f fd) : FnG P w K mg base 2 f fd ["deck", "some"] (spD K 2 d__law_one) :=
  fn_ok F S__law_one fun cdv A outer s H E hr =>
  (dss_one (ds_ret (de_ix hr (de_var (i := 1)) (de_callC C__law_next (hr.less (by first | exact Nat.le_refl _ | decide | exact Nat.le_trans (by decide) (Nat.le_add_right _ _))) rfl (da_cons (de_var (i := 0)) (da_cons (de_callB cd_len rfl bt.len (by decide +kernel) (da_cons (de_var (i := 1)) da_nil)) da_nil))))))
abbrev s__law_whole : Stmt := top 8
theorem S__law_whole : FnScope ["thing"] ["thing"] (defScope s__law_whole) := ⟨rfl, rfl, rfl, by decide +kernel, rfl, by decide +kernel, by decide +kernel⟩
theorem ok__law_whole {P : Program} {w : World} {K : PySem.W.Frag} {mg : Str → Option Value} {base : Heap} (bt : Bt mg) {f : Addr} {fd : FuncData} (F : Fun K "_law_whole" "_law_whole" s__law_whole f fd) : FnG P w K mg base 1 f fd ["thing"] (spD K 1 d__law_whole) :=
  fn_ok F S__law_whole fun cdv A outer s H E hr =>
  (dss_one (ds_ret (de_and (de_isi rfl bt.isinstance rfl bt.int_ (by decide +kernel) (by decide) (by decide) (de_var (i := 0))) (de_one (de_not (de_isi rfl bt.isinstance rfl bt.bool (by decide +kernel) (by decide) (by decide) (de_var (i := 0))))))))
abbrev s__law_same : Stmt := top 9
theorem S__law_same : FnScope ["found", "due", "k"] ["found", "due"] (defScope s__law_same) := ⟨rfl, rfl, rfl, by decide +kernel, rfl, by decide +kernel, by decide +kernel⟩
theorem ok__law_same {P : Program} {w : World} {K : PySem.W.Frag} {mg : Str → Option Value} {base : Heap} (bt : Bt mg) {f : Addr} {fd : FuncData} (F : Fun K "_law_same" "_law_same" s__law_same f fd) (hm : mg "_law_same" = some (.ref f)) (hb : Binds K fd ["found", "due"] []) : ∀ n, FnG P w K mg base (1 + n) f fd ["found", "due"] (spD K 2 (d__law_same n))
  | 0 => fn_no
  | n + 1 => by
    have C__law_same : Cl P w K mg base (1 + n) "_law_same" 2 (d__law_same n) := ⟨⟨f, fd, _, ok__law_same bt F hm hb n, hm, F.kp, hb⟩⟩
    exact fn_ok F S__law_same fun cdv A outer s H E hr =>
  (dss_cons (ds_if (dt_val (de_isiT2 rfl bt.isinstance rfl bt.tuple rfl bt.list (de_var (i := 1)))) (dss_cons (ds_if (dt_cmp (od_ne hr) (de_isi rfl bt.isinstance rfl bt.tuple (by decide +kernel) (by decide) (by decide) (de_var (i := 0))) (de_isi rfl bt.isinstance rfl bt.tuple (by decide +kernel) (by decide) (by decide) (de_var (i := 1)))) (dss_one (ds_ret de_bl)) dss_nil)
  (dss_cons (ds_if (dt_cmp (od_ne hr) (de_isi rfl bt.isinstance rfl bt.list (by decide +kernel) (by decide) (by decide) (de_var (i := 0))) (de_isi rfl bt.isinstance rfl bt.list (by decide +kernel) (by decide) (by decide) (de_var (i := 1)))) (dss_one (ds_ret de_bl)) dss_nil)
  (dss_cons (ds_if (dt_cmp (od_ne hr) (de_callB cd_len rfl bt.len (by decide +kernel) (da_cons (de_var (i := 0)) da_nil)) (de_callB cd_len rfl bt.len (by decide +kernel) (da_cons (de_var (i := 1)) da_nil))) (dss_one (ds_ret de_bl)) dss_nil)
  (dss_one (ds_ret (de_cmp (od_eq hr) (de_comp (own := [("k", 2)]) rfl S__law_same.nd (ds_range1 rfl bt.range (da_cons (de_callB cd_len rfl bt.len (by decide +kernel) (da_cons (de_var (i := 1)) da_nil)) da_nil)) (by rfl) (fun _ _ _ _ _ => (di_name (i := 2) S__law_same.nd)) (fun _ _ _ _ _ => (dts_one (dt_not (dt_val (de_callC C__law_same (hr.less (by first | exact Nat.le_refl _ | decide | exact Nat.le_trans (by decide) (Nat.le_add_right _ _))) rfl (da_cons (de_ix hr (de_var (i := 0)) (de_var (i := 2))) (da_cons (de_ix hr (de_var (i := 1)) (de_var (i := 2))) da_nil))))))) (fun _ _ _ _ _ => (de_var (i := 2)))) (de_lst da_nil))))))) dss_nil)
  (dss_cons (ds_if (dt_val (de_isi rfl bt.isinstance rfl bt.dict (by decide +kernel) (by decide) (by decide) (de_var (i := 1)))) (dss_one (ds_ret (de_and (de_isi rfl bt.isinstance rfl bt.dict (by decide +kernel) (by decide) (by decide) (de_var (i := 0))) (de_one (de_cmp (od_eq hr) (de_var (i := 0)) (de_var (i := 1))))))) dss_nil)
  (dss_cons (ds_if (dt_cmp od_is (de_var (i := 1)) de_non) (dss_one (ds_ret (de_cmp od_is (de_var (i := 0)) de_non))) dss_nil)
  (dss_cons (ds_if (dt_val (de_isi rfl bt.isinstance rfl bt.str (by decide +kernel) (by decide) (by decide) (de_var (i := 1)))) (dss_one (ds_ret (de_and (de_isi rfl bt.isinstance rfl bt.str (by decide +kernel) (by decide) (by decide) (de_var (i := 0))) (de_one (de_cmp (od_eq hr) (de_var (i := 0)) (de_var (i := 1))))))) dss_nil)
  (dss_one (ds_ret (de_and (de_isi rfl bt.isinstance rfl bt.int_ (by decide +kernel) (by decide) (by decide) (de_var (i := 0))) (de_and (de_cmp (od_eq hr) (de_isi rfl bt.isinstance rfl bt.bool (by decide +kernel) (by decide) (by decide) (de_var (i := 0))) (de_isi rfl bt.isinstance rfl bt.bool (by decide +kernel) (by decide) (by decide) (de_var (i := 1)))) (de_one (de_cmp (od_eq hr) (de_var (i := 0)) (de_var (i := 1))))))))))))
abbrev s__law_odd : Stmt := top 10
theorem S__law_odd : FnScope ["deck", "some"] ["deck"] (defScope s__law_odd) := ⟨rfl, rfl, rfl, by decide +kernel, rfl, by decide +kernel, by decide +kernel⟩
theorem ok__law_odd {P : Program} {w : World} {K : PySem.W.Frag} {mg : Str → Option Value} {base : Heap} (bt : Bt mg) (C__law_next : Cl P w K mg base 1 "_law_next" 2 d__law_next) {f : Addr} {fd : FuncData} (F : Fun K "_law_odd" "_law_odd" s__law_odd f fd) : FnG P w K mg base 2 f fd ["deck"] (spD K 1 d__law_odd) :=
  fn_ok F S__law_odd fun cdv A outer s H E hr =>
  (dss_cons (ds_set (i := 1) S__law_odd.nd (de_lst (da_cons de_non (da_cons de_bl (da_cons de_bl (da_cons de_int (da_cons de_int (da_cons (de_neg de_int) (da_cons de_int (da_cons de_int (da_cons de_int (da_cons (de_op od_pow de_int de_int) (da_cons (de_op od_add (de_op od_pow de_int de_int) de_int) (da_cons (de_op od_pow de_int de_int) (da_cons de_str (da_cons de_str (da_cons de_str (da_cons (de_tup da_nil) (da_cons (de_tup (da_cons de_int da_nil)) da_nil)))))))))))))))))))
  (dss_one (ds_ret (de_ix hr (de_op od_add (de_var (i := 1)) (de_lst (da_cons (de_tup (da_cons de_int (da_cons de_int da_nil))) (da_cons (de_lst da_nil) (da_cons de_dict0 (da_cons (de_lst (da_cons de_int da_nil)) (da_cons (de_tup (da_cons de_bl da_nil)) (da_cons (de_tup (da_cons (de_tup da_nil) da_nil)) da_nil)))))))) (de_callC C__law_next (hr.less (by first | exact Nat.le_refl _ | decide | exact Nat.le_trans (by decide) (Nat.le_add_right _ _))) rfl (da_cons (de_var (i := 0)) (da_cons de_int da_nil)))))))
abbrev s__law_bent : Stmt := top 11
theorem S__law_bent : FnScope ["deck", "thing", "deep", "spot"] ["deck", "thing", "deep"] (defScope s__law_bent) := ⟨rfl, rfl, rfl, by decide +kernel, rfl, by decide +kernel, by decide +kernel⟩
theorem ok__law_bent {P : Program} {w : World} {K : PySem.W.Frag} {mg : Str → Option Value} {base : Heap} (bt : Bt mg) (C__law_odd : Cl P w K mg base 2 "_law_odd" 1 d__law_odd) (C__law_next : Cl P w K mg base 1 "_law_next" 2 d__law_next) {f : Addr} {fd : FuncData} (F : Fun K "_law_bent" "_law_bent" s__law_bent f fd) (hm : mg "_law_bent" = some (.ref f)) (hb : Binds K fd ["deck", "thing", "deep"] []) : ∀ n, FnG P w K mg base (3 + n) f fd ["deck", "thing", "deep"] (spD K 3 (d__law_bent n))
  | 0 => fn_no
  | n + 1 => by
    have C__law_bent : Cl P w K mg base (3 + n) "_law_bent" 3 (d__law_bent n) := ⟨⟨f, fd, _, ok__law_bent bt C__law_odd C__law_next F hm hb n, hm, F.kp, hb⟩⟩
    exact fn_ok F S__law_bent fun cdv A outer s H E hr =>
  (dss_cons (ds_if (dw_pt (dw_and (dt_val (de_isi rfl bt.isinstance rfl bt.tuple (by decide +kernel) (by decide) (by decide) (de_var (i := 1)))) (dw_and (dt_cmp (od_ne hr) (de_var (i := 1)) (de_tup da_nil)) (dw_and (dt_cmp (od_gt hr) (de_var (i := 2)) de_int) (dw_and1 (dt_cmp (od_gt hr) (de_callC C__law_next (hr.less (by first | exact Nat.le_refl _ | decide | exact Nat.le_trans (by decide) (Nat.le_add_right _ _))) rfl (da_cons (de_var (i := 0)) (da_cons de_int da_nil))) de_int)))))) (dss_cons (ds_set (i := 3) S__law_bent.nd (de_callC C__law_next (hr.less (by first | exact Nat.le_refl _ | decide | exact Nat.le_trans (by decide) (Nat.le_add_right _ _))) rfl (da_cons (de_var (i := 0)) (da_cons (de_callB cd_len rfl bt.len (by decide +kernel) (da_cons (de_var (i := 1)) da_nil)) da_nil))))
  (dss_one (ds_ret (de_op od_add (de_op od_add (de_slice (de_var (i := 1)) do_none (do_some (de_var (i := 3)))) (de_tup (da_cons (de_callC C__law_bent (hr.less (by first | exact Nat.le_refl _ | decide | exact Nat.le_trans (by decide) (Nat.le_add_right _ _))) rfl (da_cons (de_var (i := 0)) (da_cons (de_ix hr (de_var (i := 1)) (de_var (i := 3))) (da_cons (de_op od_sub (de_var (i := 2)) de_int) da_nil)))) da_nil))) (de_slice (de_var (i := 1)) (do_some (de_op od_add (de_var (i := 3)) de_int)) do_none))))) dss_nil)
  (dss_cons (ds_if (dt_val (de_isi rfl bt.isinstance rfl bt.tuple (by decide +kernel) (by decide) (by decide) (de_var (i := 1)))) (dss_one (ds_ret (de_ix hr (de_lst (da_cons (de_slice (de_var (i := 1)) (do_some de_int) do_none) (da_cons (de_op od_add (de_var (i := 1)) (de_slice (de_var (i := 1)) (do_some (de_neg de_int)) do_none)) (da_cons (de_revA (de_var (i := 1))) (da_cons (de_callTy (cl_list).toD rfl bt.list (by decide +kernel) (da_cons (de_var (i := 1)) da_nil)) (da_cons (de_callC C__law_odd (hr.less (by first | exact Nat.le_refl _ | decide | exact Nat.le_trans (by decide) (Nat.le_add_right _ _))) rfl (da_cons (de_var (i := 0)) da_nil)) da_nil)))))) (de_callC C__law_next (hr.less (by first | exact Nat.le_refl _ | decide | exact Nat.le_trans (by decide) (Nat.le_add_right _ _))) rfl (da_cons (de_var (i := 0)) (da_cons de_int da_nil)))))) dss_nil)
  (dss_cons (ds_if (dt_val (de_isi rfl bt.isinstance rfl bt.int_ (by decide +kernel) (by decide) (by decide) (de_var (i := 1)))) (dss_one (ds_ret (de_ix hr (de_lst (da_cons (de_op od_add (de_var (i := 1)) de_int) (da_cons (de_op od_sub (de_var (i := 1)) de_int) (da_cons (de_callTy cd_str rfl bt.str (by decide +kernel) (da_cons (de_var (i := 1)) da_nil)) (da_cons (de_cmp (od_eq hr) (de_var (i := 1)) de_int) (da_cons de_int (da_cons (de_callC C__law_odd (hr.less (by first | exact Nat.le_refl _ | decide | exact Nat.le_trans (by decide) (Nat.le_add_right _ _))) rfl (da_cons (de_var (i := 0)) da_nil)) da_nil))))))) (de_callC C__law_next (hr.less (by first | exact Nat.le_refl _ | decide | exact Nat.le_trans (by decide) (Nat.le_add_right _ _))) rfl (da_cons (de_var (i := 0)) (da_cons de_int da_nil)))))) dss_nil)
  (dss_one (ds_ret (de_callC C__law_odd (hr.less (by first | exact Nat.le_refl _ | decide | exact Nat.le_trans (by decide) (Nat.le_add_right _ _))) rfl (da_cons (de_var (i := 0)) da_nil)))))))
abbrev s__law_part : Stmt := top 12
theorem S__law_part : FnScope ["deck", "items", "share", "item"] ["deck", "items", "share"] (defScope s__law_part) := ⟨rfl, rfl, rfl, by decide +kernel, rfl, by decide +kernel, by decide +kernel⟩
theorem ok__law_part {P : Program} {w : World} {K : PySem.W.Frag} {mg : Str → Option Value} {base : Heap} (bt : Bt mg) (C__law_next : Cl P w K mg base 1 "_law_next" 2 d__law_next) {f : Addr} {fd : FuncData} (F : Fun K "_law_part" "_law_part" s__law_part f fd) : FnG P w K mg base 2 f fd ["deck", "items", "share"] (spD K 3 d__law_part) :=
  fn_ok F S__law_part fun cdv A outer s H E hr =>
  (dss_one (ds_ret (de_callTy cd_tuple rfl bt.tuple (by decide +kernel) (da_cons (de_comp (own := [("item", 3)]) rfl S__law_part.nd (ds_seq (de_var (i := 1))) (by rfl) (fun _ _ _ _ _ => (di_name (i := 3) S__law_part.nd)) (fun _ _ _ _ _ => (dts_one (dt_cmp (od_ge hr) (de_callC C__law_next (hr.less (by first | exact Nat.le_refl _ | decide | exact Nat.le_trans (by decide) (Nat.le_add_right _ _))) rfl (da_cons (de_var (i := 0)) (da_cons de_int da_nil))) (de_var (i := 2))))) (fun _ _ _ _ _ => (de_var (i := 3)))) da_nil))))
abbrev s__law_shuffled : Stmt := top 13
theorem S__law_shuffled : FnScope ["deck", "count", "left", "found"] ["deck", "count"] (defScope s__law_shuffled) := ⟨rfl, rfl, rfl, by decide +kernel, rfl, by decide +kernel, by decide +kernel⟩
theorem ok__law_shuffled {P : Program} {w : World} {K : PySem.W.Frag} {mg : Str → Option Value} {base : Heap} (bt : Bt mg) (C__law_next : Cl P w K mg base 1 "_law_next" 2 d__law_next) {f : Addr} {fd : FuncData} (F : Fun K "_law_shuffled" "_law_shuffled" s__law_shuffled f fd) : FnG P w K mg base 2 f fd ["deck", "count"] (spD K 2 d__law_shuffled) :=
  fn_ok F S__law_shuffled fun cdv A outer s H E hr =>
  (dss_cons (ds_par (i := 2) (j := 3) rfl S__law_shuffled.nd (da_cons (de_listR1B rfl rfl bt.list rfl bt.range (da_cons (de_var (i := 1)) da_nil)) (da_cons (de_lstB da_nil) da_nil)))
  (dss_cons (ds_while (L := LL) (dt_cmp (od_ne hr) (de_var (i := 2)) (de_lst da_nil)) (dss_one (ds_expr (de_append (de_var (i := 3)) (de_popAt (de_var (i := 2)) (de_callC C__law_next (hr.less (by first | exact Nat.le_refl _ | decide | exact Nat.le_trans (by decide) (Nat.le_add_right _ _))) rfl (da_cons (de_var (i := 0)) (da_cons (de_callB cd_len rfl bt.len (by decide +kernel) (da_cons (de_var (i := 2)) da_nil)) da_nil))))))))
  (dss_one (ds_ret (de_callTy cd_tuple rfl bt.tuple (by decide +kernel) (da_cons (de_var (i := 3)) da_nil))))))
abbrev s__law_intervals : Stmt := top 14
theorem S__law_intervals : FnScope ["deck", "demands", "offers", "order", "found", "k", "low"] ["deck", "demands", "offers"] (defScope s__law_intervals) := ⟨rfl, rfl, rfl, by decide +kernel, rfl, by decide +kernel, by decide +kernel⟩
theorem ok__law_intervals {P : Program} {w : World} {K : PySem.W.Frag} {mg : Str → Option Value} {base : Heap} (bt : Bt mg) (C__law_shuffled : Cl P w K mg base 2 "_law_shuffled" 2 d__law_shuffled) (C__law_next : Cl P w K mg base 1 "_law_next" 2 d__law_next) {f : Addr} {fd : FuncData} (F : Fun K "_law_intervals" "_law_intervals" s__law_intervals f fd) : FnG P w K mg base 3 f fd ["deck", "demands", "offers"] (spD K 3 d__law_intervals) :=
  fn_ok F S__law_intervals fun cdv A outer s H E hr =>
  (dss_cons (ds_par (i := 3) (j := 4) rfl S__law_intervals.nd (da_cons (de_callC C__law_shuffled (hr.less (by first | exact Nat.le_refl _ | decide | exact Nat.le_trans (by decide) (Nat.le_add_right _ _))) rfl (da_cons (de_var (i := 0)) (da_cons (de_var (i := 1)) da_nil))) (da_cons (de_lstB da_nil) da_nil)))
  (dss_cons (ds_for rfl (ds_range1 rfl bt.range (da_cons (de_var (i := 2)) da_nil)) (di_name (i := 5) S__law_intervals.nd) (dss_cons (ds_set (i := 6) S__law_intervals.nd (de_callC C__law_next (hr.less (by first | exact Nat.le_refl _ | decide | exact Nat.le_trans (by decide) (Nat.le_add_right _ _))) rfl (da_cons (de_var (i := 0)) (da_cons (de_var (i := 1)) da_nil))))
  (dss_one (ds_expr (de_append (de_var (i := 4)) (de_callTy cd_tuple rfl bt.tuple (by decide +kernel) (da_cons (de_callB ((cl_sorted hr)).toD rfl bt.sorted (by decide +kernel) (da_cons (de_slice (de_var (i := 3)) (do_some (de_var (i := 6))) (do_some (de_op od_add (de_op od_add (de_var (i := 6)) de_int) (de_callC C__law_next (hr.less (by first | exact Nat.le_refl _ | decide | exact Nat.le_trans (by decide) (Nat.le_add_right _ _))) rfl (da_cons (de_var (i := 0)) (da_cons (de_var (i := 1)) da_nil)))))) da_nil)) da_nil)))))))
  (dss_one (ds_ret (de_tup (da_cons (de_var (i := 1)) (da_cons (de_callTy cd_tuple rfl bt.tuple (by decide +kernel) (da_cons (de_var (i := 4)) da_nil)) da_nil)))))))
abbrev s__law_around : Stmt := top 15
theorem S__law_around : FnScope ["deck", "demands", "offers", "order", "size", "found", "k"] ["deck", "demands", "offers"] (defScope s__law_around) := ⟨rfl, rfl, rfl, by decide +kernel, rfl, by decide +kernel, by decide +kernel⟩
theorem ok__law_around {P : Program} {w : World} {K : PySem.W.Frag} {mg : Str → Option Value} {base : Heap} (bt : Bt mg) (C__law_shuffled : Cl P w K mg base 2 "_law_shuffled" 2 d__law_shuffled) (C__law_next : Cl P w K mg base 1 "_law_next" 2 d__law_next) (C__law_part : Cl P w K mg base 2 "_law_part" 3 d__law_part) {f : Addr} {fd : FuncData} (F : Fun K "_law_around" "_law_around" s__law_around f fd) : FnG P w K mg base 3 f fd ["deck", "demands", "offers"] (spD K 3 d__law_around) :=
  fn_ok F S__law_around fun cdv A outer s H E hr =>
  (dss_cons (ds_par (i := 3) (j := 4) rfl S__law_around.nd (da_cons (de_callC C__law_shuffled (hr.less (by first | exact Nat.le_refl _ | decide | exact Nat.le_trans (by decide) (Nat.le_add_right _ _))) rfl (da_cons (de_var (i := 0)) (da_cons (de_var (i := 1)) da_nil))) (da_cons (de_op od_add de_int (de_callC C__law_next (hr.less (by first | exact Nat.le_refl _ | decide | exact Nat.le_trans (by decide) (Nat.le_add_right _ _))) rfl (da_cons (de_var (i := 0)) (da_cons de_int da_nil)))) da_nil)))
  (dss_cons (ds_set (i := 5) S__law_around.nd (de_lstB da_nil))
  (dss_cons (ds_for rfl (ds_range1 rfl bt.range (da_cons (de_var (i := 2)) da_nil)) (di_name (i := 6) S__law_around.nd) (dss_one (ds_if (dw_pt (dw_and (dt_cmp (od_le hr) (de_var (i := 4)) (de_var (i := 1))) (dw_and1 (dt_cmp (od_lt hr) (de_var (i := 6)) (de_var (i := 4)))))) (dss_one (ds_expr (de_append (de_var (i := 5)) (de_callTy cd_tuple rfl bt.tuple (by decide +kernel) (da_cons (de_callB ((cl_sorted hr)).toD rfl bt.sorted (by decide +kernel) (da_cons (de_op od_add (de_lst (da_cons (de_ix hr (de_var (i := 3)) (de_var (i := 6))) (da_cons (de_ix hr (de_var (i := 3)) (de_op od_mod (de_op od_add (de_var (i := 6)) de_int) (de_var (i := 4)))) da_nil))) (de_callTy (cl_list).toD rfl bt.list (by decide +kernel) (da_cons (de_callC C__law_part (hr.less (by first | exact Nat.le_refl _ | decide | exact Nat.le_trans (by decide) (Nat.le_add_right _ _))) rfl (da_cons (de_var (i := 0)) (da_cons (de_slice (de_var (i := 3)) (do_some (de_var (i := 4))) do_none) (da_cons de_int da_nil)))) da_nil))) da_nil)) da_nil))))) (dss_one (ds_expr (de_append (de_var (i := 5)) (de_callC C__law_part (hr.less (by first | exact Nat.le_refl _ | decide | exact Nat.le_trans (by decide) (Nat.le_add_right _ _))) rfl (da_cons (de_var (i := 0)) (da_cons (de_listR1 rfl rfl bt.list rfl bt.range (da_cons (de_var (i := 1)) da_nil)) (da_cons (de_op od_add de_int (de_callC C__law_next (hr.less (by first | exact Nat.le_refl _ | decide | exact Nat.le_trans (by decide) (Nat.le_add_right _ _))) rfl (da_cons (de_var (i := 0)) (da_cons de_int da_nil)))) da_nil))))))))))
  (dss_one (ds_ret (de_tup (da_cons (de_var (i := 1)) (da_cons (de_callTy cd_tuple rfl bt.tuple (by decide +kernel) (da_cons (de_comp (own := [("k", 6)]) rfl S__law_around.nd (ds_range1 rfl bt.range (da_cons (de_var (i := 2)) da_nil)) (by rfl) (fun _ _ _ _ _ => (di_name (i := 6) S__law_around.nd)) (fun _ _ _ _ _ => dts_nil) (fun _ _ _ _ _ => (de_popAt (de_var (i := 5)) (de_callC C__law_next (hr.less (by first | exact Nat.le_refl _ | decide | exact Nat.le_trans (by decide) (Nat.le_add_right _ _))) rfl (da_cons (de_var (i := 0)) (da_cons (de_callB cd_len rfl bt.len (by decide +kernel) (da_cons (de_var (i := 5)) da_nil)) da_nil)))))) da_nil)) da_nil))))))))
abbrev s__law_any : Stmt := top 16
theorem S__law_any : FnScope ["deck", "demands", "offers", "share", "found", "k"] ["deck", "demands", "offers"] (defScope s__law_any) := ⟨rfl, rfl, rfl, by decide +kernel, rfl, by decide +kernel, by decide +kernel⟩
theorem ok__law_any {P : Program} {w : World} {K : PySem.W.Frag} {mg : Str → Option Value} {base : Heap} (bt : Bt mg) (C__law_next : Cl P w K mg base 1 "_law_next" 2 d__law_next) (C__law_one : Cl P w K mg base 2 "_law_one" 2 d__law_one) (C__law_part : Cl P w K mg base 2 "_law_part" 3 d__law_part) {f : Addr} {fd : FuncData} (F : Fun K "_law_any" "_law_any" s__law_any f fd) : FnG P w K mg base 3 f fd ["deck", "demands", "offers"] (spD K 3 d__law_any) :=
  fn_ok F S__law_any fun cdv A outer s H E hr =>
  (dss_cons (ds_par (i := 3) (j := 4) rfl S__law_any.nd (da_cons (de_callC C__law_next (hr.less (by first | exact Nat.le_refl _ | decide | exact Nat.le_trans (by decide) (Nat.le_add_right _ _))) rfl (da_cons (de_var (i := 0)) (da_cons de_int da_nil))) (da_cons (de_lstB da_nil) da_nil)))
  (dss_cons (ds_for rfl (ds_range1 rfl bt.range (da_cons (de_var (i := 2)) da_nil)) (di_name (i := 5) S__law_any.nd) (dss_one (ds_if (dw_pt (dw_and (dt_cmp (od_ne hr) (de_var (i := 4)) (de_lst da_nil)) (dw_and1 (dt_cmp (od_eq hr) (de_callC C__law_next (hr.less (by first | exact Nat.le_refl _ | decide | exact Nat.le_trans (by decide) (Nat.le_add_right _ _))) rfl (da_cons (de_var (i := 0)) (da_cons de_int da_nil))) de_int)))) (dss_one (ds_expr (de_append (de_var (i := 4)) (de_callC C__law_one (hr.less (by first | exact Nat.le_refl _ | decide | exact Nat.le_trans (by decide) (Nat.le_add_right _ _))) rfl (da_cons (de_var (i := 0)) (da_cons (de_var (i := 4)) da_nil)))))) (dss_one (ds_expr (de_append (de_var (i := 4)) (de_callC C__law_part (hr.less (by first | exact Nat.le_refl _ | decide | exact Nat.le_trans (by decide) (Nat.le_add_right _ _))) rfl (da_cons (de_var (i := 0)) (da_cons (de_listR1 rfl rfl bt.list rfl bt.range (da_cons (de_var (i := 1)) da_nil)) (da_cons (de_var (i := 3)) da_nil))))))))))
  (dss_one (ds_ret (de_tup (da_cons (de_var (i := 1)) (da_cons (de_callTy cd_tuple rfl bt.tuple (by decide +kernel) (da_cons (de_var (i := 4)) da_nil)) da_nil)))))))
abbrev s__law_table : Stmt := top 17
theorem S__law_table : FnScope ["deck", "demands", "offers", "way"] ["deck", "demands", "offers"] (defScope s__law_table) := ⟨rfl, rfl, rfl, by decide +kernel, rfl, by decide +kernel, by decide +kernel⟩
theorem ok__law_table {P : Program} {w : World} {K : PySem.W.Frag} {mg : Str → Option Value} {base : Heap} (bt : Bt mg) (C__law_next : Cl P w K mg base 1 "_law_next" 2 d__law_next) (C__law_intervals : Cl P w K mg base 3 "_law_intervals" 3 d__law_intervals) (C__law_around : Cl P w K mg base 3 "_law_around" 3 d__law_around) (C__law_any : Cl P w K mg base 3 "_law_any" 3 d__law_any) {f : Addr} {fd : FuncData} (F : Fun K "_law_table" "_law_table" s__law_table f fd) : FnG P w K mg base 4 f fd ["deck", "demands", "offers"] (spD K 3 d__law_table) :=
  fn_ok F S__law_table fun cdv A outer s H E hr =>
  (dss_cons (ds_par (i := 1) (j := 2) rfl S__law_table.nd (da_cons (de_op od_add de_int (de_callC C__law_next (hr.less (by first | exact Nat.le_refl _ | decide | exact Nat.le_trans (by decide) (Nat.le_add_right _ _))) rfl (da_cons (de_var (i := 0)) (da_cons (de_var (i := 1)) da_nil)))) (da_cons (de_callC C__law_next (hr.less (by first | exact Nat.le_refl _ | decide | exact Nat.le_trans (by decide) (Nat.le_add_right _ _))) rfl (da_cons (de_var (i := 0)) (da_cons (de_op od_add (de_var (i := 2)) de_int) da_nil))) da_nil)))
  (dss_cons (ds_set (i := 3) S__law_table.nd (de_callC C__law_next (hr.less (by first | exact Nat.le_refl _ | decide | exact Nat.le_trans (by decide) (Nat.le_add_right _ _))) rfl (da_cons (de_var (i := 0)) (da_cons de_int da_nil))))
  (dss_cons (ds_if (dt_cmp (od_lt hr) (de_var (i := 3)) de_int) (dss_one (ds_ret (de_callC C__law_intervals (hr.less (by first | exact Nat.le_refl _ | decide | exact Nat.le_trans (by decide) (Nat.le_add_right _ _))) rfl (da_cons (de_var (i := 0)) (da_cons (de_var (i := 1)) (da_cons (de_var (i := 2)) da_nil)))))) dss_nil)
  (dss_one (ds_ret (de_if (dt_cmp (od_eq hr) (de_var (i := 3)) de_int) (de_callC C__law_around (hr.less (by first | exact Nat.le_refl _ | decide | exact Nat.le_trans (by decide) (Nat.le_add_right _ _))) rfl (da_cons (de_var (i := 0)) (da_cons (de_var (i := 1)) (da_cons (de_var (i := 2)) da_nil)))) (de_callC C__law_any (hr.less (by first | exact Nat.le_refl _ | decide | exact Nat.le_trans (by decide) (Nat.le_add_right _ _))) rfl (da_cons (de_var (i := 0)) (da_cons (de_var (i := 1)) (da_cons (de_var (i := 2)) da_nil))))))))))
abbrev s__law_amount : Stmt := top 18
theorem S__law_amount : FnScope ["deck"] ["deck"] (defScope s__law_amount) := ⟨rfl, rfl, rfl, by decide +kernel, rfl, by decide +kernel, by decide +kernel⟩
theorem ok__law_amount {P : Program} {w : World} {K : PySem.W.Frag} {mg : Str → Option Value} {base : Heap} (bt : Bt mg) (C__law_next : Cl P w K mg base 1 "_law_next" 2 d__law_next) {f : Addr} {fd : FuncData} (F : Fun K "_law_amount" "_law_amount" s__law_amount f fd) : FnG P w K mg base 2 f fd ["deck"] (spD K 1 d__law_amount) :=
  fn_ok F S__law_amount fun cdv A outer s H E hr =>
  (dss_one (ds_ret (de_ix hr (de_lst (da_cons de_int (da_cons de_int (da_cons (de_callC C__law_next (hr.less (by first | exact Nat.le_refl _ | decide | exact Nat.le_trans (by decide) (Nat.le_add_right _ _))) rfl (da_cons (de_var (i := 0)) (da_cons de_int da_nil))) (da_cons (de_callC C__law_next (hr.less (by first | exact Nat.le_refl _ | decide | exact Nat.le_trans (by decide) (Nat.le_add_right _ _))) rfl (da_cons (de_var (i := 0)) (da_cons de_int da_nil))) (da_cons (de_callC C__law_next (hr.less (by first | exact Nat.le_refl _ | decide | exact Nat.le_trans (by decide) (Nat.le_add_right _ _))) rfl (da_cons (de_var (i := 0)) (da_cons (de_op od_add (de_op od_pow de_int de_int) de_int) da_nil))) (da_cons (de_op od_pow de_int de_int) da_nil))))))) (de_callC C__law_next (hr.less (by first | exact Nat.le_refl _ | decide | exact Nat.le_trans (by decide) (Nat.le_add_right _ _))) rfl (da_cons (de_var (i := 0)) (da_cons de_int da_nil))))))
abbrev s__law_data : Stmt := top 19
theorem S__law_data : FnScope ["deck", "table", "few", "count", "found", "k"] ["deck", "table"] (defScope s__law_data) := ⟨rfl, rfl, rfl, by decide +kernel, rfl, by decide +kernel, by decide +kernel⟩
theorem ok__law_data {P : Program} {w : World} {K : PySem.W.Frag} {mg : Str → Option Value} {base : Heap} (bt : Bt mg) (C__law_next : Cl P w K mg base 1 "_law_next" 2 d__law_next) (C__law_amount : Cl P w K mg base 2 "_law_amount" 1 d__law_amount) {f : Addr} {fd : FuncData} (F : Fun K "_law_data" "_law_data" s__law_data f fd) : FnG P w K mg base 3 f fd ["deck", "table"] (spD K 2 d__law_data) :=
  fn_ok F S__law_data fun cdv A outer s H E hr =>
  (dss_cons (ds_set (i := 2) S__law_data.nd (de_ix hr (de_lst (da_cons de_int (da_cons de_int (da_cons de_int da_nil)))) (de_callC C__law_next (hr.less (by first | exact Nat.le_refl _ | decide | exact Nat.le_trans (by decide) (Nat.le_add_right _ _))) rfl (da_cons (de_var (i := 0)) (da_cons de_int da_nil)))))
  (dss_cons (ds_set (i := 3) S__law_data.nd (de_op od_add (de_ix hr (de_var (i := 1)) de_int) (de_callB cd_len rfl bt.len (by decide +kernel) (da_cons (de_ix hr (de_var (i := 1)) de_int) da_nil))))
  (dss_cons (ds_setComp (i := 4) (own := [("k", 5)]) rfl S__law_data.nd (ds_range1 rfl bt.range (da_cons (de_var (i := 3)) da_nil)) (by rfl) (fun _ _ _ _ _ => (di_name (i := 5) S__law_data.nd)) (fun _ _ _ _ _ => dts_nil) (fun _ _ _ _ _ => (de_callC C__law_next (hr.less (by first | exact Nat.le_refl _ | decide | exact Nat.le_trans (by decide) (Nat.le_add_right _ _))) rfl (da_cons (de_var (i := 0)) (da_cons (de_op od_add (de_var (i := 2)) de_int) da_nil)))) rfl (by decide +kernel))
  (dss_cons (ds_if (dt_cmp (od_eq hr) (de_var (i := 2)) de_int) (dss_one (ds_setComp (i := 4) (own := [("k", 5)]) rfl S__law_data.nd (ds_range1 rfl bt.range (da_cons (de_var (i := 3)) da_nil)) (by rfl) (fun _ _ _ _ _ => (di_name (i := 5) S__law_data.nd)) (fun _ _ _ _ _ => dts_nil) (fun _ _ _ _ _ => (de_callC C__law_amount (hr.less (by first | exact Nat.le_refl _ | decide | exact Nat.le_trans (by decide) (Nat.le_add_right _ _))) rfl (da_cons (de_var (i := 0)) da_nil))) rfl (by decide +kernel))) dss_nil)
  (dss_one (ds_ret (de_tup (da_cons (de_callTy cd_tuple rfl bt.tuple (by decide +kernel) (da_cons (de_slice (de_var (i := 4)) (do_some (de_ix hr (de_var (i := 1)) de_int)) do_none) da_nil)) (da_cons (de_callTy cd_tuple rfl bt.tuple (by decide +kernel) (da_cons (de_slice (de_var (i := 4)) do_none (do_some (de_ix hr (de_var (i := 1)) de_int))) da_nil)) da_nil)))))))))
abbrev s__law_payments : Stmt := top 20
theorem S__law_payments : FnScope ["table", "prices", "penalties", "order", "left", "found", "demand", "some", "k", "offer"] ["table", "prices", "penalties", "order"] (defScope s__law_payments) := ⟨rfl, rfl, rfl, by decide +kernel, rfl, by decide +kernel, by decide +kernel⟩
theorem ok__law_payments {P : Program} {w : World} {K : PySem.W.Frag} {mg : Str → Option Value} {base : Heap} (bt : Bt mg) {f : Addr} {fd : FuncData} (F : Fun K "_law_payments" "_law_payments" s__law_payments f fd) : FnG P w K mg base 1 f fd ["table", "prices", "penalties", "order"] (spD K 4 d__law_payments) :=
  fn_ok F S__law_payments fun cdv A outer s H E hr =>
  (dss_cons (ds_many rfl (da_cons (de_callLTy cl_list rfl bt.list (by decide +kernel) (da_cons (de_var (i := 1)) da_nil)) (da_cons (de_opB ol_rep (de_lst (da_cons de_int da_nil)) (de_ix hr (de_var (i := 0)) de_int)) da_nil)) (dps_cons (dp_name (i := 4) S__law_payments.nd) (dps_cons (dp_name (i := 5) S__law_payments.nd) dps_nil)))
  (dss_cons (ds_for rfl (ds_seq (de_var (i := 3))) (di_name (i := 6) S__law_payments.nd) (dss_cons (ds_setComp (i := 7) (own := [("k", 8), ("offer", 9)]) rfl S__law_payments.nd (ds_enum rfl bt.enumerate (da_cons (de_ix hr (de_var (i := 0)) de_int) da_nil)) (by rfl) (fun _ _ _ _ _ => (di_tup rfl (dps_cons (dp_name (i := 8) S__law_payments.nd) (dps_cons (dp_name (i := 9) S__law_payments.nd) dps_nil)))) (fun _ _ _ _ _ => (dts_one (dt_cmp (od_in hr) (de_var (i := 6)) (de_var (i := 9))))) (fun _ _ _ _ _ => (de_var (i := 8))) rfl (by decide +kernel))
  (dss_cons (ds_asg (de_callB (cd_min rfl) rfl bt.min (by decide +kernel) (da_cons (de_op od_add (de_lst (da_cons (de_ix hr (de_var (i := 2)) (de_var (i := 6))) da_nil)) (de_comp (own := [("k", 8)]) rfl S__law_payments.nd (ds_seq (de_var (i := 7))) (by rfl) (fun _ _ _ _ _ => (di_name (i := 8) S__law_payments.nd)) (fun _ _ _ _ _ => dts_nil) (fun _ _ _ _ _ => (de_ix hr (de_var (i := 4)) (de_var (i := 8)))))) da_nil)) (dg_sub hr (de_var (i := 5)) (de_var (i := 6))))
  (dss_one (ds_for rfl (ds_seq (de_var (i := 7))) (di_name (i := 8) S__law_payments.nd) (dss_one (ds_asg (de_op od_sub (de_ix hr (de_var (i := 4)) (de_var (i := 8))) (de_ix hr (de_var (i := 5)) (de_var (i := 6)))) (dg_sub hr (de_var (i := 4)) (de_var (i := 8))))))))))
  (dss_one (ds_ret (de_callTy cd_tuple rfl bt.tuple (by decide +kernel) (da_cons (de_var (i := 5)) da_nil))))))
abbrev s__law_is_collection : Stmt := top 21
theorem S__law_is_collection : FnScope ["table", "prices", "penalties", "thing", "d", "own", "k", "offer", "one"] ["table", "prices", "penalties", "thing"] (defScope s__law_is_collection) := ⟨rfl, rfl, rfl, by decide +kernel, rfl, by decide +kernel, by decide +kernel⟩
theorem ok__law_is_collection {P : Program} {w : World} {K : PySem.W.Frag} {mg : Str → Option Value} {base : Heap} (bt : Bt mg) (C__law_whole : Cl P w K mg base 1 "_law_whole" 1 d__law_whole) {f : Addr} {fd : FuncData} (F : Fun K "_law_is_collection" "_law_is_collection" s__law_is_collection f fd) : FnG P w K mg base 2 f fd ["table", "prices", "penalties", "thing"] (spD K 4 d__law_is_collection) :=
  fn_ok F S__law_is_collection fun cdv A outer s H E hr =>
  (dss_cons (ds_if (dw_pt (dw_or (dt_not (dt_val (de_isi rfl bt.isinstance rfl bt.tuple (by decide +kernel) (by decide) (by decide) (de_var (i := 3))))) (dw_or (dt_cmp (od_ne hr) (de_callB cd_len rfl bt.len (by decide +kernel) (da_cons (de_var (i := 3)) da_nil)) (de_ix hr (de_var (i := 0)) de_int)) (dw_or1 (dt_cmp (od_ne hr) (de_comp (own := [("one", 8)]) rfl S__law_is_collection.nd (ds_seq (de_var (i := 3))) (by rfl) (fun _ _ _ _ _ => (di_name (i := 8) S__law_is_collection.nd)) (fun _ _ _ _ _ => (dts_one (dt_not (dt_val (de_callC C__law_whole (hr.less (by first | exact Nat.le_refl _ | decide | exact Nat.le_trans (by decide) (Nat.le_add_right _ _))) rfl (da_cons (de_var (i := 8)) da_nil)))))) (fun _ _ _ _ _ => (de_var (i := 8)))) (de_lst da_nil)))))) (dss_one (ds_ret de_bl)) dss_nil)
  (dss_cons (ds_if (dt_cmp (od_ne hr) (de_comp (own := [("d", 4), ("own", 5)]) rfl S__law_is_collection.nd (ds_enum rfl bt.enumerate (da_cons (de_var (i := 3)) da_nil)) (by rfl) (fun _ _ _ _ _ => (di_tup rfl (dps_cons (dp_name (i := 4) S__law_is_collection.nd) (dps_cons (dp_name (i := 5) S__law_is_collection.nd) dps_nil)))) (fun _ _ _ _ _ => (dts_one (dt_not (dt_chain (od_le hr) (od_le hr) de_int (de_var (i := 5)) (de_ix hr (de_var (i := 2)) (de_var (i := 4))))))) (fun _ _ _ _ _ => (de_var (i := 4)))) (de_lst da_nil)) (dss_one (ds_ret de_bl)) dss_nil)
  (dss_one (ds_ret (de_cmp (od_eq hr) (de_comp (own := [("k", 6), ("offer", 7)]) rfl S__law_is_collection.nd (ds_enum rfl bt.enumerate (da_cons (de_ix hr (de_var (i := 0)) de_int) da_nil)) (by rfl) (fun _ _ _ _ _ => (di_tup rfl (dps_cons (dp_name (i := 6) S__law_is_collection.nd) (dps_cons (dp_name (i := 7) S__law_is_collection.nd) dps_nil)))) (fun _ _ _ _ _ => (dts_one (dt_cmp (od_gt hr) (de_callB (cd_sum rfl) rfl bt.sum (by decide +kernel) (da_cons (de_comp (own := [("d", 4)]) rfl S__law_is_collection.nd (ds_seq (de_var (i := 7))) (by rfl) (fun _ _ _ _ _ => (di_name (i := 4) S__law_is_collection.nd)) (fun _ _ _ _ _ => dts_nil) (fun _ _ _ _ _ => (de_ix hr (de_var (i := 3)) (de_var (i := 4))))) da_nil)) (de_ix hr (de_var (i := 1)) (de_var (i := 6)))))) (fun _ _ _ _ _ => (de_var (i := 6)))) (de_lst da_nil))))))
abbrev s__law_values : Stmt := top 22
theorem S__law_values : FnScope ["deck", "table", "prices", "penalties", "paid", "spot", "more", "less", "odd", "some", "k", "once", "own"] ["deck", "table", "prices", "penalties"] (defScope s__law_values) := ⟨rfl, rfl, rfl, by decide +kernel, rfl, by decide +kernel, by decide +kernel⟩
def b__law_values : Sx := sCons (sSet 4 (eFn 4 (d__law_payments) (aCons (eVar 1) (aCons (eVar 2) (aCons (eVar 3) (aCons (eFn 2 (d__law_shuffled) (aCons (eVar 0) (aCons (eIx (eVar 1) (eC (.int 0))) (aNil)))) (aNil)))))))
  (sCons (sSet 5 (eFn 2 (d__law_next) (aCons (eVar 0) (aCons (eIx (eVar 1) (eC (.int 0))) (aNil)))))
  (sCons (sSet 6 (e2 gAdd (e2 gAdd (eSl (eVar 4) oNone (oSome (eVar 5))) (eTup (aCons (e2 gAdd (eIx (eVar 4) (eVar 5)) (eC (.int 1))) (aNil)))) (eSl (eVar 4) (oSome (e2 gAdd (eVar 5) (eC (.int 1)))) oNone)))
  (sCons (sSet 7 (eCall bTuple (aCons (eComp [12] (srcS (eVar 4)) (.nm 12) (tTrue) (eFn 2 (d__law_next) (aCons (eVar 0) (aCons (e2 gAdd (eVar 12) (eC (.int 1))) (aNil))))) (aNil))))
  (sCons (sSet 8 (eCall bTuple (aCons (eComp [12] (srcS (eVar 4)) (.nm 12) (tTrue) (eIf (tE (e2 gLt (eVar 12) (eC (.int 2)))) (e2 gEq (eVar 12) (eC (.int 1))) (eVar 12))) (aNil))))
  (sCons (sSet 9 (eLst (aCons (eVar 4) (aCons (eVar 7) (aCons (eVar 6) (aCons (eVar 8) (aCons (eVar 3) (aCons (eSl (eVar 4) oNone (oSome (e1 gNeg (eC (.int 1))))) (aCons (e2 gAdd (eVar 4) (eTup (aCons (eC (.int 0)) (aNil)))) (aCons (eCall (lst1 bList) (aCons (eVar 4) (aNil))) (aCons (e2 gMul (eTup (aCons (e1 gNeg (eC (.int 1))) (aNil))) (eIx (eVar 1) (eC (.int 0)))) (aNil))))))))))))
  (sCons (sFor (srcR1 (aCons (eC (.int 3)) (aNil))) (.nm 10) (sCons (sSet 11 (eFn 3 (d__law_bent RD) (aCons (eVar 0) (aCons (eVar 4) (aCons (eC (.int 2)) (aNil))))))
  (sSet 9 (e2 gAdd (eVar 9) (eLst (aCons (eVar 11) (aCons (eFn 3 (d__law_bent RD) (aCons (eVar 0) (aCons (eVar 11) (aCons (eC (.int 2)) (aNil))))) (aNil))))))))
  (sRet (e2 gAdd (eVar 9) (eLst (aCons (eFn 1 (d__law_odd) (aCons (eVar 0) (aNil))) (aNil)))))))))))
def d__law_values : Den := fnF 4 13 b__law_values
theorem ok__law_values {P : Program} {w : World} {K : PySem.W.Frag} {mg : Str → Option Value} {base : Heap} (bt : Bt mg) (C__law_payments : Cl P w K mg base 1 "_law_payments" 4 d__law_payments) (C__law_next : Cl P w K mg base 1 "_law_next" 2 d__law_next) (C__law_shuffled : Cl P w K mg base 2 "_law_shuffled" 2 d__law_shuffled) (C__law_bent : Cl P w K mg base 43 "_law_bent" 3 (d__law_bent RD)) (C__law_odd : Cl P w K mg base 2 "_law_odd" 1 d__law_odd) {f : Addr} {fd : FuncData} (F : Fun K "_law_values" "_law_values" s__law_values f fd) : FnG P w K mg base 44 f fd ["deck", "table", "prices", "penalties"] (spD K 4 d__law_values) :=
  fn_ok F S__law_values fun cdv A outer s H E hr =>
  (dss_cons (ds_set (i := 4) S__law_values.nd (de_callC C__law_payments (hr.less (by first | exact Nat.le_refl _ | decide | exact Nat.le_trans (by decide) (Nat.le_add_right _ _))) rfl (da_cons (de_var (i := 1)) (da_cons (de_var (i := 2)) (da_cons (de_var (i := 3)) (da_cons (de_callC C__law_shuffled (hr.less (by first | exact Nat.le_refl _ | decide | exact Nat.le_trans (by decide) (Nat.le_add_right _ _))) rfl (da_cons (de_var (i := 0)) (da_cons (de_ix hr (de_var (i := 1)) de_int) da_nil))) da_nil))))))
  (dss_cons (ds_set (i := 5) S__law_values.nd (de_callC C__law_next (hr.less (by first | exact Nat.le_refl _ | decide | exact Nat.le_trans (by decide) (Nat.le_add_right _ _))) rfl (da_cons (de_var (i := 0)) (da_cons (de_ix hr (de_var (i := 1)) de_int) da_nil))))
  (dss_cons (ds_set (i := 6) S__law_values.nd (de_op od_add (de_op od_add (de_slice (de_var (i := 4)) do_none (do_some (de_var (i := 5)))) (de_tup (da_cons (de_op od_add (de_ix hr (de_var (i := 4)) (de_var (i := 5))) de_int) da_nil))) (de_slice (de_var (i := 4)) (do_some (de_op od_add (de_var (i := 5)) de_int)) do_none)))
  (dss_cons (ds_set (i := 7) S__law_values.nd (de_callTy cd_tuple rfl bt.tuple (by decide +kernel) (da_cons (de_comp (own := [("own", 12)]) rfl S__law_values.nd (ds_seq (de_var (i := 4))) (by rfl) (fun _ _ _ _ _ => (di_name (i := 12) S__law_values.nd)) (fun _ _ _ _ _ => dts_nil) (fun _ _ _ _ _ => (de_callC C__law_next (hr.less (by first | exact Nat.le_refl _ | decide | exact Nat.le_trans (by decide) (Nat.le_add_right _ _))) rfl (da_cons (de_var (i := 0)) (da_cons (de_op od_add (de_var (i := 12)) de_int) da_nil))))) da_nil)))
  (dss_cons (ds_set (i := 8) S__law_values.nd (de_callTy cd_tuple rfl bt.tuple (by decide +kernel) (da_cons (de_comp (own := [("own", 12)]) rfl S__law_values.nd (ds_seq (de_var (i := 4))) (by rfl) (fun _ _ _ _ _ => (di_name (i := 12) S__law_values.nd)) (fun _ _ _ _ _ => dts_nil) (fun _ _ _ _ _ => (de_if (dt_cmp (od_lt hr) (de_var (i := 12)) de_int) (de_cmp (od_eq hr) (de_var (i := 12)) de_int) (de_var (i := 12))))) da_nil)))
  (dss_cons (ds_set (i := 9) S__law_values.nd (de_lst (da_cons (de_var (i := 4)) (da_cons (de_var (i := 7)) (da_cons (de_var (i := 6)) (da_cons (de_var (i := 8)) (da_cons (de_var (i := 3)) (da_cons (de_slice (de_var (i := 4)) do_none (do_some (de_neg de_int))) (da_cons (de_op od_add (de_var (i := 4)) (de_tup (da_cons de_int da_nil))) (da_cons (de_callTy (cl_list).toD rfl bt.list (by decide +kernel) (da_cons (de_var (i := 4)) da_nil)) (da_cons (de_op od_mul (de_tup (da_cons (de_neg de_int) da_nil)) (de_ix hr (de_var (i := 1)) de_int)) da_nil)))))))))))
  (dss_cons (ds_for rfl (ds_range1 rfl bt.range (da_cons de_int da_nil)) (di_name (i := 10) S__law_values.nd) (dss_cons (ds_set (i := 11) S__law_values.nd (de_callC C__law_bent (hr.less (by first | exact Nat.le_refl _ | decide | exact Nat.le_trans (by decide) (Nat.le_add_right _ _))) rfl (da_cons (de_var (i := 0)) (da_cons (de_var (i := 4)) (da_cons de_int da_nil)))))
  (dss_one (ds_set (i := 9) S__law_values.nd (de_op od_add (de_var (i := 9)) (de_lst (da_cons (de_var (i := 11)) (da_cons (de_callC C__law_bent (hr.less (by first | exact Nat.le_refl _ | decide | exact Nat.le_trans (by decide) (Nat.le_add_right _ _))) rfl (da_cons (de_var (i := 0)) (da_cons (de_var (i := 11)) (da_cons de_int da_nil)))) da_nil))))))))
  (dss_one (ds_ret (de_op od_add (de_var (i := 9)) (de_lst (da_cons (de_callC C__law_odd (hr.less (by first | exact Nat.le_refl _ | decide | exact Nat.le_trans (by decide) (Nat.le_add_right _ _))) rfl (da_cons (de_var (i := 0)) da_nil)) da_nil))))))))))))
abbrev s_law : Stmt := top 23
theorem S_law : FnScope ["script", "deck", "turn", "table", "prices", "penalties", "value", "kept", "due"] ["script"] (defScope s_law) := ⟨rfl, rfl, rfl, by decide +kernel, rfl, by decide +kernel, by decide +kernel⟩
def b_law : Sx := sCons (sSet 1 (eFn 1 (d__law_deck) (aCons (eVar 0) (aNil))))
  (sCons (sFor (srcR1 (aCons (eC (.int 6)) (aNil))) (.nm 2) (sCons (sSet 3 (eFn 3 (d__law_table) (aCons (eVar 1) (aCons (eC (.int 10)) (aCons (eC (.int 10)) (aNil))))))
  (sCons (sAsg (eFn 2 (d__law_data) (aCons (eVar 1) (aCons (eVar 3) (aNil)))) (gPat (.tp [.nm 4, .nm 5])))
  (sFor (srcS (eFn 4 (d__law_values) (aCons (eVar 1) (aCons (eVar 3) (aCons (eVar 4) (aCons (eVar 5) (aNil))))))) (.nm 6) (sCons (sSet 7 (eCall bReprA (aCons (eLst (aCons (eVar 3) (aCons (eVar 4) (aCons (eVar 5) (aCons (eVar 6) (aNil)))))) (aNil))))
  (sCons (sSet 8 (eFn 4 (d__law_is_collection) (aCons (eVar 3) (aCons (eVar 4) (aCons (eVar 5) (aCons (eVar 6) (aNil)))))))
  (sCons (sIf (tNotD (tE (eFn 2 (d__law_same RD) (aCons (eFn 4 (d_is_collection) (aCons (eVar 3) (aCons (eVar 4) (aCons (eVar 5) (aCons (eVar 6) (aNil)))))) (aCons (eVar 8) (aNil)))))) (sRet (eC (.bl false))) (sNil))
  (sIf (tE (e2 gNe (eCall bReprA (aCons (eLst (aCons (eVar 3) (aCons (eVar 4) (aCons (eVar 5) (aCons (eVar 6) (aNil)))))) (aNil))) (eVar 7))) (sRet (eC (.bl false))) (sNil)))))))))
  (sRet (eC (.bl true))))
def d_law : Den := fnF 1 9 b_law
theorem ok_law {P : Program} {w : World} {K : PySem.W.Frag} {mg : Str → Option Value} {base : Heap} (bt : Bt mg) (C__law_deck : Cl P w K mg base 1 "_law_deck" 1 d__law_deck) (C__law_table : Cl P w K mg base 4 "_law_table" 3 d__law_table) (C__law_data : Cl P w K mg base 3 "_law_data" 2 d__law_data) (C__law_values : Cl P w K mg base 44 "_law_values" 4 d__law_values) (C__law_is_collection : Cl P w K mg base 2 "_law_is_collection" 4 d__law_is_collection) (C__law_same : Cl P w K mg base 41 "_law_same" 2 (d__law_same RD)) (C_is_collection : Cl P w K mg base 2 "is_collection" 4 d_is_collection) {f : Addr} {fd : FuncData} (F : Fun K "law" "law" s_law f fd) : FnG P w K mg base 45 f fd ["script"] (spD K 1 d_law) :=
  fn_ok F S_law fun cdv A outer s H E hr =>
  (dss_cons (ds_set (i := 1) S_law.nd (de_callC C__law_deck (hr.less (by first | exact Nat.le_refl _ | decide | exact Nat.le_trans (by decide) (Nat.le_add_right _ _))) rfl (da_cons (de_var (i := 0)) da_nil)))
  (dss_cons (ds_for rfl (ds_range1 rfl bt.range (da_cons de_int da_nil)) (di_name (i := 2) S_law.nd) (dss_cons (ds_set (i := 3) S_law.nd (de_callC C__law_table (hr.less (by first | exact Nat.le_refl _ | decide | exact Nat.le_trans (by decide) (Nat.le_add_right _ _))) rfl (da_cons (de_var (i := 1)) (da_cons de_int (da_cons de_int da_nil)))))
  (dss_cons (ds_asg (de_callC C__law_data (hr.less (by first | exact Nat.le_refl _ | decide | exact Nat.le_trans (by decide) (Nat.le_add_right _ _))) rfl (da_cons (de_var (i := 1)) (da_cons (de_var (i := 3)) da_nil))) (dg_pat (dp_tup rfl (dps_cons (dp_name (i := 4) S_law.nd) (dps_cons (dp_name (i := 5) S_law.nd) dps_nil)))))
  (dss_one (ds_for rfl (ds_seq (de_callC C__law_values (hr.less (by first | exact Nat.le_refl _ | decide | exact Nat.le_trans (by decide) (Nat.le_add_right _ _))) rfl (da_cons (de_var (i := 1)) (da_cons (de_var (i := 3)) (da_cons (de_var (i := 4)) (da_cons (de_var (i := 5)) da_nil)))))) (di_name (i := 6) S_law.nd) (dss_cons (ds_set (i := 7) S_law.nd (de_callB (cd_reprA hr) rfl bt.repr (by decide +kernel) (da_cons (de_lst (da_cons (de_var (i := 3)) (da_cons (de_var (i := 4)) (da_cons (de_var (i := 5)) (da_cons (de_var (i := 6)) da_nil))))) da_nil)))
  (dss_cons (ds_set (i := 8) S_law.nd (de_callC C__law_is_collection (hr.less (by first | exact Nat.le_refl _ | decide | exact Nat.le_trans (by decide) (Nat.le_add_right _ _))) rfl (da_cons (de_var (i := 3)) (da_cons (de_var (i := 4)) (da_cons (de_var (i := 5)) (da_cons (de_var (i := 6)) da_nil))))))
  (dss_cons (ds_if (dt_not (dt_val (de_callC C__law_same (hr.less (by first | exact Nat.le_refl _ | decide | exact Nat.le_trans (by decide) (Nat.le_add_right _ _))) rfl (da_cons (de_callC C_is_collection (hr.less (by first | exact Nat.le_refl _ | decide | exact Nat.le_trans (by decide) (Nat.le_add_right _ _))) rfl (da_cons (de_var (i := 3)) (da_cons (de_var (i := 4)) (da_cons (de_var (i := 5)) (da_cons (de_var (i := 6)) da_nil))))) (da_cons (de_var (i := 8)) da_nil))))) (dss_one (ds_ret de_bl)) dss_nil)
  (dss_one (ds_if (dt_cmp (od_ne hr) (de_callB (cd_reprA hr) rfl bt.repr (by decide +kernel) (da_cons (de_lst (da_cons (de_var (i := 3)) (da_cons (de_var (i := 4)) (da_cons (de_var (i := 5)) (da_cons (de_var (i := 6)) da_nil))))) da_nil)) (de_var (i := 7))) (dss_one (ds_ret de_bl)) dss_nil))))))))))
  (dss_one (ds_ret de_bl))))
end K20
namespace K20
open PySem Dl
noncomputable section
def m_law_values (δ0 : Deck) (table : Int × (List (List Int))) (prices : List Int) (penalties : List Int) : Option ((List T) × Deck) :=
  (m_law_shuffled δ0 table.1).bind fun (v1, δ1) =>
  (m_law_payments table prices penalties v1).bind fun v2 =>
  (m_law_next δ1 table.1).bind fun (v3, δ2) =>
  (L2.atI v2 v3).bind fun t1 =>
  (catO (cutL v2 none (some v3)) ([(t1 + (1:Int))])).bind fun t2 =>
  (catO t2 (cutL v2 (some (v3 + (1:Int))) none)).bind fun t3 =>
  (chk (v2.length ≤ 16777216)).bind fun _ =>
  (compS (fun own δ3 =>
    (m_law_next δ3 (own + (1:Int))).bind fun (v4, δ4) =>
    some (some v4, δ4)) v2 δ2).bind fun (ys, δ5) =>
  (chk (v2.length ≤ 16777216)).bind fun _ =>
  (some (v2.map (fun own2 => (cond (decide (own2 < (2:Int))) (T.bl (decide (own2 = (1:Int)))) (T.int own2))))).bind fun odd =>
  (catO v2 ([(0:Int)])).bind fun t4 =>
  (rptO ([(-(1:Int))]) table.1).bind fun t5 =>
  (some ([(eU T.int v2), (eU T.int ys), (eU T.int t3), (eU eA odd), (eU T.int penalties), (eU T.int (cutL v2 none (some (-(1:Int))))), (eU T.int t4), (eL T.int v2), (eU T.int t5)])).bind fun some_ =>
  (chk ((3:Int).natAbs < 4000000000000000000)).bind fun _ =>
  (forO (fun k_ (some_2, δ6) =>
    (m_law_bent RD δ6 (eU T.int v2) (2:Int)).bind fun (v5, δ7) =>
    (m_law_bent RD δ7 v5 (2:Int)).bind fun (v6, δ8) =>
    (catO some_2 ([v5, v6])).bind fun t6 =>
    some (t6, δ8)) (rngL 0 (3:Int)) (some_, δ5)).bind fun (some_3, δ9) =>
  (m_law_odd δ9).bind fun (v7, δ10) =>
  (catO some_3 ([v7])).bind fun t7 =>
  some (t7, δ10)
theorem r_law_values {δ0 δ' : Deck} {table : Int × (List (List Int))} {prices : List Int} {penalties : List Int} {v : List T} (h : m_law_values δ0 table prices penalties = some (v, δ')) : FnD d__law_values [.d, .v (eP2 T.int (eU (eU T.int)) table), .v (eU T.int prices), .t (eU T.int penalties)] δ0 δ' (eL eA v) := by
  refine fnD_mk 4 13 (m := 9) rfl rfl fun Z => ?_
  unfold b__law_values
  unfold m_law_values at h
  replace h := ob h; obtain ⟨⟨v1, δ1⟩, h1, h⟩ := h
  replace h := ob h; obtain ⟨v2, h2, h⟩ := h
  refine js_cons (js_set (j_fnP (ja_cons (j_var rfl) (ja_cons (j_var rfl) (ja_cons (j_var rfl) (ja_cons (j_fnD (ja_cons (j_var rfl) (ja_cons (j_ix (j_var rfl) j_C (ix2_0 (e := T.int) (e' := (eU (eU T.int))) _) rfl rfl) ja_nil)) (r_law_shuffled h1) ⟨rfl, rfl, trivial⟩ rfl) ja_nil)))) (r_law_payments h2) ⟨rfl, rfl, rfl, rfl, trivial⟩ rfl) 4 rfl) ?g32
  replace h := ob h; obtain ⟨⟨v3, δ2⟩, h3, h⟩ := h
  refine js_cons (js_set (j_fnD (ja_cons (j_var rfl) (ja_cons (j_ix (j_var rfl) j_C (ix2_0 (e := T.int) (e' := (eU (eU T.int))) _) rfl rfl) ja_nil)) (r_law_next h3) ⟨rfl, rfl, trivial⟩ rfl) 5 rfl) ?g31
  replace h := ob h; obtain ⟨t1, h4, h⟩ := h
  replace h := ob h; obtain ⟨t2, h5, h⟩ := h
  replace h := ob h; obtain ⟨t3, h6, h⟩ := h
  refine js_cons (js_set (j_e2 (j_e2 (j_sl (j_var rfl) jo_none (jo_some (j_var rfl) rfl) (g_slU (e := T.int) _ _ _) rfl) (j_tup (ja_cons (j_e2 (j_ix (j_var rfl) (j_var rfl) (g_ixU (e := T.int) h4) rfl rfl) j_C g_add rfl rfl) ja_nil) rfl (capOk rfl)) (g_catU (e := T.int) h5) rfl rfl) (j_sl (j_var rfl) (jo_some (j_e2 (j_var rfl) j_C g_add rfl rfl) rfl) jo_none (g_slU (e := T.int) _ _ _) rfl) (g_catU (e := T.int) h6) rfl rfl) 6 rfl) ?g30
  replace h := ob h; obtain ⟨_, h7, h⟩ := h
  replace h := ob h; obtain ⟨⟨ys, δ5⟩, h9, h⟩ := h
  refine js_cons (js_set (j_call (ja_cons (j_compS h9 (chk_ok h7) T.int (fun δ3 => dk δ3 Z) (fun δ3 => [.dk, .vw (eP2 T.int (eU (eU T.int)) table), .vw (eU T.int prices), .tr (eU T.int penalties), .tr (eU T.int v2), .tr (T.int v3), .tr (eU T.int t3), .un, .un, .un, .un, .un, .un]) (fun own δ3 => [.dk, .vw (eP2 T.int (eU (eU T.int)) table), .vw (eU T.int prices), .tr (eU T.int penalties), .tr (eU T.int v2), .tr (T.int v3), .tr (eU T.int t3), .un, .un, .un, .un, .un, .tr (T.int own)]) [12] (src_u T.int v2 (j_var rfl) rfl) (fun _ => same_dk) rfl (by rintro own δ3; exact bi_nm 12) ?g10 (by rintro δ3; rfl)) ja_nil) (g_tupL (e := T.int) _) rfl) 7 rfl) ?g29
  case g10 =>
    rintro own δ3 o s' h
    replace h := ob h; obtain ⟨⟨v4, δ4⟩, h8, h⟩ := h
    obtain ⟨hv, hd⟩ := Prod.mk.inj (Option.some.inj h); subst hv; subst hd
    exact ⟨_, jcb_some jc_true rfl (j_fnD (ja_cons (j_var rfl) (ja_cons (j_e2 (j_var rfl) j_C g_add rfl rfl) ja_nil)) (r_law_next h8) ⟨rfl, rfl, trivial⟩ rfl) rfl, rfl⟩
  replace h := ob h; obtain ⟨_, h11, h⟩ := h
  replace h := ob h; obtain ⟨odd, h13, h⟩ := h
  refine js_cons (js_set (j_call (ja_cons (j_comp (compO_all (fun own2 => (cond (decide (own2 < (2:Int))) (T.bl (decide (own2 = (1:Int)))) (T.int own2))) v2) (chk_ok h11) eA (fun own2 => [.dk, .vw (eP2 T.int (eU (eU T.int)) table), .vw (eU T.int prices), .tr (eU T.int penalties), .tr (eU T.int v2), .tr (T.int v3), .tr (eU T.int t3), .tr (eU T.int ys), .un, .un, .un, .un, .tr (T.int own2)]) [12] [.dk, .vw (eP2 T.int (eU (eU T.int)) table), .vw (eU T.int prices), .tr (eU T.int penalties), .tr (eU T.int v2), .tr (T.int v3), .tr (eU T.int t3), .tr (eU T.int ys), .un, .un, .un, .un, .un] (src_u T.int v2 (j_var rfl) rfl) rfl (by rintro own2; exact bi_nm 12) ?g12 rfl rfl) ja_nil) (g_tupL (e := eA) _) rfl) 8 (sv (eU eA) h13)) ?g28
  case g12 =>
    rintro own2 o h
    have hv := Option.some.inj h; subst hv
    exact ⟨_, jcb_some jc_true rfl (j_ifP (e := eA) (jc_tE (j_e2 (j_var rfl) j_C g_lt rfl rfl) rfl) (j_e2 (j_var rfl) j_C g_eqI rfl rfl) (j_var rfl) rfl rfl) rfl, rfl⟩
  replace h := ob h; obtain ⟨t4, h14, h⟩ := h
  replace h := ob h; obtain ⟨t5, h15, h⟩ := h
  replace h := ob h; obtain ⟨some_, h16, h⟩ := h
  refine js_cons (js_set (j_lst (ja_cons (j_var rfl) (ja_cons (j_var rfl) (ja_cons (j_var rfl) (ja_cons (j_var rfl) (ja_cons (j_var rfl) (ja_cons (j_sl (j_var rfl) jo_none (jo_some (j_e1 j_C g_neg rfl) rfl) (g_slU (e := T.int) _ _ _) rfl) (ja_cons (j_e2 (j_var rfl) (j_tup (ja_cons j_C ja_nil) rfl (capOk rfl)) (g_catU (e := T.int) h14) rfl rfl) (ja_cons (j_call (ja_cons (j_var rfl) ja_nil) (g_lstU (e := T.int) _) rfl) (ja_cons (j_e2 (j_tup (ja_cons (j_e1 j_C g_neg rfl) ja_nil) rfl (capOk rfl)) (j_ix (j_var rfl) j_C (ix2_0 (e := T.int) (e' := (eU (eU T.int))) _) rfl rfl) (g_repU (e := T.int) h15) rfl rfl) ja_nil))))))))) rfl (capOk rfl)) 9 (sv (eL eA) h16)) ?g27
  replace h := ob h; obtain ⟨_, h17, h⟩ := h
  replace h := ob h; obtain ⟨⟨some_3, δ9⟩, h22, h⟩ := h
  refine js_cons (js_for h22 (fun (_, δ6) => dk δ6 Z) (fun (some_2, δ6) => [.dk, .vw (eP2 T.int (eU (eU T.int)) table), .vw (eU T.int prices), .tr (eU T.int penalties), .tr (eU T.int v2), .tr (T.int v3), .tr (eU T.int t3), .tr (eU T.int ys), .tr (eU eA odd), .tr (eL eA some_2), .un, .un, .un]) (fun k_ (some_2, δ6) => [.dk, .vw (eP2 T.int (eU (eU T.int)) table), .vw (eU T.int prices), .tr (eU T.int penalties), .tr (eU T.int v2), .tr (T.int v3), .tr (eU T.int t3), .tr (eU T.int ys), .tr (eU eA odd), .tr (eL eA some_2), .tr (T.int k_), .un, .un]) [10] [10, 11] (src_r1 (ja_cons j_C ja_nil) (chk_ok h17) rfl) (by rintro ⟨some_2, δ6⟩; exact same_dk) rfl (by rintro k_ ⟨some_2, δ6⟩; exact bi_nm 10) ?g23) ?g26
  case g23 =>
    rintro k_ ⟨some_2, δ6⟩ s' h
    replace h := ob h; obtain ⟨⟨v5, δ7⟩, h18, h⟩ := h
    refine js_cons (js_set (j_fnD (ja_cons (j_var rfl) (ja_cons (j_var rfl) (ja_cons j_C ja_nil))) (r_law_bent RD h18) ⟨rfl, rfl, rfl, trivial⟩ rfl) 11 rfl) ?g21
    replace h := ob h; obtain ⟨⟨v6, δ8⟩, h19, h⟩ := h
    replace h := ob h; obtain ⟨t6, h20, h⟩ := h
    have hv := Option.some.inj h; subst hv
    exact js_fin (js_set (j_e2 (j_var rfl) (j_lst (ja_cons (j_var rfl) (ja_cons (j_fnD (ja_cons (j_var rfl) (ja_cons (j_var rfl) (ja_cons j_C ja_nil))) (r_law_bent RD h19) ⟨rfl, rfl, rfl, trivial⟩ rfl) ja_nil)) rfl (capOk rfl)) (g_catL (e := eA) h20) rfl rfl) 9 rfl) rfl
  replace h := ob h; obtain ⟨⟨v7, δ10⟩, h24, h⟩ := h
  replace h := ob h; obtain ⟨t7, h25, h⟩ := h
  obtain ⟨hv, hd⟩ := Prod.mk.inj (Option.some.inj h); subst hv; subst hd
  exact js_ret (j_e2 (j_var rfl) (j_lst (ja_cons (j_fnD (ja_cons (j_var rfl) ja_nil) (r_law_odd h24) ⟨rfl, trivial⟩ rfl) ja_nil) rfl (capOk rfl)) (g_catL (e := eA) h25) rfl rfl) rfl
def m_law (ns : List Int) (δ0 : Deck) : Option (Bool × Deck) :=
  (chk ((6:Int).natAbs < 4000000000000000000)).bind fun _ =>
  (forF (β := Bool × Deck) (fun turn δ1 =>
    (m_law_table δ1 (10:Int) (10:Int)).bind fun (v1, δ2) =>
    (m_law_data δ2 v1).bind fun (v2, δ3) =>
    (some v2).bind fun (prices, penalties) =>
    (m_law_values δ3 v1 prices penalties).bind fun (v3, δ4) =>
    (forF (β := Bool × Deck) (fun value _ =>
      (oRepr (eL eA ([(eP2 T.int (eU (eU T.int)) v1), (eU T.int prices), (eU T.int penalties), value]))).bind fun rep =>
      (m_law_is_collection v1 prices penalties value).bind fun v4 =>
      (m_is_collection v1 prices penalties value).bind fun v5 =>
      (m_law_same RD (T.bl v5) (T.bl v4)).bind fun v6 =>
      cond (!v6) (some (.rt (false, δ4))) (
      (oRepr (eL eA ([(eP2 T.int (eU (eU T.int)) v1), (eU T.int prices), (eU T.int penalties), value]))).bind fun rep2 =>
      cond (!decide (rep2 = rep)) (some (.rt (false, δ4))) (
      some (.nx ())))) v3 ()).bind fun r1 =>
    loK r1 (fun v => some (.rt v)) fun _ =>
    some (.nx δ4)) (rngL 0 (6:Int)) δ0).bind fun r2 =>
  loK r2 (fun v => some v) fun δ5 =>
  some (true, δ5)
theorem r_law {ns : List Int} {δ0 δ' : Deck} {v : Bool} (hd : d__law_deck [.t (.scr ns)] [] = .ok (.r 2) (dk δ0 [])) (h : m_law ns δ0 = some (v, δ')) : ∃ S', d_law [.t (.scr ns)] [] = .ok (.t (.bl v)) S' := by
  refine law_run (N := 9) (m := 7) (P := dk δ' []) rfl hd ?_
  unfold m_law at h
  replace h := ob h; obtain ⟨_, h1, h⟩ := h
  replace h := ob h; obtain ⟨r2, h20, h⟩ := h
  refine js_consG (js_forG h20 (fun δ1 => dk δ1 []) (fun δ1 => [.tr (T.scr ns), .dk, .un, .un, .un, .un, .un, .un, .un]) (fun turn δ1 => [.tr (T.scr ns), .dk, .tr (T.int turn), .un, .un, .un, .un, .un, .un]) (fun v => dk v.2 []) (fun v => (T.bl v.1)) [2] [2, 3, 4, 5, 6, 7, 8] (src_r1 (ja_cons j_C ja_nil) (chk_ok h1) rfl) (by rintro δ1; exact same_dk) rfl (by rintro turn δ1; exact bi_nm 2) ?g21) ?g22 ?g23
  case g21 =>
    rintro turn δ1 r h
    replace h := ob h; obtain ⟨⟨v1, δ2⟩, h2, h⟩ := h
    refine js_cons (js_set (j_fnD (ja_cons (j_var rfl) (ja_cons j_C (ja_cons j_C ja_nil))) (r_law_table h2) ⟨rfl, rfl, rfl, trivial⟩ rfl) 3 rfl) ?g19
    replace h := ob h; obtain ⟨⟨v2, δ3⟩, h3, h⟩ := h
    replace h := ob h; obtain ⟨⟨prices, penalties⟩, h4, h⟩ := h
    refine js_cons (js_unp (j_fnD (ja_cons (j_var rfl) (ja_cons (j_var rfl) ja_nil)) (r_law_data h3) ⟨rfl, rfl, trivial⟩ rfl) [4, 5] (sv (eP2 (eU T.int) (eU T.int)) h4) rfl) ?g18
    replace h := ob h; obtain ⟨⟨v3, δ4⟩, h5, h⟩ := h
    replace h := ob h; obtain ⟨r1, h14, h⟩ := h
    refine js_endG (js_forG h14 (fun _ => dk δ4 []) (fun _ => [.tr (T.scr ns), .dk, .tr (T.int turn), .tr (eP2 T.int (eU (eU T.int)) v1), .tr (eU T.int prices), .tr (eU T.int penalties), .un, .un, .un]) (fun value _ => [.tr (T.scr ns), .dk, .tr (T.int turn), .tr (eP2 T.int (eU (eU T.int)) v1), .tr (eU T.int prices), .tr (eU T.int penalties), .tr value, .un, .un]) (fun v => dk v.2 []) (fun v => (T.bl v.1)) [6] [6, 7, 8] (src_l eA v3 (j_fnD (ja_cons (j_var rfl) (ja_cons (j_var rfl) (ja_cons (j_var rfl) (ja_cons (j_var rfl) ja_nil)))) (r_law_values h5) ⟨rfl, rfl, rfl, rfl, trivial⟩ rfl) rfl) (by rintro _; exact SameP.refl) rfl (by rintro value _; exact bi_nm 6) ?g15) ?g16 ?g17
    case g15 =>
      rintro value _ r h
      replace h := ob h; obtain ⟨rep, h6, h⟩ := h
      refine js_cons (js_set (j_call (ja_cons (j_lst (ja_cons (j_var rfl) (ja_cons (j_var rfl) (ja_cons (j_var rfl) (ja_cons (j_var rfl) ja_nil)))) rfl (capOk rfl)) ja_nil) (g_repr h6) rfl) 7 rfl) ?g13
      replace h := ob h; obtain ⟨v4, h7, h⟩ := h
      refine js_cons (js_set (j_fnP (ja_cons (j_var rfl) (ja_cons (j_var rfl) (ja_cons (j_var rfl) (ja_cons (j_var rfl) ja_nil)))) (r_law_is_collection h7) ⟨rfl, rfl, rfl, rfl, trivial⟩ rfl) 8 rfl) ?g12
      replace h := ob h; obtain ⟨v5, h8, h⟩ := h
      replace h := ob h; obtain ⟨v6, h9, h⟩ := h
      replace h := cd h; rcases h with ⟨hc, h⟩ | ⟨hc, h⟩
      · have hv := Option.some.inj h; subst hv
        refine js_consR (js_ifT (jc_not (jc_tE (j_fnP (ja_cons (j_fnP (ja_cons (j_var rfl) (ja_cons (j_var rfl) (ja_cons (j_var rfl) (ja_cons (j_var rfl) ja_nil)))) (r_is_collection h8) ⟨rfl, rfl, rfl, rfl, trivial⟩ rfl) (ja_cons (j_var rfl) ja_nil)) (r_law_same RD h9) ⟨rfl, rfl, trivial⟩ rfl) rfl)) hc ?_)
        exact js_ret j_C rfl
      · refine js_cons (js_ifF (jc_not (jc_tE (j_fnP (ja_cons (j_fnP (ja_cons (j_var rfl) (ja_cons (j_var rfl) (ja_cons (j_var rfl) (ja_cons (j_var rfl) ja_nil)))) (r_is_collection h8) ⟨rfl, rfl, rfl, rfl, trivial⟩ rfl) (ja_cons (j_var rfl) ja_nil)) (r_law_same RD h9) ⟨rfl, rfl, trivial⟩ rfl) rfl)) hc js_nil) ?_
        replace h := ob h; obtain ⟨rep2, h10, h⟩ := h
        replace h := cd h; rcases h with ⟨hc, h⟩ | ⟨hc, h⟩
        · have hv := Option.some.inj h; subst hv
          refine js_ifT (jc_tE (j_e2 (j_call (ja_cons (j_lst (ja_cons (j_var rfl) (ja_cons (j_var rfl) (ja_cons (j_var rfl) (ja_cons (j_var rfl) ja_nil)))) rfl (capOk rfl)) ja_nil) (g_repr h10) rfl) (j_var rfl) g_neS rfl rfl) rfl) hc ?_
          exact js_ret j_C rfl
        · have hv := Option.some.inj h; subst hv
          exact js_fin (js_ifF (jc_tE (j_e2 (j_call (ja_cons (j_lst (ja_cons (j_var rfl) (ja_cons (j_var rfl) (ja_cons (j_var rfl) (ja_cons (j_var rfl) ja_nil)))) rfl (capOk rfl)) ja_nil) (g_repr h10) rfl) (j_var rfl) g_neS rfl rfl) rfl) hc js_nil) rfl
    case g16 =>
      rintro _ rfl kk
      have hv := Option.some.inj h; subst hv
      exact js_fin kk rfl
    case g17 =>
      rintro v rfl
      cases h
      rfl
  case g22 =>
    rintro δ5 rfl
    obtain ⟨hv, hd⟩ := Prod.mk.inj (Option.some.inj h); subst hv; subst hd
    exact js_ret j_C rfl
  case g23 =>
    rintro v rfl
    cases h
    rfl
end
end K20
namespace K20
open PySem Dl
theorem sm_odd {xs : List Int} {n : Nat} (h : ∀ x ∈ xs, x.natAbs ≤ oddN) (hl : xs.length ≤ n) : Sm oddN 1 (82 * n + 3) (eU eA (xs.map fun own2 => (cond (decide (own2 < (2:Int))) (T.bl (decide (own2 = (1:Int)))) (T.int own2)))) := by
  have hs : szTs (xs.map fun own2 => (cond (decide (own2 < (2:Int))) (T.bl (decide (own2 = (1:Int)))) (T.int own2))) ≤ 82 * xs.length := by
    clear h hl
    induction xs with
    | nil => exact Nat.le_refl _
    | cons x xs ih =>
      rw [List.map_cons, szTs, List.length_cons]
      have : szT (cond (decide (x < (2:Int))) (T.bl (decide (x = (1:Int)))) (T.int x)) ≤ 80 := by
        cases decide (x < 2)
        · exact Nat.le_refl 80
        · show 5 ≤ 80; omega
      omega
  have e : (eU eA (xs.map fun own2 => (cond (decide (own2 < (2:Int))) (T.bl (decide (own2 = (1:Int)))) (T.int own2)))) = .tup (xs.map fun own2 => (cond (decide (own2 < (2:Int))) (T.bl (decide (own2 = (1:Int)))) (T.int own2))) := by
    unfold eU; rw [List.map_map]; rfl
  rw [e]
  refine Sm.tup (d := 0) (fun x hx => ?_) (fun x hx => ?_) (by omega)
  · obtain ⟨i, hi, rfl⟩ := List.mem_map.mp hx
    have := h i hi
    cases decide (i < 2)
    · exact decide_eq_true this
    · rfl
  · obtain ⟨i, hi, rfl⟩ := List.mem_map.mp hx
    cases decide (i < 2) <;> exact Nat.le_refl 0
theorem values_run {δ : Deck} {b : Int} {t : Int × List (List Int)} {prices pens : List Int} (h : δ.Ok b) (ht : TabOk 10 10 t) (hp : AmOk t.2.length prices) (hq : AmOk t.1.toNat pens) (hb : b + 3000 ≤ LD) :
    Run (m_law_values δ t prices pens) fun r => (∀ v ∈ r.1, Sm (oddN + 2) 8 100000 v) ∧ r.2.Ok (b + 3000) := by
  have h1 := ht.d1
  have h2 := ht.d2
  have h3 := ht.om
  unfold m_law_values
  refine run_bind (shuffled_run h (by omega) (by omega) (by omega)) ?_
  rintro ⟨order, δ1⟩ ⟨pm, k1⟩
  simp only at pm k1
  have hr : ∀ x ∈ order, 0 ≤ x ∧ x < t.1 := fun x hx => by
    have := nats_mem.mp (pm.mem_iff.mp hx); omega
  refine run_eq (law_payments ht (by decide) (by decide) hp.len hq.len hr) ?_
  obtain ⟨pl, pr⟩ := payG_ok t.2 pens hq.rng order prices (List.replicate t.1.toNat 0) (fun x hx => (hp.rng x hx).1) hp.len.symm (fun x hx => by rw [(List.mem_replicate.mp hx).2]; decide)
  generalize (payG t.2 pens order prices (List.replicate t.1.toNat 0)).2 = pay at pl pr
  rw [List.length_replicate] at pl
  refine run_bind (next_run k1 (by omega) (by omega) (by omega)) ?_
  rintro ⟨at_, δ2⟩ ⟨a0, a1, k2⟩
  simp only at a0 a1 k2
  obtain ⟨x, e1, xm⟩ := atI_mem (xs := pay) a0 (by omega)
  refine run_eq e1 ?_
  have l1 : (cutL pay none (some at_)).length ≤ 10 := Nat.le_trans (cutL_sub _ _ _).length_le (by omega)
  have l2 : (cutL pay (some (at_ + 1)) none).length ≤ 10 := Nat.le_trans (cutL_sub _ _ _).length_le (by omega)
  refine run_eq (catO_ok (by simp only [List.length_cons, List.length_nil]; omega)) (run_eq (catO_ok (by simp only [List.length_append, List.length_cons, List.length_nil]; omega)) ?_)
  refine run_chk (by omega) ?_
  refine run_compS (fun pre ys δ => ys.length = pre.length ∧ (∀ y ∈ ys, 0 ≤ y ∧ y ≤ BIG) ∧ δ.Ok (b + 11 + pre.length)) ⟨rfl, (by intro _ h; cases h), Deck.Ok.mono k2 (by simp; omega)⟩ ?_ ?_
  · rintro pre own post ys δ hpre ⟨g1, g2, g3⟩
    have hpl : pre.length < 10 := by
      have := congrArg List.length hpre
      rw [List.length_append, List.length_cons] at this; omega
    have ho := pr own (by rw [hpre]; simp)
    have hB : BIG = 1000000000000 := rfl
    refine run_bind (next_run g3 (by omega) (by omega) (by omega)) ?_
    rintro ⟨v, δ3⟩ ⟨c0, c1, k3⟩
    simp only at c0 c1 k3
    refine run_some ⟨by simp [g1], ?_, Deck.Ok.mono k3 (by simp; omega)⟩
    intro y hy
    rcases List.mem_append.mp hy with hy | hy
    · exact g2 y hy
    · simp at hy; subst hy; exact ⟨c0, by omega⟩
  rintro ys δ3 ⟨g1, g2, g3⟩
  refine run_chk (by omega) (run_let ?_)
  refine run_eq (catO_ok (by simp only [List.length_cons, List.length_nil]; omega)) ?_
  refine run_eq (rpt_len t.1 (by omega) (by omega) _) (run_let (run_chk (by decide) ?_))
  have hB : BIG = 1000000000000 := rfl
  have po : ∀ y ∈ pay, y.natAbs ≤ oddN := fun y hy => big_odd (by have := pr y hy; omega)
  have sp : Sm oddN 1 903 (eU T.int pay) := (sm_ints (n := 10) po (by omega)).mono (Nat.le_refl _) (Nat.le_refl _) (by omega)
  have up : ∀ {v : T} {d k : Nat}, Sm oddN d k v → d ≤ 8 → k ≤ 100000 → Sm (oddN + 2) 8 100000 v := fun hv h1 h2 => hv.mono (by omega) h1 h2
  have all0 : ∀ v ∈ [(eU T.int pay), (eU T.int ys), (eU T.int (cutL pay none (some at_) ++ [x + 1] ++ cutL pay (some (at_ + 1)) none)), (eU eA (pay.map fun own2 => (cond (decide (own2 < (2:Int))) (T.bl (decide (own2 = (1:Int)))) (T.int own2)))), (eU T.int pens), (eU T.int (cutL pay none (some (-(1:Int))))), (eU T.int (pay ++ [(0:Int)])), (eL T.int pay), (eU T.int (List.replicate t.1.toNat (-(1:Int))))], Sm (oddN + 2) 8 100000 v := by
    intro v hv
    simp only [List.mem_cons, List.not_mem_nil, or_false] at hv
    rcases hv with rfl | rfl | rfl | rfl | rfl | rfl | rfl | rfl | rfl
    · exact up sp (by omega) (by omega)
    · exact up (sm_ints (n := 10) (fun y hy => big_odd (by have := g2 y hy; omega)) (by omega)) (by omega) (by omega)
    · refine up (sm_ints (n := 30) (fun y hy => ?_) ?_) (by omega) (by omega)
      · rcases List.mem_append.mp hy with hy | hy
        · rcases List.mem_append.mp hy with hy | hy
          · exact po y ((cutL_sub _ _ _).subset hy)
          · simp at hy; subst hy
            have := pr x xm
            exact big_odd (by omega)
        · exact po y ((cutL_sub _ _ _).subset hy)
      · simp only [List.length_append, List.length_cons, List.length_nil]; omega
    · exact up (sm_odd (n := 10) po (by omega)) (by omega) (by omega)
    · exact up (sm_ints (n := 10) (fun y hy => big_odd (by have := hq.rng y hy; omega)) (by have := hq.len; omega)) (by omega) (by omega)
    · exact up (sm_ints (n := 10) (fun y hy => po y ((cutL_sub _ _ _).subset hy)) (Nat.le_trans (cutL_sub _ _ _).length_le (by omega))) (by omega) (by omega)
    · refine up (sm_ints (n := 11) (fun y hy => ?_) ?_) (by omega) (by omega)
      · rcases List.mem_append.mp hy with hy | hy
        · exact po y hy
        · simp at hy; subst hy; exact Nat.zero_le _
      · simp only [List.length_append, List.length_cons, List.length_nil]; omega
    · exact up (sm_intsL (n := 10) po (by omega)) (by omega) (by omega)
    · refine up (sm_ints (n := 10) (fun y hy => ?_) (by rw [List.length_replicate]; omega)) (by omega) (by omega)
      rw [(List.mem_replicate.mp hy).2]; exact big_odd (by omega)
  refine run_forO (fun n (s : List T × Deck) => s.1.length = 9 + 2 * n ∧ (∀ v ∈ s.1, Sm (oddN + 2) 8 100000 v) ∧ s.2.Ok (b + 21 + 800 * n)) ⟨rfl, all0, g3.mono (by simp; omega)⟩ ?_ ?_
  · rintro n i ⟨some_2, δ6⟩ hi ⟨q1, q2, q3⟩
    have hn := get_lt' hi
    rw [show (rngL 0 3).length = 3 from by rw [rngL_len]; rfl] at hn
    simp only at q1 q2 q3
    have hRD : RD = 40 := rfl
    refine run_bind (bent_run (N := oddN) (Nat.le_refl _) (by decide) RD δ6 _ _ 2 1 903 (by decide) (by omega) sp q3 (by omega)) ?_
    rintro ⟨v5, δ7⟩ ⟨s5, k5⟩
    simp only at s5 k5
    have z5 := sp.sz
    refine run_bind (bent_run (N := oddN + 1) (Nat.le_succ _) (by decide) RD δ7 _ _ 2 4 (2 * szT (eU T.int pay) + 4000) (by decide) (by omega) s5 k5 (by omega)) ?_
    rintro ⟨v6, δ8⟩ ⟨s6, k6⟩
    simp only at s6 k6
    have z6 := s5.sz
    refine run_eq (catO_ok (by simp only [List.length_cons, List.length_nil]; omega)) (run_some ⟨?_, ?_, ?_⟩)
    · simp only [List.length_append, List.length_cons, List.length_nil]; omega
    · intro v hv
      rcases List.mem_append.mp hv with hv | hv
      · exact q2 v hv
      · simp only [List.mem_cons, List.not_mem_nil, or_false] at hv
        rcases hv with rfl | rfl
        · exact s5.mono (by omega) (by omega) (by omega)
        · exact s6.mono (by omega) (by omega) (by omega)
    · exact Deck.Ok.mono k6 (by push_cast; omega)
  · rintro ⟨some_3, δ9⟩ ⟨q1, q2, q3⟩
    simp only at q1 q2 q3
    rw [show (rngL 0 3).length = 3 from by rw [rngL_len]; rfl] at q1 q3
    refine run_bind (odd_run q3 (by omega)) ?_
    rintro ⟨v7, δ10⟩ ⟨s7, k7⟩
    simp only at s7 k7
    refine run_eq (catO_ok (by simp only [List.length_cons, List.length_nil]; omega)) (run_some ⟨?_, Deck.Ok.mono k7 (by omega)⟩)
    intro v hv
    rcases List.mem_append.mp hv with hv | hv
    · exact q2 v hv
    · simp at hv; subst hv
      exact up s7 (by omega) (by omega)
theorem plain {ns : List Int} (h : ns.length ≤ 63) : ∃ S', d_law [.t (.scr ns)] [] = .ok (.t (.bl true)) S' := by
  obtain ⟨δ0, hd, ok0⟩ := deck_ok h
  suffices Run (m_law ns δ0) fun r => r.1 = true by
    obtain ⟨⟨v, δ'⟩, e, rfl⟩ := this
    exact r_law hd e
  unfold m_law
  refine run_chk (by decide) ?_
  refine run_forF (fun n (δ : Deck) => δ.Ok (10000 * n)) (by simpa using ok0) ?_ ?_
  · intro n x δ hx h
    have hn := get_lt' hx
    rw [show (rngL 0 6).length = 6 from by rw [rngL_len]; rfl] at hn
    refine run_bind (table_run h (by decide) (by decide) (by decide) (by decide) (by unfold LD; omega)) ?_
    rintro ⟨t, δ1⟩ ⟨ht, h1⟩
    simp only at ht h1
    refine run_bind (data_run h1 ht (by decide) (by decide) (by unfold LD; omega)) ?_
    rintro ⟨⟨prices, pens⟩, δ2⟩ ⟨hp, hq, h2⟩
    simp only at hp hq h2
    refine run_let ?_
    refine run_bind (values_run h2 ht hp hq (by unfold LD; omega)) ?_
    rintro ⟨vs, δ3⟩ ⟨hv, h3⟩
    simp only at hv h3
    refine run_forF (fun n (_ : Unit) => True) trivial ?_ ?_
    · intro m v _ hm _
      have sv := hv v (List.mem_of_getElem? hm)
      have hl : ∀ xs, v = .tup xs → xs.length ≤ 16777216 := fun xs e => by
        subst e
        have := szs_len xs
        have hs := sv.sz
        have e : szT (.tup xs) = szTs xs + 3 := rfl
        omega
      have rep : ∃ s, oRepr (eL eA [eP2 T.int (eU (eU T.int)) t, eU T.int prices, eU T.int pens, v]) = some s := by
        refine ⟨_, repr_sm (rep_list ht (by decide) (by decide) hp hq (vs := [v]) (N := oddN + 2) (d := 8) (k := 100000) (by omega) (by omega) (fun x hx => by simp at hx; subst hx; exact sv)) (by decide) (by decide) (by simp only [List.length_cons, List.length_nil]; omega)⟩
      obtain ⟨s, er⟩ := rep
      refine run_eq er (run_eq (law_coll ht (by decide) (by decide) hp hq hl) (run_eq (is_coll ht (by decide) (by decide) hp hq hl) (run_eq (same_bool _) ?_)))
      refine run_cond (fun h => by cases h) (fun _ => run_eq er (run_cond (fun h => by simp at h) (fun _ => run_some ⟨(), rfl, trivial⟩)))
    · intro _ _
      exact run_some ⟨δ3, rfl, Deck.Ok.mono h3 (by push_cast; omega)⟩
  · intro δ h
    exact run_some rfl
end K20
namespace K20
open PySem PySem.Spec PyProof.Rows L2 Dl
theorem all_mk {l : PySem.W.OpenLaw} {w : World} {K : PySem.W.Frag} {h : Heap} {mg : Str → Option Value} {fa f0 f1 f2 f3 f4 f5 f6 f7 f8 f9 f10 f11 f12 f13 f14 f15 f16 f17 f18 f19 f20 : Addr} (X : K.In h) (G : h.Ns mainGlobals mg) (hfa : mg "law" = some (.ref fa))
    {od0 an0 od1 an1 od2 an2 od3 an3 od4 an4 od5 an5 od6 an6 od7 an7 od8 an8 od9 an9 od10 an10 od11 an11 od12 an12 od13 an13 od14 an14 od15 an15 od16 an16 od17 an17 od18 an18 od19 an19 od20 an20 : Option Addr} {sl0 sl1 sl2 sl3 sl4 sl5 sl6 sl7 sl8 sl9 sl10 sl11 sl12 sl13 sl14 sl15 sl16 sl17 sl18 sl19 sl20 : Array (Option Value)} {oc0 kV0 dc0 pm0 cd0 ct0 oc1 kV1 dc1 pm1 cd1 ct1 oc2 kV2 dc2 pm2 cd2 ct2 oc3 kV3 dc3 pm3 cd3 ct3 oc4 kV4 dc4 pm4 cd4 ct4 oc5 kV5 dc5 pm5 cd5 ct5 oc6 kV6 dc6 pm6 cd6 ct6 oc7 kV7 dc7 pm7 cd7 ct7 oc8 kV8 dc8 pm8 cd8 ct8 oc9 kV9 dc9 pm9 cd9 ct9 oc10 kV10 dc10 pm10 cd10 ct10 oc11 kV11 dc11 pm11 cd11 ct11 oc12 kV12 dc12 pm12 cd12 ct12 oc13 kV13 dc13 pm13 cd13 ct13 oc14 kV14 dc14 pm14 cd14 ct14 oc15 kV15 dc15 pm15 cd15 ct15 oc16 kV16 dc16 pm16 cd16 ct16 oc17 kV17 dc17 pm17 cd17 ct17 oc18 kV18 dc18 pm18 cd18 ct18 oc19 kV19 dc19 pm19 cd19 ct19 oc20 kV20 dc20 pm20 cd20 ct20 : Value}
    (a0 : PySem.W.nsIn K mainGlobals "is_integer_in" = some (some (.ref f0))) (l0 : K.lookup f0 = some ⟨oc0, od0, .func (PySem.W.fnOf "is_integer_in" "is_integer_in" (defArgs s_is_integer_in) (defBody s_is_integer_in) (defScope s_is_integer_in) .none kV0 dc0 pm0 an0 cd0 ct0), sl0⟩) (c0 : PySem.W.codeIn K cd0 "is_integer_in" = true) (k0 : PySem.W.keepIn K (.ref f0) = true)
    (a1 : PySem.W.nsIn K mainGlobals "is_collection" = some (some (.ref f1))) (l1 : K.lookup f1 = some ⟨oc1, od1, .func (PySem.W.fnOf "is_collection" "is_collection" (defArgs s_is_collection) (defBody s_is_collection) (defScope s_is_collection) .none kV1 dc1 pm1 an1 cd1 ct1), sl1⟩) (c1 : PySem.W.codeIn K cd1 "is_collection" = true) (k1 : PySem.W.keepIn K (.ref f1) = true)
    (a2 : PySem.W.nsIn K mainGlobals "_law_deck" = some (some (.ref f2))) (l2 : K.lookup f2 = some ⟨oc2, od2, .func (PySem.W.fnOf "_law_deck" "_law_deck" (defArgs s__law_deck) (defBody s__law_deck) (defScope s__law_deck) .none kV2 dc2 pm2 an2 cd2 ct2), sl2⟩) (c2 : PySem.W.codeIn K cd2 "_law_deck" = true) (k2 : PySem.W.keepIn K (.ref f2) = true)
    (a3 : PySem.W.nsIn K mainGlobals "_law_next" = some (some (.ref f3))) (l3 : K.lookup f3 = some ⟨oc3, od3, .func (PySem.W.fnOf "_law_next" "_law_next" (defArgs s__law_next) (defBody s__law_next) (defScope s__law_next) .none kV3 dc3 pm3 an3 cd3 ct3), sl3⟩) (c3 : PySem.W.codeIn K cd3 "_law_next" = true) (k3 : PySem.W.keepIn K (.ref f3) = true)
    (a4 : PySem.W.nsIn K mainGlobals "_law_one" = some (some (.ref f4))) (l4 : K.lookup f4 = some ⟨oc4, od4, .func (PySem.W.fnOf "_law_one" "_law_one" (defArgs s__law_one) (defBody s__law_one) (defScope s__law_one) .none kV4 dc4 pm4 an4 cd4 ct4), sl4⟩) (c4 : PySem.W.codeIn K cd4 "_law_one" = true) (k4 : PySem.W.keepIn K (.ref f4) = true)
    (a5 : PySem.W.nsIn K mainGlobals "_law_whole" = some (some (.ref f5))) (l5 : K.lookup f5 = some ⟨oc5, od5, .func (PySem.W.fnOf "_law_whole" "_law_whole" (defArgs s__law_whole) (defBody s__law_whole) (defScope s__law_whole) .none kV5 dc5 pm5 an5 cd5 ct5), sl5⟩) (c5 : PySem.W.codeIn K cd5 "_law_whole" = true) (k5 : PySem.W.keepIn K (.ref f5) = true)
    (a6 : PySem.W.nsIn K mainGlobals "_law_same" = some (some (.ref f6))) (l6 : K.lookup f6 = some ⟨oc6, od6, .func (PySem.W.fnOf "_law_same" "_law_same" (defArgs s__law_same) (defBody s__law_same) (defScope s__law_same) .none kV6 dc6 pm6 an6 cd6 ct6), sl6⟩) (c6 : PySem.W.codeIn K cd6 "_law_same" = true) (k6 : PySem.W.keepIn K (.ref f6) = true)
    (a7 : PySem.W.nsIn K mainGlobals "_law_odd" = some (some (.ref f7))) (l7 : K.lookup f7 = some ⟨oc7, od7, .func (PySem.W.fnOf "_law_odd" "_law_odd" (defArgs s__law_odd) (defBody s__law_odd) (defScope s__law_odd) .none kV7 dc7 pm7 an7 cd7 ct7), sl7⟩) (c7 : PySem.W.codeIn K cd7 "_law_odd" = true) (k7 : PySem.W.keepIn K (.ref f7) = true)
    (a8 : PySem.W.nsIn K mainGlobals "_law_bent" = some (some (.ref f8))) (l8 : K.lookup f8 = some ⟨oc8, od8, .func (PySem.W.fnOf "_law_bent" "_law_bent" (defArgs s__law_bent) (defBody s__law_bent) (defScope s__law_bent) .none kV8 dc8 pm8 an8 cd8 ct8), sl8⟩) (c8 : PySem.W.codeIn K cd8 "_law_bent" = true) (k8 : PySem.W.keepIn K (.ref f8) = true)
    (a9 : PySem.W.nsIn K mainGlobals "_law_part" = some (some (.ref f9))) (l9 : K.lookup f9 = some ⟨oc9, od9, .func (PySem.W.fnOf "_law_part" "_law_part" (defArgs s__law_part) (defBody s__law_part) (defScope s__law_part) .none kV9 dc9 pm9 an9 cd9 ct9), sl9⟩) (c9 : PySem.W.codeIn K cd9 "_law_part" = true) (k9 : PySem.W.keepIn K (.ref f9) = true)
    (a10 : PySem.W.nsIn K mainGlobals "_law_shuffled" = some (some (.ref f10))) (l10 : K.lookup f10 = some ⟨oc10, od10, .func (PySem.W.fnOf "_law_shuffled" "_law_shuffled" (defArgs s__law_shuffled) (defBody s__law_shuffled) (defScope s__law_shuffled) .none kV10 dc10 pm10 an10 cd10 ct10), sl10⟩) (c10 : PySem.W.codeIn K cd10 "_law_shuffled" = true) (k10 : PySem.W.keepIn K (.ref f10) = true)
    (a11 : PySem.W.nsIn K mainGlobals "_law_intervals" = some (some (.ref f11))) (l11 : K.lookup f11 = some ⟨oc11, od11, .func (PySem.W.fnOf "_law_intervals" "_law_intervals" (defArgs s__law_intervals) (defBody s__law_intervals) (defScope s__law_intervals) .none kV11 dc11 pm11 an11 cd11 ct11), sl11⟩) (c11 : PySem.W.codeIn K cd11 "_law_intervals" = true) (k11 : PySem.W.keepIn K (.ref f11) = true)
    (a12 : PySem.W.nsIn K mainGlobals "_law_around" = some (some (.ref f12))) (l12 : K.lookup f12 = some ⟨oc12, od12, .func (PySem.W.fnOf "_law_around" "_law_around" (defArgs s__law_around) (defBody s__law_around) (defScope s__law_around) .none kV12 dc12 pm12 an12 cd12 ct12), sl12⟩) (c12 : PySem.W.codeIn K cd12 "_law_around" = true) (k12 : PySem.W.keepIn K (.ref f12) = true)
    (a13 : PySem.W.nsIn K mainGlobals "_law_any" = some (some (.ref f13))) (l13 : K.lookup f13 = some ⟨oc13, od13, .func (PySem.W.fnOf "_law_any" "_law_any" (defArgs s__law_any) (defBody s__law_any) (defScope s__law_any) .none kV13 dc13 pm13 an13 cd13 ct13), sl13⟩) (c13 : PySem.W.codeIn K cd13 "_law_any" = true) (k13 : PySem.W.keepIn K (.ref f13) = true)
    (a14 : PySem.W.nsIn K mainGlobals "_law_table" = some (some (.ref f14))) (l14 : K.lookup f14 = some ⟨oc14, od14, .func (PySem.W.fnOf "_law_table" "_law_table" (defArgs s__law_table) (defBody s__law_table) (defScope s__law_table) .none kV14 dc14 pm14 an14 cd14 ct14), sl14⟩) (c14 : PySem.W.codeIn K cd14 "_law_table" = true) (k14 : PySem.W.keepIn K (.ref f14) = true)
    (a15 : PySem.W.nsIn K mainGlobals "_law_amount" = some (some (.ref f15))) (l15 : K.lookup f15 = some ⟨oc15, od15, .func (PySem.W.fnOf "_law_amount" "_law_amount" (defArgs s__law_amount) (defBody s__law_amount) (defScope s__law_amount) .none kV15 dc15 pm15 an15 cd15 ct15), sl15⟩) (c15 : PySem.W.codeIn K cd15 "_law_amount" = true) (k15 : PySem.W.keepIn K (.ref f15) = true)
    (a16 : PySem.W.nsIn K mainGlobals "_law_data" = some (some (.ref f16))) (l16 : K.lookup f16 = some ⟨oc16, od16, .func (PySem.W.fnOf "_law_data" "_law_data" (defArgs s__law_data) (defBody s__law_data) (defScope s__law_data) .none kV16 dc16 pm16 an16 cd16 ct16), sl16⟩) (c16 : PySem.W.codeIn K cd16 "_law_data" = true) (k16 : PySem.W.keepIn K (.ref f16) = true)
    (a17 : PySem.W.nsIn K mainGlobals "_law_payments" = some (some (.ref f17))) (l17 : K.lookup f17 = some ⟨oc17, od17, .func (PySem.W.fnOf "_law_payments" "_law_payments" (defArgs s__law_payments) (defBody s__law_payments) (defScope s__law_payments) .none kV17 dc17 pm17 an17 cd17 ct17), sl17⟩) (c17 : PySem.W.codeIn K cd17 "_law_payments" = true) (k17 : PySem.W.keepIn K (.ref f17) = true)
    (a18 : PySem.W.nsIn K mainGlobals "_law_is_collection" = some (some (.ref f18))) (l18 : K.lookup f18 = some ⟨oc18, od18, .func (PySem.W.fnOf "_law_is_collection" "_law_is_collection" (defArgs s__law_is_collection) (defBody s__law_is_collection) (defScope s__law_is_collection) .none kV18 dc18 pm18 an18 cd18 ct18), sl18⟩) (c18 : PySem.W.codeIn K cd18 "_law_is_collection" = true) (k18 : PySem.W.keepIn K (.ref f18) = true)
    (a19 : PySem.W.nsIn K mainGlobals "_law_values" = some (some (.ref f19))) (l19 : K.lookup f19 = some ⟨oc19, od19, .func (PySem.W.fnOf "_law_values" "_law_values" (defArgs s__law_values) (defBody s__law_values) (defScope s__law_values) .none kV19 dc19 pm19 an19 cd19 ct19), sl19⟩) (c19 : PySem.W.codeIn K cd19 "_law_values" = true) (k19 : PySem.W.keepIn K (.ref f19) = true)
    (a20 : PySem.W.nsIn K mainGlobals "law" = some (some (.ref f20))) (l20 : K.lookup f20 = some ⟨oc20, od20, .func (PySem.W.fnOf "law" "law" (defArgs s_law) (defBody s_law) (defScope s_law) .none kV20 dc20 pm20 an20 cd20 ct20), sl20⟩) (c20 : PySem.W.codeIn K cd20 "law" = true) (k20 : PySem.W.keepIn K (.ref f20) = true)
    (z0 : PySem.W.nsIn K mainGlobals "len" = some none)
    (z1 : PySem.W.nsIn K mainGlobals "range" = some none)
    (z2 : PySem.W.nsIn K mainGlobals "abs" = some none)
    (z3 : PySem.W.nsIn K mainGlobals "tuple" = some none)
    (z4 : PySem.W.nsIn K mainGlobals "list" = some none)
    (z5 : PySem.W.nsIn K mainGlobals "isinstance" = some none)
    (z6 : PySem.W.nsIn K mainGlobals "int" = some none)
    (z7 : PySem.W.nsIn K mainGlobals "bool" = some none)
    (z8 : PySem.W.nsIn K mainGlobals "str" = some none)
    (z9 : PySem.W.nsIn K mainGlobals "dict" = some none)
    (z10 : PySem.W.nsIn K mainGlobals "zip" = some none)
    (z11 : PySem.W.nsIn K mainGlobals "enumerate" = some none)
    (z12 : PySem.W.nsIn K mainGlobals "sorted" = some none)
    (z13 : PySem.W.nsIn K mainGlobals "set" = some none)
    (z14 : PySem.W.nsIn K mainGlobals "all" = some none)
    (z15 : PySem.W.nsIn K mainGlobals "any" = some none)
    (z16 : PySem.W.nsIn K mainGlobals "sum" = some none)
    (z17 : PySem.W.nsIn K mainGlobals "min" = some none)
    (z18 : PySem.W.nsIn K mainGlobals "max" = some none)
    (z19 : PySem.W.nsIn K mainGlobals "repr" = some none)
    : ∃ fd : FuncData, (∀ (s : Shared) (v : Value), BindsTo s fd ⟨[v], []⟩ [("script", v)]) ∧ ∀ base : Heap, K.In base → base.Ns mainGlobals mg → FnG l.prog w K mg base 45 fa fd ["script"] (spD K 1 d_law) := by
  have e := hfa.symm.trans (PySem.W.mg_of X G a20)
  cases e
  have F0 := fun_mk (st := s_is_integer_in) l0 c0 k0
  have b0 := F0.binds (ps := ["value", "low", "high"]) fun _ _ _ _ _ _ us hl => match us, hl with | [_, _, _], _ => rfl
  have g0 := PySem.W.mg_of X G a0
  have F1 := fun_mk (st := s_is_collection) l1 c1 k1
  have b1 := F1.binds (ps := ["table", "prices", "penalties", "value"]) fun _ _ _ _ _ _ us hl => match us, hl with | [_, _, _, _], _ => rfl
  have g1 := PySem.W.mg_of X G a1
  have F2 := fun_mk (st := s__law_deck) l2 c2 k2
  have b2 := F2.binds (ps := ["script"]) fun _ _ _ _ _ _ us hl => match us, hl with | [_], _ => rfl
  have g2 := PySem.W.mg_of X G a2
  have F3 := fun_mk (st := s__law_next) l3 c3 k3
  have b3 := F3.binds (ps := ["deck", "many"]) fun _ _ _ _ _ _ us hl => match us, hl with | [_, _], _ => rfl
  have g3 := PySem.W.mg_of X G a3
  have F4 := fun_mk (st := s__law_one) l4 c4 k4
  have b4 := F4.binds (ps := ["deck", "some"]) fun _ _ _ _ _ _ us hl => match us, hl with | [_, _], _ => rfl
  have g4 := PySem.W.mg_of X G a4
  have F5 := fun_mk (st := s__law_whole) l5 c5 k5
  have b5 := F5.binds (ps := ["thing"]) fun _ _ _ _ _ _ us hl => match us, hl with | [_], _ => rfl
  have g5 := PySem.W.mg_of X G a5
  have F6 := fun_mk (st := s__law_same) l6 c6 k6
  have b6 := F6.binds (ps := ["found", "due"]) fun _ _ _ _ _ _ us hl => match us, hl with | [_, _], _ => rfl
  have g6 := PySem.W.mg_of X G a6
  have F7 := fun_mk (st := s__law_odd) l7 c7 k7
  have b7 := F7.binds (ps := ["deck"]) fun _ _ _ _ _ _ us hl => match us, hl with | [_], _ => rfl
  have g7 := PySem.W.mg_of X G a7
  have F8 := fun_mk (st := s__law_bent) l8 c8 k8
  have b8 := F8.binds (ps := ["deck", "thing", "deep"]) fun _ _ _ _ _ _ us hl => match us, hl with | [_, _, _], _ => rfl
  have g8 := PySem.W.mg_of X G a8
  have F9 := fun_mk (st := s__law_part) l9 c9 k9
  have b9 := F9.binds (ps := ["deck", "items", "share"]) fun _ _ _ _ _ _ us hl => match us, hl with | [_, _, _], _ => rfl
  have g9 := PySem.W.mg_of X G a9
  have F10 := fun_mk (st := s__law_shuffled) l10 c10 k10
  have b10 := F10.binds (ps := ["deck", "count"]) fun _ _ _ _ _ _ us hl => match us, hl with | [_, _], _ => rfl
  have g10 := PySem.W.mg_of X G a10
  have F11 := fun_mk (st := s__law_intervals) l11 c11 k11
  have b11 := F11.binds (ps := ["deck", "demands", "offers"]) fun _ _ _ _ _ _ us hl => match us, hl with | [_, _, _], _ => rfl
  have g11 := PySem.W.mg_of X G a11
  have F12 := fun_mk (st := s__law_around) l12 c12 k12
  have b12 := F12.binds (ps := ["deck", "demands", "offers"]) fun _ _ _ _ _ _ us hl => match us, hl with | [_, _, _], _ => rfl
  have g12 := PySem.W.mg_of X G a12
  have F13 := fun_mk (st := s__law_any) l13 c13 k13
  have b13 := F13.binds (ps := ["deck", "demands", "offers"]) fun _ _ _ _ _ _ us hl => match us, hl with | [_, _, _], _ => rfl
  have g13 := PySem.W.mg_of X G a13
  have F14 := fun_mk (st := s__law_table) l14 c14 k14
  have b14 := F14.binds (ps := ["deck", "demands", "offers"]) fun _ _ _ _ _ _ us hl => match us, hl with | [_, _, _], _ => rfl
  have g14 := PySem.W.mg_of X G a14
  have F15 := fun_mk (st := s__law_amount) l15 c15 k15
  have b15 := F15.binds (ps := ["deck"]) fun _ _ _ _ _ _ us hl => match us, hl with | [_], _ => rfl
  have g15 := PySem.W.mg_of X G a15
  have F16 := fun_mk (st := s__law_data) l16 c16 k16
  have b16 := F16.binds (ps := ["deck", "table"]) fun _ _ _ _ _ _ us hl => match us, hl with | [_, _], _ => rfl
  have g16 := PySem.W.mg_of X G a16
  have F17 := fun_mk (st := s__law_payments) l17 c17 k17
  have b17 := F17.binds (ps := ["table", "prices", "penalties", "order"]) fun _ _ _ _ _ _ us hl => match us, hl with | [_, _, _, _], _ => rfl
  have g17 := PySem.W.mg_of X G a17
  have F18 := fun_mk (st := s__law_is_collection) l18 c18 k18
  have b18 := F18.binds (ps := ["table", "prices", "penalties", "thing"]) fun _ _ _ _ _ _ us hl => match us, hl with | [_, _, _, _], _ => rfl
  have g18 := PySem.W.mg_of X G a18
  have F19 := fun_mk (st := s__law_values) l19 c19 k19
  have b19 := F19.binds (ps := ["deck", "table", "prices", "penalties"]) fun _ _ _ _ _ _ us hl => match us, hl with | [_, _, _, _], _ => rfl
  have g19 := PySem.W.mg_of X G a19
  have F20 := fun_mk (st := s_law) l20 c20 k20
  have bt : Bt mg := ⟨PySem.W.mg_none_of X G z0, PySem.W.mg_none_of X G z1, PySem.W.mg_none_of X G z2, PySem.W.mg_none_of X G z3, PySem.W.mg_none_of X G z4, PySem.W.mg_none_of X G z5, PySem.W.mg_none_of X G z6, PySem.W.mg_none_of X G z7, PySem.W.mg_none_of X G z8, PySem.W.mg_none_of X G z9, PySem.W.mg_none_of X G z10, PySem.W.mg_none_of X G z11, PySem.W.mg_none_of X G z12, PySem.W.mg_none_of X G z13, PySem.W.mg_none_of X G z14, PySem.W.mg_none_of X G z15, PySem.W.mg_none_of X G z16, PySem.W.mg_none_of X G z17, PySem.W.mg_none_of X G z18, PySem.W.mg_none_of X G z19⟩
  refine ⟨PySem.W.fnOf "law" "law" (defArgs s_law) (defBody s_law) (defScope s_law) .none kV20 dc20 pm20 an20 cd20 ct20, fun s v => .of_eq rfl, fun base _ _ => ?_⟩
  have C_is_integer_in : Cl l.prog w K mg base 1 "is_integer_in" 3 d_is_integer_in := ⟨⟨_, _, _, ok_is_integer_in bt F0, g0, k0, b0⟩⟩
  have C_is_collection : Cl l.prog w K mg base 2 "is_collection" 4 d_is_collection := ⟨⟨_, _, _, ok_is_collection bt C_is_integer_in F1, g1, k1, b1⟩⟩
  have C__law_deck : Cl l.prog w K mg base 1 "_law_deck" 1 d__law_deck := ⟨⟨_, _, _, ok__law_deck bt F2, g2, k2, b2⟩⟩
  have C__law_next : Cl l.prog w K mg base 1 "_law_next" 2 d__law_next := ⟨⟨_, _, _, ok__law_next bt F3, g3, k3, b3⟩⟩
  have C__law_one : Cl l.prog w K mg base 2 "_law_one" 2 d__law_one := ⟨⟨_, _, _, ok__law_one bt C__law_next F4, g4, k4, b4⟩⟩
  have C__law_whole : Cl l.prog w K mg base 1 "_law_whole" 1 d__law_whole := ⟨⟨_, _, _, ok__law_whole bt F5, g5, k5, b5⟩⟩
  have C__law_same : Cl l.prog w K mg base 41 "_law_same" 2 (d__law_same RD) := ⟨⟨_, _, _, ok__law_same bt F6 g6 b6 RD, g6, k6, b6⟩⟩
  have C__law_odd : Cl l.prog w K mg base 2 "_law_odd" 1 d__law_odd := ⟨⟨_, _, _, ok__law_odd bt C__law_next F7, g7, k7, b7⟩⟩
  have C__law_bent : Cl l.prog w K mg base 43 "_law_bent" 3 (d__law_bent RD) := ⟨⟨_, _, _, ok__law_bent bt C__law_odd C__law_next F8 g8 b8 RD, g8, k8, b8⟩⟩
  have C__law_part : Cl l.prog w K mg base 2 "_law_part" 3 d__law_part := ⟨⟨_, _, _, ok__law_part bt C__law_next F9, g9, k9, b9⟩⟩
  have C__law_shuffled : Cl l.prog w K mg base 2 "_law_shuffled" 2 d__law_shuffled := ⟨⟨_, _, _, ok__law_shuffled bt C__law_next F10, g10, k10, b10⟩⟩
  have C__law_intervals : Cl l.prog w K mg base 3 "_law_intervals" 3 d__law_intervals := ⟨⟨_, _, _, ok__law_intervals bt C__law_shuffled C__law_next F11, g11, k11, b11⟩⟩
  have C__law_around : Cl l.prog w K mg base 3 "_law_around" 3 d__law_around := ⟨⟨_, _, _, ok__law_around bt C__law_shuffled C__law_next C__law_part F12, g12, k12, b12⟩⟩
  have C__law_any : Cl l.prog w K mg base 3 "_law_any" 3 d__law_any := ⟨⟨_, _, _, ok__law_any bt C__law_next C__law_one C__law_part F13, g13, k13, b13⟩⟩
  have C__law_table : Cl l.prog w K mg base 4 "_law_table" 3 d__law_table := ⟨⟨_, _, _, ok__law_table bt C__law_next C__law_intervals C__law_around C__law_any F14, g14, k14, b14⟩⟩
  have C__law_amount : Cl l.prog w K mg base 2 "_law_amount" 1 d__law_amount := ⟨⟨_, _, _, ok__law_amount bt C__law_next F15, g15, k15, b15⟩⟩
  have C__law_data : Cl l.prog w K mg base 3 "_law_data" 2 d__law_data := ⟨⟨_, _, _, ok__law_data bt C__law_next C__law_amount F16, g16, k16, b16⟩⟩
  have C__law_payments : Cl l.prog w K mg base 1 "_law_payments" 4 d__law_payments := ⟨⟨_, _, _, ok__law_payments bt F17, g17, k17, b17⟩⟩
  have C__law_is_collection : Cl l.prog w K mg base 2 "_law_is_collection" 4 d__law_is_collection := ⟨⟨_, _, _, ok__law_is_collection bt C__law_whole F18, g18, k18, b18⟩⟩
  have C__law_values : Cl l.prog w K mg base 44 "_law_values" 4 d__law_values := ⟨⟨_, _, _, ok__law_values bt C__law_payments C__law_next C__law_shuffled C__law_bent C__law_odd F19, g19, k19, b19⟩⟩
  exact ok_law bt C__law_deck C__law_table C__law_data C__law_values C__law_is_collection C__law_same C_is_collection F20
end K20
open PySem PySem.W PyProof.Rows
set_option maxHeartbeats 0 in
theorem PySem.Challenge.cw_payorder_k20_collections_checked_holds : PySem.Challenge.rw_payorder_k20_collections_checked.Holds := by
  w_on; o_law; k_head; (case hw => w_witness2)
  k_fill
  refine Dl.walkG (l := PySem.Challenge.rw_payorder_k20_collections_checked) (n := 63) (k := 45) (x := "script") (den := K20.d_law) rfl (by decide) rfl ⟨⟨rfl, by decide, by decide⟩, rfl⟩ (fun w h Y => PySem.W.kIn_of Y) (by rfl) (fun w => by rfl) ?F (fun ns hn _ => K20.plain hn)
  case F =>
    intro w mg fa h KX G hmg
    refine' K20.all_mk KX G hmg ?a0 ?l0 ?c0 ?k0 ?a1 ?l1 ?c1 ?k1 ?a2 ?l2 ?c2 ?k2 ?a3 ?l3 ?c3 ?k3 ?a4 ?l4 ?c4 ?k4 ?a5 ?l5 ?c5 ?k5 ?a6 ?l6 ?c6 ?k6 ?a7 ?l7 ?c7 ?k7 ?a8 ?l8 ?c8 ?k8 ?a9 ?l9 ?c9 ?k9 ?a10 ?l10 ?c10 ?k10 ?a11 ?l11 ?c11 ?k11 ?a12 ?l12 ?c12 ?k12 ?a13 ?l13 ?c13 ?k13 ?a14 ?l14 ?c14 ?k14 ?a15 ?l15 ?c15 ?k15 ?a16 ?l16 ?c16 ?k16 ?a17 ?l17 ?c17 ?k17 ?a18 ?l18 ?c18 ?k18 ?a19 ?l19 ?c19 ?k19 ?a20 ?l20 ?c20 ?k20 ?z0 ?z1 ?z2 ?z3 ?z4 ?z5 ?z6 ?z7 ?z8 ?z9 ?z10 ?z11 ?z12 ?z13 ?z14 ?z15 ?z16 ?z17 ?z18 ?z19
    (case a0 => k_is); (case l0 => k_is); (case c0 => k_is); (case k0 => k_is); (case a1 => k_is); (case l1 => k_is); (case c1 => k_is); (case k1 => k_is); (case a2 => k_is); (case l2 => k_is); (case c2 => k_is); (case k2 => k_is); (case a3 => k_is); (case l3 => k_is); (case c3 => k_is); (case k3 => k_is); (case a4 => k_is); (case l4 => k_is); (case c4 => k_is); (case k4 => k_is); (case a5 => k_is); (case l5 => k_is); (case c5 => k_is); (case k5 => k_is); (case a6 => k_is); (case l6 => k_is); (case c6 => k_is); (case k6 => k_is); (case a7 => k_is); (case l7 => k_is); (case c7 => k_is); (case k7 => k_is); (case a8 => k_is); (case l8 => k_is); (case c8 => k_is); (case k8 => k_is); (case a9 => k_is); (case l9 => k_is); (case c9 => k_is); (case k9 => k_is); (case a10 => k_is); (case l10 => k_is); (case c10 => k_is); (case k10 => k_is); (case a11 => k_is); (case l11 => k_is); (case c11 => k_is); (case k11 => k_is); (case a12 => k_is); (case l12 => k_is); (case c12 => k_is); (case k12 => k_is); (case a13 => k_is); (case l13 => k_is); (case c13 => k_is); (case k13 => k_is); (case a14 => k_is); (case l14 => k_is); (case c14 => k_is); (case k14 => k_is); (case a15 => k_is); (case l15 => k_is); (case c15 => k_is); (case k15 => k_is); (case a16 => k_is); (case l16 => k_is); (case c16 => k_is); (case k16 => k_is); (case a17 => k_is); (case l17 => k_is); (case c17 => k_is); (case k17 => k_is); (case a18 => k_is); (case l18 => k_is); (case c18 => k_is); (case k18 => k_is); (case a19 => k_is); (case l19 => k_is); (case c19 => k_is); (case k19 => k_is); (case a20 => k_is); (case l20 => k_is); (case c20 => k_is); (case k20 => k_is); (case z0 => k_is); (case z1 => k_is); (case z2 => k_is); (case z3 => k_is); (case z4 => k_is); (case z5 => k_is); (case z6 => k_is); (case z7 => k_is); (case z8 => k_is); (case z9 => k_is); (case z10 => k_is); (case z11 => k_is); (case z12 => k_is); (case z13 => k_is); (case z14 => k_is); (case z15 => k_is); (case z16 => k_is); (case z17 => k_is); (case z18 => k_is); (case z19 => k_is)
