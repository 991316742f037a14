import PyProof.Rows.All
import Wide.All
import OpenK.AllK
import Wide.FinOn
import HandS.ForMost
import HandS.ForExc
import HandS.Wide
import HandS.Gcd
import HandS.IsInst
import HandS.Deep
import HandS.TupAny
import HandS.TupMul
import HandS.TupLe
import HandS.Walk
import HandS.Zip
import HandS.Style
import HandS.Flow
import KE.KMathG
import HandS.CallSlots
import HandS.ExcOwn
import KE.GoesNew
import HandS.Defaults
import HandS.HeadHook2
import HandS.Star
import HandS.Head0
import HandS.Head1
import HandS.Head2
import HandS.HeadEnd
import PyProof.SumWalkG
import HandS.ExcValue
import HandS.Head3
import PySem.Challenge.RW_evendraws_k22_whole_first_cells_cuts_and
set_option Elab.async false
set_option linter.all false
set_option maxRecDepth 100000
/-! Z: a functional layer. A Python expression or statement computes what a Lean function over plain data says. -/
namespace Z
open PySem PySem.Spec PyProof.Rows L2

abbrev D := PyData
abbrev Sg := L2.St
/-- what an expression hands on: data; a list that nobody else holds; an object of the store; what slot i holds -/
inductive W where
  | val (d : D) | own (ds : List D) | ref (n : Nat) | peek (i : Nat) | scr (ns : List Int)
structure S where
  env : List (Option W)
  st : List (List D)
structure Exc where
  name : Str
  arg : Option (Str × D)
inductive Out (σ α : Type) where
  | fail | ok (a : α) (s : σ) | err (x : Exc) (s : σ)
abbrev M (α : Type) := S → Out S α
abbrev Store := List (List D)
abbrev Fn := List W → Store → Out Store W

def M.pure {α : Type} (a : α) : M α := fun s => .ok a s
def M.bind {α β : Type} (m : M α) (k : α → M β) : M β := fun s => match m s with
  | .fail => .fail
  | .err x s' => .err x s'
  | .ok a s' => k a s'
def M.fail {α : Type} : M α := fun _ => .fail
instance : Monad M where
  pure := M.pure
  bind := M.bind
def Run {α : Type} (m : M α) (s : S) (ok : α → S → Prop) (er : Exc → S → Prop) : Prop := match m s with
  | .fail => False
  | .ok a s' => ok a s'
  | .err x s' => er x s'
theorem Run.bind {α β : Type} {m : M α} {k : α → M β} {s : S} {ok : β → S → Prop} {er : Exc → S → Prop} (h : Run (m >>= k) s ok er) : Run m s (fun a s' => Run (k a) s' ok er) er := by
  show (match m s with | .fail => False | .ok a s' => Run (k a) s' ok er | .err x s' => er x s')
  have h' : (match M.bind m k s with | .fail => False | .ok a s' => ok a s' | .err x s' => er x s') := h
  unfold M.bind at h'
  cases e : m s with
  | fail => rw [e] at h'; exact h'
  | ok a s' => rw [e] at h'; exact h'
  | err x s' => rw [e] at h'; exact h'
theorem Run.mono {α : Type} {m : M α} {s : S} {ok ok' : α → S → Prop} {er er' : Exc → S → Prop} (h : Run m s ok er) (ho : ∀ a s', m s = .ok a s' → ok a s' → ok' a s') (he : ∀ x s', m s = .err x s' → er x s' → er' x s') : Run m s ok' er' := by
  unfold Run at h ⊢
  cases e : m s with
  | fail => rw [e] at h; exact h
  | ok a s' => rw [e] at h; exact ho a s' e h
  | err x s' => rw [e] at h; exact he x s' e h
theorem Run.pure {α : Type} {a : α} {s : S} {ok : α → S → Prop} {er : Exc → S → Prop} (h : Run (Pure.pure a : M α) s ok er) : ok a s := h

/-! ### data on the heap -/
abbrev Fz := Addr → Prop
def H0 : Hp := fun _ => none
/-- the script: frozen by the entry, or written by the module -/
def ScrAt (K : PySem.W.Frag) (H : Hp) (a : Addr) (ns : List Int) : Prop := (∃ o, H a = some (.frz o (.lst (ns.map V.int)))) ∨ SqL K H0 a (ns.map V.int)
theorem SqL.h0 {K : PySem.W.Frag} {H : Hp} {a : Addr} {xs : List V} (h : SqL K H0 a xs) : SqL K H a xs := by
  rcases h with (h | ⟨o, h⟩) | h
  · cases h
  · cases h
  · exact .inr h
theorem ScrAt.sq {K : PySem.W.Frag} {H : Hp} {a : Addr} {ns : List Int} (h : ScrAt K H a ns) : SqL K H a (ns.map V.int) := by
  rcases h with ⟨o, h⟩ | h
  · exact .inl (.inr ⟨o, h⟩)
  · exact SqL.h0 h
mutual
inductive Rp (K : PySem.W.Frag) (F : Fz) (H : Hp) : V → D → Prop
  | non : Rp K F H .non .none
  | bl (b : Bool) : Rp K F H (.bl b) (.bool b)
  | int (i : Int) : Rp K F H (.int i) (.int i)
  | str (x : Str) : Rp K F H (.str x) (.str x)
  | lst {a : Addr} {xs : List V} {ds : List D} : F a → H a = some (.lst xs) → RpAll K F H xs ds → Rp K F H (.ref a) (.list ds)
  | tup {a : Addr} {xs : List V} {ds : List D} : SqT K H a xs → RpAll K F H xs ds → Rp K F H (.ref a) (.tuple ds)
inductive RpAll (K : PySem.W.Frag) (F : Fz) (H : Hp) : List V → List D → Prop
  | nil : RpAll K F H [] []
  | cons {v : V} {vs : List V} {d : D} {ds : List D} : Rp K F H v d → RpAll K F H vs ds → RpAll K F H (v :: vs) (d :: ds)
end
def fixd : HO → Bool
  | .tup _ => true
  | .frz _ _ => true
  | _ => false
def Stay (F : Fz) (H H' : Hp) : Prop := ∀ a o, H a = some o → (F a ∨ fixd o = true) → H' a = some o
section
variable {K : PySem.W.Frag} {F F' : Fz} {H H' : Hp}
theorem ScrAt.mono {a : Addr} {ns : List Int} (st : Stay F H H') (h : ScrAt K H a ns) : ScrAt K H' a ns := by
  rcases h with ⟨o, h⟩ | h
  · exact .inl ⟨o, st _ _ h (.inr rfl)⟩
  · exact .inr h
theorem sqT_stay {a : Addr} {xs : List V} (st : Stay F H H') (h : SqT K H a xs) : SqT K H' a xs := by
  rcases h with (h | ⟨o, h⟩) | h
  · exact .inl (.inl (st _ _ h (.inr rfl)))
  · exact .inl (.inr ⟨o, st _ _ h (.inr rfl)⟩)
  · exact .inr h
mutual
theorem Rp.mono (st : Stay F H H') (sub : ∀ a, F a → F' a) : ∀ (d : D) (v : V), Rp K F H v d → Rp K F' H' v d
  | .none, _, h => by cases h; exact .non
  | .bool b, _, h => by cases h; exact .bl b
  | .int i, _, h => by cases h; exact .int i
  | .str x, _, h => by cases h; exact .str x
  | .list ds, _, h => by
    cases h with
    | lst f e b => exact .lst (sub _ f) (st _ _ e (.inl f)) (RpAll.mono st sub ds _ b)
  | .tuple ds, _, h => by
    cases h with
    | tup a b => exact .tup (sqT_stay st a) (RpAll.mono st sub ds _ b)
  | .dict _, _, h => by cases h
theorem RpAll.mono (st : Stay F H H') (sub : ∀ a, F a → F' a) : ∀ (ds : List D) (vs : List V), RpAll K F H vs ds → RpAll K F' H' vs ds
  | [], _, h => by cases h; exact .nil
  | d :: ds, _, h => by
    cases h with
    | cons a b => exact .cons (Rp.mono st sub d _ a) (RpAll.mono st sub ds _ b)
end
mutual
theorem Rp.dp : ∀ (d : D) (v : V), Rp K F H v d → Dp K H v d
  | .none, _, h => by cases h; exact .non
  | .bool b, _, h => by cases h; exact .bl b
  | .int i, _, h => by cases h; exact .int i
  | .str x, _, h => by cases h; exact .str x
  | .list ds, _, h => by
    cases h with
    | lst f e b => exact .lst (SqL.of e) (RpAll.dp ds _ b)
  | .tuple ds, _, h => by
    cases h with
    | tup a b => exact .tup a (RpAll.dp ds _ b)
  | .dict _, _, h => by cases h
theorem RpAll.dp : ∀ (ds : List D) (vs : List V), RpAll K F H vs ds → DpAll K H vs ds
  | [], _, h => by cases h; exact .nil
  | d :: ds, _, h => by
    cases h with
    | cons a b => exact .cons (Rp.dp d _ a) (RpAll.dp ds _ b)
end
theorem RpAll.length : ∀ {ds : List D} {vs : List V}, RpAll K F H vs ds → vs.length = ds.length
  | [], _, h => by cases h; rfl
  | d :: ds, _, h => by
    cases h with
    | cons a b => simp [RpAll.length b]
theorem RpAll.get : ∀ {ds : List D} {vs : List V} {i : Nat} {d : D}, RpAll K F H vs ds → ds[i]? = some d → ∃ v, vs[i]? = some v ∧ Rp K F H v d
  | [], _, i, d, h, e => by simp at e
  | d :: ds, _, 0, x, h, e => by
    cases h with
    | cons a b => simp at e; subst e; exact ⟨_, rfl, a⟩
  | d :: ds, _, i + 1, x, h, e => by
    cases h with
    | cons a b =>
      obtain ⟨v, h1, h2⟩ := RpAll.get b (i := i) (by simpa using e)
      exact ⟨v, by simpa using h1, h2⟩
theorem RpAll.getV : ∀ {ds : List D} {vs : List V} {i : Nat} {v : V}, RpAll K F H vs ds → vs[i]? = some v → ∃ d, ds[i]? = some d ∧ Rp K F H v d
  | [], _, i, v, h, e => by cases h; simp at e
  | d :: ds, _, 0, x, h, e => by
    cases h with
    | cons a b => simp at e; subst e; exact ⟨_, rfl, a⟩
  | d :: ds, _, i + 1, x, h, e => by
    cases h with
    | cons a b =>
      obtain ⟨v, h1, h2⟩ := RpAll.getV b (i := i) (by simpa using e)
      exact ⟨v, by simpa using h1, h2⟩
theorem RpAll.append : ∀ {ds es : List D} {vs ws : List V}, RpAll K F H vs ds → RpAll K F H ws es → RpAll K F H (vs ++ ws) (ds ++ es)
  | [], _, _, _, h, g => by cases h; exact g
  | d :: ds, _, _, _, h, g => by
    cases h with
    | cons a b => exact .cons a (RpAll.append b g)
theorem RpAll.take : ∀ {ds : List D} {vs : List V} (n : Nat), RpAll K F H vs ds → RpAll K F H (vs.take n) (ds.take n)
  | _, _, 0, _ => .nil
  | _, _, n + 1, .nil => .nil
  | _, _, n + 1, .cons a b => .cons a (RpAll.take n b)
theorem RpAll.drop : ∀ {ds : List D} {vs : List V} (n : Nat), RpAll K F H vs ds → RpAll K F H (vs.drop n) (ds.drop n)
  | _, _, 0, h => h
  | _, _, n + 1, .nil => .nil
  | _, _, n + 1, .cons a b => RpAll.drop n b
theorem RpAll.set : ∀ {ds : List D} {vs : List V} {v : V} {d : D} (n : Nat), RpAll K F H vs ds → Rp K F H v d → RpAll K F H (vs.set n v) (ds.set n d)
  | _, _, _, _, _, .nil, _ => .nil
  | _, _, _, _, 0, .cons a b, h => .cons h b
  | _, _, _, _, n + 1, .cons a b, h => .cons a (RpAll.set n b h)
theorem RpAll.reverse : ∀ {ds : List D} {vs : List V}, RpAll K F H vs ds → RpAll K F H vs.reverse ds.reverse
  | _, _, .nil => .nil
  | _, _, .cons a b => by
    simp only [List.reverse_cons]
    exact (RpAll.reverse b).append (.cons a .nil)
theorem RpAll.eraseIdx : ∀ {ds : List D} {vs : List V} (n : Nat), RpAll K F H vs ds → RpAll K F H (vs.eraseIdx n) (ds.eraseIdx n)
  | _, _, _, .nil => .nil
  | _, _, 0, .cons a b => b
  | _, _, n + 1, .cons a b => .cons a (RpAll.eraseIdx n b)
theorem RpAll.rep {ds : List D} {vs : List V} (h : RpAll K F H vs ds) : ∀ k : Nat, RpAll K F H (List.replicate k vs).flatten (List.replicate k ds).flatten
  | 0 => .nil
  | k + 1 => by
    simp only [List.replicate_succ, List.flatten_cons]
    exact h.append (RpAll.rep h k)
theorem stay_refl : Stay F H H := fun _ _ h _ => h
theorem stay_upd {p : Addr} {o : HO} (h : H p = none) : Stay F H (upd H p o) := fun a u e _ => by
  rw [upd_ne (ne_of_none e h)]; exact e
end

/-! ### the state -/
structure Base where
  F : Fz
  ρ : List Addr
  H : Hp
/-- from a call's entry on: what was tracked and is not of the store stays; what is frozen stays so -/
structure Fx (F : Fz) (ρ : List Addr) (H : Hp) (F' : Fz) (ρ' : List Addr) (H' : Hp) : Prop where
  sub : ∀ a, F a → F' a
  rho : ∃ m, ρ' = ρ ++ m
  new : ∀ a, a ∈ ρ' → a ∈ ρ ∨ H a = none
  keep : ∀ a o, H a = some o → a ∉ ρ → H' a = some o
  fz : ∀ a, F' a → F a ∨ H a = none
def OwnedBy (s : S) (σ : Sg) (a : Addr) : Prop := ∃ (i : Nat) (ds : List D), s.env[i]? = some (some (.own ds)) ∧ σ[i]? = some (some (.ref a))
structure Sto (K : PySem.W.Frag) (F : Fz) (ρ : List Addr) (st : Store) (H : Hp) : Prop where
  len : st.length = ρ.length
  nd : ρ.Nodup
  at_ : ∀ (n : Nat) (ds : List D), st[n]? = some ds → ∃ a vs, ρ[n]? = some a ∧ ¬ F a ∧ H a = some (.lst vs) ∧ RpAll K F H vs ds
/-- what a slot holds -/
def SOk (K : PySem.W.Frag) (B : Base) (F : Fz) (ρ : List Addr) (H : Hp) (v : V) : W → Prop
  | .val d => Rp K F H v d
  | .own ds => ∃ a vs, v = .ref a ∧ H a = some (.lst vs) ∧ RpAll K F H vs ds ∧ ¬ F a ∧ a ∉ ρ ∧ B.H a = none
  | .ref n => ∃ a, v = .ref a ∧ ρ[n]? = some a
  | .peek _ => False
  | .scr ns => ∃ a, v = .ref a ∧ ScrAt K H a ns
structure Ok (K : PySem.W.Frag) (B : Base) (F : Fz) (ρ : List Addr) (s : S) (σ : Sg) (H : Hp) : Prop where
  len : s.env.length = σ.length
  base : Fx B.F B.ρ B.H F ρ H
  trk : ∀ a, F a → ∃ xs, H a = some (.lst xs)
  sto : Sto K F ρ s.st H
  env : ∀ (i : Nat) (w : W), s.env[i]? = some (some w) → ∃ v, σ[i]? = some (some v) ∧ SOk K B F ρ H v w
  sep : ∀ (i j : Nat) (ds es : List D) (a : Addr), s.env[i]? = some (some (.own ds)) → s.env[j]? = some (some (.own es)) → σ[i]? = some (some (.ref a)) → σ[j]? = some (some (.ref a)) → i = j
/-- a value in hand -/
def WOk (K : PySem.W.Frag) (B : Base) (F : Fz) (ρ : List Addr) (s : S) (σ : Sg) (H : Hp) (v : V) : W → Prop
  | .val d => Rp K F H v d
  | .own ds => ∃ a vs, v = .ref a ∧ H a = some (.lst vs) ∧ RpAll K F H vs ds ∧ ¬ F a ∧ a ∉ ρ ∧ ¬ OwnedBy s σ a ∧ B.H a = none
  | .ref n => ∃ a, v = .ref a ∧ ρ[n]? = some a
  | .peek i => σ[i]? = some (some v)
  | .scr ns => ∃ a, v = .ref a ∧ ScrAt K H a ns
/-- within an expression -/
structure Ext (s : S) (σ : Sg) (F : Fz) (ρ : List Addr) (H : Hp) (s' : S) (F' : Fz) (ρ' : List Addr) (H' : Hp) : Prop where
  sub : ∀ a, F a → F' a
  rho : ∃ m, ρ' = ρ ++ m
  new : ∀ a, a ∈ ρ' → a ∈ ρ ∨ H a = none
  keep : ∀ a o, H a = some o → a ∉ ρ → ¬ OwnedBy s σ a → H' a = some o
  th : ∀ a, H' a = none → H a = none
  fz : ∀ a, F' a → F a ∨ H a = none ∨ OwnedBy s σ a
  ow : ∀ a, OwnedBy s' σ a → OwnedBy s σ a
/-- a fresh list is not one that stood -/
def Fresh (H : Hp) (v : V) : W → Prop
  | .own _ => ∀ a, v = .ref a → H a = none
  | _ => True
section
variable {K : PySem.W.Frag} {B : Base} {F F' F1 F2 : Fz} {ρ ρ' ρ1 ρ2 : List Addr} {s s' s1 s2 : S} {σ σ' : Sg} {H H' H1 H2 : Hp} {v : V} {w : W} {p : Addr} {o : HO}
theorem Sto.mem {st : Store} (h : Sto K F ρ st H) {a : Addr} (ha : a ∈ ρ) : ¬ F a ∧ ∃ vs, H a = some (.lst vs) := by
  obtain ⟨n, hn, e⟩ := List.mem_iff_getElem.mp ha
  have hn' : n < st.length := by rw [h.len]; exact hn
  obtain ⟨b, vs, e1, e2, e3, _⟩ := h.at_ n st[n] (List.getElem?_eq_getElem hn')
  rw [List.getElem?_eq_getElem hn] at e1
  have e4 : ρ[n] = b := Option.some.inj e1
  rw [e] at e4
  subst e4
  exact ⟨e2, vs, e3⟩
theorem Fx.stay {st : Store} (x : Fx F ρ H F' ρ' H') (h : Sto K F ρ st H) : Stay F H H' := fun a o e q => x.keep a o e fun ha => by
  obtain ⟨n1, vs, n2⟩ := h.mem ha
  rcases q with q | q
  · exact n1 q
  · rw [n2] at e; cases e; cases q
theorem Fx.refl : Fx F ρ H F ρ H := ⟨fun _ h => h, ⟨[], by simp⟩, fun _ h => .inl h, fun _ _ h _ => h, fun _ h => .inl h⟩
theorem Ext.refl : Ext s σ F ρ H s F ρ H := ⟨fun _ h => h, ⟨[], by simp⟩, fun _ h => .inl h, fun _ _ h _ _ => h, fun _ h => h, fun _ h => .inl h, fun _ h => h⟩
theorem Ext.there {st : Store} (x : Ext s σ F ρ H s' F' ρ' H') (h : Sto K F' ρ' st H') {a : Addr} (e : H' a = none) : H a = none := x.th a e
theorem Fx.there {st : Store} (x : Fx F ρ H F' ρ' H') (h : Sto K F' ρ' st H') {a : Addr} (e : H' a = none) : H a = none := by
  cases q : H a with
  | none => rfl
  | some o =>
    by_cases ha : a ∈ ρ
    · obtain ⟨m, em⟩ := x.rho
      obtain ⟨_, vs, e2⟩ := h.mem (a := a) (by rw [em]; exact List.mem_append_left _ ha)
      rw [e2] at e; cases e
    · rw [x.keep a o q ha] at e; cases e
theorem Ext.trans {st : Store} (x : Ext s σ F ρ H s1 F1 ρ1 H1) (y : Ext s1 σ F1 ρ1 H1 s2 F2 ρ2 H2) (h : Sto K F1 ρ1 st H1) : Ext s σ F ρ H s2 F2 ρ2 H2 where
  sub := fun a q => y.sub a (x.sub a q)
  rho := by
    obtain ⟨m, e⟩ := x.rho
    obtain ⟨m', e'⟩ := y.rho
    exact ⟨m ++ m', by rw [e', e, List.append_assoc]⟩
  new := fun a q => by
    rcases y.new a q with q | q
    · exact x.new a q
    · exact .inr (x.there h q)
  keep := fun a o q n no => y.keep a o (x.keep a o q n no) (fun z => by
    rcases x.new a z with z | z
    · exact n z
    · rw [q] at z; cases z) fun z => no (x.ow a z)
  th := fun a e => x.th a (y.th a e)
  fz := fun a q => by
    rcases y.fz a q with q | q | q
    · exact x.fz a q
    · exact .inr (.inl (x.there h q))
    · exact .inr (.inr (x.ow a q))
  ow := fun a q => x.ow a (y.ow a q)
theorem Fx.trans {st : Store} (x : Fx F ρ H F1 ρ1 H1) (y : Fx F1 ρ1 H1 F2 ρ2 H2) (h : Sto K F1 ρ1 st H1) : Fx F ρ H F2 ρ2 H2 where
  sub := fun a q => y.sub a (x.sub a q)
  rho := by
    obtain ⟨m, e⟩ := x.rho
    obtain ⟨m', e'⟩ := y.rho
    exact ⟨m ++ m', by rw [e', e, List.append_assoc]⟩
  new := fun a q => by
    rcases y.new a q with q | q
    · exact x.new a q
    · exact .inr (x.there h q)
  keep := fun a o q n => y.keep a o (x.keep a o q n) fun z => by
    rcases x.new a z with z | z
    · exact n z
    · rw [q] at z; cases z
  fz := fun a q => by
    rcases y.fz a q with q | q
    · exact x.fz a q
    · exact .inr (x.there h q)
theorem Ok.fresh (k : Ok K B F ρ s σ H) (h : H p = none) : B.H p = none := k.base.there k.sto h
theorem Ok.owned {a : Addr} (k : Ok K B F ρ s σ H) (h : OwnedBy s σ a) : ¬ F a ∧ a ∉ ρ ∧ B.H a = none ∧ ∃ vs, H a = some (.lst vs) := by
  obtain ⟨i, ds, e1, e2⟩ := h
  obtain ⟨v, e3, b, vs, e4, e5, _, e6, e7, e8⟩ := k.env i _ e1
  rw [e2] at e3
  cases e3
  cases e4
  exact ⟨e6, e7, e8, vs, e5⟩
theorem Ok.stay (k : Ok K B F ρ s σ H) (x : Ext s σ F ρ H s' F' ρ' H') : Stay F H H' := fun a o e q => x.keep a o e (fun ha => by
  obtain ⟨n1, vs, n2⟩ := k.sto.mem ha
  rcases q with q | q
  · exact n1 q
  · rw [n2] at e; cases e; cases q) fun ho => by
  obtain ⟨n1, _, _, vs, n2⟩ := k.owned ho
  rcases q with q | q
  · exact n1 q
  · rw [n2] at e; cases e; cases q
theorem Ok.nF (k : Ok K B F ρ s σ H) (h : H p = none) : ¬ F p := fun f => by
  obtain ⟨xs, e⟩ := k.trk p f
  rw [h] at e; cases e
theorem Ok.nρ (k : Ok K B F ρ s σ H) (h : H p = none) : p ∉ ρ := fun f => by
  obtain ⟨_, xs, e⟩ := k.sto.mem f
  rw [h] at e; cases e
theorem Ok.nO (k : Ok K B F ρ s σ H) (h : H p = none) : ¬ OwnedBy s σ p := fun ⟨i, ds, e1, e2⟩ => by
  obtain ⟨v, e3, a, vs, e4, e5, _⟩ := k.env i _ e1
  rw [e2] at e3
  cases e3
  cases e4
  rw [h] at e5; cases e5
theorem RpAll.st {ds : List D} {vs : List V} (h : RpAll K F H vs ds) (t : Stay F H H') (sub : ∀ a, F a → F' a) : RpAll K F' H' vs ds := RpAll.mono t sub _ _ h
theorem Rp.st {d : D} {v : V} (h : Rp K F H v d) (t : Stay F H H') (sub : ∀ a, F a → F' a) : Rp K F' H' v d := Rp.mono t sub _ _ h
theorem WOk.mono (k : Ok K B F ρ s σ H) (x : Ext s σ F ρ H s' F' ρ' H') (h : WOk K B F ρ s σ H v w) : WOk K B F' ρ' s' σ H' v w := by
  cases w with
  | val d => exact Rp.st h (k.stay x) x.sub
  | own ds =>
    obtain ⟨a, vs, e1, e2, e3, e4, e5, e6, e7⟩ := h
    refine ⟨a, vs, e1, x.keep a _ e2 e5 e6, e3.st (k.stay x) x.sub, fun f => ?_, fun f => ?_, fun f => e6 (x.ow a f), e7⟩
    · rcases x.fz a f with f | f | f
      · exact e4 f
      · rw [e2] at f; cases f
      · exact e6 f
    · rcases x.new a f with f | f
      · exact e5 f
      · rw [e2] at f; cases f
  | ref n =>
    obtain ⟨a, e1, e2⟩ := h
    obtain ⟨m, em⟩ := x.rho
    refine ⟨a, e1, ?_⟩
    rw [em]
    obtain ⟨hn, e3⟩ := List.getElem?_eq_some_iff.mp e2
    rw [List.getElem?_append_left hn]; exact e2
  | peek i => exact h
  | scr ns =>
    obtain ⟨a, e, q⟩ := h
    exact ⟨a, e, q.mono (k.stay x)⟩
theorem Fresh.back {st : Store} (x : Ext s σ F ρ H s' F' ρ' H') (h : Sto K F' ρ' st H') (f : Fresh H' v w) : Fresh H v w := by
  cases w with
  | own ds => exact fun a e => x.there h (f a e)
  | val d => trivial
  | ref n => trivial
  | peek i => trivial
  | scr ns => trivial
/-- a new object -/
theorem Ok.new (k : Ok K B F ρ s σ H) (h : H p = none) : Ok K B F ρ s σ (upd H p o) where
  len := k.len
  base := k.base.trans ⟨fun _ h => h, ⟨[], by simp⟩, fun _ h => .inl h, fun a u e _ => by rw [upd_ne (ne_of_none e h)]; exact e, fun _ h => .inl h⟩ k.sto
  trk := fun a f => by
    obtain ⟨xs, e⟩ := k.trk a f
    exact ⟨xs, by rw [upd_ne (ne_of_none e h)]; exact e⟩
  sto := ⟨k.sto.len, k.sto.nd, fun n ds e => by
    obtain ⟨a, vs, e1, e2, e3, e4⟩ := k.sto.at_ n ds e
    exact ⟨a, vs, e1, e2, by rw [upd_ne (ne_of_none e3 h)]; exact e3, e4.st (stay_upd h) fun _ z => z⟩⟩
  env := fun i w e => by
    obtain ⟨v, e1, e2⟩ := k.env i w e
    refine ⟨v, e1, ?_⟩
    cases w with
    | val d => exact Rp.st e2 (stay_upd h) fun _ z => z
    | own ds =>
      obtain ⟨a, vs, q1, q2, q3, q4, q5, q6⟩ := e2
      exact ⟨a, vs, q1, by rw [upd_ne (ne_of_none q2 h)]; exact q2, q3.st (stay_upd h) fun _ z => z, q4, q5, q6⟩
    | ref n => exact e2
    | peek i => exact e2
    | scr ns =>
      obtain ⟨a, q1, q2⟩ := e2
      exact ⟨a, q1, q2.mono (F := F) (stay_upd h)⟩
  sep := k.sep
theorem upd_none {a p : Addr} (e : upd H p o a = none) : H a = none := by
  by_cases h : a = p
  · rw [h, upd_same] at e; cases e
  · rw [upd_ne h] at e; exact e
theorem Ext.new_ (h : H p = none) : Ext s σ F ρ H s F ρ (upd H p o) :=
  ⟨fun _ h => h, ⟨[], by simp⟩, fun _ h => .inl h, fun a u e _ _ => by rw [upd_ne (ne_of_none e h)]; exact e, fun a e => upd_none e, fun _ h => .inl h, fun _ h => h⟩
/-- a list of one's own is frozen -/
theorem Ok.freeze {a : Addr} {vs : List V} (k : Ok K B F ρ s σ H) (h1 : H a = some (.lst vs)) (h2 : a ∉ ρ) (h3 : ¬ OwnedBy s σ a) (h4 : B.H a = none) : Ok K B (fun b => F b ∨ b = a) ρ s σ H where
  len := k.len
  base := ⟨fun b f => .inl (k.base.sub b f), k.base.rho, k.base.new, k.base.keep, fun b f => by
    rcases f with f | f
    · exact k.base.fz b f
    · rw [f]; exact .inr h4⟩
  trk := fun b f => by
    rcases f with f | f
    · exact k.trk b f
    · rw [f]; exact ⟨vs, h1⟩
  sto := ⟨k.sto.len, k.sto.nd, fun n ds e => by
    obtain ⟨b, ws, e1, e2, e3, e4⟩ := k.sto.at_ n ds e
    refine ⟨b, ws, e1, fun f => ?_, e3, e4.st stay_refl fun _ z => .inl z⟩
    rcases f with f | f
    · exact e2 f
    · subst f; exact h2 (List.mem_of_getElem? e1)⟩
  env := fun i w e => by
    obtain ⟨v, e1, e2⟩ := k.env i w e
    refine ⟨v, e1, ?_⟩
    cases w with
    | val d => exact Rp.st e2 stay_refl fun _ z => .inl z
    | own ds =>
      obtain ⟨b, ws, q1, q2, q3, q4, q5, q6⟩ := e2
      refine ⟨b, ws, q1, q2, q3.st stay_refl (fun _ z => .inl z), fun f => ?_, q5, q6⟩
      rcases f with f | f
      · exact q4 f
      · subst f q1; exact h3 ⟨i, ds, e, e1⟩
    | ref n => exact e2
    | peek i => exact e2
    | scr ns => exact e2
  sep := k.sep
theorem Ext.freeze_ {a : Addr} (h : H a = none ∨ OwnedBy s σ a) (ow : ∀ a, OwnedBy s' σ a → OwnedBy s σ a) : Ext s σ F ρ H s' (fun b => F b ∨ b = a) ρ H :=
  ⟨fun _ h => .inl h, ⟨[], by simp⟩, fun _ h => .inl h, fun a u e _ _ => e, fun _ e => e, fun b f => by
    rcases f with f | f
    · exact .inl f
    · rw [f]; exact .inr h, ow⟩
end
end Z
/-! Z, part 2: the judgements, and expressions. -/
namespace Z
open PySem PySem.Spec PyProof.Rows L2

/-! ### contents -/
def contW (st : Store) : W → Option D
  | .val d => some d
  | .own ds => some (.list ds)
  | .ref n => (st[n]?).map .list
  | .peek _ => none
  | .scr ns => some (.list (ns.map .int))
def content (w : W) (s : S) : Option D := match w with
  | .peek i => (s.env[i]?).bind fun o => o.bind (contW s.st)
  | w => contW s.st w
def scrW : W → Bool
  | .scr _ => true
  | _ => false
def isScr (w : W) (s : S) : Bool := match w with
  | .peek i => ((s.env[i]?).bind fun o => o.map scrW).getD false
  | w => scrW w
def look (w : W) : M D := fun s => match content w s with
  | some d => .ok d s
  | none => .fail
/-- for what wants a list that is no script -/
def lookT (w : W) : M D := fun s => match content w s with
  | some d => if isScr w s then .fail else .ok d s
  | none => .fail
def ofO {α : Type} (o : Option α) : M α := fun s => match o with
  | some a => .ok a s
  | none => .fail
/-- what is to be read: data, or a list as it stands -/
inductive Lk (K : PySem.W.Frag) (F : Fz) (H : Hp) : V → D → Prop
  | of {v : V} {d : D} : Rp K F H v d → Lk K F H v d
  | lst {a : Addr} {vs : List V} {ds : List D} : SqL K H a vs → RpAll K F H vs ds → Lk K F H (.ref a) (.list ds)
inductive LkT (K : PySem.W.Frag) (F : Fz) (H : Hp) : V → D → Prop
  | of {v : V} {d : D} : Rp K F H v d → LkT K F H v d
  | lst {a : Addr} {vs : List V} {ds : List D} : H a = some (.lst vs) → RpAll K F H vs ds → LkT K F H (.ref a) (.list ds)
section
variable {K : PySem.W.Frag} {B : Base} {F F' F1 F2 : Fz} {ρ ρ' ρ1 ρ2 : List Addr} {s s' s1 s2 : S} {σ σ' : Sg} {H H' H1 H2 : Hp} {v : V} {w : W} {p : Addr} {o : HO} {d : D}
theorem rp_ints : ∀ ns : List Int, RpAll K F H (ns.map V.int) (ns.map PyData.int)
  | [] => .nil
  | n :: ns => .cons (.int n) (rp_ints ns)
theorem LkT.lk (h : LkT K F H v d) : Lk K F H v d := by
  cases h with
  | of r => exact .of r
  | lst e r => exact .lst (SqL.of e) r
theorem contW_ok (k : Ok K B F ρ s σ H) (o : SOk K B F ρ H v w) (e : contW s.st w = some d) : Lk K F H v d ∧ (scrW w = false → LkT K F H v d) := by
  cases w with
  | val d' => cases e; exact ⟨.of o, fun _ => .of o⟩
  | own ds =>
    cases e
    obtain ⟨a, vs, rfl, h1, h2, _⟩ := o
    exact ⟨.lst (SqL.of h1) h2, fun _ => .lst h1 h2⟩
  | ref n =>
    obtain ⟨a, rfl, h1⟩ := o
    have e' : (s.st[n]?).map PyData.list = some d := e
    cases q : s.st[n]? with
    | none => rw [q] at e'; cases e'
    | some ds =>
      rw [q] at e'
      cases e'
      obtain ⟨b, vs, q1, q2, q3, q4⟩ := k.sto.at_ n ds q
      rw [h1] at q1
      cases q1
      exact ⟨.lst (SqL.of q3) q4, fun _ => .lst q3 q4⟩
  | peek i => cases e
  | scr ns =>
    cases e
    obtain ⟨a, rfl, h1⟩ := o
    exact ⟨.lst h1.sq (rp_ints ns), fun z => by cases z⟩
theorem content_ok (k : Ok K B F ρ s σ H) (o : WOk K B F ρ s σ H v w) (e : content w s = some d) : Lk K F H v d ∧ (isScr w s = false → LkT K F H v d) := by
  cases w with
  | val d' => cases e; exact ⟨.of o, fun _ => .of o⟩
  | own ds =>
    cases e
    obtain ⟨a, vs, rfl, h1, h2, _⟩ := o
    exact ⟨.lst (SqL.of h1) h2, fun _ => .lst h1 h2⟩
  | ref n => exact contW_ok (w := .ref n) k o e
  | scr ns => exact contW_ok (w := .scr ns) k o e
  | peek i =>
    have e' : (s.env[i]?).bind (fun o => o.bind (contW s.st)) = some d := e
    cases q : s.env[i]? with
    | none => rw [q] at e'; cases e'
    | some o' =>
      cases o' with
      | none => rw [q] at e'; cases e'
      | some w' =>
        rw [q] at e'
        obtain ⟨v', h1, h2⟩ := k.env i w' q
        have o' : σ[i]? = some (some v) := o
        rw [o'] at h1
        cases h1
        have h3 := contW_ok k h2 e'
        refine ⟨h3.1, fun z => h3.2 ?_⟩
        have z' : ((s.env[i]?).bind fun o => o.map scrW).getD false = false := z
        rw [q] at z'
        exact z'
theorem Run.look {β : Type} {w : W} {k : D → M β} {ok : β → S → Prop} {er : Exc → S → Prop} (h : Run (Z.look w >>= k) s ok er) : ∃ d, content w s = some d ∧ Run (k d) s ok er := by
  have h' := Run.bind h
  unfold Run Z.look at h'
  cases e : content w s with
  | none => rw [e] at h'; exact h'.elim
  | some d => rw [e] at h'; exact ⟨d, rfl, h'⟩
theorem Run.lookT {β : Type} {w : W} {k : D → M β} {ok : β → S → Prop} {er : Exc → S → Prop} (h : Run (Z.lookT w >>= k) s ok er) : ∃ d, content w s = some d ∧ isScr w s = false ∧ Run (k d) s ok er := by
  have h' := Run.bind h
  unfold Run Z.lookT at h'
  cases e : content w s with
  | none => rw [e] at h'; exact h'.elim
  | some d =>
    rw [e] at h'
    cases q : isScr w s with
    | true => rw [q] at h'; exact h'.elim
    | false => rw [q] at h'; exact ⟨d, rfl, rfl, h'⟩
theorem Run.ofO {α : Type} {o : Option α} {ok : α → S → Prop} {er : Exc → S → Prop} (h : Run (Z.ofO o) s ok er) : ∃ a, o = some a ∧ ok a s := by
  unfold Run Z.ofO at h
  cases o with
  | none => exact h.elim
  | some a => exact ⟨a, rfl, h⟩
theorem Run.ofOb {α β : Type} {o : Option α} {k : α → M β} {ok : β → S → Prop} {er : Exc → S → Prop} (h : Run (Z.ofO o >>= k) s ok er) : ∃ a, o = some a ∧ Run (k a) s ok er := Run.ofO (Run.bind h)
end

/-! ### the judgements -/
def XOk (K : PySem.W.Frag) (mg : Str → Option Value) (F : Fz) (H : Hp) (x : Exc) (cls : Value) (d : Option Addr) : Prop :=
  ∃ C, mg x.name = some (.ref C) ∧ cls = .ref C ∧ match x.arg with
    | none => d = none
    | some (f, dd) => ∃ a v, d = some a ∧ H a = some (.xd [(f, v)]) ∧ Rp K F H v dd
def Er (K : PySem.W.Frag) (mg : Str → Option Value) (Wx : WX) (B : Base) (σ : Sg) (x : Exc) (s' : S) : Prop :=
  ∀ F' ρ' H' cls d, Ok K B F' ρ' s' σ H' → XOk K mg F' H' x cls d → Wx cls d σ H'
/-- what is known of a value behind an expression that began at s, F, ρ, H -/
def Post (K : PySem.W.Frag) (B : Base) (σ : Sg) (s : S) (F : Fz) (ρ : List Addr) (H : Hp) (Q : VK) (w : W) (s' : S) : Prop :=
  ∀ F' ρ' H' v, Ext s σ F ρ H s' F' ρ' H' → Ok K B F' ρ' s' σ H' → WOk K B F' ρ' s' σ H' v w → Fresh H v w → Q v H'
def PostB (K : PySem.W.Frag) (B : Base) (σ : Sg) (s : S) (F : Fz) (ρ : List Addr) (H : Hp) (Q : Bool → Hp → Prop) (b : Bool) (s' : S) : Prop :=
  ∀ F' ρ' H', Ext s σ F ρ H s' F' ρ' H' → Ok K B F' ρ' s' σ H' → Q b H'
inductive WAll (K : PySem.W.Frag) (B : Base) (F : Fz) (ρ : List Addr) (s : S) (σ : Sg) (H : Hp) : List V → List W → Prop
  | nil : WAll K B F ρ s σ H [] []
  | cons {v : V} {vs : List V} {w : W} {ws : List W} : WOk K B F ρ s σ H v w → WAll K B F ρ s σ H vs ws → WAll K B F ρ s σ H (v :: vs) (w :: ws)
def PostA (K : PySem.W.Frag) (B : Base) (σ : Sg) (s : S) (F : Fz) (ρ : List Addr) (H : Hp) (Q : List V → Hp → Prop) (ws : List W) (s' : S) : Prop :=
  ∀ F' ρ' H' vs, Ext s σ F ρ H s' F' ρ' H' → Ok K B F' ρ' s' σ H' → WAll K B F' ρ' s' σ H' vs ws → Q vs H'
/-- an expression, a test, arguments -/
def EM (K : PySem.W.Frag) (mg : Str → Option Value) (Wx : WX) (m : M W) : TE := fun σ H Q => ∃ B F ρ s, Ok K B F ρ s σ H ∧ Run m s (Post K B σ s F ρ H Q) (Er K mg Wx B σ)
def CM (K : PySem.W.Frag) (mg : Str → Option Value) (Wx : WX) (m : M Bool) : TT := fun σ H Q => ∃ B F ρ s, Ok K B F ρ s σ H ∧ Run m s (PostB K B σ s F ρ H Q) (Er K mg Wx B σ)
def AM (K : PySem.W.Frag) (mg : Str → Option Value) (Wx : WX) (m : M (List W)) : TA := fun σ H Q => ∃ B F ρ s, Ok K B F ρ s σ H ∧ Run m s (PostA K B σ s F ρ H Q) (Er K mg Wx B σ)
abbrev DE (X : Cx) (Wx : WX) (e : Expr) (m : M W) : Prop := PE X e (EM X.K X.mg Wx m)
abbrev DC (X : Cx) (Wx : WX) (e : Expr) (m : M Bool) : Prop := PT X e (CM X.K X.mg Wx m)
abbrev DA (X : Cx) (Wx : WX) (es : List Expr) (m : M (List W)) : Prop := PA X es (AM X.K X.mg Wx m)
theorem pe_mono {X : Cx} {e : Expr} {t t' : TE} (h : PE X e t) (k : ∀ σ H Q, t' σ H Q → t σ H Q) : PE X e t' := ⟨fun pins s σ H Q I q => h.run pins s σ H Q I (k _ _ _ q)⟩
theorem pt_mono {X : Cx} {e : Expr} {t t' : TT} (h : PT X e t) (k : ∀ σ H Q, t' σ H Q → t σ H Q) : PT X e t' := ⟨fun pins s σ H Q I q => h.run pins s σ H Q I (k _ _ _ q)⟩
theorem pw_mono {X : Cx} {e : Expr} {t t' : TT} (h : PW X e t) (k : ∀ σ H Q, t' σ H Q → t σ H Q) : PW X e t' := ⟨fun wh pins s σ H Q I q => h.run wh pins s σ H Q I (k _ _ _ q)⟩
theorem pa_mono {X : Cx} {e : List Expr} {t t' : TA} (h : PA X e t) (k : ∀ σ H Q, t' σ H Q → t σ H Q) : PA X e t' := ⟨fun pos pins s σ H Q I q => h.run pos pins s σ H Q I (k _ _ _ q)⟩
theorem ps_mono {X : Cx} {e : Stmt} {t t' : TS} (h : PS X e t) (k : ∀ D σ H, t' D σ H → t D σ H) : PS X e t' := ⟨fun pins s σ H D I q => h.run pins s σ H D I (k _ _ _ q)⟩
theorem pss_mono {X : Cx} {e : List Stmt} {t t' : TS} (h : PSs X e t) (k : ∀ D σ H, t' D σ H → t D σ H) : PSs X e t' := ⟨fun pins s σ H D I q => h.run pins s σ H D I (k _ _ _ q)⟩

section
variable {K : PySem.W.Frag} {mg : Str → Option Value} {Wx : WX} {B : Base} {F F' F1 F2 : Fz} {ρ ρ' ρ1 ρ2 : List Addr} {s s' s1 s2 : S} {σ σ' : Sg} {H H' H1 H2 : Hp} {v : V} {w : W} {p : Addr} {o : HO} {d : D} {Q : VK}
theorem Post.step {st : Store} (e : Ext s σ F ρ H s1 F1 ρ1 H1) (k : Sto K F1 ρ1 st H1) (h : Post K B σ s F ρ H Q w s') : Post K B σ s1 F1 ρ1 H1 Q w s' := fun F' ρ' H' v e' k' o' f' =>
  h F' ρ' H' v (e.trans e' k) k' o' (Fresh.back e k f')
theorem PostB.step {st : Store} {Q : Bool → Hp → Prop} {b : Bool} (e : Ext s σ F ρ H s1 F1 ρ1 H1) (k : Sto K F1 ρ1 st H1) (h : PostB K B σ s F ρ H Q b s') : PostB K B σ s1 F1 ρ1 H1 Q b s' := fun F' ρ' H' e' k' =>
  h F' ρ' H' (e.trans e' k) k'
theorem PostA.step {st : Store} {Q : List V → Hp → Prop} {ws : List W} (e : Ext s σ F ρ H s1 F1 ρ1 H1) (k : Sto K F1 ρ1 st H1) (h : PostA K B σ s F ρ H Q ws s') : PostA K B σ s1 F1 ρ1 H1 Q ws s' := fun F' ρ' H' vs e' k' o' =>
  h F' ρ' H' vs (e.trans e' k) k' o'
theorem Post.val (h : Post K B σ s F ρ H Q (.val d) s) (k : Ok K B F ρ s σ H) (r : Rp K F H v d) : Q v H := h F ρ H v .refl k r trivial
theorem Post.new {ds : List D} (h : Post K B σ s F ρ H Q (.val d) s) (k : Ok K B F ρ s σ H) (hp : H p = none) (r : Rp K F (upd H p o) v d) : Q v (upd H p o) :=
  h F ρ _ _ (Ext.new_ hp) (k.new hp) r trivial
theorem Post.tup {ds : List D} {vs : List V} (h : Post K B σ s F ρ H Q (.val (.tuple ds)) s) (k : Ok K B F ρ s σ H) (r : RpAll K F H vs ds) (hp : H p = none) : Q (.ref p) (upd H p (.tup vs)) :=
  h F ρ _ _ (Ext.new_ hp) (k.new hp) (.tup (SqT.of upd_same) (r.st (stay_upd hp) fun _ z => z)) trivial
theorem wok_new {ds : List D} {vs : List V} (k : Ok K B F ρ s σ H) (r : RpAll K F H vs ds) (hp : H p = none) : WOk K B F ρ s σ (upd H p (.lst vs)) (.ref p) (.own ds) :=
  ⟨p, vs, rfl, upd_same, r.st (stay_upd hp) fun _ z => z, k.nF hp, k.nρ hp, k.nO hp, k.fresh hp⟩
theorem Post.own {ds : List D} {vs : List V} (h : Post K B σ s F ρ H Q (.own ds) s) (k : Ok K B F ρ s σ H) (r : RpAll K F H vs ds) (hp : H p = none) : Q (.ref p) (upd H p (.lst vs)) :=
  h F ρ _ _ (Ext.new_ hp) (k.new hp) (wok_new k r hp) fun a e => by cases e; exact hp
/-- one expression, then what is done with its value -/
theorem em_un {m1 : M W} {f : W → M W} {Q : VK} {P : VK}
    (hr : ∀ {B F ρ s H x w}, Ok K B F ρ s σ H → WOk K B F ρ s σ H x w → Run (f w) s (Post K B σ s F ρ H Q) (Er K mg Wx B σ) → P x H)
    (h : EM K mg Wx (m1 >>= f) σ H Q) : EM K mg Wx m1 σ H P := by
  obtain ⟨B, F, ρ, s, k, h⟩ := h
  exact ⟨B, F, ρ, s, k, (Run.bind h).mono (fun w1 s1 _ h1 F1 ρ1 H1 x e1 k1 o1 _ => hr k1 o1 (h1.mono (fun w s' _ p => p.step e1 k1.sto) fun _ _ _ e => e)) fun _ _ _ e => e⟩
theorem em_unB {m1 : M W} {f : W → M Bool} {Q : Bool → Hp → Prop} {P : VK}
    (hr : ∀ {B F ρ s H x w}, Ok K B F ρ s σ H → WOk K B F ρ s σ H x w → Run (f w) s (PostB K B σ s F ρ H Q) (Er K mg Wx B σ) → P x H)
    (h : CM K mg Wx (m1 >>= f) σ H Q) : EM K mg Wx m1 σ H P := by
  obtain ⟨B, F, ρ, s, k, h⟩ := h
  exact ⟨B, F, ρ, s, k, (Run.bind h).mono (fun w1 s1 _ h1 F1 ρ1 H1 x e1 k1 o1 _ => hr k1 o1 (h1.mono (fun w s' _ p => p.step e1 k1.sto) fun _ _ _ e => e)) fun _ _ _ e => e⟩
theorem em_bin {m1 m2 : M W} {f : W → W → M W} {Q : VK} {P : V → V → Hp → Prop}
    (hr : ∀ {B F ρ s H x y w1 w2}, Ok K B F ρ s σ H → WOk K B F ρ s σ H x w1 → WOk K B F ρ s σ H y w2 → Run (f w1 w2) s (Post K B σ s F ρ H Q) (Er K mg Wx B σ) → P x y H)
    (h : EM K mg Wx (m1 >>= fun a => m2 >>= fun b => f a b) σ H Q) : EM K mg Wx m1 σ H fun x H1 => EM K mg Wx m2 σ H1 fun y H2 => P x y H2 := by
  obtain ⟨B, F, ρ, s, k, h⟩ := h
  refine ⟨B, F, ρ, s, k, (Run.bind h).mono (fun w1 s1 _ h1 F1 ρ1 H1 x e1 k1 o1 _ => ⟨B, F1, ρ1, s1, k1, (Run.bind h1).mono (fun w2 s2 _ h2 F2 ρ2 H2 y e2 k2 o2 _ => ?_) fun _ _ _ e => e⟩) fun _ _ _ e => e⟩
  exact hr k2 (o1.mono k1 e2) o2 (h2.mono (fun w s' _ p => p.step (e1.trans e2 k1.sto) k2.sto) fun _ _ _ e => e)
theorem em_binB {m1 m2 : M W} {f : W → W → M Bool} {Q : Bool → Hp → Prop} {P : V → V → Hp → Prop}
    (hr : ∀ {B F ρ s H x y w1 w2}, Ok K B F ρ s σ H → WOk K B F ρ s σ H x w1 → WOk K B F ρ s σ H y w2 → Run (f w1 w2) s (PostB K B σ s F ρ H Q) (Er K mg Wx B σ) → P x y H)
    (h : CM K mg Wx (m1 >>= fun a => m2 >>= fun b => f a b) σ H Q) : EM K mg Wx m1 σ H fun x H1 => EM K mg Wx m2 σ H1 fun y H2 => P x y H2 := by
  obtain ⟨B, F, ρ, s, k, h⟩ := h
  refine ⟨B, F, ρ, s, k, (Run.bind h).mono (fun w1 s1 _ h1 F1 ρ1 H1 x e1 k1 o1 _ => ⟨B, F1, ρ1, s1, k1, (Run.bind h1).mono (fun w2 s2 _ h2 F2 ρ2 H2 y e2 k2 o2 _ => ?_) fun _ _ _ e => e⟩) fun _ _ _ e => e⟩
  exact hr k2 (o1.mono k1 e2) o2 (h2.mono (fun w s' _ p => p.step (e1.trans e2 k1.sto) k2.sto) fun _ _ _ e => e)
end

/-! ### names and constants -/
section
variable {X : Cx} {Wx : WX} {pos : Pos}
theorem Run.ret {α : Type} {a : α} {s : S} {ok : α → S → Prop} {er : Exc → S → Prop} (h : Run (Pure.pure a : M α) s ok er) : ok a s := h
def eC (d : D) : M W := Pure.pure (.val d)
def eVar (i : Nat) : M W := fun s => match s.env[i]? with
  | some (some _) => .ok (.peek i) s
  | _ => .fail
theorem i_int {i j} : DE X Wx (.Constant (.int i) j pos) (eC (.int i)) := pe_mono pe_int fun σ H Q ⟨B, F, ρ, s, k, h⟩ => Post.val (Run.ret h) k (.int i)
theorem i_bool {b j} : DE X Wx (.Constant (.bool b) j pos) (eC (.bool b)) := pe_mono pe_bl fun σ H Q ⟨B, F, ρ, s, k, h⟩ => Post.val (Run.ret h) k (.bl b)
theorem i_none {j} : DE X Wx (.Constant .none j pos) (eC .none) := pe_mono pe_non fun σ H Q ⟨B, F, ρ, s, k, h⟩ => Post.val (Run.ret h) k .non
theorem i_str {x j} : DE X Wx (.Constant (.str x) j pos) (eC (.str x)) := pe_mono pe_str fun σ H Q ⟨B, F, ρ, s, k, h⟩ => Post.val (Run.ret h) k (.str x)
theorem i_var (i : Nat) {x : Str} (hN : X.N[i]? = some x := by rfl) (hv : Vis X.env.scope x := by first | exact Or.inl rfl | exact Or.inr (Or.inl rfl) | exact Or.inr (Or.inr rfl)) (hd : (x == ("__debug__" : Str)) = false := by decide)
    (hcd : (x == ("__classdict__" : Str)) = false := by decide) : DE X Wx (.Name x pos) (eVar i) := pe_mono (pe_var hN hv hd hcd) fun σ H Q ⟨B, F, ρ, s, k, h⟩ => by
  unfold Run eVar at h
  cases e : s.env[i]? with
  | none => rw [e] at h; exact h.elim
  | some o =>
    cases o with
    | none => rw [e] at h; exact h.elim
    | some w =>
      rw [e] at h
      obtain ⟨v, h1, _⟩ := k.env i w e
      exact ⟨v, h1, h F ρ H v .refl k h1 trivial⟩
/-- a constant of the module -/
theorem i_glob {x : Str} {v : V} {u : Value} {d : D} (hg : Gl X x) (hm : X.mg x = some u) (r : RelV v u) (hd : ∀ F H, Rp X.K F H v d) (hdb : (x == ("__debug__" : Str)) = false := by decide) : DE X Wx (.Name x pos) (eC d) :=
  pe_mono (pe_glob hg hm r hdb) fun σ H Q ⟨B, F, ρ, s, k, h⟩ => Post.val (Run.ret h) k (hd F H)
end

/-! ### two operands -/
def opBin (f : D → D → Option W) (m1 m2 : M W) : M W := m1 >>= fun a => m2 >>= fun b => lookT a >>= fun x => lookT b >>= fun y => ofO (f x y)
def opCmp (f : D → D → Option Bool) (m1 m2 : M W) : M Bool := m1 >>= fun a => m2 >>= fun b => look a >>= fun x => look b >>= fun y => ofO (f x y)
def opCmpV (f : D → D → Option Bool) (m1 m2 : M W) : M W := m1 >>= fun a => m2 >>= fun b => look a >>= fun x => look b >>= fun y => ofO ((f x y).map fun b => .val (.bool b))
/-- the rule r does on values what f does on data -/
def BinR (K : PySem.W.Frag) (r : R2) (f : D → D → Option W) : Prop := ∀ {B F ρ s σ H x y d1 d2 w Q}, Ok K B F ρ s σ H → LkT K F H x d1 → LkT K F H y d2 → f d1 d2 = some w → Post K B σ s F ρ H Q w s → r x y H Q
def CmpR (K : PySem.W.Frag) (r : R2) (f : D → D → Option Bool) : Prop := ∀ {F H x y d1 d2 b Q}, Lk K F H x d1 → Lk K F H y d2 → f d1 d2 = some b → Q (.bl b) H → r x y H Q
section
variable {X : Cx} {Wx : WX} {pos : Pos} {a b c : Expr} {m1 m2 m3 : M W} {r r' : R2} {f f' : D → D → Option Bool}
theorem i_bin {op : Operator} {g : D → D → Option W} (ho : OpR X (binaryOp op) r) (hr : BinR X.K r g) (ha : DE X Wx a m1) (hb : DE X Wx b m2) : DE X Wx (.BinOp a op b pos) (opBin g m1 m2) :=
  pe_mono (pe_op ho ha hb) fun σ H Q h => em_bin (P := fun x y H2 => r x y H2 Q) (fun k o1 o2 h => by
    obtain ⟨d1, e1, t1, h⟩ := Run.lookT h
    obtain ⟨d2, e2, t2, h⟩ := Run.lookT h
    obtain ⟨w, e3, h⟩ := Run.ofO h
    exact hr k ((content_ok k o1 e1).2 t1) ((content_ok k o2 e2).2 t2) e3 h) h
theorem i_cmp {op : CmpOp} (ho : OpR X (compareOp op) r) (hr : CmpR X.K r f) (ha : DE X Wx a m1) (hb : DE X Wx b m2) (hm : behindInMarks op b = false) : DE X Wx (.Compare a [op] [b] pos) (opCmpV f m1 m2) :=
  pe_mono (pe_cmpR ho ha hb hm) fun σ H Q h => em_bin (P := fun x y H2 => r x y H2 Q) (fun k o1 o2 h => by
    obtain ⟨d1, e1, h⟩ := Run.look h
    obtain ⟨d2, e2, h⟩ := Run.look h
    obtain ⟨w, e3, h⟩ := Run.ofO h
    cases e4 : f d1 d2 with
    | none => rw [e4] at e3; cases e3
    | some b =>
      rw [e4] at e3
      cases e3
      exact hr (content_ok k o1 e1).1 (content_ok k o2 e2).1 e4 (Post.val h k (.bl b))) h
theorem i_cmpT {op : CmpOp} (ho : OpR X (compareOp op) r) (hr : CmpR X.K r f) (ha : DE X Wx a m1) (hb : DE X Wx b m2) (hm : behindInMarks op b = false) : DC X Wx (.Compare a [op] [b] pos) (opCmp f m1 m2) :=
  pt_mono (pt_cmpR ho ha hb hm) fun σ H Q h => em_binB (P := fun x y H2 => r x y H2 (fun x H' => ∃ k, x = .bl k ∧ Q k H')) (fun {B F ρ s H _ _ _ _} k o1 o2 h => by
    obtain ⟨d1, e1, h⟩ := Run.look h
    obtain ⟨d2, e2, h⟩ := Run.look h
    obtain ⟨b, e3, h⟩ := Run.ofO h
    exact hr (content_ok k o1 e1).1 (content_ok k o2 e2).1 e3 ⟨b, rfl, h F ρ H .refl k⟩) h
/-- a < b < c -/
def opChainV (f f' : D → D → Option Bool) (m1 m2 m3 : M W) : M W := m1 >>= fun a => m2 >>= fun b => look a >>= fun x => look b >>= fun y => ofO (f x y) >>= fun t =>
  if t = true then m3 >>= fun c => look b >>= fun y => look c >>= fun z => ofO ((f' y z).map fun b => .val (.bool b)) else Pure.pure (.val (.bool false))
def opChain (f f' : D → D → Option Bool) (m1 m2 m3 : M W) : M Bool := m1 >>= fun a => m2 >>= fun b => look a >>= fun x => look b >>= fun y => ofO (f x y) >>= fun t =>
  if t = true then m3 >>= fun c => look b >>= fun y => look c >>= fun z => ofO (f' y z) else Pure.pure false
theorem i_chain {op op' : CmpOp} (ho : OpR X (compareOp op) r) (ho' : OpR X (compareOp op') r') (hr : CmpR X.K r f) (hr' : CmpR X.K r' f') (ha : DE X Wx a m1) (hb : DE X Wx b m2) (hc : DE X Wx c m3)
    (hm : lastMarks [op, op'] [b, c] = false := by with_unfolding_all rfl) : DE X Wx (.Compare a [op, op'] [b, c] pos) (opChainV f f' m1 m2 m3) :=
  pe_mono (pe_chain ho ho' ha hb hc hm) fun σ H Q h => em_bin (P := fun x y H2 => r x y H2 fun z H3 => ∃ k, z = .bl k ∧ (if k = true then EM X.K X.mg Wx m3 σ H3 fun w' H4 => r' y w' H4 Q else Q (.bl false) H3)) (fun {B F ρ s H _ _ _ _} k o1 o2 h => by
    obtain ⟨d1, e1, h⟩ := Run.look h
    obtain ⟨d2, e2, h⟩ := Run.look h
    obtain ⟨t, e3, h⟩ := Run.ofOb h
    refine hr (content_ok k o1 e1).1 (content_ok k o2 e2).1 e3 ⟨t, rfl, ?_⟩
    cases t with
    | false => exact iteF (Post.val (Run.ret h) k (.bl false))
    | true =>
      refine iteT ⟨B, F, ρ, s, k, (Run.bind h).mono (fun w3 s3 _ h3 F3 ρ3 H3 z e3' k3 o3 _ => ?_) fun _ _ _ e => e⟩
      obtain ⟨d2', e2', h3⟩ := Run.look h3
      obtain ⟨d3, e3'', h3⟩ := Run.look h3
      obtain ⟨w, e4, h3⟩ := Run.ofO h3
      cases e5 : f' d2' d3 with
      | none => rw [e5] at e4; cases e4
      | some b =>
        rw [e5] at e4
        cases e4
        exact hr' (content_ok k3 (o2.mono k e3') e2').1 (content_ok k3 o3 e3'').1 e5 (Post.val (h3.step e3' k3.sto) k3 (.bl b))) h
theorem i_chainT {op op' : CmpOp} (ho : OpR X (compareOp op) r) (ho' : OpR X (compareOp op') r') (hr : CmpR X.K r f) (hr' : CmpR X.K r' f') (ha : DE X Wx a m1) (hb : DE X Wx b m2) (hc : DE X Wx c m3)
    (hm : lastMarks [op, op'] [b, c] = false := by with_unfolding_all rfl) : DC X Wx (.Compare a [op, op'] [b, c] pos) (opChain f f' m1 m2 m3) :=
  pt_mono (pt_chain ho ho' ha hb hc hm) fun σ H Q h => em_binB (P := fun x y H2 => r x y H2 fun z H3 => ∃ k, z = .bl k ∧ (if k = true then EM X.K X.mg Wx m3 σ H3 fun w' H4 => r' y w' H4 (fun x H' => ∃ k, x = .bl k ∧ Q k H') else ∃ k, (V.bl false) = .bl k ∧ Q k H3)) (fun {B F ρ s H _ _ _ _} k o1 o2 h => by
    obtain ⟨d1, e1, h⟩ := Run.look h
    obtain ⟨d2, e2, h⟩ := Run.look h
    obtain ⟨t, e3, h⟩ := Run.ofOb h
    refine hr (content_ok k o1 e1).1 (content_ok k o2 e2).1 e3 ⟨t, rfl, ?_⟩
    cases t with
    | false => exact iteF ⟨false, rfl, (Run.ret h) F ρ H .refl k⟩
    | true =>
      refine iteT ⟨B, F, ρ, s, k, (Run.bind h).mono (fun w3 s3 _ h3 F3 ρ3 H3 z e3' k3 o3 _ => ?_) fun _ _ _ e => e⟩
      obtain ⟨d2', e2', h3⟩ := Run.look h3
      obtain ⟨d3, e3'', h3⟩ := Run.look h3
      obtain ⟨b, e5, h3⟩ := Run.ofO h3
      exact hr' (content_ok k3 (o2.mono k e3') e2').1 (content_ok k3 o3 e3'').1 e5 ⟨b, rfl, h3 F3 ρ3 H3 e3' k3⟩) h
end
end Z
/-! Z, part 3: operators on data. -/
namespace Z
open PySem PySem.Spec PyProof.Rows L2

/-! ### tuple * n for n ≤ 1, or the empty tuple -/
section
variable {prog : Program} {w : World}
theorem tup_mul_same (l : Addr) (items : Array Value) (n : Nat) (dd : Option Addr) (sl : Array (Option Value)) (x : Int) (u : Tok) (c0 : (decide (x < -(2 ^ 63)) || decide (x ≥ 2 ^ 63)) = false) (c1 : (items.isEmpty || x == 1) = true) :
    Meets (Builtin.«tuple.__mul__» ⟨[.ref l, .int x u], []⟩) (fun _ R s => s.heap.get? l = some { cls := .type "tuple", dict := dd, data := .seq items n, slots := sl } ∧ R (.ok (.ret (Value.ref l))) s) :=
  .of_wp fun prog w A R s h => by
    obtain ⟨hp, g, d, tk, os⟩ := s
    obtain ⟨hl, h⟩ := h
    have f1 := AutoSeq1.idx_int
    wp_walk using wpAny_loadPart' hl
    repeat (first
      | (refine wpAny_ite_false (decide_eq_false (by rw [c0]; exact Bool.false_ne_true)) ?_; wp_walk using wpAny_loadPart' hl)
      | (refine wpAny_ite_true (decide_eq_true (by rw [c1])) ?_; wp_walk using wpAny_loadPart' hl))
    exact ⟨_, rfl, h⟩
theorem tup_mul_none (l : Addr) (items : Array Value) (n : Nat) (dd : Option Addr) (sl : Array (Option Value)) (x : Int) (u : Tok) (c0 : (decide (x < -(2 ^ 63)) || decide (x ≥ 2 ^ 63)) = false) (c1 : (items.isEmpty || x == 1) = false) (c2 : (decide (x ≤ 0) || items.isEmpty) = true) :
    Meets (Builtin.«tuple.__mul__» ⟨[.ref l, .int x u], []⟩) (fun _ R s => s.heap.get? l = some { cls := .type "tuple", dict := dd, data := .seq items n, slots := sl } ∧
      R (.ok (.ret (Value.ref s.heap.objs.size))) { s with heap := s.heap.push { cls := Value.type "tuple", data := Data.seq #[] }, toks := s.toks }) :=
  .of_wp fun prog w A R s h => by
    obtain ⟨hp, g, d, tk, os⟩ := s
    obtain ⟨hl, h⟩ := h
    have f1 := AutoSeq1.idx_int
    wp_walk using wpAny_loadPart' hl
    repeat (first
      | (refine wpAny_ite_false (decide_eq_false (by rw [c0]; exact Bool.false_ne_true)) ?_; wp_walk using wpAny_loadPart' hl)
      | (refine wpAny_ite_false (decide_eq_false (by rw [c1]; exact Bool.false_ne_true)) ?_; wp_walk using wpAny_loadPart' hl)
      | (refine wpAny_ite_true (decide_eq_true (by rw [c2])) ?_; wp_walk using wpAny_loadPart' hl))
    exact ⟨_, rfl, h⟩
end
def rRepA (K : PySem.W.Frag) : R2 := fun x y H Q => ∃ l k xs, x = .ref l ∧ y = .int k ∧ SqT K H l xs ∧ -1000 ≤ k ∧ k ≤ 1000 ∧ xs.length ≤ 1000 ∧ ((xs = [] ∨ k = 1) → Q (.ref l) H) ∧ (¬ (xs = [] ∨ k = 1) → ∀ p, H p = none → Q (.ref p) (upd H p (.tup (List.replicate k.toNat xs).flatten)))
theorem op_repA {X : Cx} : OpR X (binaryOp .Mult) (rRepA X.K) := by
  intro pins s σ H x y v u Q I rx ry h
  obtain ⟨l, k, xs, rfl, rfl, hT, h0, h1, hz, q1, q2⟩ := h
  by_cases h2 : 2 ≤ k ∧ xs ≠ []
  · exact op_repT pins s σ H _ _ v u Q I rx ry ⟨l, k, xs, rfl, rfl, hT, h2.2, h2.1, h1, hz, q2 fun z => z.elim h2.2 fun z => by have := h2.1; omega⟩
  cases rx
  obtain ⟨t, rfl⟩ := ry
  obtain ⟨its, r, ⟨⟨cls, dd, data, sl⟩, ho, hc, n, hd⟩, hs⟩ := I.tuple hT
  simp only at hc hd
  subst hc hd
  have c0 : (decide (k < -(2 ^ 63)) || decide (k ≥ 2 ^ 63)) = false := by
    rw [decide_eq_false (by omega), decide_eq_false (by omega)] <;> rfl
  have hem : its.toArray.isEmpty = decide (xs = []) := by
    cases r with
    | nil => rfl
    | cons a b => simp
  refine wpAny_binaryOp_repeat_ref (T := "tuple") (U := "int") (by decide) ⟨_, ho, rfl⟩ (fun s' => typeIs_int s' k t) noFill_tuple_mul F.fills_int_mul F.slot_int_rmul repeat_tuple F.slot_int_index.lookup
    (call_meets F.slot_int_rmul (typeIs_int s k t) F.entry_int_rmul (F.args_int_rmul_2 _ _) (int_rmul_tuple k t l its.toArray n dd sl) ⟨ho, rfl, ⟨_, ho, rfl⟩, ?_⟩)
  by_cases h3 : xs = [] ∨ k = 1
  · have c1 : (its.toArray.isEmpty || k == 1) = true := by
      rw [hem]
      rcases h3 with z | z
      · rw [decide_eq_true z]; rfl
      · subst z; simp
    refine call_meets F.slot_tuple_mul ⟨_, ho, rfl⟩ F.entry_tuple_mul (F.args_tuple_mul_2 _ _) (tup_mul_same l its.toArray n dd sl k t c0 c1) ⟨ho, ?_⟩
    exact ⟨.ref l, H, I, rfl, q1 h3⟩
  · have hk : k ≤ 0 := by
      by_cases z : 2 ≤ k
      · exact absurd ⟨z, fun e => h3 (.inl e)⟩ h2
      · have : k ≠ 1 := fun e => h3 (.inr e)
        omega
    have c1 : (its.toArray.isEmpty || k == 1) = false := by
      rw [hem, decide_eq_false (fun e => h3 (.inl e))]
      exact beq_eq_false_iff_ne.mpr (by omega)
    have c2 : (decide (k ≤ 0) || its.toArray.isEmpty) = true := by rw [decide_eq_true hk]; rfl
    refine call_meets F.slot_tuple_mul ⟨_, ho, rfl⟩ F.entry_tuple_mul (F.args_tuple_mul_2 _ _) (tup_mul_none l its.toArray n dd sl k t c0 c1 c2) ⟨ho, ?_⟩
    have e0 : k.toNat = 0 := by omega
    have q := q2 h3 _ (I.hok.fresh (Nat.le_refl _))
    rw [e0] at q
    exact ⟨.ref s.heap.objs.size, _, I.laid (t' := s.toks) (o := .tup []) (fun b ob q => Heap.get?_push_of_some _ q) (Nat.le_refl _) ⟨Nat.zero_le _, [], .nil, IsTup.new _ _⟩, rfl, q⟩
/-! ### // of any divisor that is not 0, below 2 ^ 9000 -/
def CDivA (_ j : Int) : Prop := j ≠ 0 ∧ j.natAbs.log2 < 9000
theorem op_fdivA {X : Cx} : OpR X (binaryOp .FloorDiv) (rI CDivA fun i j => .int (i.fdiv j)) := opI fun i j _ _ _ _ _ hc q => floordiv_int hc.1 q (.inl (PyProof.noPylong_of_log2 hc.2))
/-! ### in, of any data -/
def rInA (K : PySem.W.Frag) (neg : Bool) : R2 := fun x y H Q => ∃ d ds, Dp K H x d ∧ (Dp K H y (.list ds) ∨ Dp K H y (.tuple ds)) ∧ SeqAt.shaped d = true ∧ SeqAt.shaped (.list ds) = true ∧ Q (.bl (if neg then !ds.any fun z => PyData.eqv z d else ds.any fun z => PyData.eqv z d)) H
theorem room_in {A : Around} {d : PyData} {ds : List PyData} (h : SeqAt.shaped d = true) (hu : A.units + 65 < cLine) : A.units + 1 + min (PyData.depthAll ds) d.depth < cLine := by
  have h1 := SeqAt.depth_of_shaped h
  have h2 : min (PyData.depthAll ds) d.depth ≤ d.depth := Nat.min_le_right _ _
  omega
theorem op_inA {X : Cx} (hu : X.A.units + 65 < cLine) : OpR X (compareOp .In) (rInA X.K false) := by
  intro pins s σ H x y v u Q I rx ry h
  obtain ⟨d, ds, hd, he, sd, se, q⟩ := h
  obtain ⟨as, r1⟩ := Dp.reads I d x v hd rx
  rcases he with he | he
  · obtain ⟨bs, r2⟩ := Dp.reads I (.list ds) y u he ry
    exact SeqAt.in_list_reads r2 r1 (SeqAt.canLay_of_shaped se) (SeqAt.canLay_of_shaped sd) (room_in sd hu) ⟨.bl _, H, I, rfl, q⟩
  · obtain ⟨bs, r2⟩ := Dp.reads I (.tuple ds) y u he ry
    exact SeqAt.in_tuple_reads r2 r1 (SeqAt.canLay_of_shaped se) (SeqAt.canLay_of_shaped sd) (room_in sd hu) ⟨.bl _, H, I, rfl, q⟩
theorem op_ninA {X : Cx} (hu : X.A.units + 65 < cLine) : OpR X (compareOp .NotIn) (rInA X.K true) := by
  intro pins s σ H x y v u Q I rx ry h
  obtain ⟨d, ds, hd, he, sd, se, q⟩ := h
  obtain ⟨as, r1⟩ := Dp.reads I d x v hd rx
  rcases he with he | he
  · obtain ⟨bs, r2⟩ := Dp.reads I (.list ds) y u he ry
    exact SeqAt.notIn_list_reads r2 r1 (SeqAt.canLay_of_shaped se) (SeqAt.canLay_of_shaped sd) (room_in sd hu) ⟨.bl _, H, I, rfl, q⟩
  · obtain ⟨bs, r2⟩ := Dp.reads I (.tuple ds) y u he ry
    exact SeqAt.notIn_tuple_reads r2 r1 (SeqAt.canLay_of_shaped se) (SeqAt.canLay_of_shaped sd) (room_in sd hu) ⟨.bl _, H, I, rfl, q⟩

/-! ### what is read, taken apart -/
section
variable {K : PySem.W.Frag} {F : Fz} {H : Hp} {v : V}
theorem Lk.dp {d : D} (h : Lk K F H v d) : Dp K H v d := by
  cases h with
  | of r => exact Rp.dp _ _ r
  | lst e r => exact .lst e (RpAll.dp _ _ r)
theorem Lk.int {i : Int} (h : Lk K F H v (.int i)) : v = .int i := by cases h with | of r => cases r; rfl
theorem Lk.bool {i : Bool} (h : Lk K F H v (.bool i)) : v = .bl i := by cases h with | of r => cases r; rfl
theorem Lk.str {i : Str} (h : Lk K F H v (.str i)) : v = .str i := by cases h with | of r => cases r; rfl
theorem Lk.none (h : Lk K F H v .none) : v = .non := by cases h with | of r => cases r; rfl
theorem Lk.tup {ds : List D} (h : Lk K F H v (.tuple ds)) : ∃ a vs, v = .ref a ∧ SqT K H a vs ∧ RpAll K F H vs ds := by
  cases h with | of r => cases r with | tup a b => exact ⟨_, _, rfl, a, b⟩
theorem Lk.list {ds : List D} (h : Lk K F H v (.list ds)) : ∃ a vs, v = .ref a ∧ SqL K H a vs ∧ RpAll K F H vs ds := by
  cases h with
  | of r => cases r with | lst f a b => exact ⟨_, _, rfl, SqL.of a, b⟩
  | lst e r => exact ⟨_, _, rfl, e, r⟩
theorem LkT.list {ds : List D} (h : LkT K F H v (.list ds)) : ∃ a vs, v = .ref a ∧ H a = some (.lst vs) ∧ RpAll K F H vs ds := by
  cases h with
  | of r => cases r with | lst f a b => exact ⟨_, _, rfl, a, b⟩
  | lst e r => exact ⟨_, _, rfl, e, r⟩
theorem Lk.nodict {l} (h : Lk K F H v (.dict l)) : False := by cases h with | of r => cases r
end

/-! ### arithmetic -/
def addD : D → D → Option W
  | .int i, .int j => some (.val (.int (i + j)))
  | .str a, .str b => if a.length + b.length ≤ sizeLine then some (.val (.str (a ++ b))) else none
  | .tuple a, .tuple b => if a.length + b.length ≤ sizeLine then some (.val (.tuple (a ++ b))) else none
  | .list a, .list b => if a.length + b.length ≤ sizeLine then some (.own (a ++ b)) else none
  | _, _ => none
def subD : D → D → Option W
  | .int i, .int j => some (.val (.int (i - j)))
  | _, _ => none
def mulD : D → D → Option W
  | .int i, .int j => if i.natAbs.log2 + j.natAbs.log2 < 1000000 then some (.val (.int (i * j))) else none
  | .tuple a, .int k => if -1000 ≤ k ∧ k ≤ 1000 ∧ a.length ≤ 1000 then some (.val (.tuple (List.replicate k.toNat a).flatten)) else none
  | .list a, .int k => if -1000 ≤ k ∧ k ≤ 1000 ∧ a.length ≤ 1000 then some (.own (List.replicate k.toNat a).flatten) else none
  | _, _ => none
def fdivD : D → D → Option W
  | .int i, .int j => if j ≠ 0 ∧ j.natAbs.log2 < 9000 then some (.val (.int (i.fdiv j))) else none
  | _, _ => none
def modD : D → D → Option W
  | .int i, .int j => if j ≠ 0 then some (.val (.int (i.fmod j))) else none
  | _, _ => none
def powD : D → D → Option W
  | .int i, .int j => if 0 ≤ j ∧ j ≤ 1000000 ∧ i.natAbs < 2 ^ 64 then some (.val (.int (i ^ j.toNat))) else none
  | _, _ => none
def rAdd_ (K : PySem.W.Frag) : R2 := fun x y H Q => rI0 (fun i j => .int (i + j)) x y H Q ∨ (∃ i j, x = .str i ∧ y = .str j ∧ i.length + j.length ≤ sizeLine ∧ Q (.str (i ++ j)) H) ∨ rCatA K x y H Q ∨ rCat x y H Q
def rMul_ (K : PySem.W.Frag) : R2 := fun x y H Q => rI CMulW (fun i j => .int (i * j)) x y H Q ∨ rRepA K x y H Q ∨ rRep x y H Q
theorem o_add {X : Cx} : OpR X (binaryOp .Add) (rAdd_ X.K) := op_add.or (op_add_str.or (op_catA.or op_cat))
theorem o_mul {X : Cx} : OpR X (binaryOp .Mult) (rMul_ X.K) := op_mulW.or (op_repA.or op_rep)
section
variable {K : PySem.W.Frag}
theorem b_add : BinR K (rAdd_ K) addD := by
  intro B F ρ s σ H x y d1 d2 w Q k h1 h2 e p
  unfold addD at e
  split at e
  · rename_i i j
    cases e
    exact .inl ⟨i, j, h1.lk.int, h2.lk.int, p.val k (.int _)⟩
  · rename_i a b
    split at e
    · rename_i hz
      cases e
      exact .inr (.inl ⟨a, b, h1.lk.str, h2.lk.str, hz, p.val k (.str _)⟩)
    · cases e
  · rename_i a b
    split at e
    · rename_i hz
      cases e
      obtain ⟨p1, vs, rfl, t1, r1⟩ := h1.lk.tup
      obtain ⟨p2, ws, rfl, t2, r2⟩ := h2.lk.tup
      refine .inr (.inr (.inl ⟨p1, p2, vs, ws, rfl, rfl, t1, t2, by rw [r1.length, r2.length]; exact hz, fun z => ?_, fun z1 z2 => ?_, fun z1 z2 q hq => ?_⟩))
      · subst z
        cases r1
        exact p.val k (.tup t2 r2)
      · subst z2
        cases r2
        rw [List.append_nil] at p
        exact p.val k (.tup t1 r1)
      · exact p.tup k (r1.append r2) hq
    · cases e
  · rename_i a b
    split at e
    · rename_i hz
      cases e
      obtain ⟨p1, vs, rfl, t1, r1⟩ := h1.list
      obtain ⟨p2, ws, rfl, t2, r2⟩ := h2.list
      exact .inr (.inr (.inr ⟨p1, p2, vs, ws, rfl, rfl, t1, t2, by rw [r1.length, r2.length]; exact hz, fun q hq => p.own k (r1.append r2) hq⟩))
    · cases e
  · cases e
theorem b_sub : BinR K (rI0 fun i j => .int (i - j)) subD := by
  intro B F ρ s σ H x y d1 d2 w Q k h1 h2 e p
  unfold subD at e
  split at e
  · rename_i i j
    cases e
    exact ⟨i, j, h1.lk.int, h2.lk.int, p.val k (.int _)⟩
  · cases e
theorem b_mul : BinR K (rMul_ K) mulD := by
  intro B F ρ s σ H x y d1 d2 w Q k h1 h2 e p
  unfold mulD at e
  split at e
  · rename_i i j
    split at e
    · rename_i hz
      cases e
      exact .inl ⟨i, j, h1.lk.int, h2.lk.int, hz, p.val k (.int _)⟩
    · cases e
  · rename_i a n
    split at e
    · rename_i hz
      cases e
      obtain ⟨p1, vs, rfl, t1, r1⟩ := h1.lk.tup
      obtain rfl := h2.lk.int
      refine .inr (.inl ⟨p1, n, vs, rfl, rfl, t1, hz.1, hz.2.1, by rw [r1.length]; exact hz.2.2, fun z => ?_, fun z q hq => p.tup k (r1.rep _) hq⟩)
      rcases z with z | z
      · subst z
        cases r1
        have e0 : (List.replicate n.toNat ([] : List D)).flatten = [] := by simp
        rw [e0] at p
        exact p.val k (.tup t1 .nil)
      · subst z
        have e0 : (List.replicate (1 : Int).toNat a).flatten = a := by simp
        rw [e0] at p
        exact p.val k (.tup t1 r1)
    · cases e
  · rename_i a n
    split at e
    · rename_i hz
      cases e
      obtain ⟨p1, vs, rfl, t1, r1⟩ := h1.list
      obtain rfl := h2.lk.int
      refine .inr (.inr ⟨p1, n, vs, rfl, rfl, t1, by omega, by omega, ?_, fun q hq => p.own k (r1.rep _) hq⟩)
      rw [r1.length, sizeLine_eq]
      have : a.length * n.toNat ≤ 1000 * 1000 := Nat.mul_le_mul hz.2.2 (by omega)
      omega
    · cases e
  · cases e
theorem b_fdiv : BinR K (rI CDivA fun i j => .int (i.fdiv j)) fdivD := by
  intro B F ρ s σ H x y d1 d2 w Q k h1 h2 e p
  unfold fdivD at e
  split at e
  · rename_i i j
    split at e
    · rename_i hz
      cases e
      exact ⟨i, j, h1.lk.int, h2.lk.int, hz, p.val k (.int _)⟩
    · cases e
  · cases e
theorem b_mod : BinR K (rI (fun _ j => j ≠ 0) fun i j => .int (i.fmod j)) modD := by
  intro B F ρ s σ H x y d1 d2 w Q k h1 h2 e p
  unfold modD at e
  split at e
  · rename_i i j
    split at e
    · rename_i hz
      cases e
      exact ⟨i, j, h1.lk.int, h2.lk.int, hz, p.val k (.int _)⟩
    · cases e
  · cases e
theorem b_pow : BinR K (rI CPow fun i j => .int (i ^ j.toNat)) powD := by
  intro B F ρ s σ H x y d1 d2 w Q k h1 h2 e p
  unfold powD at e
  split at e
  · rename_i i j
    split at e
    · rename_i hz
      cases e
      exact ⟨i, j, h1.lk.int, h2.lk.int, hz, p.val k (.int _)⟩
    · cases e
  · cases e
end

/-! ### comparisons -/
def eqD (d e : D) : Option Bool := if SeqAt.shaped d && SeqAt.shaped e then some (PyData.eqv d e) else none
def neD (d e : D) : Option Bool := if SeqAt.shaped d && SeqAt.shaped e then some (!PyData.eqv d e) else none
def ltD : D → D → Option Bool
  | .int i, .int j => some (decide (i < j))
  | _, _ => none
def leD : D → D → Option Bool
  | .int i, .int j => some (decide (i ≤ j))
  | _, _ => none
def gtD : D → D → Option Bool
  | .int i, .int j => some (decide (j < i))
  | _, _ => none
def geD : D → D → Option Bool
  | .int i, .int j => some (decide (j ≤ i))
  | _, _ => none
def isND : D → D → Option Bool
  | .none, .none => some true
  | _, .none => some false
  | _, _ => none
def notND : D → D → Option Bool
  | .none, .none => some false
  | _, .none => some true
  | _, _ => none
def isBD : D → D → Option Bool
  | .bool a, .bool b => some (decide (a = b))
  | _, _ => none
def notBD : D → D → Option Bool
  | .bool a, .bool b => some (!decide (a = b))
  | _, _ => none
def isD (d e : D) : Option Bool := (isND d e).or (isBD d e)
def isNotD (d e : D) : Option Bool := (notND d e).or (notBD d e)
def inD (d e : D) : Option Bool := match e with
  | .list ds => if SeqAt.shaped d && SeqAt.shaped (.list ds) then some (ds.any fun z => PyData.eqv z d) else none
  | .tuple ds => if SeqAt.shaped d && SeqAt.shaped (.list ds) then some (ds.any fun z => PyData.eqv z d) else none
  | _ => none
def ninD (d e : D) : Option Bool := (inD d e).map (!·)
def rIs_ : R2 := fun x y H Q => (y = .non ∧ Q (.bl (decide (x = .non))) H) ∨ rIsB x y H Q
def rIsNot_ : R2 := fun x y H Q => (y = .non ∧ Q (.bl (!decide (x = .non))) H) ∨ rNotB x y H Q
theorem o_is {X : Cx} : OpR X (compareOp .Is) rIs_ := op_isN.or op_isBl
theorem o_isnot {X : Cx} : OpR X (compareOp .IsNot) rIsNot_ := op_notN.or op_notBl
section
variable {K : PySem.W.Frag}
theorem c_eq : CmpR K (rEqD K) eqD := by
  intro F H x y d1 d2 b Q h1 h2 e q
  unfold eqD at e
  split at e
  · rename_i hz
    rw [Bool.and_eq_true] at hz
    cases e
    exact ⟨d1, d2, h1.dp, h2.dp, hz.1, hz.2, q⟩
  · cases e
theorem c_ne : CmpR K (rNeD K) neD := by
  intro F H x y d1 d2 b Q h1 h2 e q
  unfold neD at e
  split at e
  · rename_i hz
    rw [Bool.and_eq_true] at hz
    cases e
    exact ⟨d1, d2, h1.dp, h2.dp, hz.1, hz.2, q⟩
  · cases e
theorem c_lt : CmpR K (rI0 fun i j => .bl (decide (i < j))) ltD := by
  intro F H x y d1 d2 b Q h1 h2 e q
  unfold ltD at e
  split at e
  · cases e; exact ⟨_, _, h1.int, h2.int, q⟩
  · cases e
theorem c_le : CmpR K (rI0 fun i j => .bl (decide (i ≤ j))) leD := by
  intro F H x y d1 d2 b Q h1 h2 e q
  unfold leD at e
  split at e
  · cases e; exact ⟨_, _, h1.int, h2.int, q⟩
  · cases e
theorem c_gt : CmpR K (rI0 fun i j => .bl (decide (j < i))) gtD := by
  intro F H x y d1 d2 b Q h1 h2 e q
  unfold gtD at e
  split at e
  · cases e; exact ⟨_, _, h1.int, h2.int, q⟩
  · cases e
theorem c_ge : CmpR K (rI0 fun i j => .bl (decide (j ≤ i))) geD := by
  intro F H x y d1 d2 b Q h1 h2 e q
  unfold geD at e
  split at e
  · cases e; exact ⟨_, _, h1.int, h2.int, q⟩
  · cases e
theorem lk_notnon {F : Fz} {H : Hp} {x : V} {d : D} (h : Lk K F H x d) (n : d ≠ .none) : x ≠ .non := by
  intro e
  subst e
  cases h with | of r => cases r; exact n rfl
theorem c_is : CmpR K rIs_ isD := by
  intro F H x y d1 d2 b Q h1 h2 e q
  unfold isD isND isBD at e
  split at e
  · cases e
    obtain rfl := h1.none
    exact .inl ⟨h2.none, q⟩
  · rename_i hn
    cases e
    refine .inl ⟨h2.none, ?_⟩
    rw [decide_eq_false (lk_notnon h1 hn)]
    exact q
  · split at e
    · cases e
      exact .inr ⟨_, _, h1.bool, h2.bool, q⟩
    · cases e
theorem c_isnot : CmpR K rIsNot_ isNotD := by
  intro F H x y d1 d2 b Q h1 h2 e q
  unfold isNotD notND notBD at e
  split at e
  · cases e
    obtain rfl := h1.none
    exact .inl ⟨h2.none, q⟩
  · rename_i hn
    cases e
    refine .inl ⟨h2.none, ?_⟩
    rw [decide_eq_false (lk_notnon h1 hn)]
    exact q
  · split at e
    · cases e
      exact .inr ⟨_, _, h1.bool, h2.bool, q⟩
    · cases e
theorem c_in : CmpR K (rInA K false) inD := by
  intro F H x y d1 d2 b Q h1 h2 e q
  unfold inD at e
  split at e
  · split at e
    · rename_i hz
      rw [Bool.and_eq_true] at hz
      cases e
      exact ⟨d1, _, h1.dp, .inl h2.dp, hz.1, hz.2, q⟩
    · cases e
  · split at e
    · rename_i hz
      rw [Bool.and_eq_true] at hz
      cases e
      exact ⟨d1, _, h1.dp, .inr h2.dp, hz.1, hz.2, q⟩
    · cases e
  · cases e
theorem c_nin : CmpR K (rInA K true) ninD := by
  intro F H x y d1 d2 b Q h1 h2 e q
  unfold ninD inD at e
  split at e
  · split at e
    · rename_i hz
      rw [Bool.and_eq_true] at hz
      cases e
      exact ⟨d1, _, h1.dp, .inl h2.dp, hz.1, hz.2, q⟩
    · cases e
  · split at e
    · rename_i hz
      rw [Bool.and_eq_true] at hz
      cases e
      exact ⟨d1, _, h1.dp, .inr h2.dp, hz.1, hz.2, q⟩
    · cases e
  · cases e
end
end Z
/-! Z, part 4: tests, displays, subscripts, calls. -/
namespace Z
open PySem PySem.Spec PyProof.Rows L2

/-! ### truth, and, or, not, if -/
def truthD : D → Option Bool
  | .none => some false
  | .bool b => some b
  | .int i => some (i != 0)
  | .str x => if x.length ≤ sizeLine then some ((x.length : Int) != 0) else none
  | .list ds => some (!ds.isEmpty)
  | .tuple ds => some (!ds.isEmpty)
  | _ => none
theorem truth_ok {K : PySem.W.Frag} {F : Fz} {H : Hp} {v : V} {d : D} {b : Bool} (h : Lk K F H v d) (e : truthD d = some b) : TruV K v H b := by
  unfold truthD at e
  split at e
  · cases e; obtain rfl := h.none; rfl
  · cases e; obtain rfl := h.bool; rfl
  · cases e; obtain rfl := h.int; rfl
  · split at e
    · rename_i hz
      cases e; obtain rfl := h.str; exact ⟨hz, rfl⟩
    · cases e
  · cases e
    obtain ⟨a, vs, rfl, h1, h2⟩ := h.list
    refine .inl ⟨vs, h1, ?_⟩
    cases h2 <;> rfl
  · cases e
    obtain ⟨a, vs, rfl, h1, h2⟩ := h.tup
    refine .inr (.inl ⟨vs, h1, ?_⟩)
    cases h2 <;> rfl
  · cases e
def opTruth (m : M W) : M Bool := m >>= fun a => look a >>= fun d => ofO (truthD d)
def cAnd (m1 m2 : M Bool) : M Bool := m1 >>= fun b => if b = true then m2 else Pure.pure false
def cOr (m1 m2 : M Bool) : M Bool := m1 >>= fun b => if b = true then Pure.pure true else m2
def cNot (m : M Bool) : M Bool := m >>= fun b => Pure.pure (!b)
/-- what may be handed on as it is -/
def keepW : W → M W
  | .own _ => M.fail
  | w => Pure.pure w
def eAnd (m1 m2 : M W) : M W := m1 >>= fun a => look a >>= fun d => ofO (truthD d) >>= fun b => if b = true then m2 else keepW a
def eOr (m1 m2 : M W) : M W := m1 >>= fun a => look a >>= fun d => ofO (truthD d) >>= fun b => if b = true then keepW a else m2
def eNot (m : M W) : M W := m >>= fun a => look a >>= fun d => ofO ((truthD d).map fun b => .val (.bool !b))
def eIf (c : M Bool) (m1 m2 : M W) : M W := c >>= fun b => if b = true then m1 else m2
def eNeg (m : M W) : M W := m >>= fun a => look a >>= fun d => ofO (match d with | .int i => some (.val (.int (-i))) | _ => none)
section
variable {X : Cx} {Wx : WX} {pos : Pos} {a b c : Expr} {rest : List Expr} {m m1 m2 m3 : M W} {c1 c2 : M Bool}
theorem i_truth (ha : DE X Wx a m) (he : ∀ whole, isTrue a X.env whole = (do let v ← whole; standAt a.pos; holding [v] (truthy v)) := by intro _; rfl) : DC X Wx a (opTruth m) :=
  pt_mono (pt_truth ha he) fun σ H Q h => em_unB (P := fun x H' => ∃ k, TruV X.K x H' k ∧ Q k H') (fun {B F ρ s H _ _} k o h => by
    obtain ⟨d, e, h⟩ := Run.look h
    obtain ⟨b, e2, h⟩ := Run.ofO h
    exact ⟨b, truth_ok (content_ok k o e).1 e2, h F ρ H .refl k⟩) h
theorem cm_step {c1 : M Bool} {f : Bool → M Bool} {σ : Sg} {H : Hp} {Q : Bool → Hp → Prop} {P : Bool → Hp → Prop} {K : PySem.W.Frag} {mg : Str → Option Value}
    (hr : ∀ {B F ρ s H b}, Ok K B F ρ s σ H → Run (f b) s (PostB K B σ s F ρ H Q) (Er K mg Wx B σ) → P b H) (h : CM K mg Wx (c1 >>= f) σ H Q) : CM K mg Wx c1 σ H P := by
  obtain ⟨B, F, ρ, s, k, h⟩ := h
  exact ⟨B, F, ρ, s, k, (Run.bind h).mono (fun b s1 _ h1 F1 ρ1 H1 e1 k1 => hr k1 (h1.mono (fun b s' _ p => p.step e1 k1.sto) fun _ _ _ e => e)) fun _ _ _ e => e⟩
theorem cm_stepE {c1 : M Bool} {f : Bool → M W} {σ : Sg} {H : Hp} {Q : VK} {P : Bool → Hp → Prop} {K : PySem.W.Frag} {mg : Str → Option Value}
    (hr : ∀ {B F ρ s H b}, Ok K B F ρ s σ H → Run (f b) s (Post K B σ s F ρ H Q) (Er K mg Wx B σ) → P b H) (h : EM K mg Wx (c1 >>= f) σ H Q) : CM K mg Wx c1 σ H P := by
  obtain ⟨B, F, ρ, s, k, h⟩ := h
  exact ⟨B, F, ρ, s, k, (Run.bind h).mono (fun b s1 _ h1 F1 ρ1 H1 e1 k1 => hr k1 (h1.mono (fun b s' _ p => p.step e1 k1.sto) fun _ _ _ e => e)) fun _ _ _ e => e⟩
abbrev DW (X : Cx) (Wx : WX) (e : Expr) (m : M Bool) : Prop := PW X e (CM X.K X.mg Wx m)
theorem w_and1 (ha : DC X Wx a c1) : DW X Wx (.BoolOp .And [a] pos) c1 := pw_and1 ha
theorem w_or1 (ha : DC X Wx a c1) : DW X Wx (.BoolOp .Or [a] pos) c1 := pw_or1 ha
theorem w_and (ha : DC X Wx a c1) (hb : DW X Wx (.BoolOp .And (b :: rest) pos) c2) : DW X Wx (.BoolOp .And (a :: b :: rest) pos) (cAnd c1 c2) :=
  pw_mono (pw_and ha hb) fun σ H Q h => cm_step (P := fun c H1 => if c = true then CM X.K X.mg Wx c2 σ H1 Q else Q false H1) (fun {B F ρ s H b} k h => by
    cases b with
    | true => exact iteT ⟨B, F, ρ, s, k, h⟩
    | false => exact iteF ((Run.ret h) F ρ H .refl k)) h
theorem w_or (ha : DC X Wx a c1) (hb : DW X Wx (.BoolOp .Or (b :: rest) pos) c2) : DW X Wx (.BoolOp .Or (a :: b :: rest) pos) (cOr c1 c2) :=
  pw_mono (pw_or ha hb) fun σ H Q h => cm_step (P := fun c H1 => if c = true then Q true H1 else CM X.K X.mg Wx c2 σ H1 Q) (fun {B F ρ s H b} k h => by
    cases b with
    | true => exact iteT ((Run.ret h) F ρ H .refl k)
    | false => exact iteF ⟨B, F, ρ, s, k, h⟩) h
theorem i_bool_ (h : DW X Wx a c1) : DC X Wx a c1 := PW.pt h
theorem i_notT (ha : DC X Wx a c1) : DC X Wx (.UnaryOp .Not a pos) (cNot c1) :=
  pt_mono (pt_not ha) fun σ H Q h => cm_step (P := fun c H1 => Q (!c) H1) (fun {B F ρ s H b} k h => (Run.ret h) F ρ H .refl k) h
theorem i_not (ha : DE X Wx a m) : DE X Wx (.UnaryOp .Not a pos) (eNot m) :=
  pe_mono (pe_notT ha) fun σ H Q h => em_un (P := fun x H1 => ∃ k, TruV X.K x H1 k ∧ Q (.bl (!k)) H1) (fun {B F ρ s H _ _} k o h => by
    obtain ⟨d, e, h⟩ := Run.look h
    obtain ⟨w, e2, h⟩ := Run.ofO h
    cases e3 : truthD d with
    | none => rw [e3] at e2; cases e2
    | some b =>
      rw [e3] at e2
      cases e2
      exact ⟨b, truth_ok (content_ok k o e).1 e3, h.val k (.bl _)⟩) h
theorem keep_ok {K : PySem.W.Frag} {mg : Str → Option Value} {B : Base} {F : Fz} {ρ : List Addr} {s : S} {σ : Sg} {H : Hp} {x : V} {w : W} {Q : VK} (k : Ok K B F ρ s σ H) (o : WOk K B F ρ s σ H x w) (h : Run (keepW w) s (Post K B σ s F ρ H Q) (Er K mg Wx B σ)) : Q x H := by
  cases w with
  | own ds => exact h.elim
  | val d => exact (Run.ret h) F ρ H x .refl k o trivial
  | ref n => exact (Run.ret h) F ρ H x .refl k o trivial
  | peek i => exact (Run.ret h) F ρ H x .refl k o trivial
  | scr ns => exact (Run.ret h) F ρ H x .refl k o trivial
theorem i_one {op} (ha : DE X Wx a m) : DE X Wx (.BoolOp op [a] pos) m := pe_one ha
theorem i_and (ha : DE X Wx a m1) (hb : DE X Wx (.BoolOp .And (b :: rest) pos) m2) : DE X Wx (.BoolOp .And (a :: b :: rest) pos) (eAnd m1 m2) :=
  pe_mono (pe_andT ha hb) fun σ H Q h => em_un (P := fun x H1 => ∃ k, TruV X.K x H1 k ∧ if k = true then EM X.K X.mg Wx m2 σ H1 Q else Q x H1) (fun {B F ρ s H _ _} k o h => by
    obtain ⟨d, e, h⟩ := Run.look h
    obtain ⟨b, e2, h⟩ := Run.ofOb h
    refine ⟨b, truth_ok (content_ok k o e).1 e2, ?_⟩
    cases b with
    | true => exact iteT ⟨B, F, ρ, s, k, h⟩
    | false => exact iteF (keep_ok k o h)) h
theorem i_or (ha : DE X Wx a m1) (hb : DE X Wx (.BoolOp .Or (b :: rest) pos) m2) : DE X Wx (.BoolOp .Or (a :: b :: rest) pos) (eOr m1 m2) :=
  pe_mono (pe_orT ha hb) fun σ H Q h => em_un (P := fun x H1 => ∃ k, TruV X.K x H1 k ∧ if k = true then Q x H1 else EM X.K X.mg Wx m2 σ H1 Q) (fun {B F ρ s H _ _} k o h => by
    obtain ⟨d, e, h⟩ := Run.look h
    obtain ⟨b, e2, h⟩ := Run.ofOb h
    refine ⟨b, truth_ok (content_ok k o e).1 e2, ?_⟩
    cases b with
    | true => exact iteT (keep_ok k o h)
    | false => exact iteF ⟨B, F, ρ, s, k, h⟩) h
theorem i_if (hc : DC X Wx c c1) (ha : DE X Wx a m1) (hb : DE X Wx b m2) : DE X Wx (.IfExp c a b pos) (eIf c1 m1 m2) :=
  pe_mono (pe_ifExp hc ha hb) fun σ H Q h => cm_stepE (P := fun c H1 => if c = true then EM X.K X.mg Wx m1 σ H1 Q else EM X.K X.mg Wx m2 σ H1 Q) (fun {B F ρ s H b} k h => by
    cases b with
    | true => exact iteT ⟨B, F, ρ, s, k, h⟩
    | false => exact iteF ⟨B, F, ρ, s, k, h⟩) h
theorem i_neg (ha : DE X Wx a m) : DE X Wx (.UnaryOp .USub a pos) (eNeg m) :=
  pe_mono (pe_un un_neg ha) fun σ H Q h => em_un (P := fun x H1 => rU (fun i => .int (-i)) x H1 Q) (fun {B F ρ s H _ _} k o h => by
    obtain ⟨d, e, h⟩ := Run.look h
    obtain ⟨w, e2, h⟩ := Run.ofO h
    cases d with
    | int i =>
      cases e2
      exact ⟨i, (content_ok k o e).1.int, h.val k (.int _)⟩
    | _ => cases e2) h
end

/-! ### arguments: what is handed over is frozen -/
def S.setEnv (s : S) (i : Nat) (o : Option W) : S := { s with env := s.env.set i o }
def escSlot (i : Nat) (s : S) : Option (Option W) → Out S W
  | some (some (.val d)) => .ok (.val d) s
  | some (some (.own ds)) => .ok (.val (.list ds)) (s.setEnv i (some (.val (.list ds))))
  | some (some (.ref n)) => .ok (.ref n) s
  | some (some (.scr ns)) => .ok (.scr ns) s
  | _ => .fail
def escW (w : W) : M W := fun s => match w with
  | .val d => .ok (.val d) s
  | .own ds => .ok (.val (.list ds)) s
  | .ref n => .ok (.ref n) s
  | .scr ns => .ok (.scr ns) s
  | .peek i => escSlot i s s.env[i]?
def aNil : M (List W) := Pure.pure []
def aCons (m : M W) (r : M (List W)) : M (List W) := m >>= fun a => escW a >>= fun w => r >>= fun ws => Pure.pure (w :: ws)
def stable : W → Bool
  | .val _ => true
  | .ref _ => true
  | .scr _ => true
  | _ => false
section
variable {K : PySem.W.Frag} {mg : Str → Option Value} {Wx : WX} {B : Base} {F F0 F' F1 F2 : Fz} {ρ ρ0 ρ' ρ1 ρ2 : List Addr} {s s0 s' s1 s2 : S} {σ σ' : Sg} {H Hs H' H1 H2 : Hp} {v : V} {w : W} {p : Addr} {o : HO} {d : D} {Q : VK}
/-- slot i, an own list, is frozen -/
theorem Ok.freezeSlot {i : Nat} {ds : List D} (k : Ok K B F ρ s σ H) (e : s.env[i]? = some (some (.own ds))) : ∃ a vs, σ[i]? = some (some (.ref a)) ∧ H a = some (.lst vs) ∧ RpAll K F H vs ds ∧ OwnedBy s σ a ∧
    Ok K B (fun b => F b ∨ b = a) ρ (s.setEnv i (some (.val (.list ds)))) σ H := by
  obtain ⟨v, e1, a, vs, e2, h1, h2, h3, h4, h5⟩ := k.env i _ e
  subst e2
  have hi : i < s.env.length := (List.getElem?_eq_some_iff.mp e).1
  refine ⟨a, vs, e1, h1, h2, ⟨i, ds, e, e1⟩, ?_⟩
  have env' : ∀ (j : Nat) (w : W), (s.env.set i (some (.val (.list ds))))[j]? = some (some w) → (j = i ∧ w = .val (.list ds)) ∨ (j ≠ i ∧ s.env[j]? = some (some w)) := fun j w e => by
    by_cases hj : j = i
    · subst hj
      rw [List.getElem?_set_self hi] at e
      cases e
      exact .inl ⟨rfl, rfl⟩
    · rw [List.getElem?_set_ne (Ne.symm hj)] at e
      exact .inr ⟨hj, e⟩
  exact {
    len := by rw [← k.len]; exact List.length_set
    base := ⟨fun b f => .inl (k.base.sub b f), k.base.rho, k.base.new, k.base.keep, fun b f => by
      rcases f with f | f
      · exact k.base.fz b f
      · rw [f]; exact .inr h5⟩
    trk := fun b f => by
      rcases f with f | f
      · exact k.trk b f
      · rw [f]; exact ⟨vs, h1⟩
    sto := ⟨k.sto.len, k.sto.nd, fun n ds' e' => by
      obtain ⟨b, ws, q1, q2, q3, q4⟩ := k.sto.at_ n ds' e'
      refine ⟨b, ws, q1, fun f => ?_, q3, q4.st stay_refl fun _ z => .inl z⟩
      rcases f with f | f
      · exact q2 f
      · subst f; exact h4 (List.mem_of_getElem? q1)⟩
    env := fun j w e' => by
      rcases env' j w e' with ⟨rfl, rfl⟩ | ⟨hj, e'⟩
      · exact ⟨.ref a, e1, .lst (.inr rfl) h1 (h2.st stay_refl fun _ z => .inl z)⟩
      · obtain ⟨v', q1, q2⟩ := k.env j w e'
        refine ⟨v', q1, ?_⟩
        cases w with
        | val d => exact Rp.st q2 stay_refl fun _ z => .inl z
        | own es =>
          obtain ⟨b, ws, p1, p2, p3, p4, p5, p6⟩ := q2
          refine ⟨b, ws, p1, p2, p3.st stay_refl (fun _ z => .inl z), fun f => ?_, p5, p6⟩
          rcases f with f | f
          · exact p4 f
          · subst f p1
            exact hj (k.sep j i es ds b e' e q1 e1)
        | ref n => exact q2
        | peek i => exact q2
        | scr ns => exact q2
    sep := fun j l ds' es' b q1 q2 q3 q4 => by
      rcases env' j _ q1 with ⟨_, q⟩ | ⟨_, q1⟩
      · cases q
      · rcases env' l _ q2 with ⟨_, q⟩ | ⟨_, q2⟩
        · cases q
        · exact k.sep j l ds' es' b q1 q2 q3 q4 }
theorem owned_set {i : Nat} {d : D} {a : Addr} (h : OwnedBy (s.setEnv i (some (.val d))) σ a) : OwnedBy s σ a := by
  obtain ⟨j, ds, e1, e2⟩ := h
  refine ⟨j, ds, ?_, e2⟩
  have e1' : (s.env.set i (some (.val d)))[j]? = some (some (.own ds)) := e1
  by_cases hj : i = j
  · subst hj
    by_cases hi : i < s.env.length
    · rw [List.getElem?_set_self hi] at e1'; cases e1'
    · rw [List.getElem?_eq_none (by rw [List.length_set]; omega)] at e1'; cases e1'
  · rw [List.getElem?_set_ne hj] at e1'; exact e1'
/-- behind an evaluation that began at s0 the value is frozen -/
theorem esc_ok {ok : W → S → Prop} {er : Exc → S → Prop} (k0 : Sto K F ρ s.st H) (e : Ext s0 σ F0 ρ0 Hs s F ρ H) (k : Ok K B F ρ s σ H) (o : WOk K B F ρ s σ H v w) (f : Fresh Hs v w) (h : Run (escW w) s ok er) :
    ∃ F' s' w', Ok K B F' ρ s' σ H ∧ Ext s0 σ F0 ρ0 Hs s' F' ρ H ∧ WOk K B F' ρ s' σ H v w' ∧ stable w' = true ∧ ok w' s' := by
  cases w with
  | val d => exact ⟨F, s, _, k, e, o, rfl, h⟩
  | ref n => exact ⟨F, s, _, k, e, o, rfl, h⟩
  | scr ns => exact ⟨F, s, _, k, e, o, rfl, h⟩
  | own ds =>
    obtain ⟨a, vs, rfl, h1, h2, h3, h4, h5, h6⟩ := o
    refine ⟨_, s, .val (.list ds), k.freeze h1 h4 h5 h6, ⟨fun b z => .inl (e.sub b z), e.rho, e.new, e.keep, e.th, fun b z => ?_, e.ow⟩, .lst (.inr rfl) h1 (h2.st stay_refl fun _ z => .inl z), rfl, h⟩
    rcases z with z | z
    · exact e.fz b z
    · rw [z]; exact .inr (.inl (f a rfl))
  | peek i =>
    have o' : σ[i]? = some (some v) := o
    have h : Run (fun _ => escSlot i s s.env[i]?) s ok er := h
    cases q : s.env[i]? with
    | none => rw [q] at h; exact h.elim
    | some oo =>
      cases oo with
      | none => rw [q] at h; exact h.elim
      | some w' =>
        rw [q] at h
        cases w' with
        | val d =>
          obtain ⟨v', e1, e2⟩ := k.env i _ q
          rw [o'] at e1; cases e1
          exact ⟨F, s, .val d, k, e, e2, rfl, h⟩
        | ref n =>
          obtain ⟨v', e1, e2⟩ := k.env i _ q
          rw [o'] at e1; cases e1
          exact ⟨F, s, .ref n, k, e, e2, rfl, h⟩
        | scr ns =>
          obtain ⟨v', e1, e2⟩ := k.env i _ q
          rw [o'] at e1; cases e1
          exact ⟨F, s, .scr ns, k, e, e2, rfl, h⟩
        | peek j => exact h.elim
        | own ds =>
          obtain ⟨a, vs, e1, h1, h2, h3, h4⟩ := k.freezeSlot q
          rw [o'] at e1; cases e1
          refine ⟨_, _, .val (.list ds), h4, ⟨fun b z => .inl (e.sub b z), e.rho, e.new, e.keep, e.th, fun b z => ?_, fun b z => e.ow b (owned_set z)⟩, .lst (.inr rfl) h1 (h2.st stay_refl fun _ z => .inl z), rfl, h⟩
          rcases z with z | z
          · exact e.fz b z
          · rw [z]; exact .inr (.inr (e.ow a h3))
theorem fresh_stable (h : stable w = true) : Fresh H v w := by
  cases w with
  | own ds => cases h
  | _ => trivial
theorem WAll.mono {vs : List V} {ws : List W} (k : Ok K B F ρ s σ H) (x : Ext s σ F ρ H s' F' ρ' H') (h : WAll K B F ρ s σ H vs ws) : WAll K B F' ρ' s' σ H' vs ws := by
  induction h with
  | nil => exact .nil
  | cons a _ ih => exact .cons (a.mono k x) ih
end
section
variable {X : Cx} {Wx : WX} {pos : Pos} {e : Expr} {es : List Expr} {m m1 m2 : M W} {ma : M (List W)}
theorem a_nil : DA X Wx [] aNil := pa_mono pa_nil fun σ H Q ⟨B, F, ρ, s, k, h⟩ => (Run.ret h) F ρ H [] .refl k .nil
theorem cons_step {K : PySem.W.Frag} {mg : Str → Option Value} {σ : Sg} {H : Hp} {Q : List V → Hp → Prop} (h : AM K mg Wx (aCons m ma) σ H Q) : EM K mg Wx m σ H fun x H1 => AM K mg Wx ma σ H1 fun xs H2 => Q (x :: xs) H2 := by
  obtain ⟨B, F, ρ, s, k, h⟩ := h
  refine ⟨B, F, ρ, s, k, (Run.bind h).mono (fun w1 s1 _ h1 F1 ρ1 H1 x e1 k1 o1 f1 => ?_) fun _ _ _ e => e⟩
  obtain ⟨F2, s2, w2, k2, e2, o2, st2, h2⟩ := esc_ok k1.sto e1 k1 o1 f1 (Run.bind h1)
  refine ⟨B, F2, ρ1, s2, k2, (Run.bind h2).mono (fun ws s3 _ h3 F3 ρ3 H3 vs e3 k3 o3 => ?_) fun _ _ _ e => e⟩
  exact (Run.ret h3) F3 ρ3 H3 _ (e2.trans e3 k2.sto) k3 (.cons (o2.mono k2 e3) o3)
theorem a_cons (ha : DE X Wx e m) (hr : DA X Wx es ma) (hs : starEach (e :: es) X.env = (false, eval e X.env) :: starEach es X.env := by rfl) : DA X Wx (e :: es) (aCons m ma) :=
  pa_mono (pa_cons ha hr hs) fun σ H Q h => cons_step h
abbrev DK (X : Cx) (Wx : WX) (ks : List Keyword) (m : M (List W)) : Prop := PK X ks (AM X.K X.mg Wx m)
theorem k_nil : DK X Wx [] aNil := ⟨fun pos pins s σ H Q I ⟨B, F, ρ, s', k, h⟩ => pk_nil.run pos pins s σ H Q I ((Run.ret h) F ρ H [] .refl k .nil)⟩
theorem k_cons {nm : Option Str} {kpos : Pos} {kws : List Keyword} (ha : DE X Wx e m) (hr : DK X Wx kws ma) : DK X Wx (⟨nm, e, kpos⟩ :: kws) (aCons m ma) :=
  ⟨fun pos pins s σ H Q I h => (pk_cons ha hr).run pos pins s σ H Q I (cons_step h)⟩
/-! ### displays -/
def allVal : List W → Option (List D)
  | [] => some []
  | .val d :: r => (allVal r).map (d :: ·)
  | _ => none
theorem allVal_ok {K : PySem.W.Frag} {B : Base} {F : Fz} {ρ : List Addr} {s : S} {σ : Sg} {H : Hp} : ∀ {vs : List V} {ws : List W} {ds : List D}, WAll K B F ρ s σ H vs ws → allVal ws = some ds → RpAll K F H vs ds
  | _, _, _, .nil, e => by cases e; exact .nil
  | _, w :: ws, ds, .cons a b, e => by
    cases w with
    | val d =>
      have e' : (allVal ws).map (d :: ·) = some ds := e
      cases q : allVal ws with
      | none => rw [q] at e'; cases e'
      | some r =>
        rw [q] at e'
        cases e'
        exact .cons a (allVal_ok b q)
    | _ => cases e
def eTup (ma : M (List W)) : M W := ma >>= fun ws => ofO ((allVal ws).bind fun ds => if ds.length ≤ sizeLine then some (.val (.tuple ds)) else none)
def eLst (ma : M (List W)) : M W := ma >>= fun ws => ofO ((allVal ws).bind fun ds => if ds.length ≤ sizeLine then some (.own ds) else none)
/-- a list that goes into the store -/
def eNew (ma : M (List W)) : M W := ma >>= fun ws => ofO ((allVal ws).bind fun ds => if ds.length ≤ sizeLine then some ds else none) >>= fun ds s => .ok (.ref s.st.length) { s with st := s.st ++ [ds] }
theorem am_step {K : PySem.W.Frag} {mg : Str → Option Value} {σ : Sg} {H : Hp} {Q : VK} {P : List V → Hp → Prop} {f : List W → M W}
    (hr : ∀ {B F ρ s H vs ws}, Ok K B F ρ s σ H → WAll K B F ρ s σ H vs ws → Run (f ws) s (Post K B σ s F ρ H Q) (Er K mg Wx B σ) → P vs H) (h : EM K mg Wx (ma >>= f) σ H Q) : AM K mg Wx ma σ H P := by
  obtain ⟨B, F, ρ, s, k, h⟩ := h
  exact ⟨B, F, ρ, s, k, (Run.bind h).mono (fun ws s1 _ h1 F1 ρ1 H1 vs e1 k1 o1 => hr k1 o1 (h1.mono (fun w s' _ p => p.step e1 k1.sto) fun _ _ _ e => e)) fun _ _ _ e => e⟩
theorem i_tup {x1} (ha : DA X Wx es ma) : DE X Wx (.Tuple es x1 pos) (eTup ma) :=
  pe_mono (pe_tup ha) fun σ H Q h => am_step (P := fun xs H1 => xs.length ≤ sizeLine ∧ ∀ p, H1 p = none → Q (.ref p) (upd H1 p (.tup xs))) (fun {B F ρ s H vs ws} k o h => by
    obtain ⟨w, e, h⟩ := Run.ofO h
    cases q : allVal ws with
    | none => rw [q] at e; cases e
    | some ds =>
      rw [q] at e
      have e' : (if ds.length ≤ sizeLine then some (W.val (.tuple ds)) else none) = some w := e
      split at e'
      · rename_i hz
        cases e'
        have r := allVal_ok o q
        exact ⟨by rw [r.length]; exact hz, fun p hp => h.tup k r hp⟩
      · cases e') h
theorem i_lst (ha : DA X Wx es ma) : DE X Wx (.List es pos) (eLst ma) :=
  pe_mono (pe_lst ha) fun σ H Q h => am_step (P := fun xs H1 => xs.length ≤ sizeLine ∧ ∀ p, H1 p = none → Q (.ref p) (upd H1 p (.lst xs))) (fun {B F ρ s H vs ws} k o h => by
    obtain ⟨w, e, h⟩ := Run.ofO h
    cases q : allVal ws with
    | none => rw [q] at e; cases e
    | some ds =>
      rw [q] at e
      have e' : (if ds.length ≤ sizeLine then some (W.own ds) else none) = some w := e
      split at e'
      · rename_i hz
        cases e'
        have r := allVal_ok o q
        exact ⟨by rw [r.length]; exact hz, fun p hp => h.own k r hp⟩
      · cases e') h
/-- a new list joins the store -/
theorem Ok.push {K : PySem.W.Frag} {B : Base} {F : Fz} {ρ : List Addr} {s : S} {σ : Sg} {H : Hp} {p : Addr} {vs : List V} {ds : List D} (k : Ok K B F ρ s σ H) (hp : H p = none) (r : RpAll K F H vs ds) :
    Ok K B F (ρ ++ [p]) { s with st := s.st ++ [ds] } σ (upd H p (.lst vs)) := by
  have k' := k.new (o := .lst vs) hp
  have up : ∀ {b : Addr} {o : HO}, H b = some o → upd H p (.lst vs) b = some o := fun e => by rw [upd_ne (ne_of_none e hp)]; exact e
  exact {
    len := k.len
    base := ⟨k'.base.sub, by
        obtain ⟨m, e⟩ := k.base.rho
        exact ⟨m ++ [p], by rw [e, List.append_assoc]⟩, fun a h => by
        rcases List.mem_append.mp h with h | h
        · exact k.base.new a h
        · rw [List.mem_singleton.mp h]; exact .inr (k.fresh hp), k'.base.keep, k'.base.fz⟩
    trk := k'.trk
    sto := ⟨by rw [List.length_append, List.length_append, k.sto.len]; rfl, by
        refine List.nodup_append.mpr ⟨k.sto.nd, by simp, fun a ha b hb e => ?_⟩
        rw [List.mem_singleton.mp hb] at e
        exact k.nρ hp (e ▸ ha), fun n es e => by
        by_cases hn : n < s.st.length
        · rw [List.getElem?_append_left hn] at e
          obtain ⟨a, ws, e1, e2, e3, e4⟩ := k.sto.at_ n es e
          have hn' : n < ρ.length := by rw [← k.sto.len]; exact hn
          exact ⟨a, ws, by rw [List.getElem?_append_left hn']; exact e1, e2, up e3, e4.st (stay_upd hp) fun _ z => z⟩
        · have hn2 : s.st.length ≤ n := Nat.le_of_not_lt hn
          rw [List.getElem?_append_right hn2] at e
          cases hd : n - s.st.length with
          | zero =>
            rw [hd] at e
            cases e
            refine ⟨p, vs, ?_, k.nF hp, upd_same, r.st (stay_upd hp) fun _ z => z⟩
            rw [List.getElem?_append_right (by rw [← k.sto.len]; exact hn2), ← k.sto.len, hd]
            rfl
          | succ j => rw [hd] at e; cases e⟩
    env := fun i w e => by
      obtain ⟨v, e1, e2⟩ := k'.env i w e
      refine ⟨v, e1, ?_⟩
      cases w with
      | val d => exact e2
      | own es =>
        obtain ⟨a, ws, q1, q2, q3, q4, q5, q6⟩ := e2
        refine ⟨a, ws, q1, q2, q3, q4, fun h => ?_, q6⟩
        rcases List.mem_append.mp h with h | h
        · exact q5 h
        · rw [List.mem_singleton.mp h] at q1
          exact k.nO hp ⟨i, es, e, by rw [e1, q1]⟩
      | ref n =>
        obtain ⟨a, q1, q2⟩ := e2
        refine ⟨a, q1, ?_⟩
        obtain ⟨hn, _⟩ := List.getElem?_eq_some_iff.mp q2
        rw [List.getElem?_append_left hn]; exact q2
      | peek i => exact e2
      | scr ns => exact e2
    sep := k.sep }
theorem i_new (ha : DA X Wx es ma) : DE X Wx (.List es pos) (eNew ma) :=
  pe_mono (pe_lst ha) fun σ H Q h => am_step (P := fun xs H1 => xs.length ≤ sizeLine ∧ ∀ p, H1 p = none → Q (.ref p) (upd H1 p (.lst xs))) (fun {B F ρ s H vs ws} k o h => by
    obtain ⟨ds, e, h⟩ := Run.ofOb h
    cases q : allVal ws with
    | none => rw [q] at e; cases e
    | some ds' =>
      rw [q] at e
      have e' : (if ds'.length ≤ sizeLine then some ds' else none) = some ds := e
      split at e'
      · rename_i hz
        cases e'
        have r := allVal_ok o q
        refine ⟨by rw [r.length]; exact hz, fun p hp => ?_⟩
        have k2 := k.push hp r
        refine h F (ρ ++ [p]) _ _ ⟨fun _ z => z, ⟨[p], rfl⟩, fun a z => ?_, fun a u e _ _ => by rw [upd_ne (ne_of_none e hp)]; exact e, fun a e => upd_none e, fun _ z => .inl z, fun _ z => z⟩ k2 ⟨p, rfl, ?_⟩ trivial
        · rcases List.mem_append.mp z with z | z
          · exact .inl z
          · rw [List.mem_singleton.mp z]; exact .inr hp
        · rw [List.getElem?_append_right (by rw [k.sto.len]; exact Nat.le_refl _), k.sto.len, Nat.sub_self]; rfl
      · cases e') h
end
end Z
/-! Z, part 5: defs, calls of defs, statements without loops. -/
namespace Z
open PySem PySem.Spec PyProof.Rows L2

/-! ### a def's promise -/
structure OkF (K : PySem.W.Frag) (F : Fz) (ρ : List Addr) (st : Store) (H : Hp) : Prop where
  trk : ∀ a, F a → ∃ xs, H a = some (.lst xs)
  sto : Sto K F ρ st H
def VOk (K : PySem.W.Frag) (F : Fz) (ρ : List Addr) (H : Hp) (v : V) : W → Prop
  | .val d => Rp K F H v d
  | .ref n => ∃ a, v = .ref a ∧ ρ[n]? = some a
  | .scr ns => ∃ a, v = .ref a ∧ ScrAt K H a ns
  | _ => False
inductive VAll (K : PySem.W.Frag) (F : Fz) (ρ : List Addr) (H : Hp) : List V → List W → Prop
  | nil : VAll K F ρ H [] []
  | cons {v : V} {vs : List V} {w : W} {ws : List W} : VOk K F ρ H v w → VAll K F ρ H vs ws → VAll K F ρ H (v :: vs) (w :: ws)
theorem VAll.length {K : PySem.W.Frag} {F : Fz} {ρ : List Addr} {H : Hp} {vs : List V} {ws : List W} (h : VAll K F ρ H vs ws) : vs.length = ws.length := by
  induction h with
  | nil => rfl
  | cons _ _ ih => simp [ih]
theorem VAll.get {K : PySem.W.Frag} {F : Fz} {ρ : List Addr} {H : Hp} {vs : List V} {ws : List W} (h : VAll K F ρ H vs ws) : ∀ {i : Nat} {w : W}, ws[i]? = some w → ∃ v, vs[i]? = some v ∧ VOk K F ρ H v w := by
  induction h with
  | nil => intro i w e; simp at e
  | cons a _ ih =>
    intro i w e
    cases i with
    | zero => simp at e; subst e; exact ⟨_, rfl, a⟩
    | succ i =>
      obtain ⟨v, h1, h2⟩ := ih (i := i) (w := w) (by simpa using e)
      exact ⟨v, by simpa using h1, h2⟩
def ROk (K : PySem.W.Frag) (F : Fz) (ρ : List Addr) (Hs H : Hp) (v : V) : W → Prop
  | .val d => Rp K F H v d
  | .own ds => ∃ a vs, v = .ref a ∧ H a = some (.lst vs) ∧ RpAll K F H vs ds ∧ ¬ F a ∧ a ∉ ρ ∧ Hs a = none
  | .ref n => ∃ a, v = .ref a ∧ ρ[n]? = some a
  | .scr ns => ∃ a, v = .ref a ∧ ScrAt K H a ns
  | .peek _ => False
def FRun (r : Out Store W) (ok : W → Store → Prop) (er : Exc → Store → Prop) : Prop := match r with
  | .fail => False
  | .ok w st => ok w st
  | .err x st => er x st
def spZ (K : PySem.W.Frag) (mg : Str → Option Value) (n : Nat) (f : Fn) : Sp := fun vs H Q E => ∃ F ρ st ws, vs.length = n ∧ OkF K F ρ st H ∧ VAll K F ρ H vs ws ∧
  FRun (f ws st) (fun w st' => ∀ F' ρ' v H', Fx F ρ H F' ρ' H' → OkF K F' ρ' st' H' → ROk K F' ρ' H H' v w → Q v H')
    (fun x st' => ∀ F' ρ' cls d H', Fx F ρ H F' ρ' H' → OkF K F' ρ' st' H' → XOk K mg F' H' x cls d → E cls d H')
/-! ### calls -/
def callF (n : Nat) (f : Fn) (ws : List W) : M W := fun s => if ws.length = n then (match f ws s.st with
  | .fail => .fail
  | .ok w st => .ok w { s with st := st }
  | .err x st => .err x { s with st := st }) else .fail
def eCall (n : Nat) (f : Fn) (ma : M (List W)) : M W := ma >>= callF n f
section
variable {K : PySem.W.Frag} {mg : Str → Option Value} {Wx : WX} {B : Base} {F F0 F' F1 F2 : Fz} {ρ ρ0 ρ' ρ1 ρ2 : List Addr} {s s0 s' s1 s2 : S} {σ σ' : Sg} {H Hs H' H1 H2 : Hp} {v : V} {w : W} {p : Addr} {o : HO} {d : D} {Q : VK} {st' : Store}
theorem Ok.okF (k : Ok K B F ρ s σ H) : OkF K F ρ s.st H := ⟨k.trk, k.sto⟩
theorem Ok.call (k : Ok K B F ρ s σ H) (x : Fx F ρ H F' ρ' H') (o : OkF K F' ρ' st' H') : Ok K B F' ρ' { s with st := st' } σ H' where
  len := k.len
  base := k.base.trans x k.sto
  trk := o.trk
  sto := o.sto
  env := fun i w e => by
    obtain ⟨v, e1, e2⟩ := k.env i w e
    have stay := x.stay k.sto
    refine ⟨v, e1, ?_⟩
    cases w with
    | val d => exact Rp.st e2 stay x.sub
    | own ds =>
      obtain ⟨a, vs, q1, q2, q3, q4, q5, q6⟩ := e2
      refine ⟨a, vs, q1, x.keep a _ q2 q5, q3.st stay x.sub, fun f => ?_, fun f => ?_, q6⟩
      · rcases x.fz a f with f | f
        · exact q4 f
        · rw [q2] at f; cases f
      · rcases x.new a f with f | f
        · exact q5 f
        · rw [q2] at f; cases f
    | ref n =>
      obtain ⟨a, q1, q2⟩ := e2
      obtain ⟨m, em⟩ := x.rho
      refine ⟨a, q1, ?_⟩
      rw [em]
      obtain ⟨hn, _⟩ := List.getElem?_eq_some_iff.mp q2
      rw [List.getElem?_append_left hn]; exact q2
    | peek i => exact e2
    | scr ns =>
      obtain ⟨a, q1, q2⟩ := e2
      exact ⟨a, q1, q2.mono stay⟩
  sep := k.sep
theorem Fx.ext (x : Fx F ρ H F' ρ' H') (o : OkF K F' ρ' st' H') : Ext s σ F ρ H { s with st := st' } F' ρ' H' :=
  ⟨x.sub, x.rho, x.new, fun a o e n _ => x.keep a o e n, fun a e => x.there o.sto e, fun a f => (x.fz a f).elim .inl fun z => .inr (.inl z), fun _ h => h⟩
theorem ROk.wok (k : Ok K B F ρ s σ H) (x : Fx F ρ H F' ρ' H') (o : OkF K F' ρ' st' H') (r : ROk K F' ρ' H H' v w) : WOk K B F' ρ' { s with st := st' } σ H' v w ∧ Fresh H v w := by
  cases w with
  | val d => exact ⟨r, trivial⟩
  | own ds =>
    obtain ⟨a, vs, rfl, h1, h2, h3, h4, h5⟩ := r
    exact ⟨⟨a, vs, rfl, h1, h2, h3, h4, fun z => k.nO h5 z, k.fresh h5⟩, fun b e => by cases e; exact h5⟩
  | ref n => exact ⟨r, trivial⟩
  | peek i => exact r.elim
  | scr ns => exact ⟨r, trivial⟩
theorem vok_of (h : WOk K B F ρ s σ H v w) (st : stable w = true) : VOk K F ρ H v w := by
  cases w with
  | val d => exact h
  | ref n => exact h
  | scr ns => exact h
  | own ds => cases st
  | peek i => cases st
end
/-- stable arguments -/
inductive WSt : List W → Prop
  | nil : WSt []
  | cons {w : W} {ws : List W} : stable w = true → WSt ws → WSt (w :: ws)
theorem vall_of {K : PySem.W.Frag} {B : Base} {F : Fz} {ρ : List Addr} {s : S} {σ : Sg} {H : Hp} {vs : List V} {ws : List W} (h : WAll K B F ρ s σ H vs ws) (hs : WSt ws) : VAll K F ρ H vs ws := by
  induction h with
  | nil => exact .nil
  | cons a _ ih =>
    cases hs with
    | cons b c => exact .cons (vok_of a b) (ih c)
def stAll : List W → Bool
  | [] => true
  | w :: ws => stable w && stAll ws
theorem stAll_ok : ∀ {ws : List W}, stAll ws = true → WSt ws
  | [], _ => .nil
  | w :: ws, h => by
    have h' : (stable w && stAll ws) = true := h
    rw [Bool.and_eq_true] at h'
    exact .cons h'.1 (stAll_ok h'.2)
def callS (n : Nat) (f : Fn) (ws : List W) : M W := if stAll ws = true then callF n f ws else M.fail
def eCallS (n : Nat) (f : Fn) (ma : M (List W)) : M W := ma >>= callS n f
section
variable {X : Cx} {Wx : WX} {k : Nat} {f : Addr} {fd : FuncData} {ps : List Str} {fs : Fn} {x : Str} {p pos : Pos} {e : Expr} {es : List Expr} {ma mk : M (List W)} {n : Nat}
theorem call_step {B : Base} {F : Fz} {ρ : List Addr} {s : S} {σ : Sg} {H : Hp} {vs : List V} {ws : List W} {Q : VK} {K : PySem.W.Frag} {mg : Str → Option Value} (kk : Ok K B F ρ s σ H) (o : WAll K B F ρ s σ H vs ws)
    (h : Run (callS n fs ws) s (Post K B σ s F ρ H Q) (Er K mg Wx B σ)) : spZ K mg n fs vs H Q (WE Wx σ) := by
  unfold callS at h
  split at h
  · rename_i hst
    have va := vall_of o (stAll_ok hst)
    unfold Run callF at h
    by_cases hn : ws.length = n
    · rw [if_pos hn] at h
      refine ⟨F, ρ, s.st, ws, va.length.trans hn, kk.okF, va, ?_⟩
      unfold FRun
      cases q : fs ws s.st with
      | fail => rw [q] at h; exact h.elim
      | ok w st' =>
        rw [q] at h
        intro F' ρ' v H' fx okf ro
        obtain ⟨h1, h2⟩ := ROk.wok (st' := st') kk fx okf ro
        exact h F' ρ' H' v (fx.ext okf) (kk.call fx okf) h1 h2
      | err x st' =>
        rw [q] at h
        intro F' ρ' cls d H' fx okf xo
        exact h F' ρ' H' cls d (kk.call fx okf) xo
    · rw [if_neg hn] at h; exact h.elim
  · exact h.elim
theorem i_call (G : FnOk X.prog X.w X.K X.mg X.base (L2.CX X.prog X.w) k f fd ps (spZ X.K X.mg n fs)) (hr : Room k X.A) (hm : X.mg x = some (.ref f)) (hk : PySem.W.keepIn X.K (.ref f) = true) (hb : Binds X.K fd ps []) (tk : Takes X Wx)
    (ha : DA X Wx (e :: es) ma) (hg : Gl X x := by rfl) (hdb : (x == ("__debug__" : Str)) = false := by decide) (he : starEach (e :: es) X.env = (false, eval e X.env) :: starEach es X.env := by rfl) (hpl : (backTo pos (starEach es X.env)).any (·.1) = false := by rfl) :
    DE X Wx (.Call (.Name x p) (e :: es) [] pos) (eCallS n fs ma) :=
  pe_mono (pe_callS (E := WE Wx) G hr hg hm hk hb (fun σ => passAt tk σ) ha hdb he hpl) fun σ H Q h => am_step (P := fun vs H1 => spZ X.K X.mg n fs vs H1 Q (WE Wx σ)) (fun kk o h => call_step kk o h) h
end
/-! ### a def's body -/
inductive SR where
  | next | brk | cont | ret (w : W)
/-- from one state of a body to a later one: what is frozen or fixed stays -/
structure SX (F : Fz) (H : Hp) (F' : Fz) (H' : Hp) : Prop where
  sub : ∀ a, F a → F' a
  stay : Stay F H H'
theorem SX.refl {F : Fz} {H : Hp} : SX F H F H := ⟨fun _ h => h, stay_refl⟩
theorem SX.trans {F F1 F2 : Fz} {H H1 H2 : Hp} (a : SX F H F1 H1) (b : SX F1 H1 F2 H2) : SX F H F2 H2 :=
  ⟨fun x h => b.sub x (a.sub x h), fun x o e q => b.stay x o (a.stay x o e q) (q.elim (fun z => .inl (a.sub x z)) .inr)⟩
theorem SX.rp {K : PySem.W.Frag} {F F' : Fz} {H H' : Hp} {v : V} {d : D} (x : SX F H F' H') (h : Rp K F H v d) : Rp K F' H' v d := Rp.st h x.stay x.sub
theorem SX.rpAll {K : PySem.W.Frag} {F F' : Fz} {H H' : Hp} {vs : List V} {ds : List D} (x : SX F H F' H') (h : RpAll K F H vs ds) : RpAll K F' H' vs ds := h.st x.stay x.sub
theorem Ok.sx {K : PySem.W.Frag} {B : Base} {F F' : Fz} {ρ ρ' : List Addr} {s s' : S} {σ : Sg} {H H' : Hp} (k : Ok K B F ρ s σ H) (x : Ext s σ F ρ H s' F' ρ' H') : SX F H F' H' := ⟨x.sub, k.stay x⟩
def BEnd (K : PySem.W.Frag) (B : Base) (F : Fz) (H : Hp) (D : Ends) (r : SR) (s' : S) : Prop := ∀ F' ρ' H' σ', SX F H F' H' → Ok K B F' ρ' s' σ' H' → match r with
  | .next => D.nx σ' H'
  | .brk => D.bk σ' H'
  | .cont => D.ct σ' H'
  | .ret w => ∀ v, ROk K F' ρ' B.H H' v w → D.rt v H'
def BEr (K : PySem.W.Frag) (mg : Str → Option Value) (Wx : WX) (B : Base) (x : Exc) (s' : S) : Prop := ∀ F' ρ' H' σ' cls d, Ok K B F' ρ' s' σ' H' → XOk K mg F' H' x cls d → Wx cls d σ' H'
def BM (K : PySem.W.Frag) (mg : Str → Option Value) (Wx : WX) (m : M SR) : TS := fun D σ H => ∃ B F ρ s, Ok K B F ρ s σ H ∧ Run m s (BEnd K B F H D) (BEr K mg Wx B)
abbrev DS (X : Cx) (Wx : WX) (st : Stmt) (m : M SR) : Prop := PS X st (BM X.K X.mg Wx m)
abbrev DB (X : Cx) (Wx : WX) (st : List Stmt) (m : M SR) : Prop := PSs X st (BM X.K X.mg Wx m)
def fnOf (nN : Nat) (mb : M SR) : Fn := fun ws st => match mb ⟨ws.map some ++ List.replicate (nN - ws.length) none, st⟩ with
  | .fail => .fail
  | .ok r s' => (match r with
    | .next => .ok (.val .none) s'.st
    | .ret w => .ok w s'.st
    | _ => .fail)
  | .err x s' => .err x s'.st
theorem body_ok {K : PySem.W.Frag} {mg : Str → Option Value} {N : List Str} {n : Nat} {mb : M SR} {vs : List V} {H : Hp} {Q : VK} {E : XK} (hn : n ≤ N.length) (h : spZ K mg n (fnOf N.length mb) vs H Q E) :
    BM K mg (fun cls d _ H => E cls d H) mb { nx := fun _ H' => Q .non H', rt := Q } (L2.start N vs) H := by
  obtain ⟨F, ρ, st, ws, hl, okf, va, h⟩ := h
  have hvw := va.length
  refine ⟨⟨F, ρ, H⟩, F, ρ, ⟨ws.map some ++ List.replicate (N.length - ws.length) none, st⟩, ?_, ?_⟩
  · have envs : ∀ (i : Nat) (w : W), (ws.map some ++ List.replicate (N.length - ws.length) none)[i]? = some (some w) → ws[i]? = some w := fun i w e => by
      by_cases hi : i < ws.length
      · rw [List.getElem?_append_left (by simpa using hi), List.getElem?_map] at e
        cases q : ws[i]? with
        | none => rw [q] at e; cases e
        | some w' => rw [q] at e; cases e; rfl
      · rw [List.getElem?_append_right (by simpa using Nat.le_of_not_lt hi)] at e
        have := List.mem_of_getElem? e
        simp at this
    exact {
      len := by
        unfold L2.start
        simp only [List.length_append, List.length_map, List.length_replicate]
        omega
      base := .refl
      trk := okf.trk
      sto := okf.sto
      env := fun i w e => by
        obtain ⟨v, e1, e2⟩ := va.get (envs i w e)
        refine ⟨v, ?_, ?_⟩
        · unfold L2.start
          have hi : i < vs.length := (List.getElem?_eq_some_iff.mp e1).1
          rw [List.getElem?_append_left (by simpa using hi), List.getElem?_map, e1]
          rfl
        · cases w with
          | val d => exact e2
          | ref n => exact e2
          | scr ns => exact e2
          | own ds => exact e2.elim
          | peek j => exact e2.elim
      sep := fun i j ds es a e1 _ _ _ => by
        obtain ⟨v, _, e2⟩ := va.get (envs i _ e1)
        exact e2.elim }
  · unfold FRun fnOf at h
    unfold Run
    cases q : mb ⟨ws.map some ++ List.replicate (N.length - ws.length) none, st⟩ with
    | fail => rw [q] at h; exact h.elim
    | err x s' =>
      rw [q] at h
      intro F' ρ' H' σ' cls d k xo
      exact h F' ρ' cls d H' k.base k.okF xo
    | ok r s' =>
      rw [q] at h
      cases r with
      | next =>
        intro F' ρ' H' σ' _ k
        exact h F' ρ' .non H' k.base k.okF .non
      | brk => exact h.elim
      | cont => exact h.elim
      | ret w =>
        intro F' ρ' H' σ' _ k v ro
        exact h F' ρ' v H' k.base k.okF ro
theorem fn_ok {P : Program} {w : World} {K : PySem.W.Frag} {mg : Str → Option Value} {base : Heap} {x qual : Str} {st : Stmt} {f : Addr} {fd : FuncData} {N ps : List Str} {k n : Nat} {mb : M SR} (G : Fun K x qual st f fd) (Sc : FnScope N ps (defScope st)) (hps : n = ps.length) (hn : n ≤ N.length)
    (hbody : ∀ (cdv : Value) (A : Around) (outer : List Env) (s : Shared) (H : Hp) (E : XK), Room k (A.deeper (envOfC qual (defScope st) s.heap.objs.size f cdv)) →
      Takes (cxOf (L2.CX P w) P w K mg base N qual (defScope st) f cdv A outer s H E) (fun cls d _ H => E cls d H) →
      DB (cxOf (L2.CX P w) P w K mg base N qual (defScope st) f cdv A outer s H E) (fun cls d _ H => E cls d H) (defBody st) mb) :
    FnOk P w K mg base (L2.CX P w) (k + 1) f fd ps (spZ K mg n (fnOf N.length mb)) :=
  G.okX Sc (fun vs H Q E h => by obtain ⟨_, _, _, _, e, _⟩ := h; rw [e, hps]) fun cdv A outer s H vs Q E hr h =>
    ⟨_, hbody cdv A outer s H E hr (takes_of rfl rfl rfl rfl), body_ok hn h⟩
/-! ### statements -/
def seq (m1 m2 : M SR) : M SR := m1 >>= fun r => match r with
  | .next => m2
  | r => Pure.pure r
def sNext : M SR := Pure.pure .next
def sBrk : M SR := Pure.pure .brk
def sCont : M SR := Pure.pure .cont
def sFail : M SR := M.fail
def sIf (c : M Bool) (m1 m2 : M SR) : M SR := c >>= fun b => if b = true then m1 else m2
def sExpr (m : M W) : M SR := m >>= fun _ => Pure.pure .next
def retSlot (i : Nat) (s : S) : Option (Option W) → Out S SR
  | some (some (.val d)) => .ok (.ret (.val d)) s
  | some (some (.own ds)) => .ok (.ret (.own ds)) (s.setEnv i none)
  | some (some (.ref n)) => .ok (.ret (.ref n)) s
  | some (some (.scr ns)) => .ok (.ret (.scr ns)) s
  | _ => .fail
def retW (w : W) : M SR := fun s => match w with
  | .peek i => retSlot i s s.env[i]?
  | w => .ok (.ret w) s
def sRet (m : M W) : M SR := m >>= retW
def sRetN : M SR := Pure.pure (.ret (.val .none))
/-- a slot is stored -/
def setW (i : Nat) (w : W) : M Unit := fun s => if i < s.env.length then .ok () (s.setEnv i (some w)) else .fail
def asgW (i : Nat) (w : W) : M Unit := match w with
  | .own ds => setW i (.own ds)
  | w => escW w >>= setW i
def sAsg (i : Nat) (m : M W) : M SR := m >>= fun w => asgW i w >>= fun _ => Pure.pure .next
section
variable {K : PySem.W.Frag} {mg : Str → Option Value} {Wx : WX} {B : Base} {F F0 F' F1 F2 : Fz} {ρ ρ0 ρ' ρ1 ρ2 : List Addr} {s s0 s' s1 s2 : S} {σ σ' : Sg} {H Hs H' H1 H2 : Hp} {v : V} {w : W} {p : Addr} {o : HO} {d : D} {Q : VK} {i : Nat}
theorem env_set {env : List (Option W)} {i j : Nat} {o : Option W} {w : W} (e : (env.set i o)[j]? = some (some w)) : (j = i ∧ o = some w) ∨ (j ≠ i ∧ env[j]? = some (some w)) := by
  by_cases hj : j = i
  · subst hj
    by_cases hl : j < env.length
    · rw [List.getElem?_set_self hl] at e
      cases e
      exact .inl ⟨rfl, rfl⟩
    · rw [List.getElem?_eq_none (by rw [List.length_set]; omega)] at e; cases e
  · rw [List.getElem?_set_ne (Ne.symm hj)] at e
    exact .inr ⟨hj, e⟩
/-- a slot forgotten -/
theorem Ok.clear (k : Ok K B F ρ s σ H) (i : Nat) : Ok K B F ρ (s.setEnv i none) σ H where
  len := by rw [← k.len]; exact List.length_set
  base := k.base
  trk := k.trk
  sto := k.sto
  env := fun j w e => by
    rcases env_set e with ⟨_, e⟩ | ⟨_, e⟩
    · cases e
    · exact k.env j w e
  sep := fun j l ds es a e1 e2 e3 e4 => by
    rcases env_set e1 with ⟨_, e⟩ | ⟨_, e1⟩
    · cases e
    · rcases env_set e2 with ⟨_, e⟩ | ⟨_, e2⟩
      · cases e
      · exact k.sep j l ds es a e1 e2 e3 e4
/-- a slot stored -/
theorem Ok.store (k : Ok K B F ρ s σ H) (hi : i < s.env.length) (so : SOk K B F ρ H v w) (no : ∀ ds a, w = .own ds → v = .ref a → ¬ OwnedBy s σ a) : Ok K B F ρ (s.setEnv i (some w)) (σ.set i (some v)) H where
  len := by
    show (s.env.set i (some w)).length = (σ.set i (some v)).length
    rw [List.length_set, List.length_set]
    exact k.len
  base := k.base
  trk := k.trk
  sto := k.sto
  env := fun j w' e => by
    rcases env_set e with ⟨hj, e⟩ | ⟨hj, e⟩
    · cases e
      subst hj
      exact ⟨v, List.getElem?_set_self (by rw [← k.len]; exact hi), so⟩
    · obtain ⟨v', e1, e2⟩ := k.env j w' e
      exact ⟨v', by rw [List.getElem?_set_ne (Ne.symm hj)]; exact e1, e2⟩
  sep := fun j l ds es a e1 e2 e3 e4 => by
    rcases env_set e1 with ⟨hj, g1⟩ | ⟨hj, g1⟩
    · rcases env_set e2 with ⟨hl, g2⟩ | ⟨hl, g2⟩
      · exact hj.trans hl.symm
      · cases g1
        subst hj
        rw [List.getElem?_set_self (by rw [← k.len]; exact hi)] at e3
        rw [List.getElem?_set_ne (Ne.symm hl)] at e4
        cases e3
        exact absurd ⟨l, es, g2, e4⟩ (no ds a rfl rfl)
    · rw [List.getElem?_set_ne (Ne.symm hj)] at e3
      rcases env_set e2 with ⟨hl, g2⟩ | ⟨hl, g2⟩
      · cases g2
        subst hl
        rw [List.getElem?_set_self (by rw [← k.len]; exact hi)] at e4
        cases e4
        exact absurd ⟨j, ds, g1, e3⟩ (no es a rfl rfl)
      · rw [List.getElem?_set_ne (Ne.symm hl)] at e4
        exact k.sep j l ds es a g1 g2 e3 e4
theorem sok_of (h : WOk K B F ρ s σ H v w) (st : stable w = true) : SOk K B F ρ H v w := by
  cases w with
  | val d => exact h
  | ref n => exact h
  | scr ns => exact h
  | own ds => cases st
  | peek i => cases st
/-- x = value -/
theorem asg_ok {ok : Unit → S → Prop} {er : Exc → S → Prop} (e : Ext s0 σ F0 ρ0 Hs s F ρ H) (k : Ok K B F ρ s σ H) (o : WOk K B F ρ s σ H v w) (f : Fresh Hs v w) (h : Run (asgW i w) s ok er) : ∃ F' s', (∀ a, F0 a → F' a) ∧ Ok K B F' ρ s' (σ.set i (some v)) H ∧ ok () s' := by
  have setc : ∀ {F' : Fz} {s' : S} {w' : W}, (∀ a, F0 a → F' a) → Ok K B F' ρ s' σ H → SOk K B F' ρ H v w' → (∀ ds a, w' = .own ds → v = .ref a → ¬ OwnedBy s' σ a) → Run (setW i w') s' ok er → ∃ F'' s'', (∀ a, F0 a → F'' a) ∧ Ok K B F'' ρ s'' (σ.set i (some v)) H ∧ ok () s'' := by
    intro F' s' w' hs k' so no h'
    unfold Run setW at h'
    by_cases hi : i < s'.env.length
    · rw [if_pos hi] at h'
      exact ⟨F', _, hs, k'.store hi so no, h'⟩
    · rw [if_neg hi] at h'; exact h'.elim
  have other : stable w = true ∨ (∃ j, w = .peek j) → Run (escW w >>= setW i) s ok er → ∃ F' s', (∀ a, F0 a → F' a) ∧ Ok K B F' ρ s' (σ.set i (some v)) H ∧ ok () s' := fun _ h => by
    obtain ⟨F', s', w', k', e', o', st', h'⟩ := esc_ok k.sto e k o f (Run.bind h)
    exact setc e'.sub k' (sok_of o' st') (fun ds a e _ => by subst e; cases st') h'
  cases w with
  | own ds =>
    obtain ⟨a, vs, rfl, h1, h2, h3, h4, h5, h6⟩ := o
    exact setc (w' := .own ds) e.sub k ⟨a, vs, rfl, h1, h2, h3, h4, h6⟩ (fun ds' a' _ e => by cases e; exact h5) h
  | val d => exact other (.inl rfl) h
  | ref n => exact other (.inl rfl) h
  | scr ns => exact other (.inl rfl) h
  | peek j => exact other (.inr ⟨j, rfl⟩) h
theorem ret_ok {D : Ends} {er : Exc → S → Prop} (x : SX F0 Hs F H) (k : Ok K B F ρ s σ H) (o : WOk K B F ρ s σ H v w) (h : Run (retW w) s (BEnd K B F0 Hs D) er) : D.rt v H := by
  cases w with
  | val d => exact h F ρ H σ x k v o
  | ref n => exact h F ρ H σ x k v o
  | scr ns => exact h F ρ H σ x k v o
  | own ds =>
    obtain ⟨a, vs, rfl, h1, h2, h3, h4, h5, h6⟩ := o
    exact h F ρ H σ x k _ ⟨a, vs, rfl, h1, h2, h3, h4, h6⟩
  | peek i =>
    have o' : σ[i]? = some (some v) := o
    have h : Run (fun _ => retSlot i s s.env[i]?) s (BEnd K B F0 Hs D) er := h
    cases q : s.env[i]? with
    | none => rw [q] at h; exact h.elim
    | some oo =>
      cases oo with
      | none => rw [q] at h; exact h.elim
      | some w' =>
        rw [q] at h
        obtain ⟨v', e1, e2⟩ := k.env i _ q
        rw [o'] at e1; cases e1
        cases w' with
        | val d => exact h F ρ H σ x k v e2
        | ref n => exact h F ρ H σ x k v e2
        | scr ns => exact h F ρ H σ x k v e2
        | peek j => exact h.elim
        | own ds => exact h F ρ H σ x (k.clear i) v e2
end
section
variable {X : Cx} {Wx : WX} {pos : Pos} {e : Expr} {es : List Expr} {m m1 m2 : M W} {ma : M (List W)} {st : Stmt} {rest a b : List Stmt} {b1 b2 : M SR} {c1 : M Bool}
theorem b_nil : DB X Wx [] sNext := pss_mono pss_nil fun D σ H ⟨B, F, ρ, s, k, h⟩ => (Run.ret h) F ρ H σ .refl k
theorem b_one (h : DS X Wx st b1) : DB X Wx [st] b1 := pss_mono (pss_one h) fun D σ H h => h
theorem b_cons (h1 : DS X Wx st b1) (h2 : DB X Wx rest b2) : DB X Wx (st :: rest) (seq b1 b2) :=
  pss_mono (pss_cons h1 h2) fun D σ H ⟨B, F, ρ, s, k, h⟩ => ⟨B, F, ρ, s, k, (Run.bind h).mono (fun r s1 _ h1 => by
    cases r with
    | next => exact fun F' ρ' H' σ' x k' => ⟨B, F', ρ', s1, k', h1.mono (fun r s' _ z F2 ρ2 H2 σ2 x2 k2 => z F2 ρ2 H2 σ2 (x.trans x2) k2) fun _ _ _ e => e⟩
    | brk => exact h1
    | cont => exact h1
    | ret w => exact h1) fun _ _ _ e => e⟩
theorem s_pass : DS X Wx (.Pass pos) sNext := ps_mono ps_pass fun D σ H ⟨B, F, ρ, s, k, h⟩ => (Run.ret h) F ρ H σ .refl k
theorem s_break : DS X Wx (.Break pos) sBrk := ps_mono ps_break fun D σ H ⟨B, F, ρ, s, k, h⟩ => (Run.ret h) F ρ H σ .refl k
theorem s_continue : DS X Wx (.Continue pos) sCont := ps_mono ps_continue fun D σ H ⟨B, F, ρ, s, k, h⟩ => (Run.ret h) F ρ H σ .refl k
theorem s_never : DS X Wx st sFail := ps_mono ps_never fun D σ H ⟨B, F, ρ, s, k, h⟩ => h
theorem s_if {c : Expr} (hc : DC X Wx c c1) (ha : DB X Wx a b1) (hb : DB X Wx b b2) : DS X Wx (.If c a b pos) (sIf c1 b1 b2) :=
  ps_mono (ps_if hc ha hb) fun D σ H ⟨B, F, ρ, s, k, h⟩ => ⟨B, F, ρ, s, k, (Run.bind h).mono (fun b s1 _ h1 F1 ρ1 H1 e1 k1 => by
    cases b with
    | true => exact iteT ⟨B, F1, ρ1, s1, k1, h1.mono (fun r s' _ z F2 ρ2 H2 σ2 x2 k2 => z F2 ρ2 H2 σ2 ((k.sx e1).trans x2) k2) fun _ _ _ e => e⟩
    | false => exact iteF ⟨B, F1, ρ1, s1, k1, h1.mono (fun r s' _ z F2 ρ2 H2 σ2 x2 k2 => z F2 ρ2 H2 σ2 ((k.sx e1).trans x2) k2) fun _ _ _ e => e⟩) fun x s1 _ z F' ρ' H' cls d k' xo => z F' ρ' H' σ cls d k' xo⟩
theorem s_expr (he : DE X Wx e m) (hs : swapsWith e none pos.line X.env = pure false := by rfl) : DS X Wx (.Expr e pos) (sExpr m) :=
  ps_mono (ps_expr he hs) fun D σ H ⟨B, F, ρ, s, k, h⟩ => ⟨B, F, ρ, s, k, (Run.bind h).mono (fun w s1 _ h1 F1 ρ1 H1 v e1 k1 _ _ => (Run.ret h1) F1 ρ1 H1 σ (k.sx e1) k1) fun x s1 _ z F' ρ' H' cls d k' xo => z F' ρ' H' σ cls d k' xo⟩
theorem s_ret (he : DE X Wx e m) : DS X Wx (.Return (some e) pos) (sRet m) :=
  ps_mono (ps_ret he) fun D σ H ⟨B, F, ρ, s, k, h⟩ => ⟨B, F, ρ, s, k, (Run.bind h).mono (fun w s1 _ h1 F1 ρ1 H1 v e1 k1 o1 _ => ret_ok (k.sx e1) k1 o1 h1) fun x s1 _ z F' ρ' H' cls d k' xo => z F' ρ' H' σ cls d k' xo⟩
theorem s_retN : DS X Wx (.Return none pos) sRetN := ps_mono ps_retN fun D σ H ⟨B, F, ρ, s, k, h⟩ => (Run.ret h) F ρ H σ .refl k .non .non
theorem asg_step {D : Ends} {σ : Sg} {H : Hp} {i : Nat} (h : BM X.K X.mg Wx (sAsg i m) D σ H) : EM X.K X.mg Wx m σ H fun x H1 => gName i x σ H1 D.nx := by
  obtain ⟨B, F, ρ, s, k, h⟩ := h
  refine ⟨B, F, ρ, s, k, (Run.bind h).mono (fun w s1 _ h1 F1 ρ1 H1 v e1 k1 o1 f1 => ?_) fun x s1 _ z F' ρ' H' cls d k' xo => z F' ρ' H' σ cls d k' xo⟩
  obtain ⟨F2, s2, hs, k2, h2⟩ := asg_ok e1 k1 o1 f1 (Run.bind h1)
  exact (Run.ret h2) F2 ρ1 H1 _ ⟨hs, k.stay e1⟩ k2
theorem s_asg (i : Nat) {x : Str} {pos' : Pos} (hN : X.N.Nodup) (he : DE X Wx e m) (hi : X.N[i]? = some x := by rfl) (hx : Loc X.env.scope x := by first | exact Or.inl rfl | exact Or.inr rfl) (hs : swapsWith e (some (.Name x pos')) pos.line X.env = pure false := by rfl)
    (hf : X.fn x = true ∨ X.env.scope.names.lookup x = some .local := by first | exact .inl rfl | exact .inr rfl | assumption) : DS X Wx (.Assign [.Name x pos'] e pos) (sAsg i m) :=
  ps_mono (ps_set hN hi hx he hs hf) fun D σ H h => asg_step h
end
end Z
/-! Z, part 6: targets, parallel stores, stores into lists, loops. -/
namespace Z
open PySem PySem.Spec PyProof.Rows L2

/-! ### targets that take data -/
def SO (is : List Nat) (σ σ' : Sg) : Prop := σ'.length = σ.length ∧ ∀ j, j ∉ is → σ'[j]? = σ[j]?
theorem SO.refl {is : List Nat} {σ : Sg} : SO is σ σ := ⟨rfl, fun _ _ => rfl⟩
theorem SO.trans {is js : List Nat} {σ σ1 σ2 : Sg} (a : SO is σ σ1) (b : SO js σ1 σ2) : SO (is ++ js) σ σ2 :=
  ⟨b.1.trans a.1, fun j h => (b.2 j fun z => h (List.mem_append_right _ z)).trans (a.2 j fun z => h (List.mem_append_left _ z))⟩
/-- as Ext, the slots may be others -/
structure GX (s : S) (σ : Sg) (F : Fz) (ρ : List Addr) (H : Hp) (s' : S) (σ' : Sg) (F' : Fz) (ρ' : List Addr) (H' : Hp) : Prop where
  sub : ∀ a, F a → F' a
  rho : ∃ m, ρ' = ρ ++ m
  new : ∀ a, a ∈ ρ' → a ∈ ρ ∨ H a = none
  keep : ∀ a o, H a = some o → a ∉ ρ → ¬ OwnedBy s σ a → H' a = some o
  th : ∀ a, H' a = none → H a = none
  fz : ∀ a, F' a → F a ∨ H a = none ∨ OwnedBy s σ a
  ow : ∀ a, OwnedBy s' σ' a → OwnedBy s σ a
section
variable {K : PySem.W.Frag} {B : Base} {F F' F1 F2 : Fz} {ρ ρ' ρ1 ρ2 : List Addr} {s s' s1 s2 : S} {σ σ' σ1 σ2 : Sg} {H H' H1 H2 : Hp}
theorem Ext.gx (x : Ext s σ F ρ H s' F' ρ' H') : GX s σ F ρ H s' σ F' ρ' H' := ⟨x.sub, x.rho, x.new, x.keep, x.th, x.fz, x.ow⟩
theorem GX.refl : GX s σ F ρ H s σ F ρ H := Ext.refl.gx
theorem GX.trans (x : GX s σ F ρ H s1 σ1 F1 ρ1 H1) (y : GX s1 σ1 F1 ρ1 H1 s2 σ2 F2 ρ2 H2) : GX s σ F ρ H s2 σ2 F2 ρ2 H2 where
  sub := fun a q => y.sub a (x.sub a q)
  rho := by
    obtain ⟨m, e⟩ := x.rho
    obtain ⟨m', e'⟩ := y.rho
    exact ⟨m ++ m', by rw [e', e, List.append_assoc]⟩
  new := fun a q => (y.new a q).elim (x.new a) fun q => .inr (x.th a q)
  keep := fun a o q n no => y.keep a o (x.keep a o q n no) (fun z => (x.new a z).elim n fun z => by rw [q] at z; cases z) fun z => no (x.ow a z)
  th := fun a q => x.th a (y.th a q)
  fz := fun a q => by
    rcases y.fz a q with q | q | q
    · exact x.fz a q
    · exact .inr (.inl (x.th a q))
    · exact .inr (.inr (x.ow a q))
  ow := fun a q => x.ow a (y.ow a q)
theorem Ok.gsx (k : Ok K B F ρ s σ H) (x : GX s σ F ρ H s' σ' F' ρ' H') : SX F H F' H' := ⟨x.sub, fun a o e q => x.keep a o e (fun ha => by
  obtain ⟨n1, vs, n2⟩ := k.sto.mem ha
  rcases q with q | q
  · exact n1 q
  · rw [n2] at e; cases e; cases q) fun ho => by
  obtain ⟨n1, _, _, vs, n2⟩ := k.owned ho
  rcases q with q | q
  · exact n1 q
  · rw [n2] at e; cases e; cases q⟩
end
def GEnd (K : PySem.W.Frag) (B : Base) (is : List Nat) (σ : Sg) (s : S) (F : Fz) (ρ : List Addr) (H : Hp) (Q : Sg → Hp → Prop) (s' : S) : Prop := ∀ F' ρ' H' σ', GX s σ F ρ H s' σ' F' ρ' H' → SO is σ σ' → Ok K B F' ρ' s' σ' H' → Q σ' H'
def GM (K : PySem.W.Frag) (mg : Str → Option Value) (Wx : WX) (is : List Nat) (g : D → M Unit) : TG := fun v σ H Q => ∃ B F ρ s d, Ok K B F ρ s σ H ∧ Rp K F H v d ∧ Run (g d) s (fun _ s' => GEnd K B is σ s F ρ H Q s') (BEr K mg Wx B)
def GsM (K : PySem.W.Frag) (mg : Str → Option Value) (Wx : WX) (is : List Nat) (g : List D → M Unit) : TGs := fun vs σ H Q => ∃ B F ρ s ds, Ok K B F ρ s σ H ∧ RpAll K F H vs ds ∧ Run (g ds) s (fun _ s' => GEnd K B is σ s F ρ H Q s') (BEr K mg Wx B)
abbrev DG (X : Cx) (Wx : WX) (is : List Nat) (t : Expr) (g : D → M Unit) : Prop := PG X t (GM X.K X.mg Wx is g)
abbrev DGs (X : Cx) (Wx : WX) (is : List Nat) (t : List Expr) (g : List D → M Unit) : Prop := PGs X t (GsM X.K X.mg Wx is g)
theorem pg_mono {X : Cx} {e : Expr} {t t' : TG} (h : PG X e t) (k : ∀ v σ H Q, t' v σ H Q → t v σ H Q) : PG X e t' := ⟨fun pins s σ H v u Q I r q => h.run pins s σ H v u Q I r (k _ _ _ _ q)⟩
theorem pgs_mono {X : Cx} {e : List Expr} {t t' : TGs} (h : PGs X e t) (k : ∀ v σ H Q, t' v σ H Q → t v σ H Q) : PGs X e t' := ⟨fun pins s σ H v u Q I r q => h.run pins s σ H v u Q I r (k _ _ _ _ q)⟩
def tName (i : Nat) (d : D) : M Unit := setW i (.val d)
def tNilG : List D → M Unit
  | [] => Pure.pure ()
  | _ => M.fail
def tConsG (g : D → M Unit) (r : List D → M Unit) : List D → M Unit
  | d :: ds => g d >>= fun _ => r ds
  | _ => M.fail
def tTupG (n : Nat) (r : List D → M Unit) : D → M Unit
  | .tuple ds => if ds.length = n then r ds else M.fail
  | _ => M.fail
section
variable {K : PySem.W.Frag} {mg : Str → Option Value} {Wx : WX} {B : Base} {F F0 F' F1 F2 : Fz} {ρ ρ0 ρ' ρ1 ρ2 : List Addr} {s s0 s' s1 s2 : S} {σ σ' σ1 : Sg} {H Hs H' H1 H2 : Hp} {v : V} {w : W} {p : Addr} {o : HO} {d : D} {i : Nat} {is js : List Nat}
theorem GEnd.step {Q : Sg → Hp → Prop} (x : GX s σ F ρ H s1 σ1 F1 ρ1 H1) (y : SO is σ σ1) (h : GEnd K B (is ++ js) σ s F ρ H Q s') : GEnd K B js σ1 s1 F1 ρ1 H1 Q s' := fun F' ρ' H' σ' x' y' k' => h F' ρ' H' σ' (x.trans x') (y.trans y') k'
theorem set_ok {ok : Unit → S → Prop} {er : Exc → S → Prop} (k : Ok K B F ρ s σ H) (so : SOk K B F ρ H v w) (no : ∀ ds a, w = .own ds → v = .ref a → ¬ OwnedBy s σ a) (h : Run (setW i w) s ok er) : i < s.env.length ∧ Ok K B F ρ (s.setEnv i (some w)) (σ.set i (some v)) H ∧ ok () (s.setEnv i (some w)) := by
  unfold Run setW at h
  by_cases hi : i < s.env.length
  · rw [if_pos hi] at h
    exact ⟨hi, k.store hi so no, h⟩
  · rw [if_neg hi] at h; exact h.elim
end
section
variable {X : Cx} {Wx : WX} {pos : Pos} {e : Expr} {es : List Expr} {m m1 m2 : M W} {ma : M (List W)} {st : Stmt} {rest a b : List Stmt} {b1 b2 : M SR} {c1 : M Bool} {is js : List Nat} {g : D → M Unit} {r : List D → M Unit}
theorem g_name (i : Nat) {x : Str} (hN : X.N.Nodup) (hi : X.N[i]? = some x := by rfl) (hx : Loc X.env.scope x := by first | exact Or.inl rfl | exact Or.inr rfl)
    (hf : X.fn x = true ∨ X.env.scope.names.lookup x = some .local := by first | exact .inl rfl | exact .inr rfl | assumption) : DG X Wx [i] (.Name x pos) (tName i) :=
  pg_mono (pg_name hN hi hx hf) fun v σ H Q ⟨B, F, ρ, s, d, k, rp, h⟩ => by
    obtain ⟨hi, k2, h2⟩ := set_ok (w := .val d) k rp (fun _ _ e => by cases e) h
    refine h2 F ρ H _ ⟨fun _ z => z, ⟨[], by simp⟩, fun _ z => .inl z, fun _ _ z _ _ => z, fun _ z => z, fun _ z => .inl z, fun a z => ?_⟩ ⟨List.length_set, fun j hj => List.getElem?_set_ne fun z => hj (by rw [z]; exact List.mem_singleton_self _)⟩ k2
    obtain ⟨j, ds, y1, y2⟩ := z
    rcases env_set y1 with ⟨hj, y1⟩ | ⟨hj, y1⟩
    · cases y1
    · rw [List.getElem?_set_ne (Ne.symm hj)] at y2
      exact ⟨j, ds, y1, y2⟩
theorem gs_nil : DGs X Wx [] [] tNilG := pgs_mono pgs_nil fun vs σ H Q ⟨B, F, ρ, s, ds, k, rp, h⟩ => by
  cases rp with
  | nil => exact ⟨rfl, h F ρ H σ .refl .refl k⟩
  | cons _ _ => exact h.elim
theorem gs_cons (h1 : DG X Wx is e g) (h2 : DGs X Wx js es r) (hs : (assignEach (e :: es) X.env).map (·.2) = assign e X.env :: (assignEach es X.env).map (·.2) := by rfl) : DGs X Wx (is ++ js) (e :: es) (tConsG g r) :=
  pgs_mono (pgs_cons h1 h2 hs) fun vs σ H Q ⟨B, F, ρ, s, ds, k, rp, h⟩ => by
    cases rp with
    | nil => exact h.elim
    | cons a b =>
      refine ⟨_, _, rfl, B, F, ρ, s, _, k, a, (Run.bind h).mono (fun _ s1 _ h1 F1 ρ1 H1 σ1 x y k1 => ?_) fun _ _ _ e => e⟩
      exact ⟨B, F1, ρ1, s1, _, k1, (k.gsx x).rpAll b, h1.mono (fun _ s2 _ z => z.step x y) fun _ _ _ e => e⟩
theorem g_tup {kk n : Nat} (hc : X.calm = true) (h : DGs X Wx is es r) (hn : (assignEach es X.env).length = n := by rfl) (hst : (assignEach es X.env).findIdx? (·.1) = none := by rfl) : DG X Wx is (.Tuple es kk pos) (tTupG n r) :=
  pg_mono (pg_tup hc h hn hst) fun v σ H Q ⟨B, F, ρ, s, d, k, rp, h⟩ => by
    unfold tTupG at h
    split at h
    · rename_i ds
      split at h
      · rename_i hl
        cases rp with
        | tup a b => exact ⟨_, _, rfl, a, by rw [b.length]; exact hl, B, F, ρ, s, _, k, b, h⟩
      · exact h.elim
    · exact h.elim
/-! ### target = value, by data -/
def toVal (w : W) : M D := escW w >>= fun w => match w with
  | .val d => Pure.pure d
  | _ => M.fail
def sUnp (g : D → M Unit) (m : M W) : M SR := m >>= fun w => toVal w >>= fun d => g d >>= fun _ => Pure.pure .next
theorem val_ok {K : PySem.W.Frag} {B : Base} {F F0 : Fz} {ρ ρ0 : List Addr} {s s0 : S} {σ : Sg} {H Hs : Hp} {v : V} {w : W} {ok : D → S → Prop} {er : Exc → S → Prop} (e : Ext s0 σ F0 ρ0 Hs s F ρ H) (k : Ok K B F ρ s σ H) (o : WOk K B F ρ s σ H v w) (f : Fresh Hs v w) (h : Run (toVal w) s ok er) :
    ∃ F' s' d, Ok K B F' ρ s' σ H ∧ Ext s0 σ F0 ρ0 Hs s' F' ρ H ∧ Rp K F' H v d ∧ ok d s' := by
  obtain ⟨F', s', w', k', e', o', st', h'⟩ := esc_ok k.sto e k o f (Run.bind h)
  cases w' with
  | val d => exact ⟨F', s', d, k', e', o', h'⟩
  | _ => exact h'.elim
theorem s_unp {tg : Expr} (he : DE X Wx e m) (hg : DG X Wx is tg g) (hs : swapsWithSole [tg] e pos.line X.env = pure false := by rfl) (hw : swappedStores [tg] e X.env = pure none := by rfl) (h1 : List.map (fun x => x.snd) (assignEach [tg] X.env) = [assign tg X.env] := by rfl) : DS X Wx (.Assign [tg] e pos) (sUnp g m) :=
  ps_mono (ps_asg he hg hs hw h1) fun D σ H ⟨B, F, ρ, s, k, h⟩ => ⟨B, F, ρ, s, k, (Run.bind h).mono (fun w s1 _ h1 F1 ρ1 H1 v e1 k1 o1 f1 => by
    obtain ⟨F2, s2, d, k2, e2, rp, h2⟩ := val_ok e1 k1 o1 f1 (Run.bind h1)
    exact ⟨B, F2, ρ1, s2, d, k2, rp, (Run.bind h2).mono (fun _ s3 _ h3 F3 ρ3 H3 σ3 x3 y3 k3 => (Run.ret h3) F3 ρ3 H3 σ3 ((k.sx e2).trans (k2.gsx x3)) k3) fun _ _ _ e => e⟩) fun x s1 _ z F' ρ' H' cls d k' xo => z F' ρ' H' σ cls d k' xo⟩
/-! ### lists that are held while others are made -/
inductive WHeld (K : PySem.W.Frag) (B : Base) (F : Fz) (ρ : List Addr) (s : S) (σ : Sg) (H : Hp) : List V → List W → Prop
  | nil : WHeld K B F ρ s σ H [] []
  | cons {v : V} {vs : List V} {w : W} {ws : List W} : WOk K B F ρ s σ H v w → (∀ i, w ≠ .peek i) → (∀ (j : Nat) (ds es : List D) (a : Addr), w = .own ds → ws[j]? = some (.own es) → v = .ref a → vs[j]? ≠ some (.ref a)) → WHeld K B F ρ s σ H vs ws → WHeld K B F ρ s σ H (v :: vs) (w :: ws)
def FreshAll (H : Hp) (vs : List V) (ws : List W) : Prop := ∀ (j : Nat) (es : List D) (a : Addr), ws[j]? = some (.own es) → vs[j]? = some (.ref a) → H a = none
def PostH (K : PySem.W.Frag) (B : Base) (σ : Sg) (s : S) (F : Fz) (ρ : List Addr) (H : Hp) (Q : List V → Hp → Prop) (ws : List W) (s' : S) : Prop :=
  ∀ F' ρ' H' vs, Ext s σ F ρ H s' F' ρ' H' → Ok K B F' ρ' s' σ H' → WHeld K B F' ρ' s' σ H' vs ws → FreshAll H vs ws → Q vs H'
def HM (K : PySem.W.Frag) (mg : Str → Option Value) (Wx : WX) (m : M (List W)) : TA := fun σ H Q => ∃ B F ρ s, Ok K B F ρ s σ H ∧ Run m s (PostH K B σ s F ρ H Q) (Er K mg Wx B σ)
abbrev DH (X : Cx) (Wx : WX) (es : List Expr) (m : M (List W)) : Prop := PA X es (HM X.K X.mg Wx m)
def resW (w : W) : M W := match w with
  | .own ds => Pure.pure (.own ds)
  | w => escW w
def hCons (m : M W) (r : M (List W)) : M (List W) := m >>= fun a => resW a >>= fun w => r >>= fun ws => Pure.pure (w :: ws)
theorem res_ok {K : PySem.W.Frag} {B : Base} {F F0 : Fz} {ρ ρ0 : List Addr} {s s0 : S} {σ : Sg} {H Hs : Hp} {v : V} {w : W} {ok : W → S → Prop} {er : Exc → S → Prop} (e : Ext s0 σ F0 ρ0 Hs s F ρ H) (k : Ok K B F ρ s σ H) (o : WOk K B F ρ s σ H v w) (f : Fresh Hs v w) (h : Run (resW w) s ok er) :
    ∃ F' s' w', Ok K B F' ρ s' σ H ∧ Ext s0 σ F0 ρ0 Hs s' F' ρ H ∧ WOk K B F' ρ s' σ H v w' ∧ Fresh Hs v w' ∧ (∀ i, w' ≠ .peek i) ∧ ok w' s' := by
  have other : Run (escW w) s ok er → ∃ F' s' w', Ok K B F' ρ s' σ H ∧ Ext s0 σ F0 ρ0 Hs s' F' ρ H ∧ WOk K B F' ρ s' σ H v w' ∧ Fresh Hs v w' ∧ (∀ i, w' ≠ .peek i) ∧ ok w' s' := fun h => by
    obtain ⟨F', s', w', k', e', o', st', h'⟩ := esc_ok k.sto e k o f h
    exact ⟨F', s', w', k', e', o', fresh_stable st', (fun i z => by rw [z] at st'; cases st'), h'⟩
  cases w with
  | own ds => exact ⟨F, s, _, k, e, o, f, (fun i z => by cases z), Run.ret h⟩
  | val d => exact other h
  | ref n => exact other h
  | scr ns => exact other h
  | peek j => exact other h
theorem WHeld.mono {K : PySem.W.Frag} {B : Base} {F F' : Fz} {ρ ρ' : List Addr} {s s' : S} {σ : Sg} {H H' : Hp} {vs : List V} {ws : List W} (k : Ok K B F ρ s σ H) (x : Ext s σ F ρ H s' F' ρ' H') (h : WHeld K B F ρ s σ H vs ws) : WHeld K B F' ρ' s' σ H' vs ws := by
  induction h with
  | nil => exact .nil
  | cons a b c _ ih => exact .cons (a.mono k x) b c ih
theorem h_nil : DH X Wx [] aNil := pa_mono pa_nil fun σ H Q ⟨B, F, ρ, s, k, h⟩ => (Run.ret h) F ρ H [] .refl k .nil (fun j es a e => by simp at e)
theorem h_cons (ha : DE X Wx e m) (hr : DH X Wx es ma) (hs : starEach (e :: es) X.env = (false, eval e X.env) :: starEach es X.env := by rfl) : DH X Wx (e :: es) (hCons m ma) :=
  pa_mono (pa_cons ha hr hs) fun σ H Q ⟨B, F, ρ, s, k, h⟩ => by
    refine ⟨B, F, ρ, s, k, (Run.bind h).mono (fun w1 s1 _ h1 F1 ρ1 H1 x e1 k1 o1 f1 => ?_) fun _ _ _ e => e⟩
    obtain ⟨F2, s2, w2, k2, e2, o2, f2, np, h2⟩ := res_ok e1 k1 o1 f1 (Run.bind h1)
    refine ⟨B, F2, ρ1, s2, k2, (Run.bind h2).mono (fun ws s3 _ h3 F3 ρ3 H3 vs e3 k3 o3 f3 => ?_) fun _ _ _ e => e⟩
    refine (Run.ret h3) F3 ρ3 H3 _ (e2.trans e3 k2.sto) k3 (.cons (o2.mono k2 e3) np (fun j ds es a q1 q2 q3 q4 => ?_) o3) fun j es a q1 q2 => ?_
    · subst q1
      obtain ⟨b, us, z1, z2, _⟩ := o2
      rw [q3] at z1
      cases z1
      have := f3 j es a q2 q4
      rw [z2] at this; cases this
    · cases j with
      | zero =>
        simp at q1 q2
        subst q1
        exact f2 a q2
      | succ j => exact e2.th a (f3 j es a (by simpa using q1) (by simpa using q2))
def setAll : List Nat → List W → M Unit
  | [], [] => Pure.pure ()
  | i :: is, w :: ws => setW i w >>= fun _ => setAll is ws
  | _, _ => M.fail
def setManyS : Sg → List Nat → List V → Sg
  | σ, i :: is, v :: vs => setManyS (σ.set i (some v)) is vs
  | σ, _, _ => σ
def sPar (is : List Nat) (ma : M (List W)) : M SR := ma >>= fun ws => setAll is ws >>= fun _ => Pure.pure .next
theorem setAll_ok {K : PySem.W.Frag} {B : Base} {F : Fz} {ρ : List Addr} {H : Hp} {ok : Unit → S → Prop} {er : Exc → S → Prop} : ∀ {is : List Nat} {ws : List W} {vs : List V} {s : S} {σ : Sg}, Ok K B F ρ s σ H → WHeld K B F ρ s σ H vs ws → Run (setAll is ws) s ok er → is.length = vs.length ∧ ∃ s', Ok K B F ρ s' (setManyS σ is vs) H ∧ ok () s'
  | [], [], vs, s, σ, k, o, h => by cases o; exact ⟨rfl, s, k, h⟩
  | [], w :: ws, vs, s, σ, k, o, h => h.elim
  | i :: is, [], vs, s, σ, k, o, h => h.elim
  | i :: is, w :: ws, vs, s, σ, k, o, h => by
    cases o with
    | @cons v vs _ _ a b c d =>
      have so : SOk K B F ρ H v w := by
        cases w with
        | val d => exact a
        | ref n => exact a
        | scr ns => exact a
        | peek j => exact (b j rfl).elim
        | own ds =>
          obtain ⟨a, us, z1, z2, z3, z4, z5, z6, z7⟩ := a
          exact ⟨a, us, z1, z2, z3, z4, z5, z7⟩
      have no : ∀ ds a, w = .own ds → v = .ref a → ¬ OwnedBy s σ a := fun ds a' e1 e2 => by
        subst e1
        obtain ⟨a, us, z1, z2, z3, z4, z5, z6, z7⟩ := a
        rw [z1] at e2
        cases e2
        exact z6
      obtain ⟨hi, k2, h2⟩ := set_ok k so no (Run.bind h)
      have held : ∀ {vs' : List V} {ws' : List W}, WHeld K B F ρ s σ H vs' ws' → (∀ (j : Nat) (ds es : List D) (a : Addr), w = .own ds → ws'[j]? = some (.own es) → v = .ref a → vs'[j]? ≠ some (.ref a)) → WHeld K B F ρ (s.setEnv i (some w)) (σ.set i (some v)) H vs' ws' := by
        intro vs' ws' hh
        induction hh with
        | nil => intro _; exact .nil
        | @cons v' vs' w' ws' a' b' c' d' ih =>
          intro c''
          refine .cons ?_ b' c' (ih fun j ds es a q1 q2 q3 q4 => c'' (j + 1) ds es a q1 (by simpa using q2) q3 (by simpa using q4))
          cases w' with
          | val d => exact a'
          | ref n => exact a'
          | scr ns => exact a'
          | peek j => exact (b' j rfl).elim
          | own es =>
            obtain ⟨a, us, z1, z2, z3, z4, z5, z6, z7⟩ := a'
            refine ⟨a, us, z1, z2, z3, z4, z5, fun z => ?_, z7⟩
            obtain ⟨j, fs, y1, y2⟩ := z
            rcases env_set y1 with ⟨hj, y1⟩ | ⟨hj, y1⟩
            · cases y1
              subst hj
              rw [List.getElem?_set_self (by rw [← k.len]; exact hi)] at y2
              refine c'' 0 fs es _ rfl rfl ?_ (by rw [z1]; rfl)
              exact Option.some.inj (Option.some.inj y2)
            · rw [List.getElem?_set_ne (Ne.symm hj)] at y2
              exact z6 ⟨j, fs, y1, y2⟩
      obtain ⟨hl, s', k3, h3⟩ := setAll_ok k2 (held d c) h2
      exact ⟨by simp [hl], s', k3, h3⟩
theorem par_step {D : Ends} {σ : Sg} {H : Hp} {is : List Nat} (h : BM X.K X.mg Wx (sPar is ma) D σ H) : HM X.K X.mg Wx ma σ H fun vs H1 => is.length = vs.length ∧ D.nx (setManyS σ is vs) H1 := by
  obtain ⟨B, F, ρ, s, k, h⟩ := h
  refine ⟨B, F, ρ, s, k, (Run.bind h).mono (fun ws s1 _ h1 F1 ρ1 H1 vs e1 k1 o1 f1 => ?_) fun x s1 _ z F' ρ' H' cls d k' xo => z F' ρ' H' σ cls d k' xo⟩
  obtain ⟨hl, s2, k2, h2⟩ := setAll_ok k1 o1 (Run.bind h1)
  exact ⟨hl, (Run.ret h2) F1 ρ1 H1 _ (k.sx e1) k2⟩
theorem s_par (i j : Nat) {x y : Str} {a b : Expr} {px py pt : Pos} {kt k2 pt2} (hc : X.calm = true) (hN : X.N.Nodup) (ha : DH X Wx [a, b] ma) (hw : swappedStores [.Tuple [.Name x px, .Name y py] kt pt] (.Tuple [a, b] k2 pt2) X.env = pure (some [x, y]) := by rfl) (hi : X.N[i]? = some x := by rfl) (hj : X.N[j]? = some y := by rfl) (hij : i ≠ j := by decide)
    (hx : X.env.scope.names.lookup x = some .local := by rfl) (hy : X.env.scope.names.lookup y = some .local := by rfl)
    (hs : swapsWithSole [.Tuple [.Name x px, .Name y py] kt pt] (.Tuple [a, b] k2 pt2) pos.line X.env = pure false := by rfl) : DS X Wx (.Assign [.Tuple [.Name x px, .Name y py] kt pt] (.Tuple [a, b] k2 pt2) pos) (sPar [i, j] ma) :=
  ps_mono (ps_par hc hN hi hj hij hx hy ha hw hs) fun D σ H h => by
    obtain ⟨B, F, ρ, s, k, h⟩ := par_step h
    refine ⟨B, F, ρ, s, k, h.mono (fun ws s1 _ h1 F1 ρ1 H1 vs e1 k1 o1 f1 => ?_) fun _ _ _ e => e⟩
    obtain ⟨hl, q⟩ := h1 F1 ρ1 H1 vs e1 k1 o1 f1
    match vs, hl with
    | [v, w], _ => exact ⟨v, w, rfl, q⟩
theorem s_par3 (i j l : Nat) {x y z : Str} {a b c : Expr} {px py pz pt : Pos} {kt k2 pt2} (hc : X.calm = true) (hN : X.N.Nodup) (ha : DH X Wx [a, b, c] ma)
    (hw : swappedStores [.Tuple [.Name x px, .Name y py, .Name z pz] kt pt] (.Tuple [a, b, c] k2 pt2) X.env = pure (some [x, y, z]) := by rfl) (hi : X.N[i]? = some x := by rfl) (hj : X.N[j]? = some y := by rfl) (hl : X.N[l]? = some z := by rfl) (hij : i ≠ j := by decide) (hil : i ≠ l := by decide) (hjl : j ≠ l := by decide)
    (hx : X.env.scope.names.lookup x = some .local := by rfl) (hy : X.env.scope.names.lookup y = some .local := by rfl) (hz : X.env.scope.names.lookup z = some .local := by rfl)
    (hs : swapsWithSole [.Tuple [.Name x px, .Name y py, .Name z pz] kt pt] (.Tuple [a, b, c] k2 pt2) pos.line X.env = pure false := by rfl) : DS X Wx (.Assign [.Tuple [.Name x px, .Name y py, .Name z pz] kt pt] (.Tuple [a, b, c] k2 pt2) pos) (sPar [i, j, l] ma) :=
  ps_mono (ps_par3 hc hN hi hj hl hij hil hjl hx hy hz ha hw hs) fun D σ H h => by
    obtain ⟨B, F, ρ, s, k, h⟩ := par_step h
    refine ⟨B, F, ρ, s, k, h.mono (fun ws s1 _ h1 F1 ρ1 H1 vs e1 k1 o1 f1 => ?_) fun _ _ _ e => e⟩
    obtain ⟨hl, q⟩ := h1 F1 ρ1 H1 vs e1 k1 o1 f1
    match vs, hl with
    | [u, v, w], _ => exact ⟨u, v, w, rfl, q⟩
/-- the names of a tuple target, stored one by one -/
inductive Names_ (X : Cx) : List Expr → List Nat → Prop
  | nil : Names_ X [] []
  | cons {x : Str} {p : Pos} {es : List Expr} {is : List Nat} (i : Nat) (hi : X.N[i]? = some x) (hx : Loc X.env.scope x) (hf : X.fn x = true ∨ X.env.scope.names.lookup x = some .local)
      (hs : (assignEach (.Name x p :: es) X.env).map (·.2) = assign (.Name x p) X.env :: (assignEach es X.env).map (·.2)) : Names_ X es is → Names_ X (.Name x p :: es) (i :: is)
def gMany : List Nat → TGs := fun is vs σ H Q => is.length = vs.length ∧ Q (setManyS σ is vs) H
theorem names_g (hN : X.N.Nodup) {es : List Expr} {is : List Nat} (h : Names_ X es is) : PGs X es (gMany is) := by
  induction h with
  | nil =>
    refine pgs_mono pgs_nil fun vs σ H Q h => ?_
    obtain ⟨hl, q⟩ := h
    match vs, hl with
    | [], _ => exact ⟨rfl, q⟩
  | cons i hi hx hf hs _ ih =>
    refine pgs_mono (pgs_cons (pg_name hN hi hx hf) ih hs) fun vs σ H Q h => ?_
    obtain ⟨hl, q⟩ := h
    match vs, hl with
    | v :: vs, hl => exact ⟨v, vs, rfl, by simpa using hl, q⟩
/-- a, b, .. = x, y, .. by way of a tuple -/
theorem s_parT {ts : List Expr} {is : List Nat} {x1 kt n : Nat} {pt p1 : Pos} (hc : X.calm = true) (hN : X.N.Nodup) (hts : Names_ X ts is) (ha : DH X Wx es ma) (hnn : n = is.length := by rfl) (hn : (assignEach ts X.env).length = n := by rfl) (hst : (assignEach ts X.env).findIdx? (·.1) = none := by rfl)
    (hz : is.length ≤ 1000 := by decide) (hs : swapsWithSole [.Tuple ts kt pt] (.Tuple es x1 p1) pos.line X.env = pure false := by rfl) (hw : swappedStores [.Tuple ts kt pt] (.Tuple es x1 p1) X.env = pure none := by rfl) : DS X Wx (.Assign [.Tuple ts kt pt] (.Tuple es x1 p1) pos) (sPar is ma) :=
  ps_mono (ps_asg (pe_tup ha) (pg_tup hc (names_g hN hts) hn hst) hs hw) fun D σ H h => by
    obtain ⟨B, F, ρ, s, k, h⟩ := h
    refine ⟨B, F, ρ, s, k, (Run.bind h).mono (fun ws s1 _ h1 F1 ρ1 H1 vs e1 k1 o1 f1 => ?_) fun x s1 _ z F' ρ' H' cls d k' xo => z F' ρ' H' σ cls d k' xo⟩
    have hl := (setAll_ok k1 o1 (Run.bind h1)).1
    refine ⟨by rw [← hl, sizeLine_eq]; omega, fun p hp => ⟨p, vs, rfl, SqT.of upd_same, by rw [← hl, hnn], hl, ?_⟩⟩
    obtain ⟨_, s2, k2, h2⟩ := setAll_ok (k1.new (o := .tup vs) hp) (o1.mono k1 (Ext.new_ hp)) (Run.bind h1)
    exact (Run.ret h2) F1 ρ1 _ _ ((k.sx e1).trans ⟨fun _ z => z, stay_upd hp⟩) k2
end
end Z
/-! Z, part 7: lists that are changed, loops. -/
namespace Z
open PySem PySem.Spec PyProof.Rows L2

/-! ### a list is changed where it stands -/
def modSt {α : Type} (n : Nat) (f : List D → Option (List D × α)) (s : S) : Out S α := match (s.st[n]?).bind f with
  | some (ds, b) => .ok b { s with st := s.st.set n ds }
  | none => .fail
def modSlot {α : Type} (i : Nat) (f : List D → Option (List D × α)) (s : S) : Option (Option W) → Out S α
  | some (some (.own ds)) => (match f ds with
    | some (ds', b) => .ok b (s.setEnv i (some (.own ds')))
    | none => .fail)
  | some (some (.ref n)) => modSt n f s
  | _ => .fail
def modL {α : Type} (w : W) (f : List D → Option (List D × α)) : M α := fun s => match w with
  | .ref n => modSt n f s
  | .peek i => modSlot i f s s.env[i]?
  | _ => .fail
section
variable {K : PySem.W.Frag} {mg : Str → Option Value} {Wx : WX} {B : Base} {F F0 F' F1 F2 : Fz} {ρ ρ0 ρ' ρ1 ρ2 : List Addr} {s s0 s' s1 s2 : S} {σ σ' σ1 : Sg} {H Hs H' H1 H2 : Hp} {v : V} {w : W} {p : Addr} {o : HO} {d : D} {i : Nat} {is js : List Nat}
theorem stay_write {a : Addr} {vs vs' : List V} (h : H a = some (.lst vs)) (f : ¬ F a) : Stay F H (upd H a (.lst vs')) := fun b o e q => by
  have : b ≠ a := fun z => by
    subst z
    rcases q with q | q
    · exact f q
    · rw [h] at e; cases e; cases q
  rw [upd_ne this]; exact e
theorem Ok.ownWrite {ds ds' : List D} {a : Addr} {vs' : List V} (k : Ok K B F ρ s σ H) (e : s.env[i]? = some (some (.own ds))) (e1 : σ[i]? = some (some (.ref a))) (r : RpAll K F H vs' ds') : Ok K B F ρ (s.setEnv i (some (.own ds'))) σ (upd H a (.lst vs')) := by
  obtain ⟨v, e2, b, vs, e3, h1, h2, h3, h4, h5⟩ := k.env i _ e
  rw [e1] at e2
  cases e2
  cases e3
  have st : Stay F H (upd H a (.lst vs')) := stay_write h1 h3
  exact {
    len := by rw [← k.len]; exact List.length_set
    base := ⟨k.base.sub, k.base.rho, k.base.new, fun b o q n => by
      have : b ≠ a := fun z => by rw [z, h5] at q; cases q
      rw [upd_ne this]; exact k.base.keep b o q n, k.base.fz⟩
    trk := fun b f => by
      have : b ≠ a := fun z => h3 (z ▸ f)
      rw [upd_ne this]; exact k.trk b f
    sto := ⟨k.sto.len, k.sto.nd, fun n es q => by
      obtain ⟨b, us, q1, q2, q3, q4⟩ := k.sto.at_ n es q
      have : b ≠ a := fun z => h4 (z ▸ List.mem_of_getElem? q1)
      exact ⟨b, us, q1, q2, by rw [upd_ne this]; exact q3, q4.st st fun _ z => z⟩⟩
    env := fun j w q => by
      rcases env_set q with ⟨hj, q⟩ | ⟨hj, q⟩
      · cases q
        subst hj
        exact ⟨.ref a, e1, a, vs', rfl, upd_same, r.st st fun _ z => z, h3, h4, h5⟩
      · obtain ⟨v', q1, q2⟩ := k.env j w q
        refine ⟨v', q1, ?_⟩
        cases w with
        | val d => exact Rp.st q2 st fun _ z => z
        | own es =>
          obtain ⟨b, us, z1, z2, z3, z4, z5, z6⟩ := q2
          have : b ≠ a := fun z => by
            subst z1 z
            exact hj (k.sep j i es ds b q e q1 e1)
          exact ⟨b, us, z1, by rw [upd_ne this]; exact z2, z3.st st fun _ z => z, z4, z5, z6⟩
        | ref n => exact q2
        | peek j => exact q2
        | scr ns =>
          obtain ⟨b, z1, z2⟩ := q2
          exact ⟨b, z1, z2.mono st⟩
    sep := fun j l ds1 es b q1 q2 q3 q4 => by
      have old : ∀ {j : Nat} {ds1 : List D}, (s.setEnv i (some (.own ds'))).env[j]? = some (some (.own ds1)) → ∃ ds2, s.env[j]? = some (some (.own ds2)) := fun {j ds1} q => by
        rcases env_set q with ⟨hj, q⟩ | ⟨hj, q⟩
        · rw [hj]; exact ⟨ds, e⟩
        · exact ⟨ds1, q⟩
      obtain ⟨_, g1⟩ := old q1
      obtain ⟨_, g2⟩ := old q2
      exact k.sep j l _ _ b g1 g2 q3 q4 }
theorem Ok.stoWrite {ds' : List D} {a : Addr} {vs' : List V} {n : Nat} (k : Ok K B F ρ s σ H) (e1 : ρ[n]? = some a) (r : RpAll K F H vs' ds') : Ok K B F ρ { s with st := s.st.set n ds' } σ (upd H a (.lst vs')) := by
  have ha : a ∈ ρ := List.mem_of_getElem? e1
  obtain ⟨h3, vs, h1⟩ := k.sto.mem ha
  have st : Stay F H (upd H a (.lst vs')) := stay_write h1 h3
  have hb : ∀ {b o}, B.H b = some o → b ∉ B.ρ → b ≠ a := fun {b o} q nq z => by
    subst z
    rcases k.base.new b ha with z | z
    · exact nq z
    · rw [q] at z; cases z
  exact {
    len := k.len
    base := ⟨k.base.sub, k.base.rho, k.base.new, fun b o q nq => by rw [upd_ne (hb q nq)]; exact k.base.keep b o q nq, k.base.fz⟩
    trk := fun b f => by
      have : b ≠ a := fun z => h3 (z ▸ f)
      rw [upd_ne this]; exact k.trk b f
    sto := ⟨by rw [List.length_set]; exact k.sto.len, k.sto.nd, fun m es q => by
      by_cases hm : n = m
      · subst hm
        have hl : n < s.st.length := by
          by_cases hl : n < s.st.length
          · exact hl
          · rw [List.getElem?_eq_none (by rw [List.length_set]; omega)] at q; cases q
        rw [List.getElem?_set_self hl] at q
        cases q
        exact ⟨a, vs', e1, h3, upd_same, r.st st fun _ z => z⟩
      · rw [List.getElem?_set_ne hm] at q
        obtain ⟨b, us, q1, q2, q3, q4⟩ := k.sto.at_ m es q
        have : b ≠ a := fun z => by
          subst z
          exact hm (nodup_ix' k.sto.nd e1 q1)
        exact ⟨b, us, q1, q2, by rw [upd_ne this]; exact q3, q4.st st fun _ z => z⟩⟩
    env := fun j w q => by
      obtain ⟨v', q1, q2⟩ := k.env j w q
      refine ⟨v', q1, ?_⟩
      cases w with
      | val d => exact Rp.st q2 st fun _ z => z
      | own es =>
        obtain ⟨b, us, z1, z2, z3, z4, z5, z6⟩ := q2
        have : b ≠ a := fun z => z5 (z ▸ ha)
        exact ⟨b, us, z1, by rw [upd_ne this]; exact z2, z3.st st fun _ z => z, z4, z5, z6⟩
      | ref n => exact q2
      | peek j => exact q2
      | scr ns =>
        obtain ⟨b, z1, z2⟩ := q2
        exact ⟨b, z1, z2.mono st⟩
    sep := k.sep }
where
  nodup_ix' {l : List Addr} (hN : l.Nodup) {i j : Nat} {x : Addr} (a : l[i]? = some x) (b : l[j]? = some x) : i = j := by
    obtain ⟨h1, e1⟩ := List.getElem?_eq_some_iff.mp a
    obtain ⟨h2, e2⟩ := List.getElem?_eq_some_iff.mp b
    exact (List.getElem_inj hN).mp (e1.trans e2.symm)
theorem ext_write {a : Addr} {vs vs' : List V} (h : H a = some (.lst vs)) (hm : a ∈ ρ ∨ OwnedBy s σ a) (ow : ∀ b, OwnedBy s' σ b → OwnedBy s σ b) : Ext s σ F ρ H s' F ρ (upd H a (.lst vs')) :=
  ⟨fun _ z => z, ⟨[], by simp⟩, fun _ z => .inl z, fun b o e n1 n2 => by
    have : b ≠ a := fun z => by
      subst z
      exact hm.elim n1 n2
    rw [upd_ne this]; exact e, fun b e => upd_none e, fun _ z => .inl z, ow⟩
theorem mod_ok {α : Type} {f : List D → Option (List D × α)} {ok : α → S → Prop} {er : Exc → S → Prop} (k : Ok K B F ρ s σ H) (o : WOk K B F ρ s σ H v w) (h : Run (modL w f) s ok er) :
    ∃ a vs ds ds' b, v = .ref a ∧ H a = some (.lst vs) ∧ RpAll K F H vs ds ∧ f ds = some (ds', b) ∧ ∀ vs', RpAll K F H vs' ds' → ∃ s', Ok K B F ρ s' σ (upd H a (.lst vs')) ∧ Ext s σ F ρ H s' F ρ (upd H a (.lst vs')) ∧ SX F H F (upd H a (.lst vs')) ∧ ok b s' := by
  have stc : ∀ {n : Nat} {a : Addr}, ρ[n]? = some a → v = .ref a → Run (modSt n f) s ok er → ∃ a vs ds ds' b, v = .ref a ∧ H a = some (.lst vs) ∧ RpAll K F H vs ds ∧ f ds = some (ds', b) ∧ ∀ vs', RpAll K F H vs' ds' → ∃ s', Ok K B F ρ s' σ (upd H a (.lst vs')) ∧ Ext s σ F ρ H s' F ρ (upd H a (.lst vs')) ∧ SX F H F (upd H a (.lst vs')) ∧ ok b s' := by
    intro n a e1 e2 h
    unfold Run modSt at h
    cases q : s.st[n]? with
    | none => simp only [q, Option.bind_none] at h
    | some ds =>
      simp only [q, Option.bind_some] at h
      obtain ⟨b, us, q1, q2, q3, q4⟩ := k.sto.at_ n ds q
      rw [e1] at q1
      cases q1
      cases q5 : f ds with
      | none => simp only [q5] at h
      | some r =>
        obtain ⟨ds', b'⟩ := r
        simp only [q5] at h
        have h' := h
        exact ⟨a, us, ds, ds', b', e2, q3, q4, q5, fun vs' r => ⟨_, k.stoWrite e1 r, ext_write q3 (.inl (List.mem_of_getElem? e1)) fun _ z => z, ⟨fun _ z => z, stay_write q3 q2⟩, h'⟩⟩
  cases w with
  | ref n =>
    obtain ⟨a, e1, e2⟩ := o
    exact stc e2 e1 h
  | peek i =>
    have o' : σ[i]? = some (some v) := o
    have h : Run (fun _ => modSlot i f s s.env[i]?) s ok er := h
    cases q : s.env[i]? with
    | none => rw [q] at h; exact h.elim
    | some oo =>
      cases oo with
      | none => rw [q] at h; exact h.elim
      | some w' =>
        rw [q] at h
        cases w' with
        | ref n =>
          obtain ⟨v', e1, a, e2, e3⟩ := k.env i _ q
          rw [o'] at e1; cases e1
          exact stc e3 e2 h
        | own ds =>
          obtain ⟨v', e1, a, vs, e2, h1, h2, h3, h4, h5⟩ := k.env i _ q
          rw [o'] at e1; cases e1
          subst e2
          have h' : Run (fun _ => modSlot i f s (some (some (.own ds)))) s ok er := h
          unfold Run modSlot at h'
          cases q5 : f ds with
          | none => simp only [q5] at h'
          | some r =>
            obtain ⟨ds', b'⟩ := r
            simp only [q5] at h'
            refine ⟨a, vs, ds, ds', b', rfl, h1, h2, q5, fun vs' r => ⟨_, k.ownWrite q o' r, ext_write h1 (.inr ⟨i, ds, q, o'⟩) (fun b z => ?_), ⟨fun _ z => z, stay_write h1 h3⟩, h'⟩⟩
            obtain ⟨j, es, z1, z2⟩ := z
            rcases env_set z1 with ⟨hj, z1⟩ | ⟨hj, z1⟩
            · subst hj; exact ⟨j, ds, q, z2⟩
            · exact ⟨j, es, z1, z2⟩
        | val d => exact h.elim
        | peek j => exact h.elim
        | scr ns => exact h.elim
  | val d => exact h.elim
  | own ds => exact h.elim
  | scr ns => exact h.elim
end
/-- what a method of lists asks of its object -/
def lookL (w : W) : M Unit := look w >>= fun d => match d with
  | .list _ => Pure.pure ()
  | _ => M.fail
def eAppend (mo me : M W) : M W := mo >>= fun w => lookL w >>= fun _ => me >>= fun x => toVal x >>= fun d => modL w (fun ds => if ds.length < sizeLine then some (ds ++ [d], ()) else none) >>= fun _ => Pure.pure (.val .none)
def ePopAt (mo me : M W) : M W := mo >>= fun w => lookL w >>= fun _ => me >>= fun x => look x >>= fun d => modL w (fun ds => match d with
  | .int i => if -(2 ^ 63) ≤ i ∧ i < 2 ^ 63 then (seqIndex? i ds.length).bind fun j => (ds[j]?).map fun e => (ds.eraseIdx j, e) else none
  | _ => none) >>= fun e => Pure.pure (.val e)
def tSubG (mo mi : M W) (d : D) : M Unit := mo >>= fun w => mi >>= fun x => look x >>= fun k => modL w (fun ds => match k with
  | .int k => (ixN ds.length k).map fun j => (ds.set j d, ())
  | _ => none)
section
variable {X : Cx} {Wx : WX} {pos apos cpos : Pos} {o e : Expr} {es : List Expr} {m mo me mi : M W}
theorem lookL_ok {K : PySem.W.Frag} {B : Base} {F : Fz} {ρ : List Addr} {s : S} {σ : Sg} {H : Hp} {v : V} {w : W} {β : Type} {g : Unit → M β} {ok : β → S → Prop} {er : Exc → S → Prop} (k : Ok K B F ρ s σ H) (o : WOk K B F ρ s σ H v w) (h : Run (lookL w >>= g) s ok er) : tyV K "list" v H ∧ Run (g ()) s ok er := by
  obtain ⟨d, e1, h⟩ := Run.look (Run.bind h)
  cases d with
  | list ds =>
    obtain ⟨a, vs, rfl, q, _⟩ := (content_ok k o e1).1.list
    exact ⟨.inl ⟨rfl, vs, q⟩, h⟩
  | _ => exact h.elim
theorem i_append (ho : DE X Wx o mo) (he : DE X Wx e me) (hbase : attributeBase o "append" X.env (eval o X.env) = eval o X.env := by rfl)
    (hfew : ((backTo cpos (starEach [e] X.env)).all (fun x => !x.1) && (backToKw cpos (keywordEach [] X.env)).all (fun x => x.1.isSome) && decide ([e].length + ([] : List Keyword).length + (if ([] : List Keyword).isEmpty then 0 else 1) < 30)) = true := by rfl)
    (hline : (apos.endLine == cpos.line) = true := by rfl) (hs : starEach [e] X.env = (false, eval e X.env) :: starEach [] X.env := by rfl) (hpl : (backTo cpos (starEach [] X.env)).any (·.1) = false := by rfl) :
    DE X Wx (.Call (.Attribute o "append" apos) [e] [] cpos) (eAppend mo me) :=
  pe_mono (pe_bm PySem.F.plainAttrs_list PySem.F.slot_list_append PySem.F.type_list_append mt_append ho (pa_cons he pa_nil hs) hbase hfew hline hs hpl) fun σ H Q ⟨B, F, ρ, s, k, h⟩ => by
    refine ⟨B, F, ρ, s, k, (Run.bind h).mono (fun w1 s1 _ h1 F1 ρ1 H1 x e1 k1 o1 _ => ?_) fun _ _ _ e => e⟩
    obtain ⟨ty, h1⟩ := lookL_ok k1 o1 h1
    refine ⟨ty, B, F1, ρ1, s1, k1, (Run.bind h1).mono (fun w2 s2 _ h2 F2 ρ2 H2 y e2 k2 o2 f2 => ?_) fun _ _ _ e => e⟩
    obtain ⟨F3, s3, d, k3, e3, rd, h3⟩ := val_ok e2 k2 o2 f2 (Run.bind h2)
    obtain ⟨a, vs, ds, ds', b, ea, h4, r4, q4, w4⟩ := mod_ok k3 (o1.mono k1 e3) (Run.bind h3)
    split at q4
    · rename_i hz
      cases q4
      refine ⟨a, vs, y, ea, rfl, h4, by rw [r4.length]; exact hz, ?_⟩
      obtain ⟨s5, k5, e5, _, h5⟩ := w4 _ (r4.append (.cons rd .nil))
      exact (Run.ret h5) F3 ρ2 _ .non ((e1.trans e3 k1.sto).trans e5 k3.sto) k5 .non trivial
    · cases q4
theorem i_popAt (ho : DE X Wx o mo) (he : DE X Wx e me) (hbase : attributeBase o "pop" X.env (eval o X.env) = eval o X.env := by rfl)
    (hfew : ((backTo cpos (starEach [e] X.env)).all (fun x => !x.1) && (backToKw cpos (keywordEach [] X.env)).all (fun x => x.1.isSome) && decide ([e].length + ([] : List Keyword).length + (if ([] : List Keyword).isEmpty then 0 else 1) < 30)) = true := by rfl)
    (hline : (apos.endLine == cpos.line) = true := by rfl) (hs : starEach [e] X.env = (false, eval e X.env) :: starEach [] X.env := by rfl) (hpl : (backTo cpos (starEach [] X.env)).any (·.1) = false := by rfl) :
    DE X Wx (.Call (.Attribute o "pop" apos) [e] [] cpos) (ePopAt mo me) :=
  pe_mono (pe_bm PySem.F.plainAttrs_list PySem.F.slot_list_pop PySem.F.type_list_pop mt_popAt ho (pa_cons he pa_nil hs) hbase hfew hline hs hpl) fun σ H Q ⟨B, F, ρ, s, k, h⟩ => by
    refine ⟨B, F, ρ, s, k, (Run.bind h).mono (fun w1 s1 _ h1 F1 ρ1 H1 x e1 k1 o1 _ => ?_) fun _ _ _ e => e⟩
    obtain ⟨ty, h1⟩ := lookL_ok k1 o1 h1
    refine ⟨ty, B, F1, ρ1, s1, k1, (Run.bind h1).mono (fun w2 s2 _ h2 F2 ρ2 H2 y e2 k2 o2 f2 => ?_) fun _ _ _ e => e⟩
    obtain ⟨d, ed, h2⟩ := Run.look h2
    obtain ⟨a, vs, ds, ds', b, ea, h4, r4, q4, w4⟩ := mod_ok k2 (o1.mono k1 e2) (Run.bind h2)
    split at q4
    · rename_i i
      split at q4
      · rename_i hz
        cases q5 : seqIndex? i ds.length with
        | none => rw [q5] at q4; cases q4
        | some j =>
          rw [q5] at q4
          have q4' : (ds[j]?).map (fun e => (ds.eraseIdx j, e)) = some (ds', b) := q4
          cases q6 : ds[j]? with
          | none => rw [q6] at q4'; cases q4'
          | some z =>
            rw [q6] at q4'
            cases q4'
            obtain ⟨u, hu, ru⟩ := r4.get q6
            have ey := (content_ok k2 o2 ed).1.int
            subst ey
            refine ⟨a, vs, i, j, u, ea, rfl, h4, hz.1, hz.2, by rw [r4.length]; exact q5, hu, ?_⟩
            obtain ⟨s5, k5, e5, x5, h5⟩ := w4 _ (r4.eraseIdx j)
            exact (Run.ret h5) F2 ρ2 _ u ((e1.trans e2 k1.sto).trans e5 k2.sto) k5 (x5.rp ru) trivial
      · cases q4
    · cases q4
theorem g_sub (ho : DE X Wx o mo) (hi : DE X Wx e mi) (ha : ∀ v, assign (.Subscript o e pos) X.env v = (do
      let ov ← holding [v] (eval o X.env)
      let iv ← holding [v, ov] (eval e X.env)
      standAt pos
      holding [v, ov, iv] (setItem ov iv v)
      release [v, ov, iv] []) := by intro _; rfl) : DG X Wx [] (.Subscript o e pos) (tSubG mo mi) :=
  pg_mono (pg_sub ho hi set_list ha) fun v σ H Q ⟨B, F, ρ, s, d, k, rp, h⟩ => by
    refine ⟨B, F, ρ, s, k, (Run.bind h).mono (fun w1 s1 _ h1 F1 ρ1 H1 x e1 k1 o1 _ => ?_) fun x s1 _ z F' ρ' H' cls d k' xo => z F' ρ' H' σ cls d k' xo⟩
    refine ⟨B, F1, ρ1, s1, k1, (Run.bind h1).mono (fun w2 s2 _ h2 F2 ρ2 H2 y e2 k2 o2 f2 => ?_) fun x s1 _ z F' ρ' H' cls d k' xo => z F' ρ' H' σ cls d k' xo⟩
    obtain ⟨kd, ek, h2⟩ := Run.look h2
    have x12 := (k.sx e1).trans (k1.sx e2)
    obtain ⟨a, vs, ds, ds', b, ea, h4, r4, q4, w4⟩ := mod_ok k2 (o1.mono k1 e2) h2
    split at q4
    · rename_i i
      cases q5 : ixN ds.length i with
      | none => rw [q5] at q4; cases q4
      | some j =>
        rw [q5] at q4
        cases q4
        have ey := (content_ok k2 o2 ek).1.int
        subst ey
        refine ⟨a, vs, i, j, ea, rfl, h4, by rw [r4.length]; exact q5, ?_⟩
        obtain ⟨s5, k5, e5, x5, h5⟩ := w4 _ (r4.set j (x12.rp rp))
        exact h5 F2 ρ2 _ σ (((e1.trans e2 k1.sto).trans e5 k2.sto).gx) .refl k5
    · cases q4
end
/-! ### what is gone through -/
def WalkD (K : PySem.W.Frag) (J : It) (ds : List D) (F1 : Fz) (H1 : Hp) : Prop := ∃ G Y, Walk J ds.length G Y ∧ (∀ F H, SX F1 H1 F H → G H) ∧
  ∀ i F H x H' d, SX F1 H1 F H → ds[i]? = some d → Y i H x H' → (H' = H ∨ ∃ p o, H p = none ∧ H' = upd H p o) ∧ Rp K F H' x d
def SI (K : PySem.W.Frag) (mg : Str → Option Value) (Wx : WX) (m : M (List D)) : TI := fun σ H R => ∃ B F ρ s, Ok K B F ρ s σ H ∧ Run m s (fun ds s' => ∀ F' ρ' H' J, Ext s σ F ρ H s' F' ρ' H' → Ok K B F' ρ' s' σ H' → WalkD K J ds F' H' → R J H') (Er K mg Wx B σ)
abbrev DI (X : Cx) (Wx : WX) (tg it : Expr) (m : M (List D)) : Prop := PI X tg it (SI X.K X.mg Wx m)
theorem pi_mono {X : Cx} {tg e : Expr} {t t' : TI} (h : PI X tg e t) (k : ∀ σ H R, t' σ H R → t σ H R) : PI X tg e t' := ⟨fun pins s σ H R I q => h.run pins s σ H R I (k _ _ _ q)⟩
theorem pi_or {X : Cx} {tg e : Expr} {t t' : TI} (h : PI X tg e t) (h' : PI X tg e t') : PI X tg e (fun σ H R => t σ H R ∨ t' σ H R) := ⟨fun pins s σ H R I q => q.elim (h.run pins s σ H R I) (h'.run pins s σ H R I)⟩
def itemsD : W → Option (List D)
  | .val (.list ds) => some ds
  | .val (.tuple ds) => some ds
  | .scr ns => some (ns.map .int)
  | _ => none
def srcV (m : M W) : M (List D) := m >>= fun w => escW w >>= fun w => ofO (itemsD w)
section
variable {K : PySem.W.Frag} {F F1 : Fz} {H H1 : Hp} {a : Addr} {vs : List V} {ds : List D}
theorem walkD_list (f : F1 a) (e : H1 a = some (.lst vs)) (r : RpAll K F1 H1 vs ds) : WalkD K (Itl K a) ds F1 H1 :=
  ⟨_, _, by rw [← r.length]; exact walk_list, fun F H x => SqL.of (x.stay a _ e (.inl f)), fun i F H x H' d sx ed y => by
    obtain ⟨v, h1, h2⟩ := r.get ed
    obtain ⟨y1, y2⟩ := y
    rw [h1] at y2
    cases y2
    subst y1
    exact ⟨.inl rfl, sx.rp h2⟩⟩
theorem walkD_tup (e : SqT K H1 a vs) (r : RpAll K F1 H1 vs ds) : WalkD K (Itt K a) ds F1 H1 :=
  ⟨_, _, by rw [← r.length]; exact walk_tup, fun F H x => sqT_stay x.stay e, fun i F H x H' d sx ed y => by
    obtain ⟨v, h1, h2⟩ := r.get ed
    obtain ⟨y1, y2⟩ := y
    rw [h1] at y2
    cases y2
    subst y1
    exact ⟨.inl rfl, sx.rp h2⟩⟩
theorem walkD_scr {ns : List Int} (e : ScrAt K H1 a ns) : WalkD K (Itl K a) (ns.map .int) F1 H1 := by
  refine ⟨fun H => SqL K H a (ns.map V.int), YAt (ns.map V.int), ?_, fun F H x => (e.mono x.stay).sq, fun i F H x H' d sx ed y => ?_⟩
  · have h := walk_list (K := K) (a := a) (xs := ns.map V.int)
    rw [List.length_map] at h ⊢
    exact h
  · obtain ⟨y1, y2⟩ := y
    subst y1
    rw [List.getElem?_map] at y2 ed
    cases q : ns[i]? with
    | none => rw [q] at ed; cases ed
    | some n =>
      rw [q] at y2 ed
      cases y2
      cases ed
      exact ⟨.inl rfl, .int n⟩
end
section
variable {X : Cx} {Wx : WX} {tg e : Expr} {m : M W}
theorem d_val (he : DE X Wx e m) : DI X Wx tg e (srcV m) := pi_mono (pi_or (pi_list he) (pi_tup he)) fun σ H R ⟨B, F, ρ, s, k, h⟩ => by
  have h1 := Run.bind h
  unfold Run at h1
  cases q : m s with
  | fail => rw [q] at h1; exact h1.elim
  | err x s1 =>
    rw [q] at h1
    refine .inl ⟨B, F, ρ, s, k, ?_⟩
    unfold Run
    rw [q]
    exact h1
  | ok w s1 =>
    rw [q] at h1
    have h2 : Run (escW w >>= fun w => ofO (itemsD w)) s1 _ _ := h1
    have h3 := Run.bind h2
    unfold Run at h3
    cases q2 : escW w s1 with
    | fail => rw [q2] at h3; exact h3.elim
    | err x s2 =>
      rw [q2] at h3
      exfalso
      cases w with
      | peek i =>
        have q2' : escSlot i s1 s1.env[i]? = .err x s2 := q2
        unfold escSlot at q2'
        split at q2' <;> cases q2'
      | _ => cases q2
    | ok w2 s2 =>
      rw [q2] at h3
      obtain ⟨ds, e3, h4⟩ := Run.ofO h3
      have step : ∀ {P : V → Hp → Prop}, (∀ F' ρ' H' x, Ok X.K B F' ρ' s2 σ H' → Ext s σ F ρ H s2 F' ρ' H' → WOk X.K B F' ρ' s2 σ H' x w2 → P x H') → EM X.K X.mg Wx m σ H P := fun {P} hp => by
        refine ⟨B, F, ρ, s, k, ?_⟩
        unfold Run
        rw [q]
        intro F1 ρ1 H1 x e1 k1 o1 f1
        obtain ⟨F', s', w', k', e', o', _, hq⟩ := esc_ok (ok := fun w s => w = w2 ∧ s = s2) (er := fun _ _ => False) k1.sto e1 k1 o1 f1 (by unfold Run; rw [q2]; exact ⟨rfl, rfl⟩)
        obtain ⟨rfl, rfl⟩ := hq
        exact hp F' ρ1 H1 x k' e' o'
      cases w2 with
      | val d =>
        cases d with
        | list ds' =>
          cases e3
          refine .inl (step fun F' ρ' H' x k' e' o' => ?_)
          cases o' with
          | lst f el r => exact ⟨_, rfl, ⟨_, SqL.of el⟩, h4 F' ρ' H' _ e' k' (walkD_list f el r)⟩
        | tuple ds' =>
          cases e3
          refine .inr (step fun F' ρ' H' x k' e' o' => ?_)
          cases o' with
          | tup el r => exact ⟨_, rfl, ⟨_, el⟩, h4 F' ρ' H' _ e' k' (walkD_tup el r)⟩
        | _ => cases e3
      | scr ns =>
        cases e3
        refine .inl (step fun F' ρ' H' x k' e' o' => ?_)
        obtain ⟨a, rfl, sc⟩ := o'
        exact ⟨_, rfl, ⟨_, sc.sq⟩, h4 F' ρ' H' _ e' k' (walkD_scr sc)⟩
      | _ => cases e3
/-! ### for, while -/
def loopF (g : D → M Unit) (b : M SR) : List D → M SR
  | [] => Pure.pure .next
  | d :: ds => g d >>= fun _ => b >>= fun r => match r with
    | .next => loopF g b ds
    | .cont => loopF g b ds
    | .brk => Pure.pure .next
    | .ret w => Pure.pure (.ret w)
def sFor (src : M (List D)) (g : D → M Unit) (b : M SR) : M SR := src >>= fun ds => loopF g b ds
def whileF (c : M Bool) (b : M SR) : Nat → M SR
  | 0 => M.fail
  | n + 1 => c >>= fun t => if t = true then b >>= fun r => (match r with
    | .next => whileF c b n
    | .cont => whileF c b n
    | .brk => Pure.pure .next
    | .ret w => Pure.pure (.ret w)) else Pure.pure .next
variable {pos : Pos} {body : List Stmt} {b : M SR} {src : M (List D)} {g : D → M Unit} {is : List Nat} {c : Expr} {c1 : M Bool}
theorem s_for {iter : Expr} (hp : PassesOwn (model X.prog X.w) X.A X.env X.xe) (hc : X.calm = true) (hi : DI X Wx tg iter src) (hg : DG X Wx is tg g) (hb : DB X Wx body b) (hs : ∀ x, foldedSetIterable iter X.env x = pure x := by intro _; rfl) : DS X Wx (.For tg iter body [] pos) (sFor src g b) :=
  ps_mono (ps_for hp hc hi hg hb hs) fun D σ H ⟨B, F, ρ, s, k, h⟩ => by
    refine ⟨B, F, ρ, s, k, (Run.bind h).mono (fun ds s1 _ h1 F1 ρ1 H1 J e1 k1 wd => ?_) fun x s1 _ z F' ρ' H' cls d k' xo => z F' ρ' H' σ cls d k' xo⟩
    obtain ⟨G, Y, wk, hG, hY⟩ := wd
    have x01 := k.sx e1
    refine for_it wk (fun i σ' H' => ∃ F' ρ' s', SX F1 H1 F' H' ∧ Ok X.K B F' ρ' s' σ' H' ∧ Run (loopF g b (ds.drop i)) s' (BEnd X.K B F H D) (BEr X.K X.mg Wx B)) ⟨F1, ρ1, s1, .refl, k1, h1⟩ (fun i σ' H' _ ⟨F', ρ', s', x', _⟩ => hG F' H' x') (fun i x σ' H' H2 hi ⟨F', ρ', s', x', k', h'⟩ y => ?_) fun σ' H' ⟨F', ρ', s', x', k', h'⟩ => ?_
    · have ed : ds[i]? = some ds[i] := List.getElem?_eq_getElem hi
      obtain ⟨hH, rp⟩ := hY i F' H' x H2 _ x' ed y
      rw [List.drop_eq_getElem_cons hi] at h'
      have kk : Ok X.K B F' ρ' s' σ' H2 ∧ SX F' H' F' H2 := by
        rcases hH with rfl | ⟨p, o, hn, rfl⟩
        · exact ⟨k', .refl⟩
        · exact ⟨k'.new hn, fun _ z => z, stay_upd hn⟩
      obtain ⟨k2, x2⟩ := kk
      refine ⟨B, F', ρ', s', ds[i], k2, rp, (Run.bind h').mono (fun _ s3 _ h3 F3 ρ3 H3 σ3 x3 y3 k3 => ?_) fun _ _ _ e => e⟩
      refine ⟨B, F3, ρ3, s3, k3, (Run.bind h3).mono (fun r s4 _ h4 F4 ρ4 H4 σ4 x4 k4 => ?_) fun _ _ _ e => e⟩
      have xx := ((x'.trans x2).trans (k2.gsx x3)).trans x4
      cases r with
      | next => exact ⟨F4, ρ4, s4, xx, k4, h4⟩
      | cont => exact ⟨F4, ρ4, s4, xx, k4, h4⟩
      | brk => exact h4 F4 ρ4 H4 σ4 (x01.trans xx) k4
      | ret w => exact h4 F4 ρ4 H4 σ4 (x01.trans xx) k4
    · rw [List.drop_length] at h'
      exact h' F' ρ' H' σ' (x01.trans x') k'
theorem s_while (n : Nat) (hp : PassesOwn (model X.prog X.w) X.A X.env X.xe) (hc : DC X Wx c c1) (hb : DB X Wx body b) : DS X Wx (.While c body [] pos) (whileF c1 b n) :=
  ps_mono (ps_while hp hc hb) fun D σ H ⟨B, F, ρ, s, k, h⟩ => by
    refine ⟨fun m σ' H' => ∃ F' ρ' s', SX F H F' H' ∧ Ok X.K B F' ρ' s' σ' H' ∧ Run (whileF c1 b m) s' (BEnd X.K B F H D) (BEr X.K X.mg Wx B), ⟨n, F, ρ, s, .refl, k, h⟩, fun m σ' H' ⟨F', ρ', s', x', k', h'⟩ => ?_⟩
    cases m with
    | zero => exact h'.elim
    | succ m =>
      refine ⟨B, F', ρ', s', k', (Run.bind h').mono (fun t s1 _ h1 F1 ρ1 H1 e1 k1 => ?_) fun x s1 _ z F' ρ' H' cls d k' xo => z F' ρ' H' σ' cls d k' xo⟩
      have x1 := x'.trans (k'.sx e1)
      cases t with
      | false => exact iteF ((Run.ret (er := BEr X.K X.mg Wx B) h1) F1 ρ1 H1 σ' x1 k1)
      | true =>
        refine iteT ⟨fun σ' H' => ∃ F' ρ' s', SX F H F' H' ∧ Ok X.K B F' ρ' s' σ' H' ∧ Run (whileF c1 b m) s' (BEnd X.K B F H D) (BEr X.K X.mg Wx B), fun σ2 H2 hh => ⟨m, Nat.lt_succ_self _, hh⟩, ?_⟩
        refine ⟨B, F1, ρ1, s1, k1, (Run.bind h1).mono (fun r s4 _ h4 F4 ρ4 H4 σ4 x4 k4 => ?_) fun _ _ _ e => e⟩
        cases r with
        | next => exact ⟨F4, ρ4, s4, x1.trans x4, k4, h4⟩
        | cont => exact ⟨F4, ρ4, s4, x1.trans x4, k4, h4⟩
        | brk => exact h4 F4 ρ4 H4 σ4 (x1.trans x4) k4
        | ret w => exact h4 F4 ρ4 H4 σ4 (x1.trans x4) k4
end
end Z
/-! Z, part 8: list comprehensions. -/
namespace Z
open PySem PySem.Spec PyProof.Rows L2

def wipeE : List (Option W) → List Nat → List (Option W)
  | env, [] => env
  | env, v :: vs => (wipeE env vs).set v none
def S.wipe (s : S) (vs : List Nat) : S := { s with env := wipeE s.env vs }
def restE : List (Option W) → List (Option W) → List Nat → List (Option W)
  | env, _, [] => env
  | env, o, v :: vs => (restE env o vs).set v ((o[v]?).getD none)
def S.rest (s o : S) (vs : List Nat) : S := { s with env := restE s.env o.env vs }
def ownFree (s : S) (vs : List Nat) : Bool := vs.all fun v => match s.env[v]? with
  | some (some (.own _)) => false
  | _ => true
def nE {α : Type} (m : M α) : M α := fun s => match m s with
  | .ok a s' => .ok a s'
  | _ => .fail
def wipeM (vs : List Nat) : M Unit := fun s => .ok () (s.wipe vs)
def compLoop (vs : List Nat) (g : D → M Unit) (c : M Bool) (e : M W) : List D → List D → M (List D)
  | [], acc => Pure.pure acc
  | d :: ds, acc => nE (g d) >>= fun _ => nE c >>= fun b => if b = true then nE e >>= fun w => toVal w >>= fun y => if acc.length < sizeLine then wipeM vs >>= fun _ => compLoop vs g c e ds (acc ++ [y]) else M.fail else wipeM vs >>= fun _ => compLoop vs g c e ds acc
/-- [e for target in source if c] -/
def lcM (vs : List Nat) (body : M (List D)) : M W := fun s => if ownFree s vs = true then (match body (s.wipe vs) with
  | .ok r s' => .ok (.own r) (s'.rest s vs)
  | _ => .fail) else .fail
def eLc (vs : List Nat) (src : M (List D)) (g : D → M Unit) (c : M Bool) (e : M W) : M W := src >>= fun ds => lcM vs (compLoop vs g c e ds [])
def cTrue : M Bool := Pure.pure true
section
variable {K : PySem.W.Frag} {mg : Str → Option Value} {Wx : WX} {B : Base} {F F0 F' F1 F2 : Fz} {ρ ρ0 ρ' ρ1 ρ2 : List Addr} {s s0 s' s1 s2 : S} {σ σ' σ1 σ2 : Sg} {H Hs H' H1 H2 : Hp} {v : V} {w : W} {p : Addr} {o : HO} {d : D} {i : Nat} {is js vs : List Nat}
theorem Run.nE {α : Type} {m : M α} {ok : α → S → Prop} {er er' : Exc → S → Prop} (h : Run (Z.nE m) s ok er) : Run m s ok er' := by
  unfold Run Z.nE at h
  unfold Run
  cases q : m s with
  | fail => rw [q] at h; exact h.elim
  | ok a s' => rw [q] at h; exact h
  | err x s' => rw [q] at h; exact h.elim
theorem wipeE_length (env : List (Option W)) : ∀ vs : List Nat, (wipeE env vs).length = env.length
  | [] => rfl
  | v :: vs => by unfold wipeE; rw [List.length_set, wipeE_length env vs]
theorem wipeE_get {env : List (Option W)} {w : W} : ∀ {vs : List Nat}, (wipeE env vs)[i]? = some (some w) → i ∉ vs ∧ env[i]? = some (some w)
  | [], h => ⟨by simp, h⟩
  | v :: vs, h => by
    have h : ((wipeE env vs).set v none)[i]? = some (some w) := h
    rcases env_set h with ⟨_, h⟩ | ⟨hi, h⟩
    · cases h
    · obtain ⟨h1, h2⟩ := wipeE_get h
      exact ⟨by simp [hi, h1], h2⟩
theorem wipeS_get : ∀ {vs : List Nat}, i ∉ vs → (L2.wipe σ vs)[i]? = σ[i]?
  | [], _ => rfl
  | v :: vs, h => by
    have hv : v ≠ i := fun z => h (by rw [z]; exact List.mem_cons_self)
    have hr : i ∉ vs := fun z => h (List.mem_cons_of_mem _ z)
    show ((L2.wipe σ vs).set v none)[i]? = σ[i]?
    rw [List.getElem?_set_ne hv]
    exact wipeS_get hr
theorem wipeS_in : ∀ {vs : List Nat}, i ∈ vs → i < σ.length → (L2.wipe σ vs)[i]? = some none
  | v :: vs, h, hl => by
    show ((L2.wipe σ vs).set v none)[i]? = some none
    by_cases hv : v = i
    · subst hv
      rw [List.getElem?_set_self (by rw [wipe_length]; exact hl)]
    · rw [List.getElem?_set_ne hv]
      rcases List.mem_cons.mp h with z | z
      · exact absurd z.symm hv
      · exact wipeS_in z hl
theorem wipe_eq (h : SO is (L2.wipe σ vs) σ2) (hs : ∀ j ∈ is, j ∈ vs) : L2.wipe σ2 vs = L2.wipe σ vs := by
  have hl : σ2.length = σ.length := h.1.trans (wipe_length σ vs)
  refine List.ext_getElem? fun j => ?_
  by_cases hj : j ∈ vs
  · by_cases hjl : j < σ.length
    · rw [wipeS_in hj (by rw [hl]; exact hjl), wipeS_in hj hjl]
    · rw [List.getElem?_eq_none (by rw [wipe_length]; omega), List.getElem?_eq_none (by rw [wipe_length]; omega)]
  · rw [wipeS_get hj, h.2 j (fun z => hj (hs j z)), wipeS_get hj]
theorem wipe_wipe : L2.wipe (L2.wipe σ vs) vs = L2.wipe σ vs := wipe_eq (is := vs) ⟨rfl, fun _ _ => rfl⟩ (fun _ z => z)
theorem owned_wipe {a : Addr} (h : OwnedBy (s.wipe vs) (L2.wipe σ vs) a) : OwnedBy s σ a := by
  obtain ⟨j, ds, e1, e2⟩ := h
  obtain ⟨h1, h2⟩ := wipeE_get e1
  exact ⟨j, ds, h2, by rw [← wipeS_get h1]; exact e2⟩
theorem Ok.wipe_ (k : Ok K B F ρ s σ H) (vs : List Nat) : Ok K B F ρ (s.wipe vs) (L2.wipe σ vs) H where
  len := by
    show (wipeE s.env vs).length = _
    rw [wipeE_length, wipe_length]; exact k.len
  base := k.base
  trk := k.trk
  sto := k.sto
  env := fun j w e => by
    obtain ⟨h1, h2⟩ := wipeE_get e
    obtain ⟨v, e1, e2⟩ := k.env j w h2
    exact ⟨v, by rw [wipeS_get h1]; exact e1, e2⟩
  sep := fun j l ds es a e1 e2 e3 e4 => by
    obtain ⟨h1, g1⟩ := wipeE_get e1
    obtain ⟨h2, g2⟩ := wipeE_get e2
    rw [wipeS_get h1] at e3
    rw [wipeS_get h2] at e4
    exact k.sep j l ds es a g1 g2 e3 e4
theorem gx_wipe : GX s σ F ρ H (s.wipe vs) (L2.wipe σ vs) F ρ H := ⟨fun _ z => z, ⟨[], by simp⟩, fun _ z => .inl z, fun _ _ z _ _ => z, fun _ z => z, fun _ z => .inl z, fun _ z => owned_wipe z⟩
theorem restE_length (env o : List (Option W)) : ∀ vs : List Nat, (restE env o vs).length = env.length
  | [] => rfl
  | v :: vs => by unfold restE; rw [List.length_set, restE_length env o vs]
theorem restE_get {env o : List (Option W)} {w : W} : ∀ {vs : List Nat}, (restE env o vs)[i]? = some (some w) → (i ∈ vs ∧ o[i]? = some (some w)) ∨ (i ∉ vs ∧ env[i]? = some (some w))
  | [], h => .inr ⟨by simp, h⟩
  | v :: vs, h => by
    have h : ((restE env o vs).set v ((o[v]?).getD none))[i]? = some (some w) := h
    rcases env_set h with ⟨hi, h⟩ | ⟨hi, h⟩
    · subst hi
      refine .inl ⟨List.mem_cons_self, ?_⟩
      cases q : o[i]? with
      | none => rw [q] at h; cases h
      | some x => rw [q] at h; exact congrArg some h
    · rcases restE_get h with ⟨h1, h2⟩ | ⟨h1, h2⟩
      · exact .inl ⟨List.mem_cons_of_mem _ h1, h2⟩
      · exact .inr ⟨by simp [hi, h1], h2⟩
theorem ownFree_ok (h : ownFree s vs = true) (hi : i ∈ vs) (ds : List D) : s.env[i]? ≠ some (some (.own ds)) := fun e => by
  have := List.all_eq_true.mp h i hi
  rw [e] at this
  cases this
theorem not_owned (k : Ok K B F ρ s σ H) {a : Addr} {vs' : List V} (h1 : H a = some (.lst vs')) : True := trivial
/-- behind the block -/
theorem Ok.restore (k : Ok K B F ρ s σ H) (hf : ownFree s vs = true) (x : GX (s.wipe vs) (L2.wipe σ vs) F ρ H s' (L2.wipe σ vs) F' ρ' H') (k' : Ok K B F' ρ' s' (L2.wipe σ vs) H') : Ok K B F' ρ' (s'.rest s vs) σ H' ∧ Ext s σ F ρ H (s'.rest s vs) F' ρ' H' := by
  have sx : SX F H F' H' := (k.wipe_ vs).gsx x
  have ow : ∀ a, OwnedBy (s'.rest s vs) σ a → OwnedBy s' (L2.wipe σ vs) a := fun a z => by
    obtain ⟨j, ds, e1, e2⟩ := z
    rcases restE_get e1 with ⟨h1, h2⟩ | ⟨h1, h2⟩
    · exact absurd h2 (ownFree_ok hf h1 ds)
    · exact ⟨j, ds, h2, by rw [wipeS_get h1]; exact e2⟩
  refine ⟨{
    len := by
      show (restE s'.env s.env vs).length = _
      rw [restE_length, k'.len, wipe_length]
    base := k'.base
    trk := k'.trk
    sto := k'.sto
    env := fun j w e => by
      rcases restE_get e with ⟨h1, h2⟩ | ⟨h1, h2⟩
      · obtain ⟨v, e1, e2⟩ := k.env j w h2
        refine ⟨v, e1, ?_⟩
        cases w with
        | val d => exact sx.rp e2
        | own ds => exact absurd h2 (ownFree_ok hf h1 ds)
        | ref n =>
          obtain ⟨a, q1, q2⟩ := e2
          obtain ⟨m, em⟩ := x.rho
          refine ⟨a, q1, ?_⟩
          rw [em]
          obtain ⟨hn, _⟩ := List.getElem?_eq_some_iff.mp q2
          rw [List.getElem?_append_left hn]; exact q2
        | peek j => exact e2
        | scr ns =>
          obtain ⟨a, q1, q2⟩ := e2
          exact ⟨a, q1, q2.mono sx.stay⟩
      · obtain ⟨v, e1, e2⟩ := k'.env j w h2
        exact ⟨v, by rw [← wipeS_get h1]; exact e1, e2⟩
    sep := fun j l ds es a e1 e2 e3 e4 => by
      rcases restE_get e1 with ⟨h1, g1⟩ | ⟨h1, g1⟩
      · exact absurd g1 (ownFree_ok hf h1 ds)
      · rcases restE_get e2 with ⟨h2, g2⟩ | ⟨h2, g2⟩
        · exact absurd g2 (ownFree_ok hf h2 es)
        · exact k'.sep j l ds es a g1 g2 (by rw [wipeS_get h1]; exact e3) (by rw [wipeS_get h2]; exact e4) }, ⟨x.sub, x.rho, x.new, fun a o e n no => x.keep a o e n fun z => no (owned_wipe z), x.th, fun a z => ?_, fun a z => owned_wipe (x.ow a (ow a z))⟩⟩
  rcases x.fz a z with z | z | z
  · exact .inl z
  · exact .inr (.inl z)
  · exact .inr (.inr (owned_wipe z))
/-- the list that a comprehension fills, within its block -/
structure Acc (K : PySem.W.Frag) (F : Fz) (ρ : List Addr) (s : S) (σ : Sg) (H : Hp) (L : Addr) (acc : List D) : Prop where
  at_ : ∃ vs, H L = some (.lst vs) ∧ RpAll K F H vs acc
  nF : ¬ F L
  nρ : L ∉ ρ
  nO : ¬ OwnedBy s σ L
theorem Acc.mono {L : Addr} {acc : List D} (a : Acc K F ρ s σ H L acc) (k : Ok K B F ρ s σ H) (x : GX s σ F ρ H s' σ' F' ρ' H') : Acc K F' ρ' s' σ' H' L acc := by
  obtain ⟨vs, h1, h2⟩ := a.at_
  refine ⟨⟨vs, x.keep L _ h1 a.nρ a.nO, (k.gsx x).rpAll h2⟩, fun z => ?_, fun z => ?_, fun z => a.nO (x.ow L z)⟩
  · rcases x.fz L z with z | z | z
    · exact a.nF z
    · rw [h1] at z; cases z
    · exact a.nO z
  · rcases x.new L z with z | z
    · exact a.nρ z
    · rw [h1] at z; cases z
/-- an item joins it -/
theorem Acc.push {L : Addr} {acc : List D} {y : V} (a : Acc K F ρ s σ H L acc) (hB : B.H L = none) (k : Ok K B F ρ s σ H) (r : Rp K F H y d) : ∃ vs, H L = some (.lst vs) ∧ vs.length = acc.length ∧ Ok K B F ρ s σ (upd H L (.lst (vs ++ [y]))) ∧ Acc K F ρ s σ (upd H L (.lst (vs ++ [y]))) L (acc ++ [d]) := by
  obtain ⟨vs, h1, h2⟩ := a.at_
  have st : Stay F H (upd H L (.lst (vs ++ [y]))) := stay_write h1 a.nF
  have ne : ∀ {b}, OwnedBy s σ b → b ≠ L := fun z e => a.nO (e ▸ z)
  refine ⟨vs, h1, h2.length, {
    len := k.len
    base := ⟨k.base.sub, k.base.rho, k.base.new, fun b o q n => by
      have : b ≠ L := fun z => by rw [z, hB] at q; cases q
      rw [upd_ne this]; exact k.base.keep b o q n, k.base.fz⟩
    trk := fun b f => by
      have : b ≠ L := fun z => a.nF (z ▸ f)
      rw [upd_ne this]; exact k.trk b f
    sto := ⟨k.sto.len, k.sto.nd, fun n es q => by
      obtain ⟨b, us, q1, q2, q3, q4⟩ := k.sto.at_ n es q
      have : b ≠ L := fun z => a.nρ (z ▸ List.mem_of_getElem? q1)
      exact ⟨b, us, q1, q2, by rw [upd_ne this]; exact q3, q4.st st fun _ z => z⟩⟩
    env := fun j w q => by
      obtain ⟨v', q1, q2⟩ := k.env j w q
      refine ⟨v', q1, ?_⟩
      cases w with
      | val d => exact Rp.st q2 st fun _ z => z
      | own es =>
        obtain ⟨b, us, z1, z2, z3, z4, z5, z6⟩ := q2
        have : b ≠ L := ne ⟨j, es, q, by rw [q1, z1]⟩
        exact ⟨b, us, z1, by rw [upd_ne this]; exact z2, z3.st st fun _ z => z, z4, z5, z6⟩
      | ref n => exact q2
      | peek j => exact q2
      | scr ns =>
        obtain ⟨b, z1, z2⟩ := q2
        exact ⟨b, z1, z2.mono st⟩
    sep := k.sep }, ⟨⟨_, upd_same, (h2.append (.cons r .nil)).st st fun _ z => z⟩, a.nF, a.nρ, a.nO⟩⟩
/-- the block's change as the outside sees it: L is new -/
theorem gx_push {L : Addr} {vs' : List V} (x : GX s σ F ρ H s' σ' F' ρ' H') (h : H L = none) : GX s σ F ρ H s' σ' F' ρ' (upd H' L (.lst vs')) :=
  ⟨x.sub, x.rho, x.new, fun a o e n no => by
    have : a ≠ L := fun z => by rw [z, h] at e; cases e
    rw [upd_ne this]; exact x.keep a o e n no, fun a e => x.th a (upd_none e), x.fz, x.ow⟩
end
section
variable {X : Cx} {Wx : WX} {tg e iter : Expr} {m : M W} {src : M (List D)} {g : D → M Unit} {c1 : M Bool} {is : List Nat} {ifs : List Expr} {scope : Scope} {own : List (Str × Nat)} {pos : Pos}
abbrev Wx0 : WX := fun _ _ _ _ => False
abbrev DTs (X : Cx) (ifs : List Expr) (m : M Bool) : Prop := PTs X ifs (CM X.K X.mg Wx0 m)
theorem t_nil : DTs X [] cTrue := ⟨fun pins s σ H Q I ⟨B, F, ρ, s', k, h⟩ => pts_nil.run pins s σ H Q I ((Run.ret h) F ρ H .refl k)⟩
theorem t_one {c : Expr} (h : DC X Wx0 c c1) : DTs X [c] c1 := pts_one h
/-- what a turn of the block asks, from its state -/
theorem turn_ok {K : PySem.W.Frag} {mg : Str → Option Value} {B : Base} {L : Addr} {vs : List Nat} {σ : Sg} {d : D} {ds acc : List D} {s0 s : S} {F0 F : Fz} {ρ0 ρ : List Addr} {Hs H : Hp} {x : V} {R : List D → S → Prop} {er : Exc → S → Prop} {Nx : Hp → Prop}
    (his : ∀ j ∈ is, j ∈ vs) (hL : Hs L = none) (hB : B.H L = none) (gx : GX s0 (L2.wipe σ vs) F0 ρ0 Hs s (L2.wipe σ vs) F ρ H) (k : Ok K B F ρ s (L2.wipe σ vs) H) (a : Acc K F ρ s (L2.wipe σ vs) H L acc) (rp : Rp K F H x d) (h : Run (compLoop vs g c1 m (d :: ds) acc) s R er)
    (hn : ∀ F' ρ' s' H' acc', GX s0 (L2.wipe σ vs) F0 ρ0 Hs s' (L2.wipe σ vs) F' ρ' H' → Ok K B F' ρ' s' (L2.wipe σ vs) H' → Acc K F' ρ' s' (L2.wipe σ vs) H' L acc' → Run (compLoop vs g c1 m ds acc') s' R er → Nx H') :
    GM K mg Wx0 is g x (L2.wipe σ vs) H fun σ2 H2 => L2.wipe σ2 vs = L2.wipe σ vs ∧ CM K mg Wx0 c1 σ2 H2 fun b H3 => if b = true then EM K mg Wx0 m σ2 H3 fun y H4 => ∃ acc, H4 L = some (.lst acc) ∧ acc.length < sizeLine ∧ Nx (upd H4 L (.lst (acc ++ [y]))) else Nx H3 := by
  refine ⟨B, F, ρ, s, d, k, rp, (Run.nE (Run.bind h)).mono (fun _ s1 _ h1 F1 ρ1 H1 σ1 g1 so k1 => ?_) fun _ _ _ z => z⟩
  have ew := wipe_eq so his
  refine ⟨ew, B, F1, ρ1, s1, k1, (Run.nE (Run.bind h1)).mono (fun b s2 _ h2 F2 ρ2 H2 e2 k2 => ?_) fun _ _ _ z => z⟩
  have a2 := (a.mono k g1).mono k1 e2.gx
  cases b with
  | false =>
    refine iteF ?_
    have h3 : Run (compLoop vs g c1 m ds acc) (s2.wipe vs) R er := Run.bind (m := wipeM vs) h2
    have k3 := k2.wipe_ vs
    rw [ew] at k3
    have gw : GX s2 σ1 F2 ρ2 H2 (s2.wipe vs) (L2.wipe σ vs) F2 ρ2 H2 := by rw [← ew]; exact gx_wipe
    exact hn F2 ρ2 _ H2 acc (((gx.trans g1).trans e2.gx).trans gw) k3 (a2.mono k2 gw) h3
  | true =>
    refine iteT ⟨B, F2, ρ2, s2, k2, (Run.nE (Run.bind h2)).mono (fun w s3 _ h3 F3 ρ3 H3 y e3 k3 o3 f3 => ?_) fun _ _ _ z => z⟩
    obtain ⟨F4, s4, dy, k4, e4, ry, h4⟩ := val_ok e3 k3 o3 f3 (Run.bind h3)
    have a4 := a2.mono k2 e4.gx
    by_cases hz : acc.length < sizeLine
    · have h5 : Run (if acc.length < sizeLine then wipeM vs >>= fun _ => compLoop vs g c1 m ds (acc ++ [dy]) else M.fail) s4 R er := h4
      rw [if_pos hz] at h5
      have h6 : Run (compLoop vs g c1 m ds (acc ++ [dy])) (s4.wipe vs) R er := Run.bind (m := wipeM vs) h5
      obtain ⟨us, q1, q2, k5, a5⟩ := a4.push hB k4 ry
      have k6 := k5.wipe_ vs
      rw [ew] at k6
      have gw : GX s4 σ1 F4 ρ3 (upd H3 L (.lst (us ++ [y]))) (s4.wipe vs) (L2.wipe σ vs) F4 ρ3 (upd H3 L (.lst (us ++ [y]))) := by rw [← ew]; exact gx_wipe
      have gall := (((gx.trans g1).trans e2.gx).trans e4.gx)
      exact ⟨us, q1, by rw [q2]; exact hz, hn F4 ρ3 _ _ _ ((gx_push gall hL).trans gw) k6 (a5.mono k5 gw) h6⟩
    · have h5 : Run (if acc.length < sizeLine then wipeM vs >>= fun _ => compLoop vs g c1 m ds (acc ++ [dy]) else M.fail) s4 R er := h4
      rw [if_neg hz] at h5
      exact h5.elim
theorem lc_step {K : PySem.W.Frag} {mg : Str → Option Value} {σ : Sg} {H : Hp} {Q : VK} {vs : List Nat} (his : ∀ j ∈ is, j ∈ vs) (h : EM K mg Wx (eLc vs src g c1 m) σ H Q) :
    tLc (SI K mg Wx src) (GM K mg Wx0 is g) (CM K mg Wx0 c1) (EM K mg Wx0 m) vs σ H Q := by
  obtain ⟨B, F, ρ, s, k, h⟩ := h
  refine ⟨B, F, ρ, s, k, (Run.bind h).mono (fun ds s1 _ h1 F1 ρ1 H1 J e1 k1 wd => ?_) fun _ _ _ z => z⟩
  intro L hL
  have h1' : Run (lcM vs (compLoop vs g c1 m ds [])) s1 (Post K B σ s F ρ H Q) (Er K mg Wx B σ) := h1
  by_cases hf : ownFree s1 vs = true
  · have hb : Run (compLoop vs g c1 m ds []) (s1.wipe vs) (fun r s' => Post K B σ s F ρ H Q (.own r) (s'.rest s1 vs)) (fun _ _ => False) := by
      unfold Run lcM at h1'
      rw [if_pos hf] at h1'
      unfold Run
      cases q : compLoop vs g c1 m ds [] (s1.wipe vs) with
      | fail => rw [q] at h1'; exact h1'.elim
      | err x s' => rw [q] at h1'; exact h1'.elim
      | ok r s' => rw [q] at h1'; exact h1'
    obtain ⟨G, Y, wk, hG, hY⟩ := wd
    have hB := k1.fresh hL
    have kw := k1.wipe_ vs
    have kw0 := kw.new (o := .lst []) hL
    have inv0 : GX (s1.wipe vs) (L2.wipe σ vs) F1 ρ1 H1 (s1.wipe vs) (L2.wipe σ vs) F1 ρ1 (upd H1 L (.lst [])) := (Ext.new_ hL).gx
    have acc0 : Acc K F1 ρ1 (s1.wipe vs) (L2.wipe σ vs) (upd H1 L (.lst [])) L [] := ⟨⟨[], upd_same, .nil⟩, kw.nF hL, kw.nρ hL, kw.nO hL⟩
    refine lc_it wk (fun i H' => ∃ F' ρ' s' acc, GX (s1.wipe vs) (L2.wipe σ vs) F1 ρ1 H1 s' (L2.wipe σ vs) F' ρ' H' ∧ Ok K B F' ρ' s' (L2.wipe σ vs) H' ∧ Acc K F' ρ' s' (L2.wipe σ vs) H' L acc ∧ Run (compLoop vs g c1 m (ds.drop i) acc) s' (fun r s' => Post K B σ s F ρ H Q (.own r) (s'.rest s1 vs)) (fun _ _ => False))
      ⟨F1, ρ1, s1.wipe vs, [], inv0, kw0, acc0, hb⟩ (fun i H' _ ⟨F', ρ', s', acc, x', _⟩ => hG F' H' (kw.gsx x')) (fun i x H' H2 hi ⟨F', ρ', s', acc, x', k', a', h'⟩ y => ?_) fun H' ⟨F', ρ', s', acc, x', k', a', h'⟩ => ?_
    · have ed : ds[i]? = some ds[i] := List.getElem?_eq_getElem hi
      obtain ⟨hH, rp⟩ := hY i F' H' x H2 _ (kw.gsx x') ed y
      rw [List.drop_eq_getElem_cons hi] at h'
      have kk : Ok K B F' ρ' s' (L2.wipe σ vs) H2 ∧ GX s' (L2.wipe σ vs) F' ρ' H' s' (L2.wipe σ vs) F' ρ' H2 := by
        rcases hH with rfl | ⟨p, o, hn, rfl⟩
        · exact ⟨k', .refl⟩
        · exact ⟨k'.new hn, (Ext.new_ hn).gx⟩
      obtain ⟨k2, x2⟩ := kk
      exact turn_ok his hL hB (x'.trans x2) k2 (a'.mono k' x2) rp h' fun F3 ρ3 s3 H3 acc3 g3 k3 a3 h3 => ⟨F3, ρ3, s3, acc3, g3, k3, a3, h3⟩
    · rw [List.drop_length] at h'
      obtain ⟨kr, er⟩ := Ok.restore k1 hf x' k'
      obtain ⟨us, q1, q2⟩ := a'.at_
      have ow : ¬ OwnedBy (s'.rest s1 vs) σ L := fun z => by
        have := er.ow L z
        exact k1.nO hL this
      exact (Run.ret (er := fun _ _ => False) h') F' ρ' H' _ (e1.trans er k1.sto) kr ⟨L, us, rfl, q1, q2, a'.nF, a'.nρ, ow, hB⟩ fun a e => by cases e; exact e1.th L hL
  · unfold Run lcM at h1'
    rw [if_neg hf] at h1'
    exact h1'.elim
theorem i_lc (hc : X.calm = true) (hN : X.N.Nodup) (hi : DI X Wx tg iter src) (ok : BlkOk X.N X.env.scope scope own)
    (hg : ∀ (s : Shared) (H : Hp) (C : Addr) (cl : List (Str × Addr)) (fp : List Addr), DG (X.blk s H scope (compEnvC scope cl C X.env) fp) Wx0 is tg g)
    (ht : ∀ (s : Shared) (H : Hp) (C : Addr) (cl : List (Str × Addr)) (fp : List Addr), DTs (X.blk s H scope (compEnvC scope cl C X.env) fp) ifs c1)
    (he : ∀ (s : Shared) (H : Hp) (C : Addr) (cl : List (Str × Addr)) (fp : List Addr), DE (X.blk s H scope (compEnvC scope cl C X.env) fp) Wx0 e m) (his : ∀ j ∈ is, j ∈ own.map (·.2)) (hs : ∀ x, foldedSetIterable iter X.env x = pure x := by intro _; rfl) :
    DE X Wx (.ListComp e [⟨tg, iter, ifs, 0⟩] scope pos) (eLc (own.map (·.2)) src g c1 m) :=
  pe_mono (pe_lc hc hN hi ok hg ht he hs) fun σ H Q h => lc_step his h
theorem s_setLc {i : Nat} {y : Str} {py spos : Pos} (hc : X.calm = true) (hN : X.N.Nodup) (hy : X.N[i]? = some y) (hyl : X.env.scope.names.lookup y = some .local)
    (hsw : swapsWith (.ListComp e [⟨tg, iter, ifs, 0⟩] scope pos) (some (.Name y py)) spos.line X.env = pure true) (hi : DI X Wx tg iter src) (ok : BlkOk X.N X.env.scope scope own)
    (hg : ∀ (s : Shared) (H : Hp) (C : Addr) (cl : List (Str × Addr)) (fp : List Addr), DG (X.blk s H scope (compEnvC scope cl C X.env) fp) Wx0 is tg g)
    (ht : ∀ (s : Shared) (H : Hp) (C : Addr) (cl : List (Str × Addr)) (fp : List Addr), DTs (X.blk s H scope (compEnvC scope cl C X.env) fp) ifs c1)
    (he : ∀ (s : Shared) (H : Hp) (C : Addr) (cl : List (Str × Addr)) (fp : List Addr), DE (X.blk s H scope (compEnvC scope cl C X.env) fp) Wx0 e m) (his : ∀ j ∈ is, j ∈ own.map (·.2)) (hs : ∀ x, foldedSetIterable iter X.env x = pure x := by intro _; rfl) :
    DS X Wx (.Assign [.Name y py] (.ListComp e [⟨tg, iter, ifs, 0⟩] scope pos) spos) (sAsg i (eLc (own.map (·.2)) src g c1 m)) :=
  ps_mono (ps_setLc hc hN hy hyl hsw hi ok hg ht he hs) fun D σ H h => lc_step his (asg_step h)
end
end Z
/-! Z, part 9: subscripts, slices, built-ins, what is gone through, calls with keywords. -/
namespace Z
open PySem PySem.Spec PyProof.Rows L2

/-! ### items and slices -/
def ixD : D → D → Option W
  | .list ds, .int i => (atI ds i).map .val
  | .tuple ds, .int i => (atI ds i).map .val
  | .str z, .int i => if z.length ≤ sizeLine then (atI z.cps.toList i).map fun c => .val (.str ⟨#[c]⟩) else none
  | _, _ => none
def opLk (f : D → D → Option W) (m1 m2 : M W) : M W := m1 >>= fun a => m2 >>= fun b => look a >>= fun x => look b >>= fun y => ofO (f x y)
def op1 (f : D → Option W) (m : M W) : M W := m >>= fun a => look a >>= fun x => ofO (f x)
def pNone : M (Option Int) := Pure.pure none
def pSome (m : M W) : M (Option Int) := m >>= fun a => look a >>= fun d => match d with
  | .int i => Pure.pure (some i)
  | _ => M.fail
def cutL {α : Type} (xs : List α) (lo hi : Option Int) : List α := (xs.drop (HT.sIx xs.length 0 lo)).take (HT.sIx xs.length xs.length hi - HT.sIx xs.length 0 lo)
def slD (d : D) (lo hi : Option Int) : Option W := match d with
  | .list ds => some (.own (cutL ds lo hi))
  | .tuple ds => some (.val (.tuple (cutL ds lo hi)))
  | .str z => if z.length ≤ sizeLine then some (.val (.str (cutS z lo hi))) else none
  | _ => none
def eSl (m : M W) (l h : M (Option Int)) : M W := m >>= fun a => l >>= fun lo => h >>= fun hi => look a >>= fun d => ofO (slD d lo hi)
section
variable {K : PySem.W.Frag} {mg : Str → Option Value} {Wx : WX} {B : Base} {F : Fz} {ρ : List Addr} {s : S} {σ : Sg} {H : Hp} {vs : List V} {ds : List D}
theorem RpAll.atI {i : Int} {d : D} (r : RpAll K F H vs ds) (e : L2.atI ds i = some d) : ∃ v, L2.atI vs i = some v ∧ Rp K F H v d := by
  unfold L2.atI at e ⊢
  rw [r.length]
  cases q : ixN ds.length i with
  | none => rw [q] at e; cases e
  | some j =>
    rw [q] at e
    exact r.get e
theorem RpAll.cut (lo hi : Option Int) (r : RpAll K F H vs ds) : RpAll K F H (cutV vs lo hi) (cutL ds lo hi) := by
  unfold cutV cutL
  rw [r.length]
  exact (r.drop _).take _
theorem cutL_length {α : Type} (xs : List α) (lo hi : Option Int) : (cutL xs lo hi).length ≤ xs.length := by
  unfold cutL
  rw [List.length_take, List.length_drop]
  omega
def PostO (K : PySem.W.Frag) (B : Base) (σ : Sg) (s : S) (F : Fz) (ρ : List Addr) (H : Hp) (Q : Option Int → Hp → Prop) (b : Option Int) (s' : S) : Prop :=
  ∀ F' ρ' H', Ext s σ F ρ H s' F' ρ' H' → Ok K B F' ρ' s' σ H' → Q b H'
def OM (K : PySem.W.Frag) (mg : Str → Option Value) (Wx : WX) (m : M (Option Int)) : TO := fun σ H Q => ∃ B F ρ s, Ok K B F ρ s σ H ∧ Run m s (PostO K B σ s F ρ H Q) (Er K mg Wx B σ)
end
section
variable {X : Cx} {Wx : WX} {pos p p2 : Pos} {a b e : Expr} {m m1 m2 : M W} {lo hi : Option Expr} {ml mh : M (Option Int)} {x : Str}
theorem i_ix (ha : DE X Wx a m1) (hb : DE X Wx b m2) (hs : PlainIx b := by intro _ _; rfl) : DE X Wx (.Subscript a b pos) (opLk ixD m1 m2) :=
  pe_mono (pe_ix ix_seq ha hb hs) fun σ H Q h => em_bin (P := fun x y H2 => rIx X.K x y H2 Q) (fun {B F ρ s H _ _ _ _} k o1 o2 h => by
    obtain ⟨d1, e1, h⟩ := Run.look h
    obtain ⟨d2, e2, h⟩ := Run.look h
    obtain ⟨w, e3, h⟩ := Run.ofO h
    have l1 := (content_ok k o1 e1).1
    have l2 := (content_ok k o2 e2).1
    unfold ixD at e3
    split at e3
    · rename_i ds i _
      cases q : atI ds i with
      | none => rw [q] at e3; cases e3
      | some d =>
        rw [q] at e3
        cases e3
        obtain ⟨p, vs, rfl, sq, r⟩ := l1.list
        obtain ⟨v, q1, q2⟩ := r.atI q
        exact .inl ⟨p, vs, i, v, rfl, l2.int, sq, q1, h.val k q2⟩
    · rename_i ds i _
      cases q : atI ds i with
      | none => rw [q] at e3; cases e3
      | some d =>
        rw [q] at e3
        cases e3
        obtain ⟨p, vs, rfl, sq, r⟩ := l1.tup
        obtain ⟨v, q1, q2⟩ := r.atI q
        exact .inr (.inl ⟨p, vs, i, v, rfl, l2.int, sq, q1, h.val k q2⟩)
    · rename_i z i _
      split at e3
      · rename_i hz
        cases q : atI z.cps.toList i with
        | none => rw [q] at e3; cases e3
        | some c =>
          rw [q] at e3
          cases e3
          exact .inr (.inr ⟨z, i, c, l1.str, l2.int, hz, q, h.val k (.str _)⟩)
      · cases e3
    · cases e3) h
theorem po_mono {e : Option Expr} {t t' : TO} (h : PO X e t) (k : ∀ σ H Q, t' σ H Q → t σ H Q) : PO X e t' := ⟨fun pins s σ H Q I q => h.run pins s σ H Q I (k _ _ _ q)⟩
abbrev DO (X : Cx) (Wx : WX) (e : Option Expr) (m : M (Option Int)) : Prop := PO X e (OM X.K X.mg Wx m)
theorem o_none : DO X Wx none pNone := po_mono po_none fun σ H Q ⟨B, F, ρ, s, k, h⟩ => (Run.ret h) F ρ H .refl k
theorem o_some (he : DE X Wx e m) : DO X Wx (some e) (pSome m) := po_mono (po_some he) fun σ H Q ⟨B, F, ρ, s, k, h⟩ => ⟨B, F, ρ, s, k, (Run.bind h).mono (fun w s1 _ h1 F1 ρ1 H1 v e1 k1 o1 _ => by
  obtain ⟨d, ed, h2⟩ := Run.look h1
  cases d with
  | int i =>
    have := (content_ok k1 o1 ed).1.int
    subst this
    exact ⟨i, rfl, (Run.ret h2) F1 ρ1 H1 e1 k1⟩
  | _ => exact h2.elim) fun _ _ _ z => z⟩
def rSl_ (K : PySem.W.Frag) : V → Option Int → Option Int → Hp → VK → Prop := fun x lo hi H Q => rSlL K x lo hi H Q ∨ rSlA K x lo hi H Q ∨ rSlS x lo hi H Q
theorem sl_any : SlR X (rSl_ X.K) := sl_list.or (sl_tupA.or sl_str)
theorem cut_whole {α : Type} {xs : List α} {lo hi : Option Int} (h : HT.sIx xs.length 0 lo = 0 ∧ HT.sIx xs.length xs.length hi = xs.length) : cutL xs lo hi = xs := by
  unfold cutL
  rw [h.1, h.2]
  simp
theorem i_sl (ha : DE X Wx a m) (hl : DO X Wx lo ml) (hh : DO X Wx hi mh) : DE X Wx (.Subscript a (.Slice lo hi none p2) pos) (eSl m ml mh) :=
  pe_mono (pe_slice sl_any ha hl hh) fun σ H Q ⟨B, F, ρ, s, k, h⟩ => by
    refine ⟨B, F, ρ, s, k, (Run.bind h).mono (fun w1 s1 _ h1 F1 ρ1 H1 x e1 k1 o1 _ => ?_) fun _ _ _ z => z⟩
    refine ⟨B, F1, ρ1, s1, k1, (Run.bind h1).mono (fun lo s2 _ h2 F2 ρ2 H2 e2 k2 => ?_) fun _ _ _ z => z⟩
    refine ⟨B, F2, ρ2, s2, k2, (Run.bind h2).mono (fun hi s3 _ h3 F3 ρ3 H3 e3 k3 => ?_) fun _ _ _ z => z⟩
    obtain ⟨d, ed, h4⟩ := Run.look h3
    obtain ⟨w, ew, h5⟩ := Run.ofO h4
    have l1 := (content_ok k3 ((o1.mono k1 e2).mono k2 e3) ed).1
    have h6 := h5.step ((e1.trans e2 k1.sto).trans e3 k2.sto) k3.sto
    unfold slD at ew
    split at ew
    · cases ew
      obtain ⟨p, vs, rfl, sq, r⟩ := l1.list
      exact .inl ⟨p, vs, rfl, sq, fun q hq => h6.own k3 (r.cut _ _) hq⟩
    · cases ew
      obtain ⟨p, vs, rfl, sq, r⟩ := l1.tup
      refine .inr (.inl ⟨p, vs, rfl, sq, fun hw => ?_, fun _ q hq => h6.tup k3 (r.cut _ _) hq⟩)
      rw [r.length] at hw
      rw [cut_whole hw] at h6
      exact h6.val k3 (.tup sq r)
    · split at ew
      · rename_i hz
        cases ew
        exact .inr (.inr ⟨_, l1.str, hz, h6.val k3 (.str _)⟩)
      · cases ew
    · cases ew
/-! ### built-ins of one and of two -/
def U1R (K : PySem.W.Frag) (r : List V → Hp → VK → Prop) (f : D → Option W) : Prop := ∀ {B F ρ s σ H x d w Q}, Ok K B F ρ s σ H → Lk K F H x d → f d = some w → Post K B σ s F ρ H Q w s → r [x] H Q
def U2R (K : PySem.W.Frag) (r : List V → Hp → VK → Prop) (f : D → D → Option W) : Prop := ∀ {B F ρ s σ H x y d e w Q}, Ok K B F ρ s σ H → Lk K F H x d → Lk K F H y e → f d e = some w → Post K B σ s F ρ H Q w s → r [x, y] H Q
theorem u1_step {K : PySem.W.Frag} {mg : Str → Option Value} {σ : Sg} {H : Hp} {Q : VK} {r : List V → Hp → VK → Prop} {f : D → Option W} (hr : U1R K r f) (h : EM K mg Wx (op1 f m) σ H Q) : EM K mg Wx m σ H fun x H1 => r [x] H1 Q :=
  em_un (P := fun x H1 => r [x] H1 Q) (fun {B F ρ s H _ _} k o h => by
    obtain ⟨d1, e1, h⟩ := Run.look h
    obtain ⟨w, e3, h⟩ := Run.ofO h
    exact hr k (content_ok k o e1).1 e3 h) h
theorem u2_step {K : PySem.W.Frag} {mg : Str → Option Value} {σ : Sg} {H : Hp} {Q : VK} {r : List V → Hp → VK → Prop} {f : D → D → Option W} (hr : U2R K r f) (h : EM K mg Wx (opLk f m1 m2) σ H Q) : EM K mg Wx m1 σ H fun x H1 => EM K mg Wx m2 σ H1 fun y H2 => r [x, y] H2 Q :=
  em_bin (P := fun x y H1 => r [x, y] H1 Q) (fun {B F ρ s H _ _ _ _} k o1 o2 h => by
    obtain ⟨d1, e1, h⟩ := Run.look h
    obtain ⟨d2, e2, h⟩ := Run.look h
    obtain ⟨w, e3, h⟩ := Run.ofO h
    exact hr k (content_ok k o1 e1).1 (content_ok k o2 e2).1 e3 h) h
theorem i_b1 {id : String} {r : List V → Hp → VK → Prop} {f : D → Option W} (hc : CallR X (.builtin id) r) (hr : U1R X.K r f) (hm : X.mg x = none) (ha : DE X Wx e m) (hv : bootBuiltins x = some (.builtin id) := by decide +kernel) (hg : Gl X x := by rfl) (hn : x ≠ "__name__" := by decide) (hdb : (x == ("__debug__" : Str)) = false := by decide)
    (hs : starEach [e] X.env = (false, eval e X.env) :: starEach [] X.env := by rfl) (hpl : (backTo pos (starEach [] X.env)).any (·.1) = false := by rfl) : DE X Wx (.Call (.Name x p) [e] [] pos) (op1 f m) :=
  pe_mono (pe_callB hc hg hm hv (pa_cons ha pa_nil hs) hn hdb hs hpl) fun σ H Q h => u1_step hr h
theorem i_ty1 {T : String} {r : List V → Hp → VK → Prop} {f : D → Option W} (hc : CallR X (.type T) r) (hr : U1R X.K r f) (hm : X.mg x = none) (ha : DE X Wx e m) (hv : bootBuiltins x = some (.type T) := by decide +kernel) (hg : Gl X x := by rfl) (hn : x ≠ "__name__" := by decide) (hdb : (x == ("__debug__" : Str)) = false := by decide)
    (hs : starEach [e] X.env = (false, eval e X.env) :: starEach [] X.env := by rfl) (hpl : (backTo pos (starEach [] X.env)).any (·.1) = false := by rfl) : DE X Wx (.Call (.Name x p) [e] [] pos) (op1 f m) :=
  pe_mono (pe_callTy hc hg hm hv (pa_cons ha pa_nil hs) hn hdb hs hpl) fun σ H Q h => u1_step hr h
theorem i_b2 {id : String} {r : List V → Hp → VK → Prop} {f : D → D → Option W} (hc : CallR X (.builtin id) r) (hr : U2R X.K r f) (hm : X.mg x = none) (ha : DE X Wx a m1) (hb : DE X Wx b m2) (hv : bootBuiltins x = some (.builtin id) := by decide +kernel) (hg : Gl X x := by rfl) (hn : x ≠ "__name__" := by decide) (hdb : (x == ("__debug__" : Str)) = false := by decide)
    (hs : starEach [a, b] X.env = (false, eval a X.env) :: starEach [b] X.env := by rfl) (hs2 : starEach [b] X.env = (false, eval b X.env) :: starEach [] X.env := by rfl) (hpl : (backTo pos (starEach [b] X.env)).any (·.1) = false := by rfl) : DE X Wx (.Call (.Name x p) [a, b] [] pos) (opLk f m1 m2) :=
  pe_mono (pe_callB hc hg hm hv (pa_cons ha (pa_cons hb pa_nil hs2) hs) hn hdb hs hpl) fun σ H Q h => u2_step hr h
/-- a module's name for a built-in function -/
theorem i_f2 {id : String} {r : List V → Hp → VK → Prop} {f : D → D → Option W} (hc : CallR X (.builtin id) r) (hr : U2R X.K r f) (hm : X.mg x = some (.builtin id)) (ha : DE X Wx a m1) (hb : DE X Wx b m2) (hg : Gl X x := by rfl) (hdb : (x == ("__debug__" : Str)) = false := by decide)
    (hs : starEach [a, b] X.env = (false, eval a X.env) :: starEach [b] X.env := by rfl) (hs2 : starEach [b] X.env = (false, eval b X.env) :: starEach [] X.env := by rfl) (hpl : (backTo pos (starEach [b] X.env)).any (·.1) = false := by rfl) : DE X Wx (.Call (.Name x p) [a, b] [] pos) (opLk f m1 m2) :=
  pe_mono (pe_callBfun hc hg hm (pa_cons ha (pa_cons hb pa_nil hs2) hs) hdb hs hpl) fun σ H Q h => u2_step hr h
end
def lenD : D → Option W
  | .list ds => some (.val (.int ds.length))
  | .tuple ds => some (.val (.int ds.length))
  | .str z => if z.length ≤ sizeLine then some (.val (.int z.length)) else none
  | _ => none
def absD : D → Option W
  | .int i => some (.val (.int (if i < 0 then -i else i)))
  | _ => none
def intD : D → Option W
  | .int i => some (.val (.int i))
  | .bool b => some (.val (.int (if b then 1 else 0)))
  | _ => none
def boolsOf : List D → Option (List Bool)
  | [] => some []
  | .bool b :: r => (boolsOf r).map (b :: ·)
  | _ => none
def intsOf : List D → Option (List Int)
  | [] => some []
  | .int b :: r => (intsOf r).map (b :: ·)
  | _ => none
def allD : D → Option W
  | .list ds => (boolsOf ds).map fun bs => .val (.bool (bs.all id))
  | _ => none
def anyD : D → Option W
  | .list ds => (boolsOf ds).map fun bs => .val (.bool (bs.any id))
  | _ => none
def sumD : D → Option W
  | .list ds => (intsOf ds).map fun ns => .val (.int ns.sum)
  | _ => none
def maxI : List Int → Option Int
  | [] => none
  | n :: ns => some (ns.foldl max n)
def minI : List Int → Option Int
  | [] => none
  | n :: ns => some (ns.foldl min n)
def max1D : D → Option W
  | .list ds => ((intsOf ds).bind maxI).map fun n => .val (.int n)
  | _ => none
def min1D : D → Option W
  | .list ds => ((intsOf ds).bind minI).map fun n => .val (.int n)
  | _ => none
def tupleD : D → Option W
  | .list ds => some (.val (.tuple ds))
  | .tuple ds => some (.val (.tuple ds))
  | _ => none
def listD : D → Option W
  | .list ds => some (.own ds)
  | .tuple ds => some (.own ds)
  | _ => none
def max2D : D → D → Option W
  | .int i, .int j => some (.val (.int (if j > i then j else i)))
  | _, _ => none
def min2D : D → D → Option W
  | .int i, .int j => some (.val (.int (if j < i then j else i)))
  | _, _ => none
def gcdD : D → D → Option W
  | .int i, .int j => some (.val (.int (Nat.gcd i.natAbs j.natAbs : Nat)))
  | _, _ => none
def divmodD : D → D → Option W
  | .int i, .int j => if 0 < j ∧ j < 1073741824 then some (.val (.tuple [.int (i / j), .int (i % j)])) else none
  | _, _ => none
section
variable {K : PySem.W.Frag} {F : Fz} {H : Hp}
theorem bools_ok : ∀ {ds : List D} {vs : List V} {bs : List Bool}, RpAll K F H vs ds → boolsOf ds = some bs → vs = bs.map V.bl
  | [], _, _, .nil, e => by cases e; rfl
  | d :: ds, _, bs, .cons a b, e => by
    cases d with
    | bool x =>
      have e' : (boolsOf ds).map (x :: ·) = some bs := e
      cases q : boolsOf ds with
      | none => rw [q] at e'; cases e'
      | some r =>
        rw [q] at e'
        cases e'
        cases a
        rw [bools_ok b q]
        rfl
    | _ => cases e
theorem ints_ok : ∀ {ds : List D} {vs : List V} {bs : List Int}, RpAll K F H vs ds → intsOf ds = some bs → vs = bs.map V.int
  | [], _, _, .nil, e => by cases e; rfl
  | d :: ds, _, bs, .cons a b, e => by
    cases d with
    | int x =>
      have e' : (intsOf ds).map (x :: ·) = some bs := e
      cases q : intsOf ds with
      | none => rw [q] at e'; cases e'
      | some r =>
        rw [q] at e'
        cases e'
        cases a
        rw [ints_ok b q]
        rfl
    | _ => cases e
theorem u_len : U1R K (fun xs H Q => ∃ x n, xs = [x] ∧ LenV K x H n ∧ Q (.int n) H) lenD := by
  intro B F ρ s σ H x d w Q k l e p
  unfold lenD at e
  split at e
  · cases e
    obtain ⟨a, vs, rfl, sq, r⟩ := l.list
    exact ⟨_, _, rfl, .inl ⟨vs, sq, r.length.symm⟩, p.val k (.int _)⟩
  · cases e
    obtain ⟨a, vs, rfl, sq, r⟩ := l.tup
    exact ⟨_, _, rfl, .inr ⟨vs, sq, r.length.symm⟩, p.val k (.int _)⟩
  · split at e
    · rename_i hz
      cases e
      obtain rfl := l.str
      exact ⟨_, _, rfl, ⟨hz, rfl⟩, p.val k (.int _)⟩
    · cases e
  · cases e
theorem u_abs : U1R K (fun xs H Q => ∃ i, xs = [.int i] ∧ Q (.int (if i < 0 then -i else i)) H) absD := by
  intro B F ρ s σ H x d w Q k l e p
  unfold absD at e
  split at e
  · cases e
    obtain rfl := l.int
    exact ⟨_, rfl, p.val k (.int _)⟩
  · cases e
theorem u_int : U1R K (fun xs H Q => (∃ i, xs = [.int i] ∧ Q (.int i) H) ∨ ∃ k, xs = [.bl k] ∧ Q (.int (if k then 1 else 0)) H) intD := by
  intro B F ρ s σ H x d w Q k l e p
  unfold intD at e
  split at e
  · cases e
    obtain rfl := l.int
    exact .inl ⟨_, rfl, p.val k (.int _)⟩
  · cases e
    obtain rfl := l.bool
    exact .inr ⟨_, rfl, p.val k (.int _)⟩
  · cases e
theorem u_all : U1R K (rAll K) allD := by
  intro B F ρ s σ H x d w Q k l e p
  unfold allD at e
  split at e
  · rename_i ds
    cases q : boolsOf ds with
    | none => rw [q] at e; cases e
    | some bs =>
      rw [q] at e
      cases e
      obtain ⟨a, vs, rfl, sq, r⟩ := l.list
      have := bools_ok r q
      subst this
      exact ⟨a, bs, rfl, sq, p.val k (.bl _)⟩
  · cases e
theorem u_any : U1R K (rAny K) anyD := by
  intro B F ρ s σ H x d w Q k l e p
  unfold anyD at e
  split at e
  · rename_i ds
    cases q : boolsOf ds with
    | none => rw [q] at e; cases e
    | some bs =>
      rw [q] at e
      cases e
      obtain ⟨a, vs, rfl, sq, r⟩ := l.list
      have := bools_ok r q
      subst this
      exact ⟨a, bs, rfl, sq, p.val k (.bl _)⟩
  · cases e
theorem u_sum : U1R K (rSum K) sumD := by
  intro B F ρ s σ H x d w Q k l e p
  unfold sumD at e
  split at e
  · rename_i ds
    cases q : intsOf ds with
    | none => rw [q] at e; cases e
    | some bs =>
      rw [q] at e
      cases e
      obtain ⟨a, vs, rfl, sq, r⟩ := l.list
      have := ints_ok r q
      subst this
      exact ⟨a, bs, rfl, sq, p.val k (.int _)⟩
  · cases e
theorem foldl_max_mem : ∀ (ns : List Int) (n : Int), ns.foldl max n ∈ n :: ns ∧ ∀ y ∈ n :: ns, y ≤ ns.foldl max n
  | [], n => by simp
  | m :: ns, n => by
    obtain ⟨h1, h2⟩ := foldl_max_mem ns (max n m)
    simp only [List.foldl_cons]
    refine ⟨?_, fun y hy => ?_⟩
    · rcases List.mem_cons.mp h1 with h | h
      · rw [h]
        by_cases q : n ≤ m
        · rw [Int.max_eq_right q]; simp
        · rw [Int.max_eq_left (by omega)]; simp
      · simp [h]
    · have h3 := h2 (max n m) List.mem_cons_self
      rcases List.mem_cons.mp hy with h | h
      · subst h; omega
      · rcases List.mem_cons.mp h with h | h
        · subst h; omega
        · exact h2 y (List.mem_cons_of_mem _ h)
theorem foldl_min_mem : ∀ (ns : List Int) (n : Int), ns.foldl min n ∈ n :: ns ∧ ∀ y ∈ n :: ns, ns.foldl min n ≤ y
  | [], n => by simp
  | m :: ns, n => by
    obtain ⟨h1, h2⟩ := foldl_min_mem ns (min n m)
    simp only [List.foldl_cons]
    refine ⟨?_, fun y hy => ?_⟩
    · rcases List.mem_cons.mp h1 with h | h
      · rw [h]
        by_cases q : n ≤ m
        · rw [Int.min_eq_left q]; simp
        · rw [Int.min_eq_right (by omega)]; simp
      · simp [h]
    · have h3 := h2 (min n m) List.mem_cons_self
      rcases List.mem_cons.mp hy with h | h
      · subst h; omega
      · rcases List.mem_cons.mp h with h | h
        · subst h; omega
        · exact h2 y (List.mem_cons_of_mem _ h)
theorem u_max1 : U1R K (rMax K) max1D := by
  intro B F ρ s σ H x d w Q k l e p
  unfold max1D at e
  split at e
  · rename_i ds
    cases q : intsOf ds with
    | none => rw [q] at e; cases e
    | some bs =>
      rw [q] at e
      cases bs with
      | nil => cases e
      | cons n ns =>
        cases e
        obtain ⟨a, vs, rfl, sq, r⟩ := l.list
        have := ints_ok r q
        subst this
        obtain ⟨h1, h2⟩ := foldl_max_mem ns n
        refine ⟨a, n :: ns, rfl, sq, by simp, fun m hm hle => ?_⟩
        have : m = ns.foldl max n := Int.le_antisymm (h2 m hm) (hle _ h1)
        rw [this]
        exact p.val k (.int _)
  · cases e
theorem u_min1 : U1R K (rMin K) min1D := by
  intro B F ρ s σ H x d w Q k l e p
  unfold min1D at e
  split at e
  · rename_i ds
    cases q : intsOf ds with
    | none => rw [q] at e; cases e
    | some bs =>
      rw [q] at e
      cases bs with
      | nil => cases e
      | cons n ns =>
        cases e
        obtain ⟨a, vs, rfl, sq, r⟩ := l.list
        have := ints_ok r q
        subst this
        obtain ⟨h1, h2⟩ := foldl_min_mem ns n
        refine ⟨a, n :: ns, rfl, sq, by simp, fun m hm hle => ?_⟩
        have : m = ns.foldl min n := Int.le_antisymm (hle _ h1) (h2 m hm)
        rw [this]
        exact p.val k (.int _)
  · cases e
theorem u_tuple : U1R K (fun xs H Q => ∃ p ys, xs = [.ref p] ∧ ((SqL K H p ys ∧ ∀ l, H l = none → Q (.ref l) (upd H l (.tup ys))) ∨ (SqT K H p ys ∧ Q (.ref p) H))) tupleD := by
  intro B F ρ s σ H x d w Q k l e p
  unfold tupleD at e
  split at e
  · cases e
    obtain ⟨a, vs, rfl, sq, r⟩ := l.list
    exact ⟨a, vs, rfl, .inl ⟨sq, fun q hq => p.tup k r hq⟩⟩
  · cases e
    obtain ⟨a, vs, rfl, sq, r⟩ := l.tup
    exact ⟨a, vs, rfl, .inr ⟨sq, p.val k (.tup sq r)⟩⟩
  · cases e
theorem u_list : U1R K (fun xs H Q => ∃ p ys, xs = [.ref p] ∧ (SqL K H p ys ∨ SqT K H p ys) ∧ ∀ l, H l = none → Q (.ref l) (upd H l (.lst ys))) listD := by
  intro B F ρ s σ H x d w Q k l e p
  unfold listD at e
  split at e
  · cases e
    obtain ⟨a, vs, rfl, sq, r⟩ := l.list
    exact ⟨a, vs, rfl, .inl sq, fun q hq => p.own k r hq⟩
  · cases e
    obtain ⟨a, vs, rfl, sq, r⟩ := l.tup
    exact ⟨a, vs, rfl, .inr sq, fun q hq => p.own k r hq⟩
  · cases e
theorem u_max2 : U2R K (fun xs H Q => ∃ i j, xs = [.int i, .int j] ∧ Q (.int (if j > i then j else i)) H) max2D := by
  intro B F ρ s σ H x y d e w Q k l l' e' p
  unfold max2D at e'
  split at e'
  · cases e'
    obtain rfl := l.int
    obtain rfl := l'.int
    exact ⟨_, _, rfl, p.val k (.int _)⟩
  · cases e'
theorem u_min2 : U2R K (fun xs H Q => ∃ i j, xs = [.int i, .int j] ∧ Q (.int (if j < i then j else i)) H) min2D := by
  intro B F ρ s σ H x y d e w Q k l l' e' p
  unfold min2D at e'
  split at e'
  · cases e'
    obtain rfl := l.int
    obtain rfl := l'.int
    exact ⟨_, _, rfl, p.val k (.int _)⟩
  · cases e'
theorem u_gcd : U2R K rGcd gcdD := by
  intro B F ρ s σ H x y d e w Q k l l' e' p
  unfold gcdD at e'
  split at e'
  · cases e'
    obtain rfl := l.int
    obtain rfl := l'.int
    exact ⟨_, _, rfl, p.val k (.int _)⟩
  · cases e'
theorem u_divmod : U2R K (fun xs H Q => ∃ i j, xs = [.int i, .int j] ∧ CDiv i j ∧ ∀ p, H p = none → Q (.ref p) (upd H p (.tup [.int (i / j), .int (i % j)]))) divmodD := by
  intro B F ρ s σ H x y d e w Q k l l' e' p
  unfold divmodD at e'
  split at e'
  · split at e'
    · rename_i hz
      cases e'
      obtain rfl := l.int
      obtain rfl := l'.int
      exact ⟨_, _, rfl, hz, fun q hq => p.tup k (.cons (.int _) (.cons (.int _) .nil)) hq⟩
    · cases e'
  · cases e'
end
/-! ### isinstance, of built-in types -/
def typeN : D → String
  | .none => "NoneType"
  | .bool _ => "bool"
  | .int _ => "int"
  | .str _ => "str"
  | .list _ => "list"
  | .tuple _ => "tuple"
  | .dict _ => "dict"
def isi1 (T : String) (d : D) : Option W := match d with
  | .dict _ => none
  | d => (kitB (typeN d) T).map fun b => .val (.bool b)
def isiAny (t : String) : List String → Option Bool
  | [] => some false
  | T :: r => (kitB t T).bind fun b => if b then some true else isiAny t r
def isiT (Ts : List String) (d : D) : Option W := match d with
  | .dict _ => none
  | d => (isiAny (typeN d) Ts).map fun b => .val (.bool b)
theorem tyx_ok {K : PySem.W.Frag} {F : Fz} {H : Hp} {v : V} {d : D} (l : Lk K F H v d) : TyX K H v (.type (typeN d)) := by
  cases d with
  | none => obtain rfl := l.none; exact .base .non
  | bool b => obtain rfl := l.bool; exact .base (.bl _)
  | int i => obtain rfl := l.int; exact .base (.int _)
  | str z => obtain rfl := l.str; exact .base (.str _)
  | list ds =>
    obtain ⟨a, vs, rfl, sq, r⟩ := l.list
    rcases sq with (h | ⟨o, h⟩) | ⟨o, its, n, h1, h2, _⟩
    · exact .base (.lst h)
    · exact .base (.frz h)
    · exact .kList h1 h2
  | tuple ds =>
    obtain ⟨a, vs, rfl, sq, r⟩ := l.tup
    rcases sq with (h | ⟨o, h⟩) | ⟨o, its, n, h1, h2, _⟩
    · exact .base (.tup h)
    · exact .fTuple h
    · exact .kTuple h1 h2
  | dict l' => exact l.nodict.elim
section
variable {X : Cx} {Wx : WX} {pos p p2 : Pos} {a b e : Expr} {m m1 m2 : M W} {x : Str}
theorem i_isi {T : String} {y : Str} (ha : DE X Wx e m) (hm : X.mg "isinstance" = none) (hm2 : X.mg y = none) (hv2 : bootBuiltins y = some (.type T) := by decide +kernel) (hg : Gl X "isinstance" := by rfl) (hg2 : Gl X y := by rfl) (hn2 : y ≠ "__name__" := by decide) (hdb2 : (y == ("__debug__" : Str)) = false := by decide)
    (hs : starEach [e, .Name y p2] X.env = (false, eval e X.env) :: starEach [.Name y p2] X.env := by rfl) (hs2 : starEach [.Name y p2] X.env = (false, eval (.Name y p2) X.env) :: starEach [] X.env := by rfl) (hpl : (backTo pos (starEach [.Name y p2] X.env)).any (·.1) = false := by rfl) :
    DE X Wx (.Call (.Name "isinstance" p) [e, .Name y p2] [] pos) (op1 (isi1 T) m) :=
  pe_mono (pe_callB call_isi hg hm (by decide +kernel) (pa_cons ha (pa_cons (pe_bltn (v := .ty T) hg2 hm2 hv2 rfl hn2 hdb2) pa_nil hs2) hs) (by decide) (by decide) hs hpl) fun σ H Q h =>
    em_un (P := fun x H1 => rIsi X.K [x, .ty T] H1 Q) (fun {B F ρ s H _ _} k o h => by
      obtain ⟨d1, e1, h⟩ := Run.look h
      obtain ⟨w, e3, h⟩ := Run.ofO h
      have l := (content_ok k o e1).1
      have e4 : (kitB (typeN d1) T).map (fun b => W.val (.bool b)) = some w := by
        unfold isi1 at e3
        split at e3
        · cases e3
        · exact e3
      cases q : kitB (typeN d1) T with
      | none => rw [q] at e4; cases e4
      | some b =>
        rw [q] at e4
        cases e4
        exact ⟨_, _, _, _, b, rfl, .ty T, tyx_ok l, kit_ty q, h.val k (.bl b)⟩) h
theorem isiAny_ok {K : PySem.W.Frag} {t : String} : ∀ {Ts : List String} {b : Bool}, isiAny t Ts = some b → PySem.W.kitAny K (.type t) (Ts.map Value.type) = some b
  | [], b, e => by cases e; exact kitAny_nil
  | T :: r, b, e => by
    have e' : (kitB t T).bind (fun b => if b then some true else isiAny t r) = some b := e
    cases q : kitB t T with
    | none => rw [q] at e'; cases e'
    | some c =>
      rw [q] at e'
      refine kitAny_cons (kit_ty q) (fun hc => ?_) (fun hc => ?_)
      · subst hc
        exact isiAny_ok e'
      · subst hc
        cases e'
        rfl
theorem clsv_all : ∀ Ts : List String, Paired ClsV (Ts.map V.ty) (Ts.map Value.type)
  | [] => .nil
  | T :: r => .cons (.ty T) (clsv_all r)
/-- the names of built-in types, one by one -/
inductive TyNames (X : Cx) : List Expr → List String → Prop
  | nil : TyNames X [] []
  | cons {y : Str} {p : Pos} {T : String} {es : List Expr} {Ts : List String} (hm : X.mg y = none) (hv : bootBuiltins y = some (.type T)) (hg : Gl X y) (hn : y ≠ "__name__") (hdb : (y == ("__debug__" : Str)) = false)
      (hs : starEach (.Name y p :: es) X.env = (false, eval (.Name y p) X.env) :: starEach es X.env) : TyNames X es Ts → TyNames X (.Name y p :: es) (T :: Ts)
theorem tyNames_pa {es : List Expr} {Ts : List String} (h : TyNames X es Ts) : PA X es (fun _ H Q => Q (Ts.map V.ty) H) := by
  induction h with
  | nil => exact pa_nil
  | cons hm hv hg hn hdb hs _ ih => exact pa_mono (pa_cons (pe_bltn (v := .ty _) hg hm hv rfl hn hdb) ih hs) fun σ H Q q => q
theorem i_isiT {es : List Expr} {Ts : List String} {x1 : Nat} (ha : DE X Wx e m) (hm : X.mg "isinstance" = none) (ht : TyNames X es Ts) (hz : Ts.length ≤ 1000 := by decide) (hg : Gl X "isinstance" := by rfl)
    (hs : starEach [e, .Tuple es x1 p2] X.env = (false, eval e X.env) :: starEach [.Tuple es x1 p2] X.env := by rfl) (hs2 : starEach [.Tuple es x1 p2] X.env = (false, eval (.Tuple es x1 p2) X.env) :: starEach [] X.env := by rfl) (hpl : (backTo pos (starEach [.Tuple es x1 p2] X.env)).any (·.1) = false := by rfl) :
    DE X Wx (.Call (.Name "isinstance" p) [e, .Tuple es x1 p2] [] pos) (op1 (isiT Ts) m) :=
  pe_mono (pe_callB call_isiT hg hm (by decide +kernel) (pa_cons ha (pa_cons (pe_tup (tyNames_pa ht)) pa_nil hs2) hs) (by decide) (by decide) hs hpl) fun σ H Q h =>
    em_un (P := fun x H1 => (Ts.map V.ty).length ≤ sizeLine ∧ ∀ q, H1 q = none → rIsiT X.K [x, .ref q] (upd H1 q (.tup (Ts.map V.ty))) Q) (fun {B F ρ s H x w} k o h => by
      obtain ⟨d1, e1, h⟩ := Run.look h
      obtain ⟨w, e3, h⟩ := Run.ofO h
      have l := (content_ok k o e1).1
      have e4 : (isiAny (typeN d1) Ts).map (fun b => W.val (.bool b)) = some w := by
        unfold isiT at e3
        split at e3
        · cases e3
        · exact e3
      refine ⟨by rw [List.length_map, sizeLine_eq]; omega, fun q hq => ?_⟩
      cases qa : isiAny (typeN d1) Ts with
      | none => rw [qa] at e4; cases e4
      | some b =>
        rw [qa] at e4
        cases e4
        have l2 := (content_ok (k.new (o := .tup (Ts.map V.ty)) hq) (o.mono k (Ext.new_ hq)) e1).1
        exact ⟨_, q, _, _, _, b, rfl, upd_same, clsv_all Ts, tyx_ok l2, isiAny_ok qa, h F ρ _ _ (Ext.new_ hq) (k.new hq) (.bl b) trivial⟩) h
end
end Z
/-! Z, part 10: what is gone through: range, enumerate, zip. -/
namespace Z
open PySem PySem.Spec PyProof.Rows L2

/-! ### lists and tuples alike -/
def SqB (K : PySem.W.Frag) (H : Hp) (t : Bool) (a : Addr) (xs : List V) : Prop := match t with
  | true => SqT K H a xs
  | false => SqL K H a xs
def ItB (h : Heap) (t : Bool) (it a : Addr) (i : Nat) : Prop := match t with
  | true => h.IsTupleIter it a i
  | false => h.IsListIter it a i
def HasB (h : Heap) (t : Bool) (a : Addr) (its : Array Value) : Prop := match t with
  | true => h.IsTuple a its
  | false => h.IsList a its
def objB (t : Bool) (a : Addr) : Obj := match t with
  | true => { cls := .type "tuple_iterator", data := .fields #[.ref a, .int 0 0] }
  | false => { cls := .type "list_iterator", data := .fields #[.ref a, .int 0 0] }
section
variable {X : Cx} {pins : List (Addr × Obj)} {σ : Sg} {H : Hp} {s : Shared} {t : Bool} {a it : Addr} {xs ys : List V} {h h' : Heap} {i : Nat} {its : Array Value}
theorem inv_seq (I : Inv X pins σ H s) (q : SqB X.K H t a xs) : ∃ its : List Value, Vals xs its ∧ HasB s.heap t a its.toArray := by
  cases t with
  | true => obtain ⟨its, rv, p, _⟩ := I.tuple q; exact ⟨its, rv, p⟩
  | false => obtain ⟨its, rv, p, _⟩ := I.list q; exact ⟨its, rv, p.isList⟩
theorem inv_inj (I : Inv X pins σ H s) (q : SqB X.K H t a xs) (q' : SqB X.K H t a ys) : xs = ys := by
  cases t with
  | true => exact I.tuple_inj q q'
  | false => exact I.list_inj q q'
theorem HasB.lt (q : HasB h t a its) : a < h.objs.size := by
  cases t with
  | true => obtain ⟨_, e, _⟩ := (show h.IsTuple a its from q); exact Heap.lt_size e
  | false => obtain ⟨_, e, _⟩ := (show h.IsList a its from q); exact Heap.lt_size e
theorem ItB.get (q : ItB h t it a i) : ∃ o, h.get? it = some o ∧ ∀ v, o.data ≠ .cell v := by
  cases t with
  | true => obtain ⟨o, e, _, d⟩ := (show h.IsTupleIter it a i from q); exact ⟨o, e, fun v z => by rw [d] at z; cases z⟩
  | false => obtain ⟨o, e, _, d⟩ := (show h.IsListIter it a i from q); exact ⟨o, e, fun v z => by rw [d] at z; cases z⟩
theorem ItB.at_ (q : ItB h t it a i) (k : ∀ o, h.get? it = some o → h'.get? it = some o) : ItB h' t it a i := by
  cases t with
  | true => obtain ⟨o, e, r⟩ := (show h.IsTupleIter it a i from q); exact ⟨o, k o e, r⟩
  | false => obtain ⟨o, e, r⟩ := (show h.IsListIter it a i from q); exact ⟨o, k o e, r⟩
theorem draws_b {prog : Program} {w : World} {A : Around} (hh : A.handled = none) (hne : a ≠ it) (items : Array Value) :
    Draws prog w A it [it, a] items.size (fun i v => items[i]? = some v) (fun i h => ItB h t it a i ∧ HasB h t a items) := by
  cases t with
  | true => exact Draws.tuple hh it a hne items
  | false => exact Draws.list hh it a hne items
theorem begins_b (items : Array Value) : Begins (.ref a) (objB t a) fun h => HasB h t a items := by
  cases t with
  | true => exact begins_tuple a items
  | false => exact begins_list a items
theorem itB_new (e : h.get? it = some (objB t a)) : ItB h t it a 0 := by
  cases t with
  | true => exact ⟨_, e, rfl, rfl⟩
  | false => exact ⟨_, e, rfl, rfl⟩
end

/-! ### zip -/
def ItzB (K : PySem.W.Frag) (t u : Bool) (a b : Addr) : It :=
  ⟨fun i H => ∃ (xs ys : List V) (x y : V), SqB K H t a xs ∧ SqB K H u b ys ∧ xs[i]? = some x ∧ ys[i]? = some y,
    fun i H v H' => ∃ T x y, v = .ref T ∧ H T = none ∧ H' = upd H T (.tup [x, y]) ∧ (∀ xs, SqB K H t a xs → xs[i]? = some x) ∧ ∀ ys, SqB K H u b ys → ys[i]? = some y,
    fun i H => ∃ xs ys : List V, SqB K H t a xs ∧ SqB K H u b ys ∧ i = min xs.length ys.length⟩
theorem turn_zipB {P : Program} {w : World} {K : PySem.W.Frag} {elts : List Expr} {kk : Nat} {tpos : Pos} {t u : Bool} {a b z TI TO i1 i2 : Addr} (D : ZipSep2 z TI TO i1 i2 [i1, a] [i2, b]) (ha : a ≠ i1) (hb : b ≠ i2) :
    Turn P w K (.Tuple elts kk tpos) (ItzB K t u a b) [z, TI, TO, i1, i2] z (fun i h => IsZip h z TI TO .none ∧ IsTupOf2 h TI (.ref i1) (.ref i2) ∧ (∃ x y, IsTupOf2 h TO x y) ∧ ItB h t i1 a i ∧ ItB h u i2 b i) where
  mem := by simp
  obj := fun i h st c hc => by
    obtain ⟨hz, hTI, ⟨x, y, hTO⟩, g1, g2⟩ := st
    have e' : c = z ∨ c = TI ∨ c = TO ∨ c = i1 ∨ c = i2 := by simpa using hc
    rcases e' with q | q | q | q | q
    · rw [q]; exact ⟨_, hz, fun v q => nomatch q⟩
    · rw [q]; exact ⟨_, hTI, fun v q => nomatch q⟩
    · rw [q]; exact ⟨_, hTO, fun v q => nomatch q⟩
    · rw [q]; exact g1.get
    · rw [q]; exact g2.get
  keep := fun i h h' st k => by
    obtain ⟨hz, hTI, ⟨x, y, hTO⟩, h1, h2⟩ := st
    exact ⟨k z (by simp) _ hz, k TI (by simp) _ hTI, ⟨x, y, k TO (by simp) _ hTO⟩, h1.at_ fun o q => k i1 (by simp) o q, h2.at_ fun o q => k i2 (by simp) o q⟩
  item := by
    intro X hP hw hK hc i pins s σ H E I hf st hg
    subst hP hw hK
    obtain ⟨hz, hTI, hTO, h1, h2⟩ := st
    obtain ⟨xs, ys, x, y, hqx, hqy, hx, hy⟩ := hg
    obtain ⟨its, rv, p⟩ := inv_seq I hqx
    obtain ⟨its2, rv2, p2⟩ := inv_seq I hqy
    obtain ⟨v1, hu, ru⟩ := rv.get hx
    obtain ⟨v2, hu2, ru2⟩ := rv2.get hy
    have l1 := rv.length
    have l2 := rv2.length
    have hi : i < min its.toArray.size its2.toArray.size := by
      have := (List.getElem?_eq_some_iff.mp hu).1
      have := (List.getElem?_eq_some_iff.mp hu2).1
      simp
      omega
    have G := GoesN.zip2 (prog := X.prog) (w := X.w) (A := X.A) (elts := elts) (x1 := kk) (pos := tpos) D (draws_b (t := t) (A := X.A.in1) (I.ok.hd hc) ha its.toArray) (draws_b (t := u) (A := X.A.in1) (I.ok.hd hc) hb its2.toArray)
    refine G.goes i s (fun u s2 => ∃ x H', Inv X pins σ H' s2 ∧ RelV x u ∧ (ItzB X.K t _ a b).yld i H x H' ∧ _ ∧ ∀ b ∈ [z, TI, TO, i1, i2], H' b = none) E hi ⟨hz, hTI, hTO, ⟨h1, p⟩, ⟨h2, p2⟩⟩ fun v h' tk hY st' hk htk => ?_
    obtain ⟨T, w1, w2, rfl, hnew, e1, e2, hT⟩ := hY
    obtain ⟨z', TI', TO', ⟨g1, _⟩, ⟨g2, _⟩⟩ := st'
    have q1 : w1 = v1 := Option.some.inj (e1.symm.trans (by simpa using hu))
    have q2 : w2 = v2 := Option.some.inj (e2.symm.trans (by simpa using hu2))
    subst q1 q2
    have new : ObjOk X.prog X.w (upd H T (.tup [x, y])) h' T (.tup [x, y]) := ⟨by show 2 ≤ sizeLine; decide, [w1, w2], .cons ru (.cons ru2 .nil), hT⟩
    have hsub : ∀ c, c ∈ [z, TO, i1, i2] → c ∈ [z, TI, TO, i1, i2] := fun c hc => by simp at hc ⊢; rcases hc with q | q | q | q <;> simp [q]
    have I1 : Inv X pins σ (upd H T (.tup [x, y])) { s with heap := h', toks := tk } :=
      I.turnedNew (ch := [z, TO, i1, i2]) (fun c o hb q => hk c o hb q) (fun c hc => hf c (hsub c hc)) hnew new
    have hlt : ∀ c ∈ [z, TI, TO, i1, i2], c < s.heap.objs.size := fun c hc => by
      have e' : c = z ∨ c = TI ∨ c = TO ∨ c = i1 ∨ c = i2 := by simpa using hc
      rcases e' with q | q | q | q | q
      · rw [q]; exact Heap.lt_size hz
      · rw [q]; exact Heap.lt_size hTI
      · rw [q]; obtain ⟨_, _, e⟩ := hTO; exact Heap.lt_size e
      · rw [q]; obtain ⟨_, e, _⟩ := h1.get; exact Heap.lt_size e
      · rw [q]; obtain ⟨_, e, _⟩ := h2.get; exact Heap.lt_size e
    refine ⟨.ref T, _, I1, rfl, ⟨T, x, y, rfl, I.hok.fresh hnew, rfl, fun l hl => by rw [inv_inj I hl hqx]; exact hx, fun l hl => by rw [inv_inj I hl hqy]; exact hy⟩, ⟨z', TI', TO', g1, g2⟩, fun c hcm => ?_⟩
    have : c ≠ T := fun q => absurd (hlt c hcm) (by rw [q]; exact Nat.not_lt.mpr hnew)
    rw [upd_ne this]
    exact (hf c hcm).1
  done := by
    intro X hP hw hK hc i pins s σ H E I hf st hg
    subst hP hw hK
    obtain ⟨hz, hTI, hTO, h1, h2⟩ := st
    obtain ⟨xs, ys, hqx, hqy, hend⟩ := hg
    obtain ⟨its, rv, p⟩ := inv_seq I hqx
    obtain ⟨its2, rv2, p2⟩ := inv_seq I hqy
    have l1 := rv.length
    have l2 := rv2.length
    have hi : i = min its.toArray.size its2.toArray.size := by
      simp
      omega
    have G := GoesN.zip2 (prog := X.prog) (w := X.w) (A := X.A) (elts := elts) (x1 := kk) (pos := tpos) D (draws_b (t := t) (A := X.A.in1) (I.ok.hd hc) ha its.toArray) (draws_b (t := u) (A := X.A.in1) (I.ok.hd hc) hb its2.toArray)
    have hsub : ∀ c, c ∈ [z, TO, i1, i2] → c ∈ [z, TI, TO, i1, i2] := fun c hc => by simp at hc ⊢; rcases hc with q | q | q | q <;> simp [q]
    refine G.stops s _ E ?_ fun h' tk hk htk => I.turnedL (t' := tk) (ch := [z, TO, i1, i2]) (fun c o hb q => hk c o hb q) fun c hc => hf c (hsub c hc)
    rw [← hi]
    exact ⟨hz, hTI, hTO, ⟨h1, p⟩, ⟨h2, p2⟩⟩
  self := fun A i s Q E st h => wpAny_pyIter_zip st.1 h
def iZipB (K : PySem.W.Frag) (ta : TA) : TI := fun σ H R => ta σ H fun vs H1 => ∃ a b t u xs ys, vs = [.ref a, .ref b] ∧ SqB K H1 t a xs ∧ SqB K H1 u b ys ∧ R (ItzB K t u a b) H1
theorem pi_zipB {X : Cx} {e e2 : Expr} {ta : TA} {p pos tpos : Pos} {elts : List Expr} {kk : Nat} (hg : Gl X "zip") (hm : X.mg "zip" = none) (ha : PA X [e, e2] ta)
    (hs : starEach [e, e2] X.env = (false, eval e X.env) :: starEach [e2] X.env := by rfl) (hpl : (backTo pos (starEach [e2] X.env)).any (·.1) = false := by rfl) :
    PI X (.Tuple elts kk tpos) (.Call (.Name "zip" p) [e, e2] [] pos) (iZipB X.K ta) := by
  refine ⟨fun pins s σ H R I h => ?_⟩
  refine Call_ (ld_blt I hg hm PyProof.Rows.boot_zip (PyProof.Rows.callWith_type1 (thn (ha.run pos pins s σ H _ I h) fun us s1 ⟨vs, H1, I1, r1, q1⟩ => ?_) hs hpl))
  obtain ⟨a, b, t, u, xs, ys, ex, hqx, hqy, q⟩ := q1
  subst ex
  cases r1 with
  | cons r rr =>
    cases rr with
    | cons r' rr =>
      cases rr
      cases r
      cases r'
      obtain ⟨its, rv, p1⟩ := inv_seq I1 hqx
      obtain ⟨its2, rv2, p2⟩ := inv_seq I1 hqy
      have la := p1.lt
      have lb := p2.lt
      refine zip_begins2 (begins_b its.toArray) (begins_b its2.toArray) p1 p2 fun h' hz hTI hTO g1 g2 hsz hk => wpAny_pyIter_zip hz ?_
      have I2 : Inv X pins σ H1 { s1 with heap := h' } := I1.kept (t' := s1.toks) hk
      have la' : a ≠ s1.heap.objs.size := Nat.ne_of_lt la
      have lb' : b ≠ s1.heap.objs.size + 1 := Nat.ne_of_lt (Nat.lt_succ_of_lt lb)
      refine ⟨s1.heap.objs.size + 4, [s1.heap.objs.size + 4, s1.heap.objs.size + 2, s1.heap.objs.size + 3, s1.heap.objs.size, s1.heap.objs.size + 1], _, _, H1, rfl, I2,
        turn_zipB (zip_sep2 (fun c hc => by simp at hc; rw [hc]; exact la) (fun c hc => by simp at hc; rw [hc]; exact lb)) la' lb', ⟨hz, hTI, ⟨_, _, hTO⟩, itB_new g1, itB_new g2⟩, fun c hcm => ?_, q⟩
      have e' : c = s1.heap.objs.size + 4 ∨ c = s1.heap.objs.size + 2 ∨ c = s1.heap.objs.size + 3 ∨ c = s1.heap.objs.size ∨ c = s1.heap.objs.size + 1 := by simpa using hcm
      have hle : s1.heap.objs.size ≤ c := by
        rcases e' with z | z | z | z | z
        · rw [z]; exact Nat.le_add_right _ _
        · rw [z]; exact Nat.le_add_right _ _
        · rw [z]; exact Nat.le_add_right _ _
        · rw [z]; exact Nat.le_refl _
        · rw [z]; exact Nat.le_add_right _ _
      exact I1.fpOk hle (I1.hok.fresh hle)
theorem walk_zipB {K : PySem.W.Frag} {t u : Bool} {a b : Addr} {xs ys : List V} {n : Nat} (hn : n = min xs.length ys.length) (hinj : ∀ H zs, SqB K H t a xs → SqB K H t a zs → True) :
    Walk (ItzB K t u a b) n (fun H => SqB K H t a xs ∧ SqB K H u b ys) (YPair (fun i => xs[i]?) (fun i => ys[i]?)) := by
  subst hn
  refine ⟨fun i _ hi q => ?_, fun _ q => ⟨xs, ys, q.1, q.2, rfl⟩, fun i H v H' _ q y => ?_⟩
  · have h1 : i < xs.length := by omega
    have h2 : i < ys.length := by omega
    exact ⟨xs, ys, xs[i], ys[i], q.1, q.2, by simp [h1], by simp [h2]⟩
  · obtain ⟨T, x, z, h1, h2, h3, h4, h5⟩ := y
    exact ⟨T, x, z, h1, h2, h3, h4 xs q.1, h5 ys q.2⟩
end Z
/-! Z, part 11: enumerate; the sources as readings. -/
namespace Z
open PySem PySem.Spec PyProof.Rows L2

/-! ### enumerate over a list or a tuple, from a start -/
def IteB (K : PySem.W.Frag) (t : Bool) (a : Addr) (k : Int) : It :=
  ⟨fun i H => ∃ (xs : List V) (x : V), SqB K H t a xs ∧ xs[i]? = some x, fun i H v H' => ∃ T x, v = .ref T ∧ H T = none ∧ H' = upd H T (.tup [.int (k + (i : Nat)), x]) ∧ ∀ xs, SqB K H t a xs → xs[i]? = some x,
    fun i H => ∃ xs : List V, SqB K H t a xs ∧ i = xs.length⟩
theorem turn_enumB {P : Program} {w : World} {K : PySem.W.Frag} {elts : List Expr} {kk : Nat} {tpos : Pos} {t : Bool} {k0 : Int} {a e it : Addr} (hne : e ≠ it) (ha : a ≠ it) (hea : e ≠ a) :
    Turn P w K (.Tuple elts kk tpos) (IteB K t a k0) [e, it] e (fun i h => (∃ old, IsEnum h e it (k0 + ((i : Nat) : Int)) old) ∧ ItB h t it a i) where
  mem := by simp
  obj := fun i h st b hb => by
    obtain ⟨⟨old, he⟩, g⟩ := st
    have e' : b = e ∨ b = it := by simpa using hb
    rcases e' with z | z
    · rw [z]; exact ⟨_, he, fun v q => nomatch q⟩
    · rw [z]; exact g.get
  keep := fun i h h' st k => let ⟨⟨old, he⟩, hi⟩ := st; ⟨⟨old, k e (by simp) _ he⟩, hi.at_ fun o q => k it (by simp) o q⟩
  item := by
    intro X hP hw hK hc i pins s σ H E I hf st hg
    subst hP hw hK
    obtain ⟨he, h1⟩ := st
    obtain ⟨xs, x, hqx, hx⟩ := hg
    obtain ⟨its, rv, p⟩ := inv_seq I hqx
    obtain ⟨v1, hu, ru⟩ := rv.get hx
    have l1 := rv.length
    have hi : i < its.toArray.size := by
      have := (List.getElem?_eq_some_iff.mp hu).1
      simpa using this
    have G := GoesN.enumFrom (prog := X.prog) (w := X.w) (A := X.A) (elts := elts) (x1 := kk) (pos := tpos) k0 (draws_b (t := t) (A := X.A.in1) (I.ok.hd hc) ha its.toArray) e hne (by simp [hne, hea]) (by simp)
    refine G.goes i s (fun u s2 => ∃ x H', Inv X pins σ H' s2 ∧ RelV x u ∧ (IteB X.K t a k0).yld i H x H' ∧ _ ∧ ∀ b ∈ [e, it], H' b = none) E hi ⟨he, ⟨h1, p⟩⟩ fun v h' tk hY st' hk htk => ?_
    obtain ⟨T, tt, w1, rfl, hnew, e1, hT⟩ := hY
    obtain ⟨z', ⟨g1, _⟩⟩ := st'
    have q1 : w1 = v1 := Option.some.inj (e1.symm.trans (by simpa using hu))
    subst q1
    have new : ObjOk X.prog X.w (upd H T (.tup [.int (k0 + (i : Nat)), x])) h' T (.tup [.int (k0 + (i : Nat)), x]) := ⟨by show 2 ≤ sizeLine; decide, [.int (k0 + (i : Int)) tt, w1], .cons ⟨_, rfl⟩ (.cons ru .nil), hT⟩
    have I1 : Inv X pins σ (upd H T (.tup [.int (k0 + (i : Nat)), x])) { s with heap := h', toks := tk } :=
      I.turnedNew (ch := [e, it]) (fun c o hb q => hk c o hb q) (fun c hc => hf c hc) hnew new
    have hlt : ∀ c ∈ [e, it], c < s.heap.objs.size := fun c hc => by
      have e' : c = e ∨ c = it := by simpa using hc
      rcases e' with q | q
      · rw [q]; obtain ⟨_, e⟩ := he; exact Heap.lt_size e
      · rw [q]; obtain ⟨_, e, _⟩ := h1.get; exact Heap.lt_size e
    refine ⟨.ref T, _, I1, rfl, ⟨T, x, rfl, I.hok.fresh hnew, rfl, fun l hl => by rw [inv_inj I hl hqx]; exact hx⟩, ⟨z', g1⟩, fun c hcm => ?_⟩
    have : c ≠ T := fun q => absurd (hlt c hcm) (by rw [q]; exact Nat.not_lt.mpr hnew)
    rw [upd_ne this]
    exact (hf c hcm).1
  done := by
    intro X hP hw hK hc i pins s σ H E I hf st hg
    subst hP hw hK
    obtain ⟨he, h1⟩ := st
    obtain ⟨xs, hqx, hend⟩ := hg
    obtain ⟨its, rv, p⟩ := inv_seq I hqx
    have l1 := rv.length
    have hi : i = its.toArray.size := by
      simp
      omega
    have G := GoesN.enumFrom (prog := X.prog) (w := X.w) (A := X.A) (elts := elts) (x1 := kk) (pos := tpos) k0 (draws_b (t := t) (A := X.A.in1) (I.ok.hd hc) ha its.toArray) e hne (by simp [hne, hea]) (by simp)
    refine G.stops s _ E ?_ fun h' tk hk htk => I.turnedL (t' := tk) (ch := [e, it]) (fun c o hb q => hk c o hb q) fun c hc => hf c hc
    rw [← hi]
    exact ⟨he, ⟨h1, p⟩⟩
  self := fun A i s Q E st h => let ⟨⟨_, he⟩, _⟩ := st; wpAny_pyIter_enum he h
set_option maxHeartbeats 1000000 in
theorem meets_enumerate_new1 {v : Value} {o : Obj} {H : Heap → Prop} (B : Begins v o H) :
    Meets (Builtin.«enumerate.__new__» ⟨[.type "enumerate", v], []⟩) (fun _ R s => H s.heap ∧
      R (.ok (.ret (.ref (s.heap.push o).objs.size))) { s with heap := (s.heap.push o).push { cls := .type "enumerate", data := .fields #[.none, .bool false, .ref s.heap.objs.size, rawInt 0, .none, .none] } }) :=
  .of_wp fun prog w A R s h => by
    obtain ⟨hp, g, d, tk, os⟩ := s; obtain ⟨h1, h⟩ := h
    have hsub := sub_enumerate
    have q1 : ∀ {A' : Around} {E : Value → Shared → Prop} {Q : Value → Shared → Prop}, Q (.ref hp.objs.size) ⟨hp.push o, g, d, tk, os⟩ → wpAny (model prog w) A' (pyIter v) Q E ⟨hp, g, d, tk, os⟩ :=
      fun q => B.iter prog w _ _ ⟨hp, g, d, tk, os⟩ _ h1 q
    wp_walk using q1
    refine wpAny_stack_any fun st => wpAny_pure ?_
    split
    · rename_i c _ _ _ _ _
      cases (c == Value.type "enumerate")
      · wp_walk using q1
        exact ⟨_, rfl, h⟩
      · wp_walk using q1
        exact ⟨_, rfl, h⟩
    · wp_walk using q1
      exact ⟨_, rfl, h⟩
theorem enum_begins1 {prog : Program} {w : World} {A : Around} {E : Value → Shared → Prop} {s : Shared} {v : Value} {o : Obj} {H : Heap → Prop} {Q : Value → Shared → Prop} (B : Begins v o H) (h1 : H s.heap)
    (h : ∀ h', IsEnum h' (s.heap.objs.size + 1) s.heap.objs.size 0 .none → h'.get? s.heap.objs.size = some o → h'.objs.size = s.heap.objs.size + 2 →
      (∀ b o, s.heap.get? b = some o → h'.get? b = some o) → Q (.ref (s.heap.objs.size + 1)) { s with heap := h' }) :
    wpAny (model prog w) A (call (.type "enumerate") [v]) Q E s := by
  refine callType_new F.called_enumerate (by decide) (F.typeCall_enumerate_1 _) (F.newCall_enumerate_1 _) (fun obj => F.args_object_init_2 obj _) F.entry_enumerate_new
    (meets_enumerate_new1 B) ⟨h1, ?_⟩
  have hz : (s.heap.push o).objs.size = s.heap.objs.size + 1 := Heap.size_push ..
  show _ ∧ _
  rw [hz]
  have he : IsEnum ((s.heap.push o).push { cls := .type "enumerate", data := .fields #[.none, .bool false, .ref s.heap.objs.size, rawInt 0, .none, .none] }) (s.heap.objs.size + 1) s.heap.objs.size 0 .none := by
    have := Heap.get?_push_size (s.heap.push o) (o := { cls := .type "enumerate", data := .fields #[.none, .bool false, .ref s.heap.objs.size, rawInt 0, .none, .none] }) rfl
    rw [hz] at this; exact this
  refine ⟨⟨_, he, rfl⟩, h _ he (Heap.get?_push_of_some _ (Heap.get?_push_size _ B.free)) (by rw [Heap.size_push, hz]) fun b o x => Heap.get?_push_of_some _ (Heap.get?_push_of_some _ x)⟩
def iEnumB (K : PySem.W.Frag) (ta : TA) : TI := fun σ H R => ta σ H fun vs H1 => ∃ a t xs, vs = [.ref a] ∧ SqB K H1 t a xs ∧ R (IteB K t a 0) H1
def iEnumB2 (K : PySem.W.Frag) (ta : TA) : TI := fun σ H R => ta σ H fun vs H1 => ∃ a t xs k, vs = [.ref a, .int k] ∧ SqB K H1 t a xs ∧ -(2 ^ 63) ≤ k ∧ k < 2 ^ 63 ∧ R (IteB K t a k) H1
section
variable {X : Cx} {e e2 : Expr} {ta : TA} {p pos tpos : Pos} {elts : List Expr} {kk : Nat}
theorem enum_pie {pins : List (Addr × Obj)} {σ : Sg} {H : Hp} {s : Shared} {R : It → Hp → Prop} {t : Bool} {a : Addr} {xs : List V} {k : Int} {E : Value → Shared → Prop} {h' : Heap} (I1 : Inv X pins σ H s) (hq : SqB X.K H t a xs) (q : R (IteB X.K t a k) H)
    (he : IsEnum h' (s.heap.objs.size + 1) s.heap.objs.size k .none) (g1 : h'.get? s.heap.objs.size = some (objB t a)) (hk : ∀ b o, s.heap.get? b = some o → h'.get? b = some o) (la : a < s.heap.objs.size) :
    wpAny (model X.prog X.w) X.A (pyIter (.ref (s.heap.objs.size + 1))) (PIE X pins σ (.Tuple elts kk tpos) R) E { s with heap := h' } := by
  refine wpAny_pyIter_enum he ?_
  have I2 : Inv X pins σ H { s with heap := h' } := I1.kept (t' := s.toks) hk
  refine ⟨s.heap.objs.size + 1, [s.heap.objs.size + 1, s.heap.objs.size], _, _, H, rfl, I2, turn_enumB (Nat.succ_ne_self _) (Nat.ne_of_lt la) (Nat.ne_of_gt (Nat.lt_succ_of_lt la)), ⟨⟨.none, ?_⟩, itB_new g1⟩, fun b hb => ?_, q⟩
  · have e1 : k + ((0 : Nat) : Int) = k := by simp
    rw [e1]; exact he
  · have e' : b = s.heap.objs.size + 1 ∨ b = s.heap.objs.size := by simpa using hb
    have hle : s.heap.objs.size ≤ b := by
      rcases e' with z | z
      · rw [z]; exact Nat.le_add_right _ _
      · rw [z]; exact Nat.le_refl _
    exact I1.fpOk hle (I1.hok.fresh hle)
theorem pi_enumB (hg : Gl X "enumerate") (hm : X.mg "enumerate" = none) (ha : PA X [e] ta) (hs : starEach [e] X.env = [(false, eval e X.env)] := by rfl) :
    PI X (.Tuple elts kk tpos) (.Call (.Name "enumerate" p) [e] [] pos) (iEnumB X.K ta) := by
  refine ⟨fun pins s σ H R I h => ?_⟩
  refine Call_ (ld_blt I hg hm boot_enumerate (PyProof.Rows.callWith_type1 (thn (ha.run pos pins s σ H _ I h) fun us s1 ⟨vs, H1, I1, r1, q1⟩ => ?_) hs rfl))
  obtain ⟨a, t, xs, ex, hq, q⟩ := q1
  subst ex
  cases r1 with
  | cons r rr =>
    cases rr
    cases r
    obtain ⟨its, rv, p'⟩ := inv_seq I1 hq
    exact enum_begins1 (begins_b its.toArray) p' fun h' he g1 hsz hk => enum_pie I1 hq q he g1 hk p'.lt
theorem pi_enumB2 (hg : Gl X "enumerate") (hm : X.mg "enumerate" = none) (ha : PA X [e, e2] ta) (hs : starEach [e, e2] X.env = (false, eval e X.env) :: starEach [e2] X.env := by rfl) (hpl : (backTo pos (starEach [e2] X.env)).any (·.1) = false := by rfl) :
    PI X (.Tuple elts kk tpos) (.Call (.Name "enumerate" p) [e, e2] [] pos) (iEnumB2 X.K ta) := by
  refine ⟨fun pins s σ H R I h => ?_⟩
  refine Call_ (ld_blt I hg hm boot_enumerate (PyProof.Rows.callWith_type1 (thn (ha.run pos pins s σ H _ I h) fun us s1 ⟨vs, H1, I1, r1, q1⟩ => ?_) hs hpl))
  obtain ⟨a, t, xs, k, ex, hq, hk0, hk1, q⟩ := q1
  subst ex
  cases r1 with
  | cons r rr =>
    cases rr with
    | cons r' rr =>
      cases rr
      cases r
      obtain ⟨tt, rfl⟩ := r'
      obtain ⟨its, rv, p'⟩ := inv_seq I1 hq
      exact enum_begins (begins_b its.toArray) p' hk0 hk1 fun h' he g1 hsz hk => enum_pie I1 hq q he g1 hk p'.lt
end
theorem walk_enumB {K : PySem.W.Frag} {t : Bool} {a : Addr} {k : Int} {xs : List V} : Walk (IteB K t a k) xs.length (fun H => SqB K H t a xs) (YPair (fun i => some (.int (k + (i : Nat)))) (fun i => xs[i]?)) := by
  refine ⟨fun i _ hi q => ⟨xs, xs[i], q, by simp [hi]⟩, fun _ q => ⟨xs, q, rfl⟩, fun i H v H' _ q y => ?_⟩
  obtain ⟨T, x, h1, h2, h3, h4⟩ := y
  exact ⟨T, .int (k + (i : Nat)), x, h1, h2, h3, rfl, h4 xs q⟩

/-! ### the readings -/
section
variable {K : PySem.W.Frag} {mg : Str → Option Value} {B : Base} {F : Fz} {ρ : List Addr} {s : S} {σ : Sg} {H : Hp} {v v2 : V} {w : W} {ds es : List D}
theorem seq_ok (k : Ok K B F ρ s σ H) (o : WOk K B F ρ s σ H v w) (e : itemsD w = some ds) : ∃ a t vs, v = .ref a ∧ RpAll K F H vs ds ∧ ∀ F2 H2, SX F H F2 H2 → SqB K H2 t a vs := by
  cases w with
  | val d =>
    have r : Rp K F H v d := o
    cases d with
    | list ys =>
      cases e
      cases r with
      | @lst a xs _ f e r => exact ⟨a, false, xs, rfl, r, fun F2 H2 x => SqL.of (x.stay a _ e (.inl f))⟩
    | tuple ys =>
      cases e
      cases r with
      | @tup a xs _ e r => exact ⟨a, true, xs, rfl, r, fun F2 H2 x => sqT_stay x.stay e⟩
    | _ => cases e
  | scr ns =>
    cases e
    obtain ⟨a, rfl, hs⟩ := o
    exact ⟨a, false, _, rfl, rp_ints ns, fun F2 H2 x => (hs.mono x.stay).sq⟩
  | _ => cases e
def pairs : List D → List D → List D
  | x :: xs, y :: ys => .tuple [x, y] :: pairs xs ys
  | _, _ => []
theorem pairs_length : ∀ xs ys : List D, (pairs xs ys).length = min xs.length ys.length
  | [], ys => by simp [pairs]
  | x :: xs, [] => by simp [pairs]
  | x :: xs, y :: ys => by
    have := pairs_length xs ys
    simp only [pairs, List.length_cons, this]
    omega
theorem pairs_get : ∀ (xs ys : List D) (i : Nat) (d : D), (pairs xs ys)[i]? = some d → ∃ x y, xs[i]? = some x ∧ ys[i]? = some y ∧ d = .tuple [x, y]
  | [], ys, i, d, h => by simp [pairs] at h
  | x :: xs, [], i, d, h => by simp [pairs] at h
  | x :: xs, y :: ys, 0, d, h => by simp [pairs] at h; exact ⟨x, y, rfl, rfl, h.symm⟩
  | x :: xs, y :: ys, i + 1, d, h => by
    obtain ⟨x', y', e1, e2, e3⟩ := pairs_get xs ys i d (by simpa [pairs] using h)
    exact ⟨x', y', by simpa using e1, by simpa using e2, e3⟩
def numbered : Int → List D → List D
  | _, [] => []
  | k, x :: xs => .tuple [.int k, x] :: numbered (k + 1) xs
theorem numbered_length : ∀ (xs : List D) (k : Int), (numbered k xs).length = xs.length
  | [], k => rfl
  | x :: xs, k => by simp [numbered, numbered_length xs]
theorem numbered_get : ∀ (xs : List D) (k : Int) (i : Nat) (d : D), (numbered k xs)[i]? = some d → ∃ x, xs[i]? = some x ∧ d = .tuple [.int (k + (i : Nat)), x]
  | [], k, i, d, h => by simp [numbered] at h
  | x :: xs, k, 0, d, h => by simp [numbered] at h; exact ⟨x, rfl, by simp [h]⟩
  | x :: xs, k, i + 1, d, h => by
    obtain ⟨x', e1, e2⟩ := numbered_get xs (k + 1) i d (by simpa [numbered] using h)
    refine ⟨x', by simpa using e1, ?_⟩
    rw [e2]
    have : k + 1 + (i : Int) = k + ((i + 1 : Nat) : Int) := by omega
    rw [this]
theorem pair_rp {F1 : Fz} {H1 H' : Hp} {x y v : V} {d1 d2 : D} {T : Addr} (r1 : Rp K F1 H1 x d1) (r2 : Rp K F1 H1 y d2) (hT : H1 T = none) (e : H' = upd H1 T (.tup [x, y])) : Rp K F1 H' (.ref T) (.tuple [d1, d2]) := by
  subst e
  exact .tup (SqT.of upd_same) (.cons (r1.st (stay_upd hT) fun _ z => z) (.cons (r2.st (stay_upd hT) fun _ z => z) .nil))
theorem walkD_zip {t u : Bool} {a b : Addr} {xs ys : List V} {F1 : Fz} {H1 : Hp} (q1 : ∀ F2 H2, SX F1 H1 F2 H2 → SqB K H2 t a xs) (q2 : ∀ F2 H2, SX F1 H1 F2 H2 → SqB K H2 u b ys) (r1 : RpAll K F1 H1 xs ds) (r2 : RpAll K F1 H1 ys es) : WalkD K (ItzB K t u a b) (pairs ds es) F1 H1 := by
  refine ⟨_, _, walk_zipB (xs := xs) (ys := ys) (by rw [pairs_length, r1.length, r2.length]) fun _ _ _ _ => trivial, fun F H x => ⟨q1 F H x, q2 F H x⟩, fun i F H x H' d sx ed y => ?_⟩
  obtain ⟨T, v1, v2, rfl, hT, hH, e1, e2⟩ := y
  obtain ⟨d1, d2, g1, g2, rfl⟩ := pairs_get ds es i d ed
  obtain ⟨w1, f1, p1⟩ := r1.get g1
  obtain ⟨w2, f2, p2⟩ := r2.get g2
  have e1' : xs[i]? = some v1 := e1
  have e2' : ys[i]? = some v2 := e2
  rw [f1] at e1'; cases e1'
  rw [f2] at e2'; cases e2'
  exact ⟨.inr ⟨T, _, hT, hH⟩, pair_rp (v := .ref T) (sx.rp p1) (sx.rp p2) hT hH⟩
theorem walkD_enum {t : Bool} {a : Addr} {xs : List V} {F1 : Fz} {H1 : Hp} {k0 : Int} (q1 : ∀ F2 H2, SX F1 H1 F2 H2 → SqB K H2 t a xs) (r1 : RpAll K F1 H1 xs ds) : WalkD K (IteB K t a k0) (numbered k0 ds) F1 H1 := by
  refine ⟨_, _, by rw [numbered_length, ← r1.length]; exact walk_enumB (xs := xs), fun F H x => q1 F H x, fun i F H x H' d sx ed y => ?_⟩
  obtain ⟨T, v1, v2, rfl, hT, hH, e1, e2⟩ := y
  obtain ⟨d2, g2, rfl⟩ := numbered_get ds k0 i d ed
  obtain ⟨w2, f2, p2⟩ := r1.get g2
  have e1' : some (V.int (k0 + (i : Nat))) = some v1 := e1
  have e2' : xs[i]? = some v2 := e2
  cases e1'
  rw [f2] at e2'; cases e2'
  exact ⟨.inr ⟨T, _, hT, hH⟩, pair_rp (v := .ref T) (.int _) (sx.rp p2) hT hH⟩
def rangeD (lo : Int) (n : Nat) : List D := (List.range n).map fun i => .int (lo + (i : Nat))
theorem walkD_range {lo : Int} {n : Nat} {F1 : Fz} {H1 : Hp} : WalkD K (Itr lo n) (rangeD lo n) F1 H1 := by
  refine ⟨_, _, by rw [show (rangeD lo n).length = n by simp [rangeD]]; exact walk_range, fun F H x => trivial, fun i F H x H' d sx ed y => ?_⟩
  obtain ⟨e1, e2⟩ := y
  subst e1 e2
  refine ⟨.inl rfl, ?_⟩
  unfold rangeD at ed
  rw [List.getElem?_map] at ed
  cases q : (List.range n)[i]? with
  | none => rw [q] at ed; cases ed
  | some j =>
    rw [q] at ed
    obtain ⟨h1, h2⟩ := List.getElem?_eq_some_iff.mp q
    simp at h2
    subst h2
    cases ed
    exact .int _
end
def srcA (f : List W → Option (List D)) (ma : M (List W)) : M (List D) := ma >>= fun ws => ofO (f ws)
def zipW : List W → Option (List D)
  | [a, b] => (itemsD a).bind fun x => (itemsD b).map fun y => pairs x y
  | _ => none
def enumW : List W → Option (List D)
  | [a] => (itemsD a).map (numbered 0)
  | _ => none
def enumW2 : List W → Option (List D)
  | [a, .val (.int k)] => if -(2 ^ 63) ≤ k ∧ k < 2 ^ 63 then (itemsD a).map (numbered k) else none
  | _ => none
def rangeW : List W → Option (List D)
  | [.val (.int j)] => if -(2 ^ 62) ≤ j ∧ j < 2 ^ 62 then some (rangeD 0 j.toNat) else none
  | _ => none
def rangeW2 : List W → Option (List D)
  | [.val (.int i), .val (.int j)] => if -(2 ^ 62) ≤ i ∧ i < 2 ^ 62 ∧ -(2 ^ 62) ≤ j ∧ j < 2 ^ 62 then some (rangeD i (j - i).toNat) else none
  | _ => none
section
variable {X : Cx} {Wx : WX} {e e2 : Expr} {ma : M (List W)} {p pos tpos : Pos} {elts : List Expr} {kk : Nat} {tg : Expr}
theorem srcA_step {K : PySem.W.Frag} {mg : Str → Option Value} {σ : Sg} {H : Hp} {R : It → Hp → Prop} {P : List V → Hp → Prop} {f : List W → Option (List D)}
    (hr : ∀ {B F ρ s H vs ws ds}, Ok K B F ρ s σ H → WAll K B F ρ s σ H vs ws → f ws = some ds → (∀ J, WalkD K J ds F H → R J H) → P vs H) (h : SI K mg Wx (srcA f ma) σ H R) : AM K mg Wx ma σ H P := by
  obtain ⟨B, F, ρ, s, k, h⟩ := h
  exact ⟨B, F, ρ, s, k, (Run.bind h).mono (fun ws s1 _ h1 F1 ρ1 H1 vs e1 k1 o1 => by
    obtain ⟨ds, ed, h2⟩ := Run.ofO h1
    exact hr k1 o1 ed fun J wd => h2 F1 ρ1 H1 J e1 k1 wd) fun _ _ _ e => e⟩
theorem d_zip (hm : X.mg "zip" = none) (ha : DA X Wx [e, e2] ma) (hg : Gl X "zip" := by rfl)
    (hs : starEach [e, e2] X.env = (false, eval e X.env) :: starEach [e2] X.env := by rfl) (hpl : (backTo pos (starEach [e2] X.env)).any (·.1) = false := by rfl) :
    DI X Wx (.Tuple elts kk tpos) (.Call (.Name "zip" p) [e, e2] [] pos) (srcA zipW ma) := pi_mono (pi_zipB hg hm ha hs hpl) fun σ H R h => srcA_step (P := fun vs H1 => ∃ a b t u xs ys, vs = [.ref a, .ref b] ∧ SqB X.K H1 t a xs ∧ SqB X.K H1 u b ys ∧ R (ItzB X.K t u a b) H1) (fun {B F ρ s H vs ws ds} k o e hR => by
  cases o with
  | nil => cases e
  | @cons v vs w ws o1 o =>
    cases o with
    | nil => cases e
    | @cons v2 vs w2 ws o2 o =>
      cases o with
      | cons _ _ => cases e
      | nil =>
        have e' : ((itemsD w).bind fun x => (itemsD w2).map fun y => pairs x y) = some ds := e
        cases q1 : itemsD w with
        | none => rw [q1] at e'; cases e'
        | some x =>
          cases q2 : itemsD w2 with
          | none => rw [q1, q2] at e'; cases e'
          | some y =>
            rw [q1, q2] at e'
            cases e'
            obtain ⟨a, t, xs, rfl, r1, g1⟩ := seq_ok k o1 q1
            obtain ⟨b, u, ys, rfl, r2, g2⟩ := seq_ok k o2 q2
            exact ⟨a, b, t, u, xs, ys, rfl, g1 F H .refl, g2 F H .refl, hR _ (walkD_zip g1 g2 r1 r2)⟩) h
theorem d_enum (hm : X.mg "enumerate" = none) (ha : DA X Wx [e] ma) (hg : Gl X "enumerate" := by rfl) (hs : starEach [e] X.env = [(false, eval e X.env)] := by rfl) :
    DI X Wx (.Tuple elts kk tpos) (.Call (.Name "enumerate" p) [e] [] pos) (srcA enumW ma) := pi_mono (pi_enumB hg hm ha hs) fun σ H R h => srcA_step (P := fun vs H1 => ∃ a t xs, vs = [.ref a] ∧ SqB X.K H1 t a xs ∧ R (IteB X.K t a 0) H1) (fun {B F ρ s H vs ws ds} k o e hR => by
  cases o with
  | nil => cases e
  | @cons v vs w ws o1 o =>
    cases o with
    | cons _ _ => cases e
    | nil =>
      have e' : (itemsD w).map (numbered 0) = some ds := e
      cases q1 : itemsD w with
      | none => rw [q1] at e'; cases e'
      | some x =>
        rw [q1] at e'
        cases e'
        obtain ⟨a, t, xs, rfl, r1, g1⟩ := seq_ok k o1 q1
        exact ⟨a, t, xs, rfl, g1 F H .refl, hR _ (walkD_enum g1 r1)⟩) h
theorem d_enum2 (hm : X.mg "enumerate" = none) (ha : DA X Wx [e, e2] ma) (hg : Gl X "enumerate" := by rfl) (hs : starEach [e, e2] X.env = (false, eval e X.env) :: starEach [e2] X.env := by rfl) (hpl : (backTo pos (starEach [e2] X.env)).any (·.1) = false := by rfl) :
    DI X Wx (.Tuple elts kk tpos) (.Call (.Name "enumerate" p) [e, e2] [] pos) (srcA enumW2 ma) := pi_mono (pi_enumB2 hg hm ha hs hpl) fun σ H R h => srcA_step (P := fun vs H1 => ∃ a t xs k, vs = [.ref a, .int k] ∧ SqB X.K H1 t a xs ∧ -(2 ^ 63) ≤ k ∧ k < 2 ^ 63 ∧ R (IteB X.K t a k) H1) (fun {B F ρ s H vs ws ds} k o e hR => by
  cases o with
  | nil => cases e
  | @cons v vs w ws o1 o =>
    cases o with
    | nil => cases e
    | @cons v2 vs w2 ws o2 o =>
      cases o with
      | cons _ _ =>
        unfold enumW2 at e
        split at e
        · rename_i z; cases z
        · cases e
      | nil =>
        unfold enumW2 at e
        split at e
        · rename_i a k0 z
          cases z
          split at e
          · rename_i hk
            cases q1 : itemsD w with
            | none => rw [q1] at e; cases e
            | some x =>
              rw [q1] at e
              cases e
              obtain ⟨a', t, xs, rfl, r1, g1⟩ := seq_ok k o1 q1
              have o2' : Rp X.K F H v2 (.int k0) := o2
              cases o2'
              exact ⟨a', t, xs, k0, rfl, g1 F H .refl, hk.1, hk.2, hR _ (walkD_enum g1 r1)⟩
          · cases e
        · cases e) h
theorem d_range (hm : X.mg "range" = none) (ha : DA X Wx [e] ma) (hg : Gl X "range" := by rfl) (hs : starEach [e] X.env = [(false, eval e X.env)] := by rfl) :
    DI X Wx tg (.Call (.Name "range" p) [e] [] pos) (srcA rangeW ma) := pi_mono (pi_range1 hg hm ha hs) fun σ H R h => srcA_step (P := fun vs H1 => ∃ j : Int, vs = [.int j] ∧ -(2 ^ 62) ≤ j ∧ j < 2 ^ 62 ∧ R (Itr 0 j.toNat) H1) (fun {B F ρ s H vs ws ds} k o e hR => by
  cases o with
  | nil => cases e
  | @cons v vs w ws o1 o =>
    unfold rangeW at e
    split at e
    · rename_i j z
      cases z
      cases o
      split at e
      · rename_i hk
        cases e
        have o1' : Rp X.K F H v (.int j) := o1
        cases o1'
        exact ⟨j, rfl, hk.1, hk.2, hR _ walkD_range⟩
      · cases e
    · cases e) h
theorem d_range2 (hm : X.mg "range" = none) (ha : DA X Wx [e, e2] ma) (hg : Gl X "range" := by rfl) (hs : starEach [e, e2] X.env = [(false, eval e X.env), (false, eval e2 X.env)] := by rfl) (hs2 : starEach [e2] X.env = [(false, eval e2 X.env)] := by rfl) :
    DI X Wx tg (.Call (.Name "range" p) [e, e2] [] pos) (srcA rangeW2 ma) := pi_mono (pi_range2 hg hm ha hs hs2) fun σ H R h => srcA_step (P := fun vs H1 => ∃ i j : Int, vs = [.int i, .int j] ∧ (-(2 ^ 62) ≤ i ∧ i < 2 ^ 62 ∧ -(2 ^ 62) ≤ j ∧ j < 2 ^ 62) ∧ R (Itr i (j - i).toNat) H1) (fun {B F ρ s H vs ws ds} k o e hR => by
  cases o with
  | nil => cases e
  | @cons v vs w ws o1 o =>
    cases o with
    | nil =>
      unfold rangeW2 at e
      split at e
      · rename_i z; cases z
      · cases e
    | @cons v2 vs w2 ws o2 o =>
      unfold rangeW2 at e
      split at e
      · rename_i i j z
        cases z
        cases o
        split at e
        · rename_i hk
          cases e
          have o1' : Rp X.K F H v (.int i) := o1
          have o2' : Rp X.K F H v2 (.int j) := o2
          cases o1'
          cases o2'
          exact ⟨i, j, rfl, hk, hR _ walkD_range⟩
        · cases e
      · cases e) h
end
end Z
/-! Z, part 12: a def by its facts; who is called; calls with keywords. -/
namespace Z
open PySem PySem.Spec PyProof.Rows L2

theorem fn_okD {P : Program} {w : World} {K : PySem.W.Frag} {mg : Str → Option Value} {base : Heap} {x qual : Str} {params : Arguments} {body : List Stmt} {scope : Scope} {dvs : List V} {kws : List (Str × V)} {f : Addr} {fd : FuncData} {N ps : List Str} {k n : Nat} {mb : M SR}
    (G : FunD K x qual params body scope dvs kws f fd) (Sc : FnScope N ps scope) (hps : n = ps.length) (hn : n ≤ N.length)
    (hbody : ∀ (cdv : Value) (A : Around) (outer : List Env) (s : Shared) (H : Hp) (E : XK), Room k (A.deeper (envOfC qual scope s.heap.objs.size f cdv)) →
      PassesOwn (model P w) (A.deeper (envOfC qual scope s.heap.objs.size f cdv)) (envOfC qual scope s.heap.objs.size f cdv) (cxOf (L2.CX P w) P w K mg base N qual scope f cdv A outer s H E).xe →
      Takes (cxOf (L2.CX P w) P w K mg base N qual scope f cdv A outer s H E) (fun cls d _ H => E cls d H) →
      DB (cxOf (L2.CX P w) P w K mg base N qual scope f cdv A outer s H E) (fun cls d _ H => E cls d H) body mb) :
    FnOk P w K mg base (L2.CX P w) (k + 1) f fd ps (spZ K mg n (fnOf N.length mb)) :=
  G.ok Sc (fun vs H Q E h => by obtain ⟨_, _, _, _, e, _⟩ := h; rw [e, hps]) fun cdv A outer s H vs Q E hr h =>
    ⟨_, (hbody cdv A outer s H E hr (passes_of (X := cxOf (L2.CX P w) P w K mg base N qual scope f cdv A outer s H E) rfl) (takes_of rfl rfl rfl rfl)).run |> fun z => ⟨z⟩, body_ok hn h⟩

/-- who is called by the name x: level k, n parameters ps, the mirror fs -/
structure Callee (P : Program) (w : World) (K : PySem.W.Frag) (mg : Str → Option Value) (base : Heap) (x : Str) (k n : Nat) (ps : List Str) (fs : Fn) : Prop where
  ex : ∃ f fd, FnOk P w K mg base (L2.CX P w) k f fd ps (spZ K mg n fs) ∧ mg x = some (.ref f) ∧ PySem.W.keepIn K (.ref f) = true ∧
    ∃ (y q : Str) (params : Arguments) (body : List Stmt) (scope : Scope), FunD K y q params body scope [] [] f fd ∧ True
/-- how it takes what is given -/
structure Takes_ (P : Program) (w : World) (K : PySem.W.Frag) (mg : Str → Option Value) (base : Heap) (x : Str) (k n : Nat) (ps : List Str) (fs : Fn) : Prop where
  ex : ∃ f fd, FnOk P w K mg base (L2.CX P w) k f fd ps (spZ K mg n fs) ∧ mg x = some (.ref f) ∧ PySem.W.keepIn K (.ref f) = true ∧ Binds K fd ps []
structure TakesK (P : Program) (w : World) (K : PySem.W.Frag) (mg : Str → Option Value) (base : Heap) (x : Str) (k n : Nat) (ps : List Str) (fs : Fn) (np : Nat) (ks : List Str) (is : List Nat) : Prop where
  ex : ∃ f fd, FnOk P w K mg base (L2.CX P w) k f fd ps (spZ K mg n fs) ∧ mg x = some (.ref f) ∧ PySem.W.keepIn K (.ref f) = true ∧ ∃ g gV, KBn K fd ps np ks g gV ∧ ∀ vs zs, gV vs zs = is.filterMap fun i => (vs ++ zs)[i]?
section
variable {X : Cx} {Wx : WX} {k n np : Nat} {ps ks : List Str} {is : List Nat} {fs : Fn} {x : Str} {p pos : Pos} {e : Expr} {es : List Expr} {kws : List Keyword} {ma mk : M (List W)}
theorem i_callC (C : Takes_ X.prog X.w X.K X.mg X.base x k n ps fs) (hr : Room k X.A) (tk : Takes X Wx)
    (ha : DA X Wx (e :: es) ma) (hg : Gl X x := by rfl) (hdb : (x == ("__debug__" : Str)) = false := by decide) (he : starEach (e :: es) X.env = (false, eval e X.env) :: starEach es X.env := by rfl) (hpl : (backTo pos (starEach es X.env)).any (·.1) = false := by rfl) :
    DE X Wx (.Call (.Name x p) (e :: es) [] pos) (eCallS n fs ma) := by
  obtain ⟨f, fd, G, hm, hk, hb⟩ := C.ex
  exact i_call G hr hm hk hb tk ha hg hdb he hpl
theorem run_fnSN {CX : CXT} {f : Addr} {fd : FuncData} {sp : Sp} {E : Sg → XK} {g : List Value → List Value → List Value} {gV : List V → List V → List V} {pins : List (Addr × Obj)} {σ : Sg} {H : Hp} {s : Shared} {Q : VK} {us ws : List Value} {vs zs : List V}
    (F : FnOk X.prog X.w X.K X.mg X.base CX k f fd ps sp) (hr : Room k X.A) (hb : KBn X.K fd ps n ks g gV) (hx : PassesAt CX X σ (E σ))
    (I : Inv X pins σ H s) (r : Vals vs us) (rz : Vals zs ws) (l1 : vs.length = n) (l2 : zs.length = ks.length) (h : sp (gV vs zs) H Q (E σ)) : wpAny (model X.prog X.w) X.A (call (.ref f) us (ks.zip ws)) (EP X pins σ Q) X.xe s := by
  have r2 := hb.rel r rz
  refine wpAny_call (codeAny_mono (F.run X.A X.stack s H ⟨us, ks.zip ws⟩ (g us ws) (gV vs zs) Q (E σ) hr I.env0 (hb.to s us ws I.kIn (r.length.symm.trans l1) (rz.length.symm.trans l2)) r2 h) fun r s' hq => ?_)
  cases r with
  | error e => exact hx pins H s e s' I hq
  | ok fl =>
    cases fl with
    | ret u => exact I.after hq
    | next => exact False.elim hq
    | brk => exact False.elim hq
    | cont => exact False.elim hq
/-- the keywords alone -/
theorem pe_callSK0 {CX : CXT} {f : Addr} {fd : FuncData} {sp : Sp} {E : Sg → XK} {g : List Value → List Value → List Value} {gV : List V → List V → List V} {tk : TA} (F : FnOk X.prog X.w X.K X.mg X.base CX k f fd ps sp) (hr : Room k X.A) (hg : Gl X x) (hm : X.mg x = some (.ref f)) (hk : PySem.W.keepIn X.K (.ref f) = true) (hb : KBn X.K fd ps 0 ks g gV) (hx : ∀ σ, PassesAt CX X σ (E σ))
    (hkw : PK X kws tk) (hall : (backToKw pos (keywordEach kws X.env)).all (·.1.isSome) = true := by rfl) (hks : (backToKw pos (keywordEach kws X.env)).filterMap (·.1) = ks := by rfl)
    (hdb : (x == ("__debug__" : Str)) = false := by decide) (hpl : ((backTo pos (starEach [] X.env)).any (·.1) || (backToKw pos (keywordEach kws X.env)).any (·.1.isNone)) = false := by rfl) :
    PE X (.Call (.Name x p) [] kws pos) (fun σ H Q => tk σ H fun zs H2 => zs.length = ks.length ∧ sp (gV [] zs) H2 Q (E σ)) := by
  refine ⟨fun pins s σ H Q I h => ?_⟩
  refine wpAny_Call_Name_kw (ld_glob I hg hm ?_ hdb)
  refine PySem.W.callWith_KW0 (h₀ := X.base) I.ok.mod.kin hk hall ?_ hpl
  refine thn (hkw.run pos pins s σ H _ I h) fun ws s2 ⟨zs, H2, I2, rz, l2, q2⟩ => ⟨I2.kIn, ?_⟩
  rw [hks]
  exact run_fnSN (us := []) (vs := []) F hr hb (hx σ) I2 .nil rz rfl l2 q2
theorem pe_callSK {CX : CXT} {f : Addr} {fd : FuncData} {sp : Sp} {E : Sg → XK} {g : List Value → List Value → List Value} {gV : List V → List V → List V} {t tk : TA} (F : FnOk X.prog X.w X.K X.mg X.base CX k f fd ps sp) (hr : Room k X.A) (hg : Gl X x) (hm : X.mg x = some (.ref f)) (hk : PySem.W.keepIn X.K (.ref f) = true) (hb : KBn X.K fd ps np ks g gV) (hx : ∀ σ, PassesAt CX X σ (E σ))
    (ha : PA X (e :: es) t) (hkw : PK X kws tk) (hall : (backToKw pos (keywordEach kws X.env)).all (·.1.isSome) = true := by rfl) (hks : (backToKw pos (keywordEach kws X.env)).filterMap (·.1) = ks := by rfl)
    (hdb : (x == ("__debug__" : Str)) = false := by decide) (he : starEach (e :: es) X.env = (false, eval e X.env) :: starEach es X.env := by rfl)
    (hpl : ((backTo pos (starEach (e :: es) X.env)).any (·.1) || (backToKw pos (keywordEach kws X.env)).any (·.1.isNone)) = false := by rfl) :
    PE X (.Call (.Name x p) (e :: es) kws pos) (fun σ H Q => t σ H fun vs H1 => tk σ H1 fun zs H2 => vs.length = np ∧ zs.length = ks.length ∧ sp (gV vs zs) H2 Q (E σ)) := by
  refine ⟨fun pins s σ H Q I h => ?_⟩
  refine wpAny_Call_Name_kw (ld_glob I hg hm ?_ hdb)
  refine PySem.W.callWith_KW (h₀ := X.base) I.ok.mod.kin hk hall (thn (ha.run pos pins s σ H _ I h) fun us s1 ⟨vs, H1, I1, r, q⟩ => ?_) hpl he
  refine thn (hkw.run pos pins s1 σ H1 _ I1 q) fun ws s2 ⟨zs, H2, I2, rz, l1, l2, q2⟩ => ⟨I2.kIn, ?_⟩
  rw [hks]
  exact run_fnSN F hr hb (hx σ) I2 r rz l1 l2 q2
def permW (is : List Nat) (ws : List W) : List W := is.filterMap fun i => ws[i]?
def eCallK (n : Nat) (f : Fn) (np nk : Nat) (is : List Nat) (ma mk : M (List W)) : M W := ma >>= fun ws => mk >>= fun zs => if ws.length = np ∧ zs.length = nk then callS n f (permW is (ws ++ zs)) else M.fail
theorem WAll.length {K : PySem.W.Frag} {B : Base} {F : Fz} {ρ : List Addr} {s : S} {σ : Sg} {H : Hp} {vs : List V} {ws : List W} (h : WAll K B F ρ s σ H vs ws) : vs.length = ws.length := by
  induction h with
  | nil => rfl
  | cons _ _ ih => simp [ih]
theorem WAll.app {K : PySem.W.Frag} {B : Base} {F : Fz} {ρ : List Addr} {s : S} {σ : Sg} {H : Hp} {vs vs' : List V} {ws ws' : List W} (h : WAll K B F ρ s σ H vs ws) (h' : WAll K B F ρ s σ H vs' ws') : WAll K B F ρ s σ H (vs ++ vs') (ws ++ ws') := by
  induction h with
  | nil => exact h'
  | cons a _ ih => exact .cons a ih
theorem WAll.get {K : PySem.W.Frag} {B : Base} {F : Fz} {ρ : List Addr} {s : S} {σ : Sg} {H : Hp} {vs : List V} {ws : List W} (h : WAll K B F ρ s σ H vs ws) : ∀ i : Nat, (vs[i]? = none ∧ ws[i]? = none) ∨ ∃ v w, vs[i]? = some v ∧ ws[i]? = some w ∧ WOk K B F ρ s σ H v w := by
  induction h with
  | nil => exact fun i => .inl ⟨by simp, by simp⟩
  | @cons v vs w ws a _ ih =>
    intro i
    cases i with
    | zero => exact .inr ⟨v, w, by simp, by simp, a⟩
    | succ i => simpa using ih i
theorem WAll.perm {K : PySem.W.Frag} {B : Base} {F : Fz} {ρ : List Addr} {s : S} {σ : Sg} {H : Hp} {vs : List V} {ws : List W} (h : WAll K B F ρ s σ H vs ws) : ∀ is : List Nat, WAll K B F ρ s σ H (is.filterMap fun i => vs[i]?) (permW is ws)
  | [] => .nil
  | i :: is => by
    unfold permW
    rcases h.get i with ⟨e1, e2⟩ | ⟨v, w, e1, e2, o⟩
    · rw [List.filterMap_cons, List.filterMap_cons, e1, e2]
      exact WAll.perm h is
    · rw [List.filterMap_cons, List.filterMap_cons, e1, e2]
      exact .cons o (WAll.perm h is)
theorem i_callK0 (C : TakesK X.prog X.w X.K X.mg X.base x k n ps fs 0 ks is) (hr : Room k X.A) (tk : Takes X Wx) (hkw : DK X Wx kws mk) (hks : (backToKw pos (keywordEach kws X.env)).filterMap (·.1) = ks := by rfl) (hg : Gl X x := by rfl)
    (hall : (backToKw pos (keywordEach kws X.env)).all (·.1.isSome) = true := by rfl) (hdb : (x == ("__debug__" : Str)) = false := by decide) (hpl : ((backTo pos (starEach [] X.env)).any (·.1) || (backToKw pos (keywordEach kws X.env)).any (·.1.isNone)) = false := by rfl) :
    DE X Wx (.Call (.Name x p) [] kws pos) (eCallK n fs 0 ks.length is aNil mk) := by
  obtain ⟨f, fd, G, hm, hk, g, gV, hb, hgv⟩ := C.ex
  refine pe_mono (pe_callSK0 (E := WE Wx) G hr hg hm hk hb (fun σ => passAt tk σ) hkw hall hks hdb hpl) fun σ H Q h => ?_
  refine am_step (ma := mk) (f := fun zs => if ([] : List W).length = 0 ∧ zs.length = ks.length then callS n fs (permW is ([] ++ zs)) else M.fail) (P := fun zs H2 => zs.length = ks.length ∧ spZ X.K X.mg n fs (gV [] zs) H2 Q (WE Wx σ)) (fun {B F ρ s H vs ws} kk o h => ?_) h
  by_cases hl : ([] : List W).length = 0 ∧ ws.length = ks.length
  · rw [if_pos hl] at h
    refine ⟨o.length.trans hl.2, ?_⟩
    rw [hgv]
    exact call_step kk (o.perm is) h
  · rw [if_neg hl] at h; exact h.elim
theorem i_callK (C : TakesK X.prog X.w X.K X.mg X.base x k n ps fs np ks is) (hr : Room k X.A) (tk : Takes X Wx) (ha : DA X Wx (e :: es) ma) (hkw : DK X Wx kws mk) (hks : (backToKw pos (keywordEach kws X.env)).filterMap (·.1) = ks := by rfl) (hg : Gl X x := by rfl)
    (hall : (backToKw pos (keywordEach kws X.env)).all (·.1.isSome) = true := by rfl) (hdb : (x == ("__debug__" : Str)) = false := by decide) (he : starEach (e :: es) X.env = (false, eval e X.env) :: starEach es X.env := by rfl)
    (hpl : ((backTo pos (starEach (e :: es) X.env)).any (·.1) || (backToKw pos (keywordEach kws X.env)).any (·.1.isNone)) = false := by rfl) :
    DE X Wx (.Call (.Name x p) (e :: es) kws pos) (eCallK n fs np ks.length is ma mk) := by
  obtain ⟨f, fd, G, hm, hk, g, gV, hb, hgv⟩ := C.ex
  refine pe_mono (pe_callSK (E := WE Wx) G hr hg hm hk hb (fun σ => passAt tk σ) ha hkw hall hks hdb he hpl) fun σ H Q h => ?_
  obtain ⟨B, F, ρ, s, kk, h⟩ := h
  refine ⟨B, F, ρ, s, kk, (Run.bind h).mono (fun ws s1 _ h1 F1 ρ1 H1 vs e1 k1 o1 => ?_) fun _ _ _ e => e⟩
  refine ⟨B, F1, ρ1, s1, k1, (Run.bind h1).mono (fun zs s2 _ h2 F2 ρ2 H2 us e2 k2 o2 => ?_) fun _ _ _ e => e⟩
  by_cases hl : ws.length = np ∧ zs.length = ks.length
  · rw [if_pos hl] at h2
    have o := (o1.mono k1 e2).app o2
    refine ⟨o1.length.trans hl.1, o2.length.trans hl.2, ?_⟩
    rw [hgv]
    exact call_step k2 (o.perm is) (h2.mono (fun w s' _ p => p.step (e1.trans e2 k1.sto) k2.sto) fun _ _ _ e => e)
  · rw [if_neg hl] at h2; exact h2.elim
end
/-- a def of no default takes keywords -/
theorem Vals.perm {vs : List V} {us : List Value} (h : Vals vs us) : ∀ is : List Nat, Vals (is.filterMap fun i => vs[i]?) (is.filterMap fun i => us[i]?)
  | [] => .nil
  | i :: is => by
    rw [List.filterMap_cons, List.filterMap_cons]
    cases q : vs[i]? with
    | none =>
      have : us[i]? = none := by
        rw [List.getElem?_eq_none_iff] at q ⊢
        rw [← h.length]; exact q
      rw [this]
      exact Vals.perm h is
    | some v =>
      obtain ⟨u, hu, ru⟩ := h.get q
      rw [hu]
      exact .cons ru (Vals.perm h is)
theorem funD_kbn {K : PySem.W.Frag} {x qual : Str} {params : Arguments} {body : List Stmt} {scope : Scope} {f : Addr} {fd : FuncData} {ps ks : List Str} {n : Nat} {is : List Nat} (F : FunD K x qual params body scope [] [] f fd)
    (h : ∀ (kV doc pm : Value) (an : Option Addr) (cdv ct : Value) (us ws : List Value), us.length = n → ws.length = ks.length → bindArgs (PySem.W.fnOf x qual params body scope .none kV doc pm an cdv ct) ⟨us, ks.zip ws⟩ = pure (ps.zip (is.filterMap fun i => (us ++ ws)[i]?))) :
    ∃ g gV, KBn K fd ps n ks g gV ∧ ∀ vs zs, gV vs zs = is.filterMap fun i => (vs ++ zs)[i]? := by
  refine ⟨fun us ws => is.filterMap fun i => (us ++ ws)[i]?, fun vs zs => is.filterMap fun i => (vs ++ zs)[i]?, ⟨?_, fun r1 r2 => Vals.perm (r1.append r2) is⟩, fun _ _ => rfl⟩
  obtain ⟨oc, od, dV, kV, doc, pm, an, cdv, ct, osl, rfl, lk, hcd, hD, hK⟩ := F.ex
  rcases hD with ⟨_, rfl⟩ | ⟨e, _⟩
  · exact fun s us ws _ l1 l2 => .of_eq (h kV doc pm an cdv ct us ws l1 l2)
  · exact absurd rfl e
end Z
/-! Z, part 13: comprehensions of two clauses; starred displays. -/
namespace Z
open PySem PySem.Spec PyProof.Rows L2

def compLoop2 (vs vs1 : List Nat) (g : D → M Unit) (c : M Bool) (src1 : M (List D)) (g1 : D → M Unit) (c1 : M Bool) (e : M W) : List D → List D → M (List D)
  | [], acc => Pure.pure acc
  | d :: ds, acc => nE (g d) >>= fun _ => nE c >>= fun b => if b = true then nE src1 >>= fun ds1 => wipeM vs1 >>= fun _ => compLoop vs1 g1 c1 e ds1 acc >>= fun acc' => wipeM vs >>= fun _ => compLoop2 vs vs1 g c src1 g1 c1 e ds acc'
      else wipeM vs >>= fun _ => compLoop2 vs vs1 g c src1 g1 c1 e ds acc
def eLc2 (vs vs1 : List Nat) (src : M (List D)) (g : D → M Unit) (c : M Bool) (src1 : M (List D)) (g1 : D → M Unit) (c1 : M Bool) (e : M W) : M W := src >>= fun ds => lcM vs (compLoop2 vs vs1 g c src1 g1 c1 e ds [])
section
variable {X : Cx} {Wx : WX} {tg e iter : Expr} {m : M W} {src : M (List D)} {g : D → M Unit} {c1 : M Bool} {is : List Nat} {ifs : List Expr} {scope : Scope} {own : List (Str × Nat)} {pos : Pos}
theorem turn_okG {K : PySem.W.Frag} {mg : Str → Option Value} {B : Base} {L : Addr} {vs : List Nat} {σ σ0 : Sg} {d : D} {ds acc : List D} {s0 s : S} {F0 F : Fz} {ρ0 ρ : List Addr} {Hs H : Hp} {x : V} {R : List D → S → Prop} {er : Exc → S → Prop} {Nx : Hp → Prop}
    (his : ∀ j ∈ is, j ∈ vs) (hL : Hs L = none) (hB : B.H L = none) (gx : GX s0 σ0 F0 ρ0 Hs s (L2.wipe σ vs) F ρ H) (k : Ok K B F ρ s (L2.wipe σ vs) H) (a : Acc K F ρ s (L2.wipe σ vs) H L acc) (rp : Rp K F H x d) (h : Run (compLoop vs g c1 m (d :: ds) acc) s R er)
    (hn : ∀ F' ρ' s' H' acc', GX s0 σ0 F0 ρ0 Hs s' (L2.wipe σ vs) F' ρ' H' → Ok K B F' ρ' s' (L2.wipe σ vs) H' → Acc K F' ρ' s' (L2.wipe σ vs) H' L acc' → SX F H F' H' → Run (compLoop vs g c1 m ds acc') s' R er → Nx H') :
    GM K mg Wx0 is g x (L2.wipe σ vs) H fun σ2 H2 => L2.wipe σ2 vs = L2.wipe σ vs ∧ CM K mg Wx0 c1 σ2 H2 fun b H3 => if b = true then EM K mg Wx0 m σ2 H3 fun y H4 => ∃ acc, H4 L = some (.lst acc) ∧ acc.length < sizeLine ∧ Nx (upd H4 L (.lst (acc ++ [y]))) else Nx H3 := by
  refine ⟨B, F, ρ, s, d, k, rp, (Run.nE (Run.bind h)).mono (fun _ s1 _ h1 F1 ρ1 H1 σ1 g1 so k1 => ?_) fun _ _ _ z => z⟩
  have ew := wipe_eq so his
  refine ⟨ew, B, F1, ρ1, s1, k1, (Run.nE (Run.bind h1)).mono (fun b s2 _ h2 F2 ρ2 H2 e2 k2 => ?_) fun _ _ _ z => z⟩
  have a2 := (a.mono k g1).mono k1 e2.gx
  cases b with
  | false =>
    refine iteF ?_
    have h3 : Run (compLoop vs g c1 m ds acc) (s2.wipe vs) R er := Run.bind (m := wipeM vs) h2
    have k3 := k2.wipe_ vs
    rw [ew] at k3
    have gw : GX s2 σ1 F2 ρ2 H2 (s2.wipe vs) (L2.wipe σ vs) F2 ρ2 H2 := by rw [← ew]; exact gx_wipe
    exact hn F2 ρ2 _ H2 acc (((gx.trans g1).trans e2.gx).trans gw) k3 (a2.mono k2 gw) (k.gsx ((g1.trans e2.gx).trans gw)) h3
  | true =>
    refine iteT ⟨B, F2, ρ2, s2, k2, (Run.nE (Run.bind h2)).mono (fun w s3 _ h3 F3 ρ3 H3 y e3 k3 o3 f3 => ?_) fun _ _ _ z => z⟩
    obtain ⟨F4, s4, dy, k4, e4, ry, h4⟩ := val_ok e3 k3 o3 f3 (Run.bind h3)
    have a4 := a2.mono k2 e4.gx
    by_cases hz : acc.length < sizeLine
    · have h5 : Run (if acc.length < sizeLine then wipeM vs >>= fun _ => compLoop vs g c1 m ds (acc ++ [dy]) else M.fail) s4 R er := h4
      rw [if_pos hz] at h5
      have h6 : Run (compLoop vs g c1 m ds (acc ++ [dy])) (s4.wipe vs) R er := Run.bind (m := wipeM vs) h5
      obtain ⟨us, q1, q2, k5, a5⟩ := a4.push hB k4 ry
      have k6 := k5.wipe_ vs
      rw [ew] at k6
      have gw : GX s4 σ1 F4 ρ3 (upd H3 L (.lst (us ++ [y]))) (s4.wipe vs) (L2.wipe σ vs) F4 ρ3 (upd H3 L (.lst (us ++ [y]))) := by rw [← ew]; exact gx_wipe
      have gall := (((gx.trans g1).trans e2.gx).trans e4.gx)
      have sx : SX F H F4 H3 := k.gsx ((g1.trans e2.gx).trans e4.gx)
      exact ⟨us, q1, by rw [q2]; exact hz, hn F4 ρ3 _ _ _ ((gx_push gall hL).trans gw) k6 (a5.mono k5 gw) (sx.trans ⟨fun _ z => z, stay_write q1 a4.nF⟩) h6⟩
    · have h5 : Run (if acc.length < sizeLine then wipeM vs >>= fun _ => compLoop vs g c1 m ds (acc ++ [dy]) else M.fail) s4 R er := h4
      rw [if_neg hz] at h5
      exact h5.elim
/-- the loop of a second clause -/
theorem lc_it1 {J : It} {n : Nat} {G : Hp → Prop} {Y : Nat → Hp → V → Hp → Prop} (w : Walk J n G Y) {g : TG} {tt : TT} {te : TE} {vs : List Nat} {σ : Sg} {H1 : Hp} {D : Addr} {Qd : Hp → Prop} (Pv : Nat → Hp → Prop) (h0 : Pv 0 H1) (hG : ∀ i H, i ≤ n → Pv i H → G H)
    (hs : ∀ i x H H', i < n → Pv i H → Y i H x H' → g x (L2.wipe σ vs) H' fun σ2 H2 => L2.wipe σ2 vs = L2.wipe σ vs ∧ tt σ2 H2 fun b H3 =>
      if b = true then te σ2 H3 fun y H4 => ∃ acc, H4 D = some (.lst acc) ∧ acc.length < sizeLine ∧ Pv (i + 1) (upd H4 D (.lst (acc ++ [y]))) else Pv (i + 1) H3) (hd : ∀ H, Pv n H → Qd H) :
    ∃ W : Nat → Nat → Hp → Prop, (∃ m, W 0 m H1) ∧ ∀ i m H, W i m H →
      (J.stop i H ∧ Qd H) ∨ (J.go i H ∧ ∃ Nx : Hp → Prop, (∀ H', Nx H' → ∃ m', m' < m ∧ W (i + 1) m' H') ∧ ∀ x H', J.yld i H x H' → g x (L2.wipe σ vs) H' fun σ2 H2 => L2.wipe σ2 vs = L2.wipe σ vs ∧ tt σ2 H2 fun b H3 =>
        if b = true then te σ2 H3 fun y H4 => ∃ acc, H4 D = some (.lst acc) ∧ acc.length < sizeLine ∧ Nx (upd H4 D (.lst (acc ++ [y]))) else Nx H3) := by
  refine ⟨fun i m H => m = n - i ∧ i ≤ n ∧ Pv i H, ⟨n, by simp, Nat.zero_le _, h0⟩, ?_⟩
  rintro i m H ⟨rfl, hi, p⟩
  have q := hG i H hi p
  by_cases hlt : i < n
  · refine .inr ⟨w.goes i H hlt q, Pv (i + 1), fun H' p' => ⟨n - (i + 1), by omega, rfl, hlt, p'⟩, fun x H' y => hs i x H H' hlt p (w.yields i H x H' hlt q y)⟩
  · have e : i = n := by omega
    subst e
    exact .inl ⟨w.stops H q, hd H p⟩
theorem so_wipe {σ : Sg} {vs : List Nat} : SO vs σ (L2.wipe σ vs) := ⟨L2.wipe_length _ _, fun j h => wipeS_get h⟩
variable {src1 : M (List D)} {g1 : D → M Unit} {c2 : M Bool} {is1 : List Nat} {vs1 : List Nat} {tg1 iter1 : Expr} {ifs1 : List Expr}
theorem lc2_step {K : PySem.W.Frag} {mg : Str → Option Value} {σ : Sg} {H : Hp} {Q : VK} {vs : List Nat} (his : ∀ j ∈ is, j ∈ vs) (his1 : ∀ j ∈ is1, j ∈ vs1) (hv : ∀ j ∈ vs1, j ∈ vs) (h : EM K mg Wx (eLc2 vs vs1 src g c1 src1 g1 c2 m) σ H Q) :
    tLc2 (SI K mg Wx src) (GM K mg Wx0 is g) (CM K mg Wx0 c1) (SI K mg Wx0 src1) (GM K mg Wx0 is1 g1) (CM K mg Wx0 c2) (EM K mg Wx0 m) vs vs1 σ H Q := by
  obtain ⟨B, F, ρ, s, k, h⟩ := h
  refine ⟨B, F, ρ, s, k, (Run.bind h).mono (fun ds s1 _ h1 F1 ρ1 H1 J e1 k1 wd => ?_) fun _ _ _ z => z⟩
  intro L hL
  have h1' : Run (lcM vs (compLoop2 vs vs1 g c1 src1 g1 c2 m ds [])) s1 (Post K B σ s F ρ H Q) (Er K mg Wx B σ) := h1
  by_cases hf : ownFree s1 vs = true
  · have hb : Run (compLoop2 vs vs1 g c1 src1 g1 c2 m ds []) (s1.wipe vs) (fun r s' => Post K B σ s F ρ H Q (.own r) (s'.rest s1 vs)) (fun _ _ => False) := by
      unfold Run lcM at h1'
      rw [if_pos hf] at h1'
      unfold Run
      cases q : compLoop2 vs vs1 g c1 src1 g1 c2 m ds [] (s1.wipe vs) with
      | fail => rw [q] at h1'; exact h1'.elim
      | err x s' => rw [q] at h1'; exact h1'.elim
      | ok r s' => rw [q] at h1'; exact h1'
    obtain ⟨G, Y, wk, hG, hY⟩ := wd
    have hB := k1.fresh hL
    have kw := k1.wipe_ vs
    have kw0 := kw.new (o := .lst []) hL
    have inv0 : GX (s1.wipe vs) (L2.wipe σ vs) F1 ρ1 H1 (s1.wipe vs) (L2.wipe σ vs) F1 ρ1 (upd H1 L (.lst [])) := (Ext.new_ hL).gx
    have acc0 : Acc K F1 ρ1 (s1.wipe vs) (L2.wipe σ vs) (upd H1 L (.lst [])) L [] := ⟨⟨[], upd_same, .nil⟩, kw.nF hL, kw.nρ hL, kw.nO hL⟩
    let R : List D → S → Prop := fun r s' => Post K B σ s F ρ H Q (.own r) (s'.rest s1 vs)
    let er : Exc → S → Prop := fun _ _ => False
    let Pv : Nat → Hp → Prop := fun i H' => ∃ F' ρ' s' acc, GX (s1.wipe vs) (L2.wipe σ vs) F1 ρ1 H1 s' (L2.wipe σ vs) F' ρ' H' ∧ Ok K B F' ρ' s' (L2.wipe σ vs) H' ∧ Acc K F' ρ' s' (L2.wipe σ vs) H' L acc ∧ Run (compLoop2 vs vs1 g c1 src1 g1 c2 m (ds.drop i) acc) s' R er
    refine ⟨fun i mm H => mm = ds.length - i ∧ i ≤ ds.length ∧ Pv i H, ⟨ds.length, by simp, Nat.zero_le _, F1, ρ1, s1.wipe vs, [], inv0, kw0, acc0, hb⟩, ?_⟩
    rintro i mm H' ⟨rfl, hi, F', ρ', s', acc, x', k', a', h'⟩
    have q := hG F' H' (kw.gsx x')
    by_cases hlt : i < ds.length
    · refine .inr ⟨wk.goes i H' hlt q, Pv (i + 1), fun H' p' => ⟨ds.length - (i + 1), by omega, rfl, hlt, p'⟩, fun x H2 y => ?_⟩
      have y' := wk.yields i H' x H2 hlt q y
      have ed : ds[i]? = some ds[i] := List.getElem?_eq_getElem hlt
      obtain ⟨hH, rp⟩ := hY i F' H' x H2 _ (kw.gsx x') ed y'
      rw [List.drop_eq_getElem_cons hlt] at h'
      have kk : Ok K B F' ρ' s' (L2.wipe σ vs) H2 ∧ GX s' (L2.wipe σ vs) F' ρ' H' s' (L2.wipe σ vs) F' ρ' H2 := by
        rcases hH with rfl | ⟨p, o, hn, rfl⟩
        · exact ⟨k', .refl⟩
        · exact ⟨k'.new hn, (Ext.new_ hn).gx⟩
      obtain ⟨k2, x2⟩ := kk
      have gx := x'.trans x2
      have a2 := a'.mono k' x2
      refine ⟨B, F', ρ', s', ds[i], k2, rp, (Run.nE (Run.bind h')).mono (fun _ s3 _ h3 F3 ρ3 H3 σ3 g3 so k3 => ?_) fun _ _ _ z => z⟩
      have ew := wipe_eq so his
      refine ⟨ew, B, F3, ρ3, s3, k3, (Run.nE (Run.bind h3)).mono (fun b s4 _ h4 F4 ρ4 H4 e4 k4 => ?_) fun _ _ _ z => z⟩
      have a4 := (a2.mono k2 g3).mono k3 e4.gx
      cases b with
      | false =>
        refine iteF ?_
        have h5 : Run (compLoop2 vs vs1 g c1 src1 g1 c2 m (ds.drop (i + 1)) acc) (s4.wipe vs) R er := Run.bind (m := wipeM vs) h4
        have k5 := k4.wipe_ vs
        rw [ew] at k5
        have gw : GX s4 σ3 F4 ρ4 H4 (s4.wipe vs) (L2.wipe σ vs) F4 ρ4 H4 := by rw [← ew]; exact gx_wipe
        exact ⟨F4, ρ4, _, acc, (((gx.trans g3).trans e4.gx).trans gw), k5, a4.mono k4 gw, h5⟩
      | true =>
        refine iteT ⟨B, F4, ρ4, s4, k4, (Run.nE (Run.bind h4)).mono (fun ds1 s5 _ h5 F5 ρ5 H5 J1 e5 k5 wd1 => ?_) fun _ _ _ z => z⟩
        have h6 : Run (compLoop vs1 g1 c2 m ds1 acc >>= fun acc' => wipeM vs >>= fun _ => compLoop2 vs vs1 g c1 src1 g1 c2 m (ds.drop (i + 1)) acc') (s5.wipe vs1) R er := Run.bind (m := wipeM vs1) h5
        have h7 := Run.bind h6
        have k6 := k5.wipe_ vs1
        have gw : GX s5 σ3 F5 ρ5 H5 (s5.wipe vs1) (L2.wipe σ3 vs1) F5 ρ5 H5 := gx_wipe
        have gall := (((gx.trans g3).trans e4.gx).trans e5.gx).trans gw
        have a6 := (a4.mono k4 e5.gx).mono k5 gw
        obtain ⟨G1, Y1, wk1, hG1, hY1⟩ := wd1
        let R1 : List D → S → Prop := fun acc' s' => Run (wipeM vs >>= fun _ => compLoop2 vs vs1 g c1 src1 g1 c2 m (ds.drop (i + 1)) acc') s' R er
        have ew2 : L2.wipe (L2.wipe σ3 vs1) vs = L2.wipe σ vs := wipe_eq (so.trans so_wipe) fun j hj => by
          rcases List.mem_append.mp hj with z | z
          · exact his j z
          · exact hv j z
        refine lc_it1 wk1 (fun j H7 => ∃ F7 ρ7 s7 acc7, (GX (s1.wipe vs) (L2.wipe σ vs) F1 ρ1 H1 s7 (L2.wipe σ3 vs1) F7 ρ7 H7 ∧ SX F5 H5 F7 H7) ∧ Ok K B F7 ρ7 s7 (L2.wipe σ3 vs1) H7 ∧ Acc K F7 ρ7 s7 (L2.wipe σ3 vs1) H7 L acc7 ∧ Run (compLoop vs1 g1 c2 m (ds1.drop j) acc7) s7 R1 er)
          ⟨F5, ρ5, s5.wipe vs1, acc, ⟨gall, .refl⟩, k6, a6, h7⟩ (fun j H7 _ ⟨F7, ρ7, s7, acc7, x7, _⟩ => hG1 F7 H7 x7.2) (fun j x H7 H8 hj ⟨F7, ρ7, s7, acc7, ⟨x7, sx7⟩, k7, a7, h7'⟩ y => ?_) fun H7 ⟨F7, ρ7, s7, acc7, ⟨x7, sx7⟩, k7, a7, h7'⟩ => ?_
        · have ed : ds1[j]? = some ds1[j] := List.getElem?_eq_getElem hj
          obtain ⟨hH, rp⟩ := hY1 j F7 H7 x H8 _ sx7 ed y
          rw [List.drop_eq_getElem_cons hj] at h7'
          have kk : Ok K B F7 ρ7 s7 (L2.wipe σ3 vs1) H8 ∧ GX s7 (L2.wipe σ3 vs1) F7 ρ7 H7 s7 (L2.wipe σ3 vs1) F7 ρ7 H8 := by
            rcases hH with rfl | ⟨p, o, hn, rfl⟩
            · exact ⟨k7, .refl⟩
            · exact ⟨k7.new hn, (Ext.new_ hn).gx⟩
          obtain ⟨k8, x8⟩ := kk
          exact turn_okG his1 hL hB (x7.trans x8) k8 (a7.mono k7 x8) rp h7' fun F9 ρ9 s9 H9 acc9 g9 k9 a9 sx9 h9 => ⟨F9, ρ9, s9, acc9, ⟨g9, (sx7.trans (k7.gsx x8)).trans sx9⟩, k9, a9, h9⟩
        · rw [List.drop_length] at h7'
          have h8 : Run (compLoop2 vs vs1 g c1 src1 g1 c2 m (ds.drop (i + 1)) acc7) (s7.wipe vs) R er := Run.bind (m := wipeM vs) (Run.ret (er := er) h7')
          have k8 := k7.wipe_ vs
          rw [ew2] at k8
          have gw8 : GX s7 (L2.wipe σ3 vs1) F7 ρ7 H7 (s7.wipe vs) (L2.wipe σ vs) F7 ρ7 H7 := by rw [← ew2]; exact gx_wipe
          exact ⟨F7, ρ7, _, acc7, x7.trans gw8, k8, a7.mono k7 gw8, h8⟩
    · have e : i = ds.length := by omega
      subst e
      rw [List.drop_length] at h'
      obtain ⟨kr, er'⟩ := Ok.restore k1 hf x' k'
      obtain ⟨us, q1, q2⟩ := a'.at_
      have ow : ¬ OwnedBy (s'.rest s1 vs) σ L := fun z => by
        have := er'.ow L z
        exact k1.nO hL this
      exact .inl ⟨wk.stops H' q, (Run.ret (er := fun _ _ => False) h') F' ρ' H' _ (e1.trans er' k1.sto) kr ⟨L, us, rfl, q1, q2, a'.nF, a'.nρ, ow, hB⟩ fun a e => by cases e; exact e1.th L hL⟩
  · unfold Run lcM at h1'
    rw [if_neg hf] at h1'
    exact h1'.elim
theorem i_lc2 (hc : X.calm = true) (hN : X.N.Nodup) (hi : DI X Wx tg iter src) (ok : BlkOk X.N X.env.scope scope own) (hv : ∀ j ∈ vs1, j ∈ own.map (·.2))
    (hg : ∀ (s : Shared) (H : Hp) (C : Addr) (cl : List (Str × Addr)) (fp : List Addr), DG (X.blk s H scope (compEnvC scope cl C X.env) fp) Wx0 is tg g)
    (ht : ∀ (s : Shared) (H : Hp) (C : Addr) (cl : List (Str × Addr)) (fp : List Addr), DTs (X.blk s H scope (compEnvC scope cl C X.env) fp) ifs c1)
    (hi1 : ∀ (s : Shared) (H : Hp) (C : Addr) (cl : List (Str × Addr)) (fp : List Addr), DI (X.blk s H scope (compEnvC scope cl C X.env) fp) Wx0 tg1 iter1 src1)
    (hg1 : ∀ (s : Shared) (H : Hp) (C : Addr) (cl : List (Str × Addr)) (fp : List Addr), DG (X.blk s H scope (compEnvC scope cl C X.env) fp) Wx0 is1 tg1 g1)
    (ht1 : ∀ (s : Shared) (H : Hp) (C : Addr) (cl : List (Str × Addr)) (fp : List Addr), DTs (X.blk s H scope (compEnvC scope cl C X.env) fp) ifs1 c2)
    (he : ∀ (s : Shared) (H : Hp) (C : Addr) (cl : List (Str × Addr)) (fp : List Addr), DE (X.blk s H scope (compEnvC scope cl C X.env) fp) Wx0 e m) (his : ∀ j ∈ is, j ∈ own.map (·.2)) (his1 : ∀ j ∈ is1, j ∈ vs1)
    (hs : ∀ x, foldedSetIterable iter X.env x = pure x := by intro _; rfl) (hs1 : ∀ env x, foldedSetIterable iter1 env x = pure x := by intro _ _; rfl) :
    DE X Wx (.ListComp e [⟨tg, iter, ifs, 0⟩, ⟨tg1, iter1, ifs1, 0⟩] scope pos) (eLc2 (own.map (·.2)) vs1 src g c1 src1 g1 c2 m) :=
  pe_mono (pe_lc2 hc hN hi ok hv hg ht hi1 hg1 ht1 he hs hs1) fun σ H Q h => lc2_step his his1 hv h
theorem s_setLc2 {i : Nat} {y : Str} {py spos : Pos} (hc : X.calm = true) (hN : X.N.Nodup) (hy : X.N[i]? = some y) (hyl : X.env.scope.names.lookup y = some .local)
    (hsw : swapsWith (.ListComp e [⟨tg, iter, ifs, 0⟩, ⟨tg1, iter1, ifs1, 0⟩] scope pos) (some (.Name y py)) spos.line X.env = pure true) (hi : DI X Wx tg iter src) (ok : BlkOk X.N X.env.scope scope own) (hv : ∀ j ∈ vs1, j ∈ own.map (·.2))
    (hg : ∀ (s : Shared) (H : Hp) (C : Addr) (cl : List (Str × Addr)) (fp : List Addr), DG (X.blk s H scope (compEnvC scope cl C X.env) fp) Wx0 is tg g)
    (ht : ∀ (s : Shared) (H : Hp) (C : Addr) (cl : List (Str × Addr)) (fp : List Addr), DTs (X.blk s H scope (compEnvC scope cl C X.env) fp) ifs c1)
    (hi1 : ∀ (s : Shared) (H : Hp) (C : Addr) (cl : List (Str × Addr)) (fp : List Addr), DI (X.blk s H scope (compEnvC scope cl C X.env) fp) Wx0 tg1 iter1 src1)
    (hg1 : ∀ (s : Shared) (H : Hp) (C : Addr) (cl : List (Str × Addr)) (fp : List Addr), DG (X.blk s H scope (compEnvC scope cl C X.env) fp) Wx0 is1 tg1 g1)
    (ht1 : ∀ (s : Shared) (H : Hp) (C : Addr) (cl : List (Str × Addr)) (fp : List Addr), DTs (X.blk s H scope (compEnvC scope cl C X.env) fp) ifs1 c2)
    (he : ∀ (s : Shared) (H : Hp) (C : Addr) (cl : List (Str × Addr)) (fp : List Addr), DE (X.blk s H scope (compEnvC scope cl C X.env) fp) Wx0 e m) (his : ∀ j ∈ is, j ∈ own.map (·.2)) (his1 : ∀ j ∈ is1, j ∈ vs1)
    (hs : ∀ x, foldedSetIterable iter X.env x = pure x := by intro _; rfl) (hs1 : ∀ env x, foldedSetIterable iter1 env x = pure x := by intro _ _; rfl) :
    DS X Wx (.Assign [.Name y py] (.ListComp e [⟨tg, iter, ifs, 0⟩, ⟨tg1, iter1, ifs1, 0⟩] scope pos) spos) (sAsg i (eLc2 (own.map (·.2)) vs1 src g c1 src1 g1 c2 m)) :=
  ps_mono (ps_setLc2 hc hN hy hyl hsw hi ok hv hg ht hi1 hg1 ht1 he hs hs1) fun D σ H h => lc2_step his his1 hv (asg_step h)
/-! ### starred displays -/
def valsD : List D → List W := List.map .val
def aStar (m : M W) (r : M (List W)) : M (List W) := m >>= fun a => escW a >>= fun w => ofO (itemsD w) >>= fun ds => r >>= fun ws => Pure.pure (valsD ds ++ ws)
theorem wall_vals {K : PySem.W.Frag} {B : Base} {F : Fz} {ρ : List Addr} {s : S} {σ : Sg} {H : Hp} : ∀ {vs : List V} {ds : List D}, RpAll K F H vs ds → WAll K B F ρ s σ H vs (valsD ds)
  | _, _, .nil => .nil
  | _, _, .cons a b => .cons a (wall_vals b)
theorem a_star {es : List Expr} {ma : M (List W)} {p : Pos} (ha : DE X Wx e m) (hr : DA X Wx es ma) (hs : starEach (.Starred e p :: es) X.env = (true, eval e X.env) :: starEach es X.env := by rfl) : DA X Wx (.Starred e p :: es) (aStar m ma) :=
  pa_mono (StX.pa_star ha hr hs) fun σ H Q ⟨B, F, ρ, s, k, h⟩ => by
    refine ⟨B, F, ρ, s, k, (Run.bind h).mono (fun w1 s1 _ h1 F1 ρ1 H1 x e1 k1 o1 f1 => ?_) fun _ _ _ e => e⟩
    obtain ⟨F2, s2, w2, k2, e2, o2, st2, h2⟩ := esc_ok k1.sto e1 k1 o1 f1 (Run.bind h1)
    obtain ⟨ds, ed, h3⟩ := Run.ofOb h2
    obtain ⟨a, t, vs, rfl, r, sq⟩ := seq_ok k2 o2 ed
    have sq0 := sq F2 H1 .refl
    have sq1 : SqT X.K H1 a vs ∨ SqL X.K H1 a vs := match t, sq0 with
      | true, z => .inl z
      | false, z => .inr z
    refine ⟨a, vs, rfl, sq1, B, F2, ρ1, s2, k2, (Run.bind h3).mono (fun ws s3 _ h3 F3 ρ3 H3 us e3 k3 o3 => ?_) fun _ _ _ e => e⟩
    have x3 := k2.sx e3
    exact (Run.ret h3) F3 ρ3 H3 _ (e2.trans e3 k2.sto) k3 ((wall_vals (x3.rpAll r)).app o3)
end
end Z
/-! Z, part 14: the module's names as facts; the law's end. -/
namespace Z
open PySem PySem.Spec PyProof.Rows L2

/-! ### constants of the module -/
mutual
def conB (K : PySem.W.Frag) : D → Value → Bool
  | .none, .none => true
  | .bool b, .bool c => b == c
  | .int i, .int j _ => decide (i = j)
  | .str x, .str y _ => decide (x = y)
  | .tuple ds, .ref a => (match K.lookup a with
    | some ⟨.type c, _, .seq its _, _⟩ => decide (c = "tuple") && (decide (its.size ≤ sizeLine) && conAll K ds its.toList)
    | _ => false)
  | _, _ => false
def conAll (K : PySem.W.Frag) : List D → List Value → Bool
  | [], [] => true
  | d :: ds, u :: us => conB K d u && conAll K ds us
  | _, _ => false
end
mutual
theorem conB_ok {K : PySem.W.Frag} : ∀ (d : D) (u : Value), conB K d u = true → ∃ v, RelV v u ∧ ∀ F H, Rp K F H v d
  | .none, u, h => by
    cases u with
    | none => exact ⟨.non, rfl, fun _ _ => .non⟩
    | _ => cases h
  | .bool b, u, h => by
    cases u with
    | bool c =>
      have : b = c := eq_of_beq h
      subst this
      exact ⟨.bl b, rfl, fun _ _ => .bl b⟩
    | _ => cases h
  | .int i, u, h => by
    cases u with
    | int j t =>
      have : i = j := of_decide_eq_true h
      subst this
      exact ⟨.int i, ⟨t, rfl⟩, fun _ _ => .int i⟩
    | _ => cases h
  | .str i, u, h => by
    cases u with
    | str j t =>
      have : i = j := of_decide_eq_true h
      subst this
      exact ⟨.str i, ⟨t, rfl⟩, fun _ _ => .str i⟩
    | _ => cases h
  | .tuple ds, u, h => by
    cases u with
    | ref a =>
      have h1 : (match K.lookup a with
        | some ⟨.type c, _, .seq its _, _⟩ => decide (c = "tuple") && (decide (its.size ≤ sizeLine) && conAll K ds its.toList)
        | _ => false) = true := h
      cases q : K.lookup a with
      | none => rw [q] at h1; cases h1
      | some o =>
        obtain ⟨oc, od, dt, osl⟩ := o
        rw [q] at h1
        cases oc with
        | type c =>
          cases dt with
          | seq its n =>
            obtain ⟨h2, h3⟩ := He.ba (show (decide (c = "tuple") && (decide (its.size ≤ sizeLine) && conAll K ds its.toList)) = true from h1)
            obtain ⟨h4, h5⟩ := He.ba h3
            obtain ⟨vs, rv, rp⟩ := conAll_ok ds its.toList h5
            exact ⟨.ref a, rfl, fun F H => .tup (.inr ⟨_, its, n, q, congrArg Value.type (of_decide_eq_true h2), rfl, of_decide_eq_true h4, rv⟩) (rp F H)⟩
          | _ => cases h1
        | _ => cases dt <;> cases h1
    | _ => cases h
  | .list ds, u, h => by cases u <;> cases h
  | .dict ds, u, h => by cases u <;> cases h
theorem conAll_ok {K : PySem.W.Frag} : ∀ (ds : List D) (us : List Value), conAll K ds us = true → ∃ vs, Vals vs us ∧ ∀ F H, RpAll K F H vs ds
  | [], [], _ => ⟨[], .nil, fun _ _ => .nil⟩
  | [], _ :: _, h => by cases h
  | _ :: _, [], h => by cases h
  | d :: ds, u :: us, h => by
    obtain ⟨h1, h2⟩ := He.ba (show (conB K d u && conAll K ds us) = true from h)
    obtain ⟨v, r1, p1⟩ := conB_ok d u h1
    obtain ⟨vs, r2, p2⟩ := conAll_ok ds us h2
    exact ⟨v :: vs, .cons r1 r2, fun F H => .cons (p1 F H) (p2 F H)⟩
end
def Con (K : PySem.W.Frag) (mg : Str → Option Value) (x : Str) (d : D) : Prop := ∃ u v, mg x = some u ∧ RelV v u ∧ ∀ F H, Rp K F H v d
theorem i_con {X : Cx} {Wx : WX} {x : Str} {d : D} {pos : Pos} (C : Con X.K X.mg x d) (hg : Gl X x := by rfl) (hdb : (x == ("__debug__" : Str)) = false := by decide) : DE X Wx (.Name x pos) (eC d) := by
  obtain ⟨u, v, hm, r, hd⟩ := C
  exact i_glob hg hm r hd hdb
/-! ### more facts -/
inductive Fb where
  | con (x : Str) (d : D)
  | blt (x : Str) (id : String)
def isBlt (id : String) : Option (Option Value) → Bool
  | some (some (.builtin i)) => decide (i = id)
  | _ => false
def Fb.ok (K : PySem.W.Frag) : Fb → Bool
  | .con x d => (match PySem.W.nsIn K mainGlobals x with
    | some (some u) => conB K d u
    | _ => false)
  | .blt x id => (match PySem.W.nsIn K mainGlobals x with
    | some (some (.builtin i)) => decide (i = id)
    | _ => false)
section
variable {K : PySem.W.Frag} {h : Heap} {mg : Str → Option Value}
theorem con_ok (X : K.In h) (G : h.Ns mainGlobals mg) {x : Str} {d : D} (c : (Fb.con x d).ok K = true) : Con K mg x d := by
  have c1 : (match PySem.W.nsIn K mainGlobals x with
    | some (some u) => conB K d u
    | _ => false) = true := c
  cases e : PySem.W.nsIn K mainGlobals x with
  | none => rw [e] at c1; cases c1
  | some o =>
    rw [e] at c1
    cases o with
    | none => cases c1
    | some u =>
      obtain ⟨v, r, p⟩ := conB_ok d u c1
      exact ⟨u, v, PySem.W.mg_of X G e, r, p⟩
theorem blt_ok (X : K.In h) (G : h.Ns mainGlobals mg) {x : Str} {id : String} (c : (Fb.blt x id).ok K = true) : mg x = some (.builtin id) := by
  have c1 : (match PySem.W.nsIn K mainGlobals x with
    | some (some (.builtin i)) => decide (i = id)
    | _ => false) = true := c
  cases e : PySem.W.nsIn K mainGlobals x with
  | none => rw [e] at c1; cases c1
  | some o =>
    rw [e] at c1
    cases o with
    | none => cases c1
    | some u =>
      cases u with
      | builtin i =>
        have : i = id := of_decide_eq_true c1
        subst this
        exact PySem.W.mg_of X G e
      | _ => cases c1
end
def obsZ (fa : List He.Fa) (fb : List Fb) (fn : List He.DefD) (K : PySem.W.Frag) : He.AlD := ((He.obsD fa fn K).1 && fb.all fun f => f.ok K, (He.obsD fa fn K).2)
def SaysZ (fa : List He.Fa) (fb : List Fb) (fn : List He.DefD) (K : PySem.W.Frag) : Prop := He.SaysD fa fn K ∧ (fb.all fun f => f.ok K) = true
theorem says_of {fa : List He.Fa} {fb : List Fb} {fn : List He.DefD} {K : PySem.W.Frag} (e : obsZ fa fb fn K = He.valD fn) : SaysZ fa fb fn K := by
  have g1 : (obsZ fa fb fn K).1 = (He.valD fn).1 := congrArg (fun z : He.AlD => z.1) e
  have g2 : (obsZ fa fb fn K).2 = (He.valD fn).2 := congrArg (fun z : He.AlD => z.2) e
  have h1 : ((He.obsD fa fn K).1 && fb.all fun f => f.ok K) = true := g1
  have h2 : (He.obsD fa fn K).2 = (He.valD fn).2 := g2
  obtain ⟨h3, h4⟩ := He.ba h1
  exact ⟨Prod.ext h3 h2, h4⟩
def obsZG (n : Nat) (fa : List He.Fa) (fb : List Fb) (fn : List He.DefD) (g : Addr → Option Obj) : He.AlD := obsZ fa fb fn (He.frG g (He.asD g n))
def hookZ (n : Nat) (fa : List He.Fa) (fb : List Fb) (fn : List He.DefD) : PySem.W.Hook where
  α := He.AlD
  obs := fun s => obsZG n fa fb fn s.heap.get?
  val := fun _ => He.valD fn
  says := fun _ h => ∃ K : PySem.W.Frag, K.In h ∧ SaysZ fa fb fn K
  of := fun _ _ e => ⟨_, He.frG_in, says_of e⟩
  keeps := fun _ _ _ ⟨K, hK, c⟩ k => ⟨K, PySem.W.Frag.In.keeps hK k, c⟩
theorem obsZG_eq {n : Nat} {fa : List He.Fa} {fb : List Fb} {fn : List He.DefD} {g : Addr → Option Obj} {s : Shared} (h : ∀ a, g a = s.heap.get? a) : obsZG n fa fb fn g = (hookZ n fa fb fn).obs s := by
  have e : g = s.heap.get? := funext h
  rw [e] <;> rfl
section
variable {fa : List He.Fa} {fb : List Fb} {fn : List He.DefD} {K : PySem.W.Frag}
theorem SaysZ.fact (c : SaysZ fa fb fn K) (i : Nat) {f : He.Fa} (h : fa[i]? = some f := by rfl) : f.ok K = true := c.1.fact i h
theorem SaysZ.more (c : SaysZ fa fb fn K) (i : Nat) {f : Fb} (h : fb[i]? = some f := by rfl) : f.ok K = true := List.all_eq_true.mp c.2 f (List.mem_of_getElem? h)
end
/-! ### nothing goes out of a comprehension; nothing is asked of what is never reached -/
theorem takes0 {X : Cx} : Takes X Wx0 := fun u s' ⟨_, _, _, _, _, _, _, _, _, _, _, _, _, _, _, _, w⟩ => w.elim
theorem b_never {X : Cx} {Wx : WX} {st : List Stmt} : DB X Wx st sFail := ⟨fun pins s σ H D I ⟨B, F, ρ, s', k, h⟩ => h.elim⟩
theorem e_never {X : Cx} {Wx : WX} {e : Expr} : DE X Wx e M.fail := ⟨fun pins s σ H D I ⟨B, F, ρ, s', k, h⟩ => h.elim⟩
theorem c_never {X : Cx} {Wx : WX} {e : Expr} : DC X Wx e M.fail := ⟨fun pins s σ H D I ⟨B, F, ρ, s', k, h⟩ => h.elim⟩
theorem hu64 {k : Nat} {A : Around} (r : Room k A) : A.units + 64 < cLine := r.units
theorem hu65 {k : Nat} {A : Around} (r : Room k A) : A.units + 65 < cLine := by have := r.un; omega
/-! ### the law's own call -/
theorem law_end {K : PySem.W.Frag} {mg : Str → Option Value} {f : Fn} {H : Hp} {a : Addr} {ns : List Int} (hO : Only H) (hS : SqL K H a (ns.map V.int)) (h : ∃ st, f [.scr ns] [] = .ok (.val (.bool true)) st) :
    spZ K mg 1 f [.ref a] H (fun v _ => v = .bl true) fun _ _ _ => False := by
  obtain ⟨st, e⟩ := h
  have hs : ScrAt K H a ns := by
    rcases hS with h | h
    · rcases h with h | ⟨o, h⟩
      · rcases hO a with z | ⟨o, xs, z⟩
        · rw [h] at z; cases z
        · rw [h] at z; cases z
      · exact .inl ⟨o, h⟩
    · exact .inr (.inr h)
  refine ⟨fun _ => False, [], [], [.scr ns], rfl, ⟨fun _ z => z.elim, ⟨rfl, List.nodup_nil, fun n ds e => by simp at e⟩⟩, .cons ⟨a, rfl, hs⟩ .nil, ?_⟩
  unfold FRun
  rw [e]
  exact fun F' ρ' v H' _ _ r => by
    have r' : Rp K F' H' v (.bool true) := r
    cases r'
    rfl
/-- a law over the world's own readings of what is let out -/
theorem walk_ofZ {l : PySem.W.OpenLaw} {n k : Nat} {q : Program} {loose : List Str} {XP : (Str → Option Value) → Heap → Prop} {YP : World → Heap → Prop} {d : DefRec} {x : Str} (hn : l.most = some n) (hn2 : n ≤ sizeLine) (hdf : d.params.defaults = []) (hr : Room k callerA)
    (F : ∀ (w : World) (mg : Str → Option Value) (fa : Addr) (h : Heap), YP w h → h.Ns mainGlobals mg → mg d.name = some (.ref fa) → ∃ (K : PySem.W.Frag) (fd : FuncData) (f : Fn), K.In h ∧
      (∀ (s : Shared) (u : Value), BindsTo s fd ⟨[u], []⟩ [(x, u)]) ∧ (∀ ns : List Int, ns.length ≤ n → ∃ st, f [.scr ns] [] = .ok (.val (.bool true)) st) ∧ ∀ base : Heap, K.In base → base.Ns mainGlobals mg → FnOk l.prog w K mg base (L2.CX l.prog w) k fa fd [x] (spZ K mg 1 f)) :
    PySem.W.WalkO q loose XP YP l.row.toRowW d [] (fun f vs => PySem.call f vs) := by
  refine Att.attach_call hn hdf fun w s₀ s₁ mg mb fa o pm cd doc a vs ns G Y ho hd hcd hmg hobj hints hlen hg => ?_
  obtain ⟨K, fd, f, KX, hb, hlaw, hF⟩ := F w mg fa _ Y G.T.g hmg
  exact law_call KX G.T.g G.T.b G.T.builtins G.T.nolimit hg hobj hints (Nat.le_trans hlen hn2) hr hF hb (fun H hO hS => law_end hO hS (hlaw ns hlen)) fun H e s' h => by
    obtain ⟨_, _, _, _, _, _, _, _, _, _, _, _, z⟩ := h
    exact z
end Z
/-! Z, part 15: sum of lists, from a list. -/
namespace Z
open PySem PySem.Spec PyProof.Rows L2

/-- what stands in the lists from the i-th on -/
def restL (ls : Nat → List Value) (i : Nat) : Nat → List Value
  | 0 => []
  | k + 1 => ls i ++ restL ls (i + 1) k
section
variable {prog : Program} {w : World} {A : Around} {R : Result → Shared → Prop} {I : Addr} {fp wr : List Addr} {n : Nat} {P : Nat → Value → Prop} {St : Nat → Heap → Prop}
theorem fresh_size {h : Heap} {b : Addr} {o : Obj} (e : h.get? b = some o) : h.objs.size ≠ b := Nat.ne_of_gt (Heap.lt_size e)
theorem sum_lists_loop (W : Walks prog w A.in1 I fp wr n P St) (hfl : ∀ i h, St i h → ∀ b ∈ fp, ∃ o, h.get? b = some o) (ad : Nat → Addr) (ls : Nat → List Value) (cp : Nat → Nat) (hval : ∀ i v, P i v → v = .ref (ad i)) (S : Addr) (hSf : S ∉ fp) (hSa : ∀ i, i < n → ad i ≠ S) (hwa : ∀ i, i < n → ad i ∉ wr) :
    ∀ (k i : Nat) (s : Shared) (T : Addr) (acc : List Value) (ct c : Nat), n - i = k → i ≤ n → St i s.heap → IsL s.heap S #[.ref T] c → T ≠ S → T ∉ wr → IsL s.heap T acc.toArray ct → (∀ j, j < n → IsL s.heap (ad j) (ls j).toArray (cp j)) → (acc ++ restL ls i k).length ≤ sizeLine →
    (∀ h' tk T' ct', IsL h' T' (acc ++ restL ls i k).toArray ct' → (k = 0 → T' = T) → (k ≠ 0 → s.heap.get? T' = none) → (∀ b o, b ∉ wr → b ≠ S → s.heap.get? b = some o → h'.get? b = some o) → R (.ok (.ret (.ref T'))) { s with heap := h', toks := tk }) →
    codeAny (model prog w) A (.builtin "sum.loop" ⟨[.ref I, .ref S, rawInt 2, rawInt 0], []⟩) R s := by
  have hSw : S ∉ wr := fun h => hSf (W.sub _ h)
  intro k
  induction k with
  | zero =>
    intro i s T acc ct c hk hi hst hS hTS hTw hT hL hz hR
    have hin : i = n := by omega
    subst hin
    refine codeAny_builtin F.entry_sum_loop ?_
    rw [Around.under_plainId F.plain_sum_loop _]
    show wpAny _ A.in1 (seqItems? (.ref S) >>= _) _ _ s
    refine wpAny_bind (wpAny_seqItems hS rfl ?_)
    show wpAny _ A.in1 (tryCatch (pyNext (.ref I)) _ >>= _) _ _ s
    refine wpAny_bind (wpAny_tryCatch (W.done s _ _ hst fun h' tk hk' => ?_))
    refine wpAny_pure (hR h' tk T ct ?_ (fun _ => rfl) (fun h => absurd rfl h) fun b o hbw _ e => hk' b o hbw e)
    show IsL h' T (acc ++ []).toArray ct
    rw [List.append_nil]
    exact hk' T _ hTw hT
  | succ k ih =>
    intro i s T acc ct c hk hi hst hS hTS hTw hT hL hz hR
    have hlt : i < n := by omega
    have hz' : (acc ++ (ls i ++ restL ls (i + 1) k)).length ≤ sizeLine := hz
    have hlen : acc.length + ((ls i).length + (restL ls (i + 1) k).length) ≤ sizeLine := by simpa using hz'
    refine codeAny_builtin F.entry_sum_loop ?_
    rw [Around.under_plainId F.plain_sum_loop _]
    show wpAny _ A.in1 (seqItems? (.ref S) >>= _) _ _ s
    refine wpAny_bind (wpAny_seqItems hS rfl ?_)
    show wpAny _ A.in1 (tryCatch (pyNext (.ref I)) _ >>= _) _ _ s
    refine wpAny_bind (wpAny_tryCatch (W.item i s _ _ hlt hst fun v h' tk hP hst' hk' => ?_))
    obtain rfl := hval i v hP
    have hS' := hk' S _ hSw hS
    have hT' := hk' T _ hTw hT
    have hL' := hk' (ad i) _ (hwa i hlt) (hL i hlt)
    show wpAny _ A.in1 ((holding [Value.ref (ad i)] (binaryOp .Add (.ref T) (.ref (ad i)))).attempt >>= _) _ _ _
    refine wpAny_bind (wpAny_attempt (wpAny_holding (PySem.P.add_list hT' hL' ?_ (by rw [List.size_toArray, List.size_toArray]; omega))))
    have ea : acc.toArray ++ (ls i).toArray = (acc ++ ls i).toArray := by simp
    rw [ea]
    generalize hp : h'.objs.size = p
    have push : ∀ b o, h'.get? b = some o → (h'.push { cls := .type "list", data := .seq (acc ++ ls i).toArray }).get? b = some o := fun b o e => Heap.get?_push_of_some _ e
    have hp2 : (h'.push { cls := .type "list", data := .seq (acc ++ ls i).toArray }).get? p = some { cls := .type "list", data := .seq (acc ++ ls i).toArray } := by rw [← hp]; exact Heap.get?_push_size _ rfl
    have np : ∀ b o, h'.get? b = some o → p ≠ b := fun b o e => by rw [← hp]; exact fresh_size e
    have pS : p ≠ S := np S _ hS'
    have pf : p ∉ fp := fun hb => by
      obtain ⟨o, e⟩ := hfl _ _ hst' p hb
      exact np p o e rfl
    have pw : p ∉ wr := fun hb => pf (W.sub _ hb)
    have pn : s.heap.get? p = none := by
      cases q : s.heap.get? p with
      | none => rfl
      | some o => exact absurd rfl (np p o (hk' p o pw q))
    show wpAny _ A.in1 (updateSeq S (fun _ => #[.ref p]) >>= _) _ _ _
    refine wpAny_bind ?_
    have hS1 := push S _ hS'
    refine wpAny_updateSeq hS1 rfl ?_
    have hS2 := Heap.get?_update_self (Obj.mapSeq fun _ => #[Value.ref p]) hS1 rfl
    refine wpAny_bind (wpAny_letGo ?_)
    refine wpAny_bind ?_
    refine wpAny_updateSeq hS2 rfl ?_
    have hS3 := Heap.get?_update_self (Obj.mapSeq fun _ => #[Value.ref p]) hS2 rfl
    have up : ∀ b o, b ≠ S → h'.get? b = some o → (((h'.push { cls := .type "list", data := .seq (acc ++ ls i).toArray }).update S (Obj.mapSeq fun _ => #[Value.ref p])).update S (Obj.mapSeq fun _ => #[Value.ref p])).get? b = some o := fun b o hb e =>
      (Heap.get?_update_other _ _ (Ne.symm hb)).trans ((Heap.get?_update_other _ _ (Ne.symm hb)).trans (push b o e))
    have up2 : ∀ b o, b ≠ S → (h'.push { cls := .type "list", data := .seq (acc ++ ls i).toArray }).get? b = some o → (((h'.push { cls := .type "list", data := .seq (acc ++ ls i).toArray }).update S (Obj.mapSeq fun _ => #[Value.ref p])).update S (Obj.mapSeq fun _ => #[Value.ref p])).get? b = some o := fun b o hb e =>
      (Heap.get?_update_other _ _ (Ne.symm hb)).trans ((Heap.get?_update_other _ _ (Ne.symm hb)).trans e)
    refine wpAny_pure ⟨plainId_quiet F.plain_sum_loop _, ih (i + 1) _ p (acc ++ ls i) 0 _ (by omega) hlt (W.frame _ _ _ hst' fun b hb o e => up b o (fun q => hSf (q ▸ hb)) e) hS3 pS pw (up2 p _ pS hp2) (fun j hj => up _ _ (hSa j hj) (hk' _ _ (hwa j hj) (hL j hj))) (by rw [List.append_assoc]; exact hz') fun h'' tk'' T' ct' g1 g2 g3 g4 => ?_⟩
    refine hR h'' tk'' T' ct' (by rw [List.append_assoc] at g1; exact g1) (fun h => absurd h (Nat.succ_ne_zero k)) (fun _ => ?_) fun b o hbw hbS e => g4 b o hbw hbS (up b o hbS (hk' b o hbw e))
    by_cases h0 : k = 0
    · subst h0
      rw [g2 rfl]
      exact pn
    · have q1 := g3 h0
      cases q : s.heap.get? T' with
      | none => rfl
      | some o =>
        exfalso
        by_cases c1 : T' ∈ wr
        · obtain ⟨o2, e2⟩ := hfl _ _ hst' T' (W.sub _ c1)
          rw [up T' o2 (fun z => hSw (z ▸ c1)) e2] at q1
          cases q1
        · by_cases c2 : T' = S
          · rw [c2, hS3] at q1
            cases q1
          · rw [up T' o c2 (hk' T' o c1 q)] at q1
            cases q1
end
section
variable {prog : Program} {w : World} {A : Around} {E : Value → Shared → Prop} {s : Shared}
theorem args_sum2 (a b : Value) : argsOk "sum" ⟨[a, b], []⟩ := by unfold argsOk; kernel_rfl
theorem call_sum_lists (hh : A.handled = none) {l T : Addr} {items : Array Value} {acc : List Value} {ct : Nat} {Q : Value → Shared → Prop} (hl : s.heap.IsList l items) (ad : Nat → Addr) (ls : Nat → List Value) (cp : Nat → Nat) (hval : ∀ (i : Nat) (v : Value), items[i]? = some v → v = .ref (ad i))
    (hT : IsL s.heap T acc.toArray ct) (hL : ∀ j, j < items.size → IsL s.heap (ad j) (ls j).toArray (cp j)) (hz : (acc ++ restL ls 0 items.size).length ≤ sizeLine)
    (h : ∀ h' tk T' ct', IsL h' T' (acc ++ restL ls 0 items.size).toArray ct' → (items.size = 0 → T' = T) → (items.size ≠ 0 → s.heap.get? T' = none) → (∀ b o, s.heap.get? b = some o → h'.get? b = some o) → Q (.ref T') { s with heap := h', toks := tk }) :
    wpAny (model prog w) A (call (.builtin "sum") [.ref l, .ref T]) Q E s := by
  have hlt : ∀ {b o}, s.heap.get? b = some o → b < s.heap.objs.size := fun e => Heap.lt_size e
  obtain ⟨ol, hol, hlc, nl, hld⟩ := id hl
  refine call_function_tree F.kind_sum F.plain_sum F.entry_sum (args_sum2 _ _) ?_
  unfold Builtin.«sum»
  simp only [List.length_cons, List.length_nil]
  rw [if_neg (by decide)]
  refine wpAny_bind (wpAny_of_eq (show Builtin.Builtins.bindParams "sum" ["start"] 0 ⟨[Value.ref T], []⟩ = pure [some (Value.ref T)] from rfl) ?_)
  refine wpAny_bind (wpAny_pyIter_list hl ?_)
  refine wpAny_bind (wpAny_pure ?_)
  have k1 : ∀ b o, s.heap.get? b = some o → (s.heap.push { cls := .type "list_iterator", data := .fields #[.ref l, .int 0 0] }).get? b = some o := fun b o e => Heap.get?_push_of_some _ e
  have hTy : Shared.TypeIs { s with heap := s.heap.push { cls := .type "list_iterator", data := .fields #[.ref l, .int 0 0] } } (.ref T) "list" := ⟨_, k1 T _ hT, rfl⟩
  simp only [List.forIn_cons, List.forIn_nil]
  refine wpAny_bind (wpAny_bind (wpAny_bind (wpAny_isInstance (T := "list") (b := false) hTy F.sub_list_str ?_)))
  simp only [Bool.false_eq_true, if_false]
  refine wpAny_pure (wpAny_bind (wpAny_bind (wpAny_isInstance (T := "list") (b := false) hTy F.sub_list_bytes ?_)))
  simp only [Bool.false_eq_true, if_false]
  refine wpAny_pure (wpAny_bind (wpAny_bind (wpAny_isInstance (T := "list") (b := false) hTy F.sub_list_bytearray ?_)))
  simp only [Bool.false_eq_true, if_false]
  refine wpAny_pure (wpAny_pure ?_)
  refine wpAny_bind (wpAny_newObj_type ?_)
  generalize hI : s.heap.objs.size = I at *
  have hit : (s.heap.push { cls := .type "list_iterator", data := .fields #[.ref l, .int 0 0] }).get? I = some { cls := .type "list_iterator", data := .fields #[.ref l, .int 0 0] } := by rw [← hI]; exact Heap.get?_push_size _ rfl
  generalize s.heap.push { cls := .type "list_iterator", data := .fields #[.ref l, .int 0 0] } = h1 at *
  have hlI : l ≠ I := Nat.ne_of_lt (hlt hol)
  have hTI : T ≠ I := Nat.ne_of_lt (hlt hT)
  generalize hS : h1.objs.size = S
  have k2 : ∀ b o, h1.get? b = some o → (h1.push { cls := .type "list", data := .seq #[Value.ref T] }).get? b = some o := fun b o e => Heap.get?_push_of_some _ e
  have hS2 : (h1.push { cls := .type "list", data := .seq #[Value.ref T] }).get? S = some { cls := .type "list", data := .seq #[Value.ref T] } := by rw [← hS]; exact Heap.get?_push_size _ rfl
  have ne : ∀ b o, h1.get? b = some o → b ≠ S := fun b o e => by rw [← hS]; exact Nat.ne_of_lt (Heap.lt_size e)
  have W := Walks.list (prog := prog) (w := w) (A := A.in1) hh I l hlI items
  refine wpAny_pure ⟨plainId_quiet F.plain_sum_loop _, sum_lists_loop W (fun i h st b hb => ?_) ad ls cp hval S ?_ (fun i hi => ne _ _ (k1 _ _ (hL i hi))) (fun i hi hm => ?_) items.size 0 _ T acc ct _ (Nat.sub_zero _) (Nat.zero_le _) ⟨⟨_, k2 _ _ hit, rfl, rfl⟩, ⟨ol, k2 _ _ (k1 _ _ hol), hlc, nl, hld⟩⟩ hS2 (ne _ _ (k1 _ _ hT)) ?_ (k2 _ _ (k1 _ _ hT)) (fun j hj => k2 _ _ (k1 _ _ (hL j hj))) hz fun h' tk T' ct' g1 g2 g3 g4 => ?_⟩
  · obtain ⟨⟨o1, e1, _⟩, ⟨o2, e2, _⟩⟩ := st
    have hb' : b = I ∨ b = l := by simpa using hb
    rcases hb' with rfl | rfl
    · exact ⟨o1, e1⟩
    · exact ⟨o2, e2⟩
  · intro hm
    have hm' : S = I ∨ S = l := by simpa using hm
    rcases hm' with q | q
    · exact ne I _ hit q.symm
    · exact ne l _ (k1 _ _ hol) q.symm
  · have q : ad i = I := by simpa using hm
    exact Nat.ne_of_lt (hlt (hL i hi)) q
  · intro hm
    exact hTI (by simpa using hm)
  · refine h h' tk T' ct' g1 g2 (fun h0 => ?_) fun b o e => g4 b o (fun hm => ?_) (ne _ _ (k1 _ _ e)) (k2 _ _ (k1 _ _ e))
    · have q := g3 h0
      cases q2 : s.heap.get? T' with
      | none => rfl
      | some o => rw [k2 _ _ (k1 _ _ q2)] at q; cases q
    · have q : b = I := by simpa using hm
      exact Nat.ne_of_lt (hlt e) q
end
/-! ### the reading -/
def flatD : List D → Option (List D)
  | [] => some []
  | .list ds :: r => (flatD r).map (ds ++ ·)
  | _ => none
def sum2F (w1 w2 : W) : M W := match w1, w2 with
  | .own (x :: xs), .own zs => ofO ((flatD (x :: xs)).bind fun ys => if zs.length + ys.length ≤ sizeLine then some (.own (zs ++ ys)) else none)
  | _, _ => M.fail
def eSum2 (m1 m2 : M W) : M W := m1 >>= fun a => m2 >>= fun b => sum2F a b
inductive FlatV (H : Hp) : List V → List V → Prop
  | nil : FlatV H [] []
  | cons {a : Addr} {xs vs ys : List V} : H a = some (.lst xs) → FlatV H vs ys → FlatV H (.ref a :: vs) (xs ++ ys)
theorem rest_flat (us : List (Addr × List Value × Nat)) : ∀ (i : Nat) (ls : Nat → List Value), (∀ j u, us[j]? = some u → ls (i + j) = u.2.1) → restL ls i us.length = us.flatMap (·.2.1) := by
  induction us with
  | nil => exact fun _ _ _ => rfl
  | cons u us ih =>
    intro i ls h
    have h0 : ls i = u.2.1 := h 0 u rfl
    rw [List.flatMap_cons, ← ih (i + 1) ls fun j v e => by
      have := h (j + 1) v (by simpa using e)
      rw [← this]
      congr 1
      omega]
    show ls i ++ restL ls (i + 1) us.length = _
    rw [h0]
section
variable {X : Cx}
theorem flat_heap {pins : List (Addr × Obj)} {σ : Sg} {H : Hp} {s : Shared} (I : Inv X pins σ H s) {vs ys : List V} (f : FlatV H vs ys) : ∀ {its : List Value}, Vals vs its → ∃ us : List (Addr × List Value × Nat), its = us.map (fun u => Value.ref u.1) ∧ (∀ u ∈ us, IsL s.heap u.1 u.2.1.toArray u.2.2) ∧ Vals ys (us.flatMap (·.2.1)) := by
  induction f with
  | nil =>
    intro its r
    cases r
    exact ⟨[], rfl, (fun _ h => by cases h), Paired.nil⟩
  | @cons a xs vs ys hH _ ih =>
    intro its r
    cases r with
    | cons r rr =>
      cases r
      obtain ⟨us, e1, e2, e3⟩ := ih rr
      obtain ⟨z, it2, n, rv, hl, e⟩ := I.lstM hH
      refine ⟨(a, it2, n) :: us, by rw [e1]; rfl, fun u hu => ?_, ?_⟩
      · rcases List.mem_cons.mp hu with rfl | hu
        · exact e
        · exact e2 u hu
      · rw [List.flatMap_cons]
        exact rv.append e3
def rSum2 (K : PySem.W.Frag) : List V → Hp → VK → Prop := fun vs H Q => ∃ l b xs zs ys, vs = [.ref l, .ref b] ∧ SqL K H l xs ∧ H b = some (.lst zs) ∧ FlatV H xs ys ∧ zs.length + ys.length ≤ sizeLine ∧ (xs = [] → Q (.ref b) H) ∧ (xs ≠ [] → ∀ p, H p = none → Q (.ref p) (upd H p (.lst (zs ++ ys))))
theorem cr_sum2 (hc : X.calm = true) : CallR X (.builtin "sum") (rSum2 X.K) := by
  intro pins s σ H vs us Q I r h
  obtain ⟨l, b, xs, zs, ys, rfl, hl, hb, hf, hz, q0, q1⟩ := h
  cases r with
  | cons r rr =>
    cases rr with
    | cons r' rr =>
      cases rr
      cases r
      cases r'
      obtain ⟨its, rv, pl, _⟩ := I.list hl
      obtain ⟨us, rfl, e2, e3⟩ := flat_heap I hf rv
      obtain ⟨z, itz, nz, rz, hlz, ez⟩ := I.lstM hb
      have hsz : (us.map (fun u => Value.ref u.1)).toArray.size = us.length := by simp
      have hlen := rv.length
      have hy := e3.length
      have hfl : ∀ g, restL (fun i => ((us[i]?).getD (0, [], 0)).2.1) 0 (us.map (fun u => Value.ref u.1)).toArray.size = g ↔ us.flatMap (·.2.1) = g := fun g => by
        rw [hsz, rest_flat us 0 _ fun j u e => by rw [Nat.zero_add, e]; rfl]
      have hfe : restL (fun i => ((us[i]?).getD (0, [], 0)).2.1) 0 (us.map (fun u => Value.ref u.1)).toArray.size = us.flatMap (·.2.1) := (hfl _).mpr rfl
      refine call_sum_lists (I.ok.hd hc) pl.isList (fun i => ((us[i]?).getD (0, [], 0)).1) (fun i => ((us[i]?).getD (0, [], 0)).2.1) (fun i => ((us[i]?).getD (0, [], 0)).2.2) (fun i v e => ?_) ez (fun j hj => ?_) (by rw [hfe, List.length_append]; omega) fun h' tk T' ct' g1 g2 g3 g4 => ?_
      · rw [List.getElem?_toArray, List.getElem?_map] at e
        cases q : us[i]? with
        | none => rw [q] at e; cases e
        | some u => rw [q] at e; exact (Option.some.inj e).symm
      · rw [hsz] at hj
        have := e2 us[j] (List.getElem_mem hj)
        simpa [List.getElem?_eq_getElem hj] using this
      · rw [hfe] at g1
        rw [hsz] at g2 g3
        by_cases h0 : us = []
        · subst h0
          have hx : xs = [] := List.length_eq_zero_iff.mp (by rw [hlen]; rfl)
          rw [g2 rfl]
          exact ⟨.ref b, H, I.kept (t' := tk) g4, rfl, q0 hx⟩
        · have hx : xs ≠ [] := fun z => by
            subst z
            exact h0 (List.length_eq_zero_iff.mp (by simpa using hlen.symm))
          have gn := g3 (fun z => h0 (List.length_eq_zero_iff.mp z))
          have hn : H T' = none := I.hok.gone gn
          exact ⟨.ref T', _, I.laidN (o := .lst (zs ++ ys)) (t' := tk) g4 gn hn ⟨by rw [List.length_append]; exact hz, _, ct', rz.append e3, g1⟩, rfl, q1 hx T' hn⟩
end
theorem flat_rp {K : PySem.W.Frag} {F : Fz} {H : Hp} : ∀ {xs ys : List D} {vs : List V}, flatD xs = some ys → RpAll K F H vs xs → ∃ us, FlatV H vs us ∧ RpAll K F H us ys
  | [], _, _, e, .nil => by cases e; exact ⟨[], .nil, .nil⟩
  | x :: xs, ys, _, e, .cons a b => by
    cases x with
    | list ds =>
      have e' : (flatD xs).map (ds ++ ·) = some ys := e
      cases q : flatD xs with
      | none => rw [q] at e'; cases e'
      | some zs =>
        rw [q] at e'
        cases e'
        obtain ⟨us, f, r⟩ := flat_rp q b
        cases a with
        | lst h1 h2 h3 => exact ⟨_, .cons h2 f, h3.append r⟩
    | _ => cases e
theorem i_sum2 {X : Cx} {Wx : WX} {p pos : Pos} {a b : Expr} {m1 m2 : M W} (hm : X.mg "sum" = none) (ha : DE X Wx a m1) (hb : DE X Wx b m2) (hc : X.calm = true := by rfl) (hg : Gl X "sum" := by rfl)
    (hs : starEach [a, b] X.env = (false, eval a X.env) :: starEach [b] X.env := by rfl) (hs2 : starEach [b] X.env = (false, eval b X.env) :: starEach [] X.env := by rfl) (hpl : (backTo pos (starEach [b] X.env)).any (·.1) = false := by rfl) :
    DE X Wx (.Call (.Name "sum" p) [a, b] [] pos) (eSum2 m1 m2) :=
  pe_mono (pe_callB (cr_sum2 hc) hg hm (by decide +kernel) (pa_cons ha (pa_cons hb pa_nil hs2) hs) (by decide) (by decide) hs hpl) fun σ H Q h =>
    em_bin (P := fun x y H1 => rSum2 X.K [x, y] H1 Q) (fun {B F ρ s H x y w1 w2} k o1 o2 h => by
      cases w1 with
      | own xs =>
        cases w2 with
        | own zs =>
          cases xs with
          | nil => exact h.elim
          | cons d xs =>
            obtain ⟨w, e, h⟩ := Run.ofO h
            cases q : flatD (d :: xs) with
            | none => rw [q] at e; cases e
            | some ys =>
              rw [q] at e
              have e' : (if zs.length + ys.length ≤ sizeLine then some (W.own (zs ++ ys)) else none) = some w := e
              split at e'
              · rename_i hz
                cases e'
                obtain ⟨a1, vs, rfl, h1, r1, _⟩ := o1
                obtain ⟨a2, us, rfl, h2, r2, _⟩ := o2
                obtain ⟨ts, f, rt⟩ := flat_rp q r1
                refine ⟨a1, a2, vs, us, ts, rfl, SqL.of h1, h2, f, by rw [r2.length, rt.length]; exact hz, fun z => ?_, fun _ p hp => ?_⟩
                · subst z; cases r1
                · exact h F ρ _ _ (Ext.new_ hp) (k.new hp) (wok_new k (r2.append rt) hp) fun a e => by cases e; exact hp
              · cases e'
        | _ => cases xs <;> exact h.elim
      | _ => exact h.elim) h
end Z
/-! P, part 0: the mirrors run by simp. -/
namespace Z
open PySem PySem.Spec PyProof.Rows L2

/-- what comes behind, as an instance: it is looked at when the first is known -/
class Kont (α β : Type) where
  go : α → M β
def runK {α β : Type} (o : Out S α) [k : Kont α β] : Out S β := match o with
  | .fail => .fail
  | .err x s' => .err x s'
  | .ok a s' => k.go a s'
@[simp] theorem runK_ok {α β : Type} {a : α} {s : S} {k : α → M β} : runK (Out.ok a s) (k := ⟨k⟩) = k a s := (rfl)
@[simp] theorem runK_err {α β : Type} {x : Exc} {s : S} {k : α → M β} : runK (Out.err x s : Out S α) (k := ⟨k⟩) = .err x s := (rfl)
@[simp] theorem runK_fail {α β : Type} {k : α → M β} : runK (Out.fail : Out S α) (k := ⟨k⟩) = (.fail : Out S β) := (rfl)
@[simp] theorem bind_app {α β : Type} {m : M α} {k : α → M β} {s : S} : (m >>= k) s = runK (m s) (k := ⟨k⟩) := (rfl)
@[simp] theorem pure_app {α : Type} {a : α} {s : S} : (Pure.pure a : M α) s = .ok a s := (rfl)
@[simp] theorem fail_app {α : Type} {s : S} : (M.fail : M α) s = .fail := (rfl)
@[simp] theorem ofO_some {α : Type} {a : α} {s : S} : ofO (some a) s = .ok a s := (rfl)
@[simp] theorem ofO_none {α : Type} {s : S} : (ofO (none : Option α)) s = .fail := (rfl)
@[simp] theorem eC_app {d : D} {s : S} : eC d s = .ok (.val d) s := (rfl)
/-- a slot that holds something -/
def evO (i : Nat) (s : S) : Option (Option W) → Out S W
  | some (some _) => .ok (.peek i) s
  | _ => .fail
@[simp] theorem evO_some {i : Nat} {s : S} {w : W} : evO i s (some (some w)) = .ok (.peek i) s := (rfl)
@[simp] theorem eVar_mk {i : Nat} {env : List (Option W)} {st : Store} : eVar i ⟨env, st⟩ = evO i ⟨env, st⟩ env[i]? := (rfl)
theorem eVar_app {i : Nat} {s : S} {w : W} (h : s.env[i]? = some (some w)) : eVar i s = .ok (.peek i) s := by
  unfold eVar
  rw [h]
/-- contents -/
@[simp] theorem content_val {d : D} {s : S} : content (.val d) s = some d := (rfl)
@[simp] theorem content_own {ds : List D} {s : S} : content (.own ds) s = some (.list ds) := (rfl)
@[simp] theorem content_scr {ns : List Int} {s : S} : content (.scr ns) s = some (.list (ns.map .int)) := (rfl)
@[simp] theorem content_ref {n : Nat} {s : S} : content (.ref n) s = (s.st[n]?).map .list := (rfl)
@[simp] theorem contW_val {d : D} {st : Store} : contW st (.val d) = some d := (rfl)
@[simp] theorem contW_own {ds : List D} {st : Store} : contW st (.own ds) = some (.list ds) := (rfl)
@[simp] theorem contW_scr {ns : List Int} {st : Store} : contW st (.scr ns) = some (.list (ns.map .int)) := (rfl)
@[simp] theorem contW_ref {n : Nat} {st : Store} : contW st (.ref n) = (st[n]?).map .list := (rfl)
@[simp] theorem content_peek {i : Nat} {env : List (Option W)} {st : Store} : content (.peek i) ⟨env, st⟩ = (env[i]?).bind fun o => o.bind (contW st) := (rfl)
@[simp] theorem isScr_peek {i : Nat} {env : List (Option W)} {st : Store} : isScr (.peek i) ⟨env, st⟩ = ((env[i]?).bind fun o => o.map scrW).getD false := (rfl)
@[simp] theorem isScr_val {d : D} {s : S} : isScr (.val d) s = false := (rfl)
@[simp] theorem isScr_own {d : List D} {s : S} : isScr (.own d) s = false := (rfl)
@[simp] theorem isScr_ref {d : Nat} {s : S} : isScr (.ref d) s = false := (rfl)
@[simp] theorem isScr_scr {d : List Int} {s : S} : isScr (.scr d) s = true := (rfl)
@[simp] theorem scrW_val {d : D} : scrW (.val d) = false := (rfl)
@[simp] theorem scrW_own {d : List D} : scrW (.own d) = false := (rfl)
@[simp] theorem scrW_ref {d : Nat} : scrW (.ref d) = false := (rfl)
@[simp] theorem scrW_scr {d : List Int} : scrW (.scr d) = true := (rfl)
def outO {α : Type} (o : Option α) (s : S) : Out S α := match o with
  | some a => .ok a s
  | none => .fail
@[simp] theorem outO_some {α : Type} {a : α} {s : S} : outO (some a) s = .ok a s := (rfl)
@[simp] theorem outO_none {α : Type} {s : S} : outO (none : Option α) s = .fail := (rfl)
@[simp] theorem look_app {w : W} {s : S} : look w s = outO (content w s) s := by
  unfold look outO
  cases content w s <;> rfl
@[simp] theorem lookT_app {w : W} {s : S} : lookT w s = if isScr w s = true then (match content w s with | some _ => .fail | none => .fail) else outO (content w s) s := by
  unfold lookT outO
  cases content w s with
  | none => simp
  | some d => rfl
@[simp] theorem opBin_app {f : D → D → Option W} {m1 m2 : M W} {s : S} : opBin f m1 m2 s = runK (m1 s) (k := ⟨fun a => m2 >>= fun b => lookT a >>= fun x => lookT b >>= fun y => ofO (f x y)⟩) := (rfl)
@[simp] theorem opCmp_app {f : D → D → Option Bool} {m1 m2 : M W} {s : S} : opCmp f m1 m2 s = runK (m1 s) (k := ⟨fun a => m2 >>= fun b => look a >>= fun x => look b >>= fun y => ofO (f x y)⟩) := (rfl)
@[simp] theorem opCmpV_app {f : D → D → Option Bool} {m1 m2 : M W} {s : S} : opCmpV f m1 m2 s = runK (m1 s) (k := ⟨fun a => m2 >>= fun b => look a >>= fun x => look b >>= fun y => ofO ((f x y).map fun b => .val (.bool b))⟩) := (rfl)
@[simp] theorem opLk_app {f : D → D → Option W} {m1 m2 : M W} {s : S} : opLk f m1 m2 s = runK (m1 s) (k := ⟨fun a => m2 >>= fun b => look a >>= fun x => look b >>= fun y => ofO (f x y)⟩) := (rfl)
@[simp] theorem op1_app {f : D → Option W} {m : M W} {s : S} : op1 f m s = runK (m s) (k := ⟨fun a => look a >>= fun x => ofO (f x)⟩) := (rfl)
@[simp] theorem opChainV_app {f f' : D → D → Option Bool} {m1 m2 m3 : M W} {s : S} : opChainV f f' m1 m2 m3 s = runK (m1 s) (k := ⟨fun a => m2 >>= fun b => look a >>= fun x => look b >>= fun y => ofO (f x y) >>= fun t => if t = true then m3 >>= fun c => look b >>= fun y => look c >>= fun z => ofO ((f' y z).map fun b => .val (.bool b)) else Pure.pure (.val (.bool false))⟩) := (rfl)
@[simp] theorem opChain_app {f f' : D → D → Option Bool} {m1 m2 m3 : M W} {s : S} : opChain f f' m1 m2 m3 s = runK (m1 s) (k := ⟨fun a => m2 >>= fun b => look a >>= fun x => look b >>= fun y => ofO (f x y) >>= fun t => if t = true then m3 >>= fun c => look b >>= fun y => look c >>= fun z => ofO (f' y z) else Pure.pure false⟩) := (rfl)
@[simp] theorem opTruth_app {m : M W} {s : S} : opTruth m s = runK (m s) (k := ⟨fun a => look a >>= fun d => ofO (truthD d)⟩) := (rfl)
@[simp] theorem cAnd_app {m1 m2 : M Bool} {s : S} : cAnd m1 m2 s = runK (m1 s) (k := ⟨fun b => if b = true then m2 else Pure.pure false⟩) := (rfl)
@[simp] theorem cOr_app {m1 m2 : M Bool} {s : S} : cOr m1 m2 s = runK (m1 s) (k := ⟨fun b => if b = true then Pure.pure true else m2⟩) := (rfl)
@[simp] theorem cNot_app {m1 : M Bool} {s : S} : cNot m1 s = runK (m1 s) (k := ⟨fun b => Pure.pure (!b)⟩) := (rfl)
@[simp] theorem eAnd_app {m1 m2 : M W} {s : S} : eAnd m1 m2 s = runK (m1 s) (k := ⟨fun a => look a >>= fun d => ofO (truthD d) >>= fun b => if b = true then m2 else keepW a⟩) := (rfl)
@[simp] theorem eOr_app {m1 m2 : M W} {s : S} : eOr m1 m2 s = runK (m1 s) (k := ⟨fun a => look a >>= fun d => ofO (truthD d) >>= fun b => if b = true then keepW a else m2⟩) := (rfl)
@[simp] theorem eNot_app {m1 : M W} {s : S} : eNot m1 s = runK (m1 s) (k := ⟨fun a => look a >>= fun d => ofO ((truthD d).map fun b => .val (.bool !b))⟩) := (rfl)
@[simp] theorem eIf_app {c : M Bool} {m1 m2 : M W} {s : S} : eIf c m1 m2 s = runK (c s) (k := ⟨fun b => if b = true then m1 else m2⟩) := (rfl)
@[simp] theorem eNeg_app {m1 : M W} {s : S} : eNeg m1 s = runK (m1 s) (k := ⟨fun a => look a >>= fun d => ofO (match d with | .int i => some (.val (.int (-i))) | _ => none)⟩) := (rfl)
@[simp] theorem keepW_val {d : D} : keepW (.val d) = Pure.pure (.val d) := (rfl)
@[simp] theorem keepW_peek {d : Nat} : keepW (.peek d) = Pure.pure (.peek d) := (rfl)
@[simp] theorem keepW_ref {d : Nat} : keepW (.ref d) = Pure.pure (.ref d) := (rfl)
@[simp] theorem keepW_scr {d : List Int} : keepW (.scr d) = Pure.pure (.scr d) := (rfl)
@[simp] theorem setEnv_mk {env : List (Option W)} {st : Store} {i : Nat} {o : Option W} : S.setEnv ⟨env, st⟩ i o = ⟨env.set i o, st⟩ := (rfl)
@[simp] theorem escW_val {d : D} {s : S} : escW (.val d) s = .ok (.val d) s := (rfl)
@[simp] theorem escW_own {d : List D} {s : S} : escW (.own d) s = .ok (.val (.list d)) s := (rfl)
@[simp] theorem escW_ref {d : Nat} {s : S} : escW (.ref d) s = .ok (.ref d) s := (rfl)
@[simp] theorem escW_scr {d : List Int} {s : S} : escW (.scr d) s = .ok (.scr d) s := (rfl)
@[simp] theorem escW_peek {i : Nat} {env : List (Option W)} {st : Store} : escW (.peek i) ⟨env, st⟩ = escSlot i ⟨env, st⟩ env[i]? := (rfl)
@[simp] theorem escSlot_val {i : Nat} {s : S} {d : D} : escSlot i s (some (some (.val d))) = .ok (.val d) s := (rfl)
@[simp] theorem escSlot_own {i : Nat} {s : S} {d : List D} : escSlot i s (some (some (.own d))) = .ok (.val (.list d)) (s.setEnv i (some (.val (.list d)))) := (rfl)
@[simp] theorem escSlot_ref {i : Nat} {s : S} {d : Nat} : escSlot i s (some (some (.ref d))) = .ok (.ref d) s := (rfl)
@[simp] theorem escSlot_scr {i : Nat} {s : S} {d : List Int} : escSlot i s (some (some (.scr d))) = .ok (.scr d) s := (rfl)
@[simp] theorem aNil_app {s : S} : aNil s = .ok [] s := (rfl)
@[simp] theorem aCons_app {m : M W} {r : M (List W)} {s : S} : aCons m r s = runK (m s) (k := ⟨fun a => escW a >>= fun w => r >>= fun ws => Pure.pure (w :: ws)⟩) := (rfl)
@[simp] theorem aStar_app {m : M W} {r : M (List W)} {s : S} : aStar m r s = runK (m s) (k := ⟨fun a => escW a >>= fun w => ofO (itemsD w) >>= fun ds => r >>= fun ws => Pure.pure (valsD ds ++ ws)⟩) := (rfl)
@[simp] theorem allVal_nil : allVal [] = some [] := (rfl)
@[simp] theorem allVal_cons {d : D} {r : List W} : allVal (.val d :: r) = (allVal r).map (d :: ·) := (rfl)
@[simp] theorem allVal_vals {ds : List D} : allVal (valsD ds) = some ds := by
  induction ds with
  | nil => rfl
  | cons d ds ih =>
    show (allVal (valsD ds)).map (d :: ·) = _
    rw [ih]
    rfl
@[simp] theorem allVal_app {ds : List D} {r : List W} : allVal (valsD ds ++ r) = (allVal r).map (ds ++ ·) := by
  induction ds with
  | nil =>
    show allVal r = _
    cases allVal r <;> rfl
  | cons d ds ih =>
    show (allVal (valsD ds ++ r)).map (d :: ·) = _
    rw [ih]
    cases allVal r <;> rfl
@[simp] theorem eTup_app {ma : M (List W)} {s : S} : eTup ma s = runK (ma s) (k := ⟨fun ws => ofO ((allVal ws).bind fun ds => if ds.length ≤ sizeLine then some (.val (.tuple ds)) else none)⟩) := (rfl)
@[simp] theorem eLst_app {ma : M (List W)} {s : S} : eLst ma s = runK (ma s) (k := ⟨fun ws => ofO ((allVal ws).bind fun ds => if ds.length ≤ sizeLine then some (.own ds) else none)⟩) := (rfl)
@[simp] theorem eNew_app {ma : M (List W)} {s : S} : eNew ma s = runK (ma s) (k := ⟨fun ws => ofO ((allVal ws).bind fun ds => if ds.length ≤ sizeLine then some ds else none) >>= fun ds s => .ok (.ref s.st.length) { s with st := s.st ++ [ds] }⟩) := (rfl)
/-- calls -/
def outF (n : Nat) (s : S) (o : Out Store W) : Out S W := match o with
  | .fail => .fail
  | .ok w st => .ok w { s with st := st }
  | .err x st => .err x { s with st := st }
@[simp] theorem outF_ok {n : Nat} {env : List (Option W)} {st st' : Store} {w : W} : outF n ⟨env, st⟩ (.ok w st') = .ok w ⟨env, st'⟩ := (rfl)
@[simp] theorem outF_err {n : Nat} {env : List (Option W)} {st st' : Store} {x : Exc} : outF n ⟨env, st⟩ (.err x st') = .err x ⟨env, st'⟩ := (rfl)
@[simp] theorem eCallS_app {n : Nat} {f : Fn} {ma : M (List W)} {s : S} : eCallS n f ma s = runK (ma s) (k := ⟨fun ws => callS n f ws⟩) := (rfl)
@[simp] theorem callS_app {n : Nat} {f : Fn} {ws : List W} {env : List (Option W)} {st : Store} : callS n f ws ⟨env, st⟩ = if stAll ws = true then (if ws.length = n then outF n ⟨env, st⟩ (f ws st) else .fail) else .fail := by
  unfold callS callF outF
  split
  · rfl
  · rfl
@[simp] theorem stAll_nil : stAll [] = true := (rfl)
@[simp] theorem stAll_cons {w : W} {ws : List W} : stAll (w :: ws) = (stable w && stAll ws) := (rfl)
@[simp] theorem stable_val {d : D} : stable (.val d) = true := (rfl)
@[simp] theorem stable_ref {d : Nat} : stable (.ref d) = true := (rfl)
@[simp] theorem stable_scr {d : List Int} : stable (.scr d) = true := (rfl)
@[simp] theorem eCallK_app {n : Nat} {f : Fn} {np nk : Nat} {is : List Nat} {ma mk : M (List W)} {s : S} : eCallK n f np nk is ma mk s = runK (ma s) (k := ⟨fun ws => mk >>= fun zs => if ws.length = np ∧ zs.length = nk then callS n f (permW is (ws ++ zs)) else M.fail⟩) := (rfl)
@[simp] theorem permW_nil {ws : List W} : permW [] ws = [] := (rfl)
theorem permW_cons {i : Nat} {is : List Nat} {ws : List W} {w : W} (h : ws[i]? = some w) : permW (i :: is) ws = w :: permW is ws := by
  unfold permW
  rw [List.filterMap_cons, h]
/-- the ends of a def -/
def outR (o : Out S SR) : Out Store W := match o with
  | .fail => .fail
  | .ok r s' => (match r with
    | .next => .ok (.val .none) s'.st
    | .ret w => .ok w s'.st
    | _ => .fail)
  | .err x s' => .err x s'.st
theorem fnOf_app {nN : Nat} {mb : M SR} {ws : List W} {st : Store} : fnOf nN mb ws st = outR (mb ⟨ws.map some ++ List.replicate (nN - ws.length) none, st⟩) := (rfl)
@[simp] theorem outR_ret {w : W} {env : List (Option W)} {st : Store} : outR (.ok (.ret w) ⟨env, st⟩) = .ok w st := (rfl)
@[simp] theorem outR_next {env : List (Option W)} {st : Store} : outR (.ok .next ⟨env, st⟩) = .ok (.val .none) st := (rfl)
@[simp] theorem outR_err {x : Exc} {env : List (Option W)} {st : Store} : outR (.err x ⟨env, st⟩) = .err x st := (rfl)
@[simp] theorem seq_app {m1 m2 : M SR} {s : S} : seq m1 m2 s = runK (m1 s) (k := ⟨fun r => match r with | .next => m2 | r => Pure.pure r⟩) := (rfl)
@[simp] theorem sNext_app {s : S} : sNext s = .ok .next s := (rfl)
@[simp] theorem sBrk_app {s : S} : sBrk s = .ok .brk s := (rfl)
@[simp] theorem sCont_app {s : S} : sCont s = .ok .cont s := (rfl)
@[simp] theorem sIf_app {c : M Bool} {m1 m2 : M SR} {s : S} : sIf c m1 m2 s = runK (c s) (k := ⟨fun b => if b = true then m1 else m2⟩) := (rfl)
@[simp] theorem sExpr_app {m : M W} {s : S} : sExpr m s = runK (m s) (k := ⟨fun _ => Pure.pure .next⟩) := (rfl)
@[simp] theorem sRet_app {m : M W} {s : S} : sRet m s = runK (m s) (k := ⟨retW⟩) := (rfl)
@[simp] theorem sRetN_app {s : S} : sRetN s = .ok (.ret (.val .none)) s := (rfl)
@[simp] theorem retW_val {d : D} {s : S} : retW (.val d) s = .ok (.ret (.val d)) s := (rfl)
@[simp] theorem retW_own {d : List D} {s : S} : retW (.own d) s = .ok (.ret (.own d)) s := (rfl)
@[simp] theorem retW_ref {d : Nat} {s : S} : retW (.ref d) s = .ok (.ret (.ref d)) s := (rfl)
@[simp] theorem retW_scr {d : List Int} {s : S} : retW (.scr d) s = .ok (.ret (.scr d)) s := (rfl)
@[simp] theorem retW_peek {i : Nat} {env : List (Option W)} {st : Store} : retW (.peek i) ⟨env, st⟩ = retSlot i ⟨env, st⟩ env[i]? := (rfl)
@[simp] theorem retSlot_val {i : Nat} {s : S} {d : D} : retSlot i s (some (some (.val d))) = .ok (.ret (.val d)) s := (rfl)
@[simp] theorem retSlot_own {i : Nat} {s : S} {d : List D} : retSlot i s (some (some (.own d))) = .ok (.ret (.own d)) (s.setEnv i none) := (rfl)
@[simp] theorem retSlot_ref {i : Nat} {s : S} {d : Nat} : retSlot i s (some (some (.ref d))) = .ok (.ret (.ref d)) s := (rfl)
@[simp] theorem retSlot_scr {i : Nat} {s : S} {d : List Int} : retSlot i s (some (some (.scr d))) = .ok (.ret (.scr d)) s := (rfl)
@[simp] theorem setW_app {i : Nat} {w : W} {env : List (Option W)} {st : Store} : setW i w ⟨env, st⟩ = if i < env.length then .ok () ⟨env.set i (some w), st⟩ else .fail := (rfl)
@[simp] theorem asgW_own {i : Nat} {ds : List D} : asgW i (.own ds) = setW i (.own ds) := (rfl)
@[simp] theorem asgW_val {i : Nat} {d : D} : asgW i (.val d) = (escW (.val d) >>= setW i) := (rfl)
@[simp] theorem asgW_ref {i : Nat} {d : Nat} : asgW i (.ref d) = (escW (.ref d) >>= setW i) := (rfl)
@[simp] theorem asgW_scr {i : Nat} {d : List Int} : asgW i (.scr d) = (escW (.scr d) >>= setW i) := (rfl)
@[simp] theorem asgW_peek {i : Nat} {d : Nat} : asgW i (.peek d) = (escW (.peek d) >>= setW i) := (rfl)
@[simp] theorem sAsg_app {i : Nat} {m : M W} {s : S} : sAsg i m s = runK (m s) (k := ⟨fun w => asgW i w >>= fun _ => Pure.pure .next⟩) := (rfl)
@[simp] theorem tName_app {i : Nat} {d : D} {env : List (Option W)} {st : Store} : tName i d ⟨env, st⟩ = if i < env.length then .ok () ⟨env.set i (some (.val d)), st⟩ else .fail := (rfl)
@[simp] theorem tNilG_nil : tNilG [] = Pure.pure () := (rfl)
@[simp] theorem tConsG_cons {g : D → M Unit} {r : List D → M Unit} {d : D} {ds : List D} : tConsG g r (d :: ds) = (g d >>= fun _ => r ds) := (rfl)
@[simp] theorem tTupG_tup {n : Nat} {r : List D → M Unit} {ds : List D} : tTupG n r (.tuple ds) = if ds.length = n then r ds else M.fail := (rfl)
@[simp] theorem toVal_val {d : D} {s : S} : toVal (.val d) s = .ok d s := (rfl)
@[simp] theorem toVal_own {d : List D} {s : S} : toVal (.own d) s = .ok (.list d) s := (rfl)
@[simp] theorem toVal_peek {i : Nat} {env : List (Option W)} {st : Store} : toVal (.peek i) ⟨env, st⟩ = runK (escSlot i ⟨env, st⟩ env[i]?) (k := ⟨fun w => match w with | .val d => Pure.pure d | _ => M.fail⟩) := (rfl)
@[simp] theorem sUnp_app {g : D → M Unit} {m : M W} {s : S} : sUnp g m s = runK (m s) (k := ⟨fun w => toVal w >>= fun d => g d >>= fun _ => Pure.pure .next⟩) := (rfl)
@[simp] theorem resW_own {d : List D} : resW (.own d) = Pure.pure (.own d) := (rfl)
@[simp] theorem resW_val {d : D} : resW (.val d) = escW (.val d) := (rfl)
@[simp] theorem resW_peek {d : Nat} : resW (.peek d) = escW (.peek d) := (rfl)
@[simp] theorem resW_ref {d : Nat} : resW (.ref d) = escW (.ref d) := (rfl)
@[simp] theorem hCons_app {m : M W} {r : M (List W)} {s : S} : hCons m r s = runK (m s) (k := ⟨fun a => resW a >>= fun w => r >>= fun ws => Pure.pure (w :: ws)⟩) := (rfl)
@[simp] theorem setAll_nil : setAll [] [] = Pure.pure () := (rfl)
@[simp] theorem setAll_cons {i : Nat} {is : List Nat} {w : W} {ws : List W} : setAll (i :: is) (w :: ws) = (setW i w >>= fun _ => setAll is ws) := (rfl)
@[simp] theorem sPar_app {is : List Nat} {ma : M (List W)} {s : S} : sPar is ma s = runK (ma s) (k := ⟨fun ws => setAll is ws >>= fun _ => Pure.pure .next⟩) := (rfl)
@[simp] theorem modL_ref {α : Type} {n : Nat} {f : List D → Option (List D × α)} {s : S} : modL (.ref n) f s = modSt n f s := (rfl)
@[simp] theorem modL_peek {α : Type} {i : Nat} {f : List D → Option (List D × α)} {env : List (Option W)} {st : Store} : modL (.peek i) f ⟨env, st⟩ = modSlot i f ⟨env, st⟩ env[i]? := (rfl)
@[simp] theorem modSlot_ref {α : Type} {i n : Nat} {f : List D → Option (List D × α)} {s : S} : modSlot i f s (some (some (.ref n))) = modSt n f s := (rfl)
def modOut {α : Type} (i : Nat) (s : S) : Option (List D × α) → Out S α
  | some (ds', b) => .ok b (s.setEnv i (some (.own ds')))
  | none => .fail
@[simp] theorem modOut_some {α : Type} {i : Nat} {s : S} {ds : List D} {b : α} : modOut i s (some (ds, b)) = .ok b (s.setEnv i (some (.own ds))) := (rfl)
@[simp] theorem modSlot_own {α : Type} {i : Nat} {f : List D → Option (List D × α)} {s : S} {ds : List D} : modSlot i f s (some (some (.own ds))) = modOut i s (f ds) := by
  show (match f ds with | some (ds', b) => Out.ok b (s.setEnv i (some (.own ds'))) | none => .fail) = modOut i s (f ds)
  cases f ds <;> rfl
theorem modSt_of {α : Type} {n : Nat} {f : List D → Option (List D × α)} {env : List (Option W)} {st : Store} {ds ds' : List D} {b : α} (h : st[n]? = some ds) (e : f ds = some (ds', b)) : modSt n f ⟨env, st⟩ = .ok b ⟨env, st.set n ds'⟩ := by
  unfold modSt
  show (match (st[n]?).bind f with | some (ds, b) => _ | none => _) = _
  rw [h]
  show (match f ds with | some (ds, b) => _ | none => _) = _
  rw [e]
@[simp] theorem lookL_app {w : W} {s : S} : lookL w s = runK (look w s) (k := ⟨fun d => match d with | .list _ => Pure.pure () | _ => M.fail⟩) := (rfl)
@[simp] theorem eAppend_app {mo me : M W} {s : S} : eAppend mo me s = runK (mo s) (k := ⟨fun w => lookL w >>= fun _ => me >>= fun x => toVal x >>= fun d => modL w (fun ds => if ds.length < sizeLine then some (ds ++ [d], ()) else none) >>= fun _ => Pure.pure (.val .none)⟩) := (rfl)
@[simp] theorem tSubG_app {mo mi : M W} {d : D} {s : S} : tSubG mo mi d s = runK (mo s) (k := ⟨fun w => mi >>= fun x => look x >>= fun k => modL w (fun ds => match k with | .int k => (ixN ds.length k).map fun j => (ds.set j d, ()) | _ => none)⟩) := (rfl)
/-- slices -/
@[simp] theorem pNone_app {s : S} : pNone s = .ok none s := (rfl)
@[simp] theorem pSome_app {m : M W} {s : S} : pSome m s = runK (m s) (k := ⟨fun a => look a >>= fun d => match d with | .int i => Pure.pure (some i) | _ => M.fail⟩) := (rfl)
@[simp] theorem eSl_app {m : M W} {l h : M (Option Int)} {s : S} : eSl m l h s = runK (m s) (k := ⟨fun a => l >>= fun lo => h >>= fun hi => look a >>= fun d => ofO (slD d lo hi)⟩) := (rfl)
/-- sources, loops -/
@[simp] theorem srcV_app {m : M W} {s : S} : srcV m s = runK (m s) (k := ⟨fun w => escW w >>= fun w => ofO (itemsD w)⟩) := (rfl)
@[simp] theorem srcA_app {f : List W → Option (List D)} {ma : M (List W)} {s : S} : srcA f ma s = runK (ma s) (k := ⟨fun ws => ofO (f ws)⟩) := (rfl)
@[simp] theorem itemsD_list {ds : List D} : itemsD (.val (.list ds)) = some ds := (rfl)
@[simp] theorem itemsD_tuple {ds : List D} : itemsD (.val (.tuple ds)) = some ds := (rfl)
@[simp] theorem itemsD_scr {ds : List Int} : itemsD (.scr ds) = some (ds.map .int) := (rfl)
@[simp] theorem sFor_app {src : M (List D)} {g : D → M Unit} {b : M SR} {s : S} : sFor src g b s = runK (src s) (k := ⟨(loopF g b)⟩) := (rfl)
def okO {α : Type} : Out S α → Out S α
  | .ok a s' => .ok a s'
  | _ => .fail
@[simp] theorem okO_ok {α : Type} {s : S} {a : α} : okO (.ok a s) = .ok a s := (rfl)
@[simp] theorem nE_app {α : Type} {m : M α} {s : S} : nE m s = okO (m s) := by
  unfold nE okO
  cases m s <;> rfl
@[simp] theorem wipeM_app {vs : List Nat} {env : List (Option W)} {st : Store} : wipeM vs ⟨env, st⟩ = .ok () ⟨wipeE env vs, st⟩ := (rfl)
@[simp] theorem wipeE_nil {env : List (Option W)} : wipeE env [] = env := (rfl)
@[simp] theorem wipeE_cons {env : List (Option W)} {v : Nat} {vs : List Nat} : wipeE env (v :: vs) = (wipeE env vs).set v none := (rfl)
@[simp] theorem cTrue_app {s : S} : cTrue s = .ok true s := (rfl)
@[simp] theorem wipe_mk {vs : List Nat} {env : List (Option W)} {st : Store} : S.wipe ⟨env, st⟩ vs = ⟨wipeE env vs, st⟩ := (rfl)
@[simp] theorem restE_nil {env o : List (Option W)} : restE env o [] = env := (rfl)
@[simp] theorem restE_cons {env o : List (Option W)} {v : Nat} {vs : List Nat} : restE env o (v :: vs) = (restE env o vs).set v ((o[v]?).getD none) := (rfl)
def notOwn : Option (Option W) → Bool
  | some (some (.own _)) => false
  | _ => true
@[simp] theorem notOwn_none : notOwn (some none) = true := (rfl)
@[simp] theorem notOwn_val {d : D} : notOwn (some (some (.val d))) = true := (rfl)
@[simp] theorem notOwn_ref {d : Nat} : notOwn (some (some (.ref d))) = true := (rfl)
@[simp] theorem notOwn_scr {d : List Int} : notOwn (some (some (.scr d))) = true := (rfl)
@[simp] theorem ownFree_nil {s : S} : ownFree s [] = true := (rfl)
@[simp] theorem ownFree_cons {env : List (Option W)} {st : Store} {v : Nat} {vs : List Nat} : ownFree ⟨env, st⟩ (v :: vs) = (notOwn env[v]? && ownFree ⟨env, st⟩ vs) := by
  unfold ownFree notOwn
  rw [List.all_cons] <;> first | rfl | congr 1
def lcO (old : List (Option W)) (vs : List Nat) : Out S (List D) → Out S W
  | .ok r s' => .ok (.own r) ⟨restE s'.env old vs, s'.st⟩
  | _ => .fail
@[simp] theorem lcO_ok {old env : List (Option W)} {vs : List Nat} {r : List D} {st : Store} : lcO old vs (.ok r ⟨env, st⟩) = .ok (.own r) ⟨restE env old vs, st⟩ := (rfl)
@[simp] theorem lcM_app {vs : List Nat} {body : M (List D)} {env : List (Option W)} {st : Store} : lcM vs body ⟨env, st⟩ = if ownFree ⟨env, st⟩ vs = true then lcO env vs (body ⟨wipeE env vs, st⟩) else .fail := by
  unfold lcM lcO
  split
  · show (match body ⟨wipeE env vs, st⟩ with | .ok r s' => _ | _ => _) = _
    cases body ⟨wipeE env vs, st⟩ <;> rfl
  · rfl
@[simp] theorem eLc_app {vs : List Nat} {src : M (List D)} {g : D → M Unit} {c : M Bool} {e : M W} {s : S} : eLc vs src g c e s = runK (src s) (k := ⟨fun ds => lcM vs (compLoop vs g c e ds [])⟩) := (rfl)
@[simp] theorem eLc2_app {vs vs1 : List Nat} {src src1 : M (List D)} {g g1 : D → M Unit} {c c1 : M Bool} {e : M W} {s : S} : eLc2 vs vs1 src g c src1 g1 c1 e s = runK (src s) (k := ⟨fun ds => lcM vs (compLoop2 vs vs1 g c src1 g1 c1 e ds [])⟩) := (rfl)
theorem bind_inv {α β : Type} {m : M α} {k : α → M β} {s s2 : S} {b : β} (h : (m >>= k) s = .ok b s2) : ∃ a s1, m s = .ok a s1 ∧ k a s1 = .ok b s2 := by
  have h : runK (m s) (k := ⟨k⟩) = .ok b s2 := h
  cases q : m s with
  | fail => rw [q] at h; cases h
  | err x s1 => rw [q] at h; cases h
  | ok a s1 => rw [q] at h; exact ⟨a, s1, rfl, h⟩
theorem bind_of {α β : Type} {m : M α} {k : α → M β} {s s1 : S} {a : α} (h : m s = .ok a s1) : (m >>= k) s = k a s1 := by
  show runK (m s) (k := ⟨k⟩) = _
  rw [h]
  rfl
/-- one turn of a comprehension without a test -/
def turnF (vs : List Nat) (g : D → M Unit) (e : M W) (d : D) : M D := nE (g d) >>= fun _ => nE e >>= fun w => toVal w >>= fun y => wipeM vs >>= fun _ => Pure.pure y
@[simp] theorem turnF_app {vs : List Nat} {g : D → M Unit} {e : M W} {d : D} {s : S} : turnF vs g e d s = runK (okO (g d s)) (k := ⟨fun _ => nE e >>= fun w => toVal w >>= fun y => wipeM vs >>= fun _ => Pure.pure y⟩) := by
  show runK (nE (g d) s) (k := ⟨_⟩) = _
  rw [nE_app]
theorem compLoop_step {vs : List Nat} {g : D → M Unit} {e : M W} {d y : D} {ds acc : List D} {s s' : S} (h : turnF vs g e d s = .ok y s') (hl : acc.length < sizeLine) : compLoop vs g cTrue e (d :: ds) acc s = compLoop vs g cTrue e ds (acc ++ [y]) s' := by
  obtain ⟨_, s1, h1, h⟩ := bind_inv h
  obtain ⟨w, s2, h2, h⟩ := bind_inv h
  obtain ⟨y', s3, h3, h⟩ := bind_inv h
  obtain ⟨_, s4, h4, h⟩ := bind_inv h
  cases h
  show (nE (g d) >>= _) s = _
  rw [bind_of h1]
  show (nE cTrue >>= _) s1 = _
  rw [bind_of (m := nE cTrue) (a := true) (s1 := s1) rfl]
  show (ite (true = true) _ _ : M (List D)) s1 = _
  rw [if_pos rfl, bind_of h2, bind_of h3, if_pos hl, bind_of h4]
theorem compLoop_nil {vs : List Nat} {g : D → M Unit} {c : M Bool} {e : M W} {acc : List D} {s : S} : compLoop vs g c e [] acc s = .ok acc s := rfl
/-- nothing but the list comes of it -/
theorem compLoop_map {vs : List Nat} {g : D → M Unit} {e : M W} {s : S} (f : D → D) : ∀ (ds acc : List D), acc.length + ds.length ≤ sizeLine → (∀ d ∈ ds, turnF vs g e d s = .ok (f d) s) → compLoop vs g cTrue e ds acc s = .ok (acc ++ ds.map f) s
  | [], acc, _, _ => by rw [compLoop_nil]; simp
  | d :: ds, acc, hl, h => by
    have hl' : acc.length + (ds.length + 1) ≤ sizeLine := hl
    rw [compLoop_step (h d (List.mem_cons_self ..)) (by omega), compLoop_map f ds _ (by rw [List.length_append, List.length_singleton]; omega) fun x hx => h x (List.mem_cons_of_mem _ hx)]
    simp
/-- the state moves; each item that comes has a property -/
theorem compLoop_inv {vs : List Nat} {g : D → M Unit} {e : M W} {I : Nat → S → Prop} {R : D → Prop} : ∀ (ds acc : List D) (i : Nat) (s : S), acc.length + ds.length ≤ sizeLine → I i s → (∀ d ∈ ds, ∀ j s, j < i + ds.length → I j s → ∃ y s', turnF vs g e d s = .ok y s' ∧ I (j + 1) s' ∧ R y) →
    ∃ ys s', compLoop vs g cTrue e ds acc s = .ok (acc ++ ys) s' ∧ I (i + ds.length) s' ∧ ys.length = ds.length ∧ ∀ y ∈ ys, R y
  | [], acc, i, s, _, hi, _ => ⟨[], s, by rw [compLoop_nil]; simp, hi, rfl, by simp⟩
  | d :: ds, acc, i, s, hl, hi, h => by
    have hl' : acc.length + (ds.length + 1) ≤ sizeLine := hl
    have hlen : (d :: ds).length = ds.length + 1 := rfl
    obtain ⟨y, s1, e1, hi1, r⟩ := h d (List.mem_cons_self ..) i s (by omega) hi
    obtain ⟨ys, s', e2, hi2, e3, r2⟩ := compLoop_inv ds (acc ++ [y]) (i + 1) s1 (by rw [List.length_append, List.length_singleton]; omega) hi1 fun x hx j s hj => h x (List.mem_cons_of_mem _ hx) j s (by omega)
    refine ⟨y :: ys, s', ?_, ?_, ?_, ?_⟩
    · rw [compLoop_step e1 (by omega), e2]
      simp
    · have : i + 1 + ds.length = i + (ds.length + 1) := by omega
      rw [this] at hi2
      exact hi2
    · simp [e3]
    · intro z hz
      rcases List.mem_cons.mp hz with rfl | hz
      · exact r
      · exact r2 z hz
theorem loopF_nil {g : D → M Unit} {b : M SR} {s : S} : loopF g b [] s = .ok .next s := rfl
theorem loopF_step {g : D → M Unit} {b : M SR} {d : D} {ds : List D} {s s' : S} (h : (g d >>= fun _ => b) s = .ok .next s') : loopF g b (d :: ds) s = loopF g b ds s' := by
  obtain ⟨_, s1, h1, h2⟩ := bind_inv h
  show (g d >>= _) s = _
  rw [bind_of h1, bind_of h2]
theorem loopF_ret {g : D → M Unit} {b : M SR} {d : D} {ds : List D} {s s' : S} {w : W} (h : (g d >>= fun _ => b) s = .ok (.ret w) s') : loopF g b (d :: ds) s = .ok (.ret w) s' := by
  obtain ⟨_, s1, h1, h2⟩ := bind_inv h
  show (g d >>= _) s = _
  rw [bind_of h1, bind_of h2]
  rfl
/-- a loop with its invariant, no way out of it -/
theorem loopF_inv {g : D → M Unit} {b : M SR} {I : List D → S → Prop} : ∀ (ds : List D) (s : S), I ds s → (∀ d ds s, I (d :: ds) s → ∃ s', (g d >>= fun _ => b) s = .ok .next s' ∧ I ds s') → ∃ s', loopF g b ds s = .ok .next s' ∧ I [] s'
  | [], s, hi, _ => ⟨s, rfl, hi⟩
  | d :: ds, s, hi, h => by
    obtain ⟨s1, e1, hi1⟩ := h d ds s hi
    obtain ⟨s', e2, hi2⟩ := loopF_inv ds s1 hi1 h
    exact ⟨s', by rw [loopF_step e1, e2], hi2⟩
theorem compLoop_via {α : Type} {vs : List Nat} {g : D → M Unit} {e : M W} {s : S} (i j : α → D) : ∀ (xs : List α) (acc : List D), acc.length + xs.length ≤ sizeLine → (∀ x ∈ xs, turnF vs g e (i x) s = .ok (j x) s) → compLoop vs g cTrue e (xs.map i) acc s = .ok (acc ++ xs.map j) s
  | [], acc, _, _ => by rw [List.map_nil, compLoop_nil]; simp
  | d :: ds, acc, hl, h => by
    have hl' : acc.length + (ds.length + 1) ≤ sizeLine := hl
    rw [List.map_cons, compLoop_step (h d (List.mem_cons_self ..)) (by omega), compLoop_via i j ds _ (by rw [List.length_append, List.length_singleton]; omega) fun x hx => h x (List.mem_cons_of_mem _ hx)]
    simp
theorem pairs_map {α β : Type} (i : α → D) (j : β → D) : ∀ (xs : List α) (ys : List β), pairs (xs.map i) (ys.map j) = (xs.zip ys).map fun p => .tuple [i p.1, j p.2]
  | [], ys => by simp [pairs]
  | x :: xs, [] => by simp [pairs]
  | x :: xs, y :: ys => by simp [pairs, pairs_map i j xs ys]
theorem pairs_same {α : Type} (i j : α → D) : ∀ xs : List α, pairs (xs.map i) (xs.map j) = xs.map fun x => .tuple [i x, j x]
  | [] => rfl
  | x :: xs => by simp [pairs, pairs_same i j xs]
theorem compLoop_stepC {vs : List Nat} {g : D → M Unit} {c : M Bool} {e : M W} {d : D} {b : Bool} {ds acc : List D} {s s1 s2 : S} (h1 : g d s = .ok () s1) (h2 : c s1 = .ok b s2) :
    compLoop vs g c e (d :: ds) acc s = (if b = true then nE e >>= fun w => toVal w >>= fun y => if acc.length < sizeLine then wipeM vs >>= fun _ => compLoop vs g c e ds (acc ++ [y]) else M.fail else wipeM vs >>= fun _ => compLoop vs g c e ds acc) s2 := by
  show (nE (g d) >>= _) s = _
  have q1 : nE (g d) s = .ok () s1 := by rw [nE_app, h1]; rfl
  have q2 : nE c s1 = .ok b s2 := by rw [nE_app, h2]; rfl
  rw [bind_of q1, bind_of q2]
/-- with a test: those that pass it -/
theorem compLoop_filter {α : Type} {vs : List Nat} {g : D → M Unit} {c : M Bool} {e : M W} {s : S} (i j : α → D) (t : α → Bool) : ∀ (xs : List α) (acc : List D), acc.length + xs.length ≤ sizeLine →
    (∀ x ∈ xs, ∃ s1 s2, g (i x) s = .ok () s1 ∧ c s1 = .ok (t x) s2 ∧ s2.wipe vs = s ∧ (t x = true → (nE e >>= fun w => toVal w >>= fun y => wipeM vs >>= fun _ => Pure.pure y) s2 = .ok (j x) s)) →
    compLoop vs g c e (xs.map i) acc s = .ok (acc ++ (xs.filter t).map j) s
  | [], acc, _, _ => by rw [List.map_nil, compLoop_nil]; simp
  | x :: xs, acc, hl, h => by
    have hl' : acc.length + (xs.length + 1) ≤ sizeLine := hl
    obtain ⟨s1, s2, h1, h2, h3, h4⟩ := h x (List.mem_cons_self ..)
    rw [List.map_cons, compLoop_stepC h1 h2]
    cases q : t x with
    | false =>
      show (wipeM vs >>= _) s2 = _
      have q3 : wipeM vs s2 = .ok () s := by rw [← h3]; rfl
      rw [bind_of q3, compLoop_filter i j t xs acc (by omega) fun y hy => h y (List.mem_cons_of_mem _ hy), List.filter_cons_of_neg (by rw [q]; decide)]
    | true =>
      obtain ⟨w, s3, g1, g⟩ := bind_inv (h4 q)
      obtain ⟨y, s4, g2, g⟩ := bind_inv g
      obtain ⟨_, s5, g3, g⟩ := bind_inv g
      cases g
      show (nE e >>= _) s2 = _
      rw [bind_of g1, bind_of g2]
      show (ite (acc.length < sizeLine) _ _ : M (List D)) s4 = _
      rw [if_pos (by omega), bind_of g3, compLoop_filter i j t xs _ (by rw [List.length_append, List.length_singleton]; omega) fun y hy => h y (List.mem_cons_of_mem _ hy), List.filter_cons_of_pos (by rw [q])]
      simp
/-- each with its number -/
def idx {α : Type} : Nat → List α → List (Nat × α)
  | _, [] => []
  | k, x :: xs => (k, x) :: idx (k + 1) xs
theorem numbered_map {α : Type} (f : α → D) : ∀ (xs : List α) (k : Nat), numbered (k : Int) (xs.map f) = (idx k xs).map fun p => .tuple [.int (p.1 : Int), f p.2]
  | [], k => rfl
  | x :: xs, k => by
    have := numbered_map f xs (k + 1)
    rw [Int.natCast_add] at this
    simp only [List.map_cons, numbered, idx]
    rw [← this]
    rfl
theorem idx_length {α : Type} : ∀ (xs : List α) (k : Nat), (idx k xs).length = xs.length
  | [], _ => rfl
  | x :: xs, k => by simp [idx, idx_length xs]
theorem idx_mem {α : Type} {p : Nat × α} : ∀ {xs : List α} {k : Nat}, p ∈ idx k xs → ∃ i, p.1 = k + i ∧ xs[i]? = some p.2
  | [], k, h => by cases h
  | x :: xs, k, h => by
    rcases List.mem_cons.mp (show p ∈ (k, x) :: idx (k + 1) xs from h) with rfl | h
    · exact ⟨0, rfl, rfl⟩
    · obtain ⟨i, h1, h2⟩ := idx_mem h
      exact ⟨i + 1, by omega, by simpa using h2⟩
theorem idx_drop {α : Type} (i : Nat) : ∀ (xs : List α) (k : Nat), ((idx k xs).filter fun p => decide (p.1 ≠ k + i)).map (·.2) = xs.eraseIdx i
  | [], k => by simp [idx]
  | x :: xs, k => by
    have all : ∀ (xs : List α) (m : Nat), k < m → ((idx m xs).filter fun p => decide (p.1 ≠ k)).map (·.2) = xs := fun xs => by
      induction xs with
      | nil => intro m _; rfl
      | cons y ys ih =>
        intro m hm
        simp only [idx]
        rw [List.filter_cons_of_pos (by simp; omega), List.map_cons, ih (m + 1) (by omega)]
    cases i with
    | zero =>
      simp only [idx, Nat.add_zero]
      rw [List.filter_cons_of_neg (by simp), all xs (k + 1) (by omega)]
      rfl
    | succ i =>
      simp only [idx]
      rw [List.filter_cons_of_pos (by simp), List.map_cons]
      have := idx_drop i xs (k + 1)
      rw [show k + 1 + i = k + (i + 1) by omega] at this
      rw [this]
      rfl
end Z
/-! P, part 1: the built-ins on data of known kind. -/
namespace Z
open PySem PySem.Spec PyProof.Rows L2
theorem isi_of {T : String} {d : D} {b : Bool} (h : kitB (typeN d) T = some b) (hd : ∀ l, d ≠ .dict l) : isi1 T d = some (.val (.bool b)) := by
  cases d with
  | dict l => exact absurd rfl (hd l)
  | _ => simp only [isi1, h, Option.map_some]
theorem isiT_of {Ts : List String} {d : D} {b : Bool} (h : isiAny (typeN d) Ts = some b) (hd : ∀ l, d ≠ .dict l) : isiT Ts d = some (.val (.bool b)) := by
  cases d with
  | dict l => exact absurd rfl (hd l)
  | _ => simp only [isiT, h, Option.map_some]
@[simp] theorem isi_int_int {i : Int} : isi1 "int" (.int i) = some (.val (.bool true)) := isi_of (show kitB "int" "int" = some true from by decide +kernel) (by intro l h; cases h)
@[simp] theorem isi_int_bool {b : Bool} : isi1 "int" (.bool b) = some (.val (.bool true)) := isi_of (show kitB "bool" "int" = some true from by decide +kernel) (by intro l h; cases h)
@[simp] theorem isi_int_tuple {ds : List D} : isi1 "int" (.tuple ds) = some (.val (.bool false)) := isi_of (show kitB "tuple" "int" = some false from by decide +kernel) (by intro l h; cases h)
@[simp] theorem isi_int_list {ds : List D} : isi1 "int" (.list ds) = some (.val (.bool false)) := isi_of (show kitB "list" "int" = some false from by decide +kernel) (by intro l h; cases h)
@[simp] theorem isi_int_str {x : Str} : isi1 "int" (.str x) = some (.val (.bool false)) := isi_of (show kitB "str" "int" = some false from by decide +kernel) (by intro l h; cases h)
@[simp] theorem isi_int_NoneType  : isi1 "int" .none = some (.val (.bool false)) := isi_of (show kitB "NoneType" "int" = some false from by decide +kernel) (by intro l h; cases h)
@[simp] theorem isi_bool_int {i : Int} : isi1 "bool" (.int i) = some (.val (.bool false)) := isi_of (show kitB "int" "bool" = some false from by decide +kernel) (by intro l h; cases h)
@[simp] theorem isi_bool_bool {b : Bool} : isi1 "bool" (.bool b) = some (.val (.bool true)) := isi_of (show kitB "bool" "bool" = some true from by decide +kernel) (by intro l h; cases h)
@[simp] theorem isi_bool_tuple {ds : List D} : isi1 "bool" (.tuple ds) = some (.val (.bool false)) := isi_of (show kitB "tuple" "bool" = some false from by decide +kernel) (by intro l h; cases h)
@[simp] theorem isi_bool_list {ds : List D} : isi1 "bool" (.list ds) = some (.val (.bool false)) := isi_of (show kitB "list" "bool" = some false from by decide +kernel) (by intro l h; cases h)
@[simp] theorem isi_bool_str {x : Str} : isi1 "bool" (.str x) = some (.val (.bool false)) := isi_of (show kitB "str" "bool" = some false from by decide +kernel) (by intro l h; cases h)
@[simp] theorem isi_bool_NoneType  : isi1 "bool" .none = some (.val (.bool false)) := isi_of (show kitB "NoneType" "bool" = some false from by decide +kernel) (by intro l h; cases h)
@[simp] theorem isi_tuple_int {i : Int} : isi1 "tuple" (.int i) = some (.val (.bool false)) := isi_of (show kitB "int" "tuple" = some false from by decide +kernel) (by intro l h; cases h)
@[simp] theorem isi_tuple_bool {b : Bool} : isi1 "tuple" (.bool b) = some (.val (.bool false)) := isi_of (show kitB "bool" "tuple" = some false from by decide +kernel) (by intro l h; cases h)
@[simp] theorem isi_tuple_tuple {ds : List D} : isi1 "tuple" (.tuple ds) = some (.val (.bool true)) := isi_of (show kitB "tuple" "tuple" = some true from by decide +kernel) (by intro l h; cases h)
@[simp] theorem isi_tuple_list {ds : List D} : isi1 "tuple" (.list ds) = some (.val (.bool false)) := isi_of (show kitB "list" "tuple" = some false from by decide +kernel) (by intro l h; cases h)
@[simp] theorem isi_tuple_str {x : Str} : isi1 "tuple" (.str x) = some (.val (.bool false)) := isi_of (show kitB "str" "tuple" = some false from by decide +kernel) (by intro l h; cases h)
@[simp] theorem isi_tuple_NoneType  : isi1 "tuple" .none = some (.val (.bool false)) := isi_of (show kitB "NoneType" "tuple" = some false from by decide +kernel) (by intro l h; cases h)
@[simp] theorem isi_list_int {i : Int} : isi1 "list" (.int i) = some (.val (.bool false)) := isi_of (show kitB "int" "list" = some false from by decide +kernel) (by intro l h; cases h)
@[simp] theorem isi_list_bool {b : Bool} : isi1 "list" (.bool b) = some (.val (.bool false)) := isi_of (show kitB "bool" "list" = some false from by decide +kernel) (by intro l h; cases h)
@[simp] theorem isi_list_tuple {ds : List D} : isi1 "list" (.tuple ds) = some (.val (.bool false)) := isi_of (show kitB "tuple" "list" = some false from by decide +kernel) (by intro l h; cases h)
@[simp] theorem isi_list_list {ds : List D} : isi1 "list" (.list ds) = some (.val (.bool true)) := isi_of (show kitB "list" "list" = some true from by decide +kernel) (by intro l h; cases h)
@[simp] theorem isi_list_str {x : Str} : isi1 "list" (.str x) = some (.val (.bool false)) := isi_of (show kitB "str" "list" = some false from by decide +kernel) (by intro l h; cases h)
@[simp] theorem isi_list_NoneType  : isi1 "list" .none = some (.val (.bool false)) := isi_of (show kitB "NoneType" "list" = some false from by decide +kernel) (by intro l h; cases h)
@[simp] theorem isi_str_int {i : Int} : isi1 "str" (.int i) = some (.val (.bool false)) := isi_of (show kitB "int" "str" = some false from by decide +kernel) (by intro l h; cases h)
@[simp] theorem isi_str_bool {b : Bool} : isi1 "str" (.bool b) = some (.val (.bool false)) := isi_of (show kitB "bool" "str" = some false from by decide +kernel) (by intro l h; cases h)
@[simp] theorem isi_str_tuple {ds : List D} : isi1 "str" (.tuple ds) = some (.val (.bool false)) := isi_of (show kitB "tuple" "str" = some false from by decide +kernel) (by intro l h; cases h)
@[simp] theorem isi_str_list {ds : List D} : isi1 "str" (.list ds) = some (.val (.bool false)) := isi_of (show kitB "list" "str" = some false from by decide +kernel) (by intro l h; cases h)
@[simp] theorem isi_str_str {x : Str} : isi1 "str" (.str x) = some (.val (.bool true)) := isi_of (show kitB "str" "str" = some true from by decide +kernel) (by intro l h; cases h)
@[simp] theorem isi_str_NoneType  : isi1 "str" .none = some (.val (.bool false)) := isi_of (show kitB "NoneType" "str" = some false from by decide +kernel) (by intro l h; cases h)
@[simp] theorem isi_dict_int {i : Int} : isi1 "dict" (.int i) = some (.val (.bool false)) := isi_of (show kitB "int" "dict" = some false from by decide +kernel) (by intro l h; cases h)
@[simp] theorem isi_dict_bool {b : Bool} : isi1 "dict" (.bool b) = some (.val (.bool false)) := isi_of (show kitB "bool" "dict" = some false from by decide +kernel) (by intro l h; cases h)
@[simp] theorem isi_dict_tuple {ds : List D} : isi1 "dict" (.tuple ds) = some (.val (.bool false)) := isi_of (show kitB "tuple" "dict" = some false from by decide +kernel) (by intro l h; cases h)
@[simp] theorem isi_dict_list {ds : List D} : isi1 "dict" (.list ds) = some (.val (.bool false)) := isi_of (show kitB "list" "dict" = some false from by decide +kernel) (by intro l h; cases h)
@[simp] theorem isi_dict_str {x : Str} : isi1 "dict" (.str x) = some (.val (.bool false)) := isi_of (show kitB "str" "dict" = some false from by decide +kernel) (by intro l h; cases h)
@[simp] theorem isi_dict_NoneType  : isi1 "dict" .none = some (.val (.bool false)) := isi_of (show kitB "NoneType" "dict" = some false from by decide +kernel) (by intro l h; cases h)
@[simp] theorem isiT_tl_int {i : Int} : isiT ["tuple", "list"] (.int i) = some (.val (.bool false)) := isiT_of (show isiAny "int" ["tuple", "list"] = some false from by decide +kernel) (by intro l h; cases h)
@[simp] theorem isiT_tl_bool {b : Bool} : isiT ["tuple", "list"] (.bool b) = some (.val (.bool false)) := isiT_of (show isiAny "bool" ["tuple", "list"] = some false from by decide +kernel) (by intro l h; cases h)
@[simp] theorem isiT_tl_tuple {ds : List D} : isiT ["tuple", "list"] (.tuple ds) = some (.val (.bool true)) := isiT_of (show isiAny "tuple" ["tuple", "list"] = some true from by decide +kernel) (by intro l h; cases h)
@[simp] theorem isiT_tl_list {ds : List D} : isiT ["tuple", "list"] (.list ds) = some (.val (.bool true)) := isiT_of (show isiAny "list" ["tuple", "list"] = some true from by decide +kernel) (by intro l h; cases h)
@[simp] theorem isiT_tl_str {x : Str} : isiT ["tuple", "list"] (.str x) = some (.val (.bool false)) := isiT_of (show isiAny "str" ["tuple", "list"] = some false from by decide +kernel) (by intro l h; cases h)
@[simp] theorem isiT_tl_NoneType  : isiT ["tuple", "list"] .none = some (.val (.bool false)) := isiT_of (show isiAny "NoneType" ["tuple", "list"] = some false from by decide +kernel) (by intro l h; cases h)
@[simp] theorem truthD_bool {b : Bool} : truthD (.bool b) = some b := (rfl)
@[simp] theorem truthD_none : truthD .none = some false := (rfl)
@[simp] theorem truthD_int {b : Int} : truthD (.int b) = some (b != 0) := (rfl)
@[simp] theorem truthD_list {b : List D} : truthD (.list b) = some (!b.isEmpty) := (rfl)
@[simp] theorem truthD_tuple {b : List D} : truthD (.tuple b) = some (!b.isEmpty) := (rfl)
@[simp] theorem ltD_int {i j : Int} : ltD (.int i) (.int j) = some (decide (i < j)) := (rfl)
@[simp] theorem leD_int {i j : Int} : leD (.int i) (.int j) = some (decide (i ≤ j)) := (rfl)
@[simp] theorem gtD_int {i j : Int} : gtD (.int i) (.int j) = some (decide (j < i)) := (rfl)
@[simp] theorem geD_int {i j : Int} : geD (.int i) (.int j) = some (decide (j ≤ i)) := (rfl)
@[simp] theorem shaped_int {i : Int} : SeqAt.shaped (.int i) = true := by simp [SeqAt.shaped, PyData.canLay0, PyData.depth]
@[simp] theorem shaped_none : SeqAt.shaped .none = true := by simp [SeqAt.shaped, PyData.canLay0, PyData.depth]
@[simp] theorem shaped_bool {i : Bool} : SeqAt.shaped (.bool i) = true := by simp [SeqAt.shaped, PyData.canLay0, PyData.depth]
@[simp] theorem eqv_int {i j : Int} : PyData.eqv (.int i) (.int j) = decide (i = j) := by
  simp only [PyData.eqv]
  exact Bool.eq_iff_iff.mpr (by simp)
@[simp] theorem eqD_int {i j : Int} : eqD (.int i) (.int j) = some (decide (i = j)) := by
  simp [eqD]
@[simp] theorem neD_int {i j : Int} : neD (.int i) (.int j) = some (!decide (i = j)) := by
  simp [neD]
@[simp] theorem isD_none {d : D} : isD d .none = some (match d with | .none => true | _ => false) := by
  cases d <;> rfl
@[simp] theorem isNotD_none {d : D} : isNotD d .none = some (match d with | .none => false | _ => true) := by
  cases d <;> rfl
@[simp] theorem addD_int {i j : Int} : addD (.int i) (.int j) = some (.val (.int (i + j))) := (rfl)
@[simp] theorem subD_int {i j : Int} : subD (.int i) (.int j) = some (.val (.int (i - j))) := (rfl)
@[simp] theorem addD_tup {a b : List D} : addD (.tuple a) (.tuple b) = if a.length + b.length ≤ sizeLine then some (.val (.tuple (a ++ b))) else none := (rfl)
@[simp] theorem addD_list {a b : List D} : addD (.list a) (.list b) = if a.length + b.length ≤ sizeLine then some (.own (a ++ b)) else none := (rfl)
/-- a whole number of not too many bits -/
def Sz (i : Int) : Prop := i.natAbs < 2 ^ 8000
theorem Sz.log (h : Sz i) : i.natAbs.log2 < 8001 := by
  by_cases h0 : i.natAbs = 0
  · rw [h0]; decide
  · exact Nat.lt_succ_of_lt ((Nat.log2_lt h0).mpr h)
theorem mulD_sz {i j : Int} (h : Sz i) (g : Sz j) : mulD (.int i) (.int j) = some (.val (.int (i * j))) := by
  have h1 := h.log
  have h2 := g.log
  exact if_pos (by omega)
theorem fdivD_sz {i j : Int} (h : j ≠ 0) (g : Sz j) : fdivD (.int i) (.int j) = some (.val (.int (i.fdiv j))) := by
  have h2 := g.log
  exact if_pos ⟨h, by omega⟩
@[simp] theorem modD_int {i j : Int} : modD (.int i) (.int j) = if j ≠ 0 then some (.val (.int (i.fmod j))) else none := (rfl)
@[simp] theorem lenD_list {ds : List D} : lenD (.list ds) = some (.val (.int ds.length)) := (rfl)
@[simp] theorem lenD_tuple {ds : List D} : lenD (.tuple ds) = some (.val (.int ds.length)) := (rfl)
@[simp] theorem absD_int {i : Int} : absD (.int i) = some (.val (.int (if i < 0 then -i else i))) := (rfl)
@[simp] theorem intD_int {i : Int} : intD (.int i) = some (.val (.int i)) := (rfl)
@[simp] theorem intD_bool {i : Bool} : intD (.bool i) = some (.val (.int (if i then 1 else 0))) := (rfl)
@[simp] theorem gcdD_int {i j : Int} : gcdD (.int i) (.int j) = some (.val (.int (Nat.gcd i.natAbs j.natAbs : Nat))) := (rfl)
@[simp] theorem tupleD_list {ds : List D} : tupleD (.list ds) = some (.val (.tuple ds)) := (rfl)
@[simp] theorem tupleD_tuple {ds : List D} : tupleD (.tuple ds) = some (.val (.tuple ds)) := (rfl)
@[simp] theorem listD_list {ds : List D} : listD (.list ds) = some (.own ds) := (rfl)
@[simp] theorem listD_tuple {ds : List D} : listD (.tuple ds) = some (.own ds) := (rfl)
@[simp] theorem max2D_int {i j : Int} : max2D (.int i) (.int j) = some (.val (.int (if j > i then j else i))) := (rfl)
@[simp] theorem min2D_int {i j : Int} : min2D (.int i) (.int j) = some (.val (.int (if j < i then j else i))) := (rfl)
theorem ixD_tup {ds : List D} {i : Int} {d : D} (h : atI ds i = some d) : ixD (.tuple ds) (.int i) = some (.val d) := by
  show (atI ds i).map W.val = _
  rw [h]
  rfl
theorem ixD_list {ds : List D} {i : Int} {d : D} (h : atI ds i = some d) : ixD (.list ds) (.int i) = some (.val d) := by
  show (atI ds i).map W.val = _
  rw [h]
  rfl
theorem atI_of {α : Type} {ds : List α} {n : Nat} {d : α} (h : ds[n]? = some d) : atI ds (n : Int) = some d := atI_nat h
@[simp] theorem ixD_0 {d : D} {ds : List D} : ixD (.tuple (d :: ds)) (.int 0) = some (.val d) := ixD_tup (atI_nat (j := 0) rfl)
@[simp] theorem ixD_1 {d e : D} {ds : List D} : ixD (.tuple (e :: d :: ds)) (.int 1) = some (.val d) := ixD_tup (atI_nat (j := 1) rfl)
@[simp] theorem ixD_2 {a d e : D} {ds : List D} : ixD (.tuple (a :: e :: d :: ds)) (.int 2) = some (.val d) := ixD_tup (atI_nat (j := 2) rfl)
@[simp] theorem ixL_0 {d : D} {ds : List D} : ixD (.list (d :: ds)) (.int 0) = some (.val d) := ixD_list (atI_nat (j := 0) rfl)
@[simp] theorem ixL_1 {d e : D} {ds : List D} : ixD (.list (e :: d :: ds)) (.int 1) = some (.val d) := ixD_list (atI_nat (j := 1) rfl)
@[simp] theorem ixL_2 {a d e : D} {ds : List D} : ixD (.list (a :: e :: d :: ds)) (.int 2) = some (.val d) := ixD_list (atI_nat (j := 2) rfl)
theorem sizeLine_big : 1000000 ≤ sizeLine := by rw [sizeLine_eq]; decide
theorem divmodD_int {i j : Int} (h : 0 < j) (g : j < 1073741824) : divmodD (.int i) (.int j) = some (.val (.tuple [.int (i / j), .int (i % j)])) := if_pos ⟨h, g⟩
end Z
/-! P, part 2: fractions as pairs of whole numbers. -/
namespace Z
open PySem PySem.Spec PyProof.Rows L2

def frac (q : Rat) : D := .tuple [.int q.num, .int q.den]
/-- of at most L bits above and below -/
structure Ht (L : Nat) (q : Rat) : Prop where
  num : q.num.natAbs < 2 ^ L
  den : q.den < 2 ^ L
theorem Ht.mono {L M : Nat} {q : Rat} (h : Ht L q) (l : L ≤ M) : Ht M q :=
  ⟨Nat.lt_of_lt_of_le h.num (Nat.pow_le_pow_right (by decide) l), Nat.lt_of_lt_of_le h.den (Nat.pow_le_pow_right (by decide) l)⟩
theorem divInt_pos {a : Int} {b : Nat} (hb : b ≠ 0) : (Rat.divInt a b).num = a / (Nat.gcd a.natAbs b : Nat) ∧ (Rat.divInt a b).den = b / Nat.gcd a.natAbs b := by
  rw [Rat.divInt_ofNat, Rat.mkRat_def, dif_neg hb, Rat.normalize_eq]
  exact ⟨rfl, rfl⟩
theorem Ht.divInt {L : Nat} {a : Int} {b : Nat} (hb : b ≠ 0) (h1 : a.natAbs < 2 ^ L) (h2 : b < 2 ^ L) : Ht L (Rat.divInt a b) := by
  obtain ⟨e1, e2⟩ := divInt_pos (a := a) hb
  refine ⟨?_, ?_⟩
  · rw [e1]
    refine Nat.lt_of_le_of_lt ?_ h1
    exact Int.natAbs_ediv_le_natAbs _ _
  · rw [e2]
    exact Nat.lt_of_le_of_lt (Nat.div_le_self _ _) h2
theorem pow_mul_lt {a b L M : Nat} (h1 : a < 2 ^ L) (h2 : b < 2 ^ M) : a * b < 2 ^ (L + M) := by
  rw [Nat.pow_add]
  exact Nat.mul_lt_mul'' h1 h2
theorem add_eq (p q : Rat) : p + q = Rat.divInt (p.num * q.den + q.num * p.den) ((p.den * q.den : Nat) : Int) := by
  conv => lhs; rw [← Rat.num_divInt_den p, ← Rat.num_divInt_den q]
  rw [Rat.divInt_add_divInt _ _ (by exact_mod_cast p.den_nz) (by exact_mod_cast q.den_nz)]
  congr 1
theorem sub_eq (p q : Rat) : p - q = Rat.divInt (p.num * q.den - q.num * p.den) ((p.den * q.den : Nat) : Int) := by
  conv => lhs; rw [← Rat.num_divInt_den p, ← Rat.num_divInt_den q]
  rw [Rat.divInt_sub_divInt _ _ (by exact_mod_cast p.den_nz) (by exact_mod_cast q.den_nz)]
  congr 1
theorem mul_eq (p q : Rat) : p * q = Rat.divInt (p.num * q.num) ((p.den * q.den : Nat) : Int) := by
  conv => lhs; rw [← Rat.num_divInt_den p, ← Rat.num_divInt_den q]
  rw [Rat.divInt_mul_divInt]
  congr 1
theorem div_eq (p q : Rat) : p / q = Rat.divInt (p.num * q.den) (p.den * q.num) := by
  conv => lhs; rw [← Rat.num_divInt_den p, ← Rat.num_divInt_den q]
  rw [Rat.div_def, Rat.inv_divInt, Rat.divInt_mul_divInt]
theorem mul_nz (p q : Rat) : p.den * q.den ≠ 0 := Nat.mul_ne_zero p.den_nz q.den_nz
theorem ht_add {L M : Nat} {p q : Rat} (h : Ht L p) (g : Ht M q) : Ht (L + M + 1) (p + q) := by
  rw [add_eq]
  have h1 := pow_mul_lt h.num g.den
  have h2 := pow_mul_lt g.num h.den
  have h3 := pow_mul_lt h.den g.den
  rw [Nat.add_comm M L] at h2
  refine Ht.divInt (mul_nz p q) ?_ ?_
  · refine Nat.lt_of_le_of_lt (Int.natAbs_add_le _ _) ?_
    rw [Int.natAbs_mul, Int.natAbs_mul, Int.natAbs_natCast, Int.natAbs_natCast, Nat.pow_succ]
    omega
  · rw [Nat.pow_succ]; omega
theorem ht_sub {L M : Nat} {p q : Rat} (h : Ht L p) (g : Ht M q) : Ht (L + M + 1) (p - q) := by
  rw [sub_eq]
  have h1 := pow_mul_lt h.num g.den
  have h2 := pow_mul_lt g.num h.den
  have h3 := pow_mul_lt h.den g.den
  rw [Nat.add_comm M L] at h2
  refine Ht.divInt (mul_nz p q) ?_ ?_
  · refine Nat.lt_of_le_of_lt (Int.natAbs_sub_le _ _) ?_
    rw [Int.natAbs_mul, Int.natAbs_mul, Int.natAbs_natCast, Int.natAbs_natCast, Nat.pow_succ]
    omega
  · rw [Nat.pow_succ]; omega
theorem ht_mul {L M : Nat} {p q : Rat} (h : Ht L p) (g : Ht M q) : Ht (L + M) (p * q) := by
  rw [mul_eq]
  refine Ht.divInt (mul_nz p q) ?_ (pow_mul_lt h.den g.den)
  rw [Int.natAbs_mul]
  exact pow_mul_lt h.num g.num
theorem divInt_sign {a b : Int} (hb : b ≠ 0) : Rat.divInt a b = Rat.divInt (a * b.sign) (b.natAbs : Nat) := by
  rcases Int.lt_or_lt_of_ne hb with h | h
  · rw [Int.sign_eq_neg_one_of_neg h]
    have : ((b.natAbs : Nat) : Int) = -b := by omega
    rw [this, Int.mul_neg_one, Rat.neg_divInt_neg]
  · rw [Int.sign_eq_one_of_pos h]
    have : ((b.natAbs : Nat) : Int) = b := by omega
    rw [this, Int.mul_one]
theorem Ht.divInt' {L : Nat} {a b : Int} (hb : b ≠ 0) (h1 : a.natAbs < 2 ^ L) (h2 : b.natAbs < 2 ^ L) : Ht L (Rat.divInt a b) := by
  rw [divInt_sign hb]
  refine Ht.divInt (by omega) ?_ h2
  rw [Int.natAbs_mul, Int.natAbs_sign_of_ne_zero hb, Nat.mul_one]
  exact h1
theorem num_nz {q : Rat} (h : q ≠ 0) : q.num ≠ 0 := fun z => h (Rat.num_eq_zero.mp z)
theorem ht_div {L M : Nat} {p q : Rat} (h : Ht L p) (g : Ht M q) (nz : q ≠ 0) : Ht (L + M) (p / q) := by
  rw [div_eq]
  refine Ht.divInt' (Int.mul_ne_zero (by exact_mod_cast p.den_nz) (num_nz nz)) ?_ ?_
  · rw [Int.natAbs_mul, Int.natAbs_natCast]; exact pow_mul_lt h.num g.den
  · rw [Int.natAbs_mul, Int.natAbs_natCast]; exact pow_mul_lt h.den g.num
theorem sz_of {L : Nat} {i : Int} (h : i.natAbs < 2 ^ L) (l : L ≤ 8000) : Sz i := Nat.lt_of_lt_of_le h (Nat.pow_le_pow_right (by decide) l)
theorem Ht.szn {L : Nat} {q : Rat} (h : Ht L q) (l : L ≤ 8000 := by omega) : Sz q.num := sz_of h.num l
theorem Ht.szd {L : Nat} {q : Rat} (h : Ht L q) (l : L ≤ 8000 := by omega) : Sz (q.den : Int) := by
  have := h.den
  exact sz_of (L := L) (by rw [Int.natAbs_natCast]; exact this) l
theorem frac_inj {p q : Rat} (h : frac p = frac q) : p = q := by
  unfold frac at h
  injection h with h
  injection h with h1 h2
  injection h1 with h1
  injection h2 with h2 _
  injection h2 with h2
  exact Rat.ext h1 (by exact_mod_cast h2)
@[simp] theorem ix_num {q : Rat} : ixD (frac q) (.int 0) = some (.val (.int q.num)) := ixD_0
@[simp] theorem ix_den {q : Rat} : ixD (frac q) (.int 1) = some (.val (.int q.den)) := ixD_1
theorem den_pos' {q : Rat} : (0 : Int) < q.den := by exact_mod_cast q.den_pos
theorem den_nz' {q : Rat} : (q.den : Int) ≠ 0 := by exact_mod_cast q.den_nz
@[simp] theorem shaped_frac {q : Rat} : SeqAt.shaped (frac q) = true := by simp [frac, SeqAt.shaped, PyData.canLay0, PyData.canLayAll0, PyData.depth, PyData.depthAll]
@[simp] theorem eqv_frac {p q : Rat} : PyData.eqv (frac p) (frac q) = decide (p = q) := by
  show PyData.eqv (.tuple [.int p.num, .int p.den]) (.tuple [.int q.num, .int q.den]) = _
  simp only [PyData.eqv, PyData.eqvAll]
  refine Bool.eq_iff_iff.mpr ?_
  simp only [Bool.and_eq_true, beq_iff_eq, decide_eq_true_eq, Bool.true_eq, and_true]
  constructor
  · rintro ⟨h1, h2⟩
    exact Rat.ext h1 (by exact_mod_cast h2)
  · rintro rfl
    exact ⟨rfl, rfl⟩
@[simp] theorem eqD_frac {p q : Rat} : eqD (frac p) (frac q) = some (decide (p = q)) := by simp [eqD]
@[simp] theorem neD_frac {p q : Rat} : neD (frac p) (frac q) = some (!decide (p = q)) := by simp [neD]
theorem gcd_red (q : Rat) : Nat.gcd q.num.natAbs q.den = 1 := q.reduced
/-- normalising by the greatest common part -/
theorem frac_gcd {a : Int} {b : Nat} (hb : b ≠ 0) : PyData.tuple [.int (a.fdiv (Nat.gcd a.natAbs b : Nat)), .int ((b : Int).fdiv (Nat.gcd a.natAbs b : Nat))] = frac (Rat.divInt a b) := by
  obtain ⟨e1, e2⟩ := divInt_pos (a := a) hb
  unfold frac
  rw [e1, e2, Int.fdiv_eq_ediv_of_nonneg _ (by omega), Int.fdiv_eq_ediv_of_nonneg _ (by omega)]
  rfl
theorem le_of_num {p q : Rat} : (q.num * p.den < p.num * q.den) = (q < p) := propext (Rat.lt_iff q p).symm
end Z
namespace K22
open PySem PySem.Spec PyProof.Rows L2 Z
def top (i : Nat) : Stmt := PySem.Challenge.pw_evendraws_k22_whole_first_cells_cuts_and.main.body.getD i (.Pass ⟨0, 0, 0, 0⟩)
def con_ONE : D := .tuple [.int 1, .int 1]
def con_MOST_DRAWS : D := .int 4
def con_ZERO : D := .tuple [.int 0, .int 1]
def el__law_same_1 (rec_ : Fn) : M W := (eCallS 2 rec_ (aCons (opLk ixD (eVar 0) (eVar 2)) (aCons (opLk ixD (eVar 1) (eVar 2)) aNil)))
def b__law_same (rec_ : Fn) : M SR := (seq (sIf (cOr (cAnd (opTruth (op1 (isi1 "tuple") (eVar 1))) (cNot (opTruth (op1 (isi1 "tuple") (eVar 0))))) (cAnd (opTruth (op1 (isi1 "list") (eVar 1))) (cNot (opTruth (op1 (isi1 "list") (eVar 0)))))) (sRet (eC (.bool false))) sNext)
      (seq (sIf (opTruth (op1 (isiT ["tuple", "list"]) (eVar 1))) (sRet (eAnd (opCmpV eqD (op1 lenD (eVar 0)) (op1 lenD (eVar 1))) (op1 allD (eLc [2] (srcA rangeW (aCons (op1 lenD (eVar 1)) aNil)) (tName 2) cTrue (el__law_same_1 rec_))))) sNext)
      (seq (sIf (cOr (opCmp isD (eVar 1) (eC .none)) (opCmp isD (eVar 0) (eC .none))) (sRet (eAnd (opCmpV isD (eVar 1) (eC .none)) (opCmpV isD (eVar 0) (eC .none)))) sNext)
      (seq (sIf (cOr (opTruth (op1 (isi1 "bool") (eVar 1))) (opTruth (op1 (isi1 "bool") (eVar 0)))) (sRet (eAnd (op1 (isi1 "bool") (eVar 1)) (eAnd (op1 (isi1 "bool") (eVar 0)) (opCmpV eqD (eVar 1) (eVar 0))))) sNext)
      (seq (sIf (opTruth (op1 (isi1 "int") (eVar 1))) (sRet (eAnd (op1 (isi1 "int") (eVar 0)) (opCmpV eqD (eVar 0) (eVar 1)))) sNext)
      (seq (sIf (opTruth (op1 (isi1 "str") (eVar 1))) (sRet (eAnd (op1 (isi1 "str") (eVar 0)) (opCmpV eqD (eVar 0) (eVar 1)))) sNext)
      (sRet (eAnd (op1 (isi1 "dict") (eVar 1)) (eAnd (op1 (isi1 "dict") (eVar 0)) (eAnd (opCmpV eqD (op1 lenD (eVar 0)) (op1 lenD (eVar 1))) (opCmpV eqD (eVar 0) (eVar 1))))))))))))
def m__law_same : Nat → Fn
  | 0 => fnOf 3 sFail
  | n + 1 => fnOf 3 (b__law_same (m__law_same n))
def b__law_take : M SR := (seq (sIf (opCmp gtD (opLk ixD (eVar 0) (eC (.int 0))) (eC (.int 0))) (seq (sUnp (tTupG 2 (tConsG (tSubG (eVar 0) (eC (.int 0))) (tConsG (tName 2) tNilG))) (opLk divmodD (opLk ixD (eVar 0) (eC (.int 0))) (eVar 1)))
      (sRet (eVar 2))) sNext)
      (seq (sUnp (tSubG (eVar 0) (eC (.int 2))) (opBin addD (opLk ixD (eVar 0) (eC (.int 2))) (eC (.int 1))))
      (seq (sUnp (tSubG (eVar 0) (eC (.int 1))) (opBin modD (op1 intD (opBin addD (opBin addD (opBin mulD (opLk ixD (eVar 0) (eC (.int 1))) (eC (.int 39373))) (opBin mulD (opLk ixD (eVar 0) (eC (.int 2))) (eC (.int 30323)))) (eC (.int 11)))) (eC (.int 2147483543))))
      (sRet (opBin modD (op1 intD (opBin fdivD (opLk ixD (eVar 0) (eC (.int 1))) (eC (.int 128)))) (eVar 1))))))
def m__law_take : Fn := fnOf 3 b__law_take
def b__law_of : M SR := (sRet (opLk ixD (eVar 1) (eCallS 2 m__law_take (aCons (eVar 0) (aCons (op1 lenD (eVar 1)) aNil)))))
def m__law_of : Fn := fnOf 2 b__law_of
def b_is_tuple_of : M SR := (sRet (eAnd (op1 (isi1 "tuple") (eVar 0)) (opCmpV eqD (op1 lenD (eVar 0)) (eVar 1))))
def m_is_tuple_of : Fn := fnOf 2 b_is_tuple_of
def b_is_whole : M SR := (sRet (eAnd (op1 (isi1 "int") (eVar 0)) (eNot (op1 (isi1 "bool") (eVar 0)))))
def m_is_whole : Fn := fnOf 1 b_is_whole
def b_is_fraction : M SR := (seq (sIf (cOr (cNot (opTruth (eCallS 2 m_is_tuple_of (aCons (eVar 0) (aCons (eC (.int 2)) aNil))))) (cOr (cNot (opTruth (eCallS 1 m_is_whole (aCons (opLk ixD (eVar 0) (eC (.int 0))) aNil)))) (cNot (opTruth (eCallS 1 m_is_whole (aCons (opLk ixD (eVar 0) (eC (.int 1))) aNil)))))) (sRet (eC (.bool false))) sNext)
      (sRet (eAnd (opCmpV gtD (opLk ixD (eVar 0) (eC (.int 1))) (eC (.int 0))) (opCmpV eqD (opLk gcdD (opLk ixD (eVar 0) (eC (.int 0))) (opLk ixD (eVar 0) (eC (.int 1)))) (eC (.int 1))))))
def m_is_fraction : Fn := fnOf 1 b_is_fraction
def b_is_above : M SR := (sRet (opCmpV gtD (opBin mulD (opLk ixD (eVar 0) (eC (.int 0))) (opLk ixD (eVar 1) (eC (.int 1)))) (opBin mulD (opLk ixD (eVar 1) (eC (.int 0))) (opLk ixD (eVar 0) (eC (.int 1))))))
def m_is_above : Fn := fnOf 2 b_is_above
def b_is_part : M SR := (sRet (eAnd (eCallS 1 m_is_fraction (aCons (eVar 0) aNil)) (eAnd (opCmpV geD (opLk ixD (eVar 0) (eC (.int 0))) (eC (.int 0))) (eNot (eCallS 2 m_is_above (aCons (eVar 0) (aCons (eC con_ONE) aNil)))))))
def m_is_part : Fn := fnOf 1 b_is_part
def el_is_point_1 : M W := (eCallS 1 m_is_part (aCons (eVar 2) aNil))
def b_is_point : M SR := (sRet (eAnd (eCallS 2 m_is_tuple_of (aCons (eVar 1) (aCons (eVar 0) aNil))) (op1 allD (eLc [2] (srcV (eVar 1)) (tName 2) cTrue el_is_point_1))))
def m_is_point : Fn := fnOf 3 b_is_point
def el_are_corners_1 : M W := (eCallS 2 m_is_point (aCons (opBin subD (op1 lenD (eVar 0)) (eC (.int 1))) (aCons (eVar 1) aNil)))
def b_are_corners : M SR := (seq (sIf (cOr (cNot (opTruth (op1 (isi1 "tuple") (eVar 0)))) (cNot (opChain leD leD (eC (.int 1)) (op1 lenD (eVar 0)) (opBin addD (eC con_MOST_DRAWS) (eC (.int 1)))))) (sRet (eC (.bool false))) sNext)
      (sRet (op1 allD (eLc [1] (srcV (eVar 0)) (tName 1) cTrue el_are_corners_1))))
def m_are_corners : Fn := fnOf 2 b_are_corners
def b_is_cell_by : M SR := (sRet (eAnd (eCallS 2 m_is_tuple_of (aCons (eVar 0) (aCons (eC (.int 2)) aNil))) (eAnd (eCallS 1 m_are_corners (aCons (opLk ixD (eVar 0) (eC (.int 0))) aNil)) (eCallS 1 m_is_part (aCons (opLk ixD (eVar 0) (eC (.int 1))) aNil)))))
def m_is_cell_by : Fn := fnOf 1 b_is_cell_by
def b_check_cell : M SR := (sIf (cNot (opTruth (eCallS 1 m_is_cell_by (aCons (eVar 0) aNil)))) sFail sNext)
def m_check_cell : Fn := fnOf 1 b_check_cell
def b_is_between : M SR := (sRet (eAnd (eCallS 1 m_is_whole (aCons (eVar 0) aNil)) (opChainV leD leD (eVar 1) (eVar 0) (eVar 2))))
def m_is_between : Fn := fnOf 3 b_is_between
def b_check_number : M SR := (sIf (cNot (opTruth (eCallS 3 m_is_between (aCons (eVar 0) (aCons (eVar 1) (aCons (eVar 2) aNil)))))) sFail sNext)
def m_check_number : Fn := fnOf 3 b_check_number
def b_check_share : M SR := (sIf (cOr (cNot (opTruth (eCallS 1 m_is_part (aCons (eVar 0) aNil)))) (opCmp inD (eVar 0) (eTup (aCons (eC con_ZERO) (aCons (eC con_ONE) aNil))))) sFail sNext)
def m_check_share : Fn := fnOf 1 b_check_share
def b_fraction : M SR := (seq (sAsg 2 (opLk gcdD (eVar 0) (eVar 1)))
      (sRet (eTup (aCons (opBin fdivD (eVar 0) (eVar 2)) (aCons (opBin fdivD (eVar 1) (eVar 2)) aNil)))))
def m_fraction : Fn := fnOf 3 b_fraction
def b_fraction_times : M SR := (sRet (eCallS 2 m_fraction (aCons (opBin mulD (opLk ixD (eVar 0) (eC (.int 0))) (opLk ixD (eVar 1) (eC (.int 0)))) (aCons (opBin mulD (opLk ixD (eVar 0) (eC (.int 1))) (opLk ixD (eVar 1) (eC (.int 1)))) aNil))))
def m_fraction_times : Fn := fnOf 2 b_fraction_times
def b_fraction_less : M SR := (sRet (eCallS 2 m_fraction (aCons (opBin subD (opBin mulD (opLk ixD (eVar 0) (eC (.int 0))) (opLk ixD (eVar 1) (eC (.int 1)))) (opBin mulD (opLk ixD (eVar 1) (eC (.int 0))) (opLk ixD (eVar 0) (eC (.int 1))))) (aCons (opBin mulD (opLk ixD (eVar 0) (eC (.int 1))) (opLk ixD (eVar 1) (eC (.int 1)))) aNil))))
def m_fraction_less : Fn := fnOf 2 b_fraction_less
def b_fraction_sum : M SR := (sRet (eCallS 2 m_fraction (aCons (opBin addD (opBin mulD (opLk ixD (eVar 0) (eC (.int 0))) (opLk ixD (eVar 1) (eC (.int 1)))) (opBin mulD (opLk ixD (eVar 1) (eC (.int 0))) (opLk ixD (eVar 0) (eC (.int 1))))) (aCons (opBin mulD (opLk ixD (eVar 0) (eC (.int 1))) (opLk ixD (eVar 1) (eC (.int 1)))) aNil))))
def m_fraction_sum : Fn := fnOf 2 b_fraction_sum
def el_between_1 : M W := (eCallS 2 m_fraction_times (aCons (eVar 2) (aCons (eCallS 2 m_fraction_less (aCons (eVar 5) (aCons (eVar 4) aNil))) aNil)))
def el_between_2 : M W := (eCallS 2 m_fraction_sum (aCons (eVar 4) (aCons (eVar 6) aNil)))
def b_between : M SR := (seq (sAsg 3 (eLc [4, 5] (srcA zipW (aCons (eVar 0) (aCons (eVar 1) aNil))) (tTupG 2 (tConsG (tName 4) (tConsG (tName 5) tNilG))) cTrue el_between_1))
      (sRet (op1 tupleD (eLc [4, 6] (srcA zipW (aCons (eVar 0) (aCons (eVar 3) aNil))) (tTupG 2 (tConsG (tName 4) (tConsG (tName 6) tNilG))) cTrue el_between_2))))
def m_between : Fn := fnOf 7 b_between
def b_with_corner : M SR := (sRet (opBin addD (opBin addD (eSl (eVar 0) pNone (pSome (eVar 1))) (eTup (aCons (eVar 2) aNil))) (eSl (eVar 0) (pSome (opBin addD (eVar 1) (eC (.int 1)))) pNone)))
def m_with_corner : Fn := fnOf 3 b_with_corner
def b_cut_by : M SR := (seq (sUnp (tTupG 2 (tConsG (tName 4) (tConsG (tName 5) tNilG))) (eVar 0))
      (seq (sAsg 6 (eCallS 3 m_between (aCons (opLk ixD (eVar 4) (eVar 1)) (aCons (opLk ixD (eVar 4) (eVar 2)) (aCons (eVar 3) aNil)))))
      (seq (sAsg 7 (eTup (aCons (eCallS 3 m_with_corner (aCons (eVar 4) (aCons (eVar 2) (aCons (eVar 6) aNil)))) (aCons (eCallS 2 m_fraction_times (aCons (eVar 3) (aCons (eVar 5) aNil))) aNil))))
      (sRet (eTup (aCons (eVar 7) (aCons (eTup (aCons (eCallS 3 m_with_corner (aCons (eVar 4) (aCons (eVar 1) (aCons (eVar 6) aNil)))) (aCons (eCallS 2 m_fraction_times (aCons (eCallS 2 m_fraction_less (aCons (eC con_ONE) (aCons (eVar 3) aNil))) (aCons (eVar 5) aNil))) aNil))) aNil)))))))
def m_cut_by : Fn := fnOf 8 b_cut_by
def b_draws_of : M SR := (sRet (opBin subD (op1 lenD (opLk ixD (eVar 0) (eC (.int 0)))) (eC (.int 1))))
def m_draws_of : Fn := fnOf 1 b_draws_of
def b_cut : M SR := (seq (sExpr (eCallS 1 m_check_cell (aCons (eVar 0) aNil)))
      (seq (sExpr (eCallS 3 m_check_number (aCons (eVar 1) (aCons (eC (.int 0)) (aCons (eCallS 1 m_draws_of (aCons (eVar 0) aNil)) aNil)))))
      (seq (sExpr (eCallS 3 m_check_number (aCons (eVar 2) (aCons (opBin addD (eVar 1) (eC (.int 1))) (aCons (eCallS 1 m_draws_of (aCons (eVar 0) aNil)) aNil)))))
      (seq (sExpr (eCallS 1 m_check_share (aCons (eVar 3) aNil)))
      (sRet (eCallS 4 m_cut_by (aCons (eVar 0) (aCons (eVar 1) (aCons (eVar 2) (aCons (eVar 3) aNil))))))))))
def m_cut : Fn := fnOf 4 b_cut
def el_orders_of_1 : M W := (eTup (aStar (eVar 3) (aCons (eVar 4) aNil)))
def lp_orders_of_1 : M SR := (sAsg 1 (eLc2 [3, 4] [4] (srcV (eVar 1)) (tName 3) cTrue (srcA rangeW (aCons (eVar 0) aNil)) (tName 4) (opCmp ninD (eVar 4) (eVar 3)) el_orders_of_1))
def b_orders_of : M SR := (seq (sAsg 1 (eLst (aCons (eTup aNil) aNil)))
      (seq (sFor (srcA rangeW (aCons (eVar 0) aNil)) (tName 2) lp_orders_of_1)
      (sRet (eVar 1))))
def m_orders_of : Fn := fnOf 5 b_orders_of
def lp_corners_of_order_1 : M SR := (seq (sAsg 1 (opBin addD (opBin addD (eSl (eVar 1) pNone (pSome (eVar 3))) (eTup (aCons (eC con_ONE) aNil))) (eSl (eVar 1) (pSome (opBin addD (eVar 3) (eC (.int 1)))) pNone)))
      (sExpr (eAppend (eVar 2) (eVar 1))))
def b_corners_of_order : M SR := (seq (sAsg 1 (opBin mulD (eTup (aCons (eC con_ZERO) aNil)) (op1 lenD (eVar 0))))
      (seq (sAsg 2 (eLst (aCons (eVar 1) aNil)))
      (seq (sFor (srcV (eVar 0)) (tName 3) lp_corners_of_order_1)
      (sRet (op1 tupleD (eVar 2))))))
def m_corners_of_order : Fn := fnOf 4 b_corners_of_order
def el_first_cells_by_1 : M W := (eTup (aCons (eCallS 1 m_corners_of_order (aCons (eVar 2) aNil)) (aCons (eTup (aCons (eC (.int 1)) (aCons (op1 lenD (eVar 1)) aNil))) aNil)))
def b_first_cells_by : M SR := (seq (sAsg 1 (eCallS 1 m_orders_of (aCons (eVar 0) aNil)))
      (sRet (op1 tupleD (eLc [2] (srcV (eVar 1)) (tName 2) cTrue el_first_cells_by_1))))
def m_first_cells_by : Fn := fnOf 3 b_first_cells_by
def b_first_cells : M SR := (seq (sExpr (eCallS 3 m_check_number (aCons (eVar 0) (aCons (eC (.int 0)) (aCons (eC con_MOST_DRAWS) aNil)))))
      (sRet (eCallS 1 m_first_cells_by (aCons (eVar 0) aNil))))
def m_first_cells : Fn := fnOf 1 b_first_cells
def b__law_part : M SR := (seq (sIf (opCmp ltD (eVar 1) (eC (.int 0))) (sPar [0, 1] (hCons (opBin subD (eC (.int 0)) (eVar 0)) (hCons (opBin subD (eC (.int 0)) (eVar 1)) aNil))) sNext)
      (seq (sPar [2, 3] (hCons (op1 absD (eVar 0)) (hCons (eVar 1) aNil)))
      (seq (whileF (opCmp gtD (eVar 3) (eC (.int 0))) (sPar [2, 3] (hCons (eVar 3) (hCons (opBin modD (op1 intD (eVar 2)) (eVar 3)) aNil))) 100000)
      (sRet (eTup (aCons (opBin fdivD (eVar 0) (eVar 2)) (aCons (opBin fdivD (eVar 1) (eVar 2)) aNil)))))))
def m__law_part : Fn := fnOf 4 b__law_part
def b__law_plus : M SR := (sRet (eCallS 2 m__law_part (aCons (opBin addD (opBin mulD (opLk ixD (eVar 0) (eC (.int 0))) (opLk ixD (eVar 1) (eC (.int 1)))) (opBin mulD (opLk ixD (eVar 1) (eC (.int 0))) (opLk ixD (eVar 0) (eC (.int 1))))) (aCons (opBin mulD (opLk ixD (eVar 0) (eC (.int 1))) (opLk ixD (eVar 1) (eC (.int 1)))) aNil))))
def m__law_plus : Fn := fnOf 2 b__law_plus
def lp__law_total_1 : M SR := (sAsg 1 (eCallS 2 m__law_plus (aCons (eVar 1) (aCons (eVar 2) aNil))))
def b__law_total : M SR := (seq (sAsg 1 (eTup (aCons (eC (.int 0)) (aCons (eC (.int 1)) aNil))))
      (seq (sFor (srcV (eVar 0)) (tName 2) lp__law_total_1)
      (sRet (eVar 1))))
def m__law_total : Fn := fnOf 3 b__law_total
def b_sign_of : M SR := (sRet (opBin subD (op1 intD (opCmpV gtD (eVar 0) (eC (.int 0)))) (op1 intD (opCmpV ltD (eVar 0) (eC (.int 0))))))
def m_sign_of : Fn := fnOf 1 b_sign_of
def b_fraction_over : M SR := (seq (sAsg 2 (eCallS 1 m_sign_of (aCons (opLk ixD (eVar 1) (eC (.int 0))) aNil)))
      (sRet (eCallS 2 m_fraction (aCons (opBin mulD (opBin mulD (eVar 2) (opLk ixD (eVar 0) (eC (.int 0)))) (opLk ixD (eVar 1) (eC (.int 1)))) (aCons (opBin mulD (opBin mulD (eVar 2) (opLk ixD (eVar 0) (eC (.int 1)))) (opLk ixD (eVar 1) (eC (.int 0)))) aNil)))))
def m_fraction_over : Fn := fnOf 3 b_fraction_over
def el_pivot_of_1 : M W := (eVar 1)
def b_pivot_of : M SR := (sRet (eSl (eLc [1, 2] (srcA enumW (aCons (eVar 0) aNil)) (tTupG 2 (tConsG (tName 1) (tConsG (tName 2) tNilG))) (opCmp neD (opLk ixD (eVar 2) (eC (.int 0))) (eC con_ZERO)) el_pivot_of_1) pNone (pSome (eC (.int 1)))))
def m_pivot_of : Fn := fnOf 3 b_pivot_of
def el_without_first_1 : M W := (eCallS 2 m_fraction_less (aCons (eVar 3) (aCons (eCallS 2 m_fraction_times (aCons (eVar 2) (aCons (eVar 4) aNil))) aNil)))
def b_without_first : M SR := (seq (sAsg 2 (eCallS 2 m_fraction_over (aCons (opLk ixD (eVar 0) (eC (.int 0))) (aCons (opLk ixD (eVar 1) (eC (.int 0))) aNil))))
      (sRet (eLc [3, 4] (srcA zipW (aCons (eSl (eVar 0) (pSome (eC (.int 1))) pNone) (aCons (eSl (eVar 1) (pSome (eC (.int 1))) pNone) aNil))) (tTupG 2 (tConsG (tName 3) (tConsG (tName 4) tNilG))) cTrue el_without_first_1)))
def m_without_first : Fn := fnOf 5 b_without_first
def el_determinant_size_1 : M W := (eCallS 2 m_without_first (aCons (eVar 5) (aCons (eVar 3) aNil)))
def b_determinant_size : M SR := (seq (sAsg 1 (eC con_ONE))
      (seq (whileF (opCmp neD (eVar 0) (eLst aNil)) (seq (sAsg 2 (eCallS 1 m_pivot_of (aCons (eVar 0) aNil)))
      (seq (sIf (opCmp eqD (eVar 2) (eLst aNil)) (sRet (eC con_ZERO)) sNext)
      (seq (sAsg 3 (opLk ixD (eVar 0) (opLk ixD (eVar 2) (eC (.int 0)))))
      (seq (sAsg 1 (eCallS 2 m_fraction_times (aCons (eVar 1) (aCons (opLk ixD (eVar 3) (eC (.int 0))) aNil))))
      (sAsg 0 (eLc [4, 5] (srcA enumW (aCons (eVar 0) aNil)) (tTupG 2 (tConsG (tName 4) (tConsG (tName 5) tNilG))) (opCmp neD (eVar 4) (opLk ixD (eVar 2) (eC (.int 0)))) el_determinant_size_1)))))) 10)
      (sRet (eCallS 2 m_fraction (aCons (op1 absD (opLk ixD (eVar 1) (eC (.int 0)))) (aCons (opLk ixD (eVar 1) (eC (.int 1))) aNil))))))
def m_determinant_size : Fn := fnOf 6 b_determinant_size
def el_volume_by_1 : M W := (eCallS 2 m_fraction_less (aCons (eVar 5) (aCons (eVar 4) aNil)))
def el_volume_by_2 : M W := (eLc [4, 5] (srcA zipW (aCons (eVar 1) (aCons (eVar 3) aNil))) (tTupG 2 (tConsG (tName 4) (tConsG (tName 5) tNilG))) cTrue el_volume_by_1)
def b_volume_by : M SR := (seq (sAsg 1 (opLk ixD (opLk ixD (eVar 0) (eC (.int 0))) (eC (.int 0))))
      (seq (sAsg 2 (eLc [3] (srcV (eSl (opLk ixD (eVar 0) (eC (.int 0))) (pSome (eC (.int 1))) pNone)) (tName 3) cTrue el_volume_by_2))
      (sRet (eCallS 2 m_fraction_over (aCons (eCallS 1 m_determinant_size (aCons (eVar 2) aNil)) (aCons (eTup (aCons (op1 lenD (eCallS 1 m_orders_of (aCons (eCallS 1 m_draws_of (aCons (eVar 0) aNil)) aNil))) (aCons (eC (.int 1)) aNil))) aNil))))))
def m_volume_by : Fn := fnOf 6 b_volume_by
def b_volume : M SR := (seq (sExpr (eCallS 1 m_check_cell (aCons (eVar 0) aNil)))
      (sRet (eCallS 1 m_volume_by (aCons (eVar 0) aNil))))
def m_volume : Fn := fnOf 1 b_volume
def el__law_orders_1 : M W := (opBin addD (eVar 3) (eTup (aCons (eVar 4) aNil)))
def el__law_orders_2 : M W := (eLc [4] (srcA rangeW (aCons (eVar 0) aNil)) (tName 4) (opCmp ninD (eVar 4) (eVar 3)) el__law_orders_1)
def lp__law_orders_1 : M SR := (sAsg 1 (eSum2 (eLc [3] (srcV (eVar 1)) (tName 3) cTrue el__law_orders_2) (eLst aNil)))
def b__law_orders : M SR := (seq (sAsg 1 (eLst (aCons (eTup aNil) aNil)))
      (seq (sFor (srcA rangeW (aCons (eVar 0) aNil)) (tName 2) lp__law_orders_1)
      (sRet (eVar 1))))
def m__law_orders : Fn := fnOf 5 b__law_orders
def el__law_firsts_1 : M W := (eIf (opCmp eqD (eVar 6) (eVar 5)) (eTup (aCons (eC (.int 1)) (aCons (eC (.int 1)) aNil))) (eVar 7))
def lp__law_firsts_1 : M SR := (sExpr (eAppend (eVar 4) (op1 tupleD (eLc [6, 7] (srcA enumW (aCons (opLk ixD (eVar 4) (eNeg (eC (.int 1)))) aNil)) (tTupG 2 (tConsG (tName 6) (tConsG (tName 7) tNilG))) cTrue el__law_firsts_1))))
def lp__law_firsts_2 : M SR := (seq (sAsg 4 (eLst (aCons (op1 tupleD (opBin mulD (eLst (aCons (eTup (aCons (eC (.int 0)) (aCons (eC (.int 1)) aNil))) aNil)) (eVar 0))) aNil)))
      (seq (sFor (srcV (eVar 3)) (tName 5) lp__law_firsts_1)
      (sExpr (eAppend (eVar 1) (eTup (aCons (op1 tupleD (eVar 4)) (aCons (eTup (aCons (eC (.int 1)) (aCons (op1 lenD (eVar 2)) aNil))) aNil)))))))
def b__law_firsts : M SR := (seq (sPar [1, 2] (hCons (eLst aNil) (hCons (eCallS 1 m__law_orders (aCons (eVar 0) aNil)) aNil)))
      (seq (sFor (srcV (eVar 2)) (tName 3) lp__law_firsts_2)
      (sRet (op1 tupleD (eVar 1)))))
def m__law_firsts : Fn := fnOf 8 b__law_firsts
def b__law_by : M SR := (sRet (eCallS 2 m__law_part (aCons (opBin mulD (opLk ixD (eVar 0) (eC (.int 0))) (opLk ixD (eVar 1) (eC (.int 0)))) (aCons (opBin mulD (opLk ixD (eVar 0) (eC (.int 1))) (opLk ixD (eVar 1) (eC (.int 1)))) aNil))))
def m__law_by : Fn := fnOf 2 b__law_by
def b__law_less : M SR := (sRet (eCallS 2 m__law_part (aCons (opBin subD (opBin mulD (opLk ixD (eVar 0) (eC (.int 0))) (opLk ixD (eVar 1) (eC (.int 1)))) (opBin mulD (opLk ixD (eVar 1) (eC (.int 0))) (opLk ixD (eVar 0) (eC (.int 1))))) (aCons (opBin mulD (opLk ixD (eVar 0) (eC (.int 1))) (opLk ixD (eVar 1) (eC (.int 1)))) aNil))))
def m__law_less : Fn := fnOf 2 b__law_less
def el__law_cut_cell_1 : M W := (eCallS 2 m__law_plus (aCons (eVar 9) (aCons (eCallS 2 m__law_by (aCons (eVar 3) (aCons (eCallS 2 m__law_less (aCons (eVar 10) (aCons (eVar 9) aNil))) aNil))) aNil)))
def b__law_cut_cell : M SR := (seq (sUnp (tTupG 2 (tConsG (tName 4) (tConsG (tName 5) tNilG))) (eVar 0))
      (seq (sAsg 6 (op1 tupleD (eLc [9, 10] (srcA zipW (aCons (opLk ixD (eVar 4) (eVar 1)) (aCons (opLk ixD (eVar 4) (eVar 2)) aNil))) (tTupG 2 (tConsG (tName 9) (tConsG (tName 10) tNilG))) cTrue el__law_cut_cell_1)))
      (seq (sPar [7, 8] (hCons (opBin addD (opBin addD (eSl (eVar 4) pNone (pSome (eVar 2))) (eTup (aCons (eVar 6) aNil))) (eSl (eVar 4) (pSome (opBin addD (eVar 2) (eC (.int 1)))) pNone)) (hCons (opBin addD (opBin addD (eSl (eVar 4) pNone (pSome (eVar 1))) (eTup (aCons (eVar 6) aNil))) (eSl (eVar 4) (pSome (opBin addD (eVar 1) (eC (.int 1)))) pNone)) aNil)))
      (sRet (eTup (aCons (eTup (aCons (eVar 7) (aCons (eCallS 2 m__law_by (aCons (eVar 3) (aCons (eVar 5) aNil))) aNil))) (aCons (eTup (aCons (eVar 8) (aCons (eCallS 2 m__law_by (aCons (eCallS 2 m__law_less (aCons (eTup (aCons (eC (.int 1)) (aCons (eC (.int 1)) aNil))) (aCons (eVar 3) aNil))) (aCons (eVar 5) aNil))) aNil))) aNil)))))))
def m__law_cut_cell : Fn := fnOf 11 b__law_cut_cell
def b_is_cell : M SR := (sRet (eCallS 1 m_is_cell_by (aCons (eVar 0) aNil)))
def m_is_cell : Fn := fnOf 1 b_is_cell
def b__law_over : M SR := (sRet (eCallS 2 m__law_part (aCons (opBin mulD (opLk ixD (eVar 0) (eC (.int 0))) (opLk ixD (eVar 1) (eC (.int 1)))) (aCons (opBin mulD (opLk ixD (eVar 0) (eC (.int 1))) (opLk ixD (eVar 1) (eC (.int 0)))) aNil))))
def m__law_over : Fn := fnOf 2 b__law_over
def el__law_determinant_1 : M W := (op1 listD (eVar 7))
def el__law_determinant_2 : M W := (eVar 5)
def el__law_determinant_3 : M W := (eCallS 2 m__law_less (aCons (eVar 8) (aCons (eCallS 2 m__law_by (aCons (eVar 6) (aCons (eVar 9) aNil))) aNil)))
def lp__law_determinant_1 : M SR := (seq (sAsg 6 (eCallS 2 m__law_over (aCons (opLk ixD (opLk ixD (eVar 2) (eVar 5)) (eVar 3)) (aCons (opLk ixD (opLk ixD (eVar 2) (eVar 3)) (eVar 3)) aNil))))
      (sUnp (tSubG (eVar 2) (eVar 5)) (eLc [8, 9] (srcA zipW (aCons (opLk ixD (eVar 2) (eVar 5)) (aCons (opLk ixD (eVar 2) (eVar 3)) aNil))) (tTupG 2 (tConsG (tName 8) (tConsG (tName 9) tNilG))) cTrue el__law_determinant_3)))
def lp__law_determinant_2 : M SR := (seq (sAsg 4 (eLc [5] (srcA rangeW2 (aCons (eVar 3) (aCons (op1 lenD (eVar 2)) aNil))) (tName 5) (opCmp neD (opLk ixD (opLk ixD (opLk ixD (eVar 2) (eVar 5)) (eVar 3)) (eC (.int 0))) (eC (.int 0))) el__law_determinant_2))
      (seq (sIf (opCmp eqD (eVar 4) (eLst aNil)) (sRet (eTup (aCons (eC (.int 0)) (aCons (eC (.int 1)) aNil)))) sNext)
      (seq (sIf (opCmp neD (opLk ixD (eVar 4) (eC (.int 0))) (eVar 3)) (sUnp (tTupG 3 (tConsG (tSubG (eVar 2) (eVar 3)) (tConsG (tSubG (eVar 2) (opLk ixD (eVar 4) (eC (.int 0)))) (tConsG (tName 1) tNilG)))) (eTup (aCons (opLk ixD (eVar 2) (opLk ixD (eVar 4) (eC (.int 0)))) (aCons (opLk ixD (eVar 2) (eVar 3)) (aCons (eTup (aCons (opBin subD (eC (.int 0)) (opLk ixD (eVar 1) (eC (.int 0)))) (aCons (opLk ixD (eVar 1) (eC (.int 1))) aNil))) aNil))))) sNext)
      (seq (sAsg 1 (eCallS 2 m__law_by (aCons (eVar 1) (aCons (opLk ixD (opLk ixD (eVar 2) (eVar 3)) (eVar 3)) aNil))))
      (sFor (srcA rangeW2 (aCons (opBin addD (eVar 3) (eC (.int 1))) (aCons (op1 lenD (eVar 2)) aNil))) (tName 5) lp__law_determinant_1)))))
def b__law_determinant : M SR := (seq (sPar [1, 2] (hCons (eTup (aCons (eC (.int 1)) (aCons (eC (.int 1)) aNil))) (hCons (eLc [7] (srcV (eVar 0)) (tName 7) cTrue el__law_determinant_1) aNil)))
      (seq (sFor (srcA rangeW (aCons (op1 lenD (eVar 0)) aNil)) (tName 3) lp__law_determinant_2)
      (sRet (eVar 1))))
def m__law_determinant : Fn := fnOf 10 b__law_determinant
def el__law_volume_1 : M W := (eCallS 2 m__law_less (aCons (eVar 6) (aCons (eVar 7) aNil)))
def el__law_volume_2 : M W := (eLc [6, 7] (srcA zipW (aCons (eVar 5) (aCons (opLk ixD (eVar 0) (eC (.int 0))) aNil))) (tTupG 2 (tConsG (tName 6) (tConsG (tName 7) tNilG))) cTrue el__law_volume_1)
def lp__law_volume_1 : M SR := (sAsg 3 (opBin mulD (eVar 3) (opBin addD (eVar 4) (eC (.int 1)))))
def b__law_volume : M SR := (seq (sAsg 1 (eLc [5] (srcV (eSl (eVar 0) (pSome (eC (.int 1))) pNone)) (tName 5) cTrue el__law_volume_2))
      (seq (sPar [2, 3] (hCons (eCallS 1 m__law_determinant (aCons (eVar 1) aNil)) (hCons (eC (.int 1)) aNil)))
      (seq (sFor (srcA rangeW (aCons (op1 lenD (eVar 1)) aNil)) (tName 4) lp__law_volume_1)
      (sRet (eCallS 2 m__law_by (aCons (eTup (aCons (op1 absD (opLk ixD (eVar 2) (eC (.int 0)))) (aCons (opLk ixD (eVar 2) (eC (.int 1))) aNil))) (aCons (eTup (aCons (eC (.int 1)) (aCons (eVar 3) aNil))) aNil)))))))
def m__law_volume : Fn := fnOf 8 b__law_volume
def el__law_right_1 : M W := (eCallS 1 m_volume (aCons (eVar 3) aNil))
def lp__law_right_1 : M SR := (seq (sAsg 10 (eIf (opCmp eqD (eCallS 2 m__law_take (aCons (eVar 0) (aCons (eC (.int 2)) aNil))) (eC (.int 0))) (eCallS 1 m_volume (aCons (eVar 9) aNil)) (eCallK 1 m_volume 0 1 [0] aNil (aCons (eVar 9) aNil))))
      (sIf (cOr (opCmp isNotD (eCallS 1 m_is_cell (aCons (eVar 9) aNil)) (eC (.bool true))) (cNot (opTruth (eCallS 2 (m__law_same 6) (aCons (eLst (aCons (eVar 10) (aCons (opLk ixD (eVar 9) (eC (.int 1))) aNil))) (aCons (opBin mulD (eLst (aCons (eCallS 1 m__law_volume (aCons (opLk ixD (eVar 9) (eC (.int 0))) aNil)) aNil)) (eC (.int 2))) aNil)))))) (sRet (eC (.bool false))) sNext))
def lp__law_right_2 : M SR := (seq (sAsg 5 (eCallS 2 m__law_take (aCons (eVar 0) (aCons (eVar 1) aNil))))
      (seq (sPar [6, 7] (hCons (opBin addD (opBin addD (eVar 5) (eC (.int 1))) (eCallS 2 m__law_take (aCons (eVar 0) (aCons (opBin subD (eVar 1) (eVar 5)) aNil)))) (hCons (eCallS 2 m__law_part (aCons (opBin addD (eC (.int 1)) (eCallS 2 m__law_take (aCons (eVar 0) (aCons (eC (.int 5)) aNil)))) (aCons (eC (.int 7)) aNil))) aNil)))
      (seq (sAsg 8 (eIf (opCmp eqD (eCallS 2 m__law_take (aCons (eVar 0) (aCons (eC (.int 2)) aNil))) (eC (.int 0))) (eCallS 4 m_cut (aCons (eVar 3) (aCons (eVar 5) (aCons (eVar 6) (aCons (eVar 7) aNil))))) (eCallK 4 m_cut 0 4 [3, 2, 1, 0] aNil (aCons (eVar 7) (aCons (eVar 6) (aCons (eVar 5) (aCons (eVar 3) aNil)))))))
      (seq (sIf (cNot (opTruth (eCallS 2 (m__law_same 6) (aCons (eVar 8) (aCons (eCallS 4 m__law_cut_cell (aCons (eVar 3) (aCons (eVar 5) (aCons (eVar 6) (aCons (eVar 7) aNil))))) aNil))))) (sRet (eC (.bool false))) sNext)
      (seq (sFor (srcV (eVar 8)) (tName 9) lp__law_right_1)
      (sAsg 3 (eCallS 2 m__law_of (aCons (eVar 0) (aCons (eVar 8) aNil)))))))))
def lp__law_right_3 : M SR := (seq (sAsg 2 (eIf (opCmp eqD (eCallS 2 m__law_take (aCons (eVar 0) (aCons (eC (.int 2)) aNil))) (eC (.int 0))) (eCallS 1 m_first_cells (aCons (eVar 1) aNil)) (eCallK 1 m_first_cells 0 1 [0] aNil (aCons (eVar 1) aNil))))
      (seq (sIf (cOr (cNot (opTruth (eCallS 2 (m__law_same 6) (aCons (eVar 2) (aCons (eCallS 1 m__law_firsts (aCons (eVar 1) aNil)) aNil))))) (opCmp neD (eCallS 1 m__law_total (aCons (eLc [3] (srcV (eVar 2)) (tName 3) cTrue el__law_right_1) aNil)) (eTup (aCons (eC (.int 1)) (aCons (eC (.int 1)) aNil))))) (sRet (eC (.bool false))) sNext)
      (seq (sAsg 3 (eCallS 2 m__law_of (aCons (eVar 0) (aCons (eVar 2) aNil))))
      (seq (sFor (srcA rangeW (aCons (eIf (opCmp gtD (eVar 1) (eC (.int 0))) (eC (.int 4)) (eC (.int 0))) aNil)) (tName 4) lp__law_right_2)
      (seq (sAsg 11 (eTup (aCons (opBin mulD (eSl (opLk ixD (eVar 3) (eC (.int 0))) pNone (pSome (eC (.int 1)))) (op1 lenD (opLk ixD (eVar 3) (eC (.int 0))))) (aCons (opLk ixD (eVar 3) (eC (.int 1))) aNil))))
      (sIf (cNot (opTruth (eCallS 2 (m__law_same 6) (aCons (eCallS 1 m_volume (aCons (eVar 11) aNil)) (aCons (eIf (opCmp gtD (eVar 1) (eC (.int 0))) (eTup (aCons (eC (.int 0)) (aCons (eC (.int 1)) aNil))) (eTup (aCons (eC (.int 1)) (aCons (eC (.int 1)) aNil)))) aNil))))) (sRet (eC (.bool false))) sNext))))))
def b__law_right : M SR := (seq (sFor (srcV (eTup (aCons (eC (.int 0)) (aCons (eC (.int 1)) (aCons (eC (.int 2)) (aCons (eC (.int 3)) (aCons (eC (.int 4)) aNil))))))) (tName 1) lp__law_right_3)
      (seq (sAsg 12 (eTup (aCons (eTup (aCons (eTup (aCons (eTup (aCons (eC (.int 0)) (aCons (eC (.int 1)) aNil))) aNil)) (aCons (eTup (aCons (eTup (aCons (eC (.int 1)) (aCons (eC (.int 1)) aNil))) aNil)) aNil))) (aCons (eTup (aCons (eC (.int 1)) (aCons (eC (.int 1)) aNil))) aNil))))
      (sRet (eCallS 2 (m__law_same 6) (aCons (eCallS 4 m_cut (aCons (eVar 12) (aCons (eC (.int 0)) (aCons (eC (.int 1)) (aCons (eTup (aCons (eC (.int 1)) (aCons (eC (.int 3)) aNil))) aNil))))) (aCons (eTup (aCons (eTup (aCons (eTup (aCons (eTup (aCons (eTup (aCons (eC (.int 0)) (aCons (eC (.int 1)) aNil))) aNil)) (aCons (eTup (aCons (eTup (aCons (eC (.int 1)) (aCons (eC (.int 3)) aNil))) aNil)) aNil))) (aCons (eTup (aCons (eC (.int 1)) (aCons (eC (.int 3)) aNil))) aNil))) (aCons (eTup (aCons (eTup (aCons (eTup (aCons (eTup (aCons (eC (.int 1)) (aCons (eC (.int 3)) aNil))) aNil)) (aCons (eTup (aCons (eTup (aCons (eC (.int 1)) (aCons (eC (.int 1)) aNil))) aNil)) aNil))) (aCons (eTup (aCons (eC (.int 2)) (aCons (eC (.int 3)) aNil))) aNil))) aNil))) aNil))))))
def m__law_right : Fn := fnOf 13 b__law_right
def lp__law_well_1 : M SR := (sAsg 3 (opBin modD (op1 intD (opBin addD (opBin addD (opBin mulD (eVar 3) (eC (.int 44497))) (opBin modD (op1 intD (eVar 4)) (eC (.int 2147483587)))) (eC (.int 29)))) (eC (.int 2147483563))))
def b__law_well : M SR := (seq (sAsg 2 (eIf (opCmp ltD (eVar 1) (op1 lenD (eVar 0))) (op1 intD (opLk ixD (eVar 0) (eVar 1))) (eC (.int 0))))
      (seq (sAsg 3 (opBin addD (eC (.int 52027)) (opBin mulD (eC (.int 6971)) (eVar 1))))
      (seq (sFor (srcV (opBin addD (eSl (eVar 0) pNone (pSome (eC (.int 8)))) (eNew (aCons (eVar 2) aNil)))) (tName 4) lp__law_well_1)
      (sRet (eNew (aCons (eIf (cOr (opCmp ltD (eVar 2) (eC (.int 0))) (opCmp geD (eVar 2) (opBin powD (eC (.int 10)) (eC (.int 18))))) (op1 absD (eVar 2)) (eC (.int 0))) (aCons (eVar 3) (aCons (eC (.int 0)) aNil))))))))
def m__law_well : Fn := fnOf 5 b__law_well
def el_law_1 : M W := (eCallS 1 m__law_right (aCons (eCallS 2 m__law_well (aCons (eVar 0) (aCons (eVar 1) aNil))) aNil))
def b_law : M SR := (sRet (op1 allD (eLc [1] (srcA rangeW (aCons (opLk max2D (eC (.int 2)) (opLk min2D (op1 lenD (eVar 0)) (eC (.int 3)))) aNil)) (tName 1) cTrue el_law_1)))
def m_law : Fn := fnOf 2 b_law
end K22
namespace K22
open PySem PySem.Spec PyProof.Rows L2 Z
@[simp] theorem s_is_whole {i : Int} {st : Store} : m_is_whole [.val (.int i)] st = .ok (.val (.bool true)) st := by
  simp [m_is_whole, b_is_whole, fnOf_app]
@[simp] theorem s_is_between {i a b : Int} {st : Store} : m_is_between [.val (.int i), .val (.int a), .val (.int b)] st = .ok (.val (.bool (decide (a ≤ i) && decide (i ≤ b)))) st := by
  by_cases h : a ≤ i <;> simp [m_is_between, b_is_between, fnOf_app, h]
@[simp] theorem s_is_tuple_of {ds : List D} {n : Int} {st : Store} : m_is_tuple_of [.val (.tuple ds), .val (.int n)] st = .ok (.val (.bool (decide ((ds.length : Int) = n)))) st := by
  simp [m_is_tuple_of, b_is_tuple_of, fnOf_app]
@[simp] theorem s_is_fraction {q : Rat} {st : Store} : m_is_fraction [.val (frac q)] st = .ok (.val (.bool true)) st := by
  have h1 : decide ((0 : Int) < q.den) = true := decide_eq_true den_pos'
  have h2 := gcd_red q
  show m_is_fraction [.val (.tuple [.int q.num, .int q.den])] st = _
  simp [m_is_fraction, b_is_fraction, fnOf_app, h2, q.den_pos]
theorem s_fraction {a : Int} {b : Nat} (hb : b ≠ 0) (hz : Sz (b : Int)) {st : Store} : m_fraction [.val (.int a), .val (.int b)] st = .ok (.val (frac (Rat.divInt a b))) st := by
  have hg : Nat.gcd a.natAbs b ≠ 0 := Nat.gcd_ne_zero_right hb
  have hg' : ((Nat.gcd a.natAbs b : Nat) : Int) ≠ 0 := by exact_mod_cast hg
  have sg : Sz (Nat.gcd a.natAbs b : Nat) := Nat.lt_of_le_of_lt (Nat.gcd_le_right _ (Nat.pos_of_ne_zero hb)) hz
  have e1 := fdivD_sz (i := a) hg' sg
  have e2 := fdivD_sz (i := b) hg' sg
  have hs := sizeLine_big
  have h2 : 2 ≤ sizeLine := by omega
  simp [m_fraction, b_fraction, fnOf_app, e1, e2, h2, frac_gcd hb]
theorem s_fraction_sum {L M : Nat} {p q : Rat} (h : Ht L p) (g : Ht M q) (l : L + M ≤ 8000 := by omega) {st : Store} : m_fraction_sum [.val (frac p), .val (frac q)] st = .ok (.val (frac (p + q))) st := by
  have e1 := mulD_sz (h.szn) (g.szd)
  have e2 := mulD_sz (g.szn) (h.szd)
  have e3 := mulD_sz (h.szd) (g.szd)
  have sz : Sz ((p.den * q.den : Nat) : Int) := sz_of (L := L + M) (pow_mul_lt h.den g.den) l
  have := s_fraction (a := p.num * q.den + q.num * p.den) (mul_nz p q) sz (st := st)
  rw [← add_eq, Int.natCast_mul] at this
  simp [m_fraction_sum, b_fraction_sum, fnOf_app, e1, e2, e3, this]
theorem s_fraction_less {L M : Nat} {p q : Rat} (h : Ht L p) (g : Ht M q) (l : L + M ≤ 8000 := by omega) {st : Store} : m_fraction_less [.val (frac p), .val (frac q)] st = .ok (.val (frac (p - q))) st := by
  have e1 := mulD_sz (h.szn) (g.szd)
  have e2 := mulD_sz (g.szn) (h.szd)
  have e3 := mulD_sz (h.szd) (g.szd)
  have sz : Sz ((p.den * q.den : Nat) : Int) := sz_of (L := L + M) (pow_mul_lt h.den g.den) l
  have := s_fraction (a := p.num * q.den - q.num * p.den) (mul_nz p q) sz (st := st)
  rw [← sub_eq, Int.natCast_mul] at this
  simp [m_fraction_less, b_fraction_less, fnOf_app, e1, e2, e3, this]
theorem s_fraction_times {L M : Nat} {p q : Rat} (h : Ht L p) (g : Ht M q) (l : L + M ≤ 8000 := by omega) {st : Store} : m_fraction_times [.val (frac p), .val (frac q)] st = .ok (.val (frac (p * q))) st := by
  have e1 := mulD_sz (h.szn) (g.szn)
  have e3 := mulD_sz (h.szd) (g.szd)
  have sz : Sz ((p.den * q.den : Nat) : Int) := sz_of (L := L + M) (pow_mul_lt h.den g.den) l
  have := s_fraction (a := p.num * q.num) (mul_nz p q) sz (st := st)
  rw [← mul_eq, Int.natCast_mul] at this
  simp [m_fraction_times, b_fraction_times, fnOf_app, e1, e3, this]
@[simp] theorem s_sign_of {i : Int} {st : Store} : m_sign_of [.val (.int i)] st = .ok (.val (.int i.sign)) st := by
  rcases Int.lt_trichotomy i 0 with h | h | h
  · have h2 : ¬ 0 < i := by omega
    simp [m_sign_of, b_sign_of, fnOf_app, h, h2, Int.sign_eq_neg_one_of_neg h]
  · subst h
    simp [m_sign_of, b_sign_of, fnOf_app]
  · have h2 : ¬ i < 0 := by omega
    simp [m_sign_of, b_sign_of, fnOf_app, h, h2, Int.sign_eq_one_of_pos h]
theorem s_is_above {L M : Nat} {p q : Rat} (h : Ht L p) (g : Ht M q) (l : L + M ≤ 8000 := by omega) {st : Store} : m_is_above [.val (frac p), .val (frac q)] st = .ok (.val (.bool (decide (q < p)))) st := by
  have e1 := mulD_sz (h.szn) (g.szd)
  have e2 := mulD_sz (g.szn) (h.szd)
  simp [m_is_above, b_is_above, fnOf_app, e1, e2, Rat.lt_iff]
theorem s_fraction_over {L M : Nat} {p q : Rat} (h : Ht L p) (g : Ht M q) (nz : q ≠ 0) (l : L + M ≤ 8000 := by omega) {st : Store} : m_fraction_over [.val (frac p), .val (frac q)] st = .ok (.val (frac (p / q))) st := by
  have s1 : Sz q.num.sign := sz_of (L := 1) (by rw [Int.natAbs_sign_of_ne_zero (num_nz nz)]; decide) (by decide)
  have e1 := mulD_sz s1 h.szn
  have e2 := mulD_sz s1 h.szd
  have z1 : Sz (q.num.sign * p.num) := sz_of (L := L) (by rw [Int.natAbs_mul, Int.natAbs_sign_of_ne_zero (num_nz nz), Nat.one_mul]; exact h.num) (by omega)
  have z2 : Sz (q.num.sign * p.den) := sz_of (L := L) (by rw [Int.natAbs_mul, Int.natAbs_sign_of_ne_zero (num_nz nz), Nat.one_mul, Int.natAbs_natCast]; exact h.den) (by omega)
  have e3 := mulD_sz z1 g.szd
  have e4 := mulD_sz z2 g.szn
  have nn : p.den * q.num.natAbs ≠ 0 := Nat.mul_ne_zero p.den_nz (Int.natAbs_ne_zero.mpr (num_nz nz))
  have sz : Sz ((p.den * q.num.natAbs : Nat) : Int) := sz_of (L := L + M) (by rw [Int.natAbs_natCast]; exact pow_mul_lt h.den g.num) l
  have := s_fraction (a := q.num.sign * p.num * q.den) nn sz (st := st)
  have r1 : Rat.divInt (q.num.sign * p.num * q.den) ((p.den * q.num.natAbs : Nat) : Int) = p / q := by
    rw [div_eq, divInt_sign (Int.mul_ne_zero (by exact_mod_cast p.den_nz) (num_nz nz)), Int.natAbs_mul, Int.natAbs_natCast, Int.sign_mul, Int.sign_eq_one_of_pos den_pos', Int.one_mul]
    congr 1
    grind
  have r2 : ((p.den * q.num.natAbs : Nat) : Int) = q.num.sign * p.den * q.num := by
    have : (q.num.natAbs : Int) = q.num.sign * q.num := by
      rcases Int.lt_or_lt_of_ne (num_nz nz) with h | h
      · rw [Int.sign_eq_neg_one_of_neg h]; omega
      · rw [Int.sign_eq_one_of_pos h]; omega
    rw [Int.natCast_mul, this]
    grind
  rw [r1, r2] at this
  simp [m_fraction_over, b_fraction_over, fnOf_app, e1, e2, e3, e4, this]
theorem whileF_succ {c : M Bool} {b : M SR} {n : Nat} {s : S} : whileF c b (n + 1) s = runK (c s) (k := ⟨fun t => if t = true then b >>= fun r => (match r with
    | .next => whileF c b n
    | .cont => whileF c b n
    | .brk => Pure.pure .next
    | .ret w => Pure.pure (.ret w)) else Pure.pure .next⟩) := rfl
def eucB : M SR := sPar [2, 3] (hCons (eVar 3) (hCons (opBin modD (op1 intD (eVar 2)) (eVar 3)) aNil))
def eucC : M Bool := opCmp gtD (eVar 3) (eC (.int 0))
def eucS (x y : W) (a b : Nat) (st : Store) : S := ⟨[some x, some y, some (.val (.int a)), some (.val (.int b))], st⟩
theorem euc_zero {x y : W} {a n : Nat} {st : Store} (hn : 0 < n) : whileF eucC eucB n (eucS x y a 0 st) = .ok .next (eucS x y a 0 st) := by
  obtain ⟨m, rfl⟩ : ∃ m, n = m + 1 := ⟨n - 1, by omega⟩
  rw [whileF_succ]
  simp [eucC, eucS]
theorem euc_step {x y : W} {a b n : Nat} {st : Store} (hb : b ≠ 0) : whileF eucC eucB (n + 1) (eucS x y a b st) = whileF eucC eucB n (eucS x y b (a % b) st) := by
  rw [whileF_succ]
  have h1 : (0 : Int) < b := by omega
  have h2 : ((a : Int).fmod b) = ((a % b : Nat) : Int) := by
    rw [Int.fmod_eq_emod_of_nonneg _ (by omega)]
    rfl
  simp [eucC, eucB, eucS, h1, h2, hb, Nat.pos_of_ne_zero hb]
theorem euc {x y : W} {st : Store} : ∀ (k a b n : Nat), b < 2 ^ k → 2 * k < n → whileF eucC eucB n (eucS x y a b st) = .ok .next (eucS x y (Nat.gcd a b) 0 st)
  | 0, a, b, n, hb, hn => by
    have : b = 0 := by simpa using hb
    subst this
    rw [Nat.gcd_zero_right]
    exact euc_zero (by omega)
  | k + 1, a, b, n, hb, hn => by
    by_cases h0 : b = 0
    · subst h0
      rw [Nat.gcd_zero_right]
      exact euc_zero (by omega)
    · obtain ⟨m, rfl⟩ : ∃ m, n = m + 1 + 1 := ⟨n - 2, by omega⟩
      rw [euc_step h0]
      by_cases h1 : a % b = 0
      · rw [h1, euc_zero (by omega)]
        rw [Nat.gcd_eq_right (Nat.dvd_of_mod_eq_zero h1)]
      · rw [euc_step h1, euc k (a % b) (b % (a % b)) m ?_ (by omega)]
        · have e1 : Nat.gcd a b = Nat.gcd (a % b) b := by rw [Nat.gcd_comm a b, Nat.gcd_rec b a]
          have e2 : Nat.gcd (a % b) b = Nat.gcd (b % (a % b)) (a % b) := Nat.gcd_rec _ _
          rw [e1, e2, Nat.gcd_comm]
        · have hr : a % b < b := Nat.mod_lt _ (Nat.pos_of_ne_zero h0)
          have h3 : b % (a % b) < a % b := Nat.mod_lt _ (Nat.pos_of_ne_zero h1)
          have h4 : b % (a % b) + (a % b) ≤ b := by
            have := Nat.div_add_mod b (a % b)
            have h5 : 1 ≤ b / (a % b) := (Nat.le_div_iff_mul_le (Nat.pos_of_ne_zero h1)).mpr (by omega)
            have h6 : a % b ≤ (a % b) * (b / (a % b)) := Nat.le_mul_of_pos_right _ h5
            omega
          rw [Nat.pow_succ] at hb
          omega
theorem s__law_part {L : Nat} {a b : Int} (hb : b ≠ 0) (h1 : b.natAbs < 2 ^ L) (l : L ≤ 8000 := by omega) {st : Store} : m__law_part [.val (.int a), .val (.int b)] st = .ok (.val (frac (Rat.divInt a b))) st := by
  have key : ∀ (a : Int) (b : Nat), b ≠ 0 → b < 2 ^ L → ∀ rest, runK (whileF eucC eucB 100000 (eucS (.val (.int a)) (.val (.int b)) a.natAbs b st)) (k := ⟨(fun r => match r with | .next => sRet (eTup (aCons (opBin fdivD (eVar 0) (eVar 2)) (aCons (opBin fdivD (eVar 1) (eVar 2)) aNil))) | r => Pure.pure r)⟩) = rest → outR rest = .ok (.val (frac (Rat.divInt a b))) st := by
    intro a b hb hl rest e
    rw [euc L a.natAbs b 100000 hl (by omega)] at e
    have hg : Nat.gcd a.natAbs b ≠ 0 := Nat.gcd_ne_zero_right hb
    have hg' : ((Nat.gcd a.natAbs b : Nat) : Int) ≠ 0 := by exact_mod_cast hg
    have hz : Sz (b : Int) := sz_of (L := L) (by rw [Int.natAbs_natCast]; exact hl) l
    have sg : Sz (Nat.gcd a.natAbs b : Nat) := Nat.lt_of_le_of_lt (Nat.gcd_le_right _ (Nat.pos_of_ne_zero hb)) hz
    have e1 := fdivD_sz (i := a) hg' sg
    have e2 := fdivD_sz (i := b) hg' sg
    have hs := sizeLine_big
    have h2 : 2 ≤ sizeLine := by omega
    rw [← e]
    simp [eucS, e1, e2, h2, frac_gcd hb]
  have habs : ∀ i : Int, (if i < 0 then -i else i) = (i.natAbs : Int) := fun i => by split <;> omega
  rcases Int.lt_or_lt_of_ne hb with h | h
  · have k := key (0 - a) b.natAbs (by omega) h1 _ rfl
    have e0 : ((b.natAbs : Nat) : Int) = 0 - b := by omega
    have e1 : Rat.divInt (0 - a) ((b.natAbs : Nat) : Int) = Rat.divInt a b := by
      rw [e0, Int.zero_sub, Int.zero_sub, Rat.neg_divInt_neg]
    rw [e1] at k
    rw [← k]
    have h4 : (if 0 < a then a else -a) = (a.natAbs : Int) := by split <;> omega
    have e5 : ((b.natAbs : Nat) : Int) = -b := by omega
    simp [m__law_part, b__law_part, fnOf_app, h, h4]
    simp only [eucC, eucB, eucS, e5]
  · have k := key a b.natAbs (by omega) h1 _ rfl
    have e0 : ((b.natAbs : Nat) : Int) = b := by omega
    rw [e0] at k
    rw [← k]
    have hn : ¬ b < 0 := by omega
    simp [m__law_part, b__law_part, fnOf_app, hn, habs]
    simp only [eucC, eucB, eucS, e0]
theorem s__law_plus {L M : Nat} {p q : Rat} (h : Ht L p) (g : Ht M q) (l : L + M ≤ 8000 := by omega) {st : Store} : m__law_plus [.val (frac p), .val (frac q)] st = .ok (.val (frac (p + q))) st := by
  have e1 := mulD_sz (h.szn) (g.szd)
  have e2 := mulD_sz (g.szn) (h.szd)
  have e3 := mulD_sz (h.szd) (g.szd)
  have := s__law_part (a := p.num * q.den + q.num * p.den) (b := ((p.den * q.den : Nat) : Int)) (by exact_mod_cast mul_nz p q) (by rw [Int.natAbs_natCast]; exact pow_mul_lt h.den g.den) l (st := st)
  rw [← add_eq, Int.natCast_mul] at this
  simp [m__law_plus, b__law_plus, fnOf_app, e1, e2, e3, this]
theorem s__law_less {L M : Nat} {p q : Rat} (h : Ht L p) (g : Ht M q) (l : L + M ≤ 8000 := by omega) {st : Store} : m__law_less [.val (frac p), .val (frac q)] st = .ok (.val (frac (p - q))) st := by
  have e1 := mulD_sz (h.szn) (g.szd)
  have e2 := mulD_sz (g.szn) (h.szd)
  have e3 := mulD_sz (h.szd) (g.szd)
  have := s__law_part (a := p.num * q.den - q.num * p.den) (b := ((p.den * q.den : Nat) : Int)) (by exact_mod_cast mul_nz p q) (by rw [Int.natAbs_natCast]; exact pow_mul_lt h.den g.den) l (st := st)
  rw [← sub_eq, Int.natCast_mul] at this
  simp [m__law_less, b__law_less, fnOf_app, e1, e2, e3, this]
theorem s__law_by {L M : Nat} {p q : Rat} (h : Ht L p) (g : Ht M q) (l : L + M ≤ 8000 := by omega) {st : Store} : m__law_by [.val (frac p), .val (frac q)] st = .ok (.val (frac (p * q))) st := by
  have e1 := mulD_sz (h.szn) (g.szn)
  have e3 := mulD_sz (h.szd) (g.szd)
  have := s__law_part (a := p.num * q.num) (b := ((p.den * q.den : Nat) : Int)) (by exact_mod_cast mul_nz p q) (by rw [Int.natAbs_natCast]; exact pow_mul_lt h.den g.den) l (st := st)
  rw [← mul_eq, Int.natCast_mul] at this
  simp [m__law_by, b__law_by, fnOf_app, e1, e3, this]
def HtA (H : Nat) (rs : List Rat) : Prop := ∀ r ∈ rs, Ht H r
def tot (rs : List Rat) : Rat := rs.foldl (· + ·) 0
theorem foldl_add (rs : List Rat) (z : Rat) : rs.foldl (· + ·) z = z + tot rs := by
  induction rs generalizing z with
  | nil => simp [tot, Rat.add_zero]
  | cons r rs ih =>
    have e1 : (r :: rs).foldl (· + ·) z = rs.foldl (· + ·) (z + r) := rfl
    have e2 : tot (r :: rs) = rs.foldl (· + ·) (0 + r) := rfl
    rw [e1, e2, ih, ih]
    grind
@[simp] theorem tot_nil : tot [] = 0 := rfl
@[simp] theorem tot_cons {r : Rat} {rs : List Rat} : tot (r :: rs) = r + tot rs := by
  show rs.foldl (· + ·) (0 + r) = _
  rw [foldl_add]
  grind
theorem ht_zero : Ht 1 0 := ⟨by decide, by decide⟩
theorem ht_one : Ht 1 1 := ⟨by decide, by decide⟩
theorem con0 : con_ZERO = frac 0 := rfl
theorem con1 : con_ONE = frac 1 := rfl
theorem s_is_part {L : Nat} {q : Rat} (h : Ht L q) (l : L + 1 ≤ 8000 := by omega) {st : Store} : m_is_part [.val (frac q)] st = .ok (.val (.bool (decide (0 ≤ q) && !decide (1 < q)))) st := by
  have e1 := s_is_above h ht_one l (st := st)
  have e2 : (0 ≤ q.num) = (0 ≤ q) := propext Rat.num_nonneg
  by_cases h0 : 0 ≤ q <;> simp [m_is_part, b_is_part, fnOf_app, con1, e1, e2, h0]
/-- a number from 0 to 1 of few bits -/
structure Pt (L : Nat) (q : Rat) : Prop where
  ht : Ht L q
  lo : 0 ≤ q
  hi : ¬ 1 < q
theorem s_is_part' {L : Nat} {q : Rat} (h : Pt L q) (l : L + 1 ≤ 8000 := by omega) {st : Store} : m_is_part [.val (frac q)] st = .ok (.val (.bool true)) st := by
  rw [s_is_part h.ht l]
  simp [h.lo, h.hi]
def ptD (p : List Rat) : D := .tuple (p.map frac)
def corD (cs : List (List Rat)) : D := .tuple (cs.map ptD)
def cellD (cs : List (List Rat)) (s : Rat) : D := .tuple [corD cs, frac s]
structure Cell (L : Nat) (n : Nat) (cs : List (List Rat)) (s : Rat) : Prop where
  len : cs.length = n + 1
  n4 : n ≤ 4
  row : ∀ c ∈ cs, c.length = n ∧ ∀ q ∈ c, Pt L q
  size : Pt L s
theorem bools_true {α : Type} (xs : List α) : boolsOf (xs.map fun _ => PyData.bool true) = some (xs.map fun _ => true) := by
  induction xs with
  | nil => rfl
  | cons x xs ih =>
    show (boolsOf (xs.map fun _ => PyData.bool true)).map (true :: ·) = _
    rw [ih]
    rfl
theorem all_true {α : Type} (xs : List α) : allD (.list (xs.map fun _ => PyData.bool true)) = some (.val (.bool true)) := by
  show (boolsOf (xs.map fun _ => PyData.bool true)).map _ = _
  rw [bools_true]
  simp
theorem s_is_point {L n : Nat} {p : List Rat} (hn : p.length = n) (hn4 : n ≤ 1000) (h : ∀ q ∈ p, Pt L q) (l : L + 1 ≤ 8000 := by omega) {st : Store} : m_is_point [.val (.int n), .val (ptD p)] st = .ok (.val (.bool true)) st := by
  have hs := sizeLine_big
  have hc : compLoop [2] (tName 2) cTrue el_is_point_1 (p.map frac) [] ⟨[some (.val (.int n)), some (.val (.tuple (p.map frac))), none], st⟩ = .ok ([] ++ (p.map frac).map fun _ => .bool true) ⟨[some (.val (.int n)), some (.val (.tuple (p.map frac))), none], st⟩ := by
    refine compLoop_map (fun _ => .bool true) _ _ (by simp; omega) fun d hd => ?_
    obtain ⟨q, hq, rfl⟩ := List.mem_map.mp hd
    have := s_is_part' (h q hq) l (st := st)
    simp [el_is_point_1, this]
  show m_is_point [.val (.int n), .val (.tuple (p.map frac))] st = _
  have ha := all_true (p.map frac)
  simp [m_is_point, b_is_point, fnOf_app, hn]
  rw [hc]
  simp [-List.map_map, ha]
theorem Cell.cl {L n : Nat} {cs : List (List Rat)} {s : Rat} (h : Cell L n cs s) : (cs.length : Int) - 1 = n := by have := h.len; omega
theorem s_are_corners {L n : Nat} {cs : List (List Rat)} {s : Rat} (h : Cell L n cs s) (l : L + 1 ≤ 8000 := by omega) {st : Store} : m_are_corners [.val (corD cs)] st = .ok (.val (.bool true)) st := by
  have hs := sizeLine_big
  have h1 := h.len
  have h4 := h.n4
  have hc : compLoop [1] (tName 1) cTrue el_are_corners_1 (cs.map ptD) [] ⟨[some (.val (.tuple (cs.map ptD))), none], st⟩ = .ok ([] ++ (cs.map ptD).map fun _ => .bool true) ⟨[some (.val (.tuple (cs.map ptD))), none], st⟩ := by
    refine compLoop_map (fun _ => .bool true) _ _ (by simp; omega) fun d hd => ?_
    obtain ⟨q, hq, rfl⟩ := List.mem_map.mp hd
    obtain ⟨r1, r2⟩ := h.row q hq
    have := s_is_point r1 (by omega) r2 l (st := st)
    simp [el_are_corners_1, h.cl, this]
  show m_are_corners [.val (.tuple (cs.map ptD))] st = _
  have ha := all_true (cs.map ptD)
  have c1 : (1 : Int) ≤ cs.length := by omega
  have c2 : (cs.length : Int) ≤ 5 := by omega
  have c3 : 1 ≤ cs.length := by omega
  have c4 : cs.length ≤ 5 := by omega
  simp [m_are_corners, b_are_corners, fnOf_app, con_MOST_DRAWS, c1, c2, c3, c4]
  rw [hc]
  simp [-List.map_map, ha]
@[simp] theorem s_is_cell_by {L n : Nat} {cs : List (List Rat)} {s : Rat} (h : Cell L n cs s) (l : L + 1 ≤ 8000) {st : Store} : m_is_cell_by [.val (cellD cs s)] st = .ok (.val (.bool true)) st := by
  have e1 := s_are_corners h l (st := st)
  have e2 := s_is_part' h.size l (st := st)
  show m_is_cell_by [.val (.tuple [corD cs, frac s])] st = _
  simp [m_is_cell_by, b_is_cell_by, fnOf_app, e1, e2]
theorem s_check_cell {L n : Nat} {cs : List (List Rat)} {s : Rat} (h : Cell L n cs s) (l : L + 1 ≤ 8000) {st : Store} : m_check_cell [.val (cellD cs s)] st = .ok (.val .none) st := by
  have e := s_is_cell_by h l (st := st)
  simp [m_check_cell, b_check_cell, fnOf_app, e]
theorem s_check_number {i a b : Int} (h1 : a ≤ i) (h2 : i ≤ b) {st : Store} : m_check_number [.val (.int i), .val (.int a), .val (.int b)] st = .ok (.val .none) st := by
  simp [m_check_number, b_check_number, fnOf_app, h1, h2]
theorem s_draws_of {L n : Nat} {cs : List (List Rat)} {s : Rat} (h : Cell L n cs s) {st : Store} : m_draws_of [.val (cellD cs s)] st = .ok (.val (.int n)) st := by
  show m_draws_of [.val (.tuple [.tuple (cs.map ptD), frac s])] st = _
  simp [m_draws_of, b_draws_of, fnOf_app, h.cl]
theorem s_check_share {L : Nat} {q : Rat} (h : Pt L q) (h0 : q ≠ 0) (h1 : q ≠ 1) (l : L + 1 ≤ 8000 := by omega) {st : Store} : m_check_share [.val (frac q)] st = .ok (.val .none) st := by
  have hs := sizeLine_big
  have h2 : 2 ≤ sizeLine := by omega
  have e := s_is_part' h l (st := st)
  have e2 : inD (frac q) (.tuple [frac 0, frac 1]) = some false := by
    have k : SeqAt.shaped (.list [frac 0, frac 1]) = true := by decide
    show (if SeqAt.shaped (frac q) && SeqAt.shaped (.list [frac 0, frac 1]) then some ([frac 0, frac 1].any fun z => PyData.eqv z (frac q)) else none) = _
    simp [k, Ne.symm h0, Ne.symm h1]
  simp [m_check_share, b_check_share, fnOf_app, e, con0, con1, h2, e2]
theorem frac_nat (n : Nat) : frac (n : Rat) = .tuple [.int n, .int 1] := rfl
theorem ht_nat {L n : Nat} (h : n < 2 ^ L) (hL : 1 ≤ L) : Ht L (n : Rat) := ⟨h, by
  have : (2 : Nat) ^ 1 ≤ 2 ^ L := Nat.pow_le_pow_right (by decide) hL
  show 1 < 2 ^ L
  omega⟩
theorem nat_nz {n : Nat} (h : n ≠ 0) : (n : Rat) ≠ 0 := fun z => h (by exact_mod_cast z)
/-! ### slices -/
theorem cut_to {α : Type} (xs : List α) {k : Nat} (h : k ≤ xs.length) : cutL xs none (some (k : Int)) = xs.take k := by
  unfold cutL
  rw [HT.sIx_none, HT.sIx_nat]
  simp [Nat.min_eq_left h]
theorem cut_from {α : Type} (xs : List α) {k : Nat} (h : k ≤ xs.length) : cutL xs (some (k : Int)) none = xs.drop k := by
  unfold cutL
  rw [HT.sIx_none, HT.sIx_nat, Nat.min_eq_left h]
  exact List.take_of_length_le (by simp)
@[simp] theorem slD_tup {ds : List D} {lo hi : Option Int} : slD (.tuple ds) lo hi = some (.val (.tuple (cutL ds lo hi))) := rfl
@[simp] theorem slD_list {ds : List D} {lo hi : Option Int} : slD (.list ds) lo hi = some (.own (cutL ds lo hi)) := rfl
theorem set_eq {α : Type} {xs : List α} {i : Nat} {p : α} (h : i < xs.length) : xs.take i ++ p :: xs.drop (i + 1) = xs.set i p := by
  rw [List.set_eq_take_append_cons_drop, if_pos h]
theorem s_with_corner {ds : List D} {i : Nat} {p : D} (h : i < ds.length) (hl : ds.length ≤ 1000) {st : Store} : m_with_corner [.val (.tuple ds), .val (.int i), .val p] st = .ok (.val (.tuple (ds.set i p))) st := by
  have hs := sizeLine_big
  have h1 : 1 ≤ sizeLine := by omega
  have c1 := cut_to ds (k := i) (by omega)
  have c2 := cut_from ds (k := i + 1) (by omega)
  push_cast at c2
  have l1 : min i ds.length + 1 ≤ sizeLine := by omega
  have l2 : min i ds.length + 1 + (ds.length - (i + 1)) ≤ sizeLine := by omega
  have l2 : min i ds.length + (ds.length - (i + 1) + 1) ≤ sizeLine := by omega
  have l3 : i + 1 ≤ sizeLine := by omega
  have hm : min i ds.length = i := by omega
  simp [m_with_corner, b_with_corner, fnOf_app, c1, c2, h1, hm, l3]
  rw [if_pos (by omega)]
  simp [set_eq h]
def mid (p q : List Rat) (s : Rat) : List Rat := (p.zip q).map fun x => x.1 + s * (x.2 - x.1)
theorem pt_mid {L K : Nat} {a b s : Rat} (ha : Pt L a) (hb : Pt L b) (hs : Pt K s) : Pt (3 * L + K + 3) (a + s * (b - a)) := by
  have h1 : 0 ≤ 1 - s := by have := hs.hi; grind
  have h2 : 0 ≤ 1 - a := by have := ha.hi; grind
  have h3 : 0 ≤ 1 - b := by have := hb.hi; grind
  refine ⟨(ht_add ha.ht (ht_mul hs.ht (ht_sub hb.ht ha.ht))).mono (by omega), ?_, ?_⟩
  · have g1 := Rat.mul_nonneg h1 ha.lo
    have g2 := Rat.mul_nonneg hs.lo hb.lo
    grind
  · have g1 := Rat.mul_nonneg h1 h2
    have g2 := Rat.mul_nonneg hs.lo h3
    grind
theorem mid_length {p q : List Rat} {s : Rat} (h : p.length = q.length) : (mid p q s).length = p.length := by simp [mid, h]
theorem s_between {L K : Nat} {p q : List Rat} {s : Rat} (hp : HtA L p) (hq : HtA L q) (hs : Ht K s) (hl : p.length = q.length) (hl5 : p.length ≤ 5) (hb : 3 * L + K ≤ 7000) {st : Store} : m_between [.val (ptD p), .val (ptD q), .val (frac s)] st = .ok (.val (ptD (mid p q s))) st := by
  have hz := sizeLine_big
  let W1 : List D := (p.zip q).map fun x => frac (s * (x.2 - x.1))
  have hc1 : compLoop [4, 5] (tTupG 2 (tConsG (tName 4) (tConsG (tName 5) tNilG))) cTrue el_between_1 ((p.zip q).map fun x => .tuple [frac x.1, frac x.2]) [] ⟨[some (.val (.tuple (p.map frac))), some (.val (.tuple (q.map frac))), some (.val (frac s)), none, none, none, none], st⟩ = .ok ([] ++ W1) ⟨[some (.val (.tuple (p.map frac))), some (.val (.tuple (q.map frac))), some (.val (frac s)), none, none, none, none], st⟩ := by
    refine compLoop_via _ _ _ _ (by simp; omega) fun x hx => ?_
    have hx' := List.of_mem_zip (a := x.1) (b := x.2) hx
    have e1 := s_fraction_less (hq _ hx'.2) (hp _ hx'.1) (by omega) (st := st)
    have e2 := s_fraction_times hs (ht_sub (hq _ hx'.2) (hp _ hx'.1)) (by omega) (st := st)
    simp [el_between_1, e1, e2]
  have hpf : p.map frac = (p.zip q).map fun x => frac x.1 := by
    have : p = (p.zip q).map Prod.fst := (List.map_fst_zip (by omega)).symm
    conv => lhs; rw [this]
    simp
  have hz2 : pairs (p.map frac) W1 = ((p.zip q).map fun x => .tuple [frac x.1, frac (s * (x.2 - x.1))]) := by
    rw [hpf]
    exact pairs_same _ _ _
  have hc2 : compLoop [4, 6] (tTupG 2 (tConsG (tName 4) (tConsG (tName 6) tNilG))) cTrue el_between_2 ((p.zip q).map fun x => .tuple [frac x.1, frac (s * (x.2 - x.1))]) [] ⟨[some (.val (.tuple (p.map frac))), some (.val (.tuple (q.map frac))), some (.val (frac s)), some (.val (.list W1)), none, none, none], st⟩ = .ok ([] ++ (p.zip q).map fun x => frac (x.1 + s * (x.2 - x.1))) ⟨[some (.val (.tuple (p.map frac))), some (.val (.tuple (q.map frac))), some (.val (frac s)), some (.val (.list W1)), none, none, none], st⟩ := by
    refine compLoop_via _ _ _ _ (by simp; omega) fun x hx => ?_
    have hx' := List.of_mem_zip (a := x.1) (b := x.2) hx
    have e1 := s_fraction_sum (hp _ hx'.1) (ht_mul hs (ht_sub (hq _ hx'.2) (hp _ hx'.1))) (by omega) (st := st)
    simp [el_between_2, e1]
  have hm : ((p.zip q).map fun x => frac (x.1 + s * (x.2 - x.1))) = (mid p q s).map frac := by simp [mid]
  rw [hm] at hc2
  show m_between [.val (.tuple (p.map frac)), .val (.tuple (q.map frac)), .val (frac s)] st = _
  simp [m_between, b_between, fnOf_app, zipW, pairs_map]
  rw [hc1]
  simp [zipW]
  rw [hz2, hc2]
  simp [ptD]
theorem Pt.mono {L M : Nat} {q : Rat} (h : Pt L q) (l : L ≤ M) : Pt M q := ⟨h.ht.mono l, h.lo, h.hi⟩
theorem pt_mul {L M : Nat} {p q : Rat} (h : Pt L p) (g : Pt M q) : Pt (L + M) (p * q) := by
  refine ⟨ht_mul h.ht g.ht, Rat.mul_nonneg h.lo g.lo, ?_⟩
  have h1 : 0 ≤ 1 - p := by have := h.hi; grind
  have h2 : 0 ≤ 1 - q := by have := g.hi; grind
  have g1 := Rat.mul_nonneg h1 g.lo
  grind
theorem pt_rest {L : Nat} {p : Rat} (h : Pt L p) : Pt (L + 2) (1 - p) := by
  refine ⟨(ht_sub ht_one h.ht).mono (by omega), ?_, ?_⟩
  · have := h.hi; grind
  · have := h.lo; grind
theorem Cell.pts {L n : Nat} {cs : List (List Rat)} {s : Rat} (c : Cell L n cs s) {i : Nat} {p : List Rat} (h : cs[i]? = some p) : p.length = n ∧ ∀ q ∈ p, Pt L q := c.row p (List.mem_of_getElem? h)
theorem Cell.set {L n K : Nat} {cs : List (List Rat)} {s z : Rat} (c : Cell L n cs s) {i j k : Nat} {p q : List Rat} (hi : cs[i]? = some p) (hj : cs[j]? = some q) (hz : Pt K z) {z2 : Rat} (hz2 : Pt (3 * L + K + 5) z2) : Cell (3 * L + K + 5) n (cs.set k (mid p q z)) z2 := by
  obtain ⟨p1, p2⟩ := c.pts hi
  obtain ⟨q1, q2⟩ := c.pts hj
  refine ⟨by rw [List.length_set]; exact c.len, c.n4, fun r hr => ?_, hz2⟩
  rcases List.mem_or_eq_of_mem_set hr with h | rfl
  · obtain ⟨r1, r2⟩ := c.row r h
    exact ⟨r1, fun x hx => (r2 x hx).mono (by omega)⟩
  · refine ⟨by rw [mid_length (by omega)]; exact p1, fun x hx => ?_⟩
    obtain ⟨y, hy, rfl⟩ := List.mem_map.mp hx
    have hy' := List.of_mem_zip (a := y.1) (b := y.2) hy
    exact (pt_mid (p2 _ hy'.1) (q2 _ hy'.2) hz).mono (by omega)
theorem ix_map {α : Type} (f : α → D) {xs : List α} {i : Nat} {x : α} (h : xs[i]? = some x) : ixD (.tuple (xs.map f)) (.int (i : Int)) = some (.val (f x)) := ixD_tup (atI_nat (by rw [List.getElem?_map, h]; rfl))
theorem ixl_map {α : Type} (f : α → D) {xs : List α} {i : Nat} {x : α} (h : xs[i]? = some x) : ixD (.list (xs.map f)) (.int (i : Int)) = some (.val (f x)) := ixD_list (atI_nat (by rw [List.getElem?_map, h]; rfl))
theorem s_cut_by {L n K : Nat} {cs : List (List Rat)} {s z : Rat} (c : Cell L n cs s) {i j : Nat} {p q : List Rat} (hi : cs[i]? = some p) (hj : cs[j]? = some q) (hz : Pt K z) (hb : 3 * L + K ≤ 7000) {st : Store} :
    m_cut_by [.val (cellD cs s), .val (.int i), .val (.int j), .val (frac z)] st = .ok (.val (.tuple [cellD (cs.set j (mid p q z)) (z * s), cellD (cs.set i (mid p q z)) ((1 - z) * s)])) st := by
  have hsz := sizeLine_big
  have h2 : 2 ≤ sizeLine := by omega
  obtain ⟨p1, p2⟩ := c.pts hi
  obtain ⟨q1, q2⟩ := c.pts hj
  have h4 := c.n4
  have hlen := c.len
  have hi' := (List.getElem?_eq_some_iff.mp hi).1
  have hj' := (List.getElem?_eq_some_iff.mp hj).1
  have e1 := s_between (fun x hx => (p2 x hx).ht) (fun x hx => (q2 x hx).ht) hz.ht (by omega) (by omega) hb (st := st)
  have e2 := s_with_corner (ds := cs.map ptD) (i := j) (p := ptD (mid p q z)) (by simpa using hj') (by simp; omega) (st := st)
  have e3 := s_with_corner (ds := cs.map ptD) (i := i) (p := ptD (mid p q z)) (by simpa using hi') (by simp; omega) (st := st)
  have e4 := s_fraction_times hz.ht c.size.ht (by omega) (st := st)
  have e5 := s_fraction_less ht_one hz.ht (by omega) (st := st)
  have e6 := s_fraction_times (pt_rest hz).ht c.size.ht (by omega) (st := st)
  have x1 := ix_map ptD hi
  have x2 := ix_map ptD hj
  show m_cut_by [.val (.tuple [.tuple (cs.map ptD), frac s]), .val (.int i), .val (.int j), .val (frac z)] st = _
  simp [m_cut_by, b_cut_by, fnOf_app, x1, x2, e1, e2, e3, e4, con1, e5, e6, h2, cellD, corD]
theorem s_cut {L n K : Nat} {cs : List (List Rat)} {s z : Rat} (c : Cell L n cs s) {i j : Nat} {p q : List Rat} (hi : cs[i]? = some p) (hj : cs[j]? = some q) (hij : i < j) (hz : Pt K z) (z0 : z ≠ 0) (z1 : z ≠ 1) (hb : 3 * L + K ≤ 7000) {st : Store} :
    m_cut [.val (cellD cs s), .val (.int i), .val (.int j), .val (frac z)] st = .ok (.val (.tuple [cellD (cs.set j (mid p q z)) (z * s), cellD (cs.set i (mid p q z)) ((1 - z) * s)])) st := by
  have hi' := (List.getElem?_eq_some_iff.mp hi).1
  have hj' := (List.getElem?_eq_some_iff.mp hj).1
  have hlen := c.len
  have e1 := s_check_cell c (by omega) (st := st)
  have e2 := s_draws_of c (st := st)
  have e3 := s_check_number (i := i) (a := 0) (b := n) (by omega) (by omega) (st := st)
  have e4 := s_check_number (i := j) (a := i + 1) (b := n) (by omega) (by omega) (st := st)
  have e5 := s_check_share hz z0 z1 (by omega) (st := st)
  have e6 := s_cut_by c hi hj hz hb (st := st)
  simp [m_cut, b_cut, fnOf_app, e1, e2, e3, e4, e5, e6]
/-! ### the law's own -/
theorem law_total_loop {w : W} {st : Store} {H : Nat} : ∀ (rs : List Rat) (z : Rat) (k : Nat) (e : Option W), Ht k z → HtA H rs → k + (H + 1) * rs.length ≤ 7000 →
    ∃ e', loopF (tName 2) lp__law_total_1 (rs.map frac) ⟨[some w, some (.val (frac z)), e], st⟩ = .ok .next ⟨[some w, some (.val (frac (z + tot rs))), e'], st⟩ ∧ Ht (k + (H + 1) * rs.length) (z + tot rs)
  | [], z, k, e, hz, _, _ => by
    have e1 : z + tot [] = z := Rat.add_zero z
    exact ⟨e, by rw [e1]; rfl, by rw [e1]; exact hz.mono (by omega)⟩
  | r :: rs, z, k, e, hz, hr, hl => by
    have hl' : k + ((H + 1) * rs.length + (H + 1)) ≤ 7000 := hl
    have h1 := hr r (List.mem_cons_self ..)
    have e1 := s__law_plus hz h1 (by omega) (st := st)
    have st1 : (tName 2 (frac r) >>= fun _ => lp__law_total_1) ⟨[some w, some (.val (frac z)), e], st⟩ = .ok .next ⟨[some w, some (.val (frac (z + r))), some (.val (frac r))], st⟩ := by
      simp [lp__law_total_1, e1]
    obtain ⟨e', q1, q2⟩ := law_total_loop rs (z + r) (k + H + 1) (some (.val (frac r))) ((ht_add hz h1).mono (by omega)) (fun x hx => hr x (List.mem_cons_of_mem _ hx)) (by omega)
    have e2 : z + r + tot rs = z + tot (r :: rs) := by rw [tot_cons]; grind
    rw [e2] at q1 q2
    refine ⟨e', ?_, q2.mono ?_⟩
    · rw [List.map_cons, loopF_step st1, q1]
    · rw [List.length_cons, Nat.mul_add]; omega
theorem s__law_total {ds : List D} {w : W} (hw : w = .val (.tuple ds) ∨ w = .val (.list ds)) {rs : List Rat} (hd : ds = rs.map frac) {H : Nat} (h : HtA H rs) (hl : 1 + (H + 1) * rs.length ≤ 7000) {st : Store} :
    m__law_total [w] st = .ok (.val (frac (tot rs))) st ∧ Ht (1 + (H + 1) * rs.length) (tot rs) := by
  have hs := sizeLine_big
  have h2 : 2 ≤ sizeLine := by omega
  obtain ⟨e', q1, q2⟩ := law_total_loop (w := w) (st := st) rs 0 1 none ht_zero h hl
  have e0 : (0 : Rat) + tot rs = tot rs := Rat.zero_add _
  rw [e0] at q1 q2
  refine ⟨?_, q2⟩
  have e1 : PyData.tuple [.int 0, .int 1] = frac 0 := rfl
  subst hd
  rcases hw with rfl | rfl
  · simp [m__law_total, b__law_total, fnOf_app, h2, e1, q1]
  · simp [m__law_total, b__law_total, fnOf_app, h2, e1, q1]
theorem tup_over {n : Nat} (h : n ≠ 0) : PyData.tuple [.int 1, .int n] = frac (1 / (n : Rat)) := by
  have e1 : (1 : Rat) / (n : Rat) = Rat.divInt 1 (n : Int) := by
    rw [div_eq]
    show Rat.divInt (1 * 1) (1 * (n : Int)) = _
    rw [Int.one_mul, Int.one_mul]
  obtain ⟨h1, h2⟩ := divInt_pos (a := 1) h
  unfold frac
  rw [e1, h1, h2]
  simp
theorem ht_over {L n : Nat} (h : n ≠ 0) (g : n < 2 ^ L) (hL : 1 ≤ L) : Ht (1 + L) (1 / (n : Rat)) := ht_div ht_one (ht_nat g hL) (nat_nz h)
theorem over_eq (a b : Rat) : a * (1 / b) = a / b := by rw [Rat.div_def, Rat.div_def]; grind
/-- whole numbers in tuples and lists, n deep -/
def Nice : Nat → D → Prop
  | 0, _ => False
  | _ + 1, .int _ => True
  | n + 1, .tuple ds => ds.length ≤ 1000 ∧ ∀ d ∈ ds, Nice n d
  | n + 1, .list ds => ds.length ≤ 1000 ∧ ∀ d ∈ ds, Nice n d
  | _ + 1, _ => False
theorem range_row {n : Nat} (h : n ≤ 1000) : rangeW [.val (.int n)] = some (rangeD 0 n) := by
  have h1 : -(2 ^ 62) ≤ (n : Int) ∧ (n : Int) < 2 ^ 62 := ⟨by omega, by omega⟩
  simp only [rangeW]
  rw [if_pos h1, Int.toNat_natCast]
theorem range_row' {n : Nat} {z : Int} (e : z = (n : Int)) (h : n ≤ 1000) : rangeW [.val (.int z)] = some (rangeD 0 n) := by
  rw [e]
  exact range_row h
theorem same_loop {m : Nat} {ds : List D} (hl : ds.length ≤ 1000) (mk : List D → D) (hmk : ∀ (k : Int) (d : D), atI ds k = some d → ixD (mk ds) (.int k) = some (.val d)) {st : Store}
    (ih : ∀ d ∈ ds, m__law_same m [.val d, .val d] st = .ok (.val (.bool true)) st) :
    compLoop [2] (tName 2) cTrue (el__law_same_1 (m__law_same m)) (rangeD 0 ds.length) [] ⟨[some (.val (mk ds)), some (.val (mk ds)), none], st⟩ = .ok ([] ++ (List.range ds.length).map fun _ => .bool true) ⟨[some (.val (mk ds)), some (.val (mk ds)), none], st⟩ := by
  have hs := sizeLine_big
  refine compLoop_via _ _ _ _ (by simp; omega) fun i hi => ?_
  have hi' : i < ds.length := List.mem_range.mp hi
  have e1 := hmk (i : Int) ds[i] (atI_nat (List.getElem?_eq_getElem hi'))
  have e2 := ih ds[i] (List.getElem_mem hi')
  simp [el__law_same_1, e1, e2]
theorem same_refl (n : Nat) : ∀ (d : D) (st : Store), Nice n d → m__law_same n [.val d, .val d] st = .ok (.val (.bool true)) st := by
  induction n with
  | zero => exact fun _ _ h => h.elim
  | succ n ih =>
    intro d st h
    cases d with
    | int i => simp [m__law_same, b__law_same, fnOf_app]
    | tuple ds =>
      have h' : ds.length ≤ 1000 ∧ ∀ d ∈ ds, Nice n d := h
      have hc := same_loop h'.1 PyData.tuple (fun k d e => ixD_tup e) (st := st) fun d hd => ih d st (h'.2 d hd)
      have ha := all_true (List.range ds.length)
      have hr := range_row h'.1
      simp [m__law_same, b__law_same, fnOf_app, hr]
      rw [hc]
      simp [ha]
    | list ds =>
      have h' : ds.length ≤ 1000 ∧ ∀ d ∈ ds, Nice n d := h
      have hc := same_loop h'.1 PyData.list (fun k d e => ixD_list e) (st := st) fun d hd => ih d st (h'.2 d hd)
      have ha := all_true (List.range ds.length)
      have hr := range_row h'.1
      simp [m__law_same, b__law_same, fnOf_app, hr]
      rw [hc]
      simp [ha]
    | _ => exact h.elim
theorem nice_frac {n : Nat} {q : Rat} : Nice (n + 2) (frac q) := ⟨by show 2 ≤ 1000; decide, fun d hd => by
  have : d = .int q.num ∨ d = .int q.den := by simpa [frac] using hd
  rcases this with rfl | rfl <;> trivial⟩
/-! ### the well -/
/-- at most k draws so far -/
structure Well (st : Store) (r k : Nat) : Prop where
  at_ : ∃ a b c : Int, st[r]? = some [.int a, .int b, .int c] ∧ 0 ≤ b ∧ b < 2 ^ 31 ∧ 0 ≤ c ∧ c ≤ k
theorem Well.mono {st : Store} {r k l : Nat} (h : Well st r k) (hl : k ≤ l) : Well st r l := by
  obtain ⟨a, b, c, h1, h2, h3, h4, h5⟩ := h.at_
  exact ⟨a, b, c, h1, h2, h3, h4, by omega⟩
theorem ixn_1 : ixN 3 1 = some 1 := by decide
theorem ixn_2 : ixN 3 2 = some 2 := by decide
theorem ixn_00 : ixN 3 0 = some 0 := by decide
theorem s__law_take {st : Store} {r k m : Nat} (h : Well st r k) (hm : 1 ≤ m) (hm2 : m ≤ 1000) (hk : k ≤ 1000000) : ∃ (d : Nat) (st' : Store), m__law_take [.ref r, .val (.int m)] st = .ok (.val (.int d)) st' ∧ d < m ∧ Well st' r (k + 1) := by
  obtain ⟨a, b, c, h1, h2, h3, h4, h5⟩ := h.at_
  have hr : r < st.length := (List.getElem?_eq_some_iff.mp h1).1
  have hm' : (0 : Int) < m := by omega
  by_cases ha : 0 < a
  · have e3 : 0 ≤ a % (m : Int) := Int.emod_nonneg _ (by omega)
    have e4 : a % (m : Int) < m := Int.emod_lt_of_pos _ hm'
    refine ⟨(a % m).toNat, st.set r [.int (a / m), .int b, .int c], ?_, by omega, ⟨a / m, b, c, by rw [List.getElem?_set_self hr], h2, h3, h4, by omega⟩⟩
    have e1 := divmodD_int (i := a) (j := m) (by omega) (by omega)
    have e2 : ∀ env : List (Option W), modSt (α := Unit) r (fun ds => Option.map (fun j => (ds.set j (.int (a / m)), ())) (ixN ds.length 0)) ⟨env, st⟩ = .ok () ⟨env, st.set r [.int (a / m), .int b, .int c]⟩ :=
      fun env => modSt_of h1 (by simp [ixn_00])
    simp [m__law_take, b__law_take, fnOf_app, h1, ha, e1]
    rw [e2]
    simp
    omega
  · let b' : Int := (b * 39373 + (c + 1) * 30323 + 11).fmod 2147483543
    have n1 : 0 ≤ b' := Int.fmod_nonneg_of_pos _ (by decide)
    have n2 : b' < 2147483543 := Int.fmod_lt_of_pos _ (by decide)
    have e3 : 0 ≤ (b'.fdiv 128).fmod (m : Int) := Int.fmod_nonneg_of_pos _ hm'
    have e4 : (b'.fdiv 128).fmod (m : Int) < m := Int.fmod_lt_of_pos _ hm'
    let st1 := st.set r [.int a, .int b, .int (c + 1)]
    let st2 := st1.set r [.int a, .int b', .int (c + 1)]
    have q1 : st1[r]? = some [.int a, .int b, .int (c + 1)] := List.getElem?_set_self hr
    have q2 : st2[r]? = some [.int a, .int b', .int (c + 1)] := List.getElem?_set_self (by rw [List.length_set]; exact hr)
    refine ⟨((b'.fdiv 128).fmod m).toNat, st2, ?_, by omega, ⟨a, b', c + 1, q2, n1, by omega, by omega, by omega⟩⟩
    have f1 : ∀ env : List (Option W), modSt (α := Unit) r (fun ds => Option.map (fun j => (ds.set j (.int (c + 1)), ())) (ixN ds.length 2)) ⟨env, st⟩ = .ok () ⟨env, st1⟩ :=
      fun env => modSt_of h1 (by simp [ixn_2])
    have f2 : ∀ env : List (Option W), modSt (α := Unit) r (fun ds => Option.map (fun j => (ds.set j (.int b'), ())) (ixN ds.length 1)) ⟨env, st1⟩ = .ok () ⟨env, st2⟩ :=
      fun env => modSt_of q1 (by simp [ixn_1])
    have z1 := mulD_sz (i := b) (j := 39373) (sz_of (L := 31) (by omega) (by decide)) (sz_of (L := 31) (by decide) (by decide))
    have z2 := mulD_sz (i := c + 1) (j := 30323) (sz_of (L := 31) (by omega) (by decide)) (sz_of (L := 31) (by decide) (by decide))
    have z3 := fdivD_sz (i := b') (j := 128) (by decide) (sz_of (L := 31) (by decide) (by decide))
    have hm0 : m ≠ 0 := by omega
    simp [m__law_take, b__law_take, fnOf_app, h1, ha]
    rw [f1]
    simp [q1, z1, z2]
    rw [f2]
    simp [q2, z3, hm0]
    omega
theorem s__law_of {st : Store} {r k : Nat} (h : Well st r k) (hk : k ≤ 1000000) {ds : List D} (h1 : 1 ≤ ds.length) (h2 : ds.length ≤ 1000) : ∃ (d : D) (st' : Store), m__law_of [.ref r, .val (.tuple ds)] st = .ok (.val d) st' ∧ d ∈ ds ∧ Well st' r (k + 1) := by
  obtain ⟨i, st', e, hi, hw⟩ := s__law_take h h1 h2 hk
  have x := ixD_tup (ds := ds) (atI_nat (List.getElem?_eq_getElem hi))
  refine ⟨ds[i], st', ?_, List.getElem_mem hi, hw⟩
  simp [m__law_of, b__law_of, fnOf_app, e, x]
/-! ### a drawn row -/
theorem all_frac {L : Nat} : ∀ {ys : List D}, (∀ y ∈ ys, ∃ q, y = frac q ∧ Ht L q) → ∃ rs : List Rat, ys = rs.map frac ∧ HtA L rs
  | [], _ => ⟨[], rfl, fun _ h => by cases h⟩
  | y :: ys, h => by
    obtain ⟨q, e, hq⟩ := h y (List.mem_cons_self ..)
    obtain ⟨rs, e2, h2⟩ := all_frac fun z hz => h z (List.mem_cons_of_mem _ hz)
    refine ⟨q :: rs, by rw [e, e2]; rfl, fun x hx => ?_⟩
    rcases List.mem_cons.mp hx with rfl | hx
    · exact hq
    · exact h2 x hx
def isPB : D → Bool
  | .tuple [.int a, .int b] => (decide (a = 0) || decide (a = 1)) && decide (b = 1)
  | _ => false
def isRowB (n : Nat) : D → Bool
  | .tuple ds => decide (ds.length = n) && ds.all isPB
  | _ => false
def isCellB (n : Nat) : D → Bool
  | .tuple [.tuple cs, .tuple [.int a, .int k]] => decide (cs.length = n + 1) && (cs.all (isRowB n) && (decide (a = 1) && (decide (1 ≤ k) && decide (k ≤ 24))))
  | _ => false
theorem pt0 : Pt 1 0 := ⟨ht_zero, by decide, by decide⟩
theorem pt1 : Pt 1 1 := ⟨ht_one, by decide, by decide⟩
theorem isPB_ok {d : D} (h : isPB d = true) : ∃ q, d = frac q ∧ Pt 1 q := by
  unfold isPB at h
  split at h
  · rename_i a b
    simp only [Bool.and_eq_true, Bool.or_eq_true, decide_eq_true_eq] at h
    obtain ⟨h1 | h1, rfl⟩ := h
    · subst h1; exact ⟨0, rfl, pt0⟩
    · subst h1; exact ⟨1, rfl, pt1⟩
  · cases h
theorem all_ex {P : D → Prop} {α : Type} {Q : α → Prop} {f : α → D} : ∀ {ds : List D}, (∀ d ∈ ds, ∃ a, d = f a ∧ Q a) → ∃ xs : List α, ds = xs.map f ∧ ∀ a ∈ xs, Q a
  | [], _ => ⟨[], rfl, fun _ h => by cases h⟩
  | y :: ys, h => by
    obtain ⟨q, e, hq⟩ := h y (List.mem_cons_self ..)
    obtain ⟨rs, e2, h2⟩ := all_ex (P := P) fun z hz => h z (List.mem_cons_of_mem _ hz)
    refine ⟨q :: rs, by rw [e, e2]; rfl, fun x hx => ?_⟩
    rcases List.mem_cons.mp hx with rfl | hx
    · exact hq
    · exact h2 x hx
theorem isRowB_ok {n : Nat} {d : D} (h : isRowB n d = true) : ∃ rs : List Rat, d = ptD rs ∧ (rs.length = n ∧ ∀ q ∈ rs, Pt 1 q) := by
  unfold isRowB at h
  split at h
  · rename_i ds
    simp only [Bool.and_eq_true, decide_eq_true_eq, List.all_eq_true] at h
    obtain ⟨rs, rfl, h2⟩ := all_ex (P := fun _ => True) (f := frac) (Q := Pt 1) fun d hd => isPB_ok (h.2 d hd)
    exact ⟨rs, rfl, by simpa using h.1, h2⟩
  · cases h
theorem over_parts {m : Nat} (hm : m ≠ 0) : (1 / (m : Rat)).num = 1 ∧ (1 / (m : Rat)).den = m := by
  have h := tup_over hm
  unfold frac at h
  injection h with h
  injection h with h1 h2
  injection h1 with h1
  injection h2 with h2 _
  injection h2 with h2
  exact ⟨h1.symm, by exact_mod_cast h2.symm⟩
theorem pt_over {L m : Nat} (hm : m ≠ 0) (h : m < 2 ^ L) (hL : 1 ≤ L) : Pt (1 + L) (1 / (m : Rat)) := by
  obtain ⟨h1, h2⟩ := over_parts hm
  refine ⟨ht_over hm h hL, ?_, ?_⟩
  · rw [← Rat.num_nonneg, h1]; decide
  · rw [Rat.lt_iff, h1, h2]
    show ¬ (1 * (m : Int) < 1 * 1)
    omega
theorem isCellB_ok {n : Nat} (hn : n ≤ 4) {d : D} (h : isCellB n d = true) : ∃ cs s, d = cellD cs s ∧ Cell 6 n cs s := by
  unfold isCellB at h
  split at h
  · rename_i cs a k
    simp only [Bool.and_eq_true, decide_eq_true_eq, List.all_eq_true] at h
    obtain ⟨h1, h2, rfl, h4, h5⟩ := h
    obtain ⟨rs, rfl, h6⟩ := all_ex (P := fun _ => True) (f := ptD) (Q := fun rs : List Rat => rs.length = n ∧ ∀ q ∈ rs, Pt 1 q) fun d hd => isRowB_ok (h2 d hd)
    obtain ⟨m, rfl⟩ : ∃ m : Nat, k = m := ⟨k.toNat, by omega⟩
    have hm : m ≠ 0 := by omega
    refine ⟨rs, 1 / (m : Rat), ?_, ⟨by simpa using h1, hn, fun c hc => ⟨(h6 c hc).1, fun q hq => ((h6 c hc).2 q hq).mono (by decide)⟩, pt_over (L := 5) hm (by omega) (by decide)⟩⟩
    show PyData.tuple [.tuple (rs.map ptD), .tuple [.int 1, .int m]] = _
    rw [tup_over hm]
    rfl
  · cases h
def firstB (n : Nat) (o : Out Store W) : Option (Bool × Bool × Store) := match o with
  | .ok (.val (.tuple ds)) st' => some (ds.all (isCellB n), decide (1 ≤ ds.length ∧ ds.length ≤ 24), st')
  | _ => none
theorem first_eval0 (st : Store) : firstB 0 (m_first_cells [.val (.int 0)] st) = some (true, true, st) := by kernel_rfl
theorem first_eval1 (st : Store) : firstB 1 (m_first_cells [.val (.int 1)] st) = some (true, true, st) := by kernel_rfl
theorem first_eval2 (st : Store) : firstB 2 (m_first_cells [.val (.int 2)] st) = some (true, true, st) := by kernel_rfl
theorem first_eval3 (st : Store) : firstB 3 (m_first_cells [.val (.int 3)] st) = some (true, true, st) := by kernel_rfl
theorem first_eval4 (st : Store) : firstB 4 (m_first_cells [.val (.int 4)] st) = some (true, true, st) := by kernel_rfl
theorem firstB_ok {n : Nat} (hn : n ≤ 4) {o : Out Store W} {st : Store} (h : firstB n o = some (true, true, st)) : ∃ ds, o = .ok (.val (.tuple ds)) st ∧ 1 ≤ ds.length ∧ ds.length ≤ 24 ∧ ∀ d ∈ ds, ∃ cs s, d = cellD cs s ∧ Cell 6 n cs s := by
  unfold firstB at h
  split at h
  · rename_i ds st'
    simp only [Option.some.injEq, Prod.mk.injEq, decide_eq_true_eq, List.all_eq_true] at h
    obtain ⟨h1, h2, rfl⟩ := h
    exact ⟨ds, rfl, h2.1, h2.2, fun d hd => isCellB_ok hn (h1 d hd)⟩
  · cases h
theorem s_first_cells {n : Nat} (hn : n ≤ 4) {st : Store} : ∃ ds, m_first_cells [.val (.int n)] st = .ok (.val (.tuple ds)) st ∧ 1 ≤ ds.length ∧ ds.length ≤ 24 ∧ ∀ d ∈ ds, ∃ cs s, d = cellD cs s ∧ Cell 6 n cs s := by
  refine firstB_ok hn ?_
  match n, hn with
  | 0, _ => exact first_eval0 st
  | 1, _ => exact first_eval1 st
  | 2, _ => exact first_eval2 st
  | 3, _ => exact first_eval3 st
  | 4, _ => exact first_eval4 st
/-! ### the well is filled -/
theorem well_loop {ns : List Int} {lap : Int} {own : W} {st : Store} : ∀ (zs : List Int) (b : Int) (e : Option W), 0 ≤ b → b < 2 ^ 31 →
    ∃ b' e', 0 ≤ b' ∧ b' < 2 ^ 31 ∧ loopF (tName 4) lp__law_well_1 (zs.map .int) ⟨[some (.scr ns), some (.val (.int lap)), some own, some (.val (.int b)), e], st⟩ = .ok .next ⟨[some (.scr ns), some (.val (.int lap)), some own, some (.val (.int b')), e'], st⟩
  | [], b, e, h1, h2 => ⟨b, e, h1, h2, rfl⟩
  | z :: zs, b, e, h1, h2 => by
    let b1 : Int := (b * 44497 + z.fmod 2147483587 + 29).fmod 2147483563
    have n1 : 0 ≤ b1 := Int.fmod_nonneg_of_pos _ (by decide)
    have n2 : b1 < 2147483563 := Int.fmod_lt_of_pos _ (by decide)
    obtain ⟨b', e', h3, h4, h5⟩ := well_loop (ns := ns) (lap := lap) (own := own) (st := st) zs b1 (some (.val (.int z))) n1 (by omega)
    refine ⟨b', e', h3, h4, ?_⟩
    have z1 := mulD_sz (i := b) (j := 44497) (sz_of (L := 31) (by omega) (by decide)) (sz_of (L := 31) (by decide) (by decide))
    rw [List.map_cons, loopF_step (s' := ⟨[some (.scr ns), some (.val (.int lap)), some own, some (.val (.int b1)), some (.val (.int z))], st⟩), h5]
    simp [lp__law_well_1, z1]
    rfl
theorem cut_map {α β : Type} (f : α → β) (xs : List α) (lo hi : Option Int) : cutL (xs.map f) lo hi = (cutL xs lo hi).map f := by
  unfold cutL
  simp [List.map_take, List.map_drop]
@[simp] theorem powD_int {i j : Int} : powD (.int i) (.int j) = if 0 ≤ j ∧ j ≤ 1000000 ∧ i.natAbs < 2 ^ 64 then some (.val (.int (i ^ j.toNat))) else none := (rfl)
theorem s__law_well {ns : List Int} {lap : Nat} (hl : lap ≤ 3) (hn : ns.length ≤ 63) {st : Store} : ∃ r st', m__law_well [.scr ns, .val (.int lap)] st = .ok (.ref r) st' ∧ Well st' r 0 := by
  have hs := sizeLine_big
  have key : ∀ o : Int, ∃ b' e', 0 ≤ b' ∧ b' < 2 ^ 31 ∧ loopF (tName 4) lp__law_well_1 (cutL (ns.map .int) none (some 8) ++ [.int o]) ⟨[some (.scr ns), some (.val (.int lap)), some (.val (.int o)), some (.val (.int (52027 + 6971 * (lap : Int)))), none], st ++ [[.int o]]⟩ = .ok .next ⟨[some (.scr ns), some (.val (.int lap)), some (.val (.int o)), some (.val (.int b')), e'], st ++ [[.int o]]⟩ := fun o => by
    have e1 : cutL (ns.map .int) none (some 8) ++ [PyData.int o] = (cutL ns none (some 8) ++ [o]).map .int := by rw [cut_map, List.map_append]; rfl
    rw [e1]
    exact well_loop _ _ _ (by omega) (by omega)
  have len : ∀ o : Int, (cutL (ns.map PyData.int) none (some 8)).length + 1 ≤ sizeLine := fun o => by
    have := cutL_length (ns.map PyData.int) none (some 8)
    rw [List.length_map] at this
    omega
  have z1 := mulD_sz (i := 6971) (j := lap) (sz_of (L := 31) (by decide) (by decide)) (sz_of (L := 31) (by omega) (by decide))
  have h1 : 1 ≤ sizeLine := by omega
  have h3 : 3 ≤ sizeLine := by omega
  have fin : ∀ (o b' : Int) (a : Int), 0 ≤ b' → b' < 2 ^ 31 → Well (st ++ [[.int o]] ++ [[.int a, .int b', .int 0]]) (st.length + 1) 0 := fun o b' a h1 h2 => ⟨a, b', 0, by simp, h1, h2, by decide, by decide⟩
  by_cases h : lap < ns.length
  · obtain ⟨b', e', g1, g2, g3⟩ := key ns[lap]
    have x := ixD_list (ds := ns.map PyData.int) (i := lap) (d := .int ns[lap]) (atI_nat (by simp [h]))
    by_cases ho : ns[lap] < 0 ∨ 1000000000000000000 ≤ ns[lap]
    · refine ⟨st.length + 1, _, ?_, fin ns[lap] b' (if ns[lap] < 0 then -ns[lap] else ns[lap]) g1 g2⟩
      by_cases ho1 : ns[lap] < 0
      · simp [m__law_well, b__law_well, fnOf_app, h, x, z1, h1, len 0]
        rw [g3]
        simp [ho1, h3]
      · have ho2 : 1000000000000000000 ≤ ns[lap] := ho.resolve_left ho1
        simp [m__law_well, b__law_well, fnOf_app, h, x, z1, h1, len 0]
        rw [g3]
        simp [ho1, ho2, h3]
    · refine ⟨st.length + 1, _, ?_, fin ns[lap] b' 0 g1 g2⟩
      have ho1 : ¬ ns[lap] < 0 := fun z => ho (.inl z)
      have ho2 : ¬ 1000000000000000000 ≤ ns[lap] := fun z => ho (.inr z)
      simp [m__law_well, b__law_well, fnOf_app, h, x, z1, h1, len 0]
      rw [g3]
      simp [ho1, ho2, h3]
  · obtain ⟨b', e', g1, g2, g3⟩ := key 0
    refine ⟨st.length + 1, _, ?_, fin 0 b' 0 g1 g2⟩
    simp [m__law_well, b__law_well, fnOf_app, h, z1, h1, len 0]
    rw [g3]
    simp [h3]
end K22
namespace K22
open PySem PySem.Spec PyProof.Rows L2 Z
/-! ### determinants of up to four rows -/
def det : List (List Rat) → Rat
  | [] => 1
  | [[a]] => a
  | [[a, b], [c, d]] => a * d - b * c
  | [[a, b, c], [d, e, f], [g, h, i]] => a * (e * i - f * h) - b * (d * i - f * g) + c * (d * h - e * g)
  | [[a, b, c, d], [e, f, g, h], [i, j, k, l], [m, n, o, p]] =>
    a * (f * (k * p - l * o) - g * (j * p - l * n) + h * (j * o - k * n)) - b * (e * (k * p - l * o) - g * (i * p - l * m) + h * (i * o - k * m)) + c * (e * (j * p - l * n) - f * (i * p - l * m) + h * (i * n - j * m)) - d * (e * (j * o - k * n) - f * (i * o - k * m) + g * (i * n - j * m))
  | _ => 0
def absR (q : Rat) : Rat := if q < 0 then -q else q
theorem absR_nn (q : Rat) : 0 ≤ absR q := by unfold absR; split <;> grind
theorem absR_mul (a b : Rat) : absR (a * b) = absR a * absR b := by
  unfold absR
  by_cases ha : a < 0 <;> by_cases hb : b < 0
  · have := Rat.mul_pos (a := -a) (b := -b) (by grind) (by grind)
    have h : ¬ a * b < 0 := by grind
    simp only [ha, hb, h, if_true, if_false]; grind
  · by_cases h0 : b = 0
    · subst h0; simp only [ha, hb, if_true, if_false]; grind
    · have := Rat.mul_pos (a := -a) (b := b) (by grind) (by grind)
      have h : a * b < 0 := by grind
      simp only [ha, hb, h, if_true, if_false]; grind
  · by_cases h0 : a = 0
    · subst h0; simp only [ha, hb, if_true, if_false]; grind
    · have := Rat.mul_pos (a := a) (b := -b) (by grind) (by grind)
      have h : a * b < 0 := by grind
      simp only [ha, hb, h, if_true, if_false]; grind
  · have := Rat.mul_nonneg (a := a) (b := b) (by grind) (by grind)
    have h : ¬ a * b < 0 := by grind
    simp only [ha, hb, h, if_false]
theorem absR_neg (a : Rat) : absR (-a) = absR a := by unfold absR; split <;> split <;> grind
theorem absR_of {a : Rat} (h : 0 ≤ a) : absR a = a := by unfold absR; rw [if_neg (by grind)]
structure Sq (n : Nat) (rows : List (List Rat)) : Prop where
  len : rows.length = n
  row : ∀ r ∈ rows, r.length = n
def without (r p : List Rat) : List Rat := (r.tail.zip p.tail).map fun x => x.1 - r.headD 0 / p.headD 0 * x.2
theorem l1 {α : Type} {l : List α} (h : l.length = 1) : ∃ a, l = [a] := by
  match l, h with
  | [a], _ => exact ⟨a, rfl⟩
theorem l2 {α : Type} {l : List α} (h : l.length = 2) : ∃ a b, l = [a, b] := by
  match l, h with
  | [a, b], _ => exact ⟨a, b, rfl⟩
theorem l3 {α : Type} {l : List α} (h : l.length = 3) : ∃ a b c, l = [a, b, c] := by
  match l, h with
  | [a, b, c], _ => exact ⟨a, b, c, rfl⟩
theorem l4 {α : Type} {l : List α} (h : l.length = 4) : ∃ a b c d, l = [a, b, c, d] := by
  match l, h with
  | [a, b, c, d], _ => exact ⟨a, b, c, d, rfl⟩
theorem div_eqn {x a : Rat} (ha : a ≠ 0) : ∃ t, x / a = t ∧ x = t * a := ⟨x / a, rfl, by grind⟩
theorem det_step1 (a : Rat) : det [[a]] = a * det [] := by simp [det]
theorem det_step2 (a b c d : Rat) (ha : a ≠ 0) : det [[a, b], [c, d]] = a * det [without [c, d] [a, b]] := by
  obtain ⟨x, h1, h2⟩ := div_eqn (x := c) ha
  simp only [det, without, List.tail_cons, List.zip_cons_cons, List.zip_nil_right, List.map_cons, List.map_nil, List.headD_cons, h1]
  subst h2; grind
theorem det_step3 (a b c d e f g h i : Rat) (ha : a ≠ 0) : det [[a, b, c], [d, e, f], [g, h, i]] = a * det [without [d, e, f] [a, b, c], without [g, h, i] [a, b, c]] := by
  obtain ⟨x, h1, h2⟩ := div_eqn (x := d) ha
  obtain ⟨y, h3, h4⟩ := div_eqn (x := g) ha
  simp only [det, without, List.tail_cons, List.zip_cons_cons, List.zip_nil_right, List.map_cons, List.map_nil, List.headD_cons, h1, h3]
  subst h2 h4; grind
theorem det_step4 (a b c d e f g h i j k l m n o p : Rat) (ha : a ≠ 0) : det [[a, b, c, d], [e, f, g, h], [i, j, k, l], [m, n, o, p]] = a * det [without [e, f, g, h] [a, b, c, d], without [i, j, k, l] [a, b, c, d], without [m, n, o, p] [a, b, c, d]] := by
  obtain ⟨x, h1, h2⟩ := div_eqn (x := e) ha
  obtain ⟨y, h3, h4⟩ := div_eqn (x := i) ha
  obtain ⟨z, h5, h6⟩ := div_eqn (x := m) ha
  simp only [det, without, List.tail_cons, List.zip_cons_cons, List.zip_nil_right, List.map_cons, List.map_nil, List.headD_cons, h1, h3, h5]
  subst h2 h4 h6; grind
/-- the pivot row goes ahead: the sign apart the same -/
theorem det_front {n : Nat} (hn : n ≤ 4) {rows : List (List Rat)} (h : Sq n rows) {i : Nat} {p : List Rat} (hp : rows[i]? = some p) : absR (det (p :: rows.eraseIdx i)) = absR (det rows) := by
  obtain ⟨hl, hr⟩ := h
  have hi := (List.getElem?_eq_some_iff.mp hp).1
  match n, hn with
  | 0, _ => omega
  | 1, _ =>
    obtain ⟨r1, rfl⟩ := l1 hl
    have : i = 0 := by simp at hi; omega
    subst this
    cases hp
    rfl
  | 2, _ =>
    obtain ⟨r1, r2, rfl⟩ := l2 hl
    obtain ⟨a, b, rfl⟩ := l2 (hr r1 (by simp))
    obtain ⟨c, d, rfl⟩ := l2 (hr r2 (by simp))
    have : i = 0 ∨ i = 1 := by simp at hi; omega
    rcases this with rfl | rfl
    · cases hp; rfl
    · cases hp
      rw [← absR_neg]
      congr 1
      simp only [List.eraseIdx_cons_succ, List.eraseIdx_cons_zero, det]
      grind
  | 3, _ =>
    obtain ⟨r1, r2, r3, rfl⟩ := l3 hl
    obtain ⟨a, b, c, rfl⟩ := l3 (hr r1 (by simp))
    obtain ⟨d, e, f, rfl⟩ := l3 (hr r2 (by simp))
    obtain ⟨g, h, j, rfl⟩ := l3 (hr r3 (by simp))
    have : i = 0 ∨ i = 1 ∨ i = 2 := by simp at hi; omega
    rcases this with rfl | rfl | rfl
    · cases hp; rfl
    · cases hp
      rw [← absR_neg]
      congr 1
      simp only [List.eraseIdx_cons_succ, List.eraseIdx_cons_zero, det]
      grind
    · cases hp
      congr 1
      simp only [List.eraseIdx_cons_succ, List.eraseIdx_cons_zero, det]
      grind
  | 4, _ =>
    obtain ⟨r1, r2, r3, r4, rfl⟩ := l4 hl
    obtain ⟨a, b, c, d, rfl⟩ := l4 (hr r1 (by simp))
    obtain ⟨e, f, g, h, rfl⟩ := l4 (hr r2 (by simp))
    obtain ⟨ii, j, k, l, rfl⟩ := l4 (hr r3 (by simp))
    obtain ⟨m, nn, o, q, rfl⟩ := l4 (hr r4 (by simp))
    have : i = 0 ∨ i = 1 ∨ i = 2 ∨ i = 3 := by simp at hi; omega
    rcases this with rfl | rfl | rfl | rfl
    · cases hp; rfl
    · cases hp
      rw [← absR_neg]
      congr 1
      simp only [List.eraseIdx_cons_succ, List.eraseIdx_cons_zero, det]
      grind
    · cases hp
      congr 1
      simp only [List.eraseIdx_cons_succ, List.eraseIdx_cons_zero, det]
      grind
    · cases hp
      rw [← absR_neg]
      congr 1
      simp only [List.eraseIdx_cons_succ, List.eraseIdx_cons_zero, det]
      grind
theorem det_elim {n : Nat} (hn : n ≤ 3) {p : List Rat} {rows : List (List Rat)} (h : Sq (n + 1) (p :: rows)) (hp : p.headD 0 ≠ 0) : det (p :: rows) = p.headD 0 * det (rows.map fun r => without r p) := by
  obtain ⟨hl, hr⟩ := h
  match n, hn with
  | 0, _ =>
    obtain rfl : rows = [] := by simpa using hl
    obtain ⟨a, rfl⟩ := l1 (hr p (by simp))
    exact det_step1 a
  | 1, _ =>
    obtain ⟨r1, rfl⟩ := l1 (l := rows) (by simpa using hl)
    obtain ⟨a, b, rfl⟩ := l2 (hr p (by simp))
    obtain ⟨c, d, rfl⟩ := l2 (hr r1 (by simp))
    exact det_step2 a b c d hp
  | 2, _ =>
    obtain ⟨r1, r2, rfl⟩ := l2 (l := rows) (by simpa using hl)
    obtain ⟨a, b, c, rfl⟩ := l3 (hr p (by simp))
    obtain ⟨d, e, f, rfl⟩ := l3 (hr r1 (by simp))
    obtain ⟨g, h, i, rfl⟩ := l3 (hr r2 (by simp))
    exact det_step3 a b c d e f g h i hp
  | 3, _ =>
    obtain ⟨r1, r2, r3, rfl⟩ := l3 (l := rows) (by simpa using hl)
    obtain ⟨a, b, c, d, rfl⟩ := l4 (hr p (by simp))
    obtain ⟨e, f, g, h, rfl⟩ := l4 (hr r1 (by simp))
    obtain ⟨i, j, k, l, rfl⟩ := l4 (hr r2 (by simp))
    obtain ⟨m, n, o, q, rfl⟩ := l4 (hr r3 (by simp))
    exact det_step4 a b c d e f g h i j k l m n o q hp
theorem without_length {n : Nat} {r p : List Rat} (hr : r.length = n + 1) (hp : p.length = n + 1) : (without r p).length = n := by
  simp [without, hr, hp]
theorem det_abs {n : Nat} (hn : n ≤ 3) {rows : List (List Rat)} (h : Sq (n + 1) rows) {i : Nat} {p : List Rat} (hi : rows[i]? = some p) (hp : p.headD 0 ≠ 0) : absR (det rows) = absR (p.headD 0) * absR (det ((rows.eraseIdx i).map fun r => without r p)) ∧ Sq n ((rows.eraseIdx i).map fun r => without r p) := by
  have hl := (List.getElem?_eq_some_iff.mp hi).1
  have hm := List.mem_of_getElem? hi
  have h2 : Sq (n + 1) (p :: rows.eraseIdx i) := ⟨by rw [List.length_cons, List.length_eraseIdx_of_lt hl, h.len]; omega, fun r hr => by
    rcases List.mem_cons.mp hr with rfl | hr
    · exact h.row r hm
    · exact h.row r (List.mem_of_mem_eraseIdx hr)⟩
  refine ⟨?_, ⟨?_, fun r hr => ?_⟩⟩
  · rw [← det_front (by omega) h hi, det_elim hn h2 hp, absR_mul]
  · rw [List.length_map, List.length_eraseIdx_of_lt hl, h.len]; omega
  · obtain ⟨x, hx, rfl⟩ := List.mem_map.mp hr
    exact without_length (h.row x (List.mem_of_mem_eraseIdx hx)) (h.row p hm)
theorem det_none {n : Nat} (hn : n ≤ 3) {rows : List (List Rat)} (h : Sq (n + 1) rows) (h0 : ∀ r ∈ rows, r.headD 0 = 0) : det rows = 0 := by
  obtain ⟨hl, hr⟩ := h
  match n, hn with
  | 0, _ =>
    obtain ⟨r1, rfl⟩ := l1 hl
    obtain ⟨a, rfl⟩ := l1 (hr r1 (by simp))
    have := h0 [a] (by simp)
    exact this
  | 1, _ =>
    obtain ⟨r1, r2, rfl⟩ := l2 hl
    obtain ⟨a, b, rfl⟩ := l2 (hr r1 (by simp))
    obtain ⟨c, d, rfl⟩ := l2 (hr r2 (by simp))
    have h1 : a = 0 := h0 [a, b] (by simp)
    have h2 : c = 0 := h0 [c, d] (by simp)
    subst h1 h2
    simp only [det]; grind
  | 2, _ =>
    obtain ⟨r1, r2, r3, rfl⟩ := l3 hl
    obtain ⟨a, b, c, rfl⟩ := l3 (hr r1 (by simp))
    obtain ⟨d, e, f, rfl⟩ := l3 (hr r2 (by simp))
    obtain ⟨g, h, i, rfl⟩ := l3 (hr r3 (by simp))
    have h1 : a = 0 := h0 [a, b, c] (by simp)
    have h2 : d = 0 := h0 [d, e, f] (by simp)
    have h3 : g = 0 := h0 [g, h, i] (by simp)
    subst h1 h2 h3
    simp only [det]; grind
  | 3, _ =>
    obtain ⟨r1, r2, r3, r4, rfl⟩ := l4 hl
    obtain ⟨a, b, c, d, rfl⟩ := l4 (hr r1 (by simp))
    obtain ⟨e, f, g, h, rfl⟩ := l4 (hr r2 (by simp))
    obtain ⟨i, j, k, l, rfl⟩ := l4 (hr r3 (by simp))
    obtain ⟨m, n, o, p, rfl⟩ := l4 (hr r4 (by simp))
    have h1 : a = 0 := h0 [a, b, c, d] (by simp)
    have h2 : e = 0 := h0 [e, f, g, h] (by simp)
    have h3 : i = 0 := h0 [i, j, k, l] (by simp)
    have h4 : m = 0 := h0 [m, n, o, p] (by simp)
    subst h1 h2 h3 h4
    simp only [det]; grind
end K22
namespace K22
open PySem PySem.Spec PyProof.Rows L2 Z
def sub (s c : List Rat) : List Rat := (s.zip c).map fun x => x.2 - x.1
def edges : List (List Rat) → List (List Rat)
  | [] => []
  | s :: cs => cs.map (sub s)
theorem l5 {α : Type} {l : List α} (h : l.length = 5) : ∃ a b c d e, l = [a, b, c, d, e] := by
  match l, h with
  | [a, b, c, d, e], _ => exact ⟨a, b, c, d, e, rfl⟩
theorem vol_1_0_1_1 (x00 x10 z : Rat) : det (edges ([[x00], [x10]].set 1 (mid [x00] [x10] z))) = z * det (edges [[x00], [x10]]) := by
  simp only [List.set_cons_zero, List.set_cons_succ, edges, sub, mid, List.map_cons, List.map_nil, List.zip_cons_cons, List.zip_nil_right, det]
  grind
theorem vol_1_0_1_0 (x00 x10 z : Rat) : det (edges ([[x00], [x10]].set 0 (mid [x00] [x10] z))) = (1 - z) * det (edges [[x00], [x10]]) := by
  simp only [List.set_cons_zero, List.set_cons_succ, edges, sub, mid, List.map_cons, List.map_nil, List.zip_cons_cons, List.zip_nil_right, det]
  grind
theorem vol_2_0_1_1 (x00 x01 x10 x11 x20 x21 z : Rat) : det (edges ([[x00, x01], [x10, x11], [x20, x21]].set 1 (mid [x00, x01] [x10, x11] z))) = z * det (edges [[x00, x01], [x10, x11], [x20, x21]]) := by
  simp only [List.set_cons_zero, List.set_cons_succ, edges, sub, mid, List.map_cons, List.map_nil, List.zip_cons_cons, List.zip_nil_right, det]
  grind
theorem vol_2_0_1_0 (x00 x01 x10 x11 x20 x21 z : Rat) : det (edges ([[x00, x01], [x10, x11], [x20, x21]].set 0 (mid [x00, x01] [x10, x11] z))) = (1 - z) * det (edges [[x00, x01], [x10, x11], [x20, x21]]) := by
  simp only [List.set_cons_zero, List.set_cons_succ, edges, sub, mid, List.map_cons, List.map_nil, List.zip_cons_cons, List.zip_nil_right, det]
  grind
theorem vol_2_0_2_2 (x00 x01 x10 x11 x20 x21 z : Rat) : det (edges ([[x00, x01], [x10, x11], [x20, x21]].set 2 (mid [x00, x01] [x20, x21] z))) = z * det (edges [[x00, x01], [x10, x11], [x20, x21]]) := by
  simp only [List.set_cons_zero, List.set_cons_succ, edges, sub, mid, List.map_cons, List.map_nil, List.zip_cons_cons, List.zip_nil_right, det]
  grind
theorem vol_2_0_2_0 (x00 x01 x10 x11 x20 x21 z : Rat) : det (edges ([[x00, x01], [x10, x11], [x20, x21]].set 0 (mid [x00, x01] [x20, x21] z))) = (1 - z) * det (edges [[x00, x01], [x10, x11], [x20, x21]]) := by
  simp only [List.set_cons_zero, List.set_cons_succ, edges, sub, mid, List.map_cons, List.map_nil, List.zip_cons_cons, List.zip_nil_right, det]
  grind
theorem vol_2_1_2_2 (x00 x01 x10 x11 x20 x21 z : Rat) : det (edges ([[x00, x01], [x10, x11], [x20, x21]].set 2 (mid [x10, x11] [x20, x21] z))) = z * det (edges [[x00, x01], [x10, x11], [x20, x21]]) := by
  simp only [List.set_cons_zero, List.set_cons_succ, edges, sub, mid, List.map_cons, List.map_nil, List.zip_cons_cons, List.zip_nil_right, det]
  grind
theorem vol_2_1_2_1 (x00 x01 x10 x11 x20 x21 z : Rat) : det (edges ([[x00, x01], [x10, x11], [x20, x21]].set 1 (mid [x10, x11] [x20, x21] z))) = (1 - z) * det (edges [[x00, x01], [x10, x11], [x20, x21]]) := by
  simp only [List.set_cons_zero, List.set_cons_succ, edges, sub, mid, List.map_cons, List.map_nil, List.zip_cons_cons, List.zip_nil_right, det]
  grind
theorem vol_3_0_1_1 (x00 x01 x02 x10 x11 x12 x20 x21 x22 x30 x31 x32 z : Rat) : det (edges ([[x00, x01, x02], [x10, x11, x12], [x20, x21, x22], [x30, x31, x32]].set 1 (mid [x00, x01, x02] [x10, x11, x12] z))) = z * det (edges [[x00, x01, x02], [x10, x11, x12], [x20, x21, x22], [x30, x31, x32]]) := by
  simp only [List.set_cons_zero, List.set_cons_succ, edges, sub, mid, List.map_cons, List.map_nil, List.zip_cons_cons, List.zip_nil_right, det]
  grind
theorem vol_3_0_1_0 (x00 x01 x02 x10 x11 x12 x20 x21 x22 x30 x31 x32 z : Rat) : det (edges ([[x00, x01, x02], [x10, x11, x12], [x20, x21, x22], [x30, x31, x32]].set 0 (mid [x00, x01, x02] [x10, x11, x12] z))) = (1 - z) * det (edges [[x00, x01, x02], [x10, x11, x12], [x20, x21, x22], [x30, x31, x32]]) := by
  simp only [List.set_cons_zero, List.set_cons_succ, edges, sub, mid, List.map_cons, List.map_nil, List.zip_cons_cons, List.zip_nil_right, det]
  grind
theorem vol_3_0_2_2 (x00 x01 x02 x10 x11 x12 x20 x21 x22 x30 x31 x32 z : Rat) : det (edges ([[x00, x01, x02], [x10, x11, x12], [x20, x21, x22], [x30, x31, x32]].set 2 (mid [x00, x01, x02] [x20, x21, x22] z))) = z * det (edges [[x00, x01, x02], [x10, x11, x12], [x20, x21, x22], [x30, x31, x32]]) := by
  simp only [List.set_cons_zero, List.set_cons_succ, edges, sub, mid, List.map_cons, List.map_nil, List.zip_cons_cons, List.zip_nil_right, det]
  grind
theorem vol_3_0_2_0 (x00 x01 x02 x10 x11 x12 x20 x21 x22 x30 x31 x32 z : Rat) : det (edges ([[x00, x01, x02], [x10, x11, x12], [x20, x21, x22], [x30, x31, x32]].set 0 (mid [x00, x01, x02] [x20, x21, x22] z))) = (1 - z) * det (edges [[x00, x01, x02], [x10, x11, x12], [x20, x21, x22], [x30, x31, x32]]) := by
  simp only [List.set_cons_zero, List.set_cons_succ, edges, sub, mid, List.map_cons, List.map_nil, List.zip_cons_cons, List.zip_nil_right, det]
  grind
theorem vol_3_0_3_3 (x00 x01 x02 x10 x11 x12 x20 x21 x22 x30 x31 x32 z : Rat) : det (edges ([[x00, x01, x02], [x10, x11, x12], [x20, x21, x22], [x30, x31, x32]].set 3 (mid [x00, x01, x02] [x30, x31, x32] z))) = z * det (edges [[x00, x01, x02], [x10, x11, x12], [x20, x21, x22], [x30, x31, x32]]) := by
  simp only [List.set_cons_zero, List.set_cons_succ, edges, sub, mid, List.map_cons, List.map_nil, List.zip_cons_cons, List.zip_nil_right, det]
  grind
theorem vol_3_0_3_0 (x00 x01 x02 x10 x11 x12 x20 x21 x22 x30 x31 x32 z : Rat) : det (edges ([[x00, x01, x02], [x10, x11, x12], [x20, x21, x22], [x30, x31, x32]].set 0 (mid [x00, x01, x02] [x30, x31, x32] z))) = (1 - z) * det (edges [[x00, x01, x02], [x10, x11, x12], [x20, x21, x22], [x30, x31, x32]]) := by
  simp only [List.set_cons_zero, List.set_cons_succ, edges, sub, mid, List.map_cons, List.map_nil, List.zip_cons_cons, List.zip_nil_right, det]
  grind
theorem vol_3_1_2_2 (x00 x01 x02 x10 x11 x12 x20 x21 x22 x30 x31 x32 z : Rat) : det (edges ([[x00, x01, x02], [x10, x11, x12], [x20, x21, x22], [x30, x31, x32]].set 2 (mid [x10, x11, x12] [x20, x21, x22] z))) = z * det (edges [[x00, x01, x02], [x10, x11, x12], [x20, x21, x22], [x30, x31, x32]]) := by
  simp only [List.set_cons_zero, List.set_cons_succ, edges, sub, mid, List.map_cons, List.map_nil, List.zip_cons_cons, List.zip_nil_right, det]
  grind
theorem vol_3_1_2_1 (x00 x01 x02 x10 x11 x12 x20 x21 x22 x30 x31 x32 z : Rat) : det (edges ([[x00, x01, x02], [x10, x11, x12], [x20, x21, x22], [x30, x31, x32]].set 1 (mid [x10, x11, x12] [x20, x21, x22] z))) = (1 - z) * det (edges [[x00, x01, x02], [x10, x11, x12], [x20, x21, x22], [x30, x31, x32]]) := by
  simp only [List.set_cons_zero, List.set_cons_succ, edges, sub, mid, List.map_cons, List.map_nil, List.zip_cons_cons, List.zip_nil_right, det]
  grind
theorem vol_3_1_3_3 (x00 x01 x02 x10 x11 x12 x20 x21 x22 x30 x31 x32 z : Rat) : det (edges ([[x00, x01, x02], [x10, x11, x12], [x20, x21, x22], [x30, x31, x32]].set 3 (mid [x10, x11, x12] [x30, x31, x32] z))) = z * det (edges [[x00, x01, x02], [x10, x11, x12], [x20, x21, x22], [x30, x31, x32]]) := by
  simp only [List.set_cons_zero, List.set_cons_succ, edges, sub, mid, List.map_cons, List.map_nil, List.zip_cons_cons, List.zip_nil_right, det]
  grind
theorem vol_3_1_3_1 (x00 x01 x02 x10 x11 x12 x20 x21 x22 x30 x31 x32 z : Rat) : det (edges ([[x00, x01, x02], [x10, x11, x12], [x20, x21, x22], [x30, x31, x32]].set 1 (mid [x10, x11, x12] [x30, x31, x32] z))) = (1 - z) * det (edges [[x00, x01, x02], [x10, x11, x12], [x20, x21, x22], [x30, x31, x32]]) := by
  simp only [List.set_cons_zero, List.set_cons_succ, edges, sub, mid, List.map_cons, List.map_nil, List.zip_cons_cons, List.zip_nil_right, det]
  grind
theorem vol_3_2_3_3 (x00 x01 x02 x10 x11 x12 x20 x21 x22 x30 x31 x32 z : Rat) : det (edges ([[x00, x01, x02], [x10, x11, x12], [x20, x21, x22], [x30, x31, x32]].set 3 (mid [x20, x21, x22] [x30, x31, x32] z))) = z * det (edges [[x00, x01, x02], [x10, x11, x12], [x20, x21, x22], [x30, x31, x32]]) := by
  simp only [List.set_cons_zero, List.set_cons_succ, edges, sub, mid, List.map_cons, List.map_nil, List.zip_cons_cons, List.zip_nil_right, det]
  grind
theorem vol_3_2_3_2 (x00 x01 x02 x10 x11 x12 x20 x21 x22 x30 x31 x32 z : Rat) : det (edges ([[x00, x01, x02], [x10, x11, x12], [x20, x21, x22], [x30, x31, x32]].set 2 (mid [x20, x21, x22] [x30, x31, x32] z))) = (1 - z) * det (edges [[x00, x01, x02], [x10, x11, x12], [x20, x21, x22], [x30, x31, x32]]) := by
  simp only [List.set_cons_zero, List.set_cons_succ, edges, sub, mid, List.map_cons, List.map_nil, List.zip_cons_cons, List.zip_nil_right, det]
  grind
theorem vol_4_0_1_1 (x00 x01 x02 x03 x10 x11 x12 x13 x20 x21 x22 x23 x30 x31 x32 x33 x40 x41 x42 x43 z : Rat) : det (edges ([[x00, x01, x02, x03], [x10, x11, x12, x13], [x20, x21, x22, x23], [x30, x31, x32, x33], [x40, x41, x42, x43]].set 1 (mid [x00, x01, x02, x03] [x10, x11, x12, x13] z))) = z * det (edges [[x00, x01, x02, x03], [x10, x11, x12, x13], [x20, x21, x22, x23], [x30, x31, x32, x33], [x40, x41, x42, x43]]) := by
  simp only [List.set_cons_zero, List.set_cons_succ, edges, sub, mid, List.map_cons, List.map_nil, List.zip_cons_cons, List.zip_nil_right, det]
  grind
theorem vol_4_0_1_0 (x00 x01 x02 x03 x10 x11 x12 x13 x20 x21 x22 x23 x30 x31 x32 x33 x40 x41 x42 x43 z : Rat) : det (edges ([[x00, x01, x02, x03], [x10, x11, x12, x13], [x20, x21, x22, x23], [x30, x31, x32, x33], [x40, x41, x42, x43]].set 0 (mid [x00, x01, x02, x03] [x10, x11, x12, x13] z))) = (1 - z) * det (edges [[x00, x01, x02, x03], [x10, x11, x12, x13], [x20, x21, x22, x23], [x30, x31, x32, x33], [x40, x41, x42, x43]]) := by
  simp only [List.set_cons_zero, List.set_cons_succ, edges, sub, mid, List.map_cons, List.map_nil, List.zip_cons_cons, List.zip_nil_right, det]
  grind
theorem vol_4_0_2_2 (x00 x01 x02 x03 x10 x11 x12 x13 x20 x21 x22 x23 x30 x31 x32 x33 x40 x41 x42 x43 z : Rat) : det (edges ([[x00, x01, x02, x03], [x10, x11, x12, x13], [x20, x21, x22, x23], [x30, x31, x32, x33], [x40, x41, x42, x43]].set 2 (mid [x00, x01, x02, x03] [x20, x21, x22, x23] z))) = z * det (edges [[x00, x01, x02, x03], [x10, x11, x12, x13], [x20, x21, x22, x23], [x30, x31, x32, x33], [x40, x41, x42, x43]]) := by
  simp only [List.set_cons_zero, List.set_cons_succ, edges, sub, mid, List.map_cons, List.map_nil, List.zip_cons_cons, List.zip_nil_right, det]
  grind
theorem vol_4_0_2_0 (x00 x01 x02 x03 x10 x11 x12 x13 x20 x21 x22 x23 x30 x31 x32 x33 x40 x41 x42 x43 z : Rat) : det (edges ([[x00, x01, x02, x03], [x10, x11, x12, x13], [x20, x21, x22, x23], [x30, x31, x32, x33], [x40, x41, x42, x43]].set 0 (mid [x00, x01, x02, x03] [x20, x21, x22, x23] z))) = (1 - z) * det (edges [[x00, x01, x02, x03], [x10, x11, x12, x13], [x20, x21, x22, x23], [x30, x31, x32, x33], [x40, x41, x42, x43]]) := by
  simp only [List.set_cons_zero, List.set_cons_succ, edges, sub, mid, List.map_cons, List.map_nil, List.zip_cons_cons, List.zip_nil_right, det]
  grind
theorem vol_4_0_3_3 (x00 x01 x02 x03 x10 x11 x12 x13 x20 x21 x22 x23 x30 x31 x32 x33 x40 x41 x42 x43 z : Rat) : det (edges ([[x00, x01, x02, x03], [x10, x11, x12, x13], [x20, x21, x22, x23], [x30, x31, x32, x33], [x40, x41, x42, x43]].set 3 (mid [x00, x01, x02, x03] [x30, x31, x32, x33] z))) = z * det (edges [[x00, x01, x02, x03], [x10, x11, x12, x13], [x20, x21, x22, x23], [x30, x31, x32, x33], [x40, x41, x42, x43]]) := by
  simp only [List.set_cons_zero, List.set_cons_succ, edges, sub, mid, List.map_cons, List.map_nil, List.zip_cons_cons, List.zip_nil_right, det]
  grind
theorem vol_4_0_3_0 (x00 x01 x02 x03 x10 x11 x12 x13 x20 x21 x22 x23 x30 x31 x32 x33 x40 x41 x42 x43 z : Rat) : det (edges ([[x00, x01, x02, x03], [x10, x11, x12, x13], [x20, x21, x22, x23], [x30, x31, x32, x33], [x40, x41, x42, x43]].set 0 (mid [x00, x01, x02, x03] [x30, x31, x32, x33] z))) = (1 - z) * det (edges [[x00, x01, x02, x03], [x10, x11, x12, x13], [x20, x21, x22, x23], [x30, x31, x32, x33], [x40, x41, x42, x43]]) := by
  simp only [List.set_cons_zero, List.set_cons_succ, edges, sub, mid, List.map_cons, List.map_nil, List.zip_cons_cons, List.zip_nil_right, det]
  grind
theorem vol_4_0_4_4 (x00 x01 x02 x03 x10 x11 x12 x13 x20 x21 x22 x23 x30 x31 x32 x33 x40 x41 x42 x43 z : Rat) : det (edges ([[x00, x01, x02, x03], [x10, x11, x12, x13], [x20, x21, x22, x23], [x30, x31, x32, x33], [x40, x41, x42, x43]].set 4 (mid [x00, x01, x02, x03] [x40, x41, x42, x43] z))) = z * det (edges [[x00, x01, x02, x03], [x10, x11, x12, x13], [x20, x21, x22, x23], [x30, x31, x32, x33], [x40, x41, x42, x43]]) := by
  simp only [List.set_cons_zero, List.set_cons_succ, edges, sub, mid, List.map_cons, List.map_nil, List.zip_cons_cons, List.zip_nil_right, det]
  grind
theorem vol_4_0_4_0 (x00 x01 x02 x03 x10 x11 x12 x13 x20 x21 x22 x23 x30 x31 x32 x33 x40 x41 x42 x43 z : Rat) : det (edges ([[x00, x01, x02, x03], [x10, x11, x12, x13], [x20, x21, x22, x23], [x30, x31, x32, x33], [x40, x41, x42, x43]].set 0 (mid [x00, x01, x02, x03] [x40, x41, x42, x43] z))) = (1 - z) * det (edges [[x00, x01, x02, x03], [x10, x11, x12, x13], [x20, x21, x22, x23], [x30, x31, x32, x33], [x40, x41, x42, x43]]) := by
  simp only [List.set_cons_zero, List.set_cons_succ, edges, sub, mid, List.map_cons, List.map_nil, List.zip_cons_cons, List.zip_nil_right, det]
  grind
theorem vol_4_1_2_2 (x00 x01 x02 x03 x10 x11 x12 x13 x20 x21 x22 x23 x30 x31 x32 x33 x40 x41 x42 x43 z : Rat) : det (edges ([[x00, x01, x02, x03], [x10, x11, x12, x13], [x20, x21, x22, x23], [x30, x31, x32, x33], [x40, x41, x42, x43]].set 2 (mid [x10, x11, x12, x13] [x20, x21, x22, x23] z))) = z * det (edges [[x00, x01, x02, x03], [x10, x11, x12, x13], [x20, x21, x22, x23], [x30, x31, x32, x33], [x40, x41, x42, x43]]) := by
  simp only [List.set_cons_zero, List.set_cons_succ, edges, sub, mid, List.map_cons, List.map_nil, List.zip_cons_cons, List.zip_nil_right, det]
  grind
theorem vol_4_1_2_1 (x00 x01 x02 x03 x10 x11 x12 x13 x20 x21 x22 x23 x30 x31 x32 x33 x40 x41 x42 x43 z : Rat) : det (edges ([[x00, x01, x02, x03], [x10, x11, x12, x13], [x20, x21, x22, x23], [x30, x31, x32, x33], [x40, x41, x42, x43]].set 1 (mid [x10, x11, x12, x13] [x20, x21, x22, x23] z))) = (1 - z) * det (edges [[x00, x01, x02, x03], [x10, x11, x12, x13], [x20, x21, x22, x23], [x30, x31, x32, x33], [x40, x41, x42, x43]]) := by
  simp only [List.set_cons_zero, List.set_cons_succ, edges, sub, mid, List.map_cons, List.map_nil, List.zip_cons_cons, List.zip_nil_right, det]
  grind
theorem vol_4_1_3_3 (x00 x01 x02 x03 x10 x11 x12 x13 x20 x21 x22 x23 x30 x31 x32 x33 x40 x41 x42 x43 z : Rat) : det (edges ([[x00, x01, x02, x03], [x10, x11, x12, x13], [x20, x21, x22, x23], [x30, x31, x32, x33], [x40, x41, x42, x43]].set 3 (mid [x10, x11, x12, x13] [x30, x31, x32, x33] z))) = z * det (edges [[x00, x01, x02, x03], [x10, x11, x12, x13], [x20, x21, x22, x23], [x30, x31, x32, x33], [x40, x41, x42, x43]]) := by
  simp only [List.set_cons_zero, List.set_cons_succ, edges, sub, mid, List.map_cons, List.map_nil, List.zip_cons_cons, List.zip_nil_right, det]
  grind
theorem vol_4_1_3_1 (x00 x01 x02 x03 x10 x11 x12 x13 x20 x21 x22 x23 x30 x31 x32 x33 x40 x41 x42 x43 z : Rat) : det (edges ([[x00, x01, x02, x03], [x10, x11, x12, x13], [x20, x21, x22, x23], [x30, x31, x32, x33], [x40, x41, x42, x43]].set 1 (mid [x10, x11, x12, x13] [x30, x31, x32, x33] z))) = (1 - z) * det (edges [[x00, x01, x02, x03], [x10, x11, x12, x13], [x20, x21, x22, x23], [x30, x31, x32, x33], [x40, x41, x42, x43]]) := by
  simp only [List.set_cons_zero, List.set_cons_succ, edges, sub, mid, List.map_cons, List.map_nil, List.zip_cons_cons, List.zip_nil_right, det]
  grind
theorem vol_4_1_4_4 (x00 x01 x02 x03 x10 x11 x12 x13 x20 x21 x22 x23 x30 x31 x32 x33 x40 x41 x42 x43 z : Rat) : det (edges ([[x00, x01, x02, x03], [x10, x11, x12, x13], [x20, x21, x22, x23], [x30, x31, x32, x33], [x40, x41, x42, x43]].set 4 (mid [x10, x11, x12, x13] [x40, x41, x42, x43] z))) = z * det (edges [[x00, x01, x02, x03], [x10, x11, x12, x13], [x20, x21, x22, x23], [x30, x31, x32, x33], [x40, x41, x42, x43]]) := by
  simp only [List.set_cons_zero, List.set_cons_succ, edges, sub, mid, List.map_cons, List.map_nil, List.zip_cons_cons, List.zip_nil_right, det]
  grind
theorem vol_4_1_4_1 (x00 x01 x02 x03 x10 x11 x12 x13 x20 x21 x22 x23 x30 x31 x32 x33 x40 x41 x42 x43 z : Rat) : det (edges ([[x00, x01, x02, x03], [x10, x11, x12, x13], [x20, x21, x22, x23], [x30, x31, x32, x33], [x40, x41, x42, x43]].set 1 (mid [x10, x11, x12, x13] [x40, x41, x42, x43] z))) = (1 - z) * det (edges [[x00, x01, x02, x03], [x10, x11, x12, x13], [x20, x21, x22, x23], [x30, x31, x32, x33], [x40, x41, x42, x43]]) := by
  simp only [List.set_cons_zero, List.set_cons_succ, edges, sub, mid, List.map_cons, List.map_nil, List.zip_cons_cons, List.zip_nil_right, det]
  grind
theorem vol_4_2_3_3 (x00 x01 x02 x03 x10 x11 x12 x13 x20 x21 x22 x23 x30 x31 x32 x33 x40 x41 x42 x43 z : Rat) : det (edges ([[x00, x01, x02, x03], [x10, x11, x12, x13], [x20, x21, x22, x23], [x30, x31, x32, x33], [x40, x41, x42, x43]].set 3 (mid [x20, x21, x22, x23] [x30, x31, x32, x33] z))) = z * det (edges [[x00, x01, x02, x03], [x10, x11, x12, x13], [x20, x21, x22, x23], [x30, x31, x32, x33], [x40, x41, x42, x43]]) := by
  simp only [List.set_cons_zero, List.set_cons_succ, edges, sub, mid, List.map_cons, List.map_nil, List.zip_cons_cons, List.zip_nil_right, det]
  grind
theorem vol_4_2_3_2 (x00 x01 x02 x03 x10 x11 x12 x13 x20 x21 x22 x23 x30 x31 x32 x33 x40 x41 x42 x43 z : Rat) : det (edges ([[x00, x01, x02, x03], [x10, x11, x12, x13], [x20, x21, x22, x23], [x30, x31, x32, x33], [x40, x41, x42, x43]].set 2 (mid [x20, x21, x22, x23] [x30, x31, x32, x33] z))) = (1 - z) * det (edges [[x00, x01, x02, x03], [x10, x11, x12, x13], [x20, x21, x22, x23], [x30, x31, x32, x33], [x40, x41, x42, x43]]) := by
  simp only [List.set_cons_zero, List.set_cons_succ, edges, sub, mid, List.map_cons, List.map_nil, List.zip_cons_cons, List.zip_nil_right, det]
  grind
theorem vol_4_2_4_4 (x00 x01 x02 x03 x10 x11 x12 x13 x20 x21 x22 x23 x30 x31 x32 x33 x40 x41 x42 x43 z : Rat) : det (edges ([[x00, x01, x02, x03], [x10, x11, x12, x13], [x20, x21, x22, x23], [x30, x31, x32, x33], [x40, x41, x42, x43]].set 4 (mid [x20, x21, x22, x23] [x40, x41, x42, x43] z))) = z * det (edges [[x00, x01, x02, x03], [x10, x11, x12, x13], [x20, x21, x22, x23], [x30, x31, x32, x33], [x40, x41, x42, x43]]) := by
  simp only [List.set_cons_zero, List.set_cons_succ, edges, sub, mid, List.map_cons, List.map_nil, List.zip_cons_cons, List.zip_nil_right, det]
  grind
theorem vol_4_2_4_2 (x00 x01 x02 x03 x10 x11 x12 x13 x20 x21 x22 x23 x30 x31 x32 x33 x40 x41 x42 x43 z : Rat) : det (edges ([[x00, x01, x02, x03], [x10, x11, x12, x13], [x20, x21, x22, x23], [x30, x31, x32, x33], [x40, x41, x42, x43]].set 2 (mid [x20, x21, x22, x23] [x40, x41, x42, x43] z))) = (1 - z) * det (edges [[x00, x01, x02, x03], [x10, x11, x12, x13], [x20, x21, x22, x23], [x30, x31, x32, x33], [x40, x41, x42, x43]]) := by
  simp only [List.set_cons_zero, List.set_cons_succ, edges, sub, mid, List.map_cons, List.map_nil, List.zip_cons_cons, List.zip_nil_right, det]
  grind
theorem vol_4_3_4_4 (x00 x01 x02 x03 x10 x11 x12 x13 x20 x21 x22 x23 x30 x31 x32 x33 x40 x41 x42 x43 z : Rat) : det (edges ([[x00, x01, x02, x03], [x10, x11, x12, x13], [x20, x21, x22, x23], [x30, x31, x32, x33], [x40, x41, x42, x43]].set 4 (mid [x30, x31, x32, x33] [x40, x41, x42, x43] z))) = z * det (edges [[x00, x01, x02, x03], [x10, x11, x12, x13], [x20, x21, x22, x23], [x30, x31, x32, x33], [x40, x41, x42, x43]]) := by
  simp only [List.set_cons_zero, List.set_cons_succ, edges, sub, mid, List.map_cons, List.map_nil, List.zip_cons_cons, List.zip_nil_right, det]
  grind
theorem vol_4_3_4_3 (x00 x01 x02 x03 x10 x11 x12 x13 x20 x21 x22 x23 x30 x31 x32 x33 x40 x41 x42 x43 z : Rat) : det (edges ([[x00, x01, x02, x03], [x10, x11, x12, x13], [x20, x21, x22, x23], [x30, x31, x32, x33], [x40, x41, x42, x43]].set 3 (mid [x30, x31, x32, x33] [x40, x41, x42, x43] z))) = (1 - z) * det (edges [[x00, x01, x02, x03], [x10, x11, x12, x13], [x20, x21, x22, x23], [x30, x31, x32, x33], [x40, x41, x42, x43]]) := by
  simp only [List.set_cons_zero, List.set_cons_succ, edges, sub, mid, List.map_cons, List.map_nil, List.zip_cons_cons, List.zip_nil_right, det]
  grind
theorem det_cut {n : Nat} (hn : n ≤ 4) {cs : List (List Rat)} (hl : cs.length = n + 1) (hr : ∀ c ∈ cs, c.length = n) {i j : Nat} (hij : i < j) {p q : List Rat} (hi : cs[i]? = some p) (hj : cs[j]? = some q) (z : Rat) :
    det (edges (cs.set j (mid p q z))) = z * det (edges cs) ∧ det (edges (cs.set i (mid p q z))) = (1 - z) * det (edges cs) := by
  have hj' := (List.getElem?_eq_some_iff.mp hj).1
  match n, hn with
  | 0, _ => omega
  | 1, _ =>
    obtain ⟨c0, c1, rfl⟩ := l2 hl
    obtain ⟨x00, rfl⟩ := l1 (hr c0 (by simp))
    obtain ⟨x10, rfl⟩ := l1 (hr c1 (by simp))
    have : (i = 0 ∧ j = 1) := by simp at hj'; omega
    rcases this with ⟨rfl, rfl⟩
    · cases hi; cases hj; exact ⟨vol_1_0_1_1 _ _ _, vol_1_0_1_0 _ _ _⟩
  | 2, _ =>
    obtain ⟨c0, c1, c2, rfl⟩ := l3 hl
    obtain ⟨x00, x01, rfl⟩ := l2 (hr c0 (by simp))
    obtain ⟨x10, x11, rfl⟩ := l2 (hr c1 (by simp))
    obtain ⟨x20, x21, rfl⟩ := l2 (hr c2 (by simp))
    have : (i = 0 ∧ j = 1) ∨ (i = 0 ∧ j = 2) ∨ (i = 1 ∧ j = 2) := by simp at hj'; omega
    rcases this with ⟨rfl, rfl⟩ | ⟨rfl, rfl⟩ | ⟨rfl, rfl⟩
    · cases hi; cases hj; exact ⟨vol_2_0_1_1 _ _ _ _ _ _ _, vol_2_0_1_0 _ _ _ _ _ _ _⟩
    · cases hi; cases hj; exact ⟨vol_2_0_2_2 _ _ _ _ _ _ _, vol_2_0_2_0 _ _ _ _ _ _ _⟩
    · cases hi; cases hj; exact ⟨vol_2_1_2_2 _ _ _ _ _ _ _, vol_2_1_2_1 _ _ _ _ _ _ _⟩
  | 3, _ =>
    obtain ⟨c0, c1, c2, c3, rfl⟩ := l4 hl
    obtain ⟨x00, x01, x02, rfl⟩ := l3 (hr c0 (by simp))
    obtain ⟨x10, x11, x12, rfl⟩ := l3 (hr c1 (by simp))
    obtain ⟨x20, x21, x22, rfl⟩ := l3 (hr c2 (by simp))
    obtain ⟨x30, x31, x32, rfl⟩ := l3 (hr c3 (by simp))
    have : (i = 0 ∧ j = 1) ∨ (i = 0 ∧ j = 2) ∨ (i = 0 ∧ j = 3) ∨ (i = 1 ∧ j = 2) ∨ (i = 1 ∧ j = 3) ∨ (i = 2 ∧ j = 3) := by simp at hj'; omega
    rcases this with ⟨rfl, rfl⟩ | ⟨rfl, rfl⟩ | ⟨rfl, rfl⟩ | ⟨rfl, rfl⟩ | ⟨rfl, rfl⟩ | ⟨rfl, rfl⟩
    · cases hi; cases hj; exact ⟨vol_3_0_1_1 _ _ _ _ _ _ _ _ _ _ _ _ _, vol_3_0_1_0 _ _ _ _ _ _ _ _ _ _ _ _ _⟩
    · cases hi; cases hj; exact ⟨vol_3_0_2_2 _ _ _ _ _ _ _ _ _ _ _ _ _, vol_3_0_2_0 _ _ _ _ _ _ _ _ _ _ _ _ _⟩
    · cases hi; cases hj; exact ⟨vol_3_0_3_3 _ _ _ _ _ _ _ _ _ _ _ _ _, vol_3_0_3_0 _ _ _ _ _ _ _ _ _ _ _ _ _⟩
    · cases hi; cases hj; exact ⟨vol_3_1_2_2 _ _ _ _ _ _ _ _ _ _ _ _ _, vol_3_1_2_1 _ _ _ _ _ _ _ _ _ _ _ _ _⟩
    · cases hi; cases hj; exact ⟨vol_3_1_3_3 _ _ _ _ _ _ _ _ _ _ _ _ _, vol_3_1_3_1 _ _ _ _ _ _ _ _ _ _ _ _ _⟩
    · cases hi; cases hj; exact ⟨vol_3_2_3_3 _ _ _ _ _ _ _ _ _ _ _ _ _, vol_3_2_3_2 _ _ _ _ _ _ _ _ _ _ _ _ _⟩
  | 4, _ =>
    obtain ⟨c0, c1, c2, c3, c4, rfl⟩ := l5 hl
    obtain ⟨x00, x01, x02, x03, rfl⟩ := l4 (hr c0 (by simp))
    obtain ⟨x10, x11, x12, x13, rfl⟩ := l4 (hr c1 (by simp))
    obtain ⟨x20, x21, x22, x23, rfl⟩ := l4 (hr c2 (by simp))
    obtain ⟨x30, x31, x32, x33, rfl⟩ := l4 (hr c3 (by simp))
    obtain ⟨x40, x41, x42, x43, rfl⟩ := l4 (hr c4 (by simp))
    have : (i = 0 ∧ j = 1) ∨ (i = 0 ∧ j = 2) ∨ (i = 0 ∧ j = 3) ∨ (i = 0 ∧ j = 4) ∨ (i = 1 ∧ j = 2) ∨ (i = 1 ∧ j = 3) ∨ (i = 1 ∧ j = 4) ∨ (i = 2 ∧ j = 3) ∨ (i = 2 ∧ j = 4) ∨ (i = 3 ∧ j = 4) := by simp at hj'; omega
    rcases this with ⟨rfl, rfl⟩ | ⟨rfl, rfl⟩ | ⟨rfl, rfl⟩ | ⟨rfl, rfl⟩ | ⟨rfl, rfl⟩ | ⟨rfl, rfl⟩ | ⟨rfl, rfl⟩ | ⟨rfl, rfl⟩ | ⟨rfl, rfl⟩ | ⟨rfl, rfl⟩
    · cases hi; cases hj; exact ⟨vol_4_0_1_1 _ _ _ _ _ _ _ _ _ _ _ _ _ _ _ _ _ _ _ _ _, vol_4_0_1_0 _ _ _ _ _ _ _ _ _ _ _ _ _ _ _ _ _ _ _ _ _⟩
    · cases hi; cases hj; exact ⟨vol_4_0_2_2 _ _ _ _ _ _ _ _ _ _ _ _ _ _ _ _ _ _ _ _ _, vol_4_0_2_0 _ _ _ _ _ _ _ _ _ _ _ _ _ _ _ _ _ _ _ _ _⟩
    · cases hi; cases hj; exact ⟨vol_4_0_3_3 _ _ _ _ _ _ _ _ _ _ _ _ _ _ _ _ _ _ _ _ _, vol_4_0_3_0 _ _ _ _ _ _ _ _ _ _ _ _ _ _ _ _ _ _ _ _ _⟩
    · cases hi; cases hj; exact ⟨vol_4_0_4_4 _ _ _ _ _ _ _ _ _ _ _ _ _ _ _ _ _ _ _ _ _, vol_4_0_4_0 _ _ _ _ _ _ _ _ _ _ _ _ _ _ _ _ _ _ _ _ _⟩
    · cases hi; cases hj; exact ⟨vol_4_1_2_2 _ _ _ _ _ _ _ _ _ _ _ _ _ _ _ _ _ _ _ _ _, vol_4_1_2_1 _ _ _ _ _ _ _ _ _ _ _ _ _ _ _ _ _ _ _ _ _⟩
    · cases hi; cases hj; exact ⟨vol_4_1_3_3 _ _ _ _ _ _ _ _ _ _ _ _ _ _ _ _ _ _ _ _ _, vol_4_1_3_1 _ _ _ _ _ _ _ _ _ _ _ _ _ _ _ _ _ _ _ _ _⟩
    · cases hi; cases hj; exact ⟨vol_4_1_4_4 _ _ _ _ _ _ _ _ _ _ _ _ _ _ _ _ _ _ _ _ _, vol_4_1_4_1 _ _ _ _ _ _ _ _ _ _ _ _ _ _ _ _ _ _ _ _ _⟩
    · cases hi; cases hj; exact ⟨vol_4_2_3_3 _ _ _ _ _ _ _ _ _ _ _ _ _ _ _ _ _ _ _ _ _, vol_4_2_3_2 _ _ _ _ _ _ _ _ _ _ _ _ _ _ _ _ _ _ _ _ _⟩
    · cases hi; cases hj; exact ⟨vol_4_2_4_4 _ _ _ _ _ _ _ _ _ _ _ _ _ _ _ _ _ _ _ _ _, vol_4_2_4_2 _ _ _ _ _ _ _ _ _ _ _ _ _ _ _ _ _ _ _ _ _⟩
    · cases hi; cases hj; exact ⟨vol_4_3_4_4 _ _ _ _ _ _ _ _ _ _ _ _ _ _ _ _ _ _ _ _ _, vol_4_3_4_3 _ _ _ _ _ _ _ _ _ _ _ _ _ _ _ _ _ _ _ _ _⟩
end K22
namespace K22
open PySem PySem.Spec PyProof.Rows L2 Z
def rowL (r : List Rat) : D := .list (r.map frac)
theorem ix_head {r : List Rat} (h : r ≠ []) : ixD (rowL r) (.int 0) = some (.val (frac (r.headD 0))) := by
  cases r with
  | nil => exact absurd rfl h
  | cons a r => exact ixL_0
theorem take1 {α : Type} (xs : List α) : cutL xs none (some (1 : Int)) = xs.take 1 := by
  unfold cutL
  rw [HT.sIx_none]
  have : HT.sIx xs.length xs.length (some ((1 : Nat) : Int)) = min 1 xs.length := HT.sIx_nat _ _ _
  have e : (1 : Int) = ((1 : Nat) : Int) := rfl
  rw [e, this]
  cases xs with
  | nil => rfl
  | cons x xs => simp
def piv (rows : List (List Rat)) : List (Nat × List Rat) := (idx 0 rows).filter fun p => decide (p.2.headD 0 ≠ 0)
theorem s_pivot_of {rows : List (List Rat)} (hr : ∀ r ∈ rows, r ≠ []) (hl : rows.length ≤ 1000) {st : Store} : m_pivot_of [.val (.list (rows.map rowL))] st = .ok (.own (((piv rows).map fun p => .int (p.1 : Int)).take 1)) st := by
  have hs := sizeLine_big
  have hc : compLoop [1, 2] (tTupG 2 (tConsG (tName 1) (tConsG (tName 2) tNilG))) (opCmp neD (opLk ixD (eVar 2) (eC (.int 0))) (eC con_ZERO)) el_pivot_of_1 ((idx 0 rows).map fun p => .tuple [.int (p.1 : Int), rowL p.2]) [] ⟨[some (.val (.list (rows.map rowL))), none, none], st⟩ = .ok ([] ++ (piv rows).map fun p => .int (p.1 : Int)) ⟨[some (.val (.list (rows.map rowL))), none, none], st⟩ := by
    refine compLoop_filter (α := Nat × List Rat) (fun p => .tuple [.int (p.1 : Int), rowL p.2]) (fun p => .int (p.1 : Int)) (fun p => decide (p.2.headD 0 ≠ 0)) _ _ (by rw [idx_length]; simp; omega) fun p hp => ?_
    obtain ⟨i, h1, h2⟩ := idx_mem hp
    have hx := ix_head (hr p.2 (List.mem_of_getElem? h2))
    refine ⟨⟨[some (.val (.list (rows.map rowL))), some (.val (.int (p.1 : Int))), some (.val (rowL p.2))], st⟩, ⟨[some (.val (.list (rows.map rowL))), some (.val (.int (p.1 : Int))), some (.val (rowL p.2))], st⟩, by simp, ?_, by simp, fun _ => by simp [el_pivot_of_1]⟩
    simp [hx, con0]
  have hn := numbered_map rowL rows 0
  have hn' : enumW [.val (.list (rows.map rowL))] = some ((idx 0 rows).map fun p => .tuple [.int (p.1 : Int), rowL p.2]) := by
    show (itemsD (.val (.list (rows.map rowL)))).map (Z.numbered 0) = _
    rw [itemsD_list, ← hn]
    rfl
  simp [m_pivot_of, b_pivot_of, fnOf_app, hn']
  rw [hc]
  simp [take1]
theorem s_without_first {H : Nat} {r p : List Rat} (hr : HtA H r) (hp : HtA H p) (lr : 1 ≤ r.length) (lp : p.length = r.length) (l5 : r.length ≤ 5) (h0 : p.headD 0 ≠ 0) (hH : 4 * H ≤ 7000) {st : Store} :
    m_without_first [.val (rowL r), .val (rowL p)] st = .ok (.own ((without r p).map frac)) st ∧ HtA (4 * H + 1) (without r p) := by
  have hs := sizeLine_big
  obtain ⟨a, r', rfl⟩ : ∃ a r', r = a :: r' := by cases r with | nil => simp at lr | cons a r' => exact ⟨a, r', rfl⟩
  obtain ⟨b, p', rfl⟩ : ∃ a r', p = a :: r' := by cases p with | nil => simp at lp | cons a r' => exact ⟨a, r', rfl⟩
  have ha := hr a (List.mem_cons_self ..)
  have hb := hp b (List.mem_cons_self ..)
  have h0' : b ≠ 0 := h0
  have e1 := s_fraction_over ha hb h0' (by omega) (st := st)
  have hq := ht_div ha hb h0'
  have hlr : r'.length + 1 ≤ 5 := l5
  have x1 : ixD (rowL (a :: r')) (.int 0) = some (.val (frac a)) := ixL_0
  have x2 : ixD (rowL (b :: p')) (.int 0) = some (.val (frac b)) := ixL_0
  have c1 : cutL ((a :: r').map frac) (some 1) none = r'.map frac := by
    have := cut_from ((a :: r').map frac) (k := 1) (by simp)
    exact this
  have c2 : cutL ((b :: p').map frac) (some 1) none = p'.map frac := by
    have := cut_from ((b :: p').map frac) (k := 1) (by simp)
    exact this
  have hc : compLoop [3, 4] (tTupG 2 (tConsG (tName 3) (tConsG (tName 4) tNilG))) cTrue el_without_first_1 ((r'.zip p').map fun x => .tuple [frac x.1, frac x.2]) [] ⟨[some (.val (rowL (a :: r'))), some (.val (rowL (b :: p'))), some (.val (frac (a / b))), none, none], st⟩ = .ok ([] ++ (r'.zip p').map fun x => frac (x.1 - a / b * x.2)) ⟨[some (.val (rowL (a :: r'))), some (.val (rowL (b :: p'))), some (.val (frac (a / b))), none, none], st⟩ := by
    refine compLoop_via _ _ _ _ (by simp; omega) fun x hx => ?_
    have hx' := List.of_mem_zip (a := x.1) (b := x.2) hx
    have g1 := hr _ (List.mem_cons_of_mem _ hx'.1)
    have g2 := hp _ (List.mem_cons_of_mem _ hx'.2)
    have e2 := s_fraction_times hq g2 (by omega) (st := st)
    have e3 := s_fraction_less g1 (ht_mul hq g2) (by omega) (st := st)
    simp [el_without_first_1, e2, e3]
  have hm : ((r'.zip p').map fun x => frac (x.1 - a / b * x.2)) = (without (a :: r') (b :: p')).map frac := by simp [without]
  rw [hm] at hc
  have z1 : slD (rowL (a :: r')) (some 1) none = some (.own (r'.map frac)) := by rw [← c1]; rfl
  have z2 : slD (rowL (b :: p')) (some 1) none = some (.own (p'.map frac)) := by rw [← c2]; rfl
  refine ⟨?_, fun y hy => ?_⟩
  · simp [m_without_first, b_without_first, fnOf_app, x1, x2, e1, z1, z2, zipW, pairs_map]
    rw [hc]
    simp
  · obtain ⟨x, hx, rfl⟩ := List.mem_map.mp hy
    have hx' := List.of_mem_zip (a := x.1) (b := x.2) hx
    have g1 := hr _ (List.mem_cons_of_mem _ hx'.1)
    have g2 := hp _ (List.mem_cons_of_mem _ hx'.2)
    exact (ht_sub g1 (ht_mul hq g2)).mono (by omega)
end K22
namespace K22
open PySem PySem.Spec PyProof.Rows L2 Z
theorem nice_plain (n : Nat) : ∀ d : D, Nice n d → d.canLay0 = true ∧ d.depth ≤ n := by
  induction n with
  | zero => exact fun _ h => h.elim
  | succ n ih =>
    have all : ∀ ds : List D, (∀ d ∈ ds, Nice n d) → PyData.canLayAll0 ds = true ∧ PyData.depthAll ds ≤ n := fun ds => by
      induction ds with
      | nil => exact fun _ => ⟨by simp [PyData.canLayAll0], by simp [PyData.depthAll]⟩
      | cons d ds ihl =>
        intro h
        obtain ⟨a1, a2⟩ := ih d (h d (List.mem_cons_self ..))
        obtain ⟨b1, b2⟩ := ihl fun x hx => h x (List.mem_cons_of_mem _ hx)
        exact ⟨by simp [PyData.canLayAll0, a1, b1], by simp only [PyData.depthAll]; omega⟩
    intro d h
    cases d with
    | int i => exact ⟨by simp [PyData.canLay0], by simp [PyData.depth]⟩
    | tuple ds =>
      obtain ⟨a, b⟩ := all ds h.2
      exact ⟨by simpa [PyData.canLay0] using a, by simp only [PyData.depth]; omega⟩
    | list ds =>
      obtain ⟨a, b⟩ := all ds h.2
      exact ⟨by simpa [PyData.canLay0] using a, by simp only [PyData.depth]; omega⟩
    | _ => exact h.elim
theorem nice_shaped {n : Nat} (hn : n ≤ 64) {d : D} (h : Nice n d) : SeqAt.shaped d = true := by
  obtain ⟨a, b⟩ := nice_plain n d h
  unfold SeqAt.shaped
  rw [a, Bool.true_and]
  exact decide_eq_true (by omega)
theorem nice_fr {n : Nat} {r : List Rat} (hl : r.length ≤ 1000) : Nice (n + 3) (rowL r) := ⟨by simpa using hl, fun d hd => by
  obtain ⟨q, _, rfl⟩ := List.mem_map.mp hd
  exact nice_frac⟩
theorem nice_rows {rows : List (List Rat)} (hl : rows.length ≤ 1000) (hr : ∀ r ∈ rows, r.length ≤ 1000) : Nice 4 (.list (rows.map rowL)) := ⟨by simpa using hl, fun d hd => by
  obtain ⟨r, h, rfl⟩ := List.mem_map.mp hd
  exact nice_fr (hr r h)⟩
theorem ne_nil {ds : List D} (h : SeqAt.shaped (.list ds) = true) : neD (.list ds) (.list []) = some (!ds.isEmpty) := by
  have k : SeqAt.shaped (.list []) = true := by decide
  unfold neD
  rw [h, k]
  cases ds <;> simp [PyData.eqv, PyData.eqvAll]
theorem eq_nil {ds : List D} (h : SeqAt.shaped (.list ds) = true) : eqD (.list ds) (.list []) = some ds.isEmpty := by
  have k : SeqAt.shaped (.list []) = true := by decide
  unfold eqD
  rw [h, k]
  cases ds <;> simp [PyData.eqv, PyData.eqvAll]
theorem shaped_ints {ns : List Nat} (h : ns.length ≤ 1000) : SeqAt.shaped (.list (ns.map fun (k : Nat) => PyData.int (k : Int))) = true := nice_shaped (n := 2) (by decide) ⟨by simpa using h, fun d hd => by
  obtain ⟨q, _, rfl⟩ := List.mem_map.mp hd
  trivial⟩
/-! ### the loop -/
def dsC : M Bool := opCmp neD (eVar 0) (eLst aNil)
def dsB : M SR := seq (sAsg 2 (eCallS 1 m_pivot_of (aCons (eVar 0) aNil)))
      (seq (sIf (opCmp eqD (eVar 2) (eLst aNil)) (sRet (eC con_ZERO)) sNext)
      (seq (sAsg 3 (opLk ixD (eVar 0) (opLk ixD (eVar 2) (eC (.int 0)))))
      (seq (sAsg 1 (eCallS 2 m_fraction_times (aCons (eVar 1) (aCons (opLk ixD (eVar 3) (eC (.int 0))) aNil))))
      (sAsg 0 (eLc [4, 5] (srcA enumW (aCons (eVar 0) aNil)) (tTupG 2 (tConsG (tName 4) (tConsG (tName 5) tNilG))) (opCmp neD (eVar 4) (opLk ixD (eVar 2) (eC (.int 0)))) el_determinant_size_1)))))
def dsR : M SR := sRet (eCallS 2 m_fraction (aCons (op1 absD (opLk ixD (eVar 1) (eC (.int 0)))) (aCons (opLk ixD (eVar 1) (eC (.int 1))) aNil)))
theorem b_ds : b_determinant_size = seq (sAsg 1 (eC con_ONE)) (seq (whileF dsC dsB 10) dsR) := rfl
inductive Rw (rows : List (List Rat)) : W → Prop
  | val : Rw rows (.val (.list (rows.map rowL)))
  | own : Rw rows (.own (rows.map rowL))
theorem abs_frac {q : Rat} (hz : Sz (q.den : Int)) {st : Store} : m_fraction [.val (.int (if q.num < 0 then -q.num else q.num)), .val (.int q.den)] st = .ok (.val (frac (absR q))) st := by
  have h := s_fraction (a := if q.num < 0 then -q.num else q.num) q.den_nz hz (st := st)
  have e : Rat.divInt (if q.num < 0 then -q.num else q.num) (q.den : Int) = absR q := by
    have n : (q.num < 0) = (q < 0) := by
      have := Rat.num_nonneg (q := q)
      have h2 : (0 ≤ q) = ¬ (q < 0) := propext Rat.not_lt.symm
      rw [h2] at this
      exact propext ⟨fun z => Decidable.byContradiction fun w => by have := this.mpr w; omega, fun z => Decidable.byContradiction fun w => (this.mp (by omega)) z⟩
    unfold absR
    by_cases h : q < 0
    · rw [if_pos h, if_pos (by rw [n]; exact h)]
      conv => rhs; rw [← Rat.num_divInt_den q]
      rw [Rat.neg_divInt]
    · rw [if_neg h, if_neg (by rw [n]; exact h)]
      exact Rat.num_divInt_den q
  rw [e] at h
  exact h
theorem idx_get {α : Type} {x : α} : ∀ {xs : List α} {k i : Nat}, xs[i]? = some x → (k + i, x) ∈ idx k xs
  | [], k, i, h => by simp at h
  | y :: ys, k, 0, h => by
    have : y = x := by simpa using h
    subst this
    exact List.mem_cons_self ..
  | y :: ys, k, i + 1, h => by
    have := idx_get (k := k + 1) (i := i) (x := x) (xs := ys) (by simpa using h)
    rw [show k + 1 + i = k + (i + 1) by omega] at this
    exact List.mem_cons_of_mem _ this
theorem while_next {c : M Bool} {b : M SR} {m : Nat} {s s1 s2 : S} (h1 : c s = .ok true s1) (h2 : b s1 = .ok .next s2) : whileF c b (m + 1) s = whileF c b m s2 := by
  rw [whileF_succ, h1, runK_ok, if_pos rfl, bind_of h2]
theorem while_ret {c : M Bool} {b : M SR} {m : Nat} {s s1 s2 : S} {w : W} (h1 : c s = .ok true s1) (h2 : b s1 = .ok (.ret w) s2) : whileF c b (m + 1) s = .ok (.ret w) s2 := by
  rw [whileF_succ, h1, runK_ok, if_pos rfl, bind_of h2]
  rfl
theorem bind_congr {α β : Type} {m m' : M α} {k : α → M β} {s s' : S} (h : m s = m' s') : (m >>= k) s = (m' >>= k) s' := by
  rw [bind_app, bind_app, h]
theorem ds_loop : ∀ (n : Nat) (rows : List (List Rat)) (f : Rat) (fuel h F : Nat) (w : W) (x y : Option W) (st : Store), n ≤ 4 → Sq n rows → (∀ r ∈ rows, HtA h r) → Ht F f → n < fuel → (h + 1) * 4 ^ n ≤ 7000 → F + 1750 * n ≤ 7500 → Rw rows w →
    outR ((whileF dsC dsB fuel >>= fun r => match r with | .next => dsR | r => Pure.pure r) ⟨[some w, some (.val (frac f)), x, y, none, none], st⟩) = .ok (.val (frac (absR f * absR (det rows)))) st
  | 0, rows, f, fuel, h, F, w, x, y, st, _, sq, _, hf, hfu, _, hF, hw => by
    obtain ⟨m, rfl⟩ : ∃ m, fuel = m + 1 := ⟨fuel - 1, by omega⟩
    have : rows = [] := List.length_eq_zero_iff.mp sq.len
    subst this
    have hn : neD (.list []) (.list []) = some false := by decide
    have hz := sizeLine_big
    have ha := abs_frac (q := f) (hf.szd (by omega)) (st := st)
    have e1 : absR f * absR (det []) = absR f := by
      have h1 : absR (1 : Rat) = 1 := absR_of (by decide)
      show absR f * absR 1 = _
      rw [h1, Rat.mul_one]
    rw [e1]
    rw [bind_app, whileF_succ]
    cases hw <;> simp [dsC, hn, dsR, ha]
  | n + 1, rows, f, fuel, h, F, w, x, y, st, hn4, sq, hh, hf, hfu, hb, hF, hw => by
    obtain ⟨m, rfl⟩ : ∃ m, fuel = m + 1 := ⟨fuel - 1, by omega⟩
    have hz := sizeLine_big
    have hlen := sq.len
    have hne : rows ≠ [] := fun z => by rw [z] at hlen; simp at hlen
    have hrl : ∀ r ∈ rows, r.length ≤ 1000 := fun r hr => by rw [sq.row r hr]; omega
    have sh := nice_shaped (by decide) (nice_rows (rows := rows) (by omega) hrl)
    have hn := ne_nil sh
    have hem : (rows.map rowL).isEmpty = false := by cases rows with | nil => exact absurd rfl hne | cons _ _ => rfl
    rw [hem] at hn
    have hC : dsC ⟨[some w, some (.val (frac f)), x, y, none, none], st⟩ = .ok true ⟨[some w, some (.val (frac f)), x, y, none, none], st⟩ := by
      cases hw <;> simp [dsC, hn]
    have hp := s_pivot_of (rows := rows) (fun r hr z => by have := sq.row r hr; rw [z] at this; simp at this) (by omega) (st := st)
    cases hpv : piv rows with
    | nil =>
      rw [hpv] at hp
      have h0 : ∀ r ∈ rows, r.headD 0 = 0 := fun r hr => by
        apply Decidable.byContradiction
        intro hc
        obtain ⟨k, hk⟩ := List.getElem?_of_mem hr
        have hm : (0 + k, r) ∈ piv rows := List.mem_filter.mpr ⟨idx_get hk, decide_eq_true hc⟩
        rw [hpv] at hm
        cases hm
      have hd := det_none (by omega) sq h0
      have en : eqD (.list []) (.list []) = some true := by decide
      have hB : dsB ⟨[some w, some (.val (frac f)), x, y, none, none], st⟩ = .ok (.ret (.val (frac 0))) ⟨[some (.val (.list (rows.map rowL))), some (.val (frac f)), some (.own []), y, none, none], st⟩ := by
        cases hw <;> simp [dsB, hp, en, con0]
      rw [bind_app, while_ret hC hB, hd]
      have h1 : absR (0 : Rat) = 0 := absR_of (by decide)
      rw [h1, Rat.mul_zero]
      simp
    | cons ip rest =>
      obtain ⟨i, p⟩ := ip
      rw [hpv] at hp
      have hmem : (i, p) ∈ piv rows := by rw [hpv]; exact List.mem_cons_self ..
      obtain ⟨hm1, hm2⟩ := List.mem_filter.mp hmem
      have hp0 : p.headD 0 ≠ 0 := of_decide_eq_true hm2
      obtain ⟨i', e1, e2⟩ := idx_mem hm1
      have e1' : i = i' := by simpa using e1
      subst e1'
      have e2' : rows[i]? = some p := e2
      obtain ⟨g1, g2⟩ := det_abs (n := n) (by omega) sq e2' hp0
      have hpm := List.mem_of_getElem? e2'
      have hhp := hh p hpm
      have hplen := sq.row p hpm
      have hpn : p ≠ [] := fun z => by rw [z] at hplen; simp at hplen
      have pow : 4 ^ (n + 1) = 4 * 4 ^ n := by rw [Nat.pow_succ]; omega
      have pos : 1 ≤ 4 ^ n := Nat.one_le_pow _ _ (by decide)
      have hb' : (h + 1) * (4 * 4 ^ n) ≤ 7000 := by rw [← pow]; exact hb
      have hh1 : (h + 1) * 4 ≤ 7000 := Nat.le_trans (by
        have : (h + 1) * (4 * 1) ≤ (h + 1) * (4 * 4 ^ n) := Nat.mul_le_mul_left _ (Nat.mul_le_mul_left _ pos)
        omega) hb'
      have wf : ∀ r ∈ rows, m_without_first [.val (rowL r), .val (rowL p)] st = .ok (.own ((without r p).map frac)) st ∧ HtA (4 * h + 1) (without r p) := fun r hr =>
        s_without_first (hh r hr) hhp (by rw [sq.row r hr]; omega) (by rw [hplen, sq.row r hr]) (by rw [sq.row r hr]; omega) hp0 (by omega)
      have hph : Ht h (p.headD 0) := by
        cases p with
        | nil => exact absurd rfl hpn
        | cons a p => exact hhp a (List.mem_cons_self ..)
      have x4 := ix_head hpn
      generalize p.headD 0 = pd at hp0 g1 hph x4
      have q1 := s_fraction_times hf hph (by omega) (st := st)
      have x3 := ixl_map rowL e2'
      have en : eqD (.list [PyData.int (i : Int)]) (.list []) = some false := eq_nil (shaped_ints (ns := [i]) (by simp))
      let rows' := (rows.eraseIdx i).map fun r => without r p
      let st1 : S := ⟨[some (.val (.list (rows.map rowL))), some (.val (frac (f * pd))), some (.own [.int (i : Int)]), some (.val (rowL p)), none, none], st⟩
      have hc : compLoop [4, 5] (tTupG 2 (tConsG (tName 4) (tConsG (tName 5) tNilG))) (opCmp neD (eVar 4) (opLk ixD (eVar 2) (eC (.int 0)))) el_determinant_size_1 ((idx 0 rows).map fun q => .tuple [.int (q.1 : Int), rowL q.2]) [] st1 = .ok ([] ++ (((idx 0 rows).filter fun q => decide (q.1 ≠ i)).map fun q => rowL (without q.2 p))) st1 := by
        refine compLoop_filter (α := Nat × List Rat) (fun q => .tuple [.int (q.1 : Int), rowL q.2]) (fun q => rowL (without q.2 p)) (fun q => decide (q.1 ≠ i)) _ _ (by rw [idx_length]; simp; omega) fun q hq => ?_
        obtain ⟨i2, h1, h2⟩ := idx_mem hq
        have hw2 := (wf q.2 (List.mem_of_getElem? h2)).1
        refine ⟨⟨[some (.val (.list (rows.map rowL))), some (.val (frac (f * pd))), some (.own [.int (i : Int)]), some (.val (rowL p)), some (.val (.int (q.1 : Int))), some (.val (rowL q.2))], st⟩, ⟨[some (.val (.list (rows.map rowL))), some (.val (frac (f * pd))), some (.own [.int (i : Int)]), some (.val (rowL p)), some (.val (.int (q.1 : Int))), some (.val (rowL q.2))], st⟩, by simp [st1], ?_, by simp [st1], fun _ => by simp [el_determinant_size_1, hw2, st1]; rfl⟩
        simp [Int.ofNat_inj]
      have hl : (((idx 0 rows).filter fun q => decide (q.1 ≠ i)).map fun q => rowL (without q.2 p)) = rows'.map rowL := by
        have h1 := idx_drop i rows 0
        rw [Nat.zero_add] at h1
        show _ = ((rows.eraseIdx i).map fun r => without r p).map rowL
        rw [← h1, List.map_map, List.map_map]
        rfl
      rw [hl] at hc
      have hnum : enumW [.val (.list (rows.map rowL))] = some ((idx 0 rows).map fun p => .tuple [.int (p.1 : Int), rowL p.2]) := by
        show (itemsD (.val (.list (rows.map rowL)))).map (Z.numbered 0) = _
        have hn := numbered_map rowL rows 0
        rw [itemsD_list, ← hn]
        rfl
      have hB : dsB ⟨[some w, some (.val (frac f)), x, y, none, none], st⟩ = .ok .next ⟨[some (.own (rows'.map rowL)), some (.val (frac (f * pd))), some (.own [.int (i : Int)]), some (.val (rowL p)), none, none], st⟩ := by
        have hp' : m_pivot_of [.val (.list (rows.map rowL))] st = .ok (.own [.int (i : Int)]) st := hp
        cases hw <;> (simp [dsB, hp', en, x3, x4, q1, hnum]; rw [hc]; simp [st1])
      rw [bind_congr (while_next hC hB)]
      have := ds_loop n rows' (f * pd) m (4 * h + 1) (F + h) (.own (rows'.map rowL)) (some (.own [.int (i : Int)])) (some (.val (rowL p))) st (by omega) g2 (fun r hr => by
        obtain ⟨r0, hr0, rfl⟩ := List.mem_map.mp hr
        exact (wf r0 (List.mem_of_mem_eraseIdx hr0)).2) (ht_mul hf hph) (by omega) (by
        have : (4 * h + 1 + 1) * 4 ^ n ≤ ((h + 1) * 4) * 4 ^ n := Nat.mul_le_mul_right _ (by omega)
        rw [Nat.mul_assoc] at this
        omega) (by omega) .own
      rw [this, g1, absR_mul, Rat.mul_assoc]
end K22
namespace K22
open PySem PySem.Spec PyProof.Rows L2 Z
theorem s_determinant_size {n : Nat} (hn : n ≤ 4) {rows : List (List Rat)} (sq : Sq n rows) (hh : ∀ r ∈ rows, HtA 25 r) {st : Store} : m_determinant_size [.val (.list (rows.map rowL))] st = .ok (.val (frac (absR (det rows)))) st := by
  have h4 : (25 + 1) * 4 ^ n ≤ 7000 := by
    have : 4 ^ n ≤ 4 ^ 4 := Nat.pow_le_pow_right (by decide) hn
    omega
  have hz := ds_loop n rows 1 10 25 1 (.val (.list (rows.map rowL))) none none st hn sq hh ht_one (by omega) h4 (by omega) .val
  have h1 : absR (1 : Rat) = 1 := absR_of (by decide)
  rw [h1, Rat.one_mul] at hz
  rw [m_determinant_size, fnOf_app, b_ds, ← hz]
  simp only [seq_app, sAsg_app, eC_app, runK_ok]
  simp [con1]
def fact : Nat → Nat
  | 0 => 1
  | n + 1 => (n + 1) * fact n
def ordB (n : Nat) (o : Out Store W) : Option (Bool × Store) := match o with
  | .ok (.own ds) st' => some (decide (ds.length = fact n), st')
  | _ => none
theorem ord_eval0 (st : Store) : ordB 0 (m_orders_of [.val (.int 0)] st) = some (true, st) := by kernel_rfl
theorem ord_eval1 (st : Store) : ordB 1 (m_orders_of [.val (.int 1)] st) = some (true, st) := by kernel_rfl
theorem ord_eval2 (st : Store) : ordB 2 (m_orders_of [.val (.int 2)] st) = some (true, st) := by kernel_rfl
theorem ord_eval3 (st : Store) : ordB 3 (m_orders_of [.val (.int 3)] st) = some (true, st) := by kernel_rfl
theorem ord_eval4 (st : Store) : ordB 4 (m_orders_of [.val (.int 4)] st) = some (true, st) := by kernel_rfl
theorem ord_x0 (st : Store) : ordB 0 (m_orders_of [.val (.int (0 : Nat))] st) = some (true, st) := by
  have e : (((0 : Nat) : Int)) = 0 := rfl
  rw [e]
  exact ord_eval0 st
theorem ord_x1 (st : Store) : ordB 1 (m_orders_of [.val (.int (1 : Nat))] st) = some (true, st) := by
  have e : (((1 : Nat) : Int)) = 1 := rfl
  rw [e]
  exact ord_eval1 st
theorem ord_x2 (st : Store) : ordB 2 (m_orders_of [.val (.int (2 : Nat))] st) = some (true, st) := by
  have e : (((2 : Nat) : Int)) = 2 := rfl
  rw [e]
  exact ord_eval2 st
theorem ord_x3 (st : Store) : ordB 3 (m_orders_of [.val (.int (3 : Nat))] st) = some (true, st) := by
  have e : (((3 : Nat) : Int)) = 3 := rfl
  rw [e]
  exact ord_eval3 st
theorem ord_x4 (st : Store) : ordB 4 (m_orders_of [.val (.int (4 : Nat))] st) = some (true, st) := by
  have e : (((4 : Nat) : Int)) = 4 := rfl
  rw [e]
  exact ord_eval4 st
theorem ord_eval {n : Nat} (hn : n ≤ 4) (st : Store) : ordB n (m_orders_of [.val (.int n)] st) = some (true, st) := by
  have : n = 0 ∨ n = 1 ∨ n = 2 ∨ n = 3 ∨ n = 4 := by omega
  rcases this with rfl | rfl | rfl | rfl | rfl
  · exact ord_x0 st
  · exact ord_x1 st
  · exact ord_x2 st
  · exact ord_x3 st
  · exact ord_x4 st
theorem ordB_ok {n : Nat} {o : Out Store W} {st : Store} (h : ordB n o = some (true, st)) : ∃ ds, o = .ok (.own ds) st ∧ ds.length = fact n := by
  unfold ordB at h
  split at h
  · rename_i ds st'
    simp only [Option.some.injEq, Prod.mk.injEq, decide_eq_true_eq] at h
    obtain ⟨h1, rfl⟩ := h
    exact ⟨ds, rfl, h1⟩
  · cases h
theorem s_orders_of {n : Nat} (hn : n ≤ 4) {st : Store} : ∃ ds, m_orders_of [.val (.int n)] st = .ok (.own ds) st ∧ ds.length = fact n := ordB_ok (ord_eval hn st)
theorem fact_pos {n : Nat} (hn : n ≤ 4) : fact n ≠ 0 ∧ fact n < 2 ^ 5 := by
  match n, hn with
  | 0, _ => decide
  | 1, _ => decide
  | 2, _ => decide
  | 3, _ => decide
  | 4, _ => decide
/-- a corner's numbers: few bits -/
structure Cn (n : Nat) (cs : List (List Rat)) : Prop where
  len : cs.length = n + 1
  n4 : n ≤ 4
  row : ∀ c ∈ cs, c.length = n ∧ HtA 12 c
theorem sub_length {s c : List Rat} (h : c.length = s.length) : (sub s c).length = s.length := by simp [sub, h]
theorem sub_ht {s c : List Rat} (hs : HtA 12 s) (hc : HtA 12 c) : HtA 25 (sub s c) := fun x hx => by
  obtain ⟨p, hp, rfl⟩ := List.mem_map.mp hx
  have := List.of_mem_zip (a := p.1) (b := p.2) hp
  exact ht_sub (hc _ this.2) (hs _ this.1)
theorem edges_sq {n : Nat} {cs : List (List Rat)} (h : Cn n cs) : Sq n (edges cs) ∧ ∀ r ∈ edges cs, HtA 25 r := by
  obtain ⟨hl, _, hr⟩ := h
  cases cs with
  | nil => simp at hl
  | cons s cs =>
    have hs := hr s (List.mem_cons_self ..)
    refine ⟨⟨by simpa [edges] using hl, fun r hr2 => ?_⟩, fun r hr2 => ?_⟩
    · obtain ⟨c, hc, rfl⟩ := List.mem_map.mp (show r ∈ cs.map (sub s) from hr2)
      rw [sub_length (by rw [(hr c (List.mem_cons_of_mem _ hc)).1, hs.1])]
      exact hs.1
    · obtain ⟨c, hc, rfl⟩ := List.mem_map.mp (show r ∈ cs.map (sub s) from hr2)
      exact sub_ht hs.2 (hr c (List.mem_cons_of_mem _ hc)).2
def vol (n : Nat) (cs : List (List Rat)) : Rat := absR (det (edges cs)) / (fact n : Rat)
theorem s_volume_by {n : Nat} {cs : List (List Rat)} {s : Rat} (h : Cn n cs) (hA : Ht 5000 (absR (det (edges cs)))) {st : Store} : m_volume_by [.val (cellD cs s)] st = .ok (.val (frac (vol n cs))) st := by
  have hz := sizeLine_big
  have h2 : 2 ≤ sizeLine := by omega
  obtain ⟨sq, hh⟩ := edges_sq h
  have e1 := s_determinant_size h.n4 sq hh (st := st)
  obtain ⟨ds, e2, e3⟩ := s_orders_of h.n4 (st := st)
  obtain ⟨f1, f2⟩ := fact_pos h.n4
  have e4 := s_fraction_over hA (ht_nat (L := 5) f2 (by decide)) (nat_nz f1) (by omega) (st := st)
  rw [frac_nat] at e4
  have hl := h.len
  have hn := h.n4
  have hr := h.row
  cases cs with
  | nil => simp at hl
  | cons c0 cs =>
    have hl' : cs.length = n := by simpa using hl
    have hs0 := hr c0 (List.mem_cons_self ..)
    have e5 : m_draws_of [.val (cellD (c0 :: cs) s)] st = .ok (.val (.int n)) st := by
      show m_draws_of [.val (.tuple [.tuple ((c0 :: cs).map ptD), frac s])] st = _
      simp [m_draws_of, b_draws_of, fnOf_app, hl']
    let env0 : List (Option W) := [some (.val (cellD (c0 :: cs) s)), some (.val (ptD c0)), none, none, none, none]
    have hc : compLoop [3] (tName 3) cTrue el_volume_by_2 (cs.map ptD) [] ⟨env0, st⟩ = .ok ([] ++ cs.map fun c => rowL (sub c0 c)) ⟨env0, st⟩ := by
      refine compLoop_via _ _ _ _ (by simp; omega) fun c hcm => ?_
      have hcr := hr c (List.mem_cons_of_mem _ hcm)
      have hci : compLoop [4, 5] (tTupG 2 (tConsG (tName 4) (tConsG (tName 5) tNilG))) cTrue el_volume_by_1 ((c0.zip c).map fun x => .tuple [frac x.1, frac x.2]) [] ⟨[some (.val (cellD (c0 :: cs) s)), some (.val (ptD c0)), none, some (.val (ptD c)), none, none], st⟩ = .ok ([] ++ (c0.zip c).map fun x => frac (x.2 - x.1)) ⟨[some (.val (cellD (c0 :: cs) s)), some (.val (ptD c0)), none, some (.val (ptD c)), none, none], st⟩ := by
        refine compLoop_via _ _ _ _ (by simp; omega) fun x hx => ?_
        have hx' := List.of_mem_zip (a := x.1) (b := x.2) hx
        have e := s_fraction_less (hcr.2 _ hx'.2) (hs0.2 _ hx'.1) (by omega) (st := st)
        simp [el_volume_by_1, e]
      have hm : ((c0.zip c).map fun x => frac (x.2 - x.1)) = (sub c0 c).map frac := by simp [sub]
      rw [hm] at hci
      have hzw : zipW [.val (ptD c0), .val (ptD c)] = some ((c0.zip c).map fun x => .tuple [frac x.1, frac x.2]) := by
        show some (pairs (c0.map frac) (c.map frac)) = _
        rw [pairs_map]
      simp [el_volume_by_2, env0, hzw]
      rw [hci]
      simp [rowL]
    have hm : (cs.map fun c => rowL (sub c0 c)) = (edges (c0 :: cs)).map rowL := by simp [edges]
    rw [hm] at hc
    have c1 : cutL ((c0 :: cs).map ptD) (some 1) none = cs.map ptD := by
      have := cut_from ((c0 :: cs).map ptD) (k := 1) (by simp)
      exact this
    have x0 : ixD (cellD (c0 :: cs) s) (.int 0) = some (.val (.tuple ((c0 :: cs).map ptD))) := ixD_0
    have x1 : ixD (.tuple ((c0 :: cs).map ptD)) (.int 0) = some (.val (ptD c0)) := ixD_0
    simp only [List.map_cons] at x0 x1 c1
    simp [m_volume_by, b_volume_by, fnOf_app, x0, x1, c1]
    rw [hc]
    simp [env0, e1, e5, e2, e3, h2, e4, vol]
end K22
namespace K22
open PySem PySem.Spec PyProof.Rows L2 Z
theorem s_volume {L n : Nat} {cs : List (List Rat)} {s : Rat} (c : Cell L n cs s) (hL : L + 1 ≤ 8000) (h : Cn n cs) (hA : Ht 5000 (absR (det (edges cs)))) {st : Store} : m_volume [.val (cellD cs s)] st = .ok (.val (frac (vol n cs))) st := by
  have e1 := s_check_cell c hL (st := st)
  have e2 := s_volume_by (s := s) h hA (st := st)
  simp [m_volume, b_volume, fnOf_app, e1, e2]
theorem s_is_cell {L n : Nat} {cs : List (List Rat)} {s : Rat} (c : Cell L n cs s) (hL : L + 1 ≤ 8000) {st : Store} : m_is_cell [.val (cellD cs s)] st = .ok (.val (.bool true)) st := by
  have e1 := s_is_cell_by c hL (st := st)
  simp [m_is_cell, b_is_cell, fnOf_app, e1]
theorem s__law_over {L M : Nat} {p q : Rat} (h : Ht L p) (g : Ht M q) (nz : q ≠ 0) (l : L + M ≤ 8000 := by omega) {st : Store} : m__law_over [.val (frac p), .val (frac q)] st = .ok (.val (frac (p / q))) st := by
  have z1 := mulD_sz (h.szn (by omega)) (g.szd (by omega))
  have z2 := mulD_sz (h.szd (by omega)) (g.szn (by omega))
  have e := s__law_part (L := L + M) (a := p.num * q.den) (b := p.den * q.num) (Int.mul_ne_zero (by exact_mod_cast p.den_nz) (num_nz nz)) (by rw [Int.natAbs_mul, Int.natAbs_natCast]; exact pow_mul_lt h.den g.num) l (st := st)
  rw [← div_eq] at e
  simp [m__law_over, b__law_over, fnOf_app, z1, z2, e]
theorem s__law_cut_cell {L n K : Nat} {cs : List (List Rat)} {s z : Rat} (c : Cell L n cs s) {i j : Nat} {p q : List Rat} (hi : cs[i]? = some p) (hj : cs[j]? = some q) (hz : Pt K z) (hb : 3 * L + K ≤ 7000) {st : Store} :
    m__law_cut_cell [.val (cellD cs s), .val (.int i), .val (.int j), .val (frac z)] st = .ok (.val (.tuple [cellD (cs.set j (mid p q z)) (z * s), cellD (cs.set i (mid p q z)) ((1 - z) * s)])) st := by
  have hsz := sizeLine_big
  have h2 : 2 ≤ sizeLine := by omega
  have h1 : 1 ≤ sizeLine := by omega
  obtain ⟨p1, p2⟩ := c.pts hi
  obtain ⟨q1, q2⟩ := c.pts hj
  have h4 := c.n4
  have hlen := c.len
  have hi' := (List.getElem?_eq_some_iff.mp hi).1
  have hj' := (List.getElem?_eq_some_iff.mp hj).1
  have e4 := s__law_by hz.ht c.size.ht (by omega) (st := st)
  have e5 := s__law_less ht_one hz.ht (by omega) (st := st)
  have e6 := s__law_by (pt_rest hz).ht c.size.ht (by omega) (st := st)
  have x1 := ix_map ptD hi
  have x2 := ix_map ptD hj
  have c1 : PyData.tuple [.int 1, .int 1] = frac 1 := rfl
  let st1 : S := ⟨[some (.val (cellD cs s)), some (.val (.int i)), some (.val (.int j)), some (.val (frac z)), some (.val (.tuple (cs.map ptD))), some (.val (frac s)), none, none, none, none, none], st⟩
  have hc : compLoop [9, 10] (tTupG 2 (tConsG (tName 9) (tConsG (tName 10) tNilG))) cTrue el__law_cut_cell_1 ((p.zip q).map fun x => .tuple [frac x.1, frac x.2]) [] st1 = .ok ([] ++ (p.zip q).map fun x => frac (x.1 + z * (x.2 - x.1))) st1 := by
    refine compLoop_via _ _ _ _ (by simp; omega) fun x hx => ?_
    have hx' := List.of_mem_zip (a := x.1) (b := x.2) hx
    have ha := (p2 _ hx'.1).ht
    have hb' := (q2 _ hx'.2).ht
    have g1 := s__law_less hb' ha (by omega) (st := st)
    have g2 := s__law_by hz.ht (ht_sub hb' ha) (by omega) (st := st)
    have g3 := s__law_plus ha (ht_mul hz.ht (ht_sub hb' ha)) (by omega) (st := st)
    simp [el__law_cut_cell_1, st1, g1, g2, g3]
  have hm : ((p.zip q).map fun x => frac (x.1 + z * (x.2 - x.1))) = (mid p q z).map frac := by simp [mid]
  rw [hm] at hc
  have hzw : zipW [.val (ptD p), .val (ptD q)] = some ((p.zip q).map fun x => .tuple [frac x.1, frac x.2]) := by
    show some (pairs (p.map frac) (q.map frac)) = _
    rw [pairs_map]
  have ta : ∀ {k : Nat}, k < cs.length → cutL (cs.map ptD) none (some (k : Int)) = (cs.map ptD).take k ∧ min k cs.length = k ∧ k + 1 ≤ sizeLine ∧ k + (cs.length - (k + 1) + 1) ≤ sizeLine := fun {k} h => ⟨cut_to _ (by simp; omega), by omega, by omega, by omega⟩
  have dr : ∀ {k : Nat}, k < cs.length → cutL (cs.map ptD) (some ((k : Int) + 1)) none = (cs.map ptD).drop (k + 1) := fun {k} h => by
    have := cut_from (cs.map ptD) (k := k + 1) (by simp; omega)
    rw [show ((k + 1 : Nat) : Int) = (k : Int) + 1 by omega] at this
    exact this
  obtain ⟨t1, b1, b2, b3⟩ := ta hi'
  obtain ⟨t2, b4, b5, b6⟩ := ta hj'
  have d1 := dr hi'
  have d2 := dr hj'
  have w1 := set_eq (xs := cs.map ptD) (i := i) (p := ptD (mid p q z)) (by simpa using hi')
  have w2 := set_eq (xs := cs.map ptD) (i := j) (p := ptD (mid p q z)) (by simpa using hj')
  have ep : PyData.tuple (List.map frac (mid p q z)) = ptD (mid p q z) := rfl
  show m__law_cut_cell [.val (.tuple [.tuple (cs.map ptD), frac s]), .val (.int i), .val (.int j), .val (frac z)] st = _
  have hc' := hc
  simp only [st1, cellD, corD] at hc'
  simp [m__law_cut_cell, b__law_cut_cell, fnOf_app, x1, x2, hzw]
  rw [hc']
  simp [t1, t2, d1, d2, e4, c1, e5, e6, h2, h1, b1, b2, b4, b5, cellD, corD, ep]
  repeat' (rw [if_pos (by omega)]; simp [t1, t2, d1, d2, e4, c1, e5, e6, h2, h1, b1, b2, b4, b5, ep, w1, w2])
end K22
namespace K22
open PySem PySem.Spec PyProof.Rows L2 Z
/-! ### the law's own determinant -/
def colD (r : List Rat) (k : Nat) : Rat := (r.drop k).headD 0
def elimR (p : List Rat) (k : Nat) (r : List Rat) : List Rat := (r.zip p).map fun x => x.1 - colD r k / colD p k * x.2
theorem elimR_length {r p : List Rat} {k : Nat} (h : p.length = r.length) : (elimR p k r).length = r.length := by simp [elimR, h]
theorem elimR_drop {r p : List Rat} {k : Nat} : (elimR p k r).drop (k + 1) = without (r.drop k) (p.drop k) := by
  unfold elimR without colD
  rw [← List.map_drop, List.zip_eq_zipWith, List.drop_zipWith, ← List.zip_eq_zipWith, List.tail_drop, List.tail_drop]
theorem rangeD_succ {lo : Int} {n : Nat} : rangeD lo (n + 1) = .int lo :: rangeD (lo + 1) n := by
  unfold rangeD
  rw [List.range_succ_eq_map, List.map_cons, List.map_map]
  congr 1
  · simp
  · exact List.map_congr_left fun i _ => by
      show PyData.int _ = PyData.int _
      congr 1
      show lo + ((i + 1 : Nat) : Int) = _
      omega
theorem rangeD_zero {lo : Int} : rangeD lo 0 = [] := rfl
theorem range_2 {i j : Nat} (h : j ≤ 1000) (h2 : i ≤ 1000) : rangeW2 [.val (.int i), .val (.int j)] = some (rangeD i (j - i)) := by
  unfold rangeW2
  simp only
  rw [if_pos (by omega), show ((j : Int) - i).toNat = j - i by omega]
theorem ix_at {r : List Rat} {k : Nat} (h : k < r.length) : ixD (rowL r) (.int (k : Int)) = some (.val (frac (colD r k))) := by
  have : r[k]? = some (colD r k) := by
    unfold colD
    rw [List.getElem?_eq_getElem h, List.drop_eq_getElem_cons h]
    rfl
  exact ixl_map frac this
theorem drop_ht {H : Nat} {r : List Rat} {k : Nat} (h : HtA H r) (hk : k < r.length) : Ht H (colD r k) := by
  unfold colD
  rw [List.drop_eq_getElem_cons hk]
  exact h _ (List.getElem_mem hk)
theorem elim_ht {H : Nat} {r p : List Rat} {k : Nat} (hr : HtA H r) (hp : HtA H p) (kr : k < r.length) (kp : k < p.length) (nz : colD p k ≠ 0) : HtA (4 * H + 1) (elimR p k r) := fun x hx => by
  obtain ⟨y, hy, rfl⟩ := List.mem_map.mp hx
  have hy' := List.of_mem_zip (a := y.1) (b := y.2) hy
  exact (ht_sub (hr _ hy'.1) (ht_mul (ht_div (drop_ht hr kr) (drop_ht hp kp) nz) (hp _ hy'.2))).mono (by omega)
theorem atI_mid {α : Type} {pre post : List α} {x : α} : (pre ++ x :: post)[pre.length]? = some x := by simp
theorem ixN_of {n k : Nat} (h : k < n) : ixN n (k : Int) = some k := by
  unfold ixN
  simp [h]
theorem inner_loop {n k : Nat} {p : List Rat} {v0 : W} {f : Rat} {x4 : Option W} {st : Store} {H : Nat} (hn : n ≤ 4) (hk : k < n) (lp : p.length = n) (hp : HtA H p) (nz : colD p k ≠ 0) (hH : 4 * H ≤ 7000) :
    ∀ (todo pre : List (List Rat)) (x5 x6 : Option W), pre[k]? = some p → k < pre.length → pre.length + todo.length = n → (∀ r ∈ todo, r.length = n ∧ HtA H r) →
    ∃ y5 y6, (notOwn (some x5) = true → notOwn (some y5) = true) ∧ loopF (tName 5) lp__law_determinant_1 (rangeD (pre.length : Nat) todo.length) ⟨[some v0, some (.val (frac f)), some (.own ((pre ++ todo).map rowL)), some (.val (.int k)), x4, x5, x6, none, none, none], st⟩ = .ok .next ⟨[some v0, some (.val (frac f)), some (.own ((pre ++ todo.map (elimR p k)).map rowL)), some (.val (.int k)), x4, y5, y6, none, none, none], st⟩
  | [], pre, x5, x6, _, _, _, _ => ⟨x5, x6, id, by
    show loopF _ _ (rangeD _ 0) _ = _
    rw [rangeD_zero, loopF_nil]
    simp⟩
  | r :: todo, pre, x5, x6, hpk, hkp, hl, hr => by
    have hsz := sizeLine_big
    have hl' : pre.length + (todo.length + 1) = n := hl
    obtain ⟨lr, hhr⟩ := hr r (List.mem_cons_self ..)
    have hR : (pre ++ r :: todo)[k]? = some p := by rw [List.getElem?_append_left hkp]; exact hpk
    have i1 := ixl_map rowL hR
    have i2 := ixl_map rowL (atI_mid (pre := pre) (x := r) (post := todo))
    have i3 := ix_at (r := r) (k := k) (by omega)
    have i4 := ix_at (r := p) (k := k) (by omega)
    have e1 := s__law_over (drop_ht hhr (k := k) (by omega)) (drop_ht hp (k := k) (by omega)) nz (by omega) (st := st)
    have hby := ht_div (drop_ht hhr (k := k) (by omega)) (drop_ht hp (k := k) (by omega)) nz
    obtain ⟨by_, hb⟩ : ∃ b : Rat, b = colD r k / colD p k := ⟨_, rfl⟩
    rw [← hb] at e1 hby
    let st1 : S := ⟨[some v0, some (.val (frac f)), some (.own ((pre ++ r :: todo).map rowL)), some (.val (.int k)), x4, some (.val (.int (pre.length : Nat))), some (.val (frac by_)), none, none, none], st⟩
    have hc : compLoop [8, 9] (tTupG 2 (tConsG (tName 8) (tConsG (tName 9) tNilG))) cTrue el__law_determinant_3 ((r.zip p).map fun x => .tuple [frac x.1, frac x.2]) [] st1 = .ok ([] ++ (r.zip p).map fun x => frac (x.1 - by_ * x.2)) st1 := by
      refine compLoop_via _ _ _ _ (by simp; omega) fun x hx => ?_
      have hx' := List.of_mem_zip (a := x.1) (b := x.2) hx
      have g1 := s__law_by hby (hp _ hx'.2) (by omega) (st := st)
      have g2 := s__law_less (hhr _ hx'.1) (ht_mul hby (hp _ hx'.2)) (by omega) (st := st)
      simp [el__law_determinant_3, st1, g1, g2]
    have hm : ((r.zip p).map fun x => frac (x.1 - by_ * x.2)) = (elimR p k r).map frac := by simp [elimR, hb]
    rw [hm] at hc
    have hzw : zipW [.val (rowL r), .val (rowL p)] = some ((r.zip p).map fun x => .tuple [frac x.1, frac x.2]) := by
      show some (pairs (r.map frac) (p.map frac)) = _
      rw [pairs_map]
    have hs : ((pre ++ r :: todo).map rowL).set pre.length (rowL (elimR p k r)) = (pre ++ elimR p k r :: todo).map rowL := by
      simp
    have hix : ixN (pre.length + (todo.length + 1)) (pre.length : Nat) = some pre.length := ixN_of (by omega)
    have step : (tName 5 (.int (pre.length : Nat)) >>= fun _ => lp__law_determinant_1) ⟨[some v0, some (.val (frac f)), some (.own ((pre ++ r :: todo).map rowL)), some (.val (.int k)), x4, x5, x6, none, none, none], st⟩ = .ok .next ⟨[some v0, some (.val (frac f)), some (.own ((pre ++ elimR p k r :: todo).map rowL)), some (.val (.int k)), x4, some (.val (.int (pre.length : Nat))), some (.val (frac by_)), none, none, none], st⟩ := by
      simp only [st1] at hc
      rw [← hs]
      generalize hRR : (pre ++ r :: todo).map rowL = RR at *
      have hRl : RR.length = pre.length + (todo.length + 1) := by rw [← hRR]; simp
      rw [← hRl] at hix
      simp [lp__law_determinant_1, i1, i2, i3, i4, e1, hzw]
      rw [hc]
      simp [hix, rowL]
    obtain ⟨y5, y6, no, e⟩ := inner_loop hn hk lp hp nz hH todo (pre ++ [elimR p k r]) (some (.val (.int (pre.length : Nat)))) (some (.val (frac by_))) (by rw [List.getElem?_append_left hkp]; exact hpk) (by simp; omega) (by simp; omega) fun x hx => hr x (List.mem_cons_of_mem _ hx)
    refine ⟨y5, y6, fun _ => no rfl, ?_⟩
    rw [List.length_cons, rangeD_succ, loopF_step step]
    have e1 : ((pre ++ [elimR p k r]).length : Nat) = pre.length + 1 := by simp
    rw [e1] at e
    have e2 : ((pre.length + 1 : Nat) : Int) = (pre.length : Nat) + 1 := by omega
    rw [e2] at e
    have e3 : pre ++ [elimR p k r] ++ todo = pre ++ elimR p k r :: todo := by simp
    have e4 : pre ++ [elimR p k r] ++ todo.map (elimR p k) = pre ++ (r :: todo).map (elimR p k) := by simp
    rw [e3, e4] at e
    exact e
end K22
namespace K22
open PySem PySem.Spec PyProof.Rows L2 Z
theorem det_swap {n : Nat} (hn : n ≤ 4) {M : List (List Rat)} (h : Sq n M) {j : Nat} {a b : List Rat} (hj : 0 < j) (h0 : M[0]? = some a) (h1 : M[j]? = some b) : absR (det ((M.set 0 b).set j a)) = absR (det M) := by
  obtain ⟨hl, hr⟩ := h
  have hi := (List.getElem?_eq_some_iff.mp h1).1
  match n, hn with
  | 0, _ => omega
  | 1, _ => omega
  | 2, _ =>
    obtain ⟨r1, r2, rfl⟩ := l2 hl
    obtain ⟨a, b, rfl⟩ := l2 (hr r1 (by simp))
    obtain ⟨c, d, rfl⟩ := l2 (hr r2 (by simp))
    have : j = 1 := by simp at hi; omega
    subst this
    cases h0; cases h1
    rw [← absR_neg]
    congr 1
    simp only [List.set_cons_succ, List.set_cons_zero, det]
    grind
  | 3, _ =>
    obtain ⟨r1, r2, r3, rfl⟩ := l3 hl
    obtain ⟨a, b, c, rfl⟩ := l3 (hr r1 (by simp))
    obtain ⟨d, e, f, rfl⟩ := l3 (hr r2 (by simp))
    obtain ⟨g, h, i, rfl⟩ := l3 (hr r3 (by simp))
    have : j = 1 ∨ j = 2 := by simp at hi; omega
    rcases this with rfl | rfl <;>
    · cases h0; cases h1
      rw [← absR_neg]
      congr 1
      simp only [List.set_cons_succ, List.set_cons_zero, det]
      grind
  | 4, _ =>
    obtain ⟨r1, r2, r3, r4, rfl⟩ := l4 hl
    obtain ⟨a, b, c, d, rfl⟩ := l4 (hr r1 (by simp))
    obtain ⟨e, f, g, h, rfl⟩ := l4 (hr r2 (by simp))
    obtain ⟨ii, jj, k, l, rfl⟩ := l4 (hr r3 (by simp))
    obtain ⟨m, nn, o, q, rfl⟩ := l4 (hr r4 (by simp))
    have : j = 1 ∨ j = 2 ∨ j = 3 := by simp at hi; omega
    rcases this with rfl | rfl | rfl <;>
    · cases h0; cases h1
      rw [← absR_neg]
      congr 1
      simp only [List.set_cons_succ, List.set_cons_zero, det]
      grind
/-- what is left at step k -/
def subm (k : Nat) (R : List (List Rat)) : List (List Rat) := (R.drop k).map (·.drop k)
theorem subm_sq {n k m : Nat} {R : List (List Rat)} (h : Sq n R) (e : k + m = n) : Sq m (subm k R) := by
  refine ⟨by simp [subm, h.len]; omega, fun r hr => ?_⟩
  obtain ⟨x, hx, rfl⟩ := List.mem_map.mp hr
  have := h.row x (List.mem_of_mem_drop hx)
  simp [this]; omega
theorem subm_swap {k i : Nat} {R : List (List Rat)} {a b : List Rat} (hi : k ≤ i) : subm k ((R.set k b).set i a) = ((subm k R).set 0 (b.drop k)).set (i - k) (a.drop k) := by
  unfold subm
  rw [List.drop_set, if_neg (by omega), List.drop_set, if_neg (by omega), List.map_set, List.map_set, Nat.sub_self]
theorem subm_cons {k : Nat} {R : List (List Rat)} {p : List Rat} (h : R[k]? = some p) : subm k R = p.drop k :: (R.drop (k + 1)).map (·.drop k) := by
  obtain ⟨hk, e⟩ := List.getElem?_eq_some_iff.mp h
  unfold subm
  rw [List.drop_eq_getElem_cons hk, e, List.map_cons]
theorem subm_elim {k : Nat} {p : List Rat} {pre todo : List (List Rat)} (h : pre.length = k + 1) : subm (k + 1) (pre ++ todo.map (elimR p k)) = todo.map fun r => without (r.drop k) (p.drop k) := by
  unfold subm
  rw [← h, List.drop_left, List.map_map]
  refine List.map_congr_left fun r _ => ?_
  show (elimR p k r).drop pre.length = _
  rw [h]
  exact elimR_drop
theorem range_idx {α : Type} : ∀ (xs : List α) (k : Nat), rangeD (k : Int) xs.length = (idx k xs).map fun q => PyData.int (q.1 : Int)
  | [], k => rfl
  | x :: xs, k => by
    rw [List.length_cons, rangeD_succ]
    have := range_idx xs (k + 1)
    rw [show ((k + 1 : Nat) : Int) = (k : Int) + 1 by omega] at this
    rw [this]
    rfl
theorem ht_neg {L : Nat} {q : Rat} (h : Ht L q) : Ht L (-q) := ⟨by rw [Rat.neg_num, Int.natAbs_neg]; exact h.num, by rw [Rat.neg_den]; exact h.den⟩
def dA1 : M SR := sAsg 4 (eLc [5] (srcA rangeW2 (aCons (eVar 3) (aCons (op1 lenD (eVar 2)) aNil))) (tName 5) (opCmp neD (opLk ixD (opLk ixD (opLk ixD (eVar 2) (eVar 5)) (eVar 3)) (eC (.int 0))) (eC (.int 0))) el__law_determinant_2)
def dA2 : M SR := sIf (opCmp eqD (eVar 4) (eLst aNil)) (sRet (eTup (aCons (eC (.int 0)) (aCons (eC (.int 1)) aNil)))) sNext
def dA3 : M SR := sIf (opCmp neD (opLk ixD (eVar 4) (eC (.int 0))) (eVar 3)) (sUnp (tTupG 3 (tConsG (tSubG (eVar 2) (eVar 3)) (tConsG (tSubG (eVar 2) (opLk ixD (eVar 4) (eC (.int 0)))) (tConsG (tName 1) tNilG)))) (eTup (aCons (opLk ixD (eVar 2) (opLk ixD (eVar 4) (eC (.int 0)))) (aCons (opLk ixD (eVar 2) (eVar 3)) (aCons (eTup (aCons (opBin subD (eC (.int 0)) (opLk ixD (eVar 1) (eC (.int 0)))) (aCons (opLk ixD (eVar 1) (eC (.int 1))) aNil))) aNil))))) sNext
def dA4 : M SR := sAsg 1 (eCallS 2 m__law_by (aCons (eVar 1) (aCons (opLk ixD (opLk ixD (eVar 2) (eVar 3)) (eVar 3)) aNil)))
def dA5 : M SR := sFor (srcA rangeW2 (aCons (opBin addD (eVar 3) (eC (.int 1))) (aCons (op1 lenD (eVar 2)) aNil))) (tName 5) lp__law_determinant_1
theorem lp_det : lp__law_determinant_2 = seq dA1 (seq dA2 (seq dA3 (seq dA4 dA5))) := rfl
theorem det_tail {n k : Nat} {R : List (List Rat)} {p : List Rat} {v0 : W} {f : Rat} {x4 x5 x6 : Option W} {st : Store} {H F : Nat} (hn : n ≤ 4) (hk : k < n) (sq : Sq n R) (hh : ∀ r ∈ R, HtA H r) (hp : R[k]? = some p) (hf : Ht F f) (nz : colD p k ≠ 0) (hH : 4 * H ≤ 7000) (hF : F + H ≤ 8000) :
    ∃ y5 y6 R', (notOwn (some x5) = true → notOwn (some y5) = true) ∧ Sq n R' ∧ (∀ r ∈ R', HtA (4 * H + 1) r) ∧ subm (k + 1) R' = (R.drop (k + 1)).map (fun r => without (r.drop k) (p.drop k)) ∧
    seq dA4 dA5 ⟨[some v0, some (.val (frac f)), some (.own (R.map rowL)), some (.val (.int k)), x4, x5, x6, none, none, none], st⟩ = .ok .next ⟨[some v0, some (.val (frac (f * colD p k))), some (.own (R'.map rowL)), some (.val (.int k)), x4, y5, y6, none, none, none], st⟩ := by
  have hkR : k < R.length := by rw [sq.len]; exact hk
  have hpm := List.mem_of_getElem? hp
  have lp := sq.row p hpm
  have hpre : (R.take (k + 1)).length = k + 1 := by rw [List.length_take, sq.len]; omega
  have hpost : (R.drop (k + 1)).length = n - (k + 1) := by rw [List.length_drop, sq.len]
  obtain ⟨y5, y6, no, e⟩ := inner_loop (n := n) (k := k) (p := p) (v0 := v0) (f := f * colD p k) (x4 := x4) (st := st) (H := H) hn hk lp (hh p hpm) nz hH (R.drop (k + 1)) (R.take (k + 1)) x5 x6 (by rw [List.getElem?_take, if_pos (by omega)]; exact hp) (by omega) (by omega) fun r hr => ⟨sq.row r (List.mem_of_mem_drop hr), hh r (List.mem_of_mem_drop hr)⟩
  rw [List.take_append_drop] at e
  have i1 := ixl_map rowL hp
  have i2 := ix_at (r := p) (k := k) (by omega)
  have hcp := drop_ht (hh p hpm) (k := k) (by omega)
  have e1 := s__law_by hf hcp (by omega) (st := st)
  have rg := range_2 (i := k + 1) (j := n) (by omega) (by omega)
  have rg' : rangeW2 [.val (.int ((k : Int) + 1)), .val (.int ((R.map rowL).length : Int))] = some (rangeD ((k + 1 : Nat) : Int) (n - (k + 1))) := by
    rw [List.length_map, sq.len, ← rg]
    rfl
  rw [hpre, hpost] at e
  refine ⟨y5, y6, R.take (k + 1) ++ (R.drop (k + 1)).map (elimR p k), no, ⟨by rw [List.length_append, List.length_map]; omega, fun r hr => ?_⟩, fun r hr => ?_, subm_elim hpre, ?_⟩
  · rcases List.mem_append.mp hr with hr | hr
    · exact sq.row r (List.mem_of_mem_take hr)
    · obtain ⟨x, hx, rfl⟩ := List.mem_map.mp hr
      have := sq.row x (List.mem_of_mem_drop hx)
      rw [elimR_length (by omega), this]
  · rcases List.mem_append.mp hr with hr | hr
    · exact fun x hx => (hh r (List.mem_of_mem_take hr) x hx).mono (by omega)
    · obtain ⟨x, hx, rfl⟩ := List.mem_map.mp hr
      have := sq.row x (List.mem_of_mem_drop hx)
      exact elim_ht (hh x (List.mem_of_mem_drop hx)) (hh p hpm) (by omega) (by omega) nz
  · rw [show ((k + 1 : Nat) : Int) = (k : Int) + 1 by omega] at e rg'
    generalize R.take (k + 1) ++ (R.drop (k + 1)).map (elimR p k) = R' at e ⊢
    generalize R'.map rowL = RR' at e ⊢
    generalize R.map rowL = RR at *
    simp [dA4, dA5, i1, i2, e1, rg']
    exact e
theorem det_outer {n : Nat} (hn : n ≤ 4) {v0 : W} {st : Store} : ∀ (m k : Nat) (R : List (List Rat)) (f : Rat) (x3 x4 x5 x6 : Option W) (h F : Nat), k + m = n → Sq n R → (∀ r ∈ R, HtA h r) → Ht F f → (h + 1) * 4 ^ m ≤ 7000 → F + 1750 * m ≤ 7500 → notOwn (some x5) = true →
    ∃ g, Ht 7500 g ∧ absR g = absR f * absR (det (subm k R)) ∧ outR ((loopF (tName 3) lp__law_determinant_2 (rangeD (k : Nat) m) >>= fun r => match r with | .next => sRet (eVar 1) | r => Pure.pure r) ⟨[some v0, some (.val (frac f)), some (.own (R.map rowL)), x3, x4, x5, x6, none, none, none], st⟩) = .ok (.val (frac g)) st
  | 0, k, R, f, x3, x4, x5, x6, h, F, hk, sq, hh, hf, hb, hF, no => by
    refine ⟨f, hf.mono (by omega), ?_, ?_⟩
    · have : subm k R = [] := by
        unfold subm
        rw [List.drop_eq_nil_of_le (by rw [sq.len]; omega)]
        rfl
      rw [this]
      have h1 : absR (1 : Rat) = 1 := absR_of (by decide)
      show _ = absR f * absR 1
      rw [h1, Rat.mul_one]
    · rw [rangeD_zero, bind_app, loopF_nil]
      simp
  | m + 1, k, R, f, x3, x4, x5, x6, h, F, hk, sq, hh, hf, hb, hF, no => by
    have hsz := sizeLine_big
    have pow : 4 ^ (m + 1) = 4 * 4 ^ m := by rw [Nat.pow_succ]; omega
    have pos : 1 ≤ 4 ^ m := Nat.one_le_pow _ _ (by decide)
    rw [pow] at hb
    have hh1 : (h + 1) * 4 ≤ 7000 := Nat.le_trans (by
      have : (h + 1) * (4 * 1) ≤ (h + 1) * (4 * 4 ^ m) := Nat.mul_le_mul_left _ (Nat.mul_le_mul_left _ pos)
      omega) hb
    have hkn : k < n := by omega
    have hdl : (R.drop k).length = m + 1 := by rw [List.length_drop, sq.len]; omega
    let sp := (idx k (R.drop k)).filter fun q => decide (colD q.2 k ≠ 0)
    let spD : List D := sp.map fun q => .int (q.1 : Int)
    let s1 : S := ⟨[some v0, some (.val (frac f)), some (.own (R.map rowL)), some (.val (.int (k : Nat))), x4, none, x6, none, none, none], st⟩
    have hc : compLoop [5] (tName 5) (opCmp neD (opLk ixD (opLk ixD (opLk ixD (eVar 2) (eVar 5)) (eVar 3)) (eC (.int 0))) (eC (.int 0))) el__law_determinant_2 (rangeD (k : Nat) (m + 1)) [] s1 = .ok ([] ++ spD) s1 := by
      have e0 := range_idx (R.drop k) k
      rw [hdl] at e0
      rw [e0]
      refine compLoop_filter (α := Nat × List Rat) (fun q => .int (q.1 : Int)) (fun q => .int (q.1 : Int)) (fun q => decide (colD q.2 k ≠ 0)) _ _ (by rw [idx_length, hdl]; simp; omega) fun q hq => ?_
      obtain ⟨i2, h1, h2⟩ := idx_mem hq
      rw [List.getElem?_drop, ← h1] at h2
      have hqm := List.mem_of_getElem? h2
      have j1 := ixl_map rowL h2
      have j2 := ix_at (r := q.2) (k := k) (by rw [sq.row q.2 hqm]; exact hkn)
      refine ⟨⟨[some v0, some (.val (frac f)), some (.own (R.map rowL)), some (.val (.int (k : Nat))), x4, some (.val (.int (q.1 : Int))), x6, none, none, none], st⟩, ⟨[some v0, some (.val (frac f)), some (.own (R.map rowL)), some (.val (.int (k : Nat))), x4, some (.val (.int (q.1 : Int))), x6, none, none, none], st⟩, by simp [s1], ?_, by simp [s1], fun _ => by simp [el__law_determinant_2, s1]⟩
      generalize R.map rowL = RR at *
      simp [j1, j2, Rat.num_eq_zero]
    have rg := range_2 (i := k) (j := n) (by omega) (by omega)
    have rg' : rangeW2 [.val (.int (k : Int)), .val (.int ((R.map rowL).length : Int))] = some (rangeD (k : Int) (m + 1)) := by
      rw [List.length_map, sq.len, rg, show n - k = m + 1 by omega]
    have a1 : dA1 ⟨[some v0, some (.val (frac f)), some (.own (R.map rowL)), some (.val (.int (k : Nat))), x4, x5, x6, none, none, none], st⟩ = .ok .next ⟨[some v0, some (.val (frac f)), some (.own (R.map rowL)), some (.val (.int (k : Nat))), some (.own spD), x5, x6, none, none, none], st⟩ := by
      simp only [s1] at hc
      generalize R.map rowL = RR at *
      simp [dA1, rg', no]
      rw [hc]
      simp
    have subs := subm_sq (k := k) (m := m + 1) sq hk
    rw [rangeD_succ]
    cases hsp : sp with
    | nil =>
      have h0 : ∀ r ∈ subm k R, r.headD 0 = 0 := fun r hr => by
        obtain ⟨x, hx, rfl⟩ := List.mem_map.mp hr
        apply Decidable.byContradiction
        intro hc
        obtain ⟨i, hi⟩ := List.getElem?_of_mem hx
        have hm : (k + i, x) ∈ sp := List.mem_filter.mpr ⟨idx_get hi, decide_eq_true hc⟩
        rw [hsp] at hm
        cases hm
      have hd := det_none (by omega) subs h0
      refine ⟨0, ht_zero.mono (by omega), ?_, ?_⟩
      · rw [hd]
        have h1 : absR (0 : Rat) = 0 := absR_of (by decide)
        rw [h1, Rat.mul_zero]
      · have hspD : spD = [] := by simp [spD, hsp]
        rw [hspD] at a1
        have en : eqD (.list []) (.list []) = some true := by decide
        have hb : (tName 3 (.int (k : Int)) >>= fun _ => lp__law_determinant_2) ⟨[some v0, some (.val (frac f)), some (.own (R.map rowL)), x3, x4, x5, x6, none, none, none], st⟩ = .ok (.ret (.val (frac 0))) ⟨[some v0, some (.val (frac f)), some (.own (R.map rowL)), some (.val (.int (k : Nat))), some (.own []), x5, x6, none, none, none], st⟩ := by
          have h2 : 2 ≤ sizeLine := by omega
          rw [lp_det]
          generalize R.map rowL = RR at *
          simp [a1, dA2, en, h2]
          rfl
        rw [bind_app, loopF_ret hb]
        simp
    | cons q rest =>
      obtain ⟨i, p⟩ := q
      have hmem : (i, p) ∈ sp := by rw [hsp]; exact List.mem_cons_self ..
      obtain ⟨hm1, hm2⟩ := List.mem_filter.mp hmem
      have hp0 : colD p k ≠ 0 := of_decide_eq_true hm2
      obtain ⟨i', e1, e2⟩ := idx_mem hm1
      have e1 : i = k + i' := e1
      rw [List.getElem?_drop, ← e1] at e2
      have e2 : R[i]? = some p := e2
      have hir := (List.getElem?_eq_some_iff.mp e2).1
      have hkr : k < R.length := by rw [sq.len]; exact hkn
      have eR : R[k]? = some R[k] := List.getElem?_eq_getElem hkr
      generalize R[k] = r0 at eR
      have hspD : spD = .int (i : Int) :: rest.map fun q => .int (q.1 : Int) := by simp [spD, hsp]
      have hrestl : rest.length ≤ 900 := by
        have : sp.length ≤ (idx k (R.drop k)).length := List.length_filter_le _ _
        rw [hsp, idx_length, List.length_cons] at this
        omega
      have en : eqD (.list spD) (.list []) = some false := by
        have := shaped_ints (ns := i :: rest.map (·.1)) (by simp; omega)
        have e3 : (i :: rest.map (·.1)).map (fun (k : Nat) => PyData.int (k : Int)) = spD := by rw [hspD]; simp
        rw [e3] at this
        rw [eq_nil this, hspD]
        rfl
      have x0 : ixD (.list spD) (.int 0) = some (.val (.int (i : Int))) := by rw [hspD]; exact ixL_0
      -- the swap
      obtain ⟨R2, f2, sq2, hh2, hf2, hp2, hdet, a3⟩ : ∃ R2 f2, Sq n R2 ∧ (∀ r ∈ R2, HtA h r) ∧ Ht F f2 ∧ R2[k]? = some p ∧ absR f2 * absR (det (subm k R2)) = absR f * absR (det (subm k R)) ∧
          dA3 ⟨[some v0, some (.val (frac f)), some (.own (R.map rowL)), some (.val (.int (k : Nat))), some (.own spD), x5, x6, none, none, none], st⟩ = .ok .next ⟨[some v0, some (.val (frac f2)), some (.own (R2.map rowL)), some (.val (.int (k : Nat))), some (.own spD), x5, x6, none, none, none], st⟩ := by
        by_cases hik : i = k
        · subst hik
          refine ⟨R, f, sq, hh, hf, e2, rfl, ?_⟩
          generalize R.map rowL = RR at *
          simp [dA3, x0]
        · have hj : 0 < i - k := by omega
          have m0 : (subm k R)[0]? = some (r0.drop k) := by
            unfold subm
            rw [List.getElem?_map, List.getElem?_drop, Nat.add_zero, eR]; rfl
          have mj : (subm k R)[i - k]? = some (p.drop k) := by
            unfold subm
            rw [List.getElem?_map, List.getElem?_drop, show k + (i - k) = i by omega, e2]; rfl
          refine ⟨(R.set k p).set i r0, -f, ⟨by simp [sq.len], fun r hr => ?_⟩, fun r hr => ?_, ht_neg hf, ?_, ?_, ?_⟩
          · rcases List.mem_or_eq_of_mem_set hr with hr | rfl
            · rcases List.mem_or_eq_of_mem_set hr with hr | rfl
              · exact sq.row r hr
              · exact sq.row r (List.mem_of_getElem? e2)
            · exact sq.row r (List.mem_of_getElem? eR)
          · rcases List.mem_or_eq_of_mem_set hr with hr | rfl
            · rcases List.mem_or_eq_of_mem_set hr with hr | rfl
              · exact hh r hr
              · exact hh r (List.mem_of_getElem? e2)
            · exact hh r (List.mem_of_getElem? eR)
          · rw [List.getElem?_set_ne (by omega), List.getElem?_set_self hkr]
          · rw [subm_swap (by omega), det_swap (by omega) subs hj m0 mj, absR_neg]
          · have j1 := ixl_map rowL e2
            have j2 := ixl_map rowL eR
            have k1 := ixN_of (n := R.length) (k := k) hkr
            have k2 := ixN_of (n := R.length) (k := i) hir
            have hf' : PyData.tuple [.int (-f.num), .int (f.den : Int)] = frac (-f) := by
              unfold frac
              rw [Rat.neg_num, Rat.neg_den]
            have h2 : 2 ≤ sizeLine := by omega
            have h3 : 3 ≤ sizeLine := by omega
            have hne : ¬ (i : Int) = (k : Int) := by omega
            rw [show ((R.set k p).set i r0).map rowL = (((R.map rowL).set k (rowL p)).set i (rowL r0)) by rw [List.map_set, List.map_set]]
            have hRl : (R.map rowL).length = R.length := by simp
            generalize R.map rowL = RR at *
            rw [← hRl] at k1 k2
            simp [dA3, x0, hne, j1, j2, h2, h3, hf', k1, k2]
      obtain ⟨y5, y6, R', no', sq', hh', hsub, a45⟩ := det_tail (n := n) (k := k) (R := R2) (p := p) (v0 := v0) (f := f2) (x4 := some (.own spD)) (x5 := x5) (x6 := x6) (st := st) (H := h) (F := F) hn hkn sq2 hh2 hp2 hf2 hp0 (by omega) (by omega)
      have hcp := drop_ht (hh2 p (List.mem_of_getElem? hp2)) (k := k) (by rw [sq2.row p (List.mem_of_getElem? hp2)]; exact hkn)
      have ih := det_outer hn (v0 := v0) (st := st) m (k + 1) R' (f2 * colD p k) (some (.val (.int (k : Nat)))) (some (.own spD)) y5 y6 (4 * h + 1) (F + h) (by omega) sq' hh' (ht_mul hf2 hcp) (by
        have : (4 * h + 1 + 1) * 4 ^ m ≤ ((h + 1) * 4) * 4 ^ m := Nat.mul_le_mul_right _ (by omega)
        rw [Nat.mul_assoc] at this
        omega) (by omega) (no' no)
      obtain ⟨g, g1, g2, g3⟩ := ih
      refine ⟨g, g1, ?_, ?_⟩
      · have hc2 := subm_cons hp2
        have el := det_elim (n := m) (by omega) (p := p.drop k) (rows := (R2.drop (k + 1)).map (·.drop k)) (by rw [← hc2]; exact subm_sq sq2 hk) hp0
        rw [← hc2, List.map_map] at el
        rw [g2, ← hdet, hsub, el, absR_mul, absR_mul, Rat.mul_assoc]
        rfl
      · have hb : (tName 3 (.int (k : Int)) >>= fun _ => lp__law_determinant_2) ⟨[some v0, some (.val (frac f)), some (.own (R.map rowL)), x3, x4, x5, x6, none, none, none], st⟩ = .ok .next ⟨[some v0, some (.val (frac (f2 * colD p k))), some (.own (R'.map rowL)), some (.val (.int (k : Nat))), some (.own spD), y5, y6, none, none, none], st⟩ := by
          rw [lp_det]
          generalize R.map rowL = RR at *
          simp [a1, dA2, en, a3]
          have := a45
          simp at this
          exact this
        rw [bind_app, loopF_step hb]
        have e3 : (((k + 1 : Nat)) : Int) = (k : Int) + 1 := by omega
        rw [e3] at g3
        exact g3
end K22
namespace K22
open PySem PySem.Spec PyProof.Rows L2 Z
theorem s__law_determinant {n : Nat} (hn : n ≤ 4) {rows : List (List Rat)} (sq : Sq n rows) (hh : ∀ r ∈ rows, HtA 25 r) {st : Store} : ∃ g, Ht 7500 g ∧ absR g = absR (det rows) ∧ m__law_determinant [.val (.list (rows.map rowL))] st = .ok (.val (frac g)) st := by
  have hsz := sizeLine_big
  have h2 : 2 ≤ sizeLine := by omega
  have hp4 : (25 + 1) * 4 ^ n ≤ 7000 := by
    have : 4 ^ n ≤ 4 ^ 4 := Nat.pow_le_pow_right (by decide) hn
    omega
  have hlen := sq.len
  obtain ⟨g, g1, g2, g3⟩ := det_outer hn (v0 := .val (.list (rows.map rowL))) (st := st) n 0 rows 1 none none none none 25 1 (by omega) sq hh ht_one hp4 (by omega) rfl
  refine ⟨g, g1, ?_, ?_⟩
  · have h1 : absR (1 : Rat) = 1 := absR_of (by decide)
    have h3 : subm 0 rows = rows := by simp [subm]
    rw [g2, h1, h3, Rat.one_mul]
  · have hc : compLoop [7] (tName 7) cTrue el__law_determinant_1 (rows.map rowL) [] ⟨[some (.val (.list (rows.map rowL))), none, none, none, none, none, none, none, none, none], st⟩ = .ok ([] ++ rows.map rowL) ⟨[some (.val (.list (rows.map rowL))), none, none, none, none, none, none, none, none, none], st⟩ := by
      refine compLoop_via _ _ _ _ (by simp; omega) fun r hr => ?_
      show turnF _ _ _ (.list (r.map frac)) _ = _
      simp [el__law_determinant_1, rowL]
    have c1 : PyData.tuple [.int 1, .int 1] = frac 1 := rfl
    have hr := range_row (n := n) (by omega)
    have hr' : rangeW [.val (.int ((rows.map rowL).length : Int))] = some (rangeD 0 n) := by rw [List.length_map, hlen]; exact hr
    rw [m__law_determinant, fnOf_app, b__law_determinant, ← g3]
    generalize rows.map rowL = RR at *
    simp only [Int.natCast_zero] at *
    simp [h2, c1]
    rw [hc]
    simp [hr']
theorem zip_turn {α β γ : Type} (f : α → β → γ) : ∀ (a : List α) (b : List β), (a.zip b).map (fun x => f x.1 x.2) = (b.zip a).map fun x => f x.2 x.1
  | [], b => by simp
  | x :: a, [] => by simp
  | x :: a, y :: b => by simp [zip_turn f a b]
theorem under_loop {n : Nat} (hn : n ≤ 4) {v0 v1 v2 : Option W} {o5 o6 o7 : Option W} {st : Store} : ∃ y, loopF (tName 4) lp__law_volume_1 (rangeD 0 n) ⟨[v0, v1, v2, some (.val (.int 1)), none, o5, o6, o7], st⟩ = .ok .next ⟨[v0, v1, v2, some (.val (.int (fact n : Nat))), y, o5, o6, o7], st⟩ := by
  have step : ∀ (k u : Nat) (x4 : Option W), k ≤ 4 → u ≤ 1000 → (tName 4 (.int (k : Int)) >>= fun _ => lp__law_volume_1) ⟨[v0, v1, v2, some (.val (.int (u : Int))), x4, o5, o6, o7], st⟩ = .ok .next ⟨[v0, v1, v2, some (.val (.int ((u * (k + 1) : Nat) : Int))), some (.val (.int (k : Int))), o5, o6, o7], st⟩ := fun k u x4 hk hu => by
    have z := mulD_sz (i := (u : Int)) (j := (k : Int) + 1) (sz_of (L := 31) (by omega) (by decide)) (sz_of (L := 31) (by omega) (by decide))
    simp [lp__law_volume_1, z]
  match n, hn with
  | 0, _ => exact ⟨none, by rw [rangeD_zero, loopF_nil]; rfl⟩
  | 1, _ => exact ⟨_, by
      show loopF (tName 4) lp__law_volume_1 [.int ((0 : Nat) : Int)] ⟨[v0, v1, v2, some (.val (.int ((1 : Nat) : Int))), none, o5, o6, o7], st⟩ = _
      rw [loopF_step (step 0 1 _ (by decide) (by decide)), loopF_nil]
      rfl⟩
  | 2, _ => exact ⟨_, by
      show loopF (tName 4) lp__law_volume_1 [.int ((0 : Nat) : Int), .int ((1 : Nat) : Int)] ⟨[v0, v1, v2, some (.val (.int ((1 : Nat) : Int))), none, o5, o6, o7], st⟩ = _
      rw [loopF_step (step 0 1 _ (by decide) (by decide)), loopF_step (step 1 _ _ (by decide) (by decide)), loopF_nil]
      rfl⟩
  | 3, _ => exact ⟨_, by
      show loopF (tName 4) lp__law_volume_1 [.int ((0 : Nat) : Int), .int ((1 : Nat) : Int), .int ((2 : Nat) : Int)] ⟨[v0, v1, v2, some (.val (.int ((1 : Nat) : Int))), none, o5, o6, o7], st⟩ = _
      rw [loopF_step (step 0 1 _ (by decide) (by decide)), loopF_step (step 1 _ _ (by decide) (by decide)), loopF_step (step 2 _ _ (by decide) (by decide)), loopF_nil]
      rfl⟩
  | 4, _ => exact ⟨_, by
      show loopF (tName 4) lp__law_volume_1 [.int ((0 : Nat) : Int), .int ((1 : Nat) : Int), .int ((2 : Nat) : Int), .int ((3 : Nat) : Int)] ⟨[v0, v1, v2, some (.val (.int ((1 : Nat) : Int))), none, o5, o6, o7], st⟩ = _
      rw [loopF_step (step 0 1 _ (by decide) (by decide)), loopF_step (step 1 _ _ (by decide) (by decide)), loopF_step (step 2 _ _ (by decide) (by decide)), loopF_step (step 3 _ _ (by decide) (by decide)), loopF_nil]
      rfl⟩
theorem absFrac (q : Rat) : PyData.tuple [.int (if q.num < 0 then -q.num else q.num), .int (q.den : Int)] = frac (absR q) := by
  have n : (q.num < 0) = (q < 0) := by
    have := Rat.num_nonneg (q := q)
    have h2 : (0 ≤ q) = ¬ (q < 0) := propext Rat.not_lt.symm
    rw [h2] at this
    exact propext ⟨fun z => Decidable.byContradiction fun w => by have := this.mpr w; omega, fun z => Decidable.byContradiction fun w => (this.mp (by omega)) z⟩
  unfold absR frac
  by_cases h : q < 0
  · rw [if_pos h, if_pos (by rw [n]; exact h), Rat.neg_num, Rat.neg_den]
  · rw [if_neg h, if_neg (by rw [n]; exact h)]
theorem ht_absR {L : Nat} {q : Rat} (h : Ht L q) : Ht L (absR q) := by
  unfold absR
  split
  · exact ht_neg h
  · exact h
theorem s__law_volume {n : Nat} {cs : List (List Rat)} (h : Cn n cs) {st : Store} : m__law_volume [.val (corD cs)] st = .ok (.val (frac (vol n cs))) st := by
  have hz := sizeLine_big
  have h2 : 2 ≤ sizeLine := by omega
  obtain ⟨sq, hh⟩ := edges_sq h
  obtain ⟨g, g1, g2, g3⟩ := s__law_determinant h.n4 sq hh (st := st)
  obtain ⟨f1, f2⟩ := fact_pos h.n4
  have hl := h.len
  have hn := h.n4
  have hr := h.row
  cases cs with
  | nil => simp at hl
  | cons c0 cs =>
    have hl' : cs.length = n := by simpa using hl
    have hs0 := hr c0 (List.mem_cons_self ..)
    let env0 : List (Option W) := [some (.val (.tuple ((c0 :: cs).map ptD))), none, none, none, none, none, none, none]
    have hc : compLoop [5] (tName 5) cTrue el__law_volume_2 (cs.map ptD) [] ⟨env0, st⟩ = .ok ([] ++ cs.map fun c => rowL (sub c0 c)) ⟨env0, st⟩ := by
      refine compLoop_via _ _ _ _ (by simp; omega) fun c hcm => ?_
      have hcr := hr c (List.mem_cons_of_mem _ hcm)
      have hci : compLoop [6, 7] (tTupG 2 (tConsG (tName 6) (tConsG (tName 7) tNilG))) cTrue el__law_volume_1 ((c.zip c0).map fun x => .tuple [frac x.1, frac x.2]) [] ⟨[some (.val (.tuple ((c0 :: cs).map ptD))), none, none, none, none, some (.val (ptD c)), none, none], st⟩ = .ok ([] ++ (c.zip c0).map fun x => frac (x.1 - x.2)) ⟨[some (.val (.tuple ((c0 :: cs).map ptD))), none, none, none, none, some (.val (ptD c)), none, none], st⟩ := by
        refine compLoop_via _ _ _ _ (by simp; omega) fun x hx => ?_
        have hx' := List.of_mem_zip (a := x.1) (b := x.2) hx
        have e := s__law_less (hcr.2 _ hx'.1) (hs0.2 _ hx'.2) (by omega) (st := st)
        simp [el__law_volume_1, e]
      have hm : ((c.zip c0).map fun x => frac (x.1 - x.2)) = (sub c0 c).map frac := by
        unfold sub
        rw [zip_turn (fun x y => frac (x - y)) c c0, List.map_map]
        rfl
      rw [hm] at hci
      have hzw : zipW [.val (ptD c), .val (ptD c0)] = some ((c.zip c0).map fun x => .tuple [frac x.1, frac x.2]) := by
        show some (pairs (c.map frac) (c0.map frac)) = _
        rw [pairs_map]
      have x1 : ixD (.tuple ((c0 :: cs).map ptD)) (.int 0) = some (.val (ptD c0)) := ixD_0
      simp only [List.map_cons] at x1 hci
      simp [el__law_volume_2, env0, x1, hzw]
      rw [hci]
      simp [rowL]
    have hm : (cs.map fun c => rowL (sub c0 c)) = (edges (c0 :: cs)).map rowL := by simp [edges]
    rw [hm] at hc
    have c1 : cutL ((c0 :: cs).map ptD) (some 1) none = cs.map ptD := by
      have := cut_from ((c0 :: cs).map ptD) (k := 1) (by simp)
      exact this
    have hel : ((edges (c0 :: cs)).map rowL).length = n := by rw [List.length_map, sq.len]
    have hrg : rangeW [.val (.int (((edges (c0 :: cs)).map rowL).length : Int))] = some (rangeD 0 n) := by rw [hel]; exact range_row (by omega)
    have af := absFrac g
    rw [g2] at af
    have to := tup_over f1
    have hb := s__law_by (p := absR g) (q := 1 / (fact n : Rat)) (ht_absR g1) (ht_over (L := 5) f1 f2 (by decide)) (by omega) (st := st)
    rw [g2, over_eq, ← g2] at hb
    rw [g2] at hb
    obtain ⟨y, ul⟩ := under_loop hn (v0 := some (.val (.tuple ((c0 :: cs).map ptD)))) (v1 := some (.val (.list ((edges (c0 :: cs)).map rowL)))) (v2 := some (.val (frac g))) (o5 := none) (o6 := none) (o7 := none) (st := st)
    show m__law_volume [.val (.tuple ((c0 :: cs).map ptD))] st = _
    unfold vol
    generalize (edges (c0 :: cs)).map rowL = EE at *
    generalize fact n = fn at *
    generalize absR (det (edges (c0 :: cs))) = A at *
    simp only [env0, List.map_cons] at c1 hc ul
    simp [m__law_volume, b__law_volume, fnOf_app, c1]
    rw [hc]
    simp [g3, hrg]
    rw [ul]
    have afn : PyData.tuple [.int (if g.num < 0 then -g.num else g.num), .int (g.den : Int)] = frac A := af
    simp [h2, to, afn, hb]
end K22
namespace K22
open PySem PySem.Spec PyProof.Rows L2 Z
/-- a cell that d cuts by sevenths made, its size that of its corners -/
structure C7 (d n : Nat) (cs : List (List Rat)) (s : Rat) : Prop where
  len : cs.length = n + 1
  n4 : n ≤ 4
  d4 : d ≤ 4
  row : ∀ c ∈ cs, c.length = n ∧ ∀ q ∈ c, ∃ m : Nat, m ≤ 7 ^ d ∧ q = (m : Rat) / ((7 ^ d : Nat) : Rat)
  size : Pt (5 * d + 6) s
  vol : vol n cs = s
theorem pow7 {d : Nat} (h : d ≤ 4) : 7 ^ d ≤ 2401 ∧ 0 < 7 ^ d := by
  match d, h with
  | 0, _ => decide
  | 1, _ => decide
  | 2, _ => decide
  | 3, _ => decide
  | 4, _ => decide
theorem quot_eq (m k : Nat) : (m : Rat) / (k : Rat) = Rat.divInt (m : Int) (k : Int) := by
  rw [div_eq]
  show Rat.divInt ((m : Int) * 1) (1 * (k : Int)) = _
  rw [Int.mul_one, Int.one_mul]
theorem pt_quot {L m k : Nat} (hk : k ≠ 0) (h : m ≤ k) (hl : k < 2 ^ L) : Pt L ((m : Rat) / (k : Rat)) := by
  have e := quot_eq m k
  have hk' : (0 : Rat) < (k : Rat) := by
    have : (0 : Int) < ((k : Nat) : Int) := by omega
    exact_mod_cast this
  refine ⟨?_, ?_, ?_⟩
  · rw [e]
    exact Ht.divInt hk (by rw [Int.natAbs_natCast]; omega) hl
  · rw [Rat.div_def]
    exact Rat.mul_nonneg (by exact_mod_cast Int.natCast_nonneg m) (by have := Rat.inv_pos.mpr hk'; grind)
  · have h2 : (m : Rat) ≤ (k : Rat) := by exact_mod_cast (Int.ofNat_le.mpr h)
    have h3 := Rat.inv_pos.mpr hk'
    have h4 := Rat.mul_nonneg (a := (k : Rat) - m) (b := (k : Rat)⁻¹) (by grind) (by grind)
    have h5 : (k : Rat) * (k : Rat)⁻¹ = 1 := Rat.mul_inv_cancel _ (by grind)
    rw [Rat.div_def]
    grind
theorem C7.pts {d n : Nat} {cs : List (List Rat)} {s : Rat} (c : C7 d n cs s) : ∀ r ∈ cs, r.length = n ∧ ∀ q ∈ r, Pt 12 q := fun r hr => by
  obtain ⟨h1, h2⟩ := c.row r hr
  refine ⟨h1, fun q hq => ?_⟩
  obtain ⟨m, hm, rfl⟩ := h2 q hq
  obtain ⟨p1, p2⟩ := pow7 c.d4
  exact pt_quot (by omega) hm (by omega)
theorem C7.cell {d n : Nat} {cs : List (List Rat)} {s : Rat} (c : C7 d n cs s) : Cell 26 n cs s := ⟨c.len, c.n4, fun r hr => ⟨(c.pts r hr).1, fun q hq => ((c.pts r hr).2 q hq).mono (by decide)⟩, c.size.mono (by have := c.d4; omega)⟩
theorem C7.cn {d n : Nat} {cs : List (List Rat)} {s : Rat} (c : C7 d n cs s) : Cn n cs := ⟨c.len, c.n4, fun r hr => ⟨(c.pts r hr).1, fun q hq => ((c.pts r hr).2 q hq).ht⟩⟩
theorem C7.dt {d n : Nat} {cs : List (List Rat)} {s : Rat} (c : C7 d n cs s) : absR (K22.det (edges cs)) = s * (fact n : Rat) := by
  have h := c.vol
  obtain ⟨f1, f2⟩ := fact_pos c.n4
  have := nat_nz f1
  unfold K22.vol at h
  grind
theorem C7.hA {d n : Nat} {cs : List (List Rat)} {s : Rat} (c : C7 d n cs s) : Ht 5000 (absR (K22.det (edges cs))) := by
  obtain ⟨f1, f2⟩ := fact_pos c.n4
  rw [c.dt]
  exact (ht_mul c.size.ht (ht_nat (L := 5) f2 (by decide))).mono (by have := c.d4; omega)
theorem s_volume7 {d n : Nat} {cs : List (List Rat)} {s : Rat} (c : C7 d n cs s) {st : Store} : m_volume [.val (cellD cs s)] st = .ok (.val (frac s)) st := by
  have := s_volume c.cell (by decide) c.cn c.hA (st := st)
  rw [c.vol] at this
  exact this
theorem s__law_volume7 {d n : Nat} {cs : List (List Rat)} {s : Rat} (c : C7 d n cs s) {st : Store} : m__law_volume [.val (corD cs)] st = .ok (.val (frac s)) st := by
  have := s__law_volume c.cn (st := st)
  rw [c.vol] at this
  exact this
theorem s_is_cell7 {d n : Nat} {cs : List (List Rat)} {s : Rat} (c : C7 d n cs s) {st : Store} : m_is_cell [.val (cellD cs s)] st = .ok (.val (.bool true)) st := s_is_cell c.cell (by decide)
theorem div_mul_ {a z b : Rat} : z * a / b = z * (a / b) := by rw [Rat.div_def, Rat.div_def]; grind
/-- both pieces of a cut by sevenths -/
theorem C7.cut {d n : Nat} {cs : List (List Rat)} {s z : Rat} (c : C7 d n cs s) (hd : d < 4) {i j : Nat} (hij : i < j) {p q : List Rat} (hi : cs[i]? = some p) (hj : cs[j]? = some q) {u : Nat} (hu : u ≤ 7) (hz : Pt 3 z) (e : z = (u : Rat) / ((7 : Nat) : Rat)) :
    C7 (d + 1) n (cs.set j (mid p q z)) (z * s) ∧ C7 (d + 1) n (cs.set i (mid p q z)) ((1 - z) * s) := by
  obtain ⟨p1, p2⟩ := pow7 c.d4
  have hp := c.row p (List.mem_of_getElem? hi)
  have hq := c.row q (List.mem_of_getElem? hj)
  have up : ∀ x : Rat, (∃ m : Nat, m ≤ 7 ^ d ∧ x = (m : Rat) / ((7 ^ d : Nat) : Rat)) → ∃ m : Nat, m ≤ 7 ^ (d + 1) ∧ x = (m : Rat) / ((7 ^ (d + 1) : Nat) : Rat) := fun x ⟨m, hm, hx⟩ => by
    refine ⟨7 * m, by rw [Nat.pow_succ]; omega, ?_⟩
    rw [hx, Nat.pow_succ]
    have k1 : ((7 * m : Nat) : Rat) = 7 * (m : Rat) := by exact_mod_cast rfl
    have k2 : ((7 ^ d * 7 : Nat) : Rat) = ((7 ^ d : Nat) : Rat) * 7 := by exact_mod_cast rfl
    have k3 : ((7 ^ d : Nat) : Rat) ≠ 0 := nat_nz (by omega)
    rw [k1, k2]
    generalize ((7 ^ d : Nat) : Rat) = Q at *
    generalize (m : Rat) = M at *
    grind
  have hmid : (mid p q z).length = n ∧ ∀ x ∈ mid p q z, ∃ m : Nat, m ≤ 7 ^ (d + 1) ∧ x = (m : Rat) / ((7 ^ (d + 1) : Nat) : Rat) := by
    refine ⟨by rw [mid_length (by rw [hp.1, hq.1])]; exact hp.1, fun x hx => ?_⟩
    obtain ⟨y, hy, rfl⟩ := List.mem_map.mp hx
    have hy' := List.of_mem_zip (a := y.1) (b := y.2) hy
    obtain ⟨a, ha, ea⟩ := hp.2 _ hy'.1
    obtain ⟨b, hb, eb⟩ := hq.2 _ hy'.2
    obtain ⟨w, hw⟩ : ∃ w, w + u = 7 := ⟨7 - u, by omega⟩
    refine ⟨w * a + u * b, ?_, ?_⟩
    · have h1 : w * a ≤ w * 7 ^ d := Nat.mul_le_mul_left _ ha
      have h2 : u * b ≤ u * 7 ^ d := Nat.mul_le_mul_left _ hb
      have h3 : w * 7 ^ d + u * 7 ^ d = 7 * 7 ^ d := by rw [← Nat.add_mul, hw]
      rw [Nat.pow_succ]; omega
    · rw [ea, eb, e, Nat.pow_succ]
      have k0 : (w : Rat) + (u : Rat) = 7 := by
        have : ((w + u : Nat) : Rat) = 7 := by rw [hw]; rfl
        rw [← this]
        exact_mod_cast rfl
      have k1 : ((w * a + u * b : Nat) : Rat) = (w : Rat) * (a : Rat) + (u : Rat) * (b : Rat) := by exact_mod_cast rfl
      have k2 : ((7 ^ d * 7 : Nat) : Rat) = ((7 ^ d : Nat) : Rat) * 7 := by exact_mod_cast rfl
      have k3 : ((7 ^ d : Nat) : Rat) ≠ 0 := nat_nz (by omega)
      have k4 : ((7 : Nat) : Rat) = 7 := rfl
      rw [k1, k2, k4]
      generalize ((7 ^ d : Nat) : Rat) = Q at *
      generalize (a : Rat) = A at *
      generalize (b : Rat) = B at *
      generalize (u : Rat) = U at *
      generalize (w : Rat) = V at *
      have : V = 7 - U := by grind
      subst this
      grind
  have row : ∀ k, ∀ r ∈ cs.set k (mid p q z), r.length = n ∧ ∀ q ∈ r, ∃ m : Nat, m ≤ 7 ^ (d + 1) ∧ q = (m : Rat) / ((7 ^ (d + 1) : Nat) : Rat) := fun k r hr => by
    rcases List.mem_or_eq_of_mem_set hr with h | rfl
    · exact ⟨(c.row r h).1, fun x hx => up x ((c.row r h).2 x hx)⟩
    · exact hmid
  obtain ⟨d1, d2⟩ := det_cut c.n4 c.len (fun r hr => (c.row r hr).1) hij hi hj z
  have v := c.vol
  unfold K22.vol at v
  have z0 : absR z = z := absR_of hz.lo
  have z1 : absR (1 - z) = 1 - z := absR_of (by have := hz.hi; grind)
  have d4 := c.d4
  refine ⟨⟨by rw [List.length_set]; exact c.len, c.n4, by omega, row j, (pt_mul hz c.size).mono (by omega), ?_⟩, ⟨by rw [List.length_set]; exact c.len, c.n4, by omega, row i, (pt_mul (pt_rest hz) c.size).mono (by omega), ?_⟩⟩
  · unfold K22.vol
    rw [d1, absR_mul, z0, div_mul_, v]
  · unfold K22.vol
    rw [d2, absR_mul, z1, div_mul_, v]
/-! ### first cells -/
def ratOf : D → Rat
  | .tuple [.int a, .int _] => (a : Rat)
  | _ => 0
def rowOf : D → List Rat
  | .tuple ds => ds.map ratOf
  | _ => []
def is01 : D → Bool
  | .tuple [.int a, .int b] => (decide (a = 0) || decide (a = 1)) && decide (b = 1)
  | _ => false
def isRow01 (n : Nat) : D → Bool
  | .tuple ds => decide (ds.length = n) && ds.all is01
  | _ => false
def isFirstB (n : Nat) : D → Bool
  | .tuple [.tuple cs, .tuple [.int a, .int k]] => decide (cs.length = n + 1) && (cs.all (isRow01 n) && (decide (a = 1) && (decide (k = (fact n : Nat)) && decide (absR (det (edges (cs.map rowOf))) = 1))))
  | _ => false
theorem is01_ok {d : D} (h : is01 d = true) : d = frac (ratOf d) ∧ (ratOf d = 0 ∨ ratOf d = 1) := by
  unfold is01 at h
  split at h
  · rename_i a b
    simp only [Bool.and_eq_true, Bool.or_eq_true, decide_eq_true_eq] at h
    obtain ⟨h1 | h1, rfl⟩ := h
    · subst h1; exact ⟨rfl, .inl rfl⟩
    · subst h1; exact ⟨rfl, .inr rfl⟩
  · cases h
theorem map_id_of {α : Type} {f : α → α} : ∀ {l : List α}, (∀ x ∈ l, x = f x) → l = l.map f
  | [], _ => rfl
  | x :: l, h => by
    rw [List.map_cons, ← h x (List.mem_cons_self ..), ← map_id_of fun y hy => h y (List.mem_cons_of_mem _ hy)]
theorem isRow01_ok {n : Nat} {d : D} (h : isRow01 n d = true) : d = ptD (rowOf d) ∧ (rowOf d).length = n ∧ ∀ q ∈ rowOf d, q = 0 ∨ q = 1 := by
  unfold isRow01 at h
  split at h
  · rename_i ds
    simp only [Bool.and_eq_true, decide_eq_true_eq, List.all_eq_true] at h
    refine ⟨?_, by simpa [rowOf] using h.1, fun q hq => ?_⟩
    · show PyData.tuple ds = .tuple ((ds.map ratOf).map frac)
      congr 1
      rw [List.map_map]
      exact map_id_of fun x hx => (is01_ok (h.2 x hx)).1
    · obtain ⟨x, hx, rfl⟩ := List.mem_map.mp (show q ∈ ds.map ratOf from hq)
      exact (is01_ok (h.2 x hx)).2
  · cases h
theorem isFirstB_ok {n : Nat} (hn : n ≤ 4) {d : D} (h : isFirstB n d = true) : ∃ cs, d = cellD cs (1 / (fact n : Rat)) ∧ C7 0 n cs (1 / (fact n : Rat)) := by
  unfold isFirstB at h
  split at h
  · rename_i cs a k
    simp only [Bool.and_eq_true, decide_eq_true_eq, List.all_eq_true] at h
    obtain ⟨h1, h2, rfl, rfl, h5⟩ := h
    obtain ⟨f1, f2⟩ := fact_pos hn
    refine ⟨cs.map rowOf, ?_, ⟨by simpa using h1, hn, by decide, fun c hc => ?_, pt_over (L := 5) f1 f2 (by decide), ?_⟩⟩
    · show PyData.tuple [.tuple cs, .tuple [.int 1, .int (fact n : Nat)]] = .tuple [.tuple ((cs.map rowOf).map ptD), _]
      rw [tup_over f1, List.map_map]
      congr 3
      exact map_id_of fun x hx => (isRow01_ok (h2 x hx)).1
    · obtain ⟨x, hx, rfl⟩ := List.mem_map.mp hc
      obtain ⟨_, r1, r2⟩ := isRow01_ok (h2 x hx)
      refine ⟨r1, fun q hq => ?_⟩
      rcases r2 q hq with rfl | rfl
      · exact ⟨0, by decide, by decide +kernel⟩
      · exact ⟨1, by decide, by decide +kernel⟩
    · unfold vol
      rw [h5]
  · cases h
def firstC (n : Nat) (o : Out Store W) : Option (Bool × Bool × Store) := match o with
  | .ok (.val (.tuple ds)) st' => some (ds.all (isFirstB n), decide (ds.length = fact n), st')
  | _ => none
theorem firsts0 (st : Store) : firstC 0 (m_first_cells [.val (.int 0)] st) = some (true, true, st) := by kernel_rfl
theorem firsts1 (st : Store) : firstC 1 (m_first_cells [.val (.int 1)] st) = some (true, true, st) := by kernel_rfl
theorem firsts2 (st : Store) : firstC 2 (m_first_cells [.val (.int 2)] st) = some (true, true, st) := by kernel_rfl
theorem firsts3 (st : Store) : firstC 3 (m_first_cells [.val (.int 3)] st) = some (true, true, st) := by kernel_rfl
theorem firsts4 (st : Store) : firstC 4 (m_first_cells [.val (.int 4)] st) = some (true, true, st) := by kernel_rfl
theorem both0 (st : Store) : m__law_firsts [.val (.int 0)] st = m_first_cells [.val (.int 0)] st := by kernel_rfl
theorem both1 (st : Store) : m__law_firsts [.val (.int 1)] st = m_first_cells [.val (.int 1)] st := by kernel_rfl
theorem both2 (st : Store) : m__law_firsts [.val (.int 2)] st = m_first_cells [.val (.int 2)] st := by kernel_rfl
theorem both3 (st : Store) : m__law_firsts [.val (.int 3)] st = m_first_cells [.val (.int 3)] st := by kernel_rfl
theorem both4 (st : Store) : m__law_firsts [.val (.int 4)] st = m_first_cells [.val (.int 4)] st := by kernel_rfl
theorem firstC_ok {n : Nat} (hn : n ≤ 4) {o : Out Store W} {st : Store} (h : firstC n o = some (true, true, st)) : ∃ ds, o = .ok (.val (.tuple ds)) st ∧ ds.length = fact n ∧ ∀ d ∈ ds, ∃ cs, d = cellD cs (1 / (fact n : Rat)) ∧ C7 0 n cs (1 / (fact n : Rat)) := by
  unfold firstC at h
  split at h
  · rename_i ds st'
    simp only [Option.some.injEq, Prod.mk.injEq, decide_eq_true_eq, List.all_eq_true] at h
    obtain ⟨h1, h2, rfl⟩ := h
    exact ⟨ds, rfl, h2, fun d hd => isFirstB_ok hn (h1 d hd)⟩
  · cases h
theorem s_firsts {n : Nat} (hn : n ≤ 4) {st : Store} : ∃ ds, m_first_cells [.val (.int n)] st = .ok (.val (.tuple ds)) st ∧ m__law_firsts [.val (.int n)] st = .ok (.val (.tuple ds)) st ∧ ds.length = fact n ∧ ∀ d ∈ ds, ∃ cs, d = cellD cs (1 / (fact n : Rat)) ∧ C7 0 n cs (1 / (fact n : Rat)) := by
  have key : firstC n (m_first_cells [.val (.int n)] st) = some (true, true, st) ∧ m__law_firsts [.val (.int n)] st = m_first_cells [.val (.int n)] st := by
    match n, hn with
    | 0, _ => exact ⟨firsts0 st, both0 st⟩
    | 1, _ => exact ⟨firsts1 st, both1 st⟩
    | 2, _ => exact ⟨firsts2 st, both2 st⟩
    | 3, _ => exact ⟨firsts3 st, both3 st⟩
    | 4, _ => exact ⟨firsts4 st, both4 st⟩
  obtain ⟨k1, k2⟩ := key
  obtain ⟨ds, h1, h2, h3⟩ := firstC_ok hn k1
  exact ⟨ds, h1, by rw [k2, h1], h2, h3⟩
end K22
namespace K22
open PySem PySem.Spec PyProof.Rows L2 Z
theorem nice_pt {n : Nat} {p : List Rat} (h : p.length ≤ 1000) : Nice (n + 3) (ptD p) := ⟨by simpa using h, fun d hd => by
  obtain ⟨q, _, rfl⟩ := List.mem_map.mp hd
  exact nice_frac⟩
theorem nice_cell {n m : Nat} {cs : List (List Rat)} {s : Rat} (h1 : cs.length ≤ 1000) (h2 : ∀ c ∈ cs, c.length ≤ 1000) : Nice (n + 5) (cellD cs s) := ⟨by show 2 ≤ 1000; decide, fun d hd => by
  have : d = corD cs ∨ d = frac s := by simpa using hd
  rcases this with rfl | rfl
  · exact ⟨by simpa using h1, fun d hd => by
      obtain ⟨q, hq, rfl⟩ := List.mem_map.mp hd
      exact nice_pt (h2 q hq)⟩
  · exact nice_frac⟩
theorem C7.nice {d n m : Nat} {cs : List (List Rat)} {s : Rat} (c : C7 d n cs s) : Nice (m + 5) (cellD cs s) := nice_cell (m := m) (by have := c.len; have := c.n4; omega) fun r hr => by
  have := (c.row r hr).1
  have := c.n4
  omega
theorem piece_turn {d n r k : Nat} {cs : List (List Rat)} {s : Rat} (c : C7 d n cs s) {st : Store} (hw : Well st r k) (hk : k ≤ 50000) {o1 o2 o3 o4 o5 o6 o7 o8 o9 o10 o11 o12 : Option W} :
    ∃ st', (tName 9 (cellD cs s) >>= fun _ => lp__law_right_1) ⟨[some (.ref r), o1, o2, o3, o4, o5, o6, o7, o8, o9, o10, o11, o12], st⟩ = .ok .next ⟨[some (.ref r), o1, o2, o3, o4, o5, o6, o7, o8, some (.val (cellD cs s)), some (.val (frac s)), o11, o12], st'⟩ ∧ Well st' r (k + 1) := by
  have hsz := sizeLine_big
  have h2 : 2 ≤ sizeLine := by omega
  have h1 : 1 ≤ sizeLine := by omega
  obtain ⟨t, st1, f1, ht, w1⟩ := s__law_take hw (m := 2) (by decide) (by decide) (by omega)
  refine ⟨st1, ?_, w1⟩
  have f1' : m__law_take [.ref r, .val (.int 2)] st = .ok (.val (.int t)) st1 := f1
  have e1 := s_volume7 c (st := st1)
  have e2 := s_is_cell7 c (st := st1)
  have e3 := s__law_volume7 c (st := st1)
  have x0 : ixD (cellD cs s) (.int 0) = some (.val (corD cs)) := ixD_0
  have x1 : ixD (cellD cs s) (.int 1) = some (.val (frac s)) := ixD_1
  have ml : mulD (.list [frac s]) (.int 2) = some (.own [frac s, frac s]) := rfl
  have sm := same_refl 6 (.list [frac s, frac s]) st1 ⟨by show 2 ≤ 1000; decide, fun d hd => by
    have : d = frac s := by simpa using hd
    subst this
    exact nice_frac⟩
  have isn : isNotD (.bool true) (.bool true) = some false := rfl
  have hdd : (t = 0) = True ∨ (t = 0) = False := by by_cases h : t = 0 <;> simp [h]
  rcases hdd with hd1 | hd1
  all_goals simp [lp__law_right_1, f1', hd1, e1, e2, e3, x0, x1, ml, sm, isn, h1, h2, permW]
theorem cut_turn {d n r k : Nat} {cs : List (List Rat)} {s : Rat} (c : C7 d n cs s) (hd4 : d < 4) (hn : n ≠ 0) {st : Store} (hw : Well st r k) (hk : k ≤ 40000) {o2 o4 o5 o6 o7 o8 o9 o10 o11 o12 : Option W} {l : D} :
    ∃ cs' s' p5 p6 p7 p8 p9 p10 st', (tName 4 l >>= fun _ => lp__law_right_2) ⟨[some (.ref r), some (.val (.int n)), o2, some (.val (cellD cs s)), o4, o5, o6, o7, o8, o9, o10, o11, o12], st⟩ = .ok .next ⟨[some (.ref r), some (.val (.int n)), o2, some (.val (cellD cs' s')), some (.val l), p5, p6, p7, p8, p9, p10, o11, o12], st'⟩ ∧ C7 (d + 1) n cs' s' ∧ Well st' r (k + 10) := by
  have hsz := sizeLine_big
  have h2 : 2 ≤ sizeLine := by omega
  have h1 : 1 ≤ sizeLine := by omega
  have h4 := c.n4
  obtain ⟨i, st1, f1, hi, w1⟩ := s__law_take hw (m := n) (by omega) (by omega) (by omega)
  obtain ⟨t, st2, f2, htt, w2⟩ := s__law_take w1 (m := n - i) (by omega) (by omega) (by omega)
  obtain ⟨u, st3, f3, hu, w3⟩ := s__law_take w2 (m := 5) (by decide) (by decide) (by omega)
  obtain ⟨b, st4, f4, hb, w4⟩ := s__law_take w3 (m := 2) (by decide) (by decide) (by omega)
  have hz : Pt 3 (Rat.divInt (1 + (u : Int)) 7) ∧ Rat.divInt (1 + (u : Int)) 7 ≠ 0 ∧ Rat.divInt (1 + (u : Int)) 7 ≠ 1 ∧ Rat.divInt (1 + (u : Int)) 7 = ((1 + u : Nat) : Rat) / ((7 : Nat) : Rat) := by
    have : u = 0 ∨ u = 1 ∨ u = 2 ∨ u = 3 ∨ u = 4 := by omega
    rcases this with h | h | h | h | h <;> subst h <;> exact ⟨⟨⟨by decide, by decide⟩, by decide, by decide⟩, by decide, by decide, by decide +kernel⟩
  have f5 := s__law_part (L := 3) (a := 1 + (u : Int)) (b := 7) (by decide) (by decide) (by decide) (st := st3)
  generalize Rat.divInt (1 + (u : Int)) 7 = z at hz f5
  obtain ⟨hz, z0, z1, ze⟩ := hz
  obtain ⟨j, hj⟩ : ∃ j : Nat, j = i + 1 + t := ⟨_, rfl⟩
  have hcl := c.len
  obtain ⟨p, ci⟩ : ∃ p, cs[i]? = some p := ⟨_, List.getElem?_eq_getElem (by omega)⟩
  obtain ⟨q, cj⟩ : ∃ p, cs[j]? = some p := ⟨_, List.getElem?_eq_getElem (by omega)⟩
  have g1 := s_cut c.cell ci cj (by omega) hz z0 z1 (by omega) (st := st4)
  have g2 := s__law_cut_cell c.cell ci cj hz (by omega) (st := st4)
  obtain ⟨cA, cB⟩ := c.cut hd4 (by omega) ci cj (u := 1 + u) (by omega) hz ze
  generalize cs.set j (mid p q z) = A at *
  generalize cs.set i (mid p q z) = B at *
  generalize z * s = sA at *
  generalize (1 - z) * s = sB at *
  have sm := same_refl 6 (.tuple [cellD A sA, cellD B sB]) st4 ⟨by show 2 ≤ 1000; decide, fun d hd => by
    have : d = cellD A sA ∨ d = cellD B sB := by simpa using hd
    rcases this with rfl | rfl
    · exact cA.nice
    · exact cB.nice⟩
  have ej : (i : Int) + 1 + t = (j : Int) := by omega
  have en : (n : Int) - i = ((n - i : Nat) : Int) := by omega
  obtain ⟨st5, g3, w5⟩ := piece_turn cA w4 (by omega) (o1 := some (.val (.int n))) (o2 := o2) (o3 := some (.val (cellD cs s))) (o4 := some (.val l)) (o5 := some (.val (.int i))) (o6 := some (.val (.int j))) (o7 := some (.val (frac z))) (o8 := some (.val (.tuple [cellD A sA, cellD B sB]))) (o9 := o9) (o10 := o10) (o11 := o11) (o12 := o12)
  obtain ⟨st6, g4, w6⟩ := piece_turn cB w5 (by omega) (o1 := some (.val (.int n))) (o2 := o2) (o3 := some (.val (cellD cs s))) (o4 := some (.val l)) (o5 := some (.val (.int i))) (o6 := some (.val (.int j))) (o7 := some (.val (frac z))) (o8 := some (.val (.tuple [cellD A sA, cellD B sB]))) (o9 := some (.val (cellD A sA))) (o10 := some (.val (frac sA))) (o11 := o11) (o12 := o12)
  have hloop : loopF (tName 9) lp__law_right_1 [cellD A sA, cellD B sB] ⟨[some (.ref r), some (.val (.int n)), o2, some (.val (cellD cs s)), some (.val l), some (.val (.int i)), some (.val (.int j)), some (.val (frac z)), some (.val (.tuple [cellD A sA, cellD B sB])), o9, o10, o11, o12], st4⟩ = .ok .next ⟨[some (.ref r), some (.val (.int n)), o2, some (.val (cellD cs s)), some (.val l), some (.val (.int i)), some (.val (.int j)), some (.val (frac z)), some (.val (.tuple [cellD A sA, cellD B sB])), some (.val (cellD B sB)), some (.val (frac sB)), o11, o12], st6⟩ := by
    rw [loopF_step g3, loopF_step g4, loopF_nil]
  obtain ⟨dd, st7, g5, hdd, w7⟩ := s__law_of w6 (by omega) (ds := [cellD A sA, cellD B sB]) (by simp) (by simp)
  have hd' : ∃ cs' s', dd = cellD cs' s' ∧ C7 (d + 1) n cs' s' := by
    rcases List.mem_cons.mp hdd with rfl | hdd
    · exact ⟨_, _, rfl, cA⟩
    · rcases List.mem_cons.mp hdd with rfl | hdd
      · exact ⟨_, _, rfl, cB⟩
      · cases hdd
  obtain ⟨cs', s', rfl, cc⟩ := hd'
  refine ⟨cs', s', some (.val (.int i)), some (.val (.int j)), some (.val (frac z)), some (.val (.tuple [cellD A sA, cellD B sB])), some (.val (cellD B sB)), some (.val (frac sB)), st7, ?_, cc, w7.mono (by omega)⟩
  have f3' : m__law_take [.ref r, .val (.int 5)] st2 = .ok (.val (.int u)) st3 := f3
  have f4' : m__law_take [.ref r, .val (.int 2)] st3 = .ok (.val (.int b)) st4 := f4
  have hbd : (b = 0) = True ∨ (b = 0) = False := by by_cases h : b = 0 <;> simp [h]
  rcases hbd with hd1 | hd1
  all_goals
    simp [lp__law_right_2, f1, en, f2, f3', f5, ej, f4', hd1, g1, g2, sm, permW]
    rw [hloop]
    simp [g5]
end K22
namespace K22
open PySem PySem.Spec PyProof.Rows L2 Z
theorem flatten_one {α : Type} (n : Nat) (x : α) : (List.replicate n [x]).flatten = List.replicate n x := by
  induction n with
  | zero => rfl
  | succ n ih => rw [List.replicate_succ, List.flatten_cons, ih]; rfl
theorem sub_self (c : List Rat) : ∀ x ∈ sub c c, x = 0 := fun x hx => by
  obtain ⟨y, hy, rfl⟩ := List.mem_map.mp hx
  have : ∀ (c : List Rat), ∀ y ∈ c.zip c, y.1 = y.2 := fun c => by
    induction c with
    | nil => intro y hy; simp at hy
    | cons a c ih =>
      intro y hy
      rcases List.mem_cons.mp (show y ∈ (a, a) :: c.zip c from hy) with rfl | hy
      · rfl
      · exact ih y hy
  have := this c y hy
  grind
theorem s_flat {d n : Nat} {cs : List (List Rat)} {s : Rat} (c : C7 d n cs s) {c0 : List Rat} (h0 : c0 ∈ cs) {st : Store} : m_volume [.val (cellD (List.replicate (n + 1) c0) s)] st = .ok (.val (frac (if n = 0 then 1 else 0))) st := by
  have hp := c.pts c0 h0
  have hcell : Cell 26 n (List.replicate (n + 1) c0) s := ⟨by simp, c.n4, fun r hr => by
    obtain ⟨_, rfl⟩ := List.mem_replicate.mp hr
    exact ⟨hp.1, fun q hq => (hp.2 q hq).mono (by decide)⟩, c.cell.size⟩
  have hcn : Cn n (List.replicate (n + 1) c0) := ⟨by simp, c.n4, fun r hr => by
    obtain ⟨_, rfl⟩ := List.mem_replicate.mp hr
    exact ⟨hp.1, fun q hq => (hp.2 q hq).ht⟩⟩
  have he : edges (List.replicate (n + 1) c0) = List.replicate n (sub c0 c0) := by
    rw [List.replicate_succ]
    show (List.replicate n c0).map (sub c0) = _
    rw [List.map_replicate]
  have hd : det (edges (List.replicate (n + 1) c0)) = if n = 0 then 1 else 0 := by
    rw [he]
    cases n with
    | zero => rfl
    | succ m =>
      rw [if_neg (by omega)]
      refine det_none (n := m) (by have := c.n4; omega) ⟨by simp, fun r hr => ?_⟩ fun r hr => ?_
      · obtain ⟨_, rfl⟩ := List.mem_replicate.mp hr
        rw [sub_length rfl]; exact hp.1
      · obtain ⟨_, rfl⟩ := List.mem_replicate.mp hr
        have := sub_self c0
        generalize sub c0 c0 = z at this
        cases z with
        | nil => rfl
        | cons a z => exact this a (List.mem_cons_self ..)
  have ha : absR (if n = 0 then 1 else 0) = if n = 0 then 1 else 0 := by split <;> exact absR_of (by decide)
  have := s_volume hcell (by decide) hcn (by
    rw [hd, ha]
    split
    · exact ht_one.mono (by decide)
    · exact ht_zero.mono (by decide)) (st := st)
  rw [this]
  unfold vol
  rw [hd, ha]
  congr 3
  split
  · rename_i h; subst h; decide +kernel
  · rw [Rat.div_def, Rat.zero_mul]
theorem tot_rep (m : Nat) (q : Rat) : tot (List.replicate m q) = (m : Rat) * q := by
  induction m with
  | zero => simp [Rat.zero_mul]
  | succ m ih =>
    rw [List.replicate_succ, tot_cons, ih]
    have : ((m + 1 : Nat) : Rat) = (m : Rat) + 1 := by exact_mod_cast rfl
    rw [this]; grind
theorem right_turn {r k n : Nat} (hn : n ≤ 4) {st : Store} (hw : Well st r k) (hk : k ≤ 30000) {o1 o2 o3 o4 o5 o6 o7 o8 o9 o10 o11 o12 : Option W} (no3 : notOwn (some o3) = true) :
    ∃ p2 p3 p4 p5 p6 p7 p8 p9 p10 p11 st', (tName 1 (.int n) >>= fun _ => lp__law_right_3) ⟨[some (.ref r), o1, o2, o3, o4, o5, o6, o7, o8, o9, o10, o11, o12], st⟩ = .ok .next ⟨[some (.ref r), some (.val (.int n)), p2, p3, p4, p5, p6, p7, p8, p9, p10, p11, o12], st'⟩ ∧ notOwn (some p3) = true ∧ Well st' r (k + 100) := by
  have hsz := sizeLine_big
  have h2 : 2 ≤ sizeLine := by omega
  have h1 : 1 ≤ sizeLine := by omega
  obtain ⟨b, st1, f1, hb, w1⟩ := s__law_take hw (m := 2) (by decide) (by decide) (by omega)
  obtain ⟨ds, f2, f3, hl, hds⟩ := s_firsts hn (st := st1)
  obtain ⟨fp1, fp2⟩ := fact_pos hn
  have sm := same_refl 6 (.tuple ds) st1 ⟨by omega, fun d hd => by
    obtain ⟨cs, rfl, c⟩ := hds d hd
    exact c.nice⟩
  have hc : compLoop [3] (tName 3) cTrue el__law_right_1 ds [] ⟨[some (.ref r), some (.val (.int n)), some (.val (.tuple ds)), none, o4, o5, o6, o7, o8, o9, o10, o11, o12], st1⟩ = .ok ([] ++ ds.map fun _ => frac (1 / (fact n : Rat))) ⟨[some (.ref r), some (.val (.int n)), some (.val (.tuple ds)), none, o4, o5, o6, o7, o8, o9, o10, o11, o12], st1⟩ := by
    refine compLoop_map _ _ _ (by simp; omega) fun d hd => ?_
    obtain ⟨cs, rfl, c⟩ := hds d hd
    have e := s_volume7 c (st := st1)
    simp [el__law_right_1, e]
  have hm : (ds.map fun _ => frac (1 / (fact n : Rat))) = (List.replicate (fact n) (1 / (fact n : Rat))).map frac := by
    rw [List.map_const', List.map_replicate, hl]
  have ht := (s__law_total (.inr rfl) hm (H := 6) (fun x hx => by
    obtain ⟨_, rfl⟩ := List.mem_replicate.mp hx
    exact ht_over (L := 5) fp1 fp2 (by decide)) (by rw [List.length_replicate]; omega) (st := st1)).1
  have one : tot (List.replicate (fact n) (1 / (fact n : Rat))) = 1 := by
    rw [tot_rep]
    have := nat_nz fp1
    grind
  rw [one] at ht
  have c1 : PyData.tuple [.int 1, .int 1] = frac 1 := rfl
  have c0 : PyData.tuple [.int 0, .int 1] = frac 0 := rfl
  obtain ⟨dd, st2, f4, hdd, w2⟩ := s__law_of w1 (by omega) (ds := ds) (by omega) (by omega)
  obtain ⟨cs, rfl, c⟩ := hds dd hdd
  have f1' : m__law_take [.ref r, .val (.int 2)] st = .ok (.val (.int b)) st1 := f1
  -- the loop, and what is left
  obtain ⟨d, cs', s', q4, q5, q6, q7, q8, q9, q10, st3, cc, hloop, w3⟩ : ∃ d cs' s' q4 q5 q6 q7 q8 q9 q10 st3, C7 d n cs' s' ∧ loopF (tName 4) lp__law_right_2 (rangeD 0 (if n = 0 then 0 else 4)) ⟨[some (.ref r), some (.val (.int n)), some (.val (.tuple ds)), some (.val (cellD cs (1 / (fact n : Rat)))), o4, o5, o6, o7, o8, o9, o10, o11, o12], st2⟩ = .ok .next ⟨[some (.ref r), some (.val (.int n)), some (.val (.tuple ds)), some (.val (cellD cs' s')), q4, q5, q6, q7, q8, q9, q10, o11, o12], st3⟩ ∧ Well st3 r (k + 50) := by
    by_cases h0 : n = 0
    · rw [if_pos h0]
      exact ⟨0, cs, _, o4, o5, o6, o7, o8, o9, o10, st2, c, rfl, w2.mono (by omega)⟩
    · rw [if_neg h0]
      obtain ⟨csa, sa, a5, a6, a7, a8, a9, a10, sta, ga, ca, wa⟩ := cut_turn c (by decide) h0 w2 (by omega) (o2 := some (.val (.tuple ds))) (o4 := o4) (o5 := o5) (o6 := o6) (o7 := o7) (o8 := o8) (o9 := o9) (o10 := o10) (o11 := o11) (o12 := o12) (l := .int 0)
      obtain ⟨csb, sb, b5, b6, b7, b8, b9, b10, stb, gb, cb, wb⟩ := cut_turn ca (by decide) h0 wa (by omega) (o2 := some (.val (.tuple ds))) (o4 := some (.val (.int 0))) (o5 := a5) (o6 := a6) (o7 := a7) (o8 := a8) (o9 := a9) (o10 := a10) (o11 := o11) (o12 := o12) (l := .int 1)
      obtain ⟨csc, sc, c5, c6, c7, c8, c9, c10, stc, gc, cc, wc⟩ := cut_turn cb (by decide) h0 wb (by omega) (o2 := some (.val (.tuple ds))) (o4 := some (.val (.int 1))) (o5 := b5) (o6 := b6) (o7 := b7) (o8 := b8) (o9 := b9) (o10 := b10) (o11 := o11) (o12 := o12) (l := .int 2)
      obtain ⟨csd, sd, d5, d6, d7, d8, d9, d10, std, gd, cd, wd⟩ := cut_turn cc (by decide) h0 wc (by omega) (o2 := some (.val (.tuple ds))) (o4 := some (.val (.int 2))) (o5 := c5) (o6 := c6) (o7 := c7) (o8 := c8) (o9 := c9) (o10 := c10) (o11 := o11) (o12 := o12) (l := .int 3)
      refine ⟨_, csd, sd, some (.val (.int 3)), d5, d6, d7, d8, d9, d10, std, cd, ?_, wd.mono (by omega)⟩
      show loopF _ _ [.int 0, .int 1, .int 2, .int 3] _ = _
      rw [loopF_step ga, loopF_step gb, loopF_step gc, loopF_step gd, loopF_nil]
  have hcl := cc.len
  have hn4 := cc.n4
  cases cs' with
  | nil => simp at hcl
  | cons k0 cr =>
    have fl := s_flat cc (c0 := k0) (List.mem_cons_self ..) (st := st3)
    have x0 : ixD (cellD (k0 :: cr) s') (.int 0) = some (.val (corD (k0 :: cr))) := ixD_0
    have x1 : ixD (cellD (k0 :: cr) s') (.int 1) = some (.val (frac s')) := ixD_1
    have xs : slD (corD (k0 :: cr)) none (some 1) = some (.val (.tuple [ptD k0])) := by
      show slD (.tuple ((k0 :: cr).map ptD)) none (some 1) = _
      rw [slD_tup]
      have := cut_to ((k0 :: cr).map ptD) (k := 1) (by simp)
      rw [show ((1 : Nat) : Int) = 1 from rfl] at this
      rw [this]
      simp
    have xl : lenD (corD (k0 :: cr)) = some (.val (.int ((n + 1 : Nat) : Int))) := by
      show lenD (.tuple ((k0 :: cr).map ptD)) = _
      rw [lenD_tuple, List.length_map, hcl]
    have xm : mulD (.tuple [ptD k0]) (.int ((n + 1 : Nat) : Int)) = some (.val (corD (List.replicate (n + 1) k0))) := by
      show (if _ then _ else _) = _
      rw [if_pos ⟨by omega, by omega, by simp⟩, Int.toNat_natCast, flatten_one]
      show _ = some (W.val (.tuple ((List.replicate (n + 1) k0).map ptD)))
      rw [List.map_replicate]
    have ef : PyData.tuple [corD (List.replicate (n + 1) k0), frac s'] = cellD (List.replicate (n + 1) k0) s' := rfl
    have smf := fun (q : Rat) => same_refl 6 (frac q) st3 nice_frac
    have hbd : (b = 0) = True ∨ (b = 0) = False := by by_cases h : b = 0 <;> simp [h]
    have pos : (0 < n) = (n ≠ 0) := propext Nat.pos_iff_ne_zero
    refine ⟨some (.val (.tuple ds)), some (.val (cellD (k0 :: cr) s')), q4, q5, q6, q7, q8, q9, q10, some (.val (cellD (List.replicate (n + 1) k0) s')), st3, ?_, rfl, w3.mono (by omega)⟩
    by_cases h0 : n = 0
    · rw [if_pos h0] at hloop fl
      have hr : rangeW [.val (.int 0)] = some (rangeD 0 0) := rfl
      have pf : (0 < n) = False := by rw [pos]; simp [h0]
      generalize (n + 1 : Nat) = n1 at *
      rcases hbd with hd1 | hd1
      all_goals
        simp [lp__law_right_3, f1', hd1, f2, f3, sm, permW, no3]
        rw [hc]
        simp [ht, c1, h2, f4, pf, hr]
        rw [hloop]
        simp [x0, x1, xs, xl, xm, ef, fl, c1, c0, pf, h2, smf]
    · rw [if_neg h0] at hloop fl
      have hr : rangeW [.val (.int 4)] = some (rangeD 0 4) := rfl
      have pf : (0 < n) = True := by rw [pos]; simp [h0]
      generalize (n + 1 : Nat) = n1 at *
      rcases hbd with hd1 | hd1
      all_goals
        simp [lp__law_right_3, f1', hd1, f2, f3, sm, permW, no3]
        rw [hc]
        simp [ht, c1, h2, f4, pf, hr]
        rw [hloop]
        simp [x0, x1, xs, xl, xm, ef, fl, c1, c0, pf, h2, smf]
def segD : D := .tuple [.tuple [.tuple [.tuple [.int 0, .int 1]], .tuple [.tuple [.int 1, .int 1]]], .tuple [.int 1, .int 1]]
def segP : D := .tuple [.tuple [.tuple [.tuple [.tuple [.int 0, .int 1]], .tuple [.tuple [.int 1, .int 3]]], .tuple [.int 1, .int 3]], .tuple [.tuple [.tuple [.tuple [.int 1, .int 3]], .tuple [.tuple [.int 1, .int 1]]], .tuple [.int 2, .int 3]]]
theorem seg_cut (st : Store) : m_cut [.val segD, .val (.int 0), .val (.int 1), .val (.tuple [.int 1, .int 3])] st = .ok (.val segP) st := by kernel_rfl
theorem seg_same (st : Store) : m__law_same 6 [.val segP, .val segP] st = .ok (.val (.bool true)) st := by kernel_rfl
theorem s__law_right {r : Nat} {st : Store} (hw : Well st r 0) : ∃ st', m__law_right [.ref r] st = .ok (.val (.bool true)) st' := by
  have hsz := sizeLine_big
  have h2 : 2 ≤ sizeLine := by omega
  have h1 : 1 ≤ sizeLine := by omega
  have h5 : 5 ≤ sizeLine := by omega
  obtain ⟨a2, a3, a4, a5, a6, a7, a8, a9, a10, a11, sta, ga, na, wa⟩ := right_turn (n := 0) (by decide) hw (by omega) (o1 := none) (o2 := none) (o3 := none) (o4 := none) (o5 := none) (o6 := none) (o7 := none) (o8 := none) (o9 := none) (o10 := none) (o11 := none) (o12 := none) rfl
  obtain ⟨b2, b3, b4, b5, b6, b7, b8, b9, b10, b11, stb, gb, nb, wb⟩ := right_turn (n := 1) (by decide) wa (by omega) (o1 := some (.val (.int ((0 : Nat) : Int)))) (o2 := a2) (o3 := a3) (o4 := a4) (o5 := a5) (o6 := a6) (o7 := a7) (o8 := a8) (o9 := a9) (o10 := a10) (o11 := a11) (o12 := none) na
  obtain ⟨c2, c3, c4, c5, c6, c7, c8, c9, c10, c11, stc, gc, nc, wc⟩ := right_turn (n := 2) (by decide) wb (by omega) (o1 := some (.val (.int ((1 : Nat) : Int)))) (o2 := b2) (o3 := b3) (o4 := b4) (o5 := b5) (o6 := b6) (o7 := b7) (o8 := b8) (o9 := b9) (o10 := b10) (o11 := b11) (o12 := none) nb
  obtain ⟨d2, d3, d4, d5, d6, d7, d8, d9, d10, d11, std, gd, nd, wd⟩ := right_turn (n := 3) (by decide) wc (by omega) (o1 := some (.val (.int ((2 : Nat) : Int)))) (o2 := c2) (o3 := c3) (o4 := c4) (o5 := c5) (o6 := c6) (o7 := c7) (o8 := c8) (o9 := c9) (o10 := c10) (o11 := c11) (o12 := none) nc
  obtain ⟨e2, e3, e4, e5, e6, e7, e8, e9, e10, e11, ste, ge, ne, we⟩ := right_turn (n := 4) (by decide) wd (by omega) (o1 := some (.val (.int ((3 : Nat) : Int)))) (o2 := d2) (o3 := d3) (o4 := d4) (o5 := d5) (o6 := d6) (o7 := d7) (o8 := d8) (o9 := d9) (o10 := d10) (o11 := d11) (o12 := none) nd
  have hloop : loopF (tName 1) lp__law_right_3 [.int 0, .int 1, .int 2, .int 3, .int 4] ⟨[some (.ref r), none, none, none, none, none, none, none, none, none, none, none, none], st⟩ = .ok .next ⟨[some (.ref r), some (.val (.int 4)), e2, e3, e4, e5, e6, e7, e8, e9, e10, e11, none], ste⟩ := by
    show loopF (tName 1) lp__law_right_3 [.int ((0 : Nat) : Int), .int ((1 : Nat) : Int), .int ((2 : Nat) : Int), .int ((3 : Nat) : Int), .int ((4 : Nat) : Int)] _ = _
    rw [loopF_step ga, loopF_step gb, loopF_step gc, loopF_step gd, loopF_step ge, loopF_nil]
    rfl
  have hm := seg_cut ste
  have hp := seg_same ste
  unfold segD segP at hm
  unfold segP at hp
  refine ⟨ste, ?_⟩
  simp [m__law_right, b__law_right, fnOf_app, h5]
  rw [hloop]
  simp [h1, h2, hm, hp]
theorem all_of : ∀ {ys : List D}, (∀ y ∈ ys, y = .bool true) → allD (.list ys) = some (.val (.bool true)) := fun {ys} h => by
  have : ys = ys.map fun _ => .bool true := by
    conv => lhs; rw [← List.map_id ys]
    exact List.map_congr_left fun y hy => h y hy
  rw [this]
  exact all_true ys
theorem plain_law (ns : List Int) (h : ns.length ≤ 63) : ∃ st, m_law [.scr ns] [] = .ok (.val (.bool true)) st := by
  have hsz := sizeLine_big
  obtain ⟨m, hm, hv⟩ : ∃ m : Nat, m ≤ 3 ∧ (if (if (3 : Int) < ns.length then (3 : Int) else ns.length) > 2 then (if (3 : Int) < ns.length then (3 : Int) else ns.length) else 2) = (m : Int) := by
    by_cases h1 : (3 : Int) < ns.length
    · exact ⟨3, by decide, by simp [h1]⟩
    · by_cases h2 : (ns.length : Int) > 2
      · exact ⟨3, by decide, by simp [h1]; omega⟩
      · exact ⟨2, by decide, by simp [h1]; omega⟩
  obtain ⟨ys, s', e, hI, hl, hR⟩ := compLoop_inv (vs := [1]) (g := tName 1) (e := el_law_1) (I := fun i s => ∃ st', s = ⟨[some (.scr ns), none], st'⟩) (R := fun d => d = .bool true)
    (rangeD 0 m) [] 0 ⟨[some (.scr ns), none], []⟩ (by simp [rangeD]; omega) ⟨[], rfl⟩ fun d hd j s hj2 hj => by
      obtain ⟨i, hi, rfl⟩ := List.mem_map.mp hd
      have hi' := List.mem_range.mp hi
      obtain ⟨st1, rfl⟩ := hj
      obtain ⟨r, st2, e1, w⟩ := s__law_well (ns := ns) (lap := i) (by omega) h (st := st1)
      obtain ⟨st3, e2⟩ := s__law_right w
      refine ⟨.bool true, ⟨[some (.scr ns), none], st3⟩, ?_, ⟨st3, rfl⟩, rfl⟩
      simp [el_law_1, e1, e2]
  obtain ⟨st', rfl⟩ := hI
  have ha := all_of hR
  have hr := range_row (n := m) (by omega)
  refine ⟨st', ?_⟩
  rw [← hv] at hr
  simp only [m_law, b_law, fnOf_app]
  simp [hr]
  rw [e]
  simp [ha]
end K22
namespace K22
open PySem PySem.Spec PyProof.Rows L2 Z
abbrev st__law_same : Stmt := top 50
abbrev st__law_take : Stmt := top 48
abbrev st__law_of : Stmt := top 49
abbrev st_is_tuple_of : Stmt := top 6
abbrev st_is_whole : Stmt := top 4
abbrev st_is_fraction : Stmt := top 7
abbrev st_is_above : Stmt := top 13
abbrev st_is_part : Stmt := top 17
abbrev st_is_point : Stmt := top 18
abbrev st_are_corners : Stmt := top 19
abbrev st_is_cell_by : Stmt := top 20
abbrev st_check_cell : Stmt := top 40
abbrev st_is_between : Stmt := top 5
abbrev st_check_number : Stmt := top 38
abbrev st_check_share : Stmt := top 41
abbrev st_fraction : Stmt := top 8
abbrev st_fraction_times : Stmt := top 11
abbrev st_fraction_less : Stmt := top 10
abbrev st_fraction_sum : Stmt := top 9
abbrev st_between : Stmt := top 25
abbrev st_with_corner : Stmt := top 26
abbrev st_cut_by : Stmt := top 27
abbrev st_draws_of : Stmt := top 21
abbrev st_cut : Stmt := top 44
abbrev st_orders_of : Stmt := top 22
abbrev st_corners_of_order : Stmt := top 23
abbrev st_first_cells_by : Stmt := top 24
abbrev st_first_cells : Stmt := top 43
abbrev st__law_part : Stmt := top 51
abbrev st__law_plus : Stmt := top 52
abbrev st__law_total : Stmt := top 55
abbrev st_sign_of : Stmt := top 14
abbrev st_fraction_over : Stmt := top 12
abbrev st_pivot_of : Stmt := top 28
abbrev st_without_first : Stmt := top 29
abbrev st_determinant_size : Stmt := top 30
abbrev st_volume_by : Stmt := top 31
abbrev st_volume : Stmt := top 45
abbrev st__law_orders : Stmt := top 57
abbrev st__law_firsts : Stmt := top 58
abbrev st__law_by : Stmt := top 54
abbrev st__law_less : Stmt := top 53
abbrev st__law_cut_cell : Stmt := top 59
abbrev st_is_cell : Stmt := top 42
abbrev st__law_over : Stmt := top 56
abbrev st__law_determinant : Stmt := top 60
abbrev st__law_volume : Stmt := top 61
abbrev st__law_right : Stmt := top 62
abbrev st__law_well : Stmt := top 47
abbrev st_law : Stmt := top 63
structure Tx (K : PySem.W.Frag) (mg : Str → Option Value) : Prop where
  z_isinstance : mg "isinstance" = none
  z_tuple : mg "tuple" = none
  z_list : mg "list" = none
  z_len : mg "len" = none
  z_range : mg "range" = none
  z_all : mg "all" = none
  z_bool : mg "bool" = none
  z_int : mg "int" = none
  z_str : mg "str" = none
  z_dict : mg "dict" = none
  z_divmod : mg "divmod" = none
  z_zip : mg "zip" = none
  z_abs : mg "abs" = none
  z_enumerate : mg "enumerate" = none
  z_sum : mg "sum" = none
  z_min : mg "min" = none
  z_max : mg "max" = none
  k_ONE : Con K mg "ONE" con_ONE
  k_MOST_DRAWS : Con K mg "MOST_DRAWS" con_MOST_DRAWS
  k_ZERO : Con K mg "ZERO" con_ZERO
  b_gcd : mg "gcd" = some (.builtin "math.gcd")
  g__law_same : mg "_law_same" = some (.ref (He.ga K "_law_same"))
  d__law_same : ∃ fd, FunD K "_law_same" "_law_same" (defArgs st__law_same) (defBody st__law_same) (defScope st__law_same) [] [] (He.ga K "_law_same") fd
  g__law_take : mg "_law_take" = some (.ref (He.ga K "_law_take"))
  d__law_take : ∃ fd, FunD K "_law_take" "_law_take" (defArgs st__law_take) (defBody st__law_take) (defScope st__law_take) [] [] (He.ga K "_law_take") fd
  g__law_of : mg "_law_of" = some (.ref (He.ga K "_law_of"))
  d__law_of : ∃ fd, FunD K "_law_of" "_law_of" (defArgs st__law_of) (defBody st__law_of) (defScope st__law_of) [] [] (He.ga K "_law_of") fd
  g_is_tuple_of : mg "is_tuple_of" = some (.ref (He.ga K "is_tuple_of"))
  d_is_tuple_of : ∃ fd, FunD K "is_tuple_of" "is_tuple_of" (defArgs st_is_tuple_of) (defBody st_is_tuple_of) (defScope st_is_tuple_of) [] [] (He.ga K "is_tuple_of") fd
  g_is_whole : mg "is_whole" = some (.ref (He.ga K "is_whole"))
  d_is_whole : ∃ fd, FunD K "is_whole" "is_whole" (defArgs st_is_whole) (defBody st_is_whole) (defScope st_is_whole) [] [] (He.ga K "is_whole") fd
  g_is_fraction : mg "is_fraction" = some (.ref (He.ga K "is_fraction"))
  d_is_fraction : ∃ fd, FunD K "is_fraction" "is_fraction" (defArgs st_is_fraction) (defBody st_is_fraction) (defScope st_is_fraction) [] [] (He.ga K "is_fraction") fd
  g_is_above : mg "is_above" = some (.ref (He.ga K "is_above"))
  d_is_above : ∃ fd, FunD K "is_above" "is_above" (defArgs st_is_above) (defBody st_is_above) (defScope st_is_above) [] [] (He.ga K "is_above") fd
  g_is_part : mg "is_part" = some (.ref (He.ga K "is_part"))
  d_is_part : ∃ fd, FunD K "is_part" "is_part" (defArgs st_is_part) (defBody st_is_part) (defScope st_is_part) [] [] (He.ga K "is_part") fd
  g_is_point : mg "is_point" = some (.ref (He.ga K "is_point"))
  d_is_point : ∃ fd, FunD K "is_point" "is_point" (defArgs st_is_point) (defBody st_is_point) (defScope st_is_point) [] [] (He.ga K "is_point") fd
  g_are_corners : mg "are_corners" = some (.ref (He.ga K "are_corners"))
  d_are_corners : ∃ fd, FunD K "are_corners" "are_corners" (defArgs st_are_corners) (defBody st_are_corners) (defScope st_are_corners) [] [] (He.ga K "are_corners") fd
  g_is_cell_by : mg "is_cell_by" = some (.ref (He.ga K "is_cell_by"))
  d_is_cell_by : ∃ fd, FunD K "is_cell_by" "is_cell_by" (defArgs st_is_cell_by) (defBody st_is_cell_by) (defScope st_is_cell_by) [] [] (He.ga K "is_cell_by") fd
  g_check_cell : mg "check_cell" = some (.ref (He.ga K "check_cell"))
  d_check_cell : ∃ fd, FunD K "check_cell" "check_cell" (defArgs st_check_cell) (defBody st_check_cell) (defScope st_check_cell) [] [] (He.ga K "check_cell") fd
  g_is_between : mg "is_between" = some (.ref (He.ga K "is_between"))
  d_is_between : ∃ fd, FunD K "is_between" "is_between" (defArgs st_is_between) (defBody st_is_between) (defScope st_is_between) [] [] (He.ga K "is_between") fd
  g_check_number : mg "check_number" = some (.ref (He.ga K "check_number"))
  d_check_number : ∃ fd, FunD K "check_number" "check_number" (defArgs st_check_number) (defBody st_check_number) (defScope st_check_number) [] [] (He.ga K "check_number") fd
  g_check_share : mg "check_share" = some (.ref (He.ga K "check_share"))
  d_check_share : ∃ fd, FunD K "check_share" "check_share" (defArgs st_check_share) (defBody st_check_share) (defScope st_check_share) [] [] (He.ga K "check_share") fd
  g_fraction : mg "fraction" = some (.ref (He.ga K "fraction"))
  d_fraction : ∃ fd, FunD K "fraction" "fraction" (defArgs st_fraction) (defBody st_fraction) (defScope st_fraction) [] [] (He.ga K "fraction") fd
  g_fraction_times : mg "fraction_times" = some (.ref (He.ga K "fraction_times"))
  d_fraction_times : ∃ fd, FunD K "fraction_times" "fraction_times" (defArgs st_fraction_times) (defBody st_fraction_times) (defScope st_fraction_times) [] [] (He.ga K "fraction_times") fd
  g_fraction_less : mg "fraction_less" = some (.ref (He.ga K "fraction_less"))
  d_fraction_less : ∃ fd, FunD K "fraction_less" "fraction_less" (defArgs st_fraction_less) (defBody st_fraction_less) (defScope st_fraction_less) [] [] (He.ga K "fraction_less") fd
  g_fraction_sum : mg "fraction_sum" = some (.ref (He.ga K "fraction_sum"))
  d_fraction_sum : ∃ fd, FunD K "fraction_sum" "fraction_sum" (defArgs st_fraction_sum) (defBody st_fraction_sum) (defScope st_fraction_sum) [] [] (He.ga K "fraction_sum") fd
  g_between : mg "between" = some (.ref (He.ga K "between"))
  d_between : ∃ fd, FunD K "between" "between" (defArgs st_between) (defBody st_between) (defScope st_between) [] [] (He.ga K "between") fd
  g_with_corner : mg "with_corner" = some (.ref (He.ga K "with_corner"))
  d_with_corner : ∃ fd, FunD K "with_corner" "with_corner" (defArgs st_with_corner) (defBody st_with_corner) (defScope st_with_corner) [] [] (He.ga K "with_corner") fd
  g_cut_by : mg "cut_by" = some (.ref (He.ga K "cut_by"))
  d_cut_by : ∃ fd, FunD K "cut_by" "cut_by" (defArgs st_cut_by) (defBody st_cut_by) (defScope st_cut_by) [] [] (He.ga K "cut_by") fd
  g_draws_of : mg "draws_of" = some (.ref (He.ga K "draws_of"))
  d_draws_of : ∃ fd, FunD K "draws_of" "draws_of" (defArgs st_draws_of) (defBody st_draws_of) (defScope st_draws_of) [] [] (He.ga K "draws_of") fd
  g_cut : mg "cut" = some (.ref (He.ga K "cut"))
  d_cut : ∃ fd, FunD K "cut" "cut" (defArgs st_cut) (defBody st_cut) (defScope st_cut) [] [] (He.ga K "cut") fd
  g_orders_of : mg "orders_of" = some (.ref (He.ga K "orders_of"))
  d_orders_of : ∃ fd, FunD K "orders_of" "orders_of" (defArgs st_orders_of) (defBody st_orders_of) (defScope st_orders_of) [] [] (He.ga K "orders_of") fd
  g_corners_of_order : mg "corners_of_order" = some (.ref (He.ga K "corners_of_order"))
  d_corners_of_order : ∃ fd, FunD K "corners_of_order" "corners_of_order" (defArgs st_corners_of_order) (defBody st_corners_of_order) (defScope st_corners_of_order) [] [] (He.ga K "corners_of_order") fd
  g_first_cells_by : mg "first_cells_by" = some (.ref (He.ga K "first_cells_by"))
  d_first_cells_by : ∃ fd, FunD K "first_cells_by" "first_cells_by" (defArgs st_first_cells_by) (defBody st_first_cells_by) (defScope st_first_cells_by) [] [] (He.ga K "first_cells_by") fd
  g_first_cells : mg "first_cells" = some (.ref (He.ga K "first_cells"))
  d_first_cells : ∃ fd, FunD K "first_cells" "first_cells" (defArgs st_first_cells) (defBody st_first_cells) (defScope st_first_cells) [] [] (He.ga K "first_cells") fd
  g__law_part : mg "_law_part" = some (.ref (He.ga K "_law_part"))
  d__law_part : ∃ fd, FunD K "_law_part" "_law_part" (defArgs st__law_part) (defBody st__law_part) (defScope st__law_part) [] [] (He.ga K "_law_part") fd
  g__law_plus : mg "_law_plus" = some (.ref (He.ga K "_law_plus"))
  d__law_plus : ∃ fd, FunD K "_law_plus" "_law_plus" (defArgs st__law_plus) (defBody st__law_plus) (defScope st__law_plus) [] [] (He.ga K "_law_plus") fd
  g__law_total : mg "_law_total" = some (.ref (He.ga K "_law_total"))
  d__law_total : ∃ fd, FunD K "_law_total" "_law_total" (defArgs st__law_total) (defBody st__law_total) (defScope st__law_total) [] [] (He.ga K "_law_total") fd
  g_sign_of : mg "sign_of" = some (.ref (He.ga K "sign_of"))
  d_sign_of : ∃ fd, FunD K "sign_of" "sign_of" (defArgs st_sign_of) (defBody st_sign_of) (defScope st_sign_of) [] [] (He.ga K "sign_of") fd
  g_fraction_over : mg "fraction_over" = some (.ref (He.ga K "fraction_over"))
  d_fraction_over : ∃ fd, FunD K "fraction_over" "fraction_over" (defArgs st_fraction_over) (defBody st_fraction_over) (defScope st_fraction_over) [] [] (He.ga K "fraction_over") fd
  g_pivot_of : mg "pivot_of" = some (.ref (He.ga K "pivot_of"))
  d_pivot_of : ∃ fd, FunD K "pivot_of" "pivot_of" (defArgs st_pivot_of) (defBody st_pivot_of) (defScope st_pivot_of) [] [] (He.ga K "pivot_of") fd
  g_without_first : mg "without_first" = some (.ref (He.ga K "without_first"))
  d_without_first : ∃ fd, FunD K "without_first" "without_first" (defArgs st_without_first) (defBody st_without_first) (defScope st_without_first) [] [] (He.ga K "without_first") fd
  g_determinant_size : mg "determinant_size" = some (.ref (He.ga K "determinant_size"))
  d_determinant_size : ∃ fd, FunD K "determinant_size" "determinant_size" (defArgs st_determinant_size) (defBody st_determinant_size) (defScope st_determinant_size) [] [] (He.ga K "determinant_size") fd
  g_volume_by : mg "volume_by" = some (.ref (He.ga K "volume_by"))
  d_volume_by : ∃ fd, FunD K "volume_by" "volume_by" (defArgs st_volume_by) (defBody st_volume_by) (defScope st_volume_by) [] [] (He.ga K "volume_by") fd
  g_volume : mg "volume" = some (.ref (He.ga K "volume"))
  d_volume : ∃ fd, FunD K "volume" "volume" (defArgs st_volume) (defBody st_volume) (defScope st_volume) [] [] (He.ga K "volume") fd
  g__law_orders : mg "_law_orders" = some (.ref (He.ga K "_law_orders"))
  d__law_orders : ∃ fd, FunD K "_law_orders" "_law_orders" (defArgs st__law_orders) (defBody st__law_orders) (defScope st__law_orders) [] [] (He.ga K "_law_orders") fd
  g__law_firsts : mg "_law_firsts" = some (.ref (He.ga K "_law_firsts"))
  d__law_firsts : ∃ fd, FunD K "_law_firsts" "_law_firsts" (defArgs st__law_firsts) (defBody st__law_firsts) (defScope st__law_firsts) [] [] (He.ga K "_law_firsts") fd
  g__law_by : mg "_law_by" = some (.ref (He.ga K "_law_by"))
  d__law_by : ∃ fd, FunD K "_law_by" "_law_by" (defArgs st__law_by) (defBody st__law_by) (defScope st__law_by) [] [] (He.ga K "_law_by") fd
  g__law_less : mg "_law_less" = some (.ref (He.ga K "_law_less"))
  d__law_less : ∃ fd, FunD K "_law_less" "_law_less" (defArgs st__law_less) (defBody st__law_less) (defScope st__law_less) [] [] (He.ga K "_law_less") fd
  g__law_cut_cell : mg "_law_cut_cell" = some (.ref (He.ga K "_law_cut_cell"))
  d__law_cut_cell : ∃ fd, FunD K "_law_cut_cell" "_law_cut_cell" (defArgs st__law_cut_cell) (defBody st__law_cut_cell) (defScope st__law_cut_cell) [] [] (He.ga K "_law_cut_cell") fd
  g_is_cell : mg "is_cell" = some (.ref (He.ga K "is_cell"))
  d_is_cell : ∃ fd, FunD K "is_cell" "is_cell" (defArgs st_is_cell) (defBody st_is_cell) (defScope st_is_cell) [] [] (He.ga K "is_cell") fd
  g__law_over : mg "_law_over" = some (.ref (He.ga K "_law_over"))
  d__law_over : ∃ fd, FunD K "_law_over" "_law_over" (defArgs st__law_over) (defBody st__law_over) (defScope st__law_over) [] [] (He.ga K "_law_over") fd
  g__law_determinant : mg "_law_determinant" = some (.ref (He.ga K "_law_determinant"))
  d__law_determinant : ∃ fd, FunD K "_law_determinant" "_law_determinant" (defArgs st__law_determinant) (defBody st__law_determinant) (defScope st__law_determinant) [] [] (He.ga K "_law_determinant") fd
  g__law_volume : mg "_law_volume" = some (.ref (He.ga K "_law_volume"))
  d__law_volume : ∃ fd, FunD K "_law_volume" "_law_volume" (defArgs st__law_volume) (defBody st__law_volume) (defScope st__law_volume) [] [] (He.ga K "_law_volume") fd
  g__law_right : mg "_law_right" = some (.ref (He.ga K "_law_right"))
  d__law_right : ∃ fd, FunD K "_law_right" "_law_right" (defArgs st__law_right) (defBody st__law_right) (defScope st__law_right) [] [] (He.ga K "_law_right") fd
  g__law_well : mg "_law_well" = some (.ref (He.ga K "_law_well"))
  d__law_well : ∃ fd, FunD K "_law_well" "_law_well" (defArgs st__law_well) (defBody st__law_well) (defScope st__law_well) [] [] (He.ga K "_law_well") fd
  g_law : mg "law" = some (.ref (He.ga K "law"))
  d_law : ∃ fd, FunD K "law" "law" (defArgs st_law) (defBody st_law) (defScope st_law) [] [] (He.ga K "law") fd
section
variable {P : Program} {w : World} {K : PySem.W.Frag} {mg : Str → Option Value} {base : Heap}
theorem sc__law_same : FnScope ["told", "due", "at"] ["told", "due"] (defScope st__law_same) := ⟨rfl, rfl, rfl, by decide +kernel, rfl, by decide +kernel, by decide +kernel⟩
theorem ok__law_same (T : Tx K mg) : ∀ n : Nat, Takes_ P w K mg base "_law_same" (0 + 1 + n) 2 ["told", "due"] (m__law_same n)
  | 0 => by
    obtain ⟨fd, F⟩ := T.d__law_same
    have S := sc__law_same
    exact ⟨_, fd, (fn_okD (N := ["told", "due", "at"]) (k := 0) (n := 2) (mb := sFail) F S rfl (by decide) fun cdv A outer s H E hr hp tk => b_never), T.g__law_same, F.kp, (F.bindsN fun _ _ _ _ _ _ us hl => match us, hl with | [_, _], _ => rfl)⟩
  | n + 1 => by
    obtain ⟨fd, F⟩ := T.d__law_same
    have S := sc__law_same
    have C__law_same : Takes_ P w K mg base "_law_same" (0 + 1 + n) 2 ["told", "due"] (m__law_same n) := ok__law_same T n
    exact ⟨_, fd, (fn_okD (N := ["told", "due", "at"]) (k := 0 + 1 + n) (n := 2) (mb := b__law_same (m__law_same n)) F S rfl (by decide) fun cdv A outer s H E hr hp tk =>
      (b_cons (s_if (i_bool_ (w_or (i_bool_ (w_and (i_truth (i_isi (i_var 1) T.z_isinstance T.z_tuple)) (w_and1 (i_notT (i_truth (i_isi (i_var 0) T.z_isinstance T.z_tuple)))))) (w_or1 (i_bool_ (w_and (i_truth (i_isi (i_var 1) T.z_isinstance T.z_list)) (w_and1 (i_notT (i_truth (i_isi (i_var 0) T.z_isinstance T.z_list))))))))) (b_one (s_ret i_bool)) b_nil)
      (b_cons (s_if (i_truth (i_isiT (i_var 1) T.z_isinstance (.cons T.z_tuple (by decide +kernel) rfl (by decide) (by decide) rfl (.cons T.z_list (by decide +kernel) rfl (by decide) (by decide) rfl .nil)))) (b_one (s_ret (i_and (i_cmp (op_eqD (hu64 hr)) c_eq (i_b1 call_len u_len T.z_len (i_var 0)) (i_b1 call_len u_len T.z_len (i_var 1)) (nomark _)) (i_one (i_b1 (cr_all rfl) u_all T.z_all (i_lc (own := [("at", 2)]) rfl S.nd (d_range T.z_range (a_cons (i_b1 call_len u_len T.z_len (i_var 1)) a_nil)) (show BlkOk ["told", "due", "at"] (defScope st__law_same) _ [("at", 2)] from ⟨rfl, by decide +kernel, by decide +kernel, by decide +kernel, by decide +kernel⟩) (fun _ _ _ _ _ => (g_name 2 S.nd)) (fun _ _ _ _ _ => t_nil) (fun _ _ _ _ _ => (i_callC C__law_same (hr.mono (by omega)) Z.takes0 (a_cons (i_ix (i_var 0) (i_var 2)) (a_cons (i_ix (i_var 1) (i_var 2)) a_nil)))) (by decide))))))) b_nil)
      (b_cons (s_if (i_bool_ (w_or (i_cmpT o_is c_is (i_var 1) i_none (nomark _)) (w_or1 (i_cmpT o_is c_is (i_var 0) i_none (nomark _))))) (b_one (s_ret (i_and (i_cmp o_is c_is (i_var 1) i_none (nomark _)) (i_one (i_cmp o_is c_is (i_var 0) i_none (nomark _)))))) b_nil)
      (b_cons (s_if (i_bool_ (w_or (i_truth (i_isi (i_var 1) T.z_isinstance T.z_bool)) (w_or1 (i_truth (i_isi (i_var 0) T.z_isinstance T.z_bool))))) (b_one (s_ret (i_and (i_isi (i_var 1) T.z_isinstance T.z_bool) (i_and (i_isi (i_var 0) T.z_isinstance T.z_bool) (i_one (i_cmp (op_eqD (hu64 hr)) c_eq (i_var 1) (i_var 0) (nomark _))))))) b_nil)
      (b_cons (s_if (i_truth (i_isi (i_var 1) T.z_isinstance T.z_int)) (b_one (s_ret (i_and (i_isi (i_var 0) T.z_isinstance T.z_int) (i_one (i_cmp (op_eqD (hu64 hr)) c_eq (i_var 0) (i_var 1) (nomark _)))))) b_nil)
      (b_cons (s_if (i_truth (i_isi (i_var 1) T.z_isinstance T.z_str)) (b_one (s_ret (i_and (i_isi (i_var 0) T.z_isinstance T.z_str) (i_one (i_cmp (op_eqD (hu64 hr)) c_eq (i_var 0) (i_var 1) (nomark _)))))) b_nil)
      (b_one (s_ret (i_and (i_isi (i_var 1) T.z_isinstance T.z_dict) (i_and (i_isi (i_var 0) T.z_isinstance T.z_dict) (i_and (i_cmp (op_eqD (hu64 hr)) c_eq (i_b1 call_len u_len T.z_len (i_var 0)) (i_b1 call_len u_len T.z_len (i_var 1)) (nomark _)) (i_one (i_cmp (op_eqD (hu64 hr)) c_eq (i_var 0) (i_var 1) (nomark _))))))))))))))), T.g__law_same, F.kp, (F.bindsN fun _ _ _ _ _ _ us hl => match us, hl with | [_, _], _ => rfl)⟩
theorem sc__law_take : FnScope ["well", "many", "digit"] ["well", "many"] (defScope st__law_take) := ⟨rfl, rfl, rfl, by decide +kernel, rfl, by decide +kernel, by decide +kernel⟩
theorem fk__law_take (T : Tx K mg) : ∃ fd, FunD K "_law_take" "_law_take" (defArgs st__law_take) (defBody st__law_take) (defScope st__law_take) [] [] (He.ga K "_law_take") fd ∧ FnOk P w K mg base (L2.CX P w) 1 (He.ga K "_law_take") fd ["well", "many"] (spZ K mg 2 m__law_take) := by
  obtain ⟨fd, F⟩ := T.d__law_take
  have S := sc__law_take
  exact ⟨fd, F, fn_okD (N := ["well", "many", "digit"]) (k := 0) (n := 2) (mb := b__law_take) F S rfl (by decide) fun cdv A outer s H E hr hp tk =>
      (b_cons (s_if (i_cmpT op_gt c_gt (i_ix (i_var 0) i_int) i_int (nomark _)) (b_cons (s_unp (i_b2 call_divmod u_divmod T.z_divmod (i_ix (i_var 0) i_int) (i_var 1)) (g_tup rfl (gs_cons (g_sub (i_var 0) i_int) (gs_cons (g_name 2 S.nd) gs_nil))))
      (b_one (s_ret (i_var 2)))) b_nil)
      (b_cons (s_unp (i_bin o_add b_add (i_ix (i_var 0) i_int) i_int) (g_sub (i_var 0) i_int))
      (b_cons (s_unp (i_bin op_modN b_mod (i_ty1 call_int1 u_int T.z_int (i_bin o_add b_add (i_bin o_add b_add (i_bin o_mul b_mul (i_ix (i_var 0) i_int) i_int) (i_bin o_mul b_mul (i_ix (i_var 0) i_int) i_int)) i_int)) i_int) (g_sub (i_var 0) i_int))
      (b_one (s_ret (i_bin op_modN b_mod (i_ty1 call_int1 u_int T.z_int (i_bin op_fdivA b_fdiv (i_ix (i_var 0) i_int) i_int)) (i_var 1)))))))⟩
theorem ok__law_take (T : Tx K mg) : Takes_ P w K mg base "_law_take" 1 2 ["well", "many"] m__law_take := by
  obtain ⟨fd, F, G⟩ := fk__law_take (P := P) (w := w) (base := base) T
  exact ⟨_, fd, G, T.g__law_take, F.kp, (F.bindsN fun _ _ _ _ _ _ us hl => match us, hl with | [_, _], _ => rfl)⟩
theorem sc__law_of : FnScope ["well", "things"] ["well", "things"] (defScope st__law_of) := ⟨rfl, rfl, rfl, by decide +kernel, rfl, by decide +kernel, by decide +kernel⟩
theorem fk__law_of (T : Tx K mg) : ∃ fd, FunD K "_law_of" "_law_of" (defArgs st__law_of) (defBody st__law_of) (defScope st__law_of) [] [] (He.ga K "_law_of") fd ∧ FnOk P w K mg base (L2.CX P w) 2 (He.ga K "_law_of") fd ["well", "things"] (spZ K mg 2 m__law_of) := by
  obtain ⟨fd, F⟩ := T.d__law_of
  have S := sc__law_of
  exact ⟨fd, F, fn_okD (N := ["well", "things"]) (k := 1) (n := 2) (mb := b__law_of) F S rfl (by decide) fun cdv A outer s H E hr hp tk =>
      (b_one (s_ret (i_ix (i_var 1) (i_callC (ok__law_take T) (hr.mono (by decide)) tk (a_cons (i_var 0) (a_cons (i_b1 call_len u_len T.z_len (i_var 1)) a_nil))))))⟩
theorem ok__law_of (T : Tx K mg) : Takes_ P w K mg base "_law_of" 2 2 ["well", "things"] m__law_of := by
  obtain ⟨fd, F, G⟩ := fk__law_of (P := P) (w := w) (base := base) T
  exact ⟨_, fd, G, T.g__law_of, F.kp, (F.bindsN fun _ _ _ _ _ _ us hl => match us, hl with | [_, _], _ => rfl)⟩
theorem sc_is_tuple_of : FnScope ["value", "many"] ["value", "many"] (defScope st_is_tuple_of) := ⟨rfl, rfl, rfl, by decide +kernel, rfl, by decide +kernel, by decide +kernel⟩
theorem fk_is_tuple_of (T : Tx K mg) : ∃ fd, FunD K "is_tuple_of" "is_tuple_of" (defArgs st_is_tuple_of) (defBody st_is_tuple_of) (defScope st_is_tuple_of) [] [] (He.ga K "is_tuple_of") fd ∧ FnOk P w K mg base (L2.CX P w) 1 (He.ga K "is_tuple_of") fd ["value", "many"] (spZ K mg 2 m_is_tuple_of) := by
  obtain ⟨fd, F⟩ := T.d_is_tuple_of
  have S := sc_is_tuple_of
  exact ⟨fd, F, fn_okD (N := ["value", "many"]) (k := 0) (n := 2) (mb := b_is_tuple_of) F S rfl (by decide) fun cdv A outer s H E hr hp tk =>
      (b_one (s_ret (i_and (i_isi (i_var 0) T.z_isinstance T.z_tuple) (i_one (i_cmp (op_eqD (hu64 hr)) c_eq (i_b1 call_len u_len T.z_len (i_var 0)) (i_var 1) (nomark _))))))⟩
theorem ok_is_tuple_of (T : Tx K mg) : Takes_ P w K mg base "is_tuple_of" 1 2 ["value", "many"] m_is_tuple_of := by
  obtain ⟨fd, F, G⟩ := fk_is_tuple_of (P := P) (w := w) (base := base) T
  exact ⟨_, fd, G, T.g_is_tuple_of, F.kp, (F.bindsN fun _ _ _ _ _ _ us hl => match us, hl with | [_, _], _ => rfl)⟩
theorem sc_is_whole : FnScope ["value"] ["value"] (defScope st_is_whole) := ⟨rfl, rfl, rfl, by decide +kernel, rfl, by decide +kernel, by decide +kernel⟩
theorem fk_is_whole (T : Tx K mg) : ∃ fd, FunD K "is_whole" "is_whole" (defArgs st_is_whole) (defBody st_is_whole) (defScope st_is_whole) [] [] (He.ga K "is_whole") fd ∧ FnOk P w K mg base (L2.CX P w) 1 (He.ga K "is_whole") fd ["value"] (spZ K mg 1 m_is_whole) := by
  obtain ⟨fd, F⟩ := T.d_is_whole
  have S := sc_is_whole
  exact ⟨fd, F, fn_okD (N := ["value"]) (k := 0) (n := 1) (mb := b_is_whole) F S rfl (by decide) fun cdv A outer s H E hr hp tk =>
      (b_one (s_ret (i_and (i_isi (i_var 0) T.z_isinstance T.z_int) (i_one (i_not (i_isi (i_var 0) T.z_isinstance T.z_bool))))))⟩
theorem ok_is_whole (T : Tx K mg) : Takes_ P w K mg base "is_whole" 1 1 ["value"] m_is_whole := by
  obtain ⟨fd, F, G⟩ := fk_is_whole (P := P) (w := w) (base := base) T
  exact ⟨_, fd, G, T.g_is_whole, F.kp, (F.bindsN fun _ _ _ _ _ _ us hl => match us, hl with | [_], _ => rfl)⟩
theorem sc_is_fraction : FnScope ["value"] ["value"] (defScope st_is_fraction) := ⟨rfl, rfl, rfl, by decide +kernel, rfl, by decide +kernel, by decide +kernel⟩
theorem fk_is_fraction (T : Tx K mg) : ∃ fd, FunD K "is_fraction" "is_fraction" (defArgs st_is_fraction) (defBody st_is_fraction) (defScope st_is_fraction) [] [] (He.ga K "is_fraction") fd ∧ FnOk P w K mg base (L2.CX P w) 2 (He.ga K "is_fraction") fd ["value"] (spZ K mg 1 m_is_fraction) := by
  obtain ⟨fd, F⟩ := T.d_is_fraction
  have S := sc_is_fraction
  exact ⟨fd, F, fn_okD (N := ["value"]) (k := 1) (n := 1) (mb := b_is_fraction) F S rfl (by decide) fun cdv A outer s H E hr hp tk =>
      (b_cons (s_if (i_bool_ (w_or (i_notT (i_truth (i_callC (ok_is_tuple_of T) (hr.mono (by decide)) tk (a_cons (i_var 0) (a_cons i_int a_nil))))) (w_or (i_notT (i_truth (i_callC (ok_is_whole T) (hr.mono (by decide)) tk (a_cons (i_ix (i_var 0) i_int) a_nil)))) (w_or1 (i_notT (i_truth (i_callC (ok_is_whole T) (hr.mono (by decide)) tk (a_cons (i_ix (i_var 0) i_int) a_nil)))))))) (b_one (s_ret i_bool)) b_nil)
      (b_one (s_ret (i_and (i_cmp op_gt c_gt (i_ix (i_var 0) i_int) i_int (nomark _)) (i_one (i_cmp (op_eqD (hu64 hr)) c_eq (i_f2 cr_gcd u_gcd T.b_gcd (i_ix (i_var 0) i_int) (i_ix (i_var 0) i_int)) i_int (nomark _)))))))⟩
theorem ok_is_fraction (T : Tx K mg) : Takes_ P w K mg base "is_fraction" 2 1 ["value"] m_is_fraction := by
  obtain ⟨fd, F, G⟩ := fk_is_fraction (P := P) (w := w) (base := base) T
  exact ⟨_, fd, G, T.g_is_fraction, F.kp, (F.bindsN fun _ _ _ _ _ _ us hl => match us, hl with | [_], _ => rfl)⟩
theorem sc_is_above : FnScope ["one", "two"] ["one", "two"] (defScope st_is_above) := ⟨rfl, rfl, rfl, by decide +kernel, rfl, by decide +kernel, by decide +kernel⟩
theorem fk_is_above (T : Tx K mg) : ∃ fd, FunD K "is_above" "is_above" (defArgs st_is_above) (defBody st_is_above) (defScope st_is_above) [] [] (He.ga K "is_above") fd ∧ FnOk P w K mg base (L2.CX P w) 1 (He.ga K "is_above") fd ["one", "two"] (spZ K mg 2 m_is_above) := by
  obtain ⟨fd, F⟩ := T.d_is_above
  have S := sc_is_above
  exact ⟨fd, F, fn_okD (N := ["one", "two"]) (k := 0) (n := 2) (mb := b_is_above) F S rfl (by decide) fun cdv A outer s H E hr hp tk =>
      (b_one (s_ret (i_cmp op_gt c_gt (i_bin o_mul b_mul (i_ix (i_var 0) i_int) (i_ix (i_var 1) i_int)) (i_bin o_mul b_mul (i_ix (i_var 1) i_int) (i_ix (i_var 0) i_int)) (nomark _))))⟩
theorem ok_is_above (T : Tx K mg) : Takes_ P w K mg base "is_above" 1 2 ["one", "two"] m_is_above := by
  obtain ⟨fd, F, G⟩ := fk_is_above (P := P) (w := w) (base := base) T
  exact ⟨_, fd, G, T.g_is_above, F.kp, (F.bindsN fun _ _ _ _ _ _ us hl => match us, hl with | [_, _], _ => rfl)⟩
theorem sc_is_part : FnScope ["value"] ["value"] (defScope st_is_part) := ⟨rfl, rfl, rfl, by decide +kernel, rfl, by decide +kernel, by decide +kernel⟩
theorem fk_is_part (T : Tx K mg) : ∃ fd, FunD K "is_part" "is_part" (defArgs st_is_part) (defBody st_is_part) (defScope st_is_part) [] [] (He.ga K "is_part") fd ∧ FnOk P w K mg base (L2.CX P w) 3 (He.ga K "is_part") fd ["value"] (spZ K mg 1 m_is_part) := by
  obtain ⟨fd, F⟩ := T.d_is_part
  have S := sc_is_part
  exact ⟨fd, F, fn_okD (N := ["value"]) (k := 2) (n := 1) (mb := b_is_part) F S rfl (by decide) fun cdv A outer s H E hr hp tk =>
      (b_one (s_ret (i_and (i_callC (ok_is_fraction T) (hr.mono (by decide)) tk (a_cons (i_var 0) a_nil)) (i_and (i_cmp op_ge c_ge (i_ix (i_var 0) i_int) i_int (nomark _)) (i_one (i_not (i_callC (ok_is_above T) (hr.mono (by decide)) tk (a_cons (i_var 0) (a_cons (i_con T.k_ONE) a_nil)))))))))⟩
theorem ok_is_part (T : Tx K mg) : Takes_ P w K mg base "is_part" 3 1 ["value"] m_is_part := by
  obtain ⟨fd, F, G⟩ := fk_is_part (P := P) (w := w) (base := base) T
  exact ⟨_, fd, G, T.g_is_part, F.kp, (F.bindsN fun _ _ _ _ _ _ us hl => match us, hl with | [_], _ => rfl)⟩
theorem sc_is_point : FnScope ["many", "value", "each"] ["many", "value"] (defScope st_is_point) := ⟨rfl, rfl, rfl, by decide +kernel, rfl, by decide +kernel, by decide +kernel⟩
theorem fk_is_point (T : Tx K mg) : ∃ fd, FunD K "is_point" "is_point" (defArgs st_is_point) (defBody st_is_point) (defScope st_is_point) [] [] (He.ga K "is_point") fd ∧ FnOk P w K mg base (L2.CX P w) 4 (He.ga K "is_point") fd ["many", "value"] (spZ K mg 2 m_is_point) := by
  obtain ⟨fd, F⟩ := T.d_is_point
  have S := sc_is_point
  exact ⟨fd, F, fn_okD (N := ["many", "value", "each"]) (k := 3) (n := 2) (mb := b_is_point) F S rfl (by decide) fun cdv A outer s H E hr hp tk =>
      (b_one (s_ret (i_and (i_callC (ok_is_tuple_of T) (hr.mono (by decide)) tk (a_cons (i_var 1) (a_cons (i_var 0) a_nil))) (i_one (i_b1 (cr_all rfl) u_all T.z_all (i_lc (own := [("each", 2)]) rfl S.nd (d_val (i_var 1)) (show BlkOk ["many", "value", "each"] (defScope st_is_point) _ [("each", 2)] from ⟨rfl, by decide +kernel, by decide +kernel, by decide +kernel, by decide +kernel⟩) (fun _ _ _ _ _ => (g_name 2 S.nd)) (fun _ _ _ _ _ => t_nil) (fun _ _ _ _ _ => (i_callC (ok_is_part T) (hr.mono (by decide)) Z.takes0 (a_cons (i_var 2) a_nil))) (by decide)))))))⟩
theorem ok_is_point (T : Tx K mg) : Takes_ P w K mg base "is_point" 4 2 ["many", "value"] m_is_point := by
  obtain ⟨fd, F, G⟩ := fk_is_point (P := P) (w := w) (base := base) T
  exact ⟨_, fd, G, T.g_is_point, F.kp, (F.bindsN fun _ _ _ _ _ _ us hl => match us, hl with | [_, _], _ => rfl)⟩
theorem sc_are_corners : FnScope ["value", "each"] ["value"] (defScope st_are_corners) := ⟨rfl, rfl, rfl, by decide +kernel, rfl, by decide +kernel, by decide +kernel⟩
theorem fk_are_corners (T : Tx K mg) : ∃ fd, FunD K "are_corners" "are_corners" (defArgs st_are_corners) (defBody st_are_corners) (defScope st_are_corners) [] [] (He.ga K "are_corners") fd ∧ FnOk P w K mg base (L2.CX P w) 5 (He.ga K "are_corners") fd ["value"] (spZ K mg 1 m_are_corners) := by
  obtain ⟨fd, F⟩ := T.d_are_corners
  have S := sc_are_corners
  exact ⟨fd, F, fn_okD (N := ["value", "each"]) (k := 4) (n := 1) (mb := b_are_corners) F S rfl (by decide) fun cdv A outer s H E hr hp tk =>
      (b_cons (s_if (i_bool_ (w_or (i_notT (i_truth (i_isi (i_var 0) T.z_isinstance T.z_tuple))) (w_or1 (i_notT (i_chainT op_le op_le c_le c_le i_int (i_b1 call_len u_len T.z_len (i_var 0)) (i_bin o_add b_add (i_con T.k_MOST_DRAWS) i_int)))))) (b_one (s_ret i_bool)) b_nil)
      (b_one (s_ret (i_b1 (cr_all rfl) u_all T.z_all (i_lc (own := [("each", 1)]) rfl S.nd (d_val (i_var 0)) (show BlkOk ["value", "each"] (defScope st_are_corners) _ [("each", 1)] from ⟨rfl, by decide +kernel, by decide +kernel, by decide +kernel, by decide +kernel⟩) (fun _ _ _ _ _ => (g_name 1 S.nd)) (fun _ _ _ _ _ => t_nil) (fun _ _ _ _ _ => (i_callC (ok_is_point T) (hr.mono (by decide)) Z.takes0 (a_cons (i_bin op_sub b_sub (i_b1 call_len u_len T.z_len (i_var 0)) i_int) (a_cons (i_var 1) a_nil)))) (by decide))))))⟩
theorem ok_are_corners (T : Tx K mg) : Takes_ P w K mg base "are_corners" 5 1 ["value"] m_are_corners := by
  obtain ⟨fd, F, G⟩ := fk_are_corners (P := P) (w := w) (base := base) T
  exact ⟨_, fd, G, T.g_are_corners, F.kp, (F.bindsN fun _ _ _ _ _ _ us hl => match us, hl with | [_], _ => rfl)⟩
theorem sc_is_cell_by : FnScope ["value"] ["value"] (defScope st_is_cell_by) := ⟨rfl, rfl, rfl, by decide +kernel, rfl, by decide +kernel, by decide +kernel⟩
theorem fk_is_cell_by (T : Tx K mg) : ∃ fd, FunD K "is_cell_by" "is_cell_by" (defArgs st_is_cell_by) (defBody st_is_cell_by) (defScope st_is_cell_by) [] [] (He.ga K "is_cell_by") fd ∧ FnOk P w K mg base (L2.CX P w) 6 (He.ga K "is_cell_by") fd ["value"] (spZ K mg 1 m_is_cell_by) := by
  obtain ⟨fd, F⟩ := T.d_is_cell_by
  have S := sc_is_cell_by
  exact ⟨fd, F, fn_okD (N := ["value"]) (k := 5) (n := 1) (mb := b_is_cell_by) F S rfl (by decide) fun cdv A outer s H E hr hp tk =>
      (b_one (s_ret (i_and (i_callC (ok_is_tuple_of T) (hr.mono (by decide)) tk (a_cons (i_var 0) (a_cons i_int a_nil))) (i_and (i_callC (ok_are_corners T) (hr.mono (by decide)) tk (a_cons (i_ix (i_var 0) i_int) a_nil)) (i_one (i_callC (ok_is_part T) (hr.mono (by decide)) tk (a_cons (i_ix (i_var 0) i_int) a_nil)))))))⟩
theorem ok_is_cell_by (T : Tx K mg) : Takes_ P w K mg base "is_cell_by" 6 1 ["value"] m_is_cell_by := by
  obtain ⟨fd, F, G⟩ := fk_is_cell_by (P := P) (w := w) (base := base) T
  exact ⟨_, fd, G, T.g_is_cell_by, F.kp, (F.bindsN fun _ _ _ _ _ _ us hl => match us, hl with | [_], _ => rfl)⟩
theorem sc_check_cell : FnScope ["value"] ["value"] (defScope st_check_cell) := ⟨rfl, rfl, rfl, by decide +kernel, rfl, by decide +kernel, by decide +kernel⟩
theorem fk_check_cell (T : Tx K mg) : ∃ fd, FunD K "check_cell" "check_cell" (defArgs st_check_cell) (defBody st_check_cell) (defScope st_check_cell) [] [] (He.ga K "check_cell") fd ∧ FnOk P w K mg base (L2.CX P w) 7 (He.ga K "check_cell") fd ["value"] (spZ K mg 1 m_check_cell) := by
  obtain ⟨fd, F⟩ := T.d_check_cell
  have S := sc_check_cell
  exact ⟨fd, F, fn_okD (N := ["value"]) (k := 6) (n := 1) (mb := b_check_cell) F S rfl (by decide) fun cdv A outer s H E hr hp tk =>
      (b_one (s_if (i_notT (i_truth (i_callC (ok_is_cell_by T) (hr.mono (by decide)) tk (a_cons (i_var 0) a_nil)))) (b_one s_never) b_nil))⟩
theorem ok_check_cell (T : Tx K mg) : Takes_ P w K mg base "check_cell" 7 1 ["value"] m_check_cell := by
  obtain ⟨fd, F, G⟩ := fk_check_cell (P := P) (w := w) (base := base) T
  exact ⟨_, fd, G, T.g_check_cell, F.kp, (F.bindsN fun _ _ _ _ _ _ us hl => match us, hl with | [_], _ => rfl)⟩
theorem sc_is_between : FnScope ["value", "low", "high"] ["value", "low", "high"] (defScope st_is_between) := ⟨rfl, rfl, rfl, by decide +kernel, rfl, by decide +kernel, by decide +kernel⟩
theorem fk_is_between (T : Tx K mg) : ∃ fd, FunD K "is_between" "is_between" (defArgs st_is_between) (defBody st_is_between) (defScope st_is_between) [] [] (He.ga K "is_between") fd ∧ FnOk P w K mg base (L2.CX P w) 2 (He.ga K "is_between") fd ["value", "low", "high"] (spZ K mg 3 m_is_between) := by
  obtain ⟨fd, F⟩ := T.d_is_between
  have S := sc_is_between
  exact ⟨fd, F, fn_okD (N := ["value", "low", "high"]) (k := 1) (n := 3) (mb := b_is_between) F S rfl (by decide) fun cdv A outer s H E hr hp tk =>
      (b_one (s_ret (i_and (i_callC (ok_is_whole T) (hr.mono (by decide)) tk (a_cons (i_var 0) a_nil)) (i_one (i_chain op_le op_le c_le c_le (i_var 1) (i_var 0) (i_var 2))))))⟩
theorem ok_is_between (T : Tx K mg) : Takes_ P w K mg base "is_between" 2 3 ["value", "low", "high"] m_is_between := by
  obtain ⟨fd, F, G⟩ := fk_is_between (P := P) (w := w) (base := base) T
  exact ⟨_, fd, G, T.g_is_between, F.kp, (F.bindsN fun _ _ _ _ _ _ us hl => match us, hl with | [_, _, _], _ => rfl)⟩
theorem sc_check_number : FnScope ["value", "low", "high"] ["value", "low", "high"] (defScope st_check_number) := ⟨rfl, rfl, rfl, by decide +kernel, rfl, by decide +kernel, by decide +kernel⟩
theorem fk_check_number (T : Tx K mg) : ∃ fd, FunD K "check_number" "check_number" (defArgs st_check_number) (defBody st_check_number) (defScope st_check_number) [] [] (He.ga K "check_number") fd ∧ FnOk P w K mg base (L2.CX P w) 3 (He.ga K "check_number") fd ["value", "low", "high"] (spZ K mg 3 m_check_number) := by
  obtain ⟨fd, F⟩ := T.d_check_number
  have S := sc_check_number
  exact ⟨fd, F, fn_okD (N := ["value", "low", "high"]) (k := 2) (n := 3) (mb := b_check_number) F S rfl (by decide) fun cdv A outer s H E hr hp tk =>
      (b_one (s_if (i_notT (i_truth (i_callC (ok_is_between T) (hr.mono (by decide)) tk (a_cons (i_var 0) (a_cons (i_var 1) (a_cons (i_var 2) a_nil)))))) (b_one s_never) b_nil))⟩
theorem ok_check_number (T : Tx K mg) : Takes_ P w K mg base "check_number" 3 3 ["value", "low", "high"] m_check_number := by
  obtain ⟨fd, F, G⟩ := fk_check_number (P := P) (w := w) (base := base) T
  exact ⟨_, fd, G, T.g_check_number, F.kp, (F.bindsN fun _ _ _ _ _ _ us hl => match us, hl with | [_, _, _], _ => rfl)⟩
theorem sc_check_share : FnScope ["value"] ["value"] (defScope st_check_share) := ⟨rfl, rfl, rfl, by decide +kernel, rfl, by decide +kernel, by decide +kernel⟩
theorem fk_check_share (T : Tx K mg) : ∃ fd, FunD K "check_share" "check_share" (defArgs st_check_share) (defBody st_check_share) (defScope st_check_share) [] [] (He.ga K "check_share") fd ∧ FnOk P w K mg base (L2.CX P w) 4 (He.ga K "check_share") fd ["value"] (spZ K mg 1 m_check_share) := by
  obtain ⟨fd, F⟩ := T.d_check_share
  have S := sc_check_share
  exact ⟨fd, F, fn_okD (N := ["value"]) (k := 3) (n := 1) (mb := b_check_share) F S rfl (by decide) fun cdv A outer s H E hr hp tk =>
      (b_one (s_if (i_bool_ (w_or (i_notT (i_truth (i_callC (ok_is_part T) (hr.mono (by decide)) tk (a_cons (i_var 0) a_nil)))) (w_or1 (i_cmpT (op_inA (hu65 hr)) c_in (i_var 0) (i_tup (a_cons (i_con T.k_ZERO) (a_cons (i_con T.k_ONE) a_nil))) rfl)))) (b_one s_never) b_nil))⟩
theorem ok_check_share (T : Tx K mg) : Takes_ P w K mg base "check_share" 4 1 ["value"] m_check_share := by
  obtain ⟨fd, F, G⟩ := fk_check_share (P := P) (w := w) (base := base) T
  exact ⟨_, fd, G, T.g_check_share, F.kp, (F.bindsN fun _ _ _ _ _ _ us hl => match us, hl with | [_], _ => rfl)⟩
theorem sc_fraction : FnScope ["number", "under", "part"] ["number", "under"] (defScope st_fraction) := ⟨rfl, rfl, rfl, by decide +kernel, rfl, by decide +kernel, by decide +kernel⟩
theorem fk_fraction (T : Tx K mg) : ∃ fd, FunD K "fraction" "fraction" (defArgs st_fraction) (defBody st_fraction) (defScope st_fraction) [] [] (He.ga K "fraction") fd ∧ FnOk P w K mg base (L2.CX P w) 1 (He.ga K "fraction") fd ["number", "under"] (spZ K mg 2 m_fraction) := by
  obtain ⟨fd, F⟩ := T.d_fraction
  have S := sc_fraction
  exact ⟨fd, F, fn_okD (N := ["number", "under", "part"]) (k := 0) (n := 2) (mb := b_fraction) F S rfl (by decide) fun cdv A outer s H E hr hp tk =>
      (b_cons (s_asg 2 S.nd (i_f2 cr_gcd u_gcd T.b_gcd (i_var 0) (i_var 1)))
      (b_one (s_ret (i_tup (a_cons (i_bin op_fdivA b_fdiv (i_var 0) (i_var 2)) (a_cons (i_bin op_fdivA b_fdiv (i_var 1) (i_var 2)) a_nil))))))⟩
theorem ok_fraction (T : Tx K mg) : Takes_ P w K mg base "fraction" 1 2 ["number", "under"] m_fraction := by
  obtain ⟨fd, F, G⟩ := fk_fraction (P := P) (w := w) (base := base) T
  exact ⟨_, fd, G, T.g_fraction, F.kp, (F.bindsN fun _ _ _ _ _ _ us hl => match us, hl with | [_, _], _ => rfl)⟩
theorem sc_fraction_times : FnScope ["one", "two"] ["one", "two"] (defScope st_fraction_times) := ⟨rfl, rfl, rfl, by decide +kernel, rfl, by decide +kernel, by decide +kernel⟩
theorem fk_fraction_times (T : Tx K mg) : ∃ fd, FunD K "fraction_times" "fraction_times" (defArgs st_fraction_times) (defBody st_fraction_times) (defScope st_fraction_times) [] [] (He.ga K "fraction_times") fd ∧ FnOk P w K mg base (L2.CX P w) 2 (He.ga K "fraction_times") fd ["one", "two"] (spZ K mg 2 m_fraction_times) := by
  obtain ⟨fd, F⟩ := T.d_fraction_times
  have S := sc_fraction_times
  exact ⟨fd, F, fn_okD (N := ["one", "two"]) (k := 1) (n := 2) (mb := b_fraction_times) F S rfl (by decide) fun cdv A outer s H E hr hp tk =>
      (b_one (s_ret (i_callC (ok_fraction T) (hr.mono (by decide)) tk (a_cons (i_bin o_mul b_mul (i_ix (i_var 0) i_int) (i_ix (i_var 1) i_int)) (a_cons (i_bin o_mul b_mul (i_ix (i_var 0) i_int) (i_ix (i_var 1) i_int)) a_nil)))))⟩
theorem ok_fraction_times (T : Tx K mg) : Takes_ P w K mg base "fraction_times" 2 2 ["one", "two"] m_fraction_times := by
  obtain ⟨fd, F, G⟩ := fk_fraction_times (P := P) (w := w) (base := base) T
  exact ⟨_, fd, G, T.g_fraction_times, F.kp, (F.bindsN fun _ _ _ _ _ _ us hl => match us, hl with | [_, _], _ => rfl)⟩
theorem sc_fraction_less : FnScope ["one", "two"] ["one", "two"] (defScope st_fraction_less) := ⟨rfl, rfl, rfl, by decide +kernel, rfl, by decide +kernel, by decide +kernel⟩
theorem fk_fraction_less (T : Tx K mg) : ∃ fd, FunD K "fraction_less" "fraction_less" (defArgs st_fraction_less) (defBody st_fraction_less) (defScope st_fraction_less) [] [] (He.ga K "fraction_less") fd ∧ FnOk P w K mg base (L2.CX P w) 2 (He.ga K "fraction_less") fd ["one", "two"] (spZ K mg 2 m_fraction_less) := by
  obtain ⟨fd, F⟩ := T.d_fraction_less
  have S := sc_fraction_less
  exact ⟨fd, F, fn_okD (N := ["one", "two"]) (k := 1) (n := 2) (mb := b_fraction_less) F S rfl (by decide) fun cdv A outer s H E hr hp tk =>
      (b_one (s_ret (i_callC (ok_fraction T) (hr.mono (by decide)) tk (a_cons (i_bin op_sub b_sub (i_bin o_mul b_mul (i_ix (i_var 0) i_int) (i_ix (i_var 1) i_int)) (i_bin o_mul b_mul (i_ix (i_var 1) i_int) (i_ix (i_var 0) i_int))) (a_cons (i_bin o_mul b_mul (i_ix (i_var 0) i_int) (i_ix (i_var 1) i_int)) a_nil)))))⟩
theorem ok_fraction_less (T : Tx K mg) : Takes_ P w K mg base "fraction_less" 2 2 ["one", "two"] m_fraction_less := by
  obtain ⟨fd, F, G⟩ := fk_fraction_less (P := P) (w := w) (base := base) T
  exact ⟨_, fd, G, T.g_fraction_less, F.kp, (F.bindsN fun _ _ _ _ _ _ us hl => match us, hl with | [_, _], _ => rfl)⟩
theorem sc_fraction_sum : FnScope ["one", "two"] ["one", "two"] (defScope st_fraction_sum) := ⟨rfl, rfl, rfl, by decide +kernel, rfl, by decide +kernel, by decide +kernel⟩
theorem fk_fraction_sum (T : Tx K mg) : ∃ fd, FunD K "fraction_sum" "fraction_sum" (defArgs st_fraction_sum) (defBody st_fraction_sum) (defScope st_fraction_sum) [] [] (He.ga K "fraction_sum") fd ∧ FnOk P w K mg base (L2.CX P w) 2 (He.ga K "fraction_sum") fd ["one", "two"] (spZ K mg 2 m_fraction_sum) := by
  obtain ⟨fd, F⟩ := T.d_fraction_sum
  have S := sc_fraction_sum
  exact ⟨fd, F, fn_okD (N := ["one", "two"]) (k := 1) (n := 2) (mb := b_fraction_sum) F S rfl (by decide) fun cdv A outer s H E hr hp tk =>
      (b_one (s_ret (i_callC (ok_fraction T) (hr.mono (by decide)) tk (a_cons (i_bin o_add b_add (i_bin o_mul b_mul (i_ix (i_var 0) i_int) (i_ix (i_var 1) i_int)) (i_bin o_mul b_mul (i_ix (i_var 1) i_int) (i_ix (i_var 0) i_int))) (a_cons (i_bin o_mul b_mul (i_ix (i_var 0) i_int) (i_ix (i_var 1) i_int)) a_nil)))))⟩
theorem ok_fraction_sum (T : Tx K mg) : Takes_ P w K mg base "fraction_sum" 2 2 ["one", "two"] m_fraction_sum := by
  obtain ⟨fd, F, G⟩ := fk_fraction_sum (P := P) (w := w) (base := base) T
  exact ⟨_, fd, G, T.g_fraction_sum, F.kp, (F.bindsN fun _ _ _ _ _ _ us hl => match us, hl with | [_, _], _ => rfl)⟩
theorem sc_between : FnScope ["one", "two", "share", "steps", "here", "there", "step"] ["one", "two", "share"] (defScope st_between) := ⟨rfl, rfl, rfl, by decide +kernel, rfl, by decide +kernel, by decide +kernel⟩
theorem fk_between (T : Tx K mg) : ∃ fd, FunD K "between" "between" (defArgs st_between) (defBody st_between) (defScope st_between) [] [] (He.ga K "between") fd ∧ FnOk P w K mg base (L2.CX P w) 3 (He.ga K "between") fd ["one", "two", "share"] (spZ K mg 3 m_between) := by
  obtain ⟨fd, F⟩ := T.d_between
  have S := sc_between
  exact ⟨fd, F, fn_okD (N := ["one", "two", "share", "steps", "here", "there", "step"]) (k := 2) (n := 3) (mb := b_between) F S rfl (by decide) fun cdv A outer s H E hr hp tk =>
      (b_cons (s_setLc (own := [("here", 4), ("there", 5)]) rfl S.nd rfl rfl rfl (d_zip T.z_zip (a_cons (i_var 0) (a_cons (i_var 1) a_nil))) (show BlkOk ["one", "two", "share", "steps", "here", "there", "step"] (defScope st_between) _ [("here", 4), ("there", 5)] from ⟨rfl, by decide +kernel, by decide +kernel, by decide +kernel, by decide +kernel⟩) (fun _ _ _ _ _ => (g_tup rfl (gs_cons (g_name 4 S.nd) (gs_cons (g_name 5 S.nd) gs_nil)))) (fun _ _ _ _ _ => t_nil) (fun _ _ _ _ _ => (i_callC (ok_fraction_times T) (hr.mono (by decide)) Z.takes0 (a_cons (i_var 2) (a_cons (i_callC (ok_fraction_less T) (hr.mono (by decide)) Z.takes0 (a_cons (i_var 5) (a_cons (i_var 4) a_nil))) a_nil)))) (by decide))
      (b_one (s_ret (i_ty1 call_tuple_of u_tuple T.z_tuple (i_lc (own := [("here", 4), ("step", 6)]) rfl S.nd (d_zip T.z_zip (a_cons (i_var 0) (a_cons (i_var 3) a_nil))) (show BlkOk ["one", "two", "share", "steps", "here", "there", "step"] (defScope st_between) _ [("here", 4), ("step", 6)] from ⟨rfl, by decide +kernel, by decide +kernel, by decide +kernel, by decide +kernel⟩) (fun _ _ _ _ _ => (g_tup rfl (gs_cons (g_name 4 S.nd) (gs_cons (g_name 6 S.nd) gs_nil)))) (fun _ _ _ _ _ => t_nil) (fun _ _ _ _ _ => (i_callC (ok_fraction_sum T) (hr.mono (by decide)) Z.takes0 (a_cons (i_var 4) (a_cons (i_var 6) a_nil)))) (by decide))))))⟩
theorem ok_between (T : Tx K mg) : Takes_ P w K mg base "between" 3 3 ["one", "two", "share"] m_between := by
  obtain ⟨fd, F, G⟩ := fk_between (P := P) (w := w) (base := base) T
  exact ⟨_, fd, G, T.g_between, F.kp, (F.bindsN fun _ _ _ _ _ _ us hl => match us, hl with | [_, _, _], _ => rfl)⟩
theorem sc_with_corner : FnScope ["corners", "index", "point"] ["corners", "index", "point"] (defScope st_with_corner) := ⟨rfl, rfl, rfl, by decide +kernel, rfl, by decide +kernel, by decide +kernel⟩
theorem fk_with_corner (T : Tx K mg) : ∃ fd, FunD K "with_corner" "with_corner" (defArgs st_with_corner) (defBody st_with_corner) (defScope st_with_corner) [] [] (He.ga K "with_corner") fd ∧ FnOk P w K mg base (L2.CX P w) 1 (He.ga K "with_corner") fd ["corners", "index", "point"] (spZ K mg 3 m_with_corner) := by
  obtain ⟨fd, F⟩ := T.d_with_corner
  have S := sc_with_corner
  exact ⟨fd, F, fn_okD (N := ["corners", "index", "point"]) (k := 0) (n := 3) (mb := b_with_corner) F S rfl (by decide) fun cdv A outer s H E hr hp tk =>
      (b_one (s_ret (i_bin o_add b_add (i_bin o_add b_add (i_sl (i_var 0) o_none (o_some (i_var 1))) (i_tup (a_cons (i_var 2) a_nil))) (i_sl (i_var 0) (o_some (i_bin o_add b_add (i_var 1) i_int)) o_none))))⟩
theorem ok_with_corner (T : Tx K mg) : Takes_ P w K mg base "with_corner" 1 3 ["corners", "index", "point"] m_with_corner := by
  obtain ⟨fd, F, G⟩ := fk_with_corner (P := P) (w := w) (base := base) T
  exact ⟨_, fd, G, T.g_with_corner, F.kp, (F.bindsN fun _ _ _ _ _ _ us hl => match us, hl with | [_, _, _], _ => rfl)⟩
theorem sc_cut_by : FnScope ["cell", "one", "two", "share", "corners", "size", "point", "first"] ["cell", "one", "two", "share"] (defScope st_cut_by) := ⟨rfl, rfl, rfl, by decide +kernel, rfl, by decide +kernel, by decide +kernel⟩
theorem fk_cut_by (T : Tx K mg) : ∃ fd, FunD K "cut_by" "cut_by" (defArgs st_cut_by) (defBody st_cut_by) (defScope st_cut_by) [] [] (He.ga K "cut_by") fd ∧ FnOk P w K mg base (L2.CX P w) 4 (He.ga K "cut_by") fd ["cell", "one", "two", "share"] (spZ K mg 4 m_cut_by) := by
  obtain ⟨fd, F⟩ := T.d_cut_by
  have S := sc_cut_by
  exact ⟨fd, F, fn_okD (N := ["cell", "one", "two", "share", "corners", "size", "point", "first"]) (k := 3) (n := 4) (mb := b_cut_by) F S rfl (by decide) fun cdv A outer s H E hr hp tk =>
      (b_cons (s_unp (i_var 0) (g_tup rfl (gs_cons (g_name 4 S.nd) (gs_cons (g_name 5 S.nd) gs_nil))))
      (b_cons (s_asg 6 S.nd (i_callC (ok_between T) (hr.mono (by decide)) tk (a_cons (i_ix (i_var 4) (i_var 1)) (a_cons (i_ix (i_var 4) (i_var 2)) (a_cons (i_var 3) a_nil)))))
      (b_cons (s_asg 7 S.nd (i_tup (a_cons (i_callC (ok_with_corner T) (hr.mono (by decide)) tk (a_cons (i_var 4) (a_cons (i_var 2) (a_cons (i_var 6) a_nil)))) (a_cons (i_callC (ok_fraction_times T) (hr.mono (by decide)) tk (a_cons (i_var 3) (a_cons (i_var 5) a_nil))) a_nil))))
      (b_one (s_ret (i_tup (a_cons (i_var 7) (a_cons (i_tup (a_cons (i_callC (ok_with_corner T) (hr.mono (by decide)) tk (a_cons (i_var 4) (a_cons (i_var 1) (a_cons (i_var 6) a_nil)))) (a_cons (i_callC (ok_fraction_times T) (hr.mono (by decide)) tk (a_cons (i_callC (ok_fraction_less T) (hr.mono (by decide)) tk (a_cons (i_con T.k_ONE) (a_cons (i_var 3) a_nil))) (a_cons (i_var 5) a_nil))) a_nil))) a_nil))))))))⟩
theorem ok_cut_by (T : Tx K mg) : Takes_ P w K mg base "cut_by" 4 4 ["cell", "one", "two", "share"] m_cut_by := by
  obtain ⟨fd, F, G⟩ := fk_cut_by (P := P) (w := w) (base := base) T
  exact ⟨_, fd, G, T.g_cut_by, F.kp, (F.bindsN fun _ _ _ _ _ _ us hl => match us, hl with | [_, _, _, _], _ => rfl)⟩
theorem sc_draws_of : FnScope ["cell"] ["cell"] (defScope st_draws_of) := ⟨rfl, rfl, rfl, by decide +kernel, rfl, by decide +kernel, by decide +kernel⟩
theorem fk_draws_of (T : Tx K mg) : ∃ fd, FunD K "draws_of" "draws_of" (defArgs st_draws_of) (defBody st_draws_of) (defScope st_draws_of) [] [] (He.ga K "draws_of") fd ∧ FnOk P w K mg base (L2.CX P w) 1 (He.ga K "draws_of") fd ["cell"] (spZ K mg 1 m_draws_of) := by
  obtain ⟨fd, F⟩ := T.d_draws_of
  have S := sc_draws_of
  exact ⟨fd, F, fn_okD (N := ["cell"]) (k := 0) (n := 1) (mb := b_draws_of) F S rfl (by decide) fun cdv A outer s H E hr hp tk =>
      (b_one (s_ret (i_bin op_sub b_sub (i_b1 call_len u_len T.z_len (i_ix (i_var 0) i_int)) i_int)))⟩
theorem ok_draws_of (T : Tx K mg) : Takes_ P w K mg base "draws_of" 1 1 ["cell"] m_draws_of := by
  obtain ⟨fd, F, G⟩ := fk_draws_of (P := P) (w := w) (base := base) T
  exact ⟨_, fd, G, T.g_draws_of, F.kp, (F.bindsN fun _ _ _ _ _ _ us hl => match us, hl with | [_], _ => rfl)⟩
theorem sc_cut : FnScope ["cell", "one", "two", "share"] ["cell", "one", "two", "share"] (defScope st_cut) := ⟨rfl, rfl, rfl, by decide +kernel, rfl, by decide +kernel, by decide +kernel⟩
theorem fk_cut (T : Tx K mg) : ∃ fd, FunD K "cut" "cut" (defArgs st_cut) (defBody st_cut) (defScope st_cut) [] [] (He.ga K "cut") fd ∧ FnOk P w K mg base (L2.CX P w) 8 (He.ga K "cut") fd ["cell", "one", "two", "share"] (spZ K mg 4 m_cut) := by
  obtain ⟨fd, F⟩ := T.d_cut
  have S := sc_cut
  exact ⟨fd, F, fn_okD (N := ["cell", "one", "two", "share"]) (k := 7) (n := 4) (mb := b_cut) F S rfl (by decide) fun cdv A outer s H E hr hp tk =>
      (b_cons (s_expr (i_callC (ok_check_cell T) (hr.mono (by decide)) tk (a_cons (i_var 0) a_nil)))
      (b_cons (s_expr (i_callC (ok_check_number T) (hr.mono (by decide)) tk (a_cons (i_var 1) (a_cons i_int (a_cons (i_callC (ok_draws_of T) (hr.mono (by decide)) tk (a_cons (i_var 0) a_nil)) a_nil)))))
      (b_cons (s_expr (i_callC (ok_check_number T) (hr.mono (by decide)) tk (a_cons (i_var 2) (a_cons (i_bin o_add b_add (i_var 1) i_int) (a_cons (i_callC (ok_draws_of T) (hr.mono (by decide)) tk (a_cons (i_var 0) a_nil)) a_nil)))))
      (b_cons (s_expr (i_callC (ok_check_share T) (hr.mono (by decide)) tk (a_cons (i_var 3) a_nil)))
      (b_one (s_ret (i_callC (ok_cut_by T) (hr.mono (by decide)) tk (a_cons (i_var 0) (a_cons (i_var 1) (a_cons (i_var 2) (a_cons (i_var 3) a_nil)))))))))))⟩
theorem ok_cut (T : Tx K mg) : Takes_ P w K mg base "cut" 8 4 ["cell", "one", "two", "share"] m_cut := by
  obtain ⟨fd, F, G⟩ := fk_cut (P := P) (w := w) (base := base) T
  exact ⟨_, fd, G, T.g_cut, F.kp, (F.bindsN fun _ _ _ _ _ _ us hl => match us, hl with | [_, _, _, _], _ => rfl)⟩
theorem okk_cut_0_share_two_one_cell (T : Tx K mg) : TakesK P w K mg base "cut" 8 4 ["cell", "one", "two", "share"] m_cut 0 ["share", "two", "one", "cell"] [3, 2, 1, 0] := by
  obtain ⟨fd, F, G⟩ := fk_cut (P := P) (w := w) (base := base) T
  exact ⟨_, fd, G, T.g_cut, F.kp, funD_kbn F fun _ _ _ _ _ _ us ws h1 h2 => match us, ws, h1, h2 with | [], [v0, v1, v2, v3], _, _ => rfl⟩
theorem sc_orders_of : FnScope ["many", "found", "_", "order", "draw"] ["many"] (defScope st_orders_of) := ⟨rfl, rfl, rfl, by decide +kernel, rfl, by decide +kernel, by decide +kernel⟩
theorem fk_orders_of (T : Tx K mg) : ∃ fd, FunD K "orders_of" "orders_of" (defArgs st_orders_of) (defBody st_orders_of) (defScope st_orders_of) [] [] (He.ga K "orders_of") fd ∧ FnOk P w K mg base (L2.CX P w) 1 (He.ga K "orders_of") fd ["many"] (spZ K mg 1 m_orders_of) := by
  obtain ⟨fd, F⟩ := T.d_orders_of
  have S := sc_orders_of
  exact ⟨fd, F, fn_okD (N := ["many", "found", "_", "order", "draw"]) (k := 0) (n := 1) (mb := b_orders_of) F S rfl (by decide) fun cdv A outer s H E hr hp tk =>
      (b_cons (s_asg 1 S.nd (i_lst (a_cons (i_tup a_nil) a_nil)))
      (b_cons (s_for hp rfl (d_range T.z_range (a_cons (i_var 0) a_nil)) (g_name 2 S.nd) (b_one (s_setLc2 (own := [("order", 3), ("draw", 4)]) (vs1 := [4]) rfl S.nd rfl rfl rfl (d_val (i_var 1)) (show BlkOk ["many", "found", "_", "order", "draw"] (defScope st_orders_of) _ [("order", 3), ("draw", 4)] from ⟨rfl, by decide +kernel, by decide +kernel, by decide +kernel, by decide +kernel⟩) (by decide) (fun _ _ _ _ _ => (g_name 3 S.nd)) (fun _ _ _ _ _ => t_nil) (fun _ _ _ _ _ => (d_range T.z_range (a_cons (i_var 0) a_nil))) (fun _ _ _ _ _ => (g_name 4 S.nd)) (fun _ _ _ _ _ => (t_one (i_cmpT (op_ninA (hu65 hr)) c_nin (i_var 4) (i_var 3) rfl))) (fun _ _ _ _ _ => (i_tup (a_star (i_var 3) (a_cons (i_var 4) a_nil)))) (by decide) (by decide))))
      (b_one (s_ret (i_var 1)))))⟩
theorem ok_orders_of (T : Tx K mg) : Takes_ P w K mg base "orders_of" 1 1 ["many"] m_orders_of := by
  obtain ⟨fd, F, G⟩ := fk_orders_of (P := P) (w := w) (base := base) T
  exact ⟨_, fd, G, T.g_orders_of, F.kp, (F.bindsN fun _ _ _ _ _ _ us hl => match us, hl with | [_], _ => rfl)⟩
theorem sc_corners_of_order : FnScope ["order", "point", "found", "draw"] ["order"] (defScope st_corners_of_order) := ⟨rfl, rfl, rfl, by decide +kernel, rfl, by decide +kernel, by decide +kernel⟩
theorem fk_corners_of_order (T : Tx K mg) : ∃ fd, FunD K "corners_of_order" "corners_of_order" (defArgs st_corners_of_order) (defBody st_corners_of_order) (defScope st_corners_of_order) [] [] (He.ga K "corners_of_order") fd ∧ FnOk P w K mg base (L2.CX P w) 1 (He.ga K "corners_of_order") fd ["order"] (spZ K mg 1 m_corners_of_order) := by
  obtain ⟨fd, F⟩ := T.d_corners_of_order
  have S := sc_corners_of_order
  exact ⟨fd, F, fn_okD (N := ["order", "point", "found", "draw"]) (k := 0) (n := 1) (mb := b_corners_of_order) F S rfl (by decide) fun cdv A outer s H E hr hp tk =>
      (b_cons (s_asg 1 S.nd (i_bin o_mul b_mul (i_tup (a_cons (i_con T.k_ZERO) a_nil)) (i_b1 call_len u_len T.z_len (i_var 0))))
      (b_cons (s_asg 2 S.nd (i_lst (a_cons (i_var 1) a_nil)))
      (b_cons (s_for hp rfl (d_val (i_var 0)) (g_name 3 S.nd) (b_cons (s_asg 1 S.nd (i_bin o_add b_add (i_bin o_add b_add (i_sl (i_var 1) o_none (o_some (i_var 3))) (i_tup (a_cons (i_con T.k_ONE) a_nil))) (i_sl (i_var 1) (o_some (i_bin o_add b_add (i_var 3) i_int)) o_none)))
      (b_one (s_expr (i_append (i_var 2) (i_var 1))))))
      (b_one (s_ret (i_ty1 call_tuple_of u_tuple T.z_tuple (i_var 2)))))))⟩
theorem ok_corners_of_order (T : Tx K mg) : Takes_ P w K mg base "corners_of_order" 1 1 ["order"] m_corners_of_order := by
  obtain ⟨fd, F, G⟩ := fk_corners_of_order (P := P) (w := w) (base := base) T
  exact ⟨_, fd, G, T.g_corners_of_order, F.kp, (F.bindsN fun _ _ _ _ _ _ us hl => match us, hl with | [_], _ => rfl)⟩
theorem sc_first_cells_by : FnScope ["many", "orders", "order"] ["many"] (defScope st_first_cells_by) := ⟨rfl, rfl, rfl, by decide +kernel, rfl, by decide +kernel, by decide +kernel⟩
theorem fk_first_cells_by (T : Tx K mg) : ∃ fd, FunD K "first_cells_by" "first_cells_by" (defArgs st_first_cells_by) (defBody st_first_cells_by) (defScope st_first_cells_by) [] [] (He.ga K "first_cells_by") fd ∧ FnOk P w K mg base (L2.CX P w) 2 (He.ga K "first_cells_by") fd ["many"] (spZ K mg 1 m_first_cells_by) := by
  obtain ⟨fd, F⟩ := T.d_first_cells_by
  have S := sc_first_cells_by
  exact ⟨fd, F, fn_okD (N := ["many", "orders", "order"]) (k := 1) (n := 1) (mb := b_first_cells_by) F S rfl (by decide) fun cdv A outer s H E hr hp tk =>
      (b_cons (s_asg 1 S.nd (i_callC (ok_orders_of T) (hr.mono (by decide)) tk (a_cons (i_var 0) a_nil)))
      (b_one (s_ret (i_ty1 call_tuple_of u_tuple T.z_tuple (i_lc (own := [("order", 2)]) rfl S.nd (d_val (i_var 1)) (show BlkOk ["many", "orders", "order"] (defScope st_first_cells_by) _ [("order", 2)] from ⟨rfl, by decide +kernel, by decide +kernel, by decide +kernel, by decide +kernel⟩) (fun _ _ _ _ _ => (g_name 2 S.nd)) (fun _ _ _ _ _ => t_nil) (fun _ _ _ _ _ => (i_tup (a_cons (i_callC (ok_corners_of_order T) (hr.mono (by decide)) Z.takes0 (a_cons (i_var 2) a_nil)) (a_cons (i_tup (a_cons i_int (a_cons (i_b1 call_len u_len T.z_len (i_var 1)) a_nil))) a_nil)))) (by decide))))))⟩
theorem ok_first_cells_by (T : Tx K mg) : Takes_ P w K mg base "first_cells_by" 2 1 ["many"] m_first_cells_by := by
  obtain ⟨fd, F, G⟩ := fk_first_cells_by (P := P) (w := w) (base := base) T
  exact ⟨_, fd, G, T.g_first_cells_by, F.kp, (F.bindsN fun _ _ _ _ _ _ us hl => match us, hl with | [_], _ => rfl)⟩
theorem sc_first_cells : FnScope ["many"] ["many"] (defScope st_first_cells) := ⟨rfl, rfl, rfl, by decide +kernel, rfl, by decide +kernel, by decide +kernel⟩
theorem fk_first_cells (T : Tx K mg) : ∃ fd, FunD K "first_cells" "first_cells" (defArgs st_first_cells) (defBody st_first_cells) (defScope st_first_cells) [] [] (He.ga K "first_cells") fd ∧ FnOk P w K mg base (L2.CX P w) 4 (He.ga K "first_cells") fd ["many"] (spZ K mg 1 m_first_cells) := by
  obtain ⟨fd, F⟩ := T.d_first_cells
  have S := sc_first_cells
  exact ⟨fd, F, fn_okD (N := ["many"]) (k := 3) (n := 1) (mb := b_first_cells) F S rfl (by decide) fun cdv A outer s H E hr hp tk =>
      (b_cons (s_expr (i_callC (ok_check_number T) (hr.mono (by decide)) tk (a_cons (i_var 0) (a_cons i_int (a_cons (i_con T.k_MOST_DRAWS) a_nil)))))
      (b_one (s_ret (i_callC (ok_first_cells_by T) (hr.mono (by decide)) tk (a_cons (i_var 0) a_nil)))))⟩
theorem ok_first_cells (T : Tx K mg) : Takes_ P w K mg base "first_cells" 4 1 ["many"] m_first_cells := by
  obtain ⟨fd, F, G⟩ := fk_first_cells (P := P) (w := w) (base := base) T
  exact ⟨_, fd, G, T.g_first_cells, F.kp, (F.bindsN fun _ _ _ _ _ _ us hl => match us, hl with | [_], _ => rfl)⟩
theorem okk_first_cells_0_many (T : Tx K mg) : TakesK P w K mg base "first_cells" 4 1 ["many"] m_first_cells 0 ["many"] [0] := by
  obtain ⟨fd, F, G⟩ := fk_first_cells (P := P) (w := w) (base := base) T
  exact ⟨_, fd, G, T.g_first_cells, F.kp, funD_kbn F fun _ _ _ _ _ _ us ws h1 h2 => match us, ws, h1, h2 with | [], [v0], _, _ => rfl⟩
theorem sc__law_part : FnScope ["one", "two", "low", "high"] ["one", "two"] (defScope st__law_part) := ⟨rfl, rfl, rfl, by decide +kernel, rfl, by decide +kernel, by decide +kernel⟩
theorem fk__law_part (T : Tx K mg) : ∃ fd, FunD K "_law_part" "_law_part" (defArgs st__law_part) (defBody st__law_part) (defScope st__law_part) [] [] (He.ga K "_law_part") fd ∧ FnOk P w K mg base (L2.CX P w) 1 (He.ga K "_law_part") fd ["one", "two"] (spZ K mg 2 m__law_part) := by
  obtain ⟨fd, F⟩ := T.d__law_part
  have S := sc__law_part
  exact ⟨fd, F, fn_okD (N := ["one", "two", "low", "high"]) (k := 0) (n := 2) (mb := b__law_part) F S rfl (by decide) fun cdv A outer s H E hr hp tk =>
      (b_cons (s_if (i_cmpT op_lt c_lt (i_var 1) i_int (nomark _)) (b_one (s_par 0 1 rfl S.nd (h_cons (i_bin op_sub b_sub i_int (i_var 0)) (h_cons (i_bin op_sub b_sub i_int (i_var 1)) h_nil)))) b_nil)
      (b_cons (s_par 2 3 rfl S.nd (h_cons (i_b1 call_abs u_abs T.z_abs (i_var 0)) (h_cons (i_var 1) h_nil)))
      (b_cons (s_while 100000 hp (i_cmpT op_gt c_gt (i_var 3) i_int (nomark _)) (b_one (s_par 2 3 rfl S.nd (h_cons (i_var 3) (h_cons (i_bin op_modN b_mod (i_ty1 call_int1 u_int T.z_int (i_var 2)) (i_var 3)) h_nil)))))
      (b_one (s_ret (i_tup (a_cons (i_bin op_fdivA b_fdiv (i_var 0) (i_var 2)) (a_cons (i_bin op_fdivA b_fdiv (i_var 1) (i_var 2)) a_nil))))))))⟩
theorem ok__law_part (T : Tx K mg) : Takes_ P w K mg base "_law_part" 1 2 ["one", "two"] m__law_part := by
  obtain ⟨fd, F, G⟩ := fk__law_part (P := P) (w := w) (base := base) T
  exact ⟨_, fd, G, T.g__law_part, F.kp, (F.bindsN fun _ _ _ _ _ _ us hl => match us, hl with | [_, _], _ => rfl)⟩
theorem sc__law_plus : FnScope ["one", "two"] ["one", "two"] (defScope st__law_plus) := ⟨rfl, rfl, rfl, by decide +kernel, rfl, by decide +kernel, by decide +kernel⟩
theorem fk__law_plus (T : Tx K mg) : ∃ fd, FunD K "_law_plus" "_law_plus" (defArgs st__law_plus) (defBody st__law_plus) (defScope st__law_plus) [] [] (He.ga K "_law_plus") fd ∧ FnOk P w K mg base (L2.CX P w) 2 (He.ga K "_law_plus") fd ["one", "two"] (spZ K mg 2 m__law_plus) := by
  obtain ⟨fd, F⟩ := T.d__law_plus
  have S := sc__law_plus
  exact ⟨fd, F, fn_okD (N := ["one", "two"]) (k := 1) (n := 2) (mb := b__law_plus) F S rfl (by decide) fun cdv A outer s H E hr hp tk =>
      (b_one (s_ret (i_callC (ok__law_part T) (hr.mono (by decide)) tk (a_cons (i_bin o_add b_add (i_bin o_mul b_mul (i_ix (i_var 0) i_int) (i_ix (i_var 1) i_int)) (i_bin o_mul b_mul (i_ix (i_var 1) i_int) (i_ix (i_var 0) i_int))) (a_cons (i_bin o_mul b_mul (i_ix (i_var 0) i_int) (i_ix (i_var 1) i_int)) a_nil)))))⟩
theorem ok__law_plus (T : Tx K mg) : Takes_ P w K mg base "_law_plus" 2 2 ["one", "two"] m__law_plus := by
  obtain ⟨fd, F, G⟩ := fk__law_plus (P := P) (w := w) (base := base) T
  exact ⟨_, fd, G, T.g__law_plus, F.kp, (F.bindsN fun _ _ _ _ _ _ us hl => match us, hl with | [_, _], _ => rfl)⟩
theorem sc__law_total : FnScope ["some", "found", "each"] ["some"] (defScope st__law_total) := ⟨rfl, rfl, rfl, by decide +kernel, rfl, by decide +kernel, by decide +kernel⟩
theorem fk__law_total (T : Tx K mg) : ∃ fd, FunD K "_law_total" "_law_total" (defArgs st__law_total) (defBody st__law_total) (defScope st__law_total) [] [] (He.ga K "_law_total") fd ∧ FnOk P w K mg base (L2.CX P w) 3 (He.ga K "_law_total") fd ["some"] (spZ K mg 1 m__law_total) := by
  obtain ⟨fd, F⟩ := T.d__law_total
  have S := sc__law_total
  exact ⟨fd, F, fn_okD (N := ["some", "found", "each"]) (k := 2) (n := 1) (mb := b__law_total) F S rfl (by decide) fun cdv A outer s H E hr hp tk =>
      (b_cons (s_asg 1 S.nd (i_tup (a_cons i_int (a_cons i_int a_nil))))
      (b_cons (s_for hp rfl (d_val (i_var 0)) (g_name 2 S.nd) (b_one (s_asg 1 S.nd (i_callC (ok__law_plus T) (hr.mono (by decide)) tk (a_cons (i_var 1) (a_cons (i_var 2) a_nil))))))
      (b_one (s_ret (i_var 1)))))⟩
theorem ok__law_total (T : Tx K mg) : Takes_ P w K mg base "_law_total" 3 1 ["some"] m__law_total := by
  obtain ⟨fd, F, G⟩ := fk__law_total (P := P) (w := w) (base := base) T
  exact ⟨_, fd, G, T.g__law_total, F.kp, (F.bindsN fun _ _ _ _ _ _ us hl => match us, hl with | [_], _ => rfl)⟩
theorem sc_sign_of : FnScope ["number"] ["number"] (defScope st_sign_of) := ⟨rfl, rfl, rfl, by decide +kernel, rfl, by decide +kernel, by decide +kernel⟩
theorem fk_sign_of (T : Tx K mg) : ∃ fd, FunD K "sign_of" "sign_of" (defArgs st_sign_of) (defBody st_sign_of) (defScope st_sign_of) [] [] (He.ga K "sign_of") fd ∧ FnOk P w K mg base (L2.CX P w) 1 (He.ga K "sign_of") fd ["number"] (spZ K mg 1 m_sign_of) := by
  obtain ⟨fd, F⟩ := T.d_sign_of
  have S := sc_sign_of
  exact ⟨fd, F, fn_okD (N := ["number"]) (k := 0) (n := 1) (mb := b_sign_of) F S rfl (by decide) fun cdv A outer s H E hr hp tk =>
      (b_one (s_ret (i_bin op_sub b_sub (i_ty1 call_int1 u_int T.z_int (i_cmp op_gt c_gt (i_var 0) i_int (nomark _))) (i_ty1 call_int1 u_int T.z_int (i_cmp op_lt c_lt (i_var 0) i_int (nomark _))))))⟩
theorem ok_sign_of (T : Tx K mg) : Takes_ P w K mg base "sign_of" 1 1 ["number"] m_sign_of := by
  obtain ⟨fd, F, G⟩ := fk_sign_of (P := P) (w := w) (base := base) T
  exact ⟨_, fd, G, T.g_sign_of, F.kp, (F.bindsN fun _ _ _ _ _ _ us hl => match us, hl with | [_], _ => rfl)⟩
theorem sc_fraction_over : FnScope ["one", "two", "sign"] ["one", "two"] (defScope st_fraction_over) := ⟨rfl, rfl, rfl, by decide +kernel, rfl, by decide +kernel, by decide +kernel⟩
theorem fk_fraction_over (T : Tx K mg) : ∃ fd, FunD K "fraction_over" "fraction_over" (defArgs st_fraction_over) (defBody st_fraction_over) (defScope st_fraction_over) [] [] (He.ga K "fraction_over") fd ∧ FnOk P w K mg base (L2.CX P w) 2 (He.ga K "fraction_over") fd ["one", "two"] (spZ K mg 2 m_fraction_over) := by
  obtain ⟨fd, F⟩ := T.d_fraction_over
  have S := sc_fraction_over
  exact ⟨fd, F, fn_okD (N := ["one", "two", "sign"]) (k := 1) (n := 2) (mb := b_fraction_over) F S rfl (by decide) fun cdv A outer s H E hr hp tk =>
      (b_cons (s_asg 2 S.nd (i_callC (ok_sign_of T) (hr.mono (by decide)) tk (a_cons (i_ix (i_var 1) i_int) a_nil)))
      (b_one (s_ret (i_callC (ok_fraction T) (hr.mono (by decide)) tk (a_cons (i_bin o_mul b_mul (i_bin o_mul b_mul (i_var 2) (i_ix (i_var 0) i_int)) (i_ix (i_var 1) i_int)) (a_cons (i_bin o_mul b_mul (i_bin o_mul b_mul (i_var 2) (i_ix (i_var 0) i_int)) (i_ix (i_var 1) i_int)) a_nil))))))⟩
theorem ok_fraction_over (T : Tx K mg) : Takes_ P w K mg base "fraction_over" 2 2 ["one", "two"] m_fraction_over := by
  obtain ⟨fd, F, G⟩ := fk_fraction_over (P := P) (w := w) (base := base) T
  exact ⟨_, fd, G, T.g_fraction_over, F.kp, (F.bindsN fun _ _ _ _ _ _ us hl => match us, hl with | [_, _], _ => rfl)⟩
theorem sc_pivot_of : FnScope ["rows", "index", "row"] ["rows"] (defScope st_pivot_of) := ⟨rfl, rfl, rfl, by decide +kernel, rfl, by decide +kernel, by decide +kernel⟩
theorem fk_pivot_of (T : Tx K mg) : ∃ fd, FunD K "pivot_of" "pivot_of" (defArgs st_pivot_of) (defBody st_pivot_of) (defScope st_pivot_of) [] [] (He.ga K "pivot_of") fd ∧ FnOk P w K mg base (L2.CX P w) 1 (He.ga K "pivot_of") fd ["rows"] (spZ K mg 1 m_pivot_of) := by
  obtain ⟨fd, F⟩ := T.d_pivot_of
  have S := sc_pivot_of
  exact ⟨fd, F, fn_okD (N := ["rows", "index", "row"]) (k := 0) (n := 1) (mb := b_pivot_of) F S rfl (by decide) fun cdv A outer s H E hr hp tk =>
      (b_one (s_ret (i_sl (i_lc (own := [("index", 1), ("row", 2)]) rfl S.nd (d_enum T.z_enumerate (a_cons (i_var 0) a_nil)) (show BlkOk ["rows", "index", "row"] (defScope st_pivot_of) _ [("index", 1), ("row", 2)] from ⟨rfl, by decide +kernel, by decide +kernel, by decide +kernel, by decide +kernel⟩) (fun _ _ _ _ _ => (g_tup rfl (gs_cons (g_name 1 S.nd) (gs_cons (g_name 2 S.nd) gs_nil)))) (fun _ _ _ _ _ => (t_one (i_cmpT (op_neD (hu64 hr)) c_ne (i_ix (i_var 2) i_int) (i_con T.k_ZERO) (nomark _)))) (fun _ _ _ _ _ => (i_var 1)) (by decide)) o_none (o_some i_int))))⟩
theorem ok_pivot_of (T : Tx K mg) : Takes_ P w K mg base "pivot_of" 1 1 ["rows"] m_pivot_of := by
  obtain ⟨fd, F, G⟩ := fk_pivot_of (P := P) (w := w) (base := base) T
  exact ⟨_, fd, G, T.g_pivot_of, F.kp, (F.bindsN fun _ _ _ _ _ _ us hl => match us, hl with | [_], _ => rfl)⟩
theorem sc_without_first : FnScope ["row", "pivot", "times", "each", "there"] ["row", "pivot"] (defScope st_without_first) := ⟨rfl, rfl, rfl, by decide +kernel, rfl, by decide +kernel, by decide +kernel⟩
theorem fk_without_first (T : Tx K mg) : ∃ fd, FunD K "without_first" "without_first" (defArgs st_without_first) (defBody st_without_first) (defScope st_without_first) [] [] (He.ga K "without_first") fd ∧ FnOk P w K mg base (L2.CX P w) 3 (He.ga K "without_first") fd ["row", "pivot"] (spZ K mg 2 m_without_first) := by
  obtain ⟨fd, F⟩ := T.d_without_first
  have S := sc_without_first
  exact ⟨fd, F, fn_okD (N := ["row", "pivot", "times", "each", "there"]) (k := 2) (n := 2) (mb := b_without_first) F S rfl (by decide) fun cdv A outer s H E hr hp tk =>
      (b_cons (s_asg 2 S.nd (i_callC (ok_fraction_over T) (hr.mono (by decide)) tk (a_cons (i_ix (i_var 0) i_int) (a_cons (i_ix (i_var 1) i_int) a_nil))))
      (b_one (s_ret (i_lc (own := [("each", 3), ("there", 4)]) rfl S.nd (d_zip T.z_zip (a_cons (i_sl (i_var 0) (o_some i_int) o_none) (a_cons (i_sl (i_var 1) (o_some i_int) o_none) a_nil))) (show BlkOk ["row", "pivot", "times", "each", "there"] (defScope st_without_first) _ [("each", 3), ("there", 4)] from ⟨rfl, by decide +kernel, by decide +kernel, by decide +kernel, by decide +kernel⟩) (fun _ _ _ _ _ => (g_tup rfl (gs_cons (g_name 3 S.nd) (gs_cons (g_name 4 S.nd) gs_nil)))) (fun _ _ _ _ _ => t_nil) (fun _ _ _ _ _ => (i_callC (ok_fraction_less T) (hr.mono (by decide)) Z.takes0 (a_cons (i_var 3) (a_cons (i_callC (ok_fraction_times T) (hr.mono (by decide)) Z.takes0 (a_cons (i_var 2) (a_cons (i_var 4) a_nil))) a_nil)))) (by decide)))))⟩
theorem ok_without_first (T : Tx K mg) : Takes_ P w K mg base "without_first" 3 2 ["row", "pivot"] m_without_first := by
  obtain ⟨fd, F, G⟩ := fk_without_first (P := P) (w := w) (base := base) T
  exact ⟨_, fd, G, T.g_without_first, F.kp, (F.bindsN fun _ _ _ _ _ _ us hl => match us, hl with | [_, _], _ => rfl)⟩
theorem sc_determinant_size : FnScope ["rows", "found", "indexes", "pivot", "index", "row"] ["rows"] (defScope st_determinant_size) := ⟨rfl, rfl, rfl, by decide +kernel, rfl, by decide +kernel, by decide +kernel⟩
theorem fk_determinant_size (T : Tx K mg) : ∃ fd, FunD K "determinant_size" "determinant_size" (defArgs st_determinant_size) (defBody st_determinant_size) (defScope st_determinant_size) [] [] (He.ga K "determinant_size") fd ∧ FnOk P w K mg base (L2.CX P w) 4 (He.ga K "determinant_size") fd ["rows"] (spZ K mg 1 m_determinant_size) := by
  obtain ⟨fd, F⟩ := T.d_determinant_size
  have S := sc_determinant_size
  exact ⟨fd, F, fn_okD (N := ["rows", "found", "indexes", "pivot", "index", "row"]) (k := 3) (n := 1) (mb := b_determinant_size) F S rfl (by decide) fun cdv A outer s H E hr hp tk =>
      (b_cons (s_asg 1 S.nd (i_con T.k_ONE))
      (b_cons (s_while 10 hp (i_cmpT (op_neD (hu64 hr)) c_ne (i_var 0) (i_lst a_nil) (nomark _)) (b_cons (s_asg 2 S.nd (i_callC (ok_pivot_of T) (hr.mono (by decide)) tk (a_cons (i_var 0) a_nil)))
      (b_cons (s_if (i_cmpT (op_eqD (hu64 hr)) c_eq (i_var 2) (i_lst a_nil) (nomark _)) (b_one (s_ret (i_con T.k_ZERO))) b_nil)
      (b_cons (s_asg 3 S.nd (i_ix (i_var 0) (i_ix (i_var 2) i_int)))
      (b_cons (s_asg 1 S.nd (i_callC (ok_fraction_times T) (hr.mono (by decide)) tk (a_cons (i_var 1) (a_cons (i_ix (i_var 3) i_int) a_nil))))
      (b_one (s_setLc (own := [("index", 4), ("row", 5)]) rfl S.nd rfl rfl rfl (d_enum T.z_enumerate (a_cons (i_var 0) a_nil)) (show BlkOk ["rows", "found", "indexes", "pivot", "index", "row"] (defScope st_determinant_size) _ [("index", 4), ("row", 5)] from ⟨rfl, by decide +kernel, by decide +kernel, by decide +kernel, by decide +kernel⟩) (fun _ _ _ _ _ => (g_tup rfl (gs_cons (g_name 4 S.nd) (gs_cons (g_name 5 S.nd) gs_nil)))) (fun _ _ _ _ _ => (t_one (i_cmpT (op_neD (hu64 hr)) c_ne (i_var 4) (i_ix (i_var 2) i_int) (nomark _)))) (fun _ _ _ _ _ => (i_callC (ok_without_first T) (hr.mono (by decide)) Z.takes0 (a_cons (i_var 5) (a_cons (i_var 3) a_nil)))) (by decide))))))))
      (b_one (s_ret (i_callC (ok_fraction T) (hr.mono (by decide)) tk (a_cons (i_b1 call_abs u_abs T.z_abs (i_ix (i_var 1) i_int)) (a_cons (i_ix (i_var 1) i_int) a_nil)))))))⟩
theorem ok_determinant_size (T : Tx K mg) : Takes_ P w K mg base "determinant_size" 4 1 ["rows"] m_determinant_size := by
  obtain ⟨fd, F, G⟩ := fk_determinant_size (P := P) (w := w) (base := base) T
  exact ⟨_, fd, G, T.g_determinant_size, F.kp, (F.bindsN fun _ _ _ _ _ _ us hl => match us, hl with | [_], _ => rfl)⟩
theorem sc_volume_by : FnScope ["cell", "start", "rows", "corner", "here", "there"] ["cell"] (defScope st_volume_by) := ⟨rfl, rfl, rfl, by decide +kernel, rfl, by decide +kernel, by decide +kernel⟩
theorem fk_volume_by (T : Tx K mg) : ∃ fd, FunD K "volume_by" "volume_by" (defArgs st_volume_by) (defBody st_volume_by) (defScope st_volume_by) [] [] (He.ga K "volume_by") fd ∧ FnOk P w K mg base (L2.CX P w) 5 (He.ga K "volume_by") fd ["cell"] (spZ K mg 1 m_volume_by) := by
  obtain ⟨fd, F⟩ := T.d_volume_by
  have S := sc_volume_by
  exact ⟨fd, F, fn_okD (N := ["cell", "start", "rows", "corner", "here", "there"]) (k := 4) (n := 1) (mb := b_volume_by) F S rfl (by decide) fun cdv A outer s H E hr hp tk =>
      (b_cons (s_asg 1 S.nd (i_ix (i_ix (i_var 0) i_int) i_int))
      (b_cons (s_setLc (own := [("corner", 3)]) rfl S.nd rfl rfl rfl (d_val (i_sl (i_ix (i_var 0) i_int) (o_some i_int) o_none)) (show BlkOk ["cell", "start", "rows", "corner", "here", "there"] (defScope st_volume_by) _ [("corner", 3)] from ⟨rfl, by decide +kernel, by decide +kernel, by decide +kernel, by decide +kernel⟩) (fun _ _ _ _ _ => (g_name 3 S.nd)) (fun _ _ _ _ _ => t_nil) (fun _ _ _ _ _ => (i_lc (own := [("here", 4), ("there", 5)]) rfl S.nd (d_zip T.z_zip (a_cons (i_var 1) (a_cons (i_var 3) a_nil))) (show BlkOk ["cell", "start", "rows", "corner", "here", "there"] (relS _ (defScope st_volume_by)) _ [("here", 4), ("there", 5)] from ⟨rfl, by decide +kernel, by decide +kernel, by decide +kernel, by decide +kernel⟩) (fun _ _ _ _ _ => (g_tup rfl (gs_cons (g_name 4 S.nd) (gs_cons (g_name 5 S.nd) gs_nil)))) (fun _ _ _ _ _ => t_nil) (fun _ _ _ _ _ => (i_callC (ok_fraction_less T) (hr.mono (by decide)) Z.takes0 (a_cons (i_var 5) (a_cons (i_var 4) a_nil)))) (by decide))) (by decide))
      (b_one (s_ret (i_callC (ok_fraction_over T) (hr.mono (by decide)) tk (a_cons (i_callC (ok_determinant_size T) (hr.mono (by decide)) tk (a_cons (i_var 2) a_nil)) (a_cons (i_tup (a_cons (i_b1 call_len u_len T.z_len (i_callC (ok_orders_of T) (hr.mono (by decide)) tk (a_cons (i_callC (ok_draws_of T) (hr.mono (by decide)) tk (a_cons (i_var 0) a_nil)) a_nil))) (a_cons i_int a_nil))) a_nil)))))))⟩
theorem ok_volume_by (T : Tx K mg) : Takes_ P w K mg base "volume_by" 5 1 ["cell"] m_volume_by := by
  obtain ⟨fd, F, G⟩ := fk_volume_by (P := P) (w := w) (base := base) T
  exact ⟨_, fd, G, T.g_volume_by, F.kp, (F.bindsN fun _ _ _ _ _ _ us hl => match us, hl with | [_], _ => rfl)⟩
theorem sc_volume : FnScope ["cell"] ["cell"] (defScope st_volume) := ⟨rfl, rfl, rfl, by decide +kernel, rfl, by decide +kernel, by decide +kernel⟩
theorem fk_volume (T : Tx K mg) : ∃ fd, FunD K "volume" "volume" (defArgs st_volume) (defBody st_volume) (defScope st_volume) [] [] (He.ga K "volume") fd ∧ FnOk P w K mg base (L2.CX P w) 8 (He.ga K "volume") fd ["cell"] (spZ K mg 1 m_volume) := by
  obtain ⟨fd, F⟩ := T.d_volume
  have S := sc_volume
  exact ⟨fd, F, fn_okD (N := ["cell"]) (k := 7) (n := 1) (mb := b_volume) F S rfl (by decide) fun cdv A outer s H E hr hp tk =>
      (b_cons (s_expr (i_callC (ok_check_cell T) (hr.mono (by decide)) tk (a_cons (i_var 0) a_nil)))
      (b_one (s_ret (i_callC (ok_volume_by T) (hr.mono (by decide)) tk (a_cons (i_var 0) a_nil)))))⟩
theorem ok_volume (T : Tx K mg) : Takes_ P w K mg base "volume" 8 1 ["cell"] m_volume := by
  obtain ⟨fd, F, G⟩ := fk_volume (P := P) (w := w) (base := base) T
  exact ⟨_, fd, G, T.g_volume, F.kp, (F.bindsN fun _ _ _ _ _ _ us hl => match us, hl with | [_], _ => rfl)⟩
theorem okk_volume_0_cell (T : Tx K mg) : TakesK P w K mg base "volume" 8 1 ["cell"] m_volume 0 ["cell"] [0] := by
  obtain ⟨fd, F, G⟩ := fk_volume (P := P) (w := w) (base := base) T
  exact ⟨_, fd, G, T.g_volume, F.kp, funD_kbn F fun _ _ _ _ _ _ us ws h1 h2 => match us, ws, h1, h2 with | [], [v0], _, _ => rfl⟩
theorem sc__law_orders : FnScope ["many", "found", "lap", "row", "k"] ["many"] (defScope st__law_orders) := ⟨rfl, rfl, rfl, by decide +kernel, rfl, by decide +kernel, by decide +kernel⟩
theorem fk__law_orders (T : Tx K mg) : ∃ fd, FunD K "_law_orders" "_law_orders" (defArgs st__law_orders) (defBody st__law_orders) (defScope st__law_orders) [] [] (He.ga K "_law_orders") fd ∧ FnOk P w K mg base (L2.CX P w) 1 (He.ga K "_law_orders") fd ["many"] (spZ K mg 1 m__law_orders) := by
  obtain ⟨fd, F⟩ := T.d__law_orders
  have S := sc__law_orders
  exact ⟨fd, F, fn_okD (N := ["many", "found", "lap", "row", "k"]) (k := 0) (n := 1) (mb := b__law_orders) F S rfl (by decide) fun cdv A outer s H E hr hp tk =>
      (b_cons (s_asg 1 S.nd (i_lst (a_cons (i_tup a_nil) a_nil)))
      (b_cons (s_for hp rfl (d_range T.z_range (a_cons (i_var 0) a_nil)) (g_name 2 S.nd) (b_one (s_asg 1 S.nd (i_sum2 T.z_sum (i_lc (own := [("row", 3)]) rfl S.nd (d_val (i_var 1)) (show BlkOk ["many", "found", "lap", "row", "k"] (defScope st__law_orders) _ [("row", 3)] from ⟨rfl, by decide +kernel, by decide +kernel, by decide +kernel, by decide +kernel⟩) (fun _ _ _ _ _ => (g_name 3 S.nd)) (fun _ _ _ _ _ => t_nil) (fun _ _ _ _ _ => (i_lc (own := [("k", 4)]) rfl S.nd (d_range T.z_range (a_cons (i_var 0) a_nil)) (show BlkOk ["many", "found", "lap", "row", "k"] (relS _ (defScope st__law_orders)) _ [("k", 4)] from ⟨rfl, by decide +kernel, by decide +kernel, by decide +kernel, by decide +kernel⟩) (fun _ _ _ _ _ => (g_name 4 S.nd)) (fun _ _ _ _ _ => (t_one (i_cmpT (op_ninA (hu65 hr)) c_nin (i_var 4) (i_var 3) rfl))) (fun _ _ _ _ _ => (i_bin o_add b_add (i_var 3) (i_tup (a_cons (i_var 4) a_nil)))) (by decide))) (by decide)) (i_lst a_nil)))))
      (b_one (s_ret (i_var 1)))))⟩
theorem ok__law_orders (T : Tx K mg) : Takes_ P w K mg base "_law_orders" 1 1 ["many"] m__law_orders := by
  obtain ⟨fd, F, G⟩ := fk__law_orders (P := P) (w := w) (base := base) T
  exact ⟨_, fd, G, T.g__law_orders, F.kp, (F.bindsN fun _ _ _ _ _ _ us hl => match us, hl with | [_], _ => rfl)⟩
theorem sc__law_firsts : FnScope ["many", "rows", "orders", "order", "corners", "k", "at", "each"] ["many"] (defScope st__law_firsts) := ⟨rfl, rfl, rfl, by decide +kernel, rfl, by decide +kernel, by decide +kernel⟩
theorem fk__law_firsts (T : Tx K mg) : ∃ fd, FunD K "_law_firsts" "_law_firsts" (defArgs st__law_firsts) (defBody st__law_firsts) (defScope st__law_firsts) [] [] (He.ga K "_law_firsts") fd ∧ FnOk P w K mg base (L2.CX P w) 2 (He.ga K "_law_firsts") fd ["many"] (spZ K mg 1 m__law_firsts) := by
  obtain ⟨fd, F⟩ := T.d__law_firsts
  have S := sc__law_firsts
  exact ⟨fd, F, fn_okD (N := ["many", "rows", "orders", "order", "corners", "k", "at", "each"]) (k := 1) (n := 1) (mb := b__law_firsts) F S rfl (by decide) fun cdv A outer s H E hr hp tk =>
      (b_cons (s_par 1 2 rfl S.nd (h_cons (i_lst a_nil) (h_cons (i_callC (ok__law_orders T) (hr.mono (by decide)) tk (a_cons (i_var 0) a_nil)) h_nil)))
      (b_cons (s_for hp rfl (d_val (i_var 2)) (g_name 3 S.nd) (b_cons (s_asg 4 S.nd (i_lst (a_cons (i_ty1 call_tuple_of u_tuple T.z_tuple (i_bin o_mul b_mul (i_lst (a_cons (i_tup (a_cons i_int (a_cons i_int a_nil))) a_nil)) (i_var 0))) a_nil)))
      (b_cons (s_for hp rfl (d_val (i_var 3)) (g_name 5 S.nd) (b_one (s_expr (i_append (i_var 4) (i_ty1 call_tuple_of u_tuple T.z_tuple (i_lc (own := [("at", 6), ("each", 7)]) rfl S.nd (d_enum T.z_enumerate (a_cons (i_ix (i_var 4) (i_neg i_int)) a_nil)) (show BlkOk ["many", "rows", "orders", "order", "corners", "k", "at", "each"] (defScope st__law_firsts) _ [("at", 6), ("each", 7)] from ⟨rfl, by decide +kernel, by decide +kernel, by decide +kernel, by decide +kernel⟩) (fun _ _ _ _ _ => (g_tup rfl (gs_cons (g_name 6 S.nd) (gs_cons (g_name 7 S.nd) gs_nil)))) (fun _ _ _ _ _ => t_nil) (fun _ _ _ _ _ => (i_if (i_cmpT (op_eqD (hu64 hr)) c_eq (i_var 6) (i_var 5) (nomark _)) (i_tup (a_cons i_int (a_cons i_int a_nil))) (i_var 7))) (by decide)))))))
      (b_one (s_expr (i_append (i_var 1) (i_tup (a_cons (i_ty1 call_tuple_of u_tuple T.z_tuple (i_var 4)) (a_cons (i_tup (a_cons i_int (a_cons (i_b1 call_len u_len T.z_len (i_var 2)) a_nil))) a_nil)))))))))
      (b_one (s_ret (i_ty1 call_tuple_of u_tuple T.z_tuple (i_var 1))))))⟩
theorem ok__law_firsts (T : Tx K mg) : Takes_ P w K mg base "_law_firsts" 2 1 ["many"] m__law_firsts := by
  obtain ⟨fd, F, G⟩ := fk__law_firsts (P := P) (w := w) (base := base) T
  exact ⟨_, fd, G, T.g__law_firsts, F.kp, (F.bindsN fun _ _ _ _ _ _ us hl => match us, hl with | [_], _ => rfl)⟩
theorem sc__law_by : FnScope ["one", "two"] ["one", "two"] (defScope st__law_by) := ⟨rfl, rfl, rfl, by decide +kernel, rfl, by decide +kernel, by decide +kernel⟩
theorem fk__law_by (T : Tx K mg) : ∃ fd, FunD K "_law_by" "_law_by" (defArgs st__law_by) (defBody st__law_by) (defScope st__law_by) [] [] (He.ga K "_law_by") fd ∧ FnOk P w K mg base (L2.CX P w) 2 (He.ga K "_law_by") fd ["one", "two"] (spZ K mg 2 m__law_by) := by
  obtain ⟨fd, F⟩ := T.d__law_by
  have S := sc__law_by
  exact ⟨fd, F, fn_okD (N := ["one", "two"]) (k := 1) (n := 2) (mb := b__law_by) F S rfl (by decide) fun cdv A outer s H E hr hp tk =>
      (b_one (s_ret (i_callC (ok__law_part T) (hr.mono (by decide)) tk (a_cons (i_bin o_mul b_mul (i_ix (i_var 0) i_int) (i_ix (i_var 1) i_int)) (a_cons (i_bin o_mul b_mul (i_ix (i_var 0) i_int) (i_ix (i_var 1) i_int)) a_nil)))))⟩
theorem ok__law_by (T : Tx K mg) : Takes_ P w K mg base "_law_by" 2 2 ["one", "two"] m__law_by := by
  obtain ⟨fd, F, G⟩ := fk__law_by (P := P) (w := w) (base := base) T
  exact ⟨_, fd, G, T.g__law_by, F.kp, (F.bindsN fun _ _ _ _ _ _ us hl => match us, hl with | [_, _], _ => rfl)⟩
theorem sc__law_less : FnScope ["one", "two"] ["one", "two"] (defScope st__law_less) := ⟨rfl, rfl, rfl, by decide +kernel, rfl, by decide +kernel, by decide +kernel⟩
theorem fk__law_less (T : Tx K mg) : ∃ fd, FunD K "_law_less" "_law_less" (defArgs st__law_less) (defBody st__law_less) (defScope st__law_less) [] [] (He.ga K "_law_less") fd ∧ FnOk P w K mg base (L2.CX P w) 2 (He.ga K "_law_less") fd ["one", "two"] (spZ K mg 2 m__law_less) := by
  obtain ⟨fd, F⟩ := T.d__law_less
  have S := sc__law_less
  exact ⟨fd, F, fn_okD (N := ["one", "two"]) (k := 1) (n := 2) (mb := b__law_less) F S rfl (by decide) fun cdv A outer s H E hr hp tk =>
      (b_one (s_ret (i_callC (ok__law_part T) (hr.mono (by decide)) tk (a_cons (i_bin op_sub b_sub (i_bin o_mul b_mul (i_ix (i_var 0) i_int) (i_ix (i_var 1) i_int)) (i_bin o_mul b_mul (i_ix (i_var 1) i_int) (i_ix (i_var 0) i_int))) (a_cons (i_bin o_mul b_mul (i_ix (i_var 0) i_int) (i_ix (i_var 1) i_int)) a_nil)))))⟩
theorem ok__law_less (T : Tx K mg) : Takes_ P w K mg base "_law_less" 2 2 ["one", "two"] m__law_less := by
  obtain ⟨fd, F, G⟩ := fk__law_less (P := P) (w := w) (base := base) T
  exact ⟨_, fd, G, T.g__law_less, F.kp, (F.bindsN fun _ _ _ _ _ _ us hl => match us, hl with | [_, _], _ => rfl)⟩
theorem sc__law_cut_cell : FnScope ["cell", "one", "two", "share", "corners", "size", "point", "left", "right", "a", "b"] ["cell", "one", "two", "share"] (defScope st__law_cut_cell) := ⟨rfl, rfl, rfl, by decide +kernel, rfl, by decide +kernel, by decide +kernel⟩
theorem fk__law_cut_cell (T : Tx K mg) : ∃ fd, FunD K "_law_cut_cell" "_law_cut_cell" (defArgs st__law_cut_cell) (defBody st__law_cut_cell) (defScope st__law_cut_cell) [] [] (He.ga K "_law_cut_cell") fd ∧ FnOk P w K mg base (L2.CX P w) 3 (He.ga K "_law_cut_cell") fd ["cell", "one", "two", "share"] (spZ K mg 4 m__law_cut_cell) := by
  obtain ⟨fd, F⟩ := T.d__law_cut_cell
  have S := sc__law_cut_cell
  exact ⟨fd, F, fn_okD (N := ["cell", "one", "two", "share", "corners", "size", "point", "left", "right", "a", "b"]) (k := 2) (n := 4) (mb := b__law_cut_cell) F S rfl (by decide) fun cdv A outer s H E hr hp tk =>
      (b_cons (s_unp (i_var 0) (g_tup rfl (gs_cons (g_name 4 S.nd) (gs_cons (g_name 5 S.nd) gs_nil))))
      (b_cons (s_asg 6 S.nd (i_ty1 call_tuple_of u_tuple T.z_tuple (i_lc (own := [("a", 9), ("b", 10)]) rfl S.nd (d_zip T.z_zip (a_cons (i_ix (i_var 4) (i_var 1)) (a_cons (i_ix (i_var 4) (i_var 2)) a_nil))) (show BlkOk ["cell", "one", "two", "share", "corners", "size", "point", "left", "right", "a", "b"] (defScope st__law_cut_cell) _ [("a", 9), ("b", 10)] from ⟨rfl, by decide +kernel, by decide +kernel, by decide +kernel, by decide +kernel⟩) (fun _ _ _ _ _ => (g_tup rfl (gs_cons (g_name 9 S.nd) (gs_cons (g_name 10 S.nd) gs_nil)))) (fun _ _ _ _ _ => t_nil) (fun _ _ _ _ _ => (i_callC (ok__law_plus T) (hr.mono (by decide)) Z.takes0 (a_cons (i_var 9) (a_cons (i_callC (ok__law_by T) (hr.mono (by decide)) Z.takes0 (a_cons (i_var 3) (a_cons (i_callC (ok__law_less T) (hr.mono (by decide)) Z.takes0 (a_cons (i_var 10) (a_cons (i_var 9) a_nil))) a_nil))) a_nil)))) (by decide))))
      (b_cons (s_par 7 8 rfl S.nd (h_cons (i_bin o_add b_add (i_bin o_add b_add (i_sl (i_var 4) o_none (o_some (i_var 2))) (i_tup (a_cons (i_var 6) a_nil))) (i_sl (i_var 4) (o_some (i_bin o_add b_add (i_var 2) i_int)) o_none)) (h_cons (i_bin o_add b_add (i_bin o_add b_add (i_sl (i_var 4) o_none (o_some (i_var 1))) (i_tup (a_cons (i_var 6) a_nil))) (i_sl (i_var 4) (o_some (i_bin o_add b_add (i_var 1) i_int)) o_none)) h_nil)))
      (b_one (s_ret (i_tup (a_cons (i_tup (a_cons (i_var 7) (a_cons (i_callC (ok__law_by T) (hr.mono (by decide)) tk (a_cons (i_var 3) (a_cons (i_var 5) a_nil))) a_nil))) (a_cons (i_tup (a_cons (i_var 8) (a_cons (i_callC (ok__law_by T) (hr.mono (by decide)) tk (a_cons (i_callC (ok__law_less T) (hr.mono (by decide)) tk (a_cons (i_tup (a_cons i_int (a_cons i_int a_nil))) (a_cons (i_var 3) a_nil))) (a_cons (i_var 5) a_nil))) a_nil))) a_nil))))))))⟩
theorem ok__law_cut_cell (T : Tx K mg) : Takes_ P w K mg base "_law_cut_cell" 3 4 ["cell", "one", "two", "share"] m__law_cut_cell := by
  obtain ⟨fd, F, G⟩ := fk__law_cut_cell (P := P) (w := w) (base := base) T
  exact ⟨_, fd, G, T.g__law_cut_cell, F.kp, (F.bindsN fun _ _ _ _ _ _ us hl => match us, hl with | [_, _, _, _], _ => rfl)⟩
theorem sc_is_cell : FnScope ["value"] ["value"] (defScope st_is_cell) := ⟨rfl, rfl, rfl, by decide +kernel, rfl, by decide +kernel, by decide +kernel⟩
theorem fk_is_cell (T : Tx K mg) : ∃ fd, FunD K "is_cell" "is_cell" (defArgs st_is_cell) (defBody st_is_cell) (defScope st_is_cell) [] [] (He.ga K "is_cell") fd ∧ FnOk P w K mg base (L2.CX P w) 7 (He.ga K "is_cell") fd ["value"] (spZ K mg 1 m_is_cell) := by
  obtain ⟨fd, F⟩ := T.d_is_cell
  have S := sc_is_cell
  exact ⟨fd, F, fn_okD (N := ["value"]) (k := 6) (n := 1) (mb := b_is_cell) F S rfl (by decide) fun cdv A outer s H E hr hp tk =>
      (b_one (s_ret (i_callC (ok_is_cell_by T) (hr.mono (by decide)) tk (a_cons (i_var 0) a_nil))))⟩
theorem ok_is_cell (T : Tx K mg) : Takes_ P w K mg base "is_cell" 7 1 ["value"] m_is_cell := by
  obtain ⟨fd, F, G⟩ := fk_is_cell (P := P) (w := w) (base := base) T
  exact ⟨_, fd, G, T.g_is_cell, F.kp, (F.bindsN fun _ _ _ _ _ _ us hl => match us, hl with | [_], _ => rfl)⟩
theorem sc__law_over : FnScope ["one", "two"] ["one", "two"] (defScope st__law_over) := ⟨rfl, rfl, rfl, by decide +kernel, rfl, by decide +kernel, by decide +kernel⟩
theorem fk__law_over (T : Tx K mg) : ∃ fd, FunD K "_law_over" "_law_over" (defArgs st__law_over) (defBody st__law_over) (defScope st__law_over) [] [] (He.ga K "_law_over") fd ∧ FnOk P w K mg base (L2.CX P w) 2 (He.ga K "_law_over") fd ["one", "two"] (spZ K mg 2 m__law_over) := by
  obtain ⟨fd, F⟩ := T.d__law_over
  have S := sc__law_over
  exact ⟨fd, F, fn_okD (N := ["one", "two"]) (k := 1) (n := 2) (mb := b__law_over) F S rfl (by decide) fun cdv A outer s H E hr hp tk =>
      (b_one (s_ret (i_callC (ok__law_part T) (hr.mono (by decide)) tk (a_cons (i_bin o_mul b_mul (i_ix (i_var 0) i_int) (i_ix (i_var 1) i_int)) (a_cons (i_bin o_mul b_mul (i_ix (i_var 0) i_int) (i_ix (i_var 1) i_int)) a_nil)))))⟩
theorem ok__law_over (T : Tx K mg) : Takes_ P w K mg base "_law_over" 2 2 ["one", "two"] m__law_over := by
  obtain ⟨fd, F, G⟩ := fk__law_over (P := P) (w := w) (base := base) T
  exact ⟨_, fd, G, T.g__law_over, F.kp, (F.bindsN fun _ _ _ _ _ _ us hl => match us, hl with | [_, _], _ => rfl)⟩
theorem sc__law_determinant : FnScope ["rows", "found", "rest", "k", "spots", "at", "by", "row", "a", "b"] ["rows"] (defScope st__law_determinant) := ⟨rfl, rfl, rfl, by decide +kernel, rfl, by decide +kernel, by decide +kernel⟩
theorem fk__law_determinant (T : Tx K mg) : ∃ fd, FunD K "_law_determinant" "_law_determinant" (defArgs st__law_determinant) (defBody st__law_determinant) (defScope st__law_determinant) [] [] (He.ga K "_law_determinant") fd ∧ FnOk P w K mg base (L2.CX P w) 3 (He.ga K "_law_determinant") fd ["rows"] (spZ K mg 1 m__law_determinant) := by
  obtain ⟨fd, F⟩ := T.d__law_determinant
  have S := sc__law_determinant
  exact ⟨fd, F, fn_okD (N := ["rows", "found", "rest", "k", "spots", "at", "by", "row", "a", "b"]) (k := 2) (n := 1) (mb := b__law_determinant) F S rfl (by decide) fun cdv A outer s H E hr hp tk =>
      (b_cons (s_parT (is := [1, 2]) rfl S.nd (.cons 1 rfl (by first | exact .inl rfl | exact .inr rfl) (by first | exact .inl rfl | exact .inr rfl) rfl (.cons 2 rfl (by first | exact .inl rfl | exact .inr rfl) (by first | exact .inl rfl | exact .inr rfl) rfl .nil)) (h_cons (i_tup (a_cons i_int (a_cons i_int a_nil))) (h_cons (i_lc (own := [("row", 7)]) rfl S.nd (d_val (i_var 0)) (show BlkOk ["rows", "found", "rest", "k", "spots", "at", "by", "row", "a", "b"] (defScope st__law_determinant) _ [("row", 7)] from ⟨rfl, by decide +kernel, by decide +kernel, by decide +kernel, by decide +kernel⟩) (fun _ _ _ _ _ => (g_name 7 S.nd)) (fun _ _ _ _ _ => t_nil) (fun _ _ _ _ _ => (i_ty1 call_list_of u_list T.z_list (i_var 7))) (by decide)) h_nil)))
      (b_cons (s_for hp rfl (d_range T.z_range (a_cons (i_b1 call_len u_len T.z_len (i_var 0)) a_nil)) (g_name 3 S.nd) (b_cons (s_setLc (own := [("at", 5)]) rfl S.nd rfl rfl rfl (d_range2 T.z_range (a_cons (i_var 3) (a_cons (i_b1 call_len u_len T.z_len (i_var 2)) a_nil))) (show BlkOk ["rows", "found", "rest", "k", "spots", "at", "by", "row", "a", "b"] (defScope st__law_determinant) _ [("at", 5)] from ⟨rfl, by decide +kernel, by decide +kernel, by decide +kernel, by decide +kernel⟩) (fun _ _ _ _ _ => (g_name 5 S.nd)) (fun _ _ _ _ _ => (t_one (i_cmpT (op_neD (hu64 hr)) c_ne (i_ix (i_ix (i_ix (i_var 2) (i_var 5)) (i_var 3)) i_int) i_int (nomark _)))) (fun _ _ _ _ _ => (i_var 5)) (by decide))
      (b_cons (s_if (i_cmpT (op_eqD (hu64 hr)) c_eq (i_var 4) (i_lst a_nil) (nomark _)) (b_one (s_ret (i_tup (a_cons i_int (a_cons i_int a_nil))))) b_nil)
      (b_cons (s_if (i_cmpT (op_neD (hu64 hr)) c_ne (i_ix (i_var 4) i_int) (i_var 3) (nomark _)) (b_one (s_unp (i_tup (a_cons (i_ix (i_var 2) (i_ix (i_var 4) i_int)) (a_cons (i_ix (i_var 2) (i_var 3)) (a_cons (i_tup (a_cons (i_bin op_sub b_sub i_int (i_ix (i_var 1) i_int)) (a_cons (i_ix (i_var 1) i_int) a_nil))) a_nil)))) (g_tup rfl (gs_cons (g_sub (i_var 2) (i_var 3)) (gs_cons (g_sub (i_var 2) (i_ix (i_var 4) i_int)) (gs_cons (g_name 1 S.nd) gs_nil)))))) b_nil)
      (b_cons (s_asg 1 S.nd (i_callC (ok__law_by T) (hr.mono (by decide)) tk (a_cons (i_var 1) (a_cons (i_ix (i_ix (i_var 2) (i_var 3)) (i_var 3)) a_nil))))
      (b_one (s_for hp rfl (d_range2 T.z_range (a_cons (i_bin o_add b_add (i_var 3) i_int) (a_cons (i_b1 call_len u_len T.z_len (i_var 2)) a_nil))) (g_name 5 S.nd) (b_cons (s_asg 6 S.nd (i_callC (ok__law_over T) (hr.mono (by decide)) tk (a_cons (i_ix (i_ix (i_var 2) (i_var 5)) (i_var 3)) (a_cons (i_ix (i_ix (i_var 2) (i_var 3)) (i_var 3)) a_nil))))
      (b_one (s_unp (i_lc (own := [("a", 8), ("b", 9)]) rfl S.nd (d_zip T.z_zip (a_cons (i_ix (i_var 2) (i_var 5)) (a_cons (i_ix (i_var 2) (i_var 3)) a_nil))) (show BlkOk ["rows", "found", "rest", "k", "spots", "at", "by", "row", "a", "b"] (defScope st__law_determinant) _ [("a", 8), ("b", 9)] from ⟨rfl, by decide +kernel, by decide +kernel, by decide +kernel, by decide +kernel⟩) (fun _ _ _ _ _ => (g_tup rfl (gs_cons (g_name 8 S.nd) (gs_cons (g_name 9 S.nd) gs_nil)))) (fun _ _ _ _ _ => t_nil) (fun _ _ _ _ _ => (i_callC (ok__law_less T) (hr.mono (by decide)) Z.takes0 (a_cons (i_var 8) (a_cons (i_callC (ok__law_by T) (hr.mono (by decide)) Z.takes0 (a_cons (i_var 6) (a_cons (i_var 9) a_nil))) a_nil)))) (by decide)) (g_sub (i_var 2) (i_var 5))))))))))))
      (b_one (s_ret (i_var 1)))))⟩
theorem ok__law_determinant (T : Tx K mg) : Takes_ P w K mg base "_law_determinant" 3 1 ["rows"] m__law_determinant := by
  obtain ⟨fd, F, G⟩ := fk__law_determinant (P := P) (w := w) (base := base) T
  exact ⟨_, fd, G, T.g__law_determinant, F.kp, (F.bindsN fun _ _ _ _ _ _ us hl => match us, hl with | [_], _ => rfl)⟩
theorem sc__law_volume : FnScope ["corners", "rows", "found", "under", "k", "corner", "a", "b"] ["corners"] (defScope st__law_volume) := ⟨rfl, rfl, rfl, by decide +kernel, rfl, by decide +kernel, by decide +kernel⟩
theorem fk__law_volume (T : Tx K mg) : ∃ fd, FunD K "_law_volume" "_law_volume" (defArgs st__law_volume) (defBody st__law_volume) (defScope st__law_volume) [] [] (He.ga K "_law_volume") fd ∧ FnOk P w K mg base (L2.CX P w) 4 (He.ga K "_law_volume") fd ["corners"] (spZ K mg 1 m__law_volume) := by
  obtain ⟨fd, F⟩ := T.d__law_volume
  have S := sc__law_volume
  exact ⟨fd, F, fn_okD (N := ["corners", "rows", "found", "under", "k", "corner", "a", "b"]) (k := 3) (n := 1) (mb := b__law_volume) F S rfl (by decide) fun cdv A outer s H E hr hp tk =>
      (b_cons (s_setLc (own := [("corner", 5)]) rfl S.nd rfl rfl rfl (d_val (i_sl (i_var 0) (o_some i_int) o_none)) (show BlkOk ["corners", "rows", "found", "under", "k", "corner", "a", "b"] (defScope st__law_volume) _ [("corner", 5)] from ⟨rfl, by decide +kernel, by decide +kernel, by decide +kernel, by decide +kernel⟩) (fun _ _ _ _ _ => (g_name 5 S.nd)) (fun _ _ _ _ _ => t_nil) (fun _ _ _ _ _ => (i_lc (own := [("a", 6), ("b", 7)]) rfl S.nd (d_zip T.z_zip (a_cons (i_var 5) (a_cons (i_ix (i_var 0) i_int) a_nil))) (show BlkOk ["corners", "rows", "found", "under", "k", "corner", "a", "b"] (relS _ (defScope st__law_volume)) _ [("a", 6), ("b", 7)] from ⟨rfl, by decide +kernel, by decide +kernel, by decide +kernel, by decide +kernel⟩) (fun _ _ _ _ _ => (g_tup rfl (gs_cons (g_name 6 S.nd) (gs_cons (g_name 7 S.nd) gs_nil)))) (fun _ _ _ _ _ => t_nil) (fun _ _ _ _ _ => (i_callC (ok__law_less T) (hr.mono (by decide)) Z.takes0 (a_cons (i_var 6) (a_cons (i_var 7) a_nil)))) (by decide))) (by decide))
      (b_cons (s_par 2 3 rfl S.nd (h_cons (i_callC (ok__law_determinant T) (hr.mono (by decide)) tk (a_cons (i_var 1) a_nil)) (h_cons i_int h_nil)))
      (b_cons (s_for hp rfl (d_range T.z_range (a_cons (i_b1 call_len u_len T.z_len (i_var 1)) a_nil)) (g_name 4 S.nd) (b_one (s_asg 3 S.nd (i_bin o_mul b_mul (i_var 3) (i_bin o_add b_add (i_var 4) i_int)))))
      (b_one (s_ret (i_callC (ok__law_by T) (hr.mono (by decide)) tk (a_cons (i_tup (a_cons (i_b1 call_abs u_abs T.z_abs (i_ix (i_var 2) i_int)) (a_cons (i_ix (i_var 2) i_int) a_nil))) (a_cons (i_tup (a_cons i_int (a_cons (i_var 3) a_nil))) a_nil))))))))⟩
theorem ok__law_volume (T : Tx K mg) : Takes_ P w K mg base "_law_volume" 4 1 ["corners"] m__law_volume := by
  obtain ⟨fd, F, G⟩ := fk__law_volume (P := P) (w := w) (base := base) T
  exact ⟨_, fd, G, T.g__law_volume, F.kp, (F.bindsN fun _ _ _ _ _ _ us hl => match us, hl with | [_], _ => rfl)⟩
theorem sc__law_right : FnScope ["well", "many", "firsts", "cell", "lap", "one", "two", "share", "pieces", "piece", "told", "flat", "segment"] ["well"] (defScope st__law_right) := ⟨rfl, rfl, rfl, by decide +kernel, rfl, by decide +kernel, by decide +kernel⟩
theorem fk__law_right (T : Tx K mg) : ∃ fd, FunD K "_law_right" "_law_right" (defArgs st__law_right) (defBody st__law_right) (defScope st__law_right) [] [] (He.ga K "_law_right") fd ∧ FnOk P w K mg base (L2.CX P w) 9 (He.ga K "_law_right") fd ["well"] (spZ K mg 1 m__law_right) := by
  obtain ⟨fd, F⟩ := T.d__law_right
  have S := sc__law_right
  exact ⟨fd, F, fn_okD (N := ["well", "many", "firsts", "cell", "lap", "one", "two", "share", "pieces", "piece", "told", "flat", "segment"]) (k := 8) (n := 1) (mb := b__law_right) F S rfl (by decide) fun cdv A outer s H E hr hp tk =>
      (b_cons (s_for hp rfl (d_val (i_tup (a_cons i_int (a_cons i_int (a_cons i_int (a_cons i_int (a_cons i_int a_nil))))))) (g_name 1 S.nd) (b_cons (s_asg 2 S.nd (i_if (i_cmpT (op_eqD (hu64 hr)) c_eq (i_callC (ok__law_take T) (hr.mono (by decide)) tk (a_cons (i_var 0) (a_cons i_int a_nil))) i_int (nomark _)) (i_callC (ok_first_cells T) (hr.mono (by decide)) tk (a_cons (i_var 1) a_nil)) (i_callK0 (okk_first_cells_0_many T) (hr.mono (by decide)) tk (k_cons (i_var 1) k_nil))))
      (b_cons (s_if (i_bool_ (w_or (i_notT (i_truth (i_callC (ok__law_same T 6) (hr.mono (by decide)) tk (a_cons (i_var 2) (a_cons (i_callC (ok__law_firsts T) (hr.mono (by decide)) tk (a_cons (i_var 1) a_nil)) a_nil))))) (w_or1 (i_cmpT (op_neD (hu64 hr)) c_ne (i_callC (ok__law_total T) (hr.mono (by decide)) tk (a_cons (i_lc (own := [("cell", 3)]) rfl S.nd (d_val (i_var 2)) (show BlkOk ["well", "many", "firsts", "cell", "lap", "one", "two", "share", "pieces", "piece", "told", "flat", "segment"] (defScope st__law_right) _ [("cell", 3)] from ⟨rfl, by decide +kernel, by decide +kernel, by decide +kernel, by decide +kernel⟩) (fun _ _ _ _ _ => (g_name 3 S.nd)) (fun _ _ _ _ _ => t_nil) (fun _ _ _ _ _ => (i_callC (ok_volume T) (hr.mono (by decide)) Z.takes0 (a_cons (i_var 3) a_nil))) (by decide)) a_nil)) (i_tup (a_cons i_int (a_cons i_int a_nil))) (nomark _))))) (b_one (s_ret i_bool)) b_nil)
      (b_cons (s_asg 3 S.nd (i_callC (ok__law_of T) (hr.mono (by decide)) tk (a_cons (i_var 0) (a_cons (i_var 2) a_nil))))
      (b_cons (s_for hp rfl (d_range T.z_range (a_cons (i_if (i_cmpT op_gt c_gt (i_var 1) i_int (nomark _)) i_int i_int) a_nil)) (g_name 4 S.nd) (b_cons (s_asg 5 S.nd (i_callC (ok__law_take T) (hr.mono (by decide)) tk (a_cons (i_var 0) (a_cons (i_var 1) a_nil))))
      (b_cons (s_par 6 7 rfl S.nd (h_cons (i_bin o_add b_add (i_bin o_add b_add (i_var 5) i_int) (i_callC (ok__law_take T) (hr.mono (by decide)) tk (a_cons (i_var 0) (a_cons (i_bin op_sub b_sub (i_var 1) (i_var 5)) a_nil)))) (h_cons (i_callC (ok__law_part T) (hr.mono (by decide)) tk (a_cons (i_bin o_add b_add i_int (i_callC (ok__law_take T) (hr.mono (by decide)) tk (a_cons (i_var 0) (a_cons i_int a_nil)))) (a_cons i_int a_nil))) h_nil)))
      (b_cons (s_asg 8 S.nd (i_if (i_cmpT (op_eqD (hu64 hr)) c_eq (i_callC (ok__law_take T) (hr.mono (by decide)) tk (a_cons (i_var 0) (a_cons i_int a_nil))) i_int (nomark _)) (i_callC (ok_cut T) (hr.mono (by decide)) tk (a_cons (i_var 3) (a_cons (i_var 5) (a_cons (i_var 6) (a_cons (i_var 7) a_nil))))) (i_callK0 (okk_cut_0_share_two_one_cell T) (hr.mono (by decide)) tk (k_cons (i_var 7) (k_cons (i_var 6) (k_cons (i_var 5) (k_cons (i_var 3) k_nil)))))))
      (b_cons (s_if (i_notT (i_truth (i_callC (ok__law_same T 6) (hr.mono (by decide)) tk (a_cons (i_var 8) (a_cons (i_callC (ok__law_cut_cell T) (hr.mono (by decide)) tk (a_cons (i_var 3) (a_cons (i_var 5) (a_cons (i_var 6) (a_cons (i_var 7) a_nil))))) a_nil))))) (b_one (s_ret i_bool)) b_nil)
      (b_cons (s_for hp rfl (d_val (i_var 8)) (g_name 9 S.nd) (b_cons (s_asg 10 S.nd (i_if (i_cmpT (op_eqD (hu64 hr)) c_eq (i_callC (ok__law_take T) (hr.mono (by decide)) tk (a_cons (i_var 0) (a_cons i_int a_nil))) i_int (nomark _)) (i_callC (ok_volume T) (hr.mono (by decide)) tk (a_cons (i_var 9) a_nil)) (i_callK0 (okk_volume_0_cell T) (hr.mono (by decide)) tk (k_cons (i_var 9) k_nil))))
      (b_one (s_if (i_bool_ (w_or (i_cmpT o_isnot c_isnot (i_callC (ok_is_cell T) (hr.mono (by decide)) tk (a_cons (i_var 9) a_nil)) i_bool (nomark _)) (w_or1 (i_notT (i_truth (i_callC (ok__law_same T 6) (hr.mono (by decide)) tk (a_cons (i_lst (a_cons (i_var 10) (a_cons (i_ix (i_var 9) i_int) a_nil))) (a_cons (i_bin o_mul b_mul (i_lst (a_cons (i_callC (ok__law_volume T) (hr.mono (by decide)) tk (a_cons (i_ix (i_var 9) i_int) a_nil)) a_nil)) i_int) a_nil)))))))) (b_one (s_ret i_bool)) b_nil))))
      (b_one (s_asg 3 S.nd (i_callC (ok__law_of T) (hr.mono (by decide)) tk (a_cons (i_var 0) (a_cons (i_var 8) a_nil)))))))))))
      (b_cons (s_asg 11 S.nd (i_tup (a_cons (i_bin o_mul b_mul (i_sl (i_ix (i_var 3) i_int) o_none (o_some i_int)) (i_b1 call_len u_len T.z_len (i_ix (i_var 3) i_int))) (a_cons (i_ix (i_var 3) i_int) a_nil))))
      (b_one (s_if (i_notT (i_truth (i_callC (ok__law_same T 6) (hr.mono (by decide)) tk (a_cons (i_callC (ok_volume T) (hr.mono (by decide)) tk (a_cons (i_var 11) a_nil)) (a_cons (i_if (i_cmpT op_gt c_gt (i_var 1) i_int (nomark _)) (i_tup (a_cons i_int (a_cons i_int a_nil))) (i_tup (a_cons i_int (a_cons i_int a_nil)))) a_nil))))) (b_one (s_ret i_bool)) b_nil))))))))
      (b_cons (s_asg 12 S.nd (i_tup (a_cons (i_tup (a_cons (i_tup (a_cons (i_tup (a_cons i_int (a_cons i_int a_nil))) a_nil)) (a_cons (i_tup (a_cons (i_tup (a_cons i_int (a_cons i_int a_nil))) a_nil)) a_nil))) (a_cons (i_tup (a_cons i_int (a_cons i_int a_nil))) a_nil))))
      (b_one (s_ret (i_callC (ok__law_same T 6) (hr.mono (by decide)) tk (a_cons (i_callC (ok_cut T) (hr.mono (by decide)) tk (a_cons (i_var 12) (a_cons i_int (a_cons i_int (a_cons (i_tup (a_cons i_int (a_cons i_int a_nil))) a_nil))))) (a_cons (i_tup (a_cons (i_tup (a_cons (i_tup (a_cons (i_tup (a_cons (i_tup (a_cons i_int (a_cons i_int a_nil))) a_nil)) (a_cons (i_tup (a_cons (i_tup (a_cons i_int (a_cons i_int a_nil))) a_nil)) a_nil))) (a_cons (i_tup (a_cons i_int (a_cons i_int a_nil))) a_nil))) (a_cons (i_tup (a_cons (i_tup (a_cons (i_tup (a_cons (i_tup (a_cons i_int (a_cons i_int a_nil))) a_nil)) (a_cons (i_tup (a_cons (i_tup (a_cons i_int (a_cons i_int a_nil))) a_nil)) a_nil))) (a_cons (i_tup (a_cons i_int (a_cons i_int a_nil))) a_nil))) a_nil))) a_nil)))))))⟩
theorem ok__law_right (T : Tx K mg) : Takes_ P w K mg base "_law_right" 9 1 ["well"] m__law_right := by
  obtain ⟨fd, F, G⟩ := fk__law_right (P := P) (w := w) (base := base) T
  exact ⟨_, fd, G, T.g__law_right, F.kp, (F.bindsN fun _ _ _ _ _ _ us hl => match us, hl with | [_], _ => rfl)⟩
theorem sc__law_well : FnScope ["script", "lap", "own", "stir", "each"] ["script", "lap"] (defScope st__law_well) := ⟨rfl, rfl, rfl, by decide +kernel, rfl, by decide +kernel, by decide +kernel⟩
theorem fk__law_well (T : Tx K mg) : ∃ fd, FunD K "_law_well" "_law_well" (defArgs st__law_well) (defBody st__law_well) (defScope st__law_well) [] [] (He.ga K "_law_well") fd ∧ FnOk P w K mg base (L2.CX P w) 1 (He.ga K "_law_well") fd ["script", "lap"] (spZ K mg 2 m__law_well) := by
  obtain ⟨fd, F⟩ := T.d__law_well
  have S := sc__law_well
  exact ⟨fd, F, fn_okD (N := ["script", "lap", "own", "stir", "each"]) (k := 0) (n := 2) (mb := b__law_well) F S rfl (by decide) fun cdv A outer s H E hr hp tk =>
      (b_cons (s_asg 2 S.nd (i_if (i_cmpT op_lt c_lt (i_var 1) (i_b1 call_len u_len T.z_len (i_var 0)) (nomark _)) (i_ty1 call_int1 u_int T.z_int (i_ix (i_var 0) (i_var 1))) i_int))
      (b_cons (s_asg 3 S.nd (i_bin o_add b_add i_int (i_bin o_mul b_mul i_int (i_var 1))))
      (b_cons (s_for hp rfl (d_val (i_bin o_add b_add (i_sl (i_var 0) o_none (o_some i_int)) (i_new (a_cons (i_var 2) a_nil)))) (g_name 4 S.nd) (b_one (s_asg 3 S.nd (i_bin op_modN b_mod (i_ty1 call_int1 u_int T.z_int (i_bin o_add b_add (i_bin o_add b_add (i_bin o_mul b_mul (i_var 3) i_int) (i_bin op_modN b_mod (i_ty1 call_int1 u_int T.z_int (i_var 4)) i_int)) i_int)) i_int))))
      (b_one (s_ret (i_new (a_cons (i_if (i_bool_ (w_or (i_cmpT op_lt c_lt (i_var 2) i_int (nomark _)) (w_or1 (i_cmpT op_ge c_ge (i_var 2) (i_bin op_pow b_pow i_int i_int) (nomark _))))) (i_b1 call_abs u_abs T.z_abs (i_var 2)) i_int) (a_cons (i_var 3) (a_cons i_int a_nil)))))))))⟩
theorem ok__law_well (T : Tx K mg) : Takes_ P w K mg base "_law_well" 1 2 ["script", "lap"] m__law_well := by
  obtain ⟨fd, F, G⟩ := fk__law_well (P := P) (w := w) (base := base) T
  exact ⟨_, fd, G, T.g__law_well, F.kp, (F.bindsN fun _ _ _ _ _ _ us hl => match us, hl with | [_, _], _ => rfl)⟩
theorem sc_law : FnScope ["script", "lap"] ["script"] (defScope st_law) := ⟨rfl, rfl, rfl, by decide +kernel, rfl, by decide +kernel, by decide +kernel⟩
theorem fn_law (T : Tx K mg) {fd : FuncData} (F : FunD K "law" "law" (defArgs st_law) (defBody st_law) (defScope st_law) [] [] (He.ga K "law") fd) : FnOk P w K mg base (L2.CX P w) 10 (He.ga K "law") fd ["script"] (spZ K mg 1 m_law) := by
  have S := sc_law
  exact fn_okD (N := ["script", "lap"]) (k := 9) (n := 1) (mb := b_law) F S rfl (by decide) fun cdv A outer s H E hr hp tk =>
      (b_one (s_ret (i_b1 (cr_all rfl) u_all T.z_all (i_lc (own := [("lap", 1)]) rfl S.nd (d_range T.z_range (a_cons (i_b2 (call_max2 rfl) u_max2 T.z_max i_int (i_b2 (call_min2 rfl) u_min2 T.z_min (i_b1 call_len u_len T.z_len (i_var 0)) i_int)) a_nil)) (show BlkOk ["script", "lap"] (defScope st_law) _ [("lap", 1)] from ⟨rfl, by decide +kernel, by decide +kernel, by decide +kernel, by decide +kernel⟩) (fun _ _ _ _ _ => (g_name 1 S.nd)) (fun _ _ _ _ _ => t_nil) (fun _ _ _ _ _ => (i_callC (ok__law_right T) (hr.mono (by decide)) Z.takes0 (a_cons (i_callC (ok__law_well T) (hr.mono (by decide)) Z.takes0 (a_cons (i_var 0) (a_cons (i_var 1) a_nil))) a_nil))) (by decide)))))
end
/-! ### the head -/
def dd__law_same : He.DefD := ⟨("_law_same", none), "_law_same", "_law_same", defArgs st__law_same, defBody st__law_same, defScope st__law_same, [], []⟩
def dd__law_take : He.DefD := ⟨("_law_take", none), "_law_take", "_law_take", defArgs st__law_take, defBody st__law_take, defScope st__law_take, [], []⟩
def dd__law_of : He.DefD := ⟨("_law_of", none), "_law_of", "_law_of", defArgs st__law_of, defBody st__law_of, defScope st__law_of, [], []⟩
def dd_is_tuple_of : He.DefD := ⟨("is_tuple_of", none), "is_tuple_of", "is_tuple_of", defArgs st_is_tuple_of, defBody st_is_tuple_of, defScope st_is_tuple_of, [], []⟩
def dd_is_whole : He.DefD := ⟨("is_whole", none), "is_whole", "is_whole", defArgs st_is_whole, defBody st_is_whole, defScope st_is_whole, [], []⟩
def dd_is_fraction : He.DefD := ⟨("is_fraction", none), "is_fraction", "is_fraction", defArgs st_is_fraction, defBody st_is_fraction, defScope st_is_fraction, [], []⟩
def dd_is_above : He.DefD := ⟨("is_above", none), "is_above", "is_above", defArgs st_is_above, defBody st_is_above, defScope st_is_above, [], []⟩
def dd_is_part : He.DefD := ⟨("is_part", none), "is_part", "is_part", defArgs st_is_part, defBody st_is_part, defScope st_is_part, [], []⟩
def dd_is_point : He.DefD := ⟨("is_point", none), "is_point", "is_point", defArgs st_is_point, defBody st_is_point, defScope st_is_point, [], []⟩
def dd_are_corners : He.DefD := ⟨("are_corners", none), "are_corners", "are_corners", defArgs st_are_corners, defBody st_are_corners, defScope st_are_corners, [], []⟩
def dd_is_cell_by : He.DefD := ⟨("is_cell_by", none), "is_cell_by", "is_cell_by", defArgs st_is_cell_by, defBody st_is_cell_by, defScope st_is_cell_by, [], []⟩
def dd_check_cell : He.DefD := ⟨("check_cell", none), "check_cell", "check_cell", defArgs st_check_cell, defBody st_check_cell, defScope st_check_cell, [], []⟩
def dd_is_between : He.DefD := ⟨("is_between", none), "is_between", "is_between", defArgs st_is_between, defBody st_is_between, defScope st_is_between, [], []⟩
def dd_check_number : He.DefD := ⟨("check_number", none), "check_number", "check_number", defArgs st_check_number, defBody st_check_number, defScope st_check_number, [], []⟩
def dd_check_share : He.DefD := ⟨("check_share", none), "check_share", "check_share", defArgs st_check_share, defBody st_check_share, defScope st_check_share, [], []⟩
def dd_fraction : He.DefD := ⟨("fraction", none), "fraction", "fraction", defArgs st_fraction, defBody st_fraction, defScope st_fraction, [], []⟩
def dd_fraction_times : He.DefD := ⟨("fraction_times", none), "fraction_times", "fraction_times", defArgs st_fraction_times, defBody st_fraction_times, defScope st_fraction_times, [], []⟩
def dd_fraction_less : He.DefD := ⟨("fraction_less", none), "fraction_less", "fraction_less", defArgs st_fraction_less, defBody st_fraction_less, defScope st_fraction_less, [], []⟩
def dd_fraction_sum : He.DefD := ⟨("fraction_sum", none), "fraction_sum", "fraction_sum", defArgs st_fraction_sum, defBody st_fraction_sum, defScope st_fraction_sum, [], []⟩
def dd_between : He.DefD := ⟨("between", none), "between", "between", defArgs st_between, defBody st_between, defScope st_between, [], []⟩
def dd_with_corner : He.DefD := ⟨("with_corner", none), "with_corner", "with_corner", defArgs st_with_corner, defBody st_with_corner, defScope st_with_corner, [], []⟩
def dd_cut_by : He.DefD := ⟨("cut_by", none), "cut_by", "cut_by", defArgs st_cut_by, defBody st_cut_by, defScope st_cut_by, [], []⟩
def dd_draws_of : He.DefD := ⟨("draws_of", none), "draws_of", "draws_of", defArgs st_draws_of, defBody st_draws_of, defScope st_draws_of, [], []⟩
def dd_cut : He.DefD := ⟨("cut", none), "cut", "cut", defArgs st_cut, defBody st_cut, defScope st_cut, [], []⟩
def dd_orders_of : He.DefD := ⟨("orders_of", none), "orders_of", "orders_of", defArgs st_orders_of, defBody st_orders_of, defScope st_orders_of, [], []⟩
def dd_corners_of_order : He.DefD := ⟨("corners_of_order", none), "corners_of_order", "corners_of_order", defArgs st_corners_of_order, defBody st_corners_of_order, defScope st_corners_of_order, [], []⟩
def dd_first_cells_by : He.DefD := ⟨("first_cells_by", none), "first_cells_by", "first_cells_by", defArgs st_first_cells_by, defBody st_first_cells_by, defScope st_first_cells_by, [], []⟩
def dd_first_cells : He.DefD := ⟨("first_cells", none), "first_cells", "first_cells", defArgs st_first_cells, defBody st_first_cells, defScope st_first_cells, [], []⟩
def dd__law_part : He.DefD := ⟨("_law_part", none), "_law_part", "_law_part", defArgs st__law_part, defBody st__law_part, defScope st__law_part, [], []⟩
def dd__law_plus : He.DefD := ⟨("_law_plus", none), "_law_plus", "_law_plus", defArgs st__law_plus, defBody st__law_plus, defScope st__law_plus, [], []⟩
def dd__law_total : He.DefD := ⟨("_law_total", none), "_law_total", "_law_total", defArgs st__law_total, defBody st__law_total, defScope st__law_total, [], []⟩
def dd_sign_of : He.DefD := ⟨("sign_of", none), "sign_of", "sign_of", defArgs st_sign_of, defBody st_sign_of, defScope st_sign_of, [], []⟩
def dd_fraction_over : He.DefD := ⟨("fraction_over", none), "fraction_over", "fraction_over", defArgs st_fraction_over, defBody st_fraction_over, defScope st_fraction_over, [], []⟩
def dd_pivot_of : He.DefD := ⟨("pivot_of", none), "pivot_of", "pivot_of", defArgs st_pivot_of, defBody st_pivot_of, defScope st_pivot_of, [], []⟩
def dd_without_first : He.DefD := ⟨("without_first", none), "without_first", "without_first", defArgs st_without_first, defBody st_without_first, defScope st_without_first, [], []⟩
def dd_determinant_size : He.DefD := ⟨("determinant_size", none), "determinant_size", "determinant_size", defArgs st_determinant_size, defBody st_determinant_size, defScope st_determinant_size, [], []⟩
def dd_volume_by : He.DefD := ⟨("volume_by", none), "volume_by", "volume_by", defArgs st_volume_by, defBody st_volume_by, defScope st_volume_by, [], []⟩
def dd_volume : He.DefD := ⟨("volume", none), "volume", "volume", defArgs st_volume, defBody st_volume, defScope st_volume, [], []⟩
def dd__law_orders : He.DefD := ⟨("_law_orders", none), "_law_orders", "_law_orders", defArgs st__law_orders, defBody st__law_orders, defScope st__law_orders, [], []⟩
def dd__law_firsts : He.DefD := ⟨("_law_firsts", none), "_law_firsts", "_law_firsts", defArgs st__law_firsts, defBody st__law_firsts, defScope st__law_firsts, [], []⟩
def dd__law_by : He.DefD := ⟨("_law_by", none), "_law_by", "_law_by", defArgs st__law_by, defBody st__law_by, defScope st__law_by, [], []⟩
def dd__law_less : He.DefD := ⟨("_law_less", none), "_law_less", "_law_less", defArgs st__law_less, defBody st__law_less, defScope st__law_less, [], []⟩
def dd__law_cut_cell : He.DefD := ⟨("_law_cut_cell", none), "_law_cut_cell", "_law_cut_cell", defArgs st__law_cut_cell, defBody st__law_cut_cell, defScope st__law_cut_cell, [], []⟩
def dd_is_cell : He.DefD := ⟨("is_cell", none), "is_cell", "is_cell", defArgs st_is_cell, defBody st_is_cell, defScope st_is_cell, [], []⟩
def dd__law_over : He.DefD := ⟨("_law_over", none), "_law_over", "_law_over", defArgs st__law_over, defBody st__law_over, defScope st__law_over, [], []⟩
def dd__law_determinant : He.DefD := ⟨("_law_determinant", none), "_law_determinant", "_law_determinant", defArgs st__law_determinant, defBody st__law_determinant, defScope st__law_determinant, [], []⟩
def dd__law_volume : He.DefD := ⟨("_law_volume", none), "_law_volume", "_law_volume", defArgs st__law_volume, defBody st__law_volume, defScope st__law_volume, [], []⟩
def dd__law_right : He.DefD := ⟨("_law_right", none), "_law_right", "_law_right", defArgs st__law_right, defBody st__law_right, defScope st__law_right, [], []⟩
def dd__law_well : He.DefD := ⟨("_law_well", none), "_law_well", "_law_well", defArgs st__law_well, defBody st__law_well, defScope st__law_well, [], []⟩
def dd_law : He.DefD := ⟨("law", none), "law", "law", defArgs st_law, defBody st_law, defScope st_law, [], []⟩
def fn : List He.DefD := [dd__law_same, dd__law_take, dd__law_of, dd_is_tuple_of, dd_is_whole, dd_is_fraction, dd_is_above, dd_is_part, dd_is_point, dd_are_corners, dd_is_cell_by, dd_check_cell, dd_is_between, dd_check_number, dd_check_share, dd_fraction, dd_fraction_times, dd_fraction_less, dd_fraction_sum, dd_between, dd_with_corner, dd_cut_by, dd_draws_of, dd_cut, dd_orders_of, dd_corners_of_order, dd_first_cells_by, dd_first_cells, dd__law_part, dd__law_plus, dd__law_total, dd_sign_of, dd_fraction_over, dd_pivot_of, dd_without_first, dd_determinant_size, dd_volume_by, dd_volume, dd__law_orders, dd__law_firsts, dd__law_by, dd__law_less, dd__law_cut_cell, dd_is_cell, dd__law_over, dd__law_determinant, dd__law_volume, dd__law_right, dd__law_well, dd_law]
def fa : List He.Fa := [.glo "_law_same", .glo "_law_take", .glo "_law_of", .glo "is_tuple_of", .glo "is_whole", .glo "is_fraction", .glo "is_above", .glo "is_part", .glo "is_point", .glo "are_corners", .glo "is_cell_by", .glo "check_cell", .glo "is_between", .glo "check_number", .glo "check_share", .glo "fraction", .glo "fraction_times", .glo "fraction_less", .glo "fraction_sum", .glo "between", .glo "with_corner", .glo "cut_by", .glo "draws_of", .glo "cut", .glo "orders_of", .glo "corners_of_order", .glo "first_cells_by", .glo "first_cells", .glo "_law_part", .glo "_law_plus", .glo "_law_total", .glo "sign_of", .glo "fraction_over", .glo "pivot_of", .glo "without_first", .glo "determinant_size", .glo "volume_by", .glo "volume", .glo "_law_orders", .glo "_law_firsts", .glo "_law_by", .glo "_law_less", .glo "_law_cut_cell", .glo "is_cell", .glo "_law_over", .glo "_law_determinant", .glo "_law_volume", .glo "_law_right", .glo "_law_well", .glo "law", .free "isinstance", .free "tuple", .free "list", .free "len", .free "range", .free "all", .free "bool", .free "int", .free "str", .free "dict", .free "divmod", .free "zip", .free "abs", .free "enumerate", .free "sum", .free "min", .free "max"]
def fb : List Fb := [.con "ONE" con_ONE, .con "MOST_DRAWS" con_MOST_DRAWS, .con "ZERO" con_ZERO, .blt "gcd" "math.gcd"]
theorem tx_of {K : PySem.W.Frag} {h : Heap} {mg : Str → Option Value} (X : K.In h) (G : h.Ns mainGlobals mg) (c : SaysZ fa fb fn K) : Tx K mg where
  z_isinstance := He.free_ok X G (c.fact 50 (f := .free "isinstance") rfl)
  z_tuple := He.free_ok X G (c.fact 51 (f := .free "tuple") rfl)
  z_list := He.free_ok X G (c.fact 52 (f := .free "list") rfl)
  z_len := He.free_ok X G (c.fact 53 (f := .free "len") rfl)
  z_range := He.free_ok X G (c.fact 54 (f := .free "range") rfl)
  z_all := He.free_ok X G (c.fact 55 (f := .free "all") rfl)
  z_bool := He.free_ok X G (c.fact 56 (f := .free "bool") rfl)
  z_int := He.free_ok X G (c.fact 57 (f := .free "int") rfl)
  z_str := He.free_ok X G (c.fact 58 (f := .free "str") rfl)
  z_dict := He.free_ok X G (c.fact 59 (f := .free "dict") rfl)
  z_divmod := He.free_ok X G (c.fact 60 (f := .free "divmod") rfl)
  z_zip := He.free_ok X G (c.fact 61 (f := .free "zip") rfl)
  z_abs := He.free_ok X G (c.fact 62 (f := .free "abs") rfl)
  z_enumerate := He.free_ok X G (c.fact 63 (f := .free "enumerate") rfl)
  z_sum := He.free_ok X G (c.fact 64 (f := .free "sum") rfl)
  z_min := He.free_ok X G (c.fact 65 (f := .free "min") rfl)
  z_max := He.free_ok X G (c.fact 66 (f := .free "max") rfl)
  k_ONE := con_ok X G (c.more 0 (f := .con "ONE" con_ONE) rfl)
  k_MOST_DRAWS := con_ok X G (c.more 1 (f := .con "MOST_DRAWS" con_MOST_DRAWS) rfl)
  k_ZERO := con_ok X G (c.more 2 (f := .con "ZERO" con_ZERO) rfl)
  b_gcd := blt_ok X G (c.more 3 (f := .blt "gcd" "math.gcd") rfl)
  g__law_same := He.glo_ok X G (c.fact 0 (f := .glo "_law_same") rfl)
  d__law_same := c.1.def_ 0 (d := dd__law_same) rfl
  g__law_take := He.glo_ok X G (c.fact 1 (f := .glo "_law_take") rfl)
  d__law_take := c.1.def_ 1 (d := dd__law_take) rfl
  g__law_of := He.glo_ok X G (c.fact 2 (f := .glo "_law_of") rfl)
  d__law_of := c.1.def_ 2 (d := dd__law_of) rfl
  g_is_tuple_of := He.glo_ok X G (c.fact 3 (f := .glo "is_tuple_of") rfl)
  d_is_tuple_of := c.1.def_ 3 (d := dd_is_tuple_of) rfl
  g_is_whole := He.glo_ok X G (c.fact 4 (f := .glo "is_whole") rfl)
  d_is_whole := c.1.def_ 4 (d := dd_is_whole) rfl
  g_is_fraction := He.glo_ok X G (c.fact 5 (f := .glo "is_fraction") rfl)
  d_is_fraction := c.1.def_ 5 (d := dd_is_fraction) rfl
  g_is_above := He.glo_ok X G (c.fact 6 (f := .glo "is_above") rfl)
  d_is_above := c.1.def_ 6 (d := dd_is_above) rfl
  g_is_part := He.glo_ok X G (c.fact 7 (f := .glo "is_part") rfl)
  d_is_part := c.1.def_ 7 (d := dd_is_part) rfl
  g_is_point := He.glo_ok X G (c.fact 8 (f := .glo "is_point") rfl)
  d_is_point := c.1.def_ 8 (d := dd_is_point) rfl
  g_are_corners := He.glo_ok X G (c.fact 9 (f := .glo "are_corners") rfl)
  d_are_corners := c.1.def_ 9 (d := dd_are_corners) rfl
  g_is_cell_by := He.glo_ok X G (c.fact 10 (f := .glo "is_cell_by") rfl)
  d_is_cell_by := c.1.def_ 10 (d := dd_is_cell_by) rfl
  g_check_cell := He.glo_ok X G (c.fact 11 (f := .glo "check_cell") rfl)
  d_check_cell := c.1.def_ 11 (d := dd_check_cell) rfl
  g_is_between := He.glo_ok X G (c.fact 12 (f := .glo "is_between") rfl)
  d_is_between := c.1.def_ 12 (d := dd_is_between) rfl
  g_check_number := He.glo_ok X G (c.fact 13 (f := .glo "check_number") rfl)
  d_check_number := c.1.def_ 13 (d := dd_check_number) rfl
  g_check_share := He.glo_ok X G (c.fact 14 (f := .glo "check_share") rfl)
  d_check_share := c.1.def_ 14 (d := dd_check_share) rfl
  g_fraction := He.glo_ok X G (c.fact 15 (f := .glo "fraction") rfl)
  d_fraction := c.1.def_ 15 (d := dd_fraction) rfl
  g_fraction_times := He.glo_ok X G (c.fact 16 (f := .glo "fraction_times") rfl)
  d_fraction_times := c.1.def_ 16 (d := dd_fraction_times) rfl
  g_fraction_less := He.glo_ok X G (c.fact 17 (f := .glo "fraction_less") rfl)
  d_fraction_less := c.1.def_ 17 (d := dd_fraction_less) rfl
  g_fraction_sum := He.glo_ok X G (c.fact 18 (f := .glo "fraction_sum") rfl)
  d_fraction_sum := c.1.def_ 18 (d := dd_fraction_sum) rfl
  g_between := He.glo_ok X G (c.fact 19 (f := .glo "between") rfl)
  d_between := c.1.def_ 19 (d := dd_between) rfl
  g_with_corner := He.glo_ok X G (c.fact 20 (f := .glo "with_corner") rfl)
  d_with_corner := c.1.def_ 20 (d := dd_with_corner) rfl
  g_cut_by := He.glo_ok X G (c.fact 21 (f := .glo "cut_by") rfl)
  d_cut_by := c.1.def_ 21 (d := dd_cut_by) rfl
  g_draws_of := He.glo_ok X G (c.fact 22 (f := .glo "draws_of") rfl)
  d_draws_of := c.1.def_ 22 (d := dd_draws_of) rfl
  g_cut := He.glo_ok X G (c.fact 23 (f := .glo "cut") rfl)
  d_cut := c.1.def_ 23 (d := dd_cut) rfl
  g_orders_of := He.glo_ok X G (c.fact 24 (f := .glo "orders_of") rfl)
  d_orders_of := c.1.def_ 24 (d := dd_orders_of) rfl
  g_corners_of_order := He.glo_ok X G (c.fact 25 (f := .glo "corners_of_order") rfl)
  d_corners_of_order := c.1.def_ 25 (d := dd_corners_of_order) rfl
  g_first_cells_by := He.glo_ok X G (c.fact 26 (f := .glo "first_cells_by") rfl)
  d_first_cells_by := c.1.def_ 26 (d := dd_first_cells_by) rfl
  g_first_cells := He.glo_ok X G (c.fact 27 (f := .glo "first_cells") rfl)
  d_first_cells := c.1.def_ 27 (d := dd_first_cells) rfl
  g__law_part := He.glo_ok X G (c.fact 28 (f := .glo "_law_part") rfl)
  d__law_part := c.1.def_ 28 (d := dd__law_part) rfl
  g__law_plus := He.glo_ok X G (c.fact 29 (f := .glo "_law_plus") rfl)
  d__law_plus := c.1.def_ 29 (d := dd__law_plus) rfl
  g__law_total := He.glo_ok X G (c.fact 30 (f := .glo "_law_total") rfl)
  d__law_total := c.1.def_ 30 (d := dd__law_total) rfl
  g_sign_of := He.glo_ok X G (c.fact 31 (f := .glo "sign_of") rfl)
  d_sign_of := c.1.def_ 31 (d := dd_sign_of) rfl
  g_fraction_over := He.glo_ok X G (c.fact 32 (f := .glo "fraction_over") rfl)
  d_fraction_over := c.1.def_ 32 (d := dd_fraction_over) rfl
  g_pivot_of := He.glo_ok X G (c.fact 33 (f := .glo "pivot_of") rfl)
  d_pivot_of := c.1.def_ 33 (d := dd_pivot_of) rfl
  g_without_first := He.glo_ok X G (c.fact 34 (f := .glo "without_first") rfl)
  d_without_first := c.1.def_ 34 (d := dd_without_first) rfl
  g_determinant_size := He.glo_ok X G (c.fact 35 (f := .glo "determinant_size") rfl)
  d_determinant_size := c.1.def_ 35 (d := dd_determinant_size) rfl
  g_volume_by := He.glo_ok X G (c.fact 36 (f := .glo "volume_by") rfl)
  d_volume_by := c.1.def_ 36 (d := dd_volume_by) rfl
  g_volume := He.glo_ok X G (c.fact 37 (f := .glo "volume") rfl)
  d_volume := c.1.def_ 37 (d := dd_volume) rfl
  g__law_orders := He.glo_ok X G (c.fact 38 (f := .glo "_law_orders") rfl)
  d__law_orders := c.1.def_ 38 (d := dd__law_orders) rfl
  g__law_firsts := He.glo_ok X G (c.fact 39 (f := .glo "_law_firsts") rfl)
  d__law_firsts := c.1.def_ 39 (d := dd__law_firsts) rfl
  g__law_by := He.glo_ok X G (c.fact 40 (f := .glo "_law_by") rfl)
  d__law_by := c.1.def_ 40 (d := dd__law_by) rfl
  g__law_less := He.glo_ok X G (c.fact 41 (f := .glo "_law_less") rfl)
  d__law_less := c.1.def_ 41 (d := dd__law_less) rfl
  g__law_cut_cell := He.glo_ok X G (c.fact 42 (f := .glo "_law_cut_cell") rfl)
  d__law_cut_cell := c.1.def_ 42 (d := dd__law_cut_cell) rfl
  g_is_cell := He.glo_ok X G (c.fact 43 (f := .glo "is_cell") rfl)
  d_is_cell := c.1.def_ 43 (d := dd_is_cell) rfl
  g__law_over := He.glo_ok X G (c.fact 44 (f := .glo "_law_over") rfl)
  d__law_over := c.1.def_ 44 (d := dd__law_over) rfl
  g__law_determinant := He.glo_ok X G (c.fact 45 (f := .glo "_law_determinant") rfl)
  d__law_determinant := c.1.def_ 45 (d := dd__law_determinant) rfl
  g__law_volume := He.glo_ok X G (c.fact 46 (f := .glo "_law_volume") rfl)
  d__law_volume := c.1.def_ 46 (d := dd__law_volume) rfl
  g__law_right := He.glo_ok X G (c.fact 47 (f := .glo "_law_right") rfl)
  d__law_right := c.1.def_ 47 (d := dd__law_right) rfl
  g__law_well := He.glo_ok X G (c.fact 48 (f := .glo "_law_well") rfl)
  d__law_well := c.1.def_ 48 (d := dd__law_well) rfl
  g_law := He.glo_ok X G (c.fact 49 (f := .glo "law") rfl)
  d_law := c.1.def_ 49 (d := dd_law) rfl
def loose : List PySem.Str := (["__name__", "ZERO", "ONE", "is_whole", "is_between", "is_tuple_of", "is_fraction", "fraction", "fraction_sum", "fraction_less", "fraction_times", "fraction_over", "is_above", "sign_of", "MOST_DRAWS", "is_part", "is_point", "are_corners", "is_cell_by", "draws_of", "orders_of", "corners_of_order", "first_cells_by", "between", "with_corner", "cut_by", "pivot_of", "without_first", "determinant_size", "volume_by"] : List PySem.Str) ++ (["DrawError", "InvalidCell", "InvalidFraction", "InvalidNumber", "check_number", "check_cell", "check_share", "is_cell", "first_cells", "cut", "volume", "_law_well", "_law_take", "_law_of", "_law_same", "_law_part", "_law_plus", "_law_less", "_law_by", "_law_total", "_law_over", "_law_orders", "_law_firsts", "_law_cut_cell", "_law_determinant", "_law_volume", "_law_right"] : List PySem.Str)
abbrev R : PySem.W.OpenRow := PySem.W.OpenLaw.row PySem.Challenge.rw_evendraws_k22_whole_first_cells_cuts_and
abbrev hk : PySem.W.Hook := hookZ 5 fa fb fn
def ob (s : PySem.W.SharedT) : He.AlD := obsZG 5 fa fb fn (HandSHeadRun.getT s)
theorem ob_eq (s : PySem.W.SharedT) : ob s = hk.obs s.abs := obsZG_eq (HandSHeadRun.getT_eq s)
theorem run (w : World) : HandSHeadRun.RunEqI R (PySem.W.view R.prog [0, 63]) hk ob 3000 loose w := by
  unfold HandSHeadRun.RunEqI
  kernel_rfl
end K22
open PySem PySem.W PySem.Calls PyProof.Rows
set_option maxRecDepth 100000 in
set_option maxHeartbeats 0 in
theorem PySem.Challenge.cw_evendraws_k22_whole_first_cells_cuts_and_holds : PySem.Challenge.rw_evendraws_k22_whole_first_cells_cuts_and.Holds := by
  w_on; o_law
  refine HandSHeadRun.head_imp (r := OpenLaw.row PySem.Challenge.rw_evendraws_k22_whole_first_cells_cuts_and) (q := view (OpenLaw.row PySem.Challenge.rw_evendraws_k22_whole_first_cells_cuts_and).prog [0, 63]) (H := K22.hk) (ob := K22.ob) (M := 3000) (loose := K22.loose) (d := HandSHeadRun.topDef (OpenLaw.row PySem.Challenge.rw_evendraws_k22_whole_first_cells_cuts_and).prog 63) (kwd := []) K22.ob_eq
    K22.run (by kernel_rfl) (by kernel_rfl) (by kernel_rfl) (by rfl) (by first | assumption | decide +kernel) (by decide +kernel) ⟨rfl, rfl, rfl, rfl, rfl, by decide +kernel⟩ ?hw ?hc
  case hw => w_witness2
  case hc =>
    refine Z.walk_ofZ (l := PySem.Challenge.rw_evendraws_k22_whole_first_cells_cuts_and) (n := 63) (k := 10) (x := "script") rfl (by decide) (by kernel_rfl) ⟨rfl, by decide, by decide⟩ ?F
    intro w mg fa h Y G hmg0
    obtain ⟨K, KX, c⟩ := Y
    have T := K22.tx_of KX G c
    have hmg : mg ("law" : PySem.Str) = some (.ref fa) := by
      have e : (HandSHeadRun.topDef (OpenLaw.row PySem.Challenge.rw_evendraws_k22_whole_first_cells_cuts_and).prog 63).name = ("law" : PySem.Str) := by kernel_rfl
      rw [← e]
      exact hmg0
    have efa : fa = He.ga K ("law" : PySem.Str) := Value.ref.inj (Option.some.inj (hmg.symm.trans T.g_law))
    subst efa
    obtain ⟨fd, F⟩ := T.d_law
    exact ⟨K, fd, K22.m_law, KX, fun s v => L2.FunD.bindsA (ps := ["script"]) F (fun _ _ _ _ _ _ us hl => match us, hl with | [_], _ => rfl) s [v] rfl, K22.plain_law, fun base _ _ => K22.fn_law T F⟩
