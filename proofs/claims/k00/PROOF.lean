import PyProof.Rows.All
import Wide.All
import OpenK.AllK
import Wide.FinOn
import HandS.ForMost
import HandS.ForExc
import HandS.Wide
import HandS.Gcd
import HandS.IsInst
import HandS.Deep
import HandS.TupAny
import HandS.TupMul
import HandS.TupLe
import HandS.Walk
import HandS.Zip
import HandS.Style
import HandS.Flow
import HandS.HeadHook1
import HandS.WideBits
import KE.KMathG
import HandS.CallSlots
import HandS.ExcOwn
import HandS.TryOnly
import KE.GoesNew
import HandS.Defaults
import HandS.HeadHook2
import HandS.Star
import HandS.Head0
import HandS.Head1
import HandS.Head2
import HandS.HeadEnd
import PyProof.SumWalkG
import HandS.ExcValue
import HandS.CallLocal
import PyProof.ReprRoads
import HandS.EndBits
import HandS.ExcInit
import HandS.ExcIs
import HandS.ExcField
import HandS.Words
import KE.KExcIs
import HandS.Dict
import HandS.DictComp
import HandS.FStrTup
import PyProof.Rows.ReprOcc
import HandS.Head3
import PySem.Challenge.RW_evendraws_k00_errors_each_of_its_own
set_option Elab.async false
set_option linter.all false
set_option maxRecDepth 100000
/-! Z: a functional layer. A Python expression or statement computes what a Lean function over plain data says. -/
namespace Z
open PySem PySem.Spec PyProof.Rows L2

abbrev D := PyData
abbrev Sg := L2.St
structure Exc where
  name : Str
  arg : Option (Str × D)
/-- what an expression hands on: data; a list that nobody else holds; an object of the store; what slot i holds -/
inductive W where
  | val (d : D) | own (ds : List D) | ref (n : Nat) | peek (i : Nat) | scr (ns : List Int) | fn (x : Str) | exc (x : Exc)
structure S where
  env : List (Option W)
  st : List (List D)
inductive Out (σ α : Type) where
  | fail | ok (a : α) (s : σ) | err (x : Exc) (s : σ)
abbrev M (α : Type) := S → Out S α
abbrev Store := List (List D)
abbrev Fn := List W → Store → Out Store W

def M.pure {α : Type} (a : α) : M α := fun s => .ok a s
def M.bind {α β : Type} (m : M α) (k : α → M β) : M β := fun s => match m s with
  | .fail => .fail
  | .err x s' => .err x s'
  | .ok a s' => k a s'
def M.fail {α : Type} : M α := fun _ => .fail
instance : Monad M where
  pure := M.pure
  bind := M.bind
def Run {α : Type} (m : M α) (s : S) (ok : α → S → Prop) (er : Exc → S → Prop) : Prop := match m s with
  | .fail => False
  | .ok a s' => ok a s'
  | .err x s' => er x s'
theorem Run.bind {α β : Type} {m : M α} {k : α → M β} {s : S} {ok : β → S → Prop} {er : Exc → S → Prop} (h : Run (m >>= k) s ok er) : Run m s (fun a s' => Run (k a) s' ok er) er := by
  show (match m s with | .fail => False | .ok a s' => Run (k a) s' ok er | .err x s' => er x s')
  have h' : (match M.bind m k s with | .fail => False | .ok a s' => ok a s' | .err x s' => er x s') := h
  unfold M.bind at h'
  cases e : m s with
  | fail => rw [e] at h'; exact h'
  | ok a s' => rw [e] at h'; exact h'
  | err x s' => rw [e] at h'; exact h'
theorem Run.mono {α : Type} {m : M α} {s : S} {ok ok' : α → S → Prop} {er er' : Exc → S → Prop} (h : Run m s ok er) (ho : ∀ a s', m s = .ok a s' → ok a s' → ok' a s') (he : ∀ x s', m s = .err x s' → er x s' → er' x s') : Run m s ok' er' := by
  unfold Run at h ⊢
  cases e : m s with
  | fail => rw [e] at h; exact h
  | ok a s' => rw [e] at h; exact ho a s' e h
  | err x s' => rw [e] at h; exact he x s' e h
theorem Run.pure {α : Type} {a : α} {s : S} {ok : α → S → Prop} {er : Exc → S → Prop} (h : Run (Pure.pure a : M α) s ok er) : ok a s := h

/-! ### data on the heap -/
abbrev Fz := Addr → Prop
def H0 : Hp := fun _ => none
/-- the script: frozen by the entry, or written by the module -/
def ScrAt (K : PySem.W.Frag) (H : Hp) (a : Addr) (ns : List Int) : Prop := (∃ o, H a = some (.frz o (.lst (ns.map V.int)))) ∨ SqL K H0 a (ns.map V.int)
theorem SqL.h0 {K : PySem.W.Frag} {H : Hp} {a : Addr} {xs : List V} (h : SqL K H0 a xs) : SqL K H a xs := by
  rcases h with (h | ⟨o, h⟩) | h
  · cases h
  · cases h
  · exact .inr h
theorem ScrAt.sq {K : PySem.W.Frag} {H : Hp} {a : Addr} {ns : List Int} (h : ScrAt K H a ns) : SqL K H a (ns.map V.int) := by
  rcases h with ⟨o, h⟩ | h
  · exact .inl (.inr ⟨o, h⟩)
  · exact SqL.h0 h
/-- at a an error of the class cls, its dict d -/
def exT (a : Addr) (cls : Value) (d : Option Addr) : HO := .ext fun h => ∃ (oe : Obj) (vs : Array Value), h.get? a = some oe ∧ Zc cls d oe ∧ oe.data = .fields vs
mutual
inductive Rp (K : PySem.W.Frag) (F : Fz) (H : Hp) : V → D → Prop
  | non : Rp K F H .non .none
  | bl (b : Bool) : Rp K F H (.bl b) (.bool b)
  | int (i : Int) : Rp K F H (.int i) (.int i)
  | str (x : Str) : Rp K F H (.str x) (.str x)
  | lst {a : Addr} {xs : List V} {ds : List D} : F a → H a = some (.lst xs) → RpAll K F H xs ds → Rp K F H (.ref a) (.list ds)
  | tup {a : Addr} {xs : List V} {ds : List D} : SqT K H a xs → RpAll K F H xs ds → Rp K F H (.ref a) (.tuple ds)
  | dct {a : Addr} : H a = some (.dK []) → Rp K F H (.ref a) (.dict [])
  | er0 {a : Addr} {n : Str} : H a = some (exT a (.ref (He.ga K n)) none) → Rp K F H (.ref a) (.dict [(.str n, .none)])
  | er1 {a b : Addr} {n f : Str} {v : V} {d : D} : H a = some (exT a (.ref (He.ga K n)) (some b)) → H b = some (.xd [(f, v)]) → Rp K F H v d → Rp K F H (.ref a) (.dict [(.str n, .tuple [.str f, d])])
inductive RpAll (K : PySem.W.Frag) (F : Fz) (H : Hp) : List V → List D → Prop
  | nil : RpAll K F H [] []
  | cons {v : V} {vs : List V} {d : D} {ds : List D} : Rp K F H v d → RpAll K F H vs ds → RpAll K F H (v :: vs) (d :: ds)
end
def fixd : HO → Bool
  | .lst _ => false
  | _ => true
def Stay (F : Fz) (H H' : Hp) : Prop := ∀ a o, H a = some o → (F a ∨ fixd o = true) → H' a = some o
section
variable {K : PySem.W.Frag} {F F' : Fz} {H H' : Hp}
theorem ScrAt.mono {a : Addr} {ns : List Int} (st : Stay F H H') (h : ScrAt K H a ns) : ScrAt K H' a ns := by
  rcases h with ⟨o, h⟩ | h
  · exact .inl ⟨o, st _ _ h (.inr rfl)⟩
  · exact .inr h
theorem sqT_stay {a : Addr} {xs : List V} (st : Stay F H H') (h : SqT K H a xs) : SqT K H' a xs := by
  rcases h with (h | ⟨o, h⟩) | h
  · exact .inl (.inl (st _ _ h (.inr rfl)))
  · exact .inl (.inr ⟨o, st _ _ h (.inr rfl)⟩)
  · exact .inr h
mutual
theorem Rp.mono (st : Stay F H H') (sub : ∀ a, F a → F' a) : ∀ (d : D) (v : V), Rp K F H v d → Rp K F' H' v d
  | .none, _, h => by cases h; exact .non
  | .bool b, _, h => by cases h; exact .bl b
  | .int i, _, h => by cases h; exact .int i
  | .str x, _, h => by cases h; exact .str x
  | .list ds, _, h => by
    cases h with
    | lst f e b => exact .lst (sub _ f) (st _ _ e (.inl f)) (RpAll.mono st sub ds _ b)
  | .tuple ds, _, h => by
    cases h with
    | tup a b => exact .tup (sqT_stay st a) (RpAll.mono st sub ds _ b)
  | .dict [], _, h => by
    cases h with
    | dct e => exact .dct (st _ _ e (.inr rfl))
  | .dict [(.str n, .tuple [.str f, d])], _, h => by
    cases h with
    | er1 e q r => exact .er1 (st _ _ e (.inr rfl)) (st _ _ q (.inr rfl)) (Rp.mono st sub d _ r)
  | .dict (p :: ps), _, h => by
    cases h with
    | er0 e => exact .er0 (st _ _ e (.inr rfl))
    | er1 e q r => exact .er1 (st _ _ e (.inr rfl)) (st _ _ q (.inr rfl)) (Rp.mono st sub _ _ r)
theorem RpAll.mono (st : Stay F H H') (sub : ∀ a, F a → F' a) : ∀ (ds : List D) (vs : List V), RpAll K F H vs ds → RpAll K F' H' vs ds
  | [], _, h => by cases h; exact .nil
  | d :: ds, _, h => by
    cases h with
    | cons a b => exact .cons (Rp.mono st sub d _ a) (RpAll.mono st sub ds _ b)
end
mutual
theorem Rp.dp : ∀ (d : D) (v : V), d.hasDict = false → Rp K F H v d → Dp K H v d
  | .none, _, _, h => by cases h; exact .non
  | .bool b, _, _, h => by cases h; exact .bl b
  | .int i, _, _, h => by cases h; exact .int i
  | .str x, _, _, h => by cases h; exact .str x
  | .list ds, _, n, h => by
    cases h with
    | lst f e b => exact .lst (SqL.of e) (RpAll.dp ds _ (by simpa [PyData.hasDict] using n) b)
  | .tuple ds, _, n, h => by
    cases h with
    | tup a b => exact .tup a (RpAll.dp ds _ (by simpa [PyData.hasDict] using n) b)
  | .dict _, _, n, h => by simp [PyData.hasDict] at n
theorem RpAll.dp : ∀ (ds : List D) (vs : List V), PyData.hasDictAll ds = false → RpAll K F H vs ds → DpAll K H vs ds
  | [], _, _, h => by cases h; exact .nil
  | d :: ds, _, n, h => by
    simp only [PyData.hasDictAll, Bool.or_eq_false_iff] at n
    cases h with
    | cons a b => exact .cons (Rp.dp d _ n.1 a) (RpAll.dp ds _ n.2 b)
end
theorem RpAll.length : ∀ {ds : List D} {vs : List V}, RpAll K F H vs ds → vs.length = ds.length
  | [], _, h => by cases h; rfl
  | d :: ds, _, h => by
    cases h with
    | cons a b => simp [RpAll.length b]
theorem RpAll.get : ∀ {ds : List D} {vs : List V} {i : Nat} {d : D}, RpAll K F H vs ds → ds[i]? = some d → ∃ v, vs[i]? = some v ∧ Rp K F H v d
  | [], _, i, d, h, e => by simp at e
  | d :: ds, _, 0, x, h, e => by
    cases h with
    | cons a b => simp at e; subst e; exact ⟨_, rfl, a⟩
  | d :: ds, _, i + 1, x, h, e => by
    cases h with
    | cons a b =>
      obtain ⟨v, h1, h2⟩ := RpAll.get b (i := i) (by simpa using e)
      exact ⟨v, by simpa using h1, h2⟩
theorem RpAll.getV : ∀ {ds : List D} {vs : List V} {i : Nat} {v : V}, RpAll K F H vs ds → vs[i]? = some v → ∃ d, ds[i]? = some d ∧ Rp K F H v d
  | [], _, i, v, h, e => by cases h; simp at e
  | d :: ds, _, 0, x, h, e => by
    cases h with
    | cons a b => simp at e; subst e; exact ⟨_, rfl, a⟩
  | d :: ds, _, i + 1, x, h, e => by
    cases h with
    | cons a b =>
      obtain ⟨v, h1, h2⟩ := RpAll.getV b (i := i) (by simpa using e)
      exact ⟨v, by simpa using h1, h2⟩
theorem RpAll.append : ∀ {ds es : List D} {vs ws : List V}, RpAll K F H vs ds → RpAll K F H ws es → RpAll K F H (vs ++ ws) (ds ++ es)
  | [], _, _, _, h, g => by cases h; exact g
  | d :: ds, _, _, _, h, g => by
    cases h with
    | cons a b => exact .cons a (RpAll.append b g)
theorem RpAll.take : ∀ {ds : List D} {vs : List V} (n : Nat), RpAll K F H vs ds → RpAll K F H (vs.take n) (ds.take n)
  | _, _, 0, _ => .nil
  | _, _, n + 1, .nil => .nil
  | _, _, n + 1, .cons a b => .cons a (RpAll.take n b)
theorem RpAll.drop : ∀ {ds : List D} {vs : List V} (n : Nat), RpAll K F H vs ds → RpAll K F H (vs.drop n) (ds.drop n)
  | _, _, 0, h => h
  | _, _, n + 1, .nil => .nil
  | _, _, n + 1, .cons a b => RpAll.drop n b
theorem RpAll.set : ∀ {ds : List D} {vs : List V} {v : V} {d : D} (n : Nat), RpAll K F H vs ds → Rp K F H v d → RpAll K F H (vs.set n v) (ds.set n d)
  | _, _, _, _, _, .nil, _ => .nil
  | _, _, _, _, 0, .cons a b, h => .cons h b
  | _, _, _, _, n + 1, .cons a b, h => .cons a (RpAll.set n b h)
theorem RpAll.reverse : ∀ {ds : List D} {vs : List V}, RpAll K F H vs ds → RpAll K F H vs.reverse ds.reverse
  | _, _, .nil => .nil
  | _, _, .cons a b => by
    simp only [List.reverse_cons]
    exact (RpAll.reverse b).append (.cons a .nil)
theorem RpAll.eraseIdx : ∀ {ds : List D} {vs : List V} (n : Nat), RpAll K F H vs ds → RpAll K F H (vs.eraseIdx n) (ds.eraseIdx n)
  | _, _, _, .nil => .nil
  | _, _, 0, .cons a b => b
  | _, _, n + 1, .cons a b => .cons a (RpAll.eraseIdx n b)
theorem RpAll.rep {ds : List D} {vs : List V} (h : RpAll K F H vs ds) : ∀ k : Nat, RpAll K F H (List.replicate k vs).flatten (List.replicate k ds).flatten
  | 0 => .nil
  | k + 1 => by
    simp only [List.replicate_succ, List.flatten_cons]
    exact h.append (RpAll.rep h k)
theorem stay_refl : Stay F H H := fun _ _ h _ => h
theorem stay_upd {p : Addr} {o : HO} (h : H p = none) : Stay F H (upd H p o) := fun a u e _ => by
  rw [upd_ne (ne_of_none e h)]; exact e
end

/-! ### errors as values: at a an error of the class cls, its dict d -/
def ExArg (K : PySem.W.Frag) (F : Fz) (H : Hp) (x : Exc) (d : Option Addr) : Prop := match x.arg with
  | none => d = none
  | some (f, dd) => ∃ b v, d = some b ∧ H b = some (.xd [(f, v)]) ∧ Rp K F H v dd
def ExV (K : PySem.W.Frag) (F : Fz) (H : Hp) (v : V) (x : Exc) : Prop := ∃ a d, v = .ref a ∧ H a = some (exT a (.ref (He.ga K x.name)) d) ∧ ExArg K F H x d
/-! ### the state -/
structure Base where
  F : Fz
  ρ : List Addr
  H : Hp
/-- from a call's entry on: what was tracked and is not of the store stays; what is frozen stays so -/
structure Fx (F : Fz) (ρ : List Addr) (H : Hp) (F' : Fz) (ρ' : List Addr) (H' : Hp) : Prop where
  sub : ∀ a, F a → F' a
  rho : ∃ m, ρ' = ρ ++ m
  new : ∀ a, a ∈ ρ' → a ∈ ρ ∨ H a = none
  keep : ∀ a o, H a = some o → a ∉ ρ → H' a = some o
  fz : ∀ a, F' a → F a ∨ H a = none
def OwnedBy (s : S) (σ : Sg) (a : Addr) : Prop := ∃ (i : Nat) (ds : List D), s.env[i]? = some (some (.own ds)) ∧ σ[i]? = some (some (.ref a))
structure Sto (K : PySem.W.Frag) (F : Fz) (ρ : List Addr) (st : Store) (H : Hp) : Prop where
  len : st.length = ρ.length
  nd : ρ.Nodup
  at_ : ∀ (n : Nat) (ds : List D), st[n]? = some ds → ∃ a vs, ρ[n]? = some a ∧ ¬ F a ∧ H a = some (.lst vs) ∧ RpAll K F H vs ds
/-- what a slot holds -/
def SOk (K : PySem.W.Frag) (B : Base) (F : Fz) (ρ : List Addr) (H : Hp) (v : V) : W → Prop
  | .val d => Rp K F H v d
  | .own ds => ∃ a vs, v = .ref a ∧ H a = some (.lst vs) ∧ RpAll K F H vs ds ∧ ¬ F a ∧ a ∉ ρ ∧ B.H a = none
  | .ref n => ∃ a, v = .ref a ∧ ρ[n]? = some a
  | .peek _ => False
  | .scr ns => ∃ a, v = .ref a ∧ ScrAt K H a ns
  | .fn x => v = .ref (He.ga K x)
  | .exc x => ExV K F H v x
structure Ok (K : PySem.W.Frag) (B : Base) (F : Fz) (ρ : List Addr) (s : S) (σ : Sg) (H : Hp) : Prop where
  len : s.env.length = σ.length
  base : Fx B.F B.ρ B.H F ρ H
  trk : ∀ a, F a → ∃ xs, H a = some (.lst xs)
  sto : Sto K F ρ s.st H
  env : ∀ (i : Nat) (w : W), s.env[i]? = some (some w) → ∃ v, σ[i]? = some (some v) ∧ SOk K B F ρ H v w
  sep : ∀ (i j : Nat) (ds es : List D) (a : Addr), s.env[i]? = some (some (.own ds)) → s.env[j]? = some (some (.own es)) → σ[i]? = some (some (.ref a)) → σ[j]? = some (some (.ref a)) → i = j
/-- a value in hand -/
def WOk (K : PySem.W.Frag) (B : Base) (F : Fz) (ρ : List Addr) (s : S) (σ : Sg) (H : Hp) (v : V) : W → Prop
  | .val d => Rp K F H v d
  | .own ds => ∃ a vs, v = .ref a ∧ H a = some (.lst vs) ∧ RpAll K F H vs ds ∧ ¬ F a ∧ a ∉ ρ ∧ ¬ OwnedBy s σ a ∧ B.H a = none
  | .ref n => ∃ a, v = .ref a ∧ ρ[n]? = some a
  | .peek i => σ[i]? = some (some v)
  | .scr ns => ∃ a, v = .ref a ∧ ScrAt K H a ns
  | .fn x => v = .ref (He.ga K x)
  | .exc x => ExV K F H v x
/-- within an expression -/
structure Ext (s : S) (σ : Sg) (F : Fz) (ρ : List Addr) (H : Hp) (s' : S) (F' : Fz) (ρ' : List Addr) (H' : Hp) : Prop where
  sub : ∀ a, F a → F' a
  rho : ∃ m, ρ' = ρ ++ m
  new : ∀ a, a ∈ ρ' → a ∈ ρ ∨ H a = none
  keep : ∀ a o, H a = some o → a ∉ ρ → ¬ OwnedBy s σ a → H' a = some o
  th : ∀ a, H' a = none → H a = none
  fz : ∀ a, F' a → F a ∨ H a = none ∨ OwnedBy s σ a
  ow : ∀ a, OwnedBy s' σ a → OwnedBy s σ a
/-- a fresh list is not one that stood -/
def Fresh (H : Hp) (v : V) : W → Prop
  | .own _ => ∀ a, v = .ref a → H a = none
  | _ => True
section
variable {K : PySem.W.Frag} {B : Base} {F F' F1 F2 : Fz} {ρ ρ' ρ1 ρ2 : List Addr} {s s' s1 s2 : S} {σ σ' : Sg} {H H' H1 H2 : Hp} {v : V} {w : W} {p : Addr} {o : HO}
theorem Sto.mem {st : Store} (h : Sto K F ρ st H) {a : Addr} (ha : a ∈ ρ) : ¬ F a ∧ ∃ vs, H a = some (.lst vs) := by
  obtain ⟨n, hn, e⟩ := List.mem_iff_getElem.mp ha
  have hn' : n < st.length := by rw [h.len]; exact hn
  obtain ⟨b, vs, e1, e2, e3, _⟩ := h.at_ n st[n] (List.getElem?_eq_getElem hn')
  rw [List.getElem?_eq_getElem hn] at e1
  have e4 : ρ[n] = b := Option.some.inj e1
  rw [e] at e4
  subst e4
  exact ⟨e2, vs, e3⟩
theorem Fx.stay {st : Store} (x : Fx F ρ H F' ρ' H') (h : Sto K F ρ st H) : Stay F H H' := fun a o e q => x.keep a o e fun ha => by
  obtain ⟨n1, vs, n2⟩ := h.mem ha
  rcases q with q | q
  · exact n1 q
  · rw [n2] at e; cases e; cases q
theorem Fx.refl : Fx F ρ H F ρ H := ⟨fun _ h => h, ⟨[], by simp⟩, fun _ h => .inl h, fun _ _ h _ => h, fun _ h => .inl h⟩
theorem Ext.refl : Ext s σ F ρ H s F ρ H := ⟨fun _ h => h, ⟨[], by simp⟩, fun _ h => .inl h, fun _ _ h _ _ => h, fun _ h => h, fun _ h => .inl h, fun _ h => h⟩
theorem Ext.there {st : Store} (x : Ext s σ F ρ H s' F' ρ' H') (h : Sto K F' ρ' st H') {a : Addr} (e : H' a = none) : H a = none := x.th a e
theorem Fx.there {st : Store} (x : Fx F ρ H F' ρ' H') (h : Sto K F' ρ' st H') {a : Addr} (e : H' a = none) : H a = none := by
  cases q : H a with
  | none => rfl
  | some o =>
    by_cases ha : a ∈ ρ
    · obtain ⟨m, em⟩ := x.rho
      obtain ⟨_, vs, e2⟩ := h.mem (a := a) (by rw [em]; exact List.mem_append_left _ ha)
      rw [e2] at e; cases e
    · rw [x.keep a o q ha] at e; cases e
theorem Ext.trans {st : Store} (x : Ext s σ F ρ H s1 F1 ρ1 H1) (y : Ext s1 σ F1 ρ1 H1 s2 F2 ρ2 H2) (h : Sto K F1 ρ1 st H1) : Ext s σ F ρ H s2 F2 ρ2 H2 where
  sub := fun a q => y.sub a (x.sub a q)
  rho := by
    obtain ⟨m, e⟩ := x.rho
    obtain ⟨m', e'⟩ := y.rho
    exact ⟨m ++ m', by rw [e', e, List.append_assoc]⟩
  new := fun a q => by
    rcases y.new a q with q | q
    · exact x.new a q
    · exact .inr (x.there h q)
  keep := fun a o q n no => y.keep a o (x.keep a o q n no) (fun z => by
    rcases x.new a z with z | z
    · exact n z
    · rw [q] at z; cases z) fun z => no (x.ow a z)
  th := fun a e => x.th a (y.th a e)
  fz := fun a q => by
    rcases y.fz a q with q | q | q
    · exact x.fz a q
    · exact .inr (.inl (x.there h q))
    · exact .inr (.inr (x.ow a q))
  ow := fun a q => x.ow a (y.ow a q)
theorem Fx.trans {st : Store} (x : Fx F ρ H F1 ρ1 H1) (y : Fx F1 ρ1 H1 F2 ρ2 H2) (h : Sto K F1 ρ1 st H1) : Fx F ρ H F2 ρ2 H2 where
  sub := fun a q => y.sub a (x.sub a q)
  rho := by
    obtain ⟨m, e⟩ := x.rho
    obtain ⟨m', e'⟩ := y.rho
    exact ⟨m ++ m', by rw [e', e, List.append_assoc]⟩
  new := fun a q => by
    rcases y.new a q with q | q
    · exact x.new a q
    · exact .inr (x.there h q)
  keep := fun a o q n => y.keep a o (x.keep a o q n) fun z => by
    rcases x.new a z with z | z
    · exact n z
    · rw [q] at z; cases z
  fz := fun a q => by
    rcases y.fz a q with q | q
    · exact x.fz a q
    · exact .inr (x.there h q)
theorem Ok.fresh (k : Ok K B F ρ s σ H) (h : H p = none) : B.H p = none := k.base.there k.sto h
theorem Ok.owned {a : Addr} (k : Ok K B F ρ s σ H) (h : OwnedBy s σ a) : ¬ F a ∧ a ∉ ρ ∧ B.H a = none ∧ ∃ vs, H a = some (.lst vs) := by
  obtain ⟨i, ds, e1, e2⟩ := h
  obtain ⟨v, e3, b, vs, e4, e5, _, e6, e7, e8⟩ := k.env i _ e1
  rw [e2] at e3
  cases e3
  cases e4
  exact ⟨e6, e7, e8, vs, e5⟩
theorem Ok.stay (k : Ok K B F ρ s σ H) (x : Ext s σ F ρ H s' F' ρ' H') : Stay F H H' := fun a o e q => x.keep a o e (fun ha => by
  obtain ⟨n1, vs, n2⟩ := k.sto.mem ha
  rcases q with q | q
  · exact n1 q
  · rw [n2] at e; cases e; cases q) fun ho => by
  obtain ⟨n1, _, _, vs, n2⟩ := k.owned ho
  rcases q with q | q
  · exact n1 q
  · rw [n2] at e; cases e; cases q
theorem Ok.nF (k : Ok K B F ρ s σ H) (h : H p = none) : ¬ F p := fun f => by
  obtain ⟨xs, e⟩ := k.trk p f
  rw [h] at e; cases e
theorem Ok.nρ (k : Ok K B F ρ s σ H) (h : H p = none) : p ∉ ρ := fun f => by
  obtain ⟨_, xs, e⟩ := k.sto.mem f
  rw [h] at e; cases e
theorem Ok.nO (k : Ok K B F ρ s σ H) (h : H p = none) : ¬ OwnedBy s σ p := fun ⟨i, ds, e1, e2⟩ => by
  obtain ⟨v, e3, a, vs, e4, e5, _⟩ := k.env i _ e1
  rw [e2] at e3
  cases e3
  cases e4
  rw [h] at e5; cases e5
theorem RpAll.st {ds : List D} {vs : List V} (h : RpAll K F H vs ds) (t : Stay F H H') (sub : ∀ a, F a → F' a) : RpAll K F' H' vs ds := RpAll.mono t sub _ _ h
theorem Rp.st {d : D} {v : V} (h : Rp K F H v d) (t : Stay F H H') (sub : ∀ a, F a → F' a) : Rp K F' H' v d := Rp.mono t sub _ _ h
theorem ExArg.st {K : PySem.W.Frag} {F F' : Fz} {H H' : Hp} {x : Exc} {d : Option Addr} (h : ExArg K F H x d) (st : Stay F H H') (sub : ∀ a, F a → F' a) : ExArg K F' H' x d := by
  unfold ExArg at h ⊢
  split at h
  · exact h
  · obtain ⟨b, v, e, q, r⟩ := h
    exact ⟨b, v, e, st b _ q (.inr rfl), Rp.st r st sub⟩
theorem ExV.st {K : PySem.W.Frag} {F F' : Fz} {H H' : Hp} {v : V} {x : Exc} (h : ExV K F H v x) (st : Stay F H H') (sub : ∀ a, F a → F' a) : ExV K F' H' v x := by
  obtain ⟨a, d, e, q, r⟩ := h
  exact ⟨a, d, e, st a _ q (.inr rfl), r.st st sub⟩
theorem WOk.mono (k : Ok K B F ρ s σ H) (x : Ext s σ F ρ H s' F' ρ' H') (h : WOk K B F ρ s σ H v w) : WOk K B F' ρ' s' σ H' v w := by
  cases w with
  | val d => exact Rp.st h (k.stay x) x.sub
  | own ds =>
    obtain ⟨a, vs, e1, e2, e3, e4, e5, e6, e7⟩ := h
    refine ⟨a, vs, e1, x.keep a _ e2 e5 e6, e3.st (k.stay x) x.sub, fun f => ?_, fun f => ?_, fun f => e6 (x.ow a f), e7⟩
    · rcases x.fz a f with f | f | f
      · exact e4 f
      · rw [e2] at f; cases f
      · exact e6 f
    · rcases x.new a f with f | f
      · exact e5 f
      · rw [e2] at f; cases f
  | ref n =>
    obtain ⟨a, e1, e2⟩ := h
    obtain ⟨m, em⟩ := x.rho
    refine ⟨a, e1, ?_⟩
    rw [em]
    obtain ⟨hn, e3⟩ := List.getElem?_eq_some_iff.mp e2
    rw [List.getElem?_append_left hn]; exact e2
  | peek i => exact h
  | scr ns =>
    obtain ⟨a, e, q⟩ := h
    exact ⟨a, e, q.mono (k.stay x)⟩
  | fn x => exact h
  | exc xx => exact ExV.st h (k.stay x) x.sub
theorem Fresh.back {st : Store} (x : Ext s σ F ρ H s' F' ρ' H') (h : Sto K F' ρ' st H') (f : Fresh H' v w) : Fresh H v w := by
  cases w with
  | own ds => exact fun a e => x.there h (f a e)
  | val d => trivial
  | ref n => trivial
  | peek i => trivial
  | scr ns => trivial
  | fn x => trivial
  | exc xx => trivial
/-- a new object -/
theorem Ok.new (k : Ok K B F ρ s σ H) (h : H p = none) : Ok K B F ρ s σ (upd H p o) where
  len := k.len
  base := k.base.trans ⟨fun _ h => h, ⟨[], by simp⟩, fun _ h => .inl h, fun a u e _ => by rw [upd_ne (ne_of_none e h)]; exact e, fun _ h => .inl h⟩ k.sto
  trk := fun a f => by
    obtain ⟨xs, e⟩ := k.trk a f
    exact ⟨xs, by rw [upd_ne (ne_of_none e h)]; exact e⟩
  sto := ⟨k.sto.len, k.sto.nd, fun n ds e => by
    obtain ⟨a, vs, e1, e2, e3, e4⟩ := k.sto.at_ n ds e
    exact ⟨a, vs, e1, e2, by rw [upd_ne (ne_of_none e3 h)]; exact e3, e4.st (stay_upd h) fun _ z => z⟩⟩
  env := fun i w e => by
    obtain ⟨v, e1, e2⟩ := k.env i w e
    refine ⟨v, e1, ?_⟩
    cases w with
    | val d => exact Rp.st e2 (stay_upd h) fun _ z => z
    | own ds =>
      obtain ⟨a, vs, q1, q2, q3, q4, q5, q6⟩ := e2
      exact ⟨a, vs, q1, by rw [upd_ne (ne_of_none q2 h)]; exact q2, q3.st (stay_upd h) fun _ z => z, q4, q5, q6⟩
    | ref n => exact e2
    | peek i => exact e2
    | scr ns =>
      obtain ⟨a, q1, q2⟩ := e2
      exact ⟨a, q1, q2.mono (F := F) (stay_upd h)⟩
    | fn x => exact e2
    | exc xx => exact ExV.st e2 (stay_upd h) fun _ z => z
  sep := k.sep
theorem upd_none {a p : Addr} (e : upd H p o a = none) : H a = none := by
  by_cases h : a = p
  · rw [h, upd_same] at e; cases e
  · rw [upd_ne h] at e; exact e
theorem Ext.new_ (h : H p = none) : Ext s σ F ρ H s F ρ (upd H p o) :=
  ⟨fun _ h => h, ⟨[], by simp⟩, fun _ h => .inl h, fun a u e _ _ => by rw [upd_ne (ne_of_none e h)]; exact e, fun a e => upd_none e, fun _ h => .inl h, fun _ h => h⟩
/-- a list of one's own is frozen -/
theorem Ok.freeze {a : Addr} {vs : List V} (k : Ok K B F ρ s σ H) (h1 : H a = some (.lst vs)) (h2 : a ∉ ρ) (h3 : ¬ OwnedBy s σ a) (h4 : B.H a = none) : Ok K B (fun b => F b ∨ b = a) ρ s σ H where
  len := k.len
  base := ⟨fun b f => .inl (k.base.sub b f), k.base.rho, k.base.new, k.base.keep, fun b f => by
    rcases f with f | f
    · exact k.base.fz b f
    · rw [f]; exact .inr h4⟩
  trk := fun b f => by
    rcases f with f | f
    · exact k.trk b f
    · rw [f]; exact ⟨vs, h1⟩
  sto := ⟨k.sto.len, k.sto.nd, fun n ds e => by
    obtain ⟨b, ws, e1, e2, e3, e4⟩ := k.sto.at_ n ds e
    refine ⟨b, ws, e1, fun f => ?_, e3, e4.st stay_refl fun _ z => .inl z⟩
    rcases f with f | f
    · exact e2 f
    · subst f; exact h2 (List.mem_of_getElem? e1)⟩
  env := fun i w e => by
    obtain ⟨v, e1, e2⟩ := k.env i w e
    refine ⟨v, e1, ?_⟩
    cases w with
    | val d => exact Rp.st e2 stay_refl fun _ z => .inl z
    | own ds =>
      obtain ⟨b, ws, q1, q2, q3, q4, q5, q6⟩ := e2
      refine ⟨b, ws, q1, q2, q3.st stay_refl (fun _ z => .inl z), fun f => ?_, q5, q6⟩
      rcases f with f | f
      · exact q4 f
      · subst f q1; exact h3 ⟨i, ds, e, e1⟩
    | ref n => exact e2
    | peek i => exact e2
    | scr ns => exact e2
    | fn x => exact e2
    | exc xx => exact ExV.st e2 stay_refl fun _ z => .inl z
  sep := k.sep
theorem Ext.freeze_ {a : Addr} (h : H a = none ∨ OwnedBy s σ a) (ow : ∀ a, OwnedBy s' σ a → OwnedBy s σ a) : Ext s σ F ρ H s' (fun b => F b ∨ b = a) ρ H :=
  ⟨fun _ h => .inl h, ⟨[], by simp⟩, fun _ h => .inl h, fun a u e _ _ => e, fun _ e => e, fun b f => by
    rcases f with f | f
    · exact .inl f
    · rw [f]; exact .inr h, ow⟩
end
end Z
/-! Z, part 2: the judgements, and expressions. -/
namespace Z
open PySem PySem.Spec PyProof.Rows L2

/-! ### contents -/
def contW (st : Store) : W → Option D
  | .val d => some d
  | .own ds => some (.list ds)
  | .ref n => (st[n]?).map .list
  | .peek _ => none
  | .scr ns => some (.list (ns.map .int))
  | .fn _ => none
  | .exc _ => none
def content (w : W) (s : S) : Option D := match w with
  | .peek i => (s.env[i]?).bind fun o => o.bind (contW s.st)
  | w => contW s.st w
def scrW : W → Bool
  | .scr _ => true
  | _ => false
def isScr (w : W) (s : S) : Bool := match w with
  | .peek i => ((s.env[i]?).bind fun o => o.map scrW).getD false
  | w => scrW w
def look (w : W) : M D := fun s => match content w s with
  | some d => .ok d s
  | none => .fail
/-- for what wants a list that is no script -/
def lookT (w : W) : M D := fun s => match content w s with
  | some d => if isScr w s then .fail else .ok d s
  | none => .fail
def ofO {α : Type} (o : Option α) : M α := fun s => match o with
  | some a => .ok a s
  | none => .fail
/-- what is to be read: data, or a list as it stands -/
inductive Lk (K : PySem.W.Frag) (F : Fz) (H : Hp) : V → D → Prop
  | of {v : V} {d : D} : Rp K F H v d → Lk K F H v d
  | lst {a : Addr} {vs : List V} {ds : List D} : SqL K H a vs → RpAll K F H vs ds → Lk K F H (.ref a) (.list ds)
inductive LkT (K : PySem.W.Frag) (F : Fz) (H : Hp) : V → D → Prop
  | of {v : V} {d : D} : Rp K F H v d → LkT K F H v d
  | lst {a : Addr} {vs : List V} {ds : List D} : H a = some (.lst vs) → RpAll K F H vs ds → LkT K F H (.ref a) (.list ds)
section
variable {K : PySem.W.Frag} {B : Base} {F F' F1 F2 : Fz} {ρ ρ' ρ1 ρ2 : List Addr} {s s' s1 s2 : S} {σ σ' : Sg} {H H' H1 H2 : Hp} {v : V} {w : W} {p : Addr} {o : HO} {d : D}
theorem rp_ints : ∀ ns : List Int, RpAll K F H (ns.map V.int) (ns.map PyData.int)
  | [] => .nil
  | n :: ns => .cons (.int n) (rp_ints ns)
theorem LkT.lk (h : LkT K F H v d) : Lk K F H v d := by
  cases h with
  | of r => exact .of r
  | lst e r => exact .lst (SqL.of e) r
theorem contW_ok (k : Ok K B F ρ s σ H) (o : SOk K B F ρ H v w) (e : contW s.st w = some d) : Lk K F H v d ∧ (scrW w = false → LkT K F H v d) := by
  cases w with
  | val d' => cases e; exact ⟨.of o, fun _ => .of o⟩
  | own ds =>
    cases e
    obtain ⟨a, vs, rfl, h1, h2, _⟩ := o
    exact ⟨.lst (SqL.of h1) h2, fun _ => .lst h1 h2⟩
  | ref n =>
    obtain ⟨a, rfl, h1⟩ := o
    have e' : (s.st[n]?).map PyData.list = some d := e
    cases q : s.st[n]? with
    | none => rw [q] at e'; cases e'
    | some ds =>
      rw [q] at e'
      cases e'
      obtain ⟨b, vs, q1, q2, q3, q4⟩ := k.sto.at_ n ds q
      rw [h1] at q1
      cases q1
      exact ⟨.lst (SqL.of q3) q4, fun _ => .lst q3 q4⟩
  | peek i => cases e
  | scr ns =>
    cases e
    obtain ⟨a, rfl, h1⟩ := o
    exact ⟨.lst h1.sq (rp_ints ns), fun z => by cases z⟩
  | fn x => cases e
  | exc xx => cases e
theorem content_ok (k : Ok K B F ρ s σ H) (o : WOk K B F ρ s σ H v w) (e : content w s = some d) : Lk K F H v d ∧ (isScr w s = false → LkT K F H v d) := by
  cases w with
  | val d' => cases e; exact ⟨.of o, fun _ => .of o⟩
  | own ds =>
    cases e
    obtain ⟨a, vs, rfl, h1, h2, _⟩ := o
    exact ⟨.lst (SqL.of h1) h2, fun _ => .lst h1 h2⟩
  | ref n => exact contW_ok (w := .ref n) k o e
  | scr ns => exact contW_ok (w := .scr ns) k o e
  | fn x => exact contW_ok (w := .fn x) k o e
  | exc xx => exact contW_ok (w := .exc xx) k o e
  | peek i =>
    have e' : (s.env[i]?).bind (fun o => o.bind (contW s.st)) = some d := e
    cases q : s.env[i]? with
    | none => rw [q] at e'; cases e'
    | some o' =>
      cases o' with
      | none => rw [q] at e'; cases e'
      | some w' =>
        rw [q] at e'
        obtain ⟨v', h1, h2⟩ := k.env i w' q
        have o' : σ[i]? = some (some v) := o
        rw [o'] at h1
        cases h1
        have h3 := contW_ok k h2 e'
        refine ⟨h3.1, fun z => h3.2 ?_⟩
        have z' : ((s.env[i]?).bind fun o => o.map scrW).getD false = false := z
        rw [q] at z'
        exact z'
theorem Run.look {β : Type} {w : W} {k : D → M β} {ok : β → S → Prop} {er : Exc → S → Prop} (h : Run (Z.look w >>= k) s ok er) : ∃ d, content w s = some d ∧ Run (k d) s ok er := by
  have h' := Run.bind h
  unfold Run Z.look at h'
  cases e : content w s with
  | none => rw [e] at h'; exact h'.elim
  | some d => rw [e] at h'; exact ⟨d, rfl, h'⟩
theorem Run.lookT {β : Type} {w : W} {k : D → M β} {ok : β → S → Prop} {er : Exc → S → Prop} (h : Run (Z.lookT w >>= k) s ok er) : ∃ d, content w s = some d ∧ isScr w s = false ∧ Run (k d) s ok er := by
  have h' := Run.bind h
  unfold Run Z.lookT at h'
  cases e : content w s with
  | none => rw [e] at h'; exact h'.elim
  | some d =>
    rw [e] at h'
    cases q : isScr w s with
    | true => rw [q] at h'; exact h'.elim
    | false => rw [q] at h'; exact ⟨d, rfl, rfl, h'⟩
theorem Run.ofO {α : Type} {o : Option α} {ok : α → S → Prop} {er : Exc → S → Prop} (h : Run (Z.ofO o) s ok er) : ∃ a, o = some a ∧ ok a s := by
  unfold Run Z.ofO at h
  cases o with
  | none => exact h.elim
  | some a => exact ⟨a, rfl, h⟩
theorem Run.ofOb {α β : Type} {o : Option α} {k : α → M β} {ok : β → S → Prop} {er : Exc → S → Prop} (h : Run (Z.ofO o >>= k) s ok er) : ∃ a, o = some a ∧ Run (k a) s ok er := Run.ofO (Run.bind h)
end

/-! ### the judgements -/
def XOk (K : PySem.W.Frag) (mg : Str → Option Value) (F : Fz) (H : Hp) (x : Exc) (cls : Value) (d : Option Addr) : Prop :=
  ∃ C, mg x.name = some (.ref C) ∧ cls = .ref C ∧ match x.arg with
    | none => d = none
    | some (f, dd) => ∃ a v, d = some a ∧ H a = some (.xd [(f, v)]) ∧ Rp K F H v dd
def Er (K : PySem.W.Frag) (mg : Str → Option Value) (Wx : WX) (B : Base) (σ : Sg) (x : Exc) (s' : S) : Prop :=
  ∀ F' ρ' H' cls d, Ok K B F' ρ' s' σ H' → XOk K mg F' H' x cls d → Wx cls d σ H'
/-- what is known of a value behind an expression that began at s, F, ρ, H -/
def Post (K : PySem.W.Frag) (B : Base) (σ : Sg) (s : S) (F : Fz) (ρ : List Addr) (H : Hp) (Q : VK) (w : W) (s' : S) : Prop :=
  ∀ F' ρ' H' v, Ext s σ F ρ H s' F' ρ' H' → Ok K B F' ρ' s' σ H' → WOk K B F' ρ' s' σ H' v w → Fresh H v w → Q v H'
def PostB (K : PySem.W.Frag) (B : Base) (σ : Sg) (s : S) (F : Fz) (ρ : List Addr) (H : Hp) (Q : Bool → Hp → Prop) (b : Bool) (s' : S) : Prop :=
  ∀ F' ρ' H', Ext s σ F ρ H s' F' ρ' H' → Ok K B F' ρ' s' σ H' → Q b H'
inductive WAll (K : PySem.W.Frag) (B : Base) (F : Fz) (ρ : List Addr) (s : S) (σ : Sg) (H : Hp) : List V → List W → Prop
  | nil : WAll K B F ρ s σ H [] []
  | cons {v : V} {vs : List V} {w : W} {ws : List W} : WOk K B F ρ s σ H v w → WAll K B F ρ s σ H vs ws → WAll K B F ρ s σ H (v :: vs) (w :: ws)
def PostA (K : PySem.W.Frag) (B : Base) (σ : Sg) (s : S) (F : Fz) (ρ : List Addr) (H : Hp) (Q : List V → Hp → Prop) (ws : List W) (s' : S) : Prop :=
  ∀ F' ρ' H' vs, Ext s σ F ρ H s' F' ρ' H' → Ok K B F' ρ' s' σ H' → WAll K B F' ρ' s' σ H' vs ws → Q vs H'
/-- an expression, a test, arguments -/
def EM (K : PySem.W.Frag) (mg : Str → Option Value) (Wx : WX) (m : M W) : TE := fun σ H Q => ∃ B F ρ s, Ok K B F ρ s σ H ∧ Run m s (Post K B σ s F ρ H Q) (Er K mg Wx B σ)
def CM (K : PySem.W.Frag) (mg : Str → Option Value) (Wx : WX) (m : M Bool) : TT := fun σ H Q => ∃ B F ρ s, Ok K B F ρ s σ H ∧ Run m s (PostB K B σ s F ρ H Q) (Er K mg Wx B σ)
def AM (K : PySem.W.Frag) (mg : Str → Option Value) (Wx : WX) (m : M (List W)) : TA := fun σ H Q => ∃ B F ρ s, Ok K B F ρ s σ H ∧ Run m s (PostA K B σ s F ρ H Q) (Er K mg Wx B σ)
abbrev DE (X : Cx) (Wx : WX) (e : Expr) (m : M W) : Prop := PE X e (EM X.K X.mg Wx m)
abbrev DC (X : Cx) (Wx : WX) (e : Expr) (m : M Bool) : Prop := PT X e (CM X.K X.mg Wx m)
abbrev DA (X : Cx) (Wx : WX) (es : List Expr) (m : M (List W)) : Prop := PA X es (AM X.K X.mg Wx m)
theorem pe_mono {X : Cx} {e : Expr} {t t' : TE} (h : PE X e t) (k : ∀ σ H Q, t' σ H Q → t σ H Q) : PE X e t' := ⟨fun pins s σ H Q I q => h.run pins s σ H Q I (k _ _ _ q)⟩
theorem pt_mono {X : Cx} {e : Expr} {t t' : TT} (h : PT X e t) (k : ∀ σ H Q, t' σ H Q → t σ H Q) : PT X e t' := ⟨fun pins s σ H Q I q => h.run pins s σ H Q I (k _ _ _ q)⟩
theorem pw_mono {X : Cx} {e : Expr} {t t' : TT} (h : PW X e t) (k : ∀ σ H Q, t' σ H Q → t σ H Q) : PW X e t' := ⟨fun wh pins s σ H Q I q => h.run wh pins s σ H Q I (k _ _ _ q)⟩
theorem pa_mono {X : Cx} {e : List Expr} {t t' : TA} (h : PA X e t) (k : ∀ σ H Q, t' σ H Q → t σ H Q) : PA X e t' := ⟨fun pos pins s σ H Q I q => h.run pos pins s σ H Q I (k _ _ _ q)⟩
theorem ps_mono {X : Cx} {e : Stmt} {t t' : TS} (h : PS X e t) (k : ∀ D σ H, t' D σ H → t D σ H) : PS X e t' := ⟨fun pins s σ H D I q => h.run pins s σ H D I (k _ _ _ q)⟩
theorem pss_mono {X : Cx} {e : List Stmt} {t t' : TS} (h : PSs X e t) (k : ∀ D σ H, t' D σ H → t D σ H) : PSs X e t' := ⟨fun pins s σ H D I q => h.run pins s σ H D I (k _ _ _ q)⟩

section
variable {K : PySem.W.Frag} {mg : Str → Option Value} {Wx : WX} {B : Base} {F F' F1 F2 : Fz} {ρ ρ' ρ1 ρ2 : List Addr} {s s' s1 s2 : S} {σ σ' : Sg} {H H' H1 H2 : Hp} {v : V} {w : W} {p : Addr} {o : HO} {d : D} {Q : VK}
theorem Post.step {st : Store} (e : Ext s σ F ρ H s1 F1 ρ1 H1) (k : Sto K F1 ρ1 st H1) (h : Post K B σ s F ρ H Q w s') : Post K B σ s1 F1 ρ1 H1 Q w s' := fun F' ρ' H' v e' k' o' f' =>
  h F' ρ' H' v (e.trans e' k) k' o' (Fresh.back e k f')
theorem PostB.step {st : Store} {Q : Bool → Hp → Prop} {b : Bool} (e : Ext s σ F ρ H s1 F1 ρ1 H1) (k : Sto K F1 ρ1 st H1) (h : PostB K B σ s F ρ H Q b s') : PostB K B σ s1 F1 ρ1 H1 Q b s' := fun F' ρ' H' e' k' =>
  h F' ρ' H' (e.trans e' k) k'
theorem PostA.step {st : Store} {Q : List V → Hp → Prop} {ws : List W} (e : Ext s σ F ρ H s1 F1 ρ1 H1) (k : Sto K F1 ρ1 st H1) (h : PostA K B σ s F ρ H Q ws s') : PostA K B σ s1 F1 ρ1 H1 Q ws s' := fun F' ρ' H' vs e' k' o' =>
  h F' ρ' H' vs (e.trans e' k) k' o'
theorem Post.val (h : Post K B σ s F ρ H Q (.val d) s) (k : Ok K B F ρ s σ H) (r : Rp K F H v d) : Q v H := h F ρ H v .refl k r trivial
theorem Post.new {ds : List D} (h : Post K B σ s F ρ H Q (.val d) s) (k : Ok K B F ρ s σ H) (hp : H p = none) (r : Rp K F (upd H p o) v d) : Q v (upd H p o) :=
  h F ρ _ _ (Ext.new_ hp) (k.new hp) r trivial
theorem Post.tup {ds : List D} {vs : List V} (h : Post K B σ s F ρ H Q (.val (.tuple ds)) s) (k : Ok K B F ρ s σ H) (r : RpAll K F H vs ds) (hp : H p = none) : Q (.ref p) (upd H p (.tup vs)) :=
  h F ρ _ _ (Ext.new_ hp) (k.new hp) (.tup (SqT.of upd_same) (r.st (stay_upd hp) fun _ z => z)) trivial
theorem wok_new {ds : List D} {vs : List V} (k : Ok K B F ρ s σ H) (r : RpAll K F H vs ds) (hp : H p = none) : WOk K B F ρ s σ (upd H p (.lst vs)) (.ref p) (.own ds) :=
  ⟨p, vs, rfl, upd_same, r.st (stay_upd hp) fun _ z => z, k.nF hp, k.nρ hp, k.nO hp, k.fresh hp⟩
theorem Post.own {ds : List D} {vs : List V} (h : Post K B σ s F ρ H Q (.own ds) s) (k : Ok K B F ρ s σ H) (r : RpAll K F H vs ds) (hp : H p = none) : Q (.ref p) (upd H p (.lst vs)) :=
  h F ρ _ _ (Ext.new_ hp) (k.new hp) (wok_new k r hp) fun a e => by cases e; exact hp
/-- one expression, then what is done with its value -/
theorem em_un {m1 : M W} {f : W → M W} {Q : VK} {P : VK}
    (hr : ∀ {B F ρ s H x w}, Ok K B F ρ s σ H → WOk K B F ρ s σ H x w → Run (f w) s (Post K B σ s F ρ H Q) (Er K mg Wx B σ) → P x H)
    (h : EM K mg Wx (m1 >>= f) σ H Q) : EM K mg Wx m1 σ H P := by
  obtain ⟨B, F, ρ, s, k, h⟩ := h
  exact ⟨B, F, ρ, s, k, (Run.bind h).mono (fun w1 s1 _ h1 F1 ρ1 H1 x e1 k1 o1 _ => hr k1 o1 (h1.mono (fun w s' _ p => p.step e1 k1.sto) fun _ _ _ e => e)) fun _ _ _ e => e⟩
theorem em_unB {m1 : M W} {f : W → M Bool} {Q : Bool → Hp → Prop} {P : VK}
    (hr : ∀ {B F ρ s H x w}, Ok K B F ρ s σ H → WOk K B F ρ s σ H x w → Run (f w) s (PostB K B σ s F ρ H Q) (Er K mg Wx B σ) → P x H)
    (h : CM K mg Wx (m1 >>= f) σ H Q) : EM K mg Wx m1 σ H P := by
  obtain ⟨B, F, ρ, s, k, h⟩ := h
  exact ⟨B, F, ρ, s, k, (Run.bind h).mono (fun w1 s1 _ h1 F1 ρ1 H1 x e1 k1 o1 _ => hr k1 o1 (h1.mono (fun w s' _ p => p.step e1 k1.sto) fun _ _ _ e => e)) fun _ _ _ e => e⟩
theorem em_bin {m1 m2 : M W} {f : W → W → M W} {Q : VK} {P : V → V → Hp → Prop}
    (hr : ∀ {B F ρ s H x y w1 w2}, Ok K B F ρ s σ H → WOk K B F ρ s σ H x w1 → WOk K B F ρ s σ H y w2 → Run (f w1 w2) s (Post K B σ s F ρ H Q) (Er K mg Wx B σ) → P x y H)
    (h : EM K mg Wx (m1 >>= fun a => m2 >>= fun b => f a b) σ H Q) : EM K mg Wx m1 σ H fun x H1 => EM K mg Wx m2 σ H1 fun y H2 => P x y H2 := by
  obtain ⟨B, F, ρ, s, k, h⟩ := h
  refine ⟨B, F, ρ, s, k, (Run.bind h).mono (fun w1 s1 _ h1 F1 ρ1 H1 x e1 k1 o1 _ => ⟨B, F1, ρ1, s1, k1, (Run.bind h1).mono (fun w2 s2 _ h2 F2 ρ2 H2 y e2 k2 o2 _ => ?_) fun _ _ _ e => e⟩) fun _ _ _ e => e⟩
  exact hr k2 (o1.mono k1 e2) o2 (h2.mono (fun w s' _ p => p.step (e1.trans e2 k1.sto) k2.sto) fun _ _ _ e => e)
theorem em_binB {m1 m2 : M W} {f : W → W → M Bool} {Q : Bool → Hp → Prop} {P : V → V → Hp → Prop}
    (hr : ∀ {B F ρ s H x y w1 w2}, Ok K B F ρ s σ H → WOk K B F ρ s σ H x w1 → WOk K B F ρ s σ H y w2 → Run (f w1 w2) s (PostB K B σ s F ρ H Q) (Er K mg Wx B σ) → P x y H)
    (h : CM K mg Wx (m1 >>= fun a => m2 >>= fun b => f a b) σ H Q) : EM K mg Wx m1 σ H fun x H1 => EM K mg Wx m2 σ H1 fun y H2 => P x y H2 := by
  obtain ⟨B, F, ρ, s, k, h⟩ := h
  refine ⟨B, F, ρ, s, k, (Run.bind h).mono (fun w1 s1 _ h1 F1 ρ1 H1 x e1 k1 o1 _ => ⟨B, F1, ρ1, s1, k1, (Run.bind h1).mono (fun w2 s2 _ h2 F2 ρ2 H2 y e2 k2 o2 _ => ?_) fun _ _ _ e => e⟩) fun _ _ _ e => e⟩
  exact hr k2 (o1.mono k1 e2) o2 (h2.mono (fun w s' _ p => p.step (e1.trans e2 k1.sto) k2.sto) fun _ _ _ e => e)
end

/-! ### names and constants -/
section
variable {X : Cx} {Wx : WX} {pos : Pos}
theorem Run.ret {α : Type} {a : α} {s : S} {ok : α → S → Prop} {er : Exc → S → Prop} (h : Run (Pure.pure a : M α) s ok er) : ok a s := h
def eC (d : D) : M W := Pure.pure (.val d)
def eVar (i : Nat) : M W := fun s => match s.env[i]? with
  | some (some _) => .ok (.peek i) s
  | _ => .fail
theorem i_int {i j} : DE X Wx (.Constant (.int i) j pos) (eC (.int i)) := pe_mono pe_int fun σ H Q ⟨B, F, ρ, s, k, h⟩ => Post.val (Run.ret h) k (.int i)
theorem i_bool {b j} : DE X Wx (.Constant (.bool b) j pos) (eC (.bool b)) := pe_mono pe_bl fun σ H Q ⟨B, F, ρ, s, k, h⟩ => Post.val (Run.ret h) k (.bl b)
theorem i_none {j} : DE X Wx (.Constant .none j pos) (eC .none) := pe_mono pe_non fun σ H Q ⟨B, F, ρ, s, k, h⟩ => Post.val (Run.ret h) k .non
theorem i_str {x j} : DE X Wx (.Constant (.str x) j pos) (eC (.str x)) := pe_mono pe_str fun σ H Q ⟨B, F, ρ, s, k, h⟩ => Post.val (Run.ret h) k (.str x)
theorem i_var (i : Nat) {x : Str} (hN : X.N[i]? = some x := by rfl) (hv : Vis X.env.scope x := by first | exact Or.inl rfl | exact Or.inr (Or.inl rfl) | exact Or.inr (Or.inr rfl)) (hd : (x == ("__debug__" : Str)) = false := by decide)
    (hcd : (x == ("__classdict__" : Str)) = false := by decide) : DE X Wx (.Name x pos) (eVar i) := pe_mono (pe_var hN hv hd hcd) fun σ H Q ⟨B, F, ρ, s, k, h⟩ => by
  unfold Run eVar at h
  cases e : s.env[i]? with
  | none => rw [e] at h; exact h.elim
  | some o =>
    cases o with
    | none => rw [e] at h; exact h.elim
    | some w =>
      rw [e] at h
      obtain ⟨v, h1, _⟩ := k.env i w e
      exact ⟨v, h1, h F ρ H v .refl k h1 trivial⟩
/-- a constant of the module -/
theorem i_glob {x : Str} {v : V} {u : Value} {d : D} (hg : Gl X x) (hm : X.mg x = some u) (r : RelV v u) (hd : ∀ F H, Rp X.K F H v d) (hdb : (x == ("__debug__" : Str)) = false := by decide) : DE X Wx (.Name x pos) (eC d) :=
  pe_mono (pe_glob hg hm r hdb) fun σ H Q ⟨B, F, ρ, s, k, h⟩ => Post.val (Run.ret h) k (hd F H)
end

/-! ### two operands -/
def opBin (f : D → D → Option W) (m1 m2 : M W) : M W := m1 >>= fun a => m2 >>= fun b => lookT a >>= fun x => lookT b >>= fun y => ofO (f x y)
def opCmp (f : D → D → Option Bool) (m1 m2 : M W) : M Bool := m1 >>= fun a => m2 >>= fun b => look a >>= fun x => look b >>= fun y => ofO (f x y)
def opCmpV (f : D → D → Option Bool) (m1 m2 : M W) : M W := m1 >>= fun a => m2 >>= fun b => look a >>= fun x => look b >>= fun y => ofO ((f x y).map fun b => .val (.bool b))
/-- the rule r does on values what f does on data -/
def BinR (K : PySem.W.Frag) (r : R2) (f : D → D → Option W) : Prop := ∀ {B F ρ s σ H x y d1 d2 w Q}, Ok K B F ρ s σ H → LkT K F H x d1 → LkT K F H y d2 → f d1 d2 = some w → Post K B σ s F ρ H Q w s → r x y H Q
def CmpR (K : PySem.W.Frag) (r : R2) (f : D → D → Option Bool) : Prop := ∀ {F H x y d1 d2 b Q}, Lk K F H x d1 → Lk K F H y d2 → f d1 d2 = some b → Q (.bl b) H → r x y H Q
section
variable {X : Cx} {Wx : WX} {pos : Pos} {a b c : Expr} {m1 m2 m3 : M W} {r r' : R2} {f f' : D → D → Option Bool}
theorem i_bin {op : Operator} {g : D → D → Option W} (ho : OpR X (binaryOp op) r) (hr : BinR X.K r g) (ha : DE X Wx a m1) (hb : DE X Wx b m2) : DE X Wx (.BinOp a op b pos) (opBin g m1 m2) :=
  pe_mono (pe_op ho ha hb) fun σ H Q h => em_bin (P := fun x y H2 => r x y H2 Q) (fun k o1 o2 h => by
    obtain ⟨d1, e1, t1, h⟩ := Run.lookT h
    obtain ⟨d2, e2, t2, h⟩ := Run.lookT h
    obtain ⟨w, e3, h⟩ := Run.ofO h
    exact hr k ((content_ok k o1 e1).2 t1) ((content_ok k o2 e2).2 t2) e3 h) h
theorem i_cmp {op : CmpOp} (ho : OpR X (compareOp op) r) (hr : CmpR X.K r f) (ha : DE X Wx a m1) (hb : DE X Wx b m2) (hm : behindInMarks op b = false) : DE X Wx (.Compare a [op] [b] pos) (opCmpV f m1 m2) :=
  pe_mono (pe_cmpR ho ha hb hm) fun σ H Q h => em_bin (P := fun x y H2 => r x y H2 Q) (fun k o1 o2 h => by
    obtain ⟨d1, e1, h⟩ := Run.look h
    obtain ⟨d2, e2, h⟩ := Run.look h
    obtain ⟨w, e3, h⟩ := Run.ofO h
    cases e4 : f d1 d2 with
    | none => rw [e4] at e3; cases e3
    | some b =>
      rw [e4] at e3
      cases e3
      exact hr (content_ok k o1 e1).1 (content_ok k o2 e2).1 e4 (Post.val h k (.bl b))) h
theorem i_cmpT {op : CmpOp} (ho : OpR X (compareOp op) r) (hr : CmpR X.K r f) (ha : DE X Wx a m1) (hb : DE X Wx b m2) (hm : behindInMarks op b = false) : DC X Wx (.Compare a [op] [b] pos) (opCmp f m1 m2) :=
  pt_mono (pt_cmpR ho ha hb hm) fun σ H Q h => em_binB (P := fun x y H2 => r x y H2 (fun x H' => ∃ k, x = .bl k ∧ Q k H')) (fun {B F ρ s H _ _ _ _} k o1 o2 h => by
    obtain ⟨d1, e1, h⟩ := Run.look h
    obtain ⟨d2, e2, h⟩ := Run.look h
    obtain ⟨b, e3, h⟩ := Run.ofO h
    exact hr (content_ok k o1 e1).1 (content_ok k o2 e2).1 e3 ⟨b, rfl, h F ρ H .refl k⟩) h
/-- a < b < c -/
def opChainV (f f' : D → D → Option Bool) (m1 m2 m3 : M W) : M W := m1 >>= fun a => m2 >>= fun b => look a >>= fun x => look b >>= fun y => ofO (f x y) >>= fun t =>
  if t = true then m3 >>= fun c => look b >>= fun y => look c >>= fun z => ofO ((f' y z).map fun b => .val (.bool b)) else Pure.pure (.val (.bool false))
def opChain (f f' : D → D → Option Bool) (m1 m2 m3 : M W) : M Bool := m1 >>= fun a => m2 >>= fun b => look a >>= fun x => look b >>= fun y => ofO (f x y) >>= fun t =>
  if t = true then m3 >>= fun c => look b >>= fun y => look c >>= fun z => ofO (f' y z) else Pure.pure false
theorem i_chain {op op' : CmpOp} (ho : OpR X (compareOp op) r) (ho' : OpR X (compareOp op') r') (hr : CmpR X.K r f) (hr' : CmpR X.K r' f') (ha : DE X Wx a m1) (hb : DE X Wx b m2) (hc : DE X Wx c m3)
    (hm : lastMarks [op, op'] [b, c] = false := by with_unfolding_all rfl) : DE X Wx (.Compare a [op, op'] [b, c] pos) (opChainV f f' m1 m2 m3) :=
  pe_mono (pe_chain ho ho' ha hb hc hm) fun σ H Q h => em_bin (P := fun x y H2 => r x y H2 fun z H3 => ∃ k, z = .bl k ∧ (if k = true then EM X.K X.mg Wx m3 σ H3 fun w' H4 => r' y w' H4 Q else Q (.bl false) H3)) (fun {B F ρ s H _ _ _ _} k o1 o2 h => by
    obtain ⟨d1, e1, h⟩ := Run.look h
    obtain ⟨d2, e2, h⟩ := Run.look h
    obtain ⟨t, e3, h⟩ := Run.ofOb h
    refine hr (content_ok k o1 e1).1 (content_ok k o2 e2).1 e3 ⟨t, rfl, ?_⟩
    cases t with
    | false => exact iteF (Post.val (Run.ret h) k (.bl false))
    | true =>
      refine iteT ⟨B, F, ρ, s, k, (Run.bind h).mono (fun w3 s3 _ h3 F3 ρ3 H3 z e3' k3 o3 _ => ?_) fun _ _ _ e => e⟩
      obtain ⟨d2', e2', h3⟩ := Run.look h3
      obtain ⟨d3, e3'', h3⟩ := Run.look h3
      obtain ⟨w, e4, h3⟩ := Run.ofO h3
      cases e5 : f' d2' d3 with
      | none => rw [e5] at e4; cases e4
      | some b =>
        rw [e5] at e4
        cases e4
        exact hr' (content_ok k3 (o2.mono k e3') e2').1 (content_ok k3 o3 e3'').1 e5 (Post.val (h3.step e3' k3.sto) k3 (.bl b))) h
theorem i_chainT {op op' : CmpOp} (ho : OpR X (compareOp op) r) (ho' : OpR X (compareOp op') r') (hr : CmpR X.K r f) (hr' : CmpR X.K r' f') (ha : DE X Wx a m1) (hb : DE X Wx b m2) (hc : DE X Wx c m3)
    (hm : lastMarks [op, op'] [b, c] = false := by with_unfolding_all rfl) : DC X Wx (.Compare a [op, op'] [b, c] pos) (opChain f f' m1 m2 m3) :=
  pt_mono (pt_chain ho ho' ha hb hc hm) fun σ H Q h => em_binB (P := fun x y H2 => r x y H2 fun z H3 => ∃ k, z = .bl k ∧ (if k = true then EM X.K X.mg Wx m3 σ H3 fun w' H4 => r' y w' H4 (fun x H' => ∃ k, x = .bl k ∧ Q k H') else ∃ k, (V.bl false) = .bl k ∧ Q k H3)) (fun {B F ρ s H _ _ _ _} k o1 o2 h => by
    obtain ⟨d1, e1, h⟩ := Run.look h
    obtain ⟨d2, e2, h⟩ := Run.look h
    obtain ⟨t, e3, h⟩ := Run.ofOb h
    refine hr (content_ok k o1 e1).1 (content_ok k o2 e2).1 e3 ⟨t, rfl, ?_⟩
    cases t with
    | false => exact iteF ⟨false, rfl, (Run.ret h) F ρ H .refl k⟩
    | true =>
      refine iteT ⟨B, F, ρ, s, k, (Run.bind h).mono (fun w3 s3 _ h3 F3 ρ3 H3 z e3' k3 o3 _ => ?_) fun _ _ _ e => e⟩
      obtain ⟨d2', e2', h3⟩ := Run.look h3
      obtain ⟨d3, e3'', h3⟩ := Run.look h3
      obtain ⟨b, e5, h3⟩ := Run.ofO h3
      exact hr' (content_ok k3 (o2.mono k e3') e2').1 (content_ok k3 o3 e3'').1 e5 ⟨b, rfl, h3 F3 ρ3 H3 e3' k3⟩) h
end
end Z
/-! Z, part 3: operators on data. -/
namespace Z
open PySem PySem.Spec PyProof.Rows L2

/-! ### tuple * n for n ≤ 1, or the empty tuple -/
section
variable {prog : Program} {w : World}
theorem tup_mul_same (l : Addr) (items : Array Value) (n : Nat) (dd : Option Addr) (sl : Array (Option Value)) (x : Int) (u : Tok) (c0 : (decide (x < -(2 ^ 63)) || decide (x ≥ 2 ^ 63)) = false) (c1 : (items.isEmpty || x == 1) = true) :
    Meets (Builtin.«tuple.__mul__» ⟨[.ref l, .int x u], []⟩) (fun _ R s => s.heap.get? l = some { cls := .type "tuple", dict := dd, data := .seq items n, slots := sl } ∧ R (.ok (.ret (Value.ref l))) s) :=
  .of_wp fun prog w A R s h => by
    obtain ⟨hp, g, d, tk, os⟩ := s
    obtain ⟨hl, h⟩ := h
    have f1 := AutoSeq1.idx_int
    wp_walk using wpAny_loadPart' hl
    repeat (first
      | (refine wpAny_ite_false (decide_eq_false (by rw [c0]; exact Bool.false_ne_true)) ?_; wp_walk using wpAny_loadPart' hl)
      | (refine wpAny_ite_true (decide_eq_true (by rw [c1])) ?_; wp_walk using wpAny_loadPart' hl))
    exact ⟨_, rfl, h⟩
theorem tup_mul_none (l : Addr) (items : Array Value) (n : Nat) (dd : Option Addr) (sl : Array (Option Value)) (x : Int) (u : Tok) (c0 : (decide (x < -(2 ^ 63)) || decide (x ≥ 2 ^ 63)) = false) (c1 : (items.isEmpty || x == 1) = false) (c2 : (decide (x ≤ 0) || items.isEmpty) = true) :
    Meets (Builtin.«tuple.__mul__» ⟨[.ref l, .int x u], []⟩) (fun _ R s => s.heap.get? l = some { cls := .type "tuple", dict := dd, data := .seq items n, slots := sl } ∧
      R (.ok (.ret (Value.ref s.heap.objs.size))) { s with heap := s.heap.push { cls := Value.type "tuple", data := Data.seq #[] }, toks := s.toks }) :=
  .of_wp fun prog w A R s h => by
    obtain ⟨hp, g, d, tk, os⟩ := s
    obtain ⟨hl, h⟩ := h
    have f1 := AutoSeq1.idx_int
    wp_walk using wpAny_loadPart' hl
    repeat (first
      | (refine wpAny_ite_false (decide_eq_false (by rw [c0]; exact Bool.false_ne_true)) ?_; wp_walk using wpAny_loadPart' hl)
      | (refine wpAny_ite_false (decide_eq_false (by rw [c1]; exact Bool.false_ne_true)) ?_; wp_walk using wpAny_loadPart' hl)
      | (refine wpAny_ite_true (decide_eq_true (by rw [c2])) ?_; wp_walk using wpAny_loadPart' hl))
    exact ⟨_, rfl, h⟩
end
def rRepA (K : PySem.W.Frag) : R2 := fun x y H Q => ∃ l k xs, x = .ref l ∧ y = .int k ∧ SqT K H l xs ∧ -1000 ≤ k ∧ k ≤ 1000 ∧ xs.length ≤ 1000 ∧ ((xs = [] ∨ k = 1) → Q (.ref l) H) ∧ (¬ (xs = [] ∨ k = 1) → ∀ p, H p = none → Q (.ref p) (upd H p (.tup (List.replicate k.toNat xs).flatten)))
theorem op_repA {X : Cx} : OpR X (binaryOp .Mult) (rRepA X.K) := by
  intro pins s σ H x y v u Q I rx ry h
  obtain ⟨l, k, xs, rfl, rfl, hT, h0, h1, hz, q1, q2⟩ := h
  by_cases h2 : 2 ≤ k ∧ xs ≠ []
  · exact op_repT pins s σ H _ _ v u Q I rx ry ⟨l, k, xs, rfl, rfl, hT, h2.2, h2.1, h1, hz, q2 fun z => z.elim h2.2 fun z => by have := h2.1; omega⟩
  cases rx
  obtain ⟨t, rfl⟩ := ry
  obtain ⟨its, r, ⟨⟨cls, dd, data, sl⟩, ho, hc, n, hd⟩, hs⟩ := I.tuple hT
  simp only at hc hd
  subst hc hd
  have c0 : (decide (k < -(2 ^ 63)) || decide (k ≥ 2 ^ 63)) = false := by
    rw [decide_eq_false (by omega), decide_eq_false (by omega)] <;> rfl
  have hem : its.toArray.isEmpty = decide (xs = []) := by
    cases r with
    | nil => rfl
    | cons a b => simp
  refine wpAny_binaryOp_repeat_ref (T := "tuple") (U := "int") (by decide) ⟨_, ho, rfl⟩ (fun s' => typeIs_int s' k t) noFill_tuple_mul F.fills_int_mul F.slot_int_rmul repeat_tuple F.slot_int_index.lookup
    (call_meets F.slot_int_rmul (typeIs_int s k t) F.entry_int_rmul (F.args_int_rmul_2 _ _) (int_rmul_tuple k t l its.toArray n dd sl) ⟨ho, rfl, ⟨_, ho, rfl⟩, ?_⟩)
  by_cases h3 : xs = [] ∨ k = 1
  · have c1 : (its.toArray.isEmpty || k == 1) = true := by
      rw [hem]
      rcases h3 with z | z
      · rw [decide_eq_true z]; rfl
      · subst z; simp
    refine call_meets F.slot_tuple_mul ⟨_, ho, rfl⟩ F.entry_tuple_mul (F.args_tuple_mul_2 _ _) (tup_mul_same l its.toArray n dd sl k t c0 c1) ⟨ho, ?_⟩
    exact ⟨.ref l, H, I, rfl, q1 h3⟩
  · have hk : k ≤ 0 := by
      by_cases z : 2 ≤ k
      · exact absurd ⟨z, fun e => h3 (.inl e)⟩ h2
      · have : k ≠ 1 := fun e => h3 (.inr e)
        omega
    have c1 : (its.toArray.isEmpty || k == 1) = false := by
      rw [hem, decide_eq_false (fun e => h3 (.inl e))]
      exact beq_eq_false_iff_ne.mpr (by omega)
    have c2 : (decide (k ≤ 0) || its.toArray.isEmpty) = true := by rw [decide_eq_true hk]; rfl
    refine call_meets F.slot_tuple_mul ⟨_, ho, rfl⟩ F.entry_tuple_mul (F.args_tuple_mul_2 _ _) (tup_mul_none l its.toArray n dd sl k t c0 c1 c2) ⟨ho, ?_⟩
    have e0 : k.toNat = 0 := by omega
    have q := q2 h3 _ (I.hok.fresh (Nat.le_refl _))
    rw [e0] at q
    exact ⟨.ref s.heap.objs.size, _, I.laid (t' := s.toks) (o := .tup []) (fun b ob q => Heap.get?_push_of_some _ q) (Nat.le_refl _) ⟨Nat.zero_le _, [], .nil, IsTup.new _ _⟩, rfl, q⟩
/-! ### // of any divisor that is not 0, below 2 ^ 9000 -/
def CDivA (_ j : Int) : Prop := j ≠ 0 ∧ j.natAbs.log2 < 9000
theorem op_fdivA {X : Cx} : OpR X (binaryOp .FloorDiv) (rI CDivA fun i j => .int (i.fdiv j)) := opI fun i j _ _ _ _ _ hc q => floordiv_int hc.1 q (.inl (PyProof.noPylong_of_log2 hc.2))
/-! ### in, of any data -/
def rInA (K : PySem.W.Frag) (neg : Bool) : R2 := fun x y H Q => ∃ d ds, Dp K H x d ∧ (Dp K H y (.list ds) ∨ Dp K H y (.tuple ds)) ∧ SeqAt.shaped d = true ∧ SeqAt.shaped (.list ds) = true ∧ Q (.bl (if neg then !ds.any fun z => PyData.eqv z d else ds.any fun z => PyData.eqv z d)) H
theorem room_in {A : Around} {d : PyData} {ds : List PyData} (h : SeqAt.shaped d = true) (hu : A.units + 65 < cLine) : A.units + 1 + min (PyData.depthAll ds) d.depth < cLine := by
  have h1 := SeqAt.depth_of_shaped h
  have h2 : min (PyData.depthAll ds) d.depth ≤ d.depth := Nat.min_le_right _ _
  omega
theorem op_inA {X : Cx} (hu : X.A.units + 65 < cLine) : OpR X (compareOp .In) (rInA X.K false) := by
  intro pins s σ H x y v u Q I rx ry h
  obtain ⟨d, ds, hd, he, sd, se, q⟩ := h
  obtain ⟨as, r1⟩ := Dp.reads I d x v hd rx
  rcases he with he | he
  · obtain ⟨bs, r2⟩ := Dp.reads I (.list ds) y u he ry
    exact SeqAt.in_list_reads r2 r1 (SeqAt.canLay_of_shaped se) (SeqAt.canLay_of_shaped sd) (room_in sd hu) ⟨.bl _, H, I, rfl, q⟩
  · obtain ⟨bs, r2⟩ := Dp.reads I (.tuple ds) y u he ry
    exact SeqAt.in_tuple_reads r2 r1 (SeqAt.canLay_of_shaped se) (SeqAt.canLay_of_shaped sd) (room_in sd hu) ⟨.bl _, H, I, rfl, q⟩
theorem op_ninA {X : Cx} (hu : X.A.units + 65 < cLine) : OpR X (compareOp .NotIn) (rInA X.K true) := by
  intro pins s σ H x y v u Q I rx ry h
  obtain ⟨d, ds, hd, he, sd, se, q⟩ := h
  obtain ⟨as, r1⟩ := Dp.reads I d x v hd rx
  rcases he with he | he
  · obtain ⟨bs, r2⟩ := Dp.reads I (.list ds) y u he ry
    exact SeqAt.notIn_list_reads r2 r1 (SeqAt.canLay_of_shaped se) (SeqAt.canLay_of_shaped sd) (room_in sd hu) ⟨.bl _, H, I, rfl, q⟩
  · obtain ⟨bs, r2⟩ := Dp.reads I (.tuple ds) y u he ry
    exact SeqAt.notIn_tuple_reads r2 r1 (SeqAt.canLay_of_shaped se) (SeqAt.canLay_of_shaped sd) (room_in sd hu) ⟨.bl _, H, I, rfl, q⟩

/-! ### what is read, taken apart -/
section
variable {K : PySem.W.Frag} {F : Fz} {H : Hp} {v : V}
theorem Lk.dp {d : D} (h : Lk K F H v d) (n : d.hasDict = false) : Dp K H v d := by
  cases h with
  | of r => exact Rp.dp _ _ n r
  | lst e r => exact .lst e (RpAll.dp _ _ (by simpa [PyData.hasDict] using n) r)
/-- what may be compared -/
def okD (d : D) : Bool := SeqAt.shaped d && !d.hasDict
theorem okD.sh {d : D} (h : okD d = true) : SeqAt.shaped d = true := (Bool.and_eq_true_iff.mp h).1
theorem okD.nd {d : D} (h : okD d = true) : d.hasDict = false := by
  have := (Bool.and_eq_true_iff.mp h).2
  simpa using this
theorem okD.of {d : D} (h : SeqAt.shaped d = true) (n : d.hasDict = false) : okD d = true := by
  unfold okD
  rw [h, n]; rfl
theorem nd_list {ds : List D} (h : (PyData.list ds).hasDict = false) : (PyData.tuple ds).hasDict = false := by simpa [PyData.hasDict] using h
theorem Lk.int {i : Int} (h : Lk K F H v (.int i)) : v = .int i := by cases h with | of r => cases r; rfl
theorem Lk.bool {i : Bool} (h : Lk K F H v (.bool i)) : v = .bl i := by cases h with | of r => cases r; rfl
theorem Lk.str {i : Str} (h : Lk K F H v (.str i)) : v = .str i := by cases h with | of r => cases r; rfl
theorem Lk.none (h : Lk K F H v .none) : v = .non := by cases h with | of r => cases r; rfl
theorem Lk.tup {ds : List D} (h : Lk K F H v (.tuple ds)) : ∃ a vs, v = .ref a ∧ SqT K H a vs ∧ RpAll K F H vs ds := by
  cases h with | of r => cases r with | tup a b => exact ⟨_, _, rfl, a, b⟩
theorem Lk.list {ds : List D} (h : Lk K F H v (.list ds)) : ∃ a vs, v = .ref a ∧ SqL K H a vs ∧ RpAll K F H vs ds := by
  cases h with
  | of r => cases r with | lst f a b => exact ⟨_, _, rfl, SqL.of a, b⟩
  | lst e r => exact ⟨_, _, rfl, e, r⟩
theorem LkT.list {ds : List D} (h : LkT K F H v (.list ds)) : ∃ a vs, v = .ref a ∧ H a = some (.lst vs) ∧ RpAll K F H vs ds := by
  cases h with
  | of r => cases r with | lst f a b => exact ⟨_, _, rfl, a, b⟩
  | lst e r => exact ⟨_, _, rfl, e, r⟩
theorem Lk.dict (h : Lk K F H v (.dict [])) : ∃ a, v = .ref a ∧ H a = some (.dK []) := by cases h with | of r => cases r with | dct e => exact ⟨_, rfl, e⟩
end

/-! ### arithmetic -/
def addD : D → D → Option W
  | .int i, .int j => some (.val (.int (i + j)))
  | .str a, .str b => if a.length + b.length ≤ sizeLine then some (.val (.str (a ++ b))) else none
  | .tuple a, .tuple b => if a.length + b.length ≤ sizeLine then some (.val (.tuple (a ++ b))) else none
  | .list a, .list b => if a.length + b.length ≤ sizeLine then some (.own (a ++ b)) else none
  | _, _ => none
def subD : D → D → Option W
  | .int i, .int j => some (.val (.int (i - j)))
  | _, _ => none
def mulD : D → D → Option W
  | .int i, .int j => if (Builtin.Int.intBits i : Int) + (Builtin.Int.intBits j : Int) ≤ 134217728 then some (.val (.int (i * j))) else none
  | .tuple a, .int k => if -1000 ≤ k ∧ k ≤ 1000 ∧ a.length ≤ 1000 then some (.val (.tuple (List.replicate k.toNat a).flatten)) else none
  | .list a, .int k => if -1000 ≤ k ∧ k ≤ 1000 ∧ a.length ≤ 1000 then some (.own (List.replicate k.toNat a).flatten) else none
  | _, _ => none
def fdivD : D → D → Option W
  | .int i, .int j => if j ≠ 0 ∧ j.natAbs.log2 < 9000 then some (.val (.int (i.fdiv j))) else none
  | _, _ => none
def modD : D → D → Option W
  | .int i, .int j => if j ≠ 0 then some (.val (.int (i.fmod j))) else none
  | _, _ => none
def powD : D → D → Option W
  | .int i, .int j => if 0 ≤ j ∧ j ≤ 1000000 ∧ i.natAbs < 2 ^ 64 then some (.val (.int (i ^ j.toNat))) else none
  | _, _ => none
def rAdd_ (K : PySem.W.Frag) : R2 := fun x y H Q => rI0 (fun i j => .int (i + j)) x y H Q ∨ (∃ i j, x = .str i ∧ y = .str j ∧ i.length + j.length ≤ sizeLine ∧ Q (.str (i ++ j)) H) ∨ rCatA K x y H Q ∨ rCat x y H Q
def rMul_ (K : PySem.W.Frag) : R2 := fun x y H Q => rI CMulX (fun i j => .int (i * j)) x y H Q ∨ rRepA K x y H Q ∨ rRep x y H Q
theorem o_add {X : Cx} : OpR X (binaryOp .Add) (rAdd_ X.K) := op_add.or (op_add_str.or (op_catA.or op_cat))
theorem o_mul {X : Cx} : OpR X (binaryOp .Mult) (rMul_ X.K) := op_mulX.or (op_repA.or op_rep)
section
variable {K : PySem.W.Frag}
theorem b_add : BinR K (rAdd_ K) addD := by
  intro B F ρ s σ H x y d1 d2 w Q k h1 h2 e p
  unfold addD at e
  split at e
  · rename_i i j
    cases e
    exact .inl ⟨i, j, h1.lk.int, h2.lk.int, p.val k (.int _)⟩
  · rename_i a b
    split at e
    · rename_i hz
      cases e
      exact .inr (.inl ⟨a, b, h1.lk.str, h2.lk.str, hz, p.val k (.str _)⟩)
    · cases e
  · rename_i a b
    split at e
    · rename_i hz
      cases e
      obtain ⟨p1, vs, rfl, t1, r1⟩ := h1.lk.tup
      obtain ⟨p2, ws, rfl, t2, r2⟩ := h2.lk.tup
      refine .inr (.inr (.inl ⟨p1, p2, vs, ws, rfl, rfl, t1, t2, by rw [r1.length, r2.length]; exact hz, fun z => ?_, fun z1 z2 => ?_, fun z1 z2 q hq => ?_⟩))
      · subst z
        cases r1
        exact p.val k (.tup t2 r2)
      · subst z2
        cases r2
        rw [List.append_nil] at p
        exact p.val k (.tup t1 r1)
      · exact p.tup k (r1.append r2) hq
    · cases e
  · rename_i a b
    split at e
    · rename_i hz
      cases e
      obtain ⟨p1, vs, rfl, t1, r1⟩ := h1.list
      obtain ⟨p2, ws, rfl, t2, r2⟩ := h2.list
      exact .inr (.inr (.inr ⟨p1, p2, vs, ws, rfl, rfl, t1, t2, by rw [r1.length, r2.length]; exact hz, fun q hq => p.own k (r1.append r2) hq⟩))
    · cases e
  · cases e
theorem b_sub : BinR K (rI0 fun i j => .int (i - j)) subD := by
  intro B F ρ s σ H x y d1 d2 w Q k h1 h2 e p
  unfold subD at e
  split at e
  · rename_i i j
    cases e
    exact ⟨i, j, h1.lk.int, h2.lk.int, p.val k (.int _)⟩
  · cases e
theorem b_mul : BinR K (rMul_ K) mulD := by
  intro B F ρ s σ H x y d1 d2 w Q k h1 h2 e p
  unfold mulD at e
  split at e
  · rename_i i j
    split at e
    · rename_i hz
      cases e
      exact .inl ⟨i, j, h1.lk.int, h2.lk.int, hz, p.val k (.int _)⟩
    · cases e
  · rename_i a n
    split at e
    · rename_i hz
      cases e
      obtain ⟨p1, vs, rfl, t1, r1⟩ := h1.lk.tup
      obtain rfl := h2.lk.int
      refine .inr (.inl ⟨p1, n, vs, rfl, rfl, t1, hz.1, hz.2.1, by rw [r1.length]; exact hz.2.2, fun z => ?_, fun z q hq => p.tup k (r1.rep _) hq⟩)
      rcases z with z | z
      · subst z
        cases r1
        have e0 : (List.replicate n.toNat ([] : List D)).flatten = [] := by simp
        rw [e0] at p
        exact p.val k (.tup t1 .nil)
      · subst z
        have e0 : (List.replicate (1 : Int).toNat a).flatten = a := by simp
        rw [e0] at p
        exact p.val k (.tup t1 r1)
    · cases e
  · rename_i a n
    split at e
    · rename_i hz
      cases e
      obtain ⟨p1, vs, rfl, t1, r1⟩ := h1.list
      obtain rfl := h2.lk.int
      refine .inr (.inr ⟨p1, n, vs, rfl, rfl, t1, by omega, by omega, ?_, fun q hq => p.own k (r1.rep _) hq⟩)
      rw [r1.length, sizeLine_eq]
      have : a.length * n.toNat ≤ 1000 * 1000 := Nat.mul_le_mul hz.2.2 (by omega)
      omega
    · cases e
  · cases e
theorem b_fdiv : BinR K (rI CDivA fun i j => .int (i.fdiv j)) fdivD := by
  intro B F ρ s σ H x y d1 d2 w Q k h1 h2 e p
  unfold fdivD at e
  split at e
  · rename_i i j
    split at e
    · rename_i hz
      cases e
      exact ⟨i, j, h1.lk.int, h2.lk.int, hz, p.val k (.int _)⟩
    · cases e
  · cases e
theorem b_mod : BinR K (rI (fun _ j => j ≠ 0) fun i j => .int (i.fmod j)) modD := by
  intro B F ρ s σ H x y d1 d2 w Q k h1 h2 e p
  unfold modD at e
  split at e
  · rename_i i j
    split at e
    · rename_i hz
      cases e
      exact ⟨i, j, h1.lk.int, h2.lk.int, hz, p.val k (.int _)⟩
    · cases e
  · cases e
theorem b_pow : BinR K (rI CPow fun i j => .int (i ^ j.toNat)) powD := by
  intro B F ρ s σ H x y d1 d2 w Q k h1 h2 e p
  unfold powD at e
  split at e
  · rename_i i j
    split at e
    · rename_i hz
      cases e
      exact ⟨i, j, h1.lk.int, h2.lk.int, hz, p.val k (.int _)⟩
    · cases e
  · cases e
end

/-! ### comparisons -/
def eqD (d e : D) : Option Bool := if okD d && okD e then some (PyData.eqv d e) else none
def neD (d e : D) : Option Bool := if okD d && okD e then some (!PyData.eqv d e) else none
def ltD : D → D → Option Bool
  | .int i, .int j => some (decide (i < j))
  | _, _ => none
def leD : D → D → Option Bool
  | .int i, .int j => some (decide (i ≤ j))
  | _, _ => none
def gtD : D → D → Option Bool
  | .int i, .int j => some (decide (j < i))
  | _, _ => none
def geD : D → D → Option Bool
  | .int i, .int j => some (decide (j ≤ i))
  | _, _ => none
def isND : D → D → Option Bool
  | .none, .none => some true
  | _, .none => some false
  | _, _ => none
def notND : D → D → Option Bool
  | .none, .none => some false
  | _, .none => some true
  | _, _ => none
def isBD : D → D → Option Bool
  | .bool a, .bool b => some (decide (a = b))
  | _, _ => none
def notBD : D → D → Option Bool
  | .bool a, .bool b => some (!decide (a = b))
  | _, _ => none
def isD (d e : D) : Option Bool := (isND d e).or (isBD d e)
def isNotD (d e : D) : Option Bool := (notND d e).or (notBD d e)
def inD (d e : D) : Option Bool := match e with
  | .list ds => if okD d && okD (.list ds) then some (ds.any fun z => PyData.eqv z d) else none
  | .tuple ds => if okD d && okD (.list ds) then some (ds.any fun z => PyData.eqv z d) else none
  | _ => none
def ninD (d e : D) : Option Bool := (inD d e).map (!·)
def rIs_ : R2 := fun x y H Q => (y = .non ∧ Q (.bl (decide (x = .non))) H) ∨ rIsB x y H Q
def rIsNot_ : R2 := fun x y H Q => (y = .non ∧ Q (.bl (!decide (x = .non))) H) ∨ rNotB x y H Q
theorem o_is {X : Cx} : OpR X (compareOp .Is) rIs_ := op_isN.or op_isBl
theorem o_isnot {X : Cx} : OpR X (compareOp .IsNot) rIsNot_ := op_notN.or op_notBl
section
variable {K : PySem.W.Frag}
theorem c_eq : CmpR K (rEqD K) eqD := by
  intro F H x y d1 d2 b Q h1 h2 e q
  unfold eqD at e
  split at e
  · rename_i hz
    rw [Bool.and_eq_true] at hz
    cases e
    exact ⟨d1, d2, h1.dp (okD.nd hz.1), h2.dp (okD.nd hz.2), okD.sh hz.1, okD.sh hz.2, q⟩
  · cases e
theorem c_ne : CmpR K (rNeD K) neD := by
  intro F H x y d1 d2 b Q h1 h2 e q
  unfold neD at e
  split at e
  · rename_i hz
    rw [Bool.and_eq_true] at hz
    cases e
    exact ⟨d1, d2, h1.dp (okD.nd hz.1), h2.dp (okD.nd hz.2), okD.sh hz.1, okD.sh hz.2, q⟩
  · cases e
theorem c_lt : CmpR K (rI0 fun i j => .bl (decide (i < j))) ltD := by
  intro F H x y d1 d2 b Q h1 h2 e q
  unfold ltD at e
  split at e
  · cases e; exact ⟨_, _, h1.int, h2.int, q⟩
  · cases e
theorem c_le : CmpR K (rI0 fun i j => .bl (decide (i ≤ j))) leD := by
  intro F H x y d1 d2 b Q h1 h2 e q
  unfold leD at e
  split at e
  · cases e; exact ⟨_, _, h1.int, h2.int, q⟩
  · cases e
theorem c_gt : CmpR K (rI0 fun i j => .bl (decide (j < i))) gtD := by
  intro F H x y d1 d2 b Q h1 h2 e q
  unfold gtD at e
  split at e
  · cases e; exact ⟨_, _, h1.int, h2.int, q⟩
  · cases e
theorem c_ge : CmpR K (rI0 fun i j => .bl (decide (j ≤ i))) geD := by
  intro F H x y d1 d2 b Q h1 h2 e q
  unfold geD at e
  split at e
  · cases e; exact ⟨_, _, h1.int, h2.int, q⟩
  · cases e
theorem lk_notnon {F : Fz} {H : Hp} {x : V} {d : D} (h : Lk K F H x d) (n : d ≠ .none) : x ≠ .non := by
  intro e
  subst e
  cases h with | of r => cases r; exact n rfl
theorem c_is : CmpR K rIs_ isD := by
  intro F H x y d1 d2 b Q h1 h2 e q
  unfold isD isND isBD at e
  split at e
  · cases e
    obtain rfl := h1.none
    exact .inl ⟨h2.none, q⟩
  · rename_i hn
    cases e
    refine .inl ⟨h2.none, ?_⟩
    rw [decide_eq_false (lk_notnon h1 hn)]
    exact q
  · split at e
    · cases e
      exact .inr ⟨_, _, h1.bool, h2.bool, q⟩
    · cases e
theorem c_isnot : CmpR K rIsNot_ isNotD := by
  intro F H x y d1 d2 b Q h1 h2 e q
  unfold isNotD notND notBD at e
  split at e
  · cases e
    obtain rfl := h1.none
    exact .inl ⟨h2.none, q⟩
  · rename_i hn
    cases e
    refine .inl ⟨h2.none, ?_⟩
    rw [decide_eq_false (lk_notnon h1 hn)]
    exact q
  · split at e
    · cases e
      exact .inr ⟨_, _, h1.bool, h2.bool, q⟩
    · cases e
theorem c_in : CmpR K (rInA K false) inD := by
  intro F H x y d1 d2 b Q h1 h2 e q
  unfold inD at e
  split at e
  · split at e
    · rename_i hz
      rw [Bool.and_eq_true] at hz
      cases e
      exact ⟨d1, _, h1.dp (okD.nd hz.1), .inl (h2.dp (okD.nd hz.2)), okD.sh hz.1, okD.sh hz.2, q⟩
    · cases e
  · split at e
    · rename_i hz
      rw [Bool.and_eq_true] at hz
      cases e
      exact ⟨d1, _, h1.dp (okD.nd hz.1), .inr (h2.dp (nd_list (okD.nd hz.2))), okD.sh hz.1, okD.sh hz.2, q⟩
    · cases e
  · cases e
theorem c_nin : CmpR K (rInA K true) ninD := by
  intro F H x y d1 d2 b Q h1 h2 e q
  unfold ninD inD at e
  split at e
  · split at e
    · rename_i hz
      rw [Bool.and_eq_true] at hz
      cases e
      exact ⟨d1, _, h1.dp (okD.nd hz.1), .inl (h2.dp (okD.nd hz.2)), okD.sh hz.1, okD.sh hz.2, q⟩
    · cases e
  · split at e
    · rename_i hz
      rw [Bool.and_eq_true] at hz
      cases e
      exact ⟨d1, _, h1.dp (okD.nd hz.1), .inr (h2.dp (nd_list (okD.nd hz.2))), okD.sh hz.1, okD.sh hz.2, q⟩
    · cases e
  · cases e
end
end Z
/-! Z, part 4: tests, displays, subscripts, calls. -/
namespace Z
open PySem PySem.Spec PyProof.Rows L2

/-! ### truth, and, or, not, if -/
def truthD : D → Option Bool
  | .none => some false
  | .bool b => some b
  | .int i => some (i != 0)
  | .str x => if x.length ≤ sizeLine then some ((x.length : Int) != 0) else none
  | .list ds => some (!ds.isEmpty)
  | .tuple ds => some (!ds.isEmpty)
  | _ => none
theorem truth_ok {K : PySem.W.Frag} {F : Fz} {H : Hp} {v : V} {d : D} {b : Bool} (h : Lk K F H v d) (e : truthD d = some b) : TruV K v H b := by
  unfold truthD at e
  split at e
  · cases e; obtain rfl := h.none; rfl
  · cases e; obtain rfl := h.bool; rfl
  · cases e; obtain rfl := h.int; rfl
  · split at e
    · rename_i hz
      cases e; obtain rfl := h.str; exact ⟨hz, rfl⟩
    · cases e
  · cases e
    obtain ⟨a, vs, rfl, h1, h2⟩ := h.list
    refine .inl ⟨vs, h1, ?_⟩
    cases h2 <;> rfl
  · cases e
    obtain ⟨a, vs, rfl, h1, h2⟩ := h.tup
    refine .inr (.inl ⟨vs, h1, ?_⟩)
    cases h2 <;> rfl
  · cases e
def opTruth (m : M W) : M Bool := m >>= fun a => look a >>= fun d => ofO (truthD d)
def cAnd (m1 m2 : M Bool) : M Bool := m1 >>= fun b => if b = true then m2 else Pure.pure false
def cOr (m1 m2 : M Bool) : M Bool := m1 >>= fun b => if b = true then Pure.pure true else m2
def cNot (m : M Bool) : M Bool := m >>= fun b => Pure.pure (!b)
/-- what may be handed on as it is -/
def keepW : W → M W
  | .own _ => M.fail
  | w => Pure.pure w
def eAnd (m1 m2 : M W) : M W := m1 >>= fun a => look a >>= fun d => ofO (truthD d) >>= fun b => if b = true then m2 else keepW a
def eOr (m1 m2 : M W) : M W := m1 >>= fun a => look a >>= fun d => ofO (truthD d) >>= fun b => if b = true then keepW a else m2
def eNot (m : M W) : M W := m >>= fun a => look a >>= fun d => ofO ((truthD d).map fun b => .val (.bool !b))
def eIf (c : M Bool) (m1 m2 : M W) : M W := c >>= fun b => if b = true then m1 else m2
def eNeg (m : M W) : M W := m >>= fun a => look a >>= fun d => ofO (match d with | .int i => some (.val (.int (-i))) | _ => none)
section
variable {X : Cx} {Wx : WX} {pos : Pos} {a b c : Expr} {rest : List Expr} {m m1 m2 m3 : M W} {c1 c2 : M Bool}
theorem i_truth (ha : DE X Wx a m) (he : ∀ whole, isTrue a X.env whole = (do let v ← whole; standAt a.pos; holding [v] (truthy v)) := by intro _; rfl) : DC X Wx a (opTruth m) :=
  pt_mono (pt_truth ha he) fun σ H Q h => em_unB (P := fun x H' => ∃ k, TruV X.K x H' k ∧ Q k H') (fun {B F ρ s H _ _} k o h => by
    obtain ⟨d, e, h⟩ := Run.look h
    obtain ⟨b, e2, h⟩ := Run.ofO h
    exact ⟨b, truth_ok (content_ok k o e).1 e2, h F ρ H .refl k⟩) h
theorem cm_step {c1 : M Bool} {f : Bool → M Bool} {σ : Sg} {H : Hp} {Q : Bool → Hp → Prop} {P : Bool → Hp → Prop} {K : PySem.W.Frag} {mg : Str → Option Value}
    (hr : ∀ {B F ρ s H b}, Ok K B F ρ s σ H → Run (f b) s (PostB K B σ s F ρ H Q) (Er K mg Wx B σ) → P b H) (h : CM K mg Wx (c1 >>= f) σ H Q) : CM K mg Wx c1 σ H P := by
  obtain ⟨B, F, ρ, s, k, h⟩ := h
  exact ⟨B, F, ρ, s, k, (Run.bind h).mono (fun b s1 _ h1 F1 ρ1 H1 e1 k1 => hr k1 (h1.mono (fun b s' _ p => p.step e1 k1.sto) fun _ _ _ e => e)) fun _ _ _ e => e⟩
theorem cm_stepE {c1 : M Bool} {f : Bool → M W} {σ : Sg} {H : Hp} {Q : VK} {P : Bool → Hp → Prop} {K : PySem.W.Frag} {mg : Str → Option Value}
    (hr : ∀ {B F ρ s H b}, Ok K B F ρ s σ H → Run (f b) s (Post K B σ s F ρ H Q) (Er K mg Wx B σ) → P b H) (h : EM K mg Wx (c1 >>= f) σ H Q) : CM K mg Wx c1 σ H P := by
  obtain ⟨B, F, ρ, s, k, h⟩ := h
  exact ⟨B, F, ρ, s, k, (Run.bind h).mono (fun b s1 _ h1 F1 ρ1 H1 e1 k1 => hr k1 (h1.mono (fun b s' _ p => p.step e1 k1.sto) fun _ _ _ e => e)) fun _ _ _ e => e⟩
abbrev DW (X : Cx) (Wx : WX) (e : Expr) (m : M Bool) : Prop := PW X e (CM X.K X.mg Wx m)
theorem w_and1 (ha : DC X Wx a c1) : DW X Wx (.BoolOp .And [a] pos) c1 := pw_and1 ha
theorem w_or1 (ha : DC X Wx a c1) : DW X Wx (.BoolOp .Or [a] pos) c1 := pw_or1 ha
theorem w_and (ha : DC X Wx a c1) (hb : DW X Wx (.BoolOp .And (b :: rest) pos) c2) : DW X Wx (.BoolOp .And (a :: b :: rest) pos) (cAnd c1 c2) :=
  pw_mono (pw_and ha hb) fun σ H Q h => cm_step (P := fun c H1 => if c = true then CM X.K X.mg Wx c2 σ H1 Q else Q false H1) (fun {B F ρ s H b} k h => by
    cases b with
    | true => exact iteT ⟨B, F, ρ, s, k, h⟩
    | false => exact iteF ((Run.ret h) F ρ H .refl k)) h
theorem w_or (ha : DC X Wx a c1) (hb : DW X Wx (.BoolOp .Or (b :: rest) pos) c2) : DW X Wx (.BoolOp .Or (a :: b :: rest) pos) (cOr c1 c2) :=
  pw_mono (pw_or ha hb) fun σ H Q h => cm_step (P := fun c H1 => if c = true then Q true H1 else CM X.K X.mg Wx c2 σ H1 Q) (fun {B F ρ s H b} k h => by
    cases b with
    | true => exact iteT ((Run.ret h) F ρ H .refl k)
    | false => exact iteF ⟨B, F, ρ, s, k, h⟩) h
theorem i_bool_ (h : DW X Wx a c1) : DC X Wx a c1 := PW.pt h
theorem i_notT (ha : DC X Wx a c1) : DC X Wx (.UnaryOp .Not a pos) (cNot c1) :=
  pt_mono (pt_not ha) fun σ H Q h => cm_step (P := fun c H1 => Q (!c) H1) (fun {B F ρ s H b} k h => (Run.ret h) F ρ H .refl k) h
theorem i_not (ha : DE X Wx a m) : DE X Wx (.UnaryOp .Not a pos) (eNot m) :=
  pe_mono (pe_notT ha) fun σ H Q h => em_un (P := fun x H1 => ∃ k, TruV X.K x H1 k ∧ Q (.bl (!k)) H1) (fun {B F ρ s H _ _} k o h => by
    obtain ⟨d, e, h⟩ := Run.look h
    obtain ⟨w, e2, h⟩ := Run.ofO h
    cases e3 : truthD d with
    | none => rw [e3] at e2; cases e2
    | some b =>
      rw [e3] at e2
      cases e2
      exact ⟨b, truth_ok (content_ok k o e).1 e3, h.val k (.bl _)⟩) h
theorem keep_ok {K : PySem.W.Frag} {mg : Str → Option Value} {B : Base} {F : Fz} {ρ : List Addr} {s : S} {σ : Sg} {H : Hp} {x : V} {w : W} {Q : VK} (k : Ok K B F ρ s σ H) (o : WOk K B F ρ s σ H x w) (h : Run (keepW w) s (Post K B σ s F ρ H Q) (Er K mg Wx B σ)) : Q x H := by
  cases w with
  | own ds => exact h.elim
  | val d => exact (Run.ret h) F ρ H x .refl k o trivial
  | ref n => exact (Run.ret h) F ρ H x .refl k o trivial
  | peek i => exact (Run.ret h) F ρ H x .refl k o trivial
  | scr ns => exact (Run.ret h) F ρ H x .refl k o trivial
  | fn y => exact (Run.ret h) F ρ H x .refl k o trivial
  | exc xx => exact (Run.ret h) F ρ H x .refl k o trivial
theorem i_one {op} (ha : DE X Wx a m) : DE X Wx (.BoolOp op [a] pos) m := pe_one ha
theorem i_and (ha : DE X Wx a m1) (hb : DE X Wx (.BoolOp .And (b :: rest) pos) m2) : DE X Wx (.BoolOp .And (a :: b :: rest) pos) (eAnd m1 m2) :=
  pe_mono (pe_andT ha hb) fun σ H Q h => em_un (P := fun x H1 => ∃ k, TruV X.K x H1 k ∧ if k = true then EM X.K X.mg Wx m2 σ H1 Q else Q x H1) (fun {B F ρ s H _ _} k o h => by
    obtain ⟨d, e, h⟩ := Run.look h
    obtain ⟨b, e2, h⟩ := Run.ofOb h
    refine ⟨b, truth_ok (content_ok k o e).1 e2, ?_⟩
    cases b with
    | true => exact iteT ⟨B, F, ρ, s, k, h⟩
    | false => exact iteF (keep_ok k o h)) h
theorem i_or (ha : DE X Wx a m1) (hb : DE X Wx (.BoolOp .Or (b :: rest) pos) m2) : DE X Wx (.BoolOp .Or (a :: b :: rest) pos) (eOr m1 m2) :=
  pe_mono (pe_orT ha hb) fun σ H Q h => em_un (P := fun x H1 => ∃ k, TruV X.K x H1 k ∧ if k = true then Q x H1 else EM X.K X.mg Wx m2 σ H1 Q) (fun {B F ρ s H _ _} k o h => by
    obtain ⟨d, e, h⟩ := Run.look h
    obtain ⟨b, e2, h⟩ := Run.ofOb h
    refine ⟨b, truth_ok (content_ok k o e).1 e2, ?_⟩
    cases b with
    | true => exact iteT (keep_ok k o h)
    | false => exact iteF ⟨B, F, ρ, s, k, h⟩) h
theorem i_if (hc : DC X Wx c c1) (ha : DE X Wx a m1) (hb : DE X Wx b m2) : DE X Wx (.IfExp c a b pos) (eIf c1 m1 m2) :=
  pe_mono (pe_ifExp hc ha hb) fun σ H Q h => cm_stepE (P := fun c H1 => if c = true then EM X.K X.mg Wx m1 σ H1 Q else EM X.K X.mg Wx m2 σ H1 Q) (fun {B F ρ s H b} k h => by
    cases b with
    | true => exact iteT ⟨B, F, ρ, s, k, h⟩
    | false => exact iteF ⟨B, F, ρ, s, k, h⟩) h
theorem i_neg (ha : DE X Wx a m) : DE X Wx (.UnaryOp .USub a pos) (eNeg m) :=
  pe_mono (pe_un un_neg ha) fun σ H Q h => em_un (P := fun x H1 => rU (fun i => .int (-i)) x H1 Q) (fun {B F ρ s H _ _} k o h => by
    obtain ⟨d, e, h⟩ := Run.look h
    obtain ⟨w, e2, h⟩ := Run.ofO h
    cases d with
    | int i =>
      cases e2
      exact ⟨i, (content_ok k o e).1.int, h.val k (.int _)⟩
    | _ => cases e2) h
end

/-! ### arguments: what is handed over is frozen -/
def S.setEnv (s : S) (i : Nat) (o : Option W) : S := { s with env := s.env.set i o }
def escSlot (i : Nat) (s : S) : Option (Option W) → Out S W
  | some (some (.val d)) => .ok (.val d) s
  | some (some (.own ds)) => .ok (.val (.list ds)) (s.setEnv i (some (.val (.list ds))))
  | some (some (.ref n)) => .ok (.ref n) s
  | some (some (.scr ns)) => .ok (.scr ns) s
  | some (some (.fn x)) => .ok (.fn x) s
  | some (some (.exc x)) => .ok (.exc x) s
  | _ => .fail
def escW (w : W) : M W := fun s => match w with
  | .val d => .ok (.val d) s
  | .own ds => .ok (.val (.list ds)) s
  | .ref n => .ok (.ref n) s
  | .scr ns => .ok (.scr ns) s
  | .fn x => .ok (.fn x) s
  | .exc x => .ok (.exc x) s
  | .peek i => escSlot i s s.env[i]?
def aNil : M (List W) := Pure.pure []
def aCons (m : M W) (r : M (List W)) : M (List W) := m >>= fun a => escW a >>= fun w => r >>= fun ws => Pure.pure (w :: ws)
def stable : W → Bool
  | .val _ => true
  | .ref _ => true
  | .scr _ => true
  | .fn _ => true
  | .exc _ => true
  | _ => false
section
variable {K : PySem.W.Frag} {mg : Str → Option Value} {Wx : WX} {B : Base} {F F0 F' F1 F2 : Fz} {ρ ρ0 ρ' ρ1 ρ2 : List Addr} {s s0 s' s1 s2 : S} {σ σ' : Sg} {H Hs H' H1 H2 : Hp} {v : V} {w : W} {p : Addr} {o : HO} {d : D} {Q : VK}
/-- slot i, an own list, is frozen -/
theorem Ok.freezeSlot {i : Nat} {ds : List D} (k : Ok K B F ρ s σ H) (e : s.env[i]? = some (some (.own ds))) : ∃ a vs, σ[i]? = some (some (.ref a)) ∧ H a = some (.lst vs) ∧ RpAll K F H vs ds ∧ OwnedBy s σ a ∧
    Ok K B (fun b => F b ∨ b = a) ρ (s.setEnv i (some (.val (.list ds)))) σ H := by
  obtain ⟨v, e1, a, vs, e2, h1, h2, h3, h4, h5⟩ := k.env i _ e
  subst e2
  have hi : i < s.env.length := (List.getElem?_eq_some_iff.mp e).1
  refine ⟨a, vs, e1, h1, h2, ⟨i, ds, e, e1⟩, ?_⟩
  have env' : ∀ (j : Nat) (w : W), (s.env.set i (some (.val (.list ds))))[j]? = some (some w) → (j = i ∧ w = .val (.list ds)) ∨ (j ≠ i ∧ s.env[j]? = some (some w)) := fun j w e => by
    by_cases hj : j = i
    · subst hj
      rw [List.getElem?_set_self hi] at e
      cases e
      exact .inl ⟨rfl, rfl⟩
    · rw [List.getElem?_set_ne (Ne.symm hj)] at e
      exact .inr ⟨hj, e⟩
  exact {
    len := by rw [← k.len]; exact List.length_set
    base := ⟨fun b f => .inl (k.base.sub b f), k.base.rho, k.base.new, k.base.keep, fun b f => by
      rcases f with f | f
      · exact k.base.fz b f
      · rw [f]; exact .inr h5⟩
    trk := fun b f => by
      rcases f with f | f
      · exact k.trk b f
      · rw [f]; exact ⟨vs, h1⟩
    sto := ⟨k.sto.len, k.sto.nd, fun n ds' e' => by
      obtain ⟨b, ws, q1, q2, q3, q4⟩ := k.sto.at_ n ds' e'
      refine ⟨b, ws, q1, fun f => ?_, q3, q4.st stay_refl fun _ z => .inl z⟩
      rcases f with f | f
      · exact q2 f
      · subst f; exact h4 (List.mem_of_getElem? q1)⟩
    env := fun j w e' => by
      rcases env' j w e' with ⟨rfl, rfl⟩ | ⟨hj, e'⟩
      · exact ⟨.ref a, e1, .lst (.inr rfl) h1 (h2.st stay_refl fun _ z => .inl z)⟩
      · obtain ⟨v', q1, q2⟩ := k.env j w e'
        refine ⟨v', q1, ?_⟩
        cases w with
        | val d => exact Rp.st q2 stay_refl fun _ z => .inl z
        | own es =>
          obtain ⟨b, ws, p1, p2, p3, p4, p5, p6⟩ := q2
          refine ⟨b, ws, p1, p2, p3.st stay_refl (fun _ z => .inl z), fun f => ?_, p5, p6⟩
          rcases f with f | f
          · exact p4 f
          · subst f p1
            exact hj (k.sep j i es ds b e' e q1 e1)
        | ref n => exact q2
        | peek i => exact q2
        | scr ns => exact q2
        | fn x => exact q2
        | exc xx => exact ExV.st q2 stay_refl fun _ z => .inl z
    sep := fun j l ds' es' b q1 q2 q3 q4 => by
      rcases env' j _ q1 with ⟨_, q⟩ | ⟨_, q1⟩
      · cases q
      · rcases env' l _ q2 with ⟨_, q⟩ | ⟨_, q2⟩
        · cases q
        · exact k.sep j l ds' es' b q1 q2 q3 q4 }
theorem owned_set {i : Nat} {d : D} {a : Addr} (h : OwnedBy (s.setEnv i (some (.val d))) σ a) : OwnedBy s σ a := by
  obtain ⟨j, ds, e1, e2⟩ := h
  refine ⟨j, ds, ?_, e2⟩
  have e1' : (s.env.set i (some (.val d)))[j]? = some (some (.own ds)) := e1
  by_cases hj : i = j
  · subst hj
    by_cases hi : i < s.env.length
    · rw [List.getElem?_set_self hi] at e1'; cases e1'
    · rw [List.getElem?_eq_none (by rw [List.length_set]; omega)] at e1'; cases e1'
  · rw [List.getElem?_set_ne hj] at e1'; exact e1'
/-- behind an evaluation that began at s0 the value is frozen -/
theorem esc_ok {ok : W → S → Prop} {er : Exc → S → Prop} (k0 : Sto K F ρ s.st H) (e : Ext s0 σ F0 ρ0 Hs s F ρ H) (k : Ok K B F ρ s σ H) (o : WOk K B F ρ s σ H v w) (f : Fresh Hs v w) (h : Run (escW w) s ok er) :
    ∃ F' s' w', Ok K B F' ρ s' σ H ∧ Ext s0 σ F0 ρ0 Hs s' F' ρ H ∧ WOk K B F' ρ s' σ H v w' ∧ stable w' = true ∧ ok w' s' := by
  cases w with
  | val d => exact ⟨F, s, _, k, e, o, rfl, h⟩
  | ref n => exact ⟨F, s, _, k, e, o, rfl, h⟩
  | scr ns => exact ⟨F, s, _, k, e, o, rfl, h⟩
  | fn x => exact ⟨F, s, _, k, e, o, rfl, h⟩
  | exc xx => exact ⟨F, s, _, k, e, o, rfl, h⟩
  | own ds =>
    obtain ⟨a, vs, rfl, h1, h2, h3, h4, h5, h6⟩ := o
    refine ⟨_, s, .val (.list ds), k.freeze h1 h4 h5 h6, ⟨fun b z => .inl (e.sub b z), e.rho, e.new, e.keep, e.th, fun b z => ?_, e.ow⟩, .lst (.inr rfl) h1 (h2.st stay_refl fun _ z => .inl z), rfl, h⟩
    rcases z with z | z
    · exact e.fz b z
    · rw [z]; exact .inr (.inl (f a rfl))
  | peek i =>
    have o' : σ[i]? = some (some v) := o
    have h : Run (fun _ => escSlot i s s.env[i]?) s ok er := h
    cases q : s.env[i]? with
    | none => rw [q] at h; exact h.elim
    | some oo =>
      cases oo with
      | none => rw [q] at h; exact h.elim
      | some w' =>
        rw [q] at h
        cases w' with
        | val d =>
          obtain ⟨v', e1, e2⟩ := k.env i _ q
          rw [o'] at e1; cases e1
          exact ⟨F, s, .val d, k, e, e2, rfl, h⟩
        | ref n =>
          obtain ⟨v', e1, e2⟩ := k.env i _ q
          rw [o'] at e1; cases e1
          exact ⟨F, s, .ref n, k, e, e2, rfl, h⟩
        | scr ns =>
          obtain ⟨v', e1, e2⟩ := k.env i _ q
          rw [o'] at e1; cases e1
          exact ⟨F, s, .scr ns, k, e, e2, rfl, h⟩
        | fn x =>
          obtain ⟨v', e1, e2⟩ := k.env i _ q
          rw [o'] at e1; cases e1
          exact ⟨F, s, .fn x, k, e, e2, rfl, h⟩
        | exc xx =>
          obtain ⟨v', e1, e2⟩ := k.env i _ q
          rw [o'] at e1; cases e1
          exact ⟨F, s, .exc xx, k, e, e2, rfl, h⟩
        | peek j => exact h.elim
        | own ds =>
          obtain ⟨a, vs, e1, h1, h2, h3, h4⟩ := k.freezeSlot q
          rw [o'] at e1; cases e1
          refine ⟨_, _, .val (.list ds), h4, ⟨fun b z => .inl (e.sub b z), e.rho, e.new, e.keep, e.th, fun b z => ?_, fun b z => e.ow b (owned_set z)⟩, .lst (.inr rfl) h1 (h2.st stay_refl fun _ z => .inl z), rfl, h⟩
          rcases z with z | z
          · exact e.fz b z
          · rw [z]; exact .inr (.inr (e.ow a h3))
theorem fresh_stable (h : stable w = true) : Fresh H v w := by
  cases w with
  | own ds => cases h
  | _ => trivial
theorem WAll.mono {vs : List V} {ws : List W} (k : Ok K B F ρ s σ H) (x : Ext s σ F ρ H s' F' ρ' H') (h : WAll K B F ρ s σ H vs ws) : WAll K B F' ρ' s' σ H' vs ws := by
  induction h with
  | nil => exact .nil
  | cons a _ ih => exact .cons (a.mono k x) ih
end
section
variable {X : Cx} {Wx : WX} {pos : Pos} {e : Expr} {es : List Expr} {m m1 m2 : M W} {ma : M (List W)}
theorem a_nil : DA X Wx [] aNil := pa_mono pa_nil fun σ H Q ⟨B, F, ρ, s, k, h⟩ => (Run.ret h) F ρ H [] .refl k .nil
theorem cons_step {K : PySem.W.Frag} {mg : Str → Option Value} {σ : Sg} {H : Hp} {Q : List V → Hp → Prop} (h : AM K mg Wx (aCons m ma) σ H Q) : EM K mg Wx m σ H fun x H1 => AM K mg Wx ma σ H1 fun xs H2 => Q (x :: xs) H2 := by
  obtain ⟨B, F, ρ, s, k, h⟩ := h
  refine ⟨B, F, ρ, s, k, (Run.bind h).mono (fun w1 s1 _ h1 F1 ρ1 H1 x e1 k1 o1 f1 => ?_) fun _ _ _ e => e⟩
  obtain ⟨F2, s2, w2, k2, e2, o2, st2, h2⟩ := esc_ok k1.sto e1 k1 o1 f1 (Run.bind h1)
  refine ⟨B, F2, ρ1, s2, k2, (Run.bind h2).mono (fun ws s3 _ h3 F3 ρ3 H3 vs e3 k3 o3 => ?_) fun _ _ _ e => e⟩
  exact (Run.ret h3) F3 ρ3 H3 _ (e2.trans e3 k2.sto) k3 (.cons (o2.mono k2 e3) o3)
theorem a_cons (ha : DE X Wx e m) (hr : DA X Wx es ma) (hs : starEach (e :: es) X.env = (false, eval e X.env) :: starEach es X.env := by rfl) : DA X Wx (e :: es) (aCons m ma) :=
  pa_mono (pa_cons ha hr hs) fun σ H Q h => cons_step h
abbrev DK (X : Cx) (Wx : WX) (ks : List Keyword) (m : M (List W)) : Prop := PK X ks (AM X.K X.mg Wx m)
theorem k_nil : DK X Wx [] aNil := ⟨fun pos pins s σ H Q I ⟨B, F, ρ, s', k, h⟩ => pk_nil.run pos pins s σ H Q I ((Run.ret h) F ρ H [] .refl k .nil)⟩
theorem k_cons {nm : Option Str} {kpos : Pos} {kws : List Keyword} (ha : DE X Wx e m) (hr : DK X Wx kws ma) : DK X Wx (⟨nm, e, kpos⟩ :: kws) (aCons m ma) :=
  ⟨fun pos pins s σ H Q I h => (pk_cons ha hr).run pos pins s σ H Q I (cons_step h)⟩
/-! ### displays -/
def allVal : List W → Option (List D)
  | [] => some []
  | .val d :: r => (allVal r).map (d :: ·)
  | _ => none
theorem allVal_ok {K : PySem.W.Frag} {B : Base} {F : Fz} {ρ : List Addr} {s : S} {σ : Sg} {H : Hp} : ∀ {vs : List V} {ws : List W} {ds : List D}, WAll K B F ρ s σ H vs ws → allVal ws = some ds → RpAll K F H vs ds
  | _, _, _, .nil, e => by cases e; exact .nil
  | _, w :: ws, ds, .cons a b, e => by
    cases w with
    | val d =>
      have e' : (allVal ws).map (d :: ·) = some ds := e
      cases q : allVal ws with
      | none => rw [q] at e'; cases e'
      | some r =>
        rw [q] at e'
        cases e'
        exact .cons a (allVal_ok b q)
    | _ => cases e
def eTup (ma : M (List W)) : M W := ma >>= fun ws => ofO ((allVal ws).bind fun ds => if ds.length ≤ sizeLine then some (.val (.tuple ds)) else none)
def eLst (ma : M (List W)) : M W := ma >>= fun ws => ofO ((allVal ws).bind fun ds => if ds.length ≤ sizeLine then some (.own ds) else none)
/-- a list that goes into the store -/
def eNew (ma : M (List W)) : M W := ma >>= fun ws => ofO ((allVal ws).bind fun ds => if ds.length ≤ sizeLine then some ds else none) >>= fun ds s => .ok (.ref s.st.length) { s with st := s.st ++ [ds] }
theorem am_step {K : PySem.W.Frag} {mg : Str → Option Value} {σ : Sg} {H : Hp} {Q : VK} {P : List V → Hp → Prop} {f : List W → M W}
    (hr : ∀ {B F ρ s H vs ws}, Ok K B F ρ s σ H → WAll K B F ρ s σ H vs ws → Run (f ws) s (Post K B σ s F ρ H Q) (Er K mg Wx B σ) → P vs H) (h : EM K mg Wx (ma >>= f) σ H Q) : AM K mg Wx ma σ H P := by
  obtain ⟨B, F, ρ, s, k, h⟩ := h
  exact ⟨B, F, ρ, s, k, (Run.bind h).mono (fun ws s1 _ h1 F1 ρ1 H1 vs e1 k1 o1 => hr k1 o1 (h1.mono (fun w s' _ p => p.step e1 k1.sto) fun _ _ _ e => e)) fun _ _ _ e => e⟩
theorem i_tup {x1} (ha : DA X Wx es ma) : DE X Wx (.Tuple es x1 pos) (eTup ma) :=
  pe_mono (pe_tup ha) fun σ H Q h => am_step (P := fun xs H1 => xs.length ≤ sizeLine ∧ ∀ p, H1 p = none → Q (.ref p) (upd H1 p (.tup xs))) (fun {B F ρ s H vs ws} k o h => by
    obtain ⟨w, e, h⟩ := Run.ofO h
    cases q : allVal ws with
    | none => rw [q] at e; cases e
    | some ds =>
      rw [q] at e
      have e' : (if ds.length ≤ sizeLine then some (W.val (.tuple ds)) else none) = some w := e
      split at e'
      · rename_i hz
        cases e'
        have r := allVal_ok o q
        exact ⟨by rw [r.length]; exact hz, fun p hp => h.tup k r hp⟩
      · cases e') h
theorem i_lst (ha : DA X Wx es ma) : DE X Wx (.List es pos) (eLst ma) :=
  pe_mono (pe_lst ha) fun σ H Q h => am_step (P := fun xs H1 => xs.length ≤ sizeLine ∧ ∀ p, H1 p = none → Q (.ref p) (upd H1 p (.lst xs))) (fun {B F ρ s H vs ws} k o h => by
    obtain ⟨w, e, h⟩ := Run.ofO h
    cases q : allVal ws with
    | none => rw [q] at e; cases e
    | some ds =>
      rw [q] at e
      have e' : (if ds.length ≤ sizeLine then some (W.own ds) else none) = some w := e
      split at e'
      · rename_i hz
        cases e'
        have r := allVal_ok o q
        exact ⟨by rw [r.length]; exact hz, fun p hp => h.own k r hp⟩
      · cases e') h
/-- a new list joins the store -/
theorem Ok.push {K : PySem.W.Frag} {B : Base} {F : Fz} {ρ : List Addr} {s : S} {σ : Sg} {H : Hp} {p : Addr} {vs : List V} {ds : List D} (k : Ok K B F ρ s σ H) (hp : H p = none) (r : RpAll K F H vs ds) :
    Ok K B F (ρ ++ [p]) { s with st := s.st ++ [ds] } σ (upd H p (.lst vs)) := by
  have k' := k.new (o := .lst vs) hp
  have up : ∀ {b : Addr} {o : HO}, H b = some o → upd H p (.lst vs) b = some o := fun e => by rw [upd_ne (ne_of_none e hp)]; exact e
  exact {
    len := k.len
    base := ⟨k'.base.sub, by
        obtain ⟨m, e⟩ := k.base.rho
        exact ⟨m ++ [p], by rw [e, List.append_assoc]⟩, fun a h => by
        rcases List.mem_append.mp h with h | h
        · exact k.base.new a h
        · rw [List.mem_singleton.mp h]; exact .inr (k.fresh hp), k'.base.keep, k'.base.fz⟩
    trk := k'.trk
    sto := ⟨by rw [List.length_append, List.length_append, k.sto.len]; rfl, by
        refine List.nodup_append.mpr ⟨k.sto.nd, by simp, fun a ha b hb e => ?_⟩
        rw [List.mem_singleton.mp hb] at e
        exact k.nρ hp (e ▸ ha), fun n es e => by
        by_cases hn : n < s.st.length
        · rw [List.getElem?_append_left hn] at e
          obtain ⟨a, ws, e1, e2, e3, e4⟩ := k.sto.at_ n es e
          have hn' : n < ρ.length := by rw [← k.sto.len]; exact hn
          exact ⟨a, ws, by rw [List.getElem?_append_left hn']; exact e1, e2, up e3, e4.st (stay_upd hp) fun _ z => z⟩
        · have hn2 : s.st.length ≤ n := Nat.le_of_not_lt hn
          rw [List.getElem?_append_right hn2] at e
          cases hd : n - s.st.length with
          | zero =>
            rw [hd] at e
            cases e
            refine ⟨p, vs, ?_, k.nF hp, upd_same, r.st (stay_upd hp) fun _ z => z⟩
            rw [List.getElem?_append_right (by rw [← k.sto.len]; exact hn2), ← k.sto.len, hd]
            rfl
          | succ j => rw [hd] at e; cases e⟩
    env := fun i w e => by
      obtain ⟨v, e1, e2⟩ := k'.env i w e
      refine ⟨v, e1, ?_⟩
      cases w with
      | val d => exact e2
      | own es =>
        obtain ⟨a, ws, q1, q2, q3, q4, q5, q6⟩ := e2
        refine ⟨a, ws, q1, q2, q3, q4, fun h => ?_, q6⟩
        rcases List.mem_append.mp h with h | h
        · exact q5 h
        · rw [List.mem_singleton.mp h] at q1
          exact k.nO hp ⟨i, es, e, by rw [e1, q1]⟩
      | ref n =>
        obtain ⟨a, q1, q2⟩ := e2
        refine ⟨a, q1, ?_⟩
        obtain ⟨hn, _⟩ := List.getElem?_eq_some_iff.mp q2
        rw [List.getElem?_append_left hn]; exact q2
      | peek i => exact e2
      | scr ns => exact e2
      | fn x => exact e2
      | exc xx => exact e2
    sep := k.sep }
theorem i_new (ha : DA X Wx es ma) : DE X Wx (.List es pos) (eNew ma) :=
  pe_mono (pe_lst ha) fun σ H Q h => am_step (P := fun xs H1 => xs.length ≤ sizeLine ∧ ∀ p, H1 p = none → Q (.ref p) (upd H1 p (.lst xs))) (fun {B F ρ s H vs ws} k o h => by
    obtain ⟨ds, e, h⟩ := Run.ofOb h
    cases q : allVal ws with
    | none => rw [q] at e; cases e
    | some ds' =>
      rw [q] at e
      have e' : (if ds'.length ≤ sizeLine then some ds' else none) = some ds := e
      split at e'
      · rename_i hz
        cases e'
        have r := allVal_ok o q
        refine ⟨by rw [r.length]; exact hz, fun p hp => ?_⟩
        have k2 := k.push hp r
        refine h F (ρ ++ [p]) _ _ ⟨fun _ z => z, ⟨[p], rfl⟩, fun a z => ?_, fun a u e _ _ => by rw [upd_ne (ne_of_none e hp)]; exact e, fun a e => upd_none e, fun _ z => .inl z, fun _ z => z⟩ k2 ⟨p, rfl, ?_⟩ trivial
        · rcases List.mem_append.mp z with z | z
          · exact .inl z
          · rw [List.mem_singleton.mp z]; exact .inr hp
        · rw [List.getElem?_append_right (by rw [k.sto.len]; exact Nat.le_refl _), k.sto.len, Nat.sub_self]; rfl
      · cases e') h
end
end Z
/-! Z, part 5: defs, calls of defs, statements without loops. -/
namespace Z
open PySem PySem.Spec PyProof.Rows L2

/-! ### a def's promise -/
structure OkF (K : PySem.W.Frag) (F : Fz) (ρ : List Addr) (st : Store) (H : Hp) : Prop where
  trk : ∀ a, F a → ∃ xs, H a = some (.lst xs)
  sto : Sto K F ρ st H
def VOk (K : PySem.W.Frag) (F : Fz) (ρ : List Addr) (H : Hp) (v : V) : W → Prop
  | .val d => Rp K F H v d
  | .ref n => ∃ a, v = .ref a ∧ ρ[n]? = some a
  | .scr ns => ∃ a, v = .ref a ∧ ScrAt K H a ns
  | .fn x => v = .ref (He.ga K x)
  | .exc x => ExV K F H v x
  | _ => False
inductive VAll (K : PySem.W.Frag) (F : Fz) (ρ : List Addr) (H : Hp) : List V → List W → Prop
  | nil : VAll K F ρ H [] []
  | cons {v : V} {vs : List V} {w : W} {ws : List W} : VOk K F ρ H v w → VAll K F ρ H vs ws → VAll K F ρ H (v :: vs) (w :: ws)
theorem VAll.length {K : PySem.W.Frag} {F : Fz} {ρ : List Addr} {H : Hp} {vs : List V} {ws : List W} (h : VAll K F ρ H vs ws) : vs.length = ws.length := by
  induction h with
  | nil => rfl
  | cons _ _ ih => simp [ih]
theorem VAll.get {K : PySem.W.Frag} {F : Fz} {ρ : List Addr} {H : Hp} {vs : List V} {ws : List W} (h : VAll K F ρ H vs ws) : ∀ {i : Nat} {w : W}, ws[i]? = some w → ∃ v, vs[i]? = some v ∧ VOk K F ρ H v w := by
  induction h with
  | nil => intro i w e; simp at e
  | cons a _ ih =>
    intro i w e
    cases i with
    | zero => simp at e; subst e; exact ⟨_, rfl, a⟩
    | succ i =>
      obtain ⟨v, h1, h2⟩ := ih (i := i) (w := w) (by simpa using e)
      exact ⟨v, by simpa using h1, h2⟩
def ROk (K : PySem.W.Frag) (F : Fz) (ρ : List Addr) (Hs H : Hp) (v : V) : W → Prop
  | .val d => Rp K F H v d
  | .own ds => ∃ a vs, v = .ref a ∧ H a = some (.lst vs) ∧ RpAll K F H vs ds ∧ ¬ F a ∧ a ∉ ρ ∧ Hs a = none
  | .ref n => ∃ a, v = .ref a ∧ ρ[n]? = some a
  | .scr ns => ∃ a, v = .ref a ∧ ScrAt K H a ns
  | .fn x => v = .ref (He.ga K x)
  | .exc x => ExV K F H v x
  | .peek _ => False
def FRun (r : Out Store W) (ok : W → Store → Prop) (er : Exc → Store → Prop) : Prop := match r with
  | .fail => False
  | .ok w st => ok w st
  | .err x st => er x st
def spZ (K : PySem.W.Frag) (mg : Str → Option Value) (n : Nat) (f : Fn) : Sp := fun vs H Q E => ∃ F ρ st ws, vs.length = n ∧ OkF K F ρ st H ∧ VAll K F ρ H vs ws ∧
  FRun (f ws st) (fun w st' => ∀ F' ρ' v H', Fx F ρ H F' ρ' H' → OkF K F' ρ' st' H' → ROk K F' ρ' H H' v w → Q v H')
    (fun x st' => ∀ F' ρ' cls d H', Fx F ρ H F' ρ' H' → OkF K F' ρ' st' H' → XOk K mg F' H' x cls d → E cls d H')
/-! ### calls -/
def callF (n : Nat) (f : Fn) (ws : List W) : M W := fun s => if ws.length = n then (match f ws s.st with
  | .fail => .fail
  | .ok w st => .ok w { s with st := st }
  | .err x st => .err x { s with st := st }) else .fail
def eCall (n : Nat) (f : Fn) (ma : M (List W)) : M W := ma >>= callF n f
section
variable {K : PySem.W.Frag} {mg : Str → Option Value} {Wx : WX} {B : Base} {F F0 F' F1 F2 : Fz} {ρ ρ0 ρ' ρ1 ρ2 : List Addr} {s s0 s' s1 s2 : S} {σ σ' : Sg} {H Hs H' H1 H2 : Hp} {v : V} {w : W} {p : Addr} {o : HO} {d : D} {Q : VK} {st' : Store}
theorem Ok.okF (k : Ok K B F ρ s σ H) : OkF K F ρ s.st H := ⟨k.trk, k.sto⟩
theorem Ok.call (k : Ok K B F ρ s σ H) (x : Fx F ρ H F' ρ' H') (o : OkF K F' ρ' st' H') : Ok K B F' ρ' { s with st := st' } σ H' where
  len := k.len
  base := k.base.trans x k.sto
  trk := o.trk
  sto := o.sto
  env := fun i w e => by
    obtain ⟨v, e1, e2⟩ := k.env i w e
    have stay := x.stay k.sto
    refine ⟨v, e1, ?_⟩
    cases w with
    | val d => exact Rp.st e2 stay x.sub
    | own ds =>
      obtain ⟨a, vs, q1, q2, q3, q4, q5, q6⟩ := e2
      refine ⟨a, vs, q1, x.keep a _ q2 q5, q3.st stay x.sub, fun f => ?_, fun f => ?_, q6⟩
      · rcases x.fz a f with f | f
        · exact q4 f
        · rw [q2] at f; cases f
      · rcases x.new a f with f | f
        · exact q5 f
        · rw [q2] at f; cases f
    | ref n =>
      obtain ⟨a, q1, q2⟩ := e2
      obtain ⟨m, em⟩ := x.rho
      refine ⟨a, q1, ?_⟩
      rw [em]
      obtain ⟨hn, _⟩ := List.getElem?_eq_some_iff.mp q2
      rw [List.getElem?_append_left hn]; exact q2
    | peek i => exact e2
    | scr ns =>
      obtain ⟨a, q1, q2⟩ := e2
      exact ⟨a, q1, q2.mono stay⟩
    | fn x => exact e2
    | exc xx => exact ExV.st e2 stay x.sub
  sep := k.sep
theorem Fx.ext (x : Fx F ρ H F' ρ' H') (o : OkF K F' ρ' st' H') : Ext s σ F ρ H { s with st := st' } F' ρ' H' :=
  ⟨x.sub, x.rho, x.new, fun a o e n _ => x.keep a o e n, fun a e => x.there o.sto e, fun a f => (x.fz a f).elim .inl fun z => .inr (.inl z), fun _ h => h⟩
theorem ROk.wok (k : Ok K B F ρ s σ H) (x : Fx F ρ H F' ρ' H') (o : OkF K F' ρ' st' H') (r : ROk K F' ρ' H H' v w) : WOk K B F' ρ' { s with st := st' } σ H' v w ∧ Fresh H v w := by
  cases w with
  | val d => exact ⟨r, trivial⟩
  | own ds =>
    obtain ⟨a, vs, rfl, h1, h2, h3, h4, h5⟩ := r
    exact ⟨⟨a, vs, rfl, h1, h2, h3, h4, fun z => k.nO h5 z, k.fresh h5⟩, fun b e => by cases e; exact h5⟩
  | ref n => exact ⟨r, trivial⟩
  | peek i => exact r.elim
  | scr ns => exact ⟨r, trivial⟩
  | fn x => exact ⟨r, trivial⟩
  | exc xx => exact ⟨r, trivial⟩
theorem vok_of (h : WOk K B F ρ s σ H v w) (st : stable w = true) : VOk K F ρ H v w := by
  cases w with
  | val d => exact h
  | ref n => exact h
  | scr ns => exact h
  | fn x => exact h
  | exc xx => exact h
  | own ds => cases st
  | peek i => cases st
end
/-- stable arguments -/
inductive WSt : List W → Prop
  | nil : WSt []
  | cons {w : W} {ws : List W} : stable w = true → WSt ws → WSt (w :: ws)
theorem vall_of {K : PySem.W.Frag} {B : Base} {F : Fz} {ρ : List Addr} {s : S} {σ : Sg} {H : Hp} {vs : List V} {ws : List W} (h : WAll K B F ρ s σ H vs ws) (hs : WSt ws) : VAll K F ρ H vs ws := by
  induction h with
  | nil => exact .nil
  | cons a _ ih =>
    cases hs with
    | cons b c => exact .cons (vok_of a b) (ih c)
def stAll : List W → Bool
  | [] => true
  | w :: ws => stable w && stAll ws
theorem stAll_ok : ∀ {ws : List W}, stAll ws = true → WSt ws
  | [], _ => .nil
  | w :: ws, h => by
    have h' : (stable w && stAll ws) = true := h
    rw [Bool.and_eq_true] at h'
    exact .cons h'.1 (stAll_ok h'.2)
def callS (n : Nat) (f : Fn) (ws : List W) : M W := if stAll ws = true then callF n f ws else M.fail
def eCallS (n : Nat) (f : Fn) (ma : M (List W)) : M W := ma >>= callS n f
section
variable {X : Cx} {Wx : WX} {k : Nat} {f : Addr} {fd : FuncData} {ps : List Str} {fs : Fn} {x : Str} {p pos : Pos} {e : Expr} {es : List Expr} {ma mk : M (List W)} {n : Nat}
theorem call_step {B : Base} {F : Fz} {ρ : List Addr} {s : S} {σ : Sg} {H : Hp} {vs : List V} {ws : List W} {Q : VK} {K : PySem.W.Frag} {mg : Str → Option Value} (kk : Ok K B F ρ s σ H) (o : WAll K B F ρ s σ H vs ws)
    (h : Run (callS n fs ws) s (Post K B σ s F ρ H Q) (Er K mg Wx B σ)) : spZ K mg n fs vs H Q (WE Wx σ) := by
  unfold callS at h
  split at h
  · rename_i hst
    have va := vall_of o (stAll_ok hst)
    unfold Run callF at h
    by_cases hn : ws.length = n
    · rw [if_pos hn] at h
      refine ⟨F, ρ, s.st, ws, va.length.trans hn, kk.okF, va, ?_⟩
      unfold FRun
      cases q : fs ws s.st with
      | fail => rw [q] at h; exact h.elim
      | ok w st' =>
        rw [q] at h
        intro F' ρ' v H' fx okf ro
        obtain ⟨h1, h2⟩ := ROk.wok (st' := st') kk fx okf ro
        exact h F' ρ' H' v (fx.ext okf) (kk.call fx okf) h1 h2
      | err x st' =>
        rw [q] at h
        intro F' ρ' cls d H' fx okf xo
        exact h F' ρ' H' cls d (kk.call fx okf) xo
    · rw [if_neg hn] at h; exact h.elim
  · exact h.elim
theorem i_call (G : FnOk X.prog X.w X.K X.mg X.base (L2.CX X.prog X.w) k f fd ps (spZ X.K X.mg n fs)) (hr : Room k X.A) (hm : X.mg x = some (.ref f)) (hk : PySem.W.keepIn X.K (.ref f) = true) (hb : Binds X.K fd ps []) (tk : Takes X Wx)
    (ha : DA X Wx (e :: es) ma) (hg : Gl X x := by rfl) (hdb : (x == ("__debug__" : Str)) = false := by decide) (he : starEach (e :: es) X.env = (false, eval e X.env) :: starEach es X.env := by rfl) (hpl : (backTo pos (starEach es X.env)).any (·.1) = false := by rfl) :
    DE X Wx (.Call (.Name x p) (e :: es) [] pos) (eCallS n fs ma) :=
  pe_mono (pe_callS (E := WE Wx) G hr hg hm hk hb (fun σ => passAt tk σ) ha hdb he hpl) fun σ H Q h => am_step (P := fun vs H1 => spZ X.K X.mg n fs vs H1 Q (WE Wx σ)) (fun kk o h => call_step kk o h) h
end
/-! ### a def's body -/
inductive SR where
  | next | brk | cont | ret (w : W)
/-- from one state of a body to a later one: what is frozen or fixed stays -/
structure SX (F : Fz) (H : Hp) (F' : Fz) (H' : Hp) : Prop where
  sub : ∀ a, F a → F' a
  stay : Stay F H H'
theorem SX.refl {F : Fz} {H : Hp} : SX F H F H := ⟨fun _ h => h, stay_refl⟩
theorem SX.trans {F F1 F2 : Fz} {H H1 H2 : Hp} (a : SX F H F1 H1) (b : SX F1 H1 F2 H2) : SX F H F2 H2 :=
  ⟨fun x h => b.sub x (a.sub x h), fun x o e q => b.stay x o (a.stay x o e q) (q.elim (fun z => .inl (a.sub x z)) .inr)⟩
theorem SX.rp {K : PySem.W.Frag} {F F' : Fz} {H H' : Hp} {v : V} {d : D} (x : SX F H F' H') (h : Rp K F H v d) : Rp K F' H' v d := Rp.st h x.stay x.sub
theorem SX.rpAll {K : PySem.W.Frag} {F F' : Fz} {H H' : Hp} {vs : List V} {ds : List D} (x : SX F H F' H') (h : RpAll K F H vs ds) : RpAll K F' H' vs ds := h.st x.stay x.sub
theorem Ok.sx {K : PySem.W.Frag} {B : Base} {F F' : Fz} {ρ ρ' : List Addr} {s s' : S} {σ : Sg} {H H' : Hp} (k : Ok K B F ρ s σ H) (x : Ext s σ F ρ H s' F' ρ' H') : SX F H F' H' := ⟨x.sub, k.stay x⟩
def BEnd (K : PySem.W.Frag) (B : Base) (F : Fz) (H : Hp) (D : Ends) (r : SR) (s' : S) : Prop := ∀ F' ρ' H' σ', SX F H F' H' → Ok K B F' ρ' s' σ' H' → match r with
  | .next => D.nx σ' H'
  | .brk => D.bk σ' H'
  | .cont => D.ct σ' H'
  | .ret w => ∀ v, ROk K F' ρ' B.H H' v w → D.rt v H'
def BEr (K : PySem.W.Frag) (mg : Str → Option Value) (Wx : WX) (B : Base) (x : Exc) (s' : S) : Prop := ∀ F' ρ' H' σ' cls d, Ok K B F' ρ' s' σ' H' → XOk K mg F' H' x cls d → Wx cls d σ' H'
def BM (K : PySem.W.Frag) (mg : Str → Option Value) (Wx : WX) (m : M SR) : TS := fun D σ H => ∃ B F ρ s, Ok K B F ρ s σ H ∧ Run m s (BEnd K B F H D) (BEr K mg Wx B)
abbrev DS (X : Cx) (Wx : WX) (st : Stmt) (m : M SR) : Prop := PS X st (BM X.K X.mg Wx m)
abbrev DB (X : Cx) (Wx : WX) (st : List Stmt) (m : M SR) : Prop := PSs X st (BM X.K X.mg Wx m)
def fnOf (nN : Nat) (mb : M SR) : Fn := fun ws st => match mb ⟨ws.map some ++ List.replicate (nN - ws.length) none, st⟩ with
  | .fail => .fail
  | .ok r s' => (match r with
    | .next => .ok (.val .none) s'.st
    | .ret w => .ok w s'.st
    | _ => .fail)
  | .err x s' => .err x s'.st
theorem body_ok {K : PySem.W.Frag} {mg : Str → Option Value} {N : List Str} {n : Nat} {mb : M SR} {vs : List V} {H : Hp} {Q : VK} {E : XK} (hn : n ≤ N.length) (h : spZ K mg n (fnOf N.length mb) vs H Q E) :
    BM K mg (fun cls d _ H => E cls d H) mb { nx := fun _ H' => Q .non H', rt := Q } (L2.start N vs) H := by
  obtain ⟨F, ρ, st, ws, hl, okf, va, h⟩ := h
  have hvw := va.length
  refine ⟨⟨F, ρ, H⟩, F, ρ, ⟨ws.map some ++ List.replicate (N.length - ws.length) none, st⟩, ?_, ?_⟩
  · have envs : ∀ (i : Nat) (w : W), (ws.map some ++ List.replicate (N.length - ws.length) none)[i]? = some (some w) → ws[i]? = some w := fun i w e => by
      by_cases hi : i < ws.length
      · rw [List.getElem?_append_left (by simpa using hi), List.getElem?_map] at e
        cases q : ws[i]? with
        | none => rw [q] at e; cases e
        | some w' => rw [q] at e; cases e; rfl
      · rw [List.getElem?_append_right (by simpa using Nat.le_of_not_lt hi)] at e
        have := List.mem_of_getElem? e
        simp at this
    exact {
      len := by
        unfold L2.start
        simp only [List.length_append, List.length_map, List.length_replicate]
        omega
      base := .refl
      trk := okf.trk
      sto := okf.sto
      env := fun i w e => by
        obtain ⟨v, e1, e2⟩ := va.get (envs i w e)
        refine ⟨v, ?_, ?_⟩
        · unfold L2.start
          have hi : i < vs.length := (List.getElem?_eq_some_iff.mp e1).1
          rw [List.getElem?_append_left (by simpa using hi), List.getElem?_map, e1]
          rfl
        · cases w with
          | val d => exact e2
          | ref n => exact e2
          | scr ns => exact e2
          | fn x => exact e2
          | exc xx => exact e2
          | own ds => exact e2.elim
          | peek j => exact e2.elim
      sep := fun i j ds es a e1 _ _ _ => by
        obtain ⟨v, _, e2⟩ := va.get (envs i _ e1)
        exact e2.elim }
  · unfold FRun fnOf at h
    unfold Run
    cases q : mb ⟨ws.map some ++ List.replicate (N.length - ws.length) none, st⟩ with
    | fail => rw [q] at h; exact h.elim
    | err x s' =>
      rw [q] at h
      intro F' ρ' H' σ' cls d k xo
      exact h F' ρ' cls d H' k.base k.okF xo
    | ok r s' =>
      rw [q] at h
      cases r with
      | next =>
        intro F' ρ' H' σ' _ k
        exact h F' ρ' .non H' k.base k.okF .non
      | brk => exact h.elim
      | cont => exact h.elim
      | ret w =>
        intro F' ρ' H' σ' _ k v ro
        exact h F' ρ' v H' k.base k.okF ro
theorem fn_ok {P : Program} {w : World} {K : PySem.W.Frag} {mg : Str → Option Value} {base : Heap} {x qual : Str} {st : Stmt} {f : Addr} {fd : FuncData} {N ps : List Str} {k n : Nat} {mb : M SR} (G : Fun K x qual st f fd) (Sc : FnScope N ps (defScope st)) (hps : n = ps.length) (hn : n ≤ N.length)
    (hbody : ∀ (cdv : Value) (A : Around) (outer : List Env) (s : Shared) (H : Hp) (E : XK), Room k (A.deeper (envOfC qual (defScope st) s.heap.objs.size f cdv)) →
      Takes (cxOf (L2.CX P w) P w K mg base N qual (defScope st) f cdv A outer s H E) (fun cls d _ H => E cls d H) →
      DB (cxOf (L2.CX P w) P w K mg base N qual (defScope st) f cdv A outer s H E) (fun cls d _ H => E cls d H) (defBody st) mb) :
    FnOk P w K mg base (L2.CX P w) (k + 1) f fd ps (spZ K mg n (fnOf N.length mb)) :=
  G.okX Sc (fun vs H Q E h => by obtain ⟨_, _, _, _, e, _⟩ := h; rw [e, hps]) fun cdv A outer s H vs Q E hr h =>
    ⟨_, hbody cdv A outer s H E hr (takes_of rfl rfl rfl rfl), body_ok hn h⟩
/-! ### statements -/
def seq (m1 m2 : M SR) : M SR := m1 >>= fun r => match r with
  | .next => m2
  | r => Pure.pure r
def sNext : M SR := Pure.pure .next
def sBrk : M SR := Pure.pure .brk
def sCont : M SR := Pure.pure .cont
def sFail : M SR := M.fail
def sIf (c : M Bool) (m1 m2 : M SR) : M SR := c >>= fun b => if b = true then m1 else m2
def sExpr (m : M W) : M SR := m >>= fun _ => Pure.pure .next
def retSlot (i : Nat) (s : S) : Option (Option W) → Out S SR
  | some (some (.val d)) => .ok (.ret (.val d)) s
  | some (some (.own ds)) => .ok (.ret (.own ds)) (s.setEnv i none)
  | some (some (.ref n)) => .ok (.ret (.ref n)) s
  | some (some (.scr ns)) => .ok (.ret (.scr ns)) s
  | some (some (.fn x)) => .ok (.ret (.fn x)) s
  | some (some (.exc x)) => .ok (.ret (.exc x)) s
  | _ => .fail
def retW (w : W) : M SR := fun s => match w with
  | .peek i => retSlot i s s.env[i]?
  | w => .ok (.ret w) s
def sRet (m : M W) : M SR := m >>= retW
def sRetN : M SR := Pure.pure (.ret (.val .none))
/-- a slot is stored -/
def setW (i : Nat) (w : W) : M Unit := fun s => if i < s.env.length then .ok () (s.setEnv i (some w)) else .fail
def asgW (i : Nat) (w : W) : M Unit := match w with
  | .own ds => setW i (.own ds)
  | w => escW w >>= setW i
def sAsg (i : Nat) (m : M W) : M SR := m >>= fun w => asgW i w >>= fun _ => Pure.pure .next
section
variable {K : PySem.W.Frag} {mg : Str → Option Value} {Wx : WX} {B : Base} {F F0 F' F1 F2 : Fz} {ρ ρ0 ρ' ρ1 ρ2 : List Addr} {s s0 s' s1 s2 : S} {σ σ' : Sg} {H Hs H' H1 H2 : Hp} {v : V} {w : W} {p : Addr} {o : HO} {d : D} {Q : VK} {i : Nat}
theorem env_set {env : List (Option W)} {i j : Nat} {o : Option W} {w : W} (e : (env.set i o)[j]? = some (some w)) : (j = i ∧ o = some w) ∨ (j ≠ i ∧ env[j]? = some (some w)) := by
  by_cases hj : j = i
  · subst hj
    by_cases hl : j < env.length
    · rw [List.getElem?_set_self hl] at e
      cases e
      exact .inl ⟨rfl, rfl⟩
    · rw [List.getElem?_eq_none (by rw [List.length_set]; omega)] at e; cases e
  · rw [List.getElem?_set_ne (Ne.symm hj)] at e
    exact .inr ⟨hj, e⟩
/-- a slot forgotten -/
theorem Ok.clear (k : Ok K B F ρ s σ H) (i : Nat) : Ok K B F ρ (s.setEnv i none) σ H where
  len := by rw [← k.len]; exact List.length_set
  base := k.base
  trk := k.trk
  sto := k.sto
  env := fun j w e => by
    rcases env_set e with ⟨_, e⟩ | ⟨_, e⟩
    · cases e
    · exact k.env j w e
  sep := fun j l ds es a e1 e2 e3 e4 => by
    rcases env_set e1 with ⟨_, e⟩ | ⟨_, e1⟩
    · cases e
    · rcases env_set e2 with ⟨_, e⟩ | ⟨_, e2⟩
      · cases e
      · exact k.sep j l ds es a e1 e2 e3 e4
/-- a slot stored -/
theorem Ok.store (k : Ok K B F ρ s σ H) (hi : i < s.env.length) (so : SOk K B F ρ H v w) (no : ∀ ds a, w = .own ds → v = .ref a → ¬ OwnedBy s σ a) : Ok K B F ρ (s.setEnv i (some w)) (σ.set i (some v)) H where
  len := by
    show (s.env.set i (some w)).length = (σ.set i (some v)).length
    rw [List.length_set, List.length_set]
    exact k.len
  base := k.base
  trk := k.trk
  sto := k.sto
  env := fun j w' e => by
    rcases env_set e with ⟨hj, e⟩ | ⟨hj, e⟩
    · cases e
      subst hj
      exact ⟨v, List.getElem?_set_self (by rw [← k.len]; exact hi), so⟩
    · obtain ⟨v', e1, e2⟩ := k.env j w' e
      exact ⟨v', by rw [List.getElem?_set_ne (Ne.symm hj)]; exact e1, e2⟩
  sep := fun j l ds es a e1 e2 e3 e4 => by
    rcases env_set e1 with ⟨hj, g1⟩ | ⟨hj, g1⟩
    · rcases env_set e2 with ⟨hl, g2⟩ | ⟨hl, g2⟩
      · exact hj.trans hl.symm
      · cases g1
        subst hj
        rw [List.getElem?_set_self (by rw [← k.len]; exact hi)] at e3
        rw [List.getElem?_set_ne (Ne.symm hl)] at e4
        cases e3
        exact absurd ⟨l, es, g2, e4⟩ (no ds a rfl rfl)
    · rw [List.getElem?_set_ne (Ne.symm hj)] at e3
      rcases env_set e2 with ⟨hl, g2⟩ | ⟨hl, g2⟩
      · cases g2
        subst hl
        rw [List.getElem?_set_self (by rw [← k.len]; exact hi)] at e4
        cases e4
        exact absurd ⟨j, ds, g1, e3⟩ (no es a rfl rfl)
      · rw [List.getElem?_set_ne (Ne.symm hl)] at e4
        exact k.sep j l ds es a g1 g2 e3 e4
theorem sok_of (h : WOk K B F ρ s σ H v w) (st : stable w = true) : SOk K B F ρ H v w := by
  cases w with
  | val d => exact h
  | ref n => exact h
  | scr ns => exact h
  | fn x => exact h
  | exc xx => exact h
  | own ds => cases st
  | peek i => cases st
/-- x = value -/
theorem asg_ok {ok : Unit → S → Prop} {er : Exc → S → Prop} (e : Ext s0 σ F0 ρ0 Hs s F ρ H) (k : Ok K B F ρ s σ H) (o : WOk K B F ρ s σ H v w) (f : Fresh Hs v w) (h : Run (asgW i w) s ok er) : ∃ F' s', (∀ a, F0 a → F' a) ∧ Ok K B F' ρ s' (σ.set i (some v)) H ∧ ok () s' := by
  have setc : ∀ {F' : Fz} {s' : S} {w' : W}, (∀ a, F0 a → F' a) → Ok K B F' ρ s' σ H → SOk K B F' ρ H v w' → (∀ ds a, w' = .own ds → v = .ref a → ¬ OwnedBy s' σ a) → Run (setW i w') s' ok er → ∃ F'' s'', (∀ a, F0 a → F'' a) ∧ Ok K B F'' ρ s'' (σ.set i (some v)) H ∧ ok () s'' := by
    intro F' s' w' hs k' so no h'
    unfold Run setW at h'
    by_cases hi : i < s'.env.length
    · rw [if_pos hi] at h'
      exact ⟨F', _, hs, k'.store hi so no, h'⟩
    · rw [if_neg hi] at h'; exact h'.elim
  have other : stable w = true ∨ (∃ j, w = .peek j) → Run (escW w >>= setW i) s ok er → ∃ F' s', (∀ a, F0 a → F' a) ∧ Ok K B F' ρ s' (σ.set i (some v)) H ∧ ok () s' := fun _ h => by
    obtain ⟨F', s', w', k', e', o', st', h'⟩ := esc_ok k.sto e k o f (Run.bind h)
    exact setc e'.sub k' (sok_of o' st') (fun ds a e _ => by subst e; cases st') h'
  cases w with
  | own ds =>
    obtain ⟨a, vs, rfl, h1, h2, h3, h4, h5, h6⟩ := o
    exact setc (w' := .own ds) e.sub k ⟨a, vs, rfl, h1, h2, h3, h4, h6⟩ (fun ds' a' _ e => by cases e; exact h5) h
  | val d => exact other (.inl rfl) h
  | ref n => exact other (.inl rfl) h
  | scr ns => exact other (.inl rfl) h
  | fn x => exact other (.inl rfl) h
  | exc xx => exact other (.inl rfl) h
  | peek j => exact other (.inr ⟨j, rfl⟩) h
theorem ret_ok {D : Ends} {er : Exc → S → Prop} (x : SX F0 Hs F H) (k : Ok K B F ρ s σ H) (o : WOk K B F ρ s σ H v w) (h : Run (retW w) s (BEnd K B F0 Hs D) er) : D.rt v H := by
  cases w with
  | val d => exact h F ρ H σ x k v o
  | ref n => exact h F ρ H σ x k v o
  | scr ns => exact h F ρ H σ x k v o
  | fn y => exact h F ρ H σ x k v o
  | exc xx => exact h F ρ H σ x k v o
  | own ds =>
    obtain ⟨a, vs, rfl, h1, h2, h3, h4, h5, h6⟩ := o
    exact h F ρ H σ x k _ ⟨a, vs, rfl, h1, h2, h3, h4, h6⟩
  | peek i =>
    have o' : σ[i]? = some (some v) := o
    have h : Run (fun _ => retSlot i s s.env[i]?) s (BEnd K B F0 Hs D) er := h
    cases q : s.env[i]? with
    | none => rw [q] at h; exact h.elim
    | some oo =>
      cases oo with
      | none => rw [q] at h; exact h.elim
      | some w' =>
        rw [q] at h
        obtain ⟨v', e1, e2⟩ := k.env i _ q
        rw [o'] at e1; cases e1
        cases w' with
        | val d => exact h F ρ H σ x k v e2
        | ref n => exact h F ρ H σ x k v e2
        | scr ns => exact h F ρ H σ x k v e2
        | fn y => exact h F ρ H σ x k v e2
        | exc xx => exact h F ρ H σ x k v e2
        | peek j => exact h.elim
        | own ds => exact h F ρ H σ x (k.clear i) v e2
end
section
variable {X : Cx} {Wx : WX} {pos : Pos} {e : Expr} {es : List Expr} {m m1 m2 : M W} {ma : M (List W)} {st : Stmt} {rest a b : List Stmt} {b1 b2 : M SR} {c1 : M Bool}
theorem b_nil : DB X Wx [] sNext := pss_mono pss_nil fun D σ H ⟨B, F, ρ, s, k, h⟩ => (Run.ret h) F ρ H σ .refl k
theorem b_one (h : DS X Wx st b1) : DB X Wx [st] b1 := pss_mono (pss_one h) fun D σ H h => h
theorem b_cons (h1 : DS X Wx st b1) (h2 : DB X Wx rest b2) : DB X Wx (st :: rest) (seq b1 b2) :=
  pss_mono (pss_cons h1 h2) fun D σ H ⟨B, F, ρ, s, k, h⟩ => ⟨B, F, ρ, s, k, (Run.bind h).mono (fun r s1 _ h1 => by
    cases r with
    | next => exact fun F' ρ' H' σ' x k' => ⟨B, F', ρ', s1, k', h1.mono (fun r s' _ z F2 ρ2 H2 σ2 x2 k2 => z F2 ρ2 H2 σ2 (x.trans x2) k2) fun _ _ _ e => e⟩
    | brk => exact h1
    | cont => exact h1
    | ret w => exact h1) fun _ _ _ e => e⟩
theorem s_pass : DS X Wx (.Pass pos) sNext := ps_mono ps_pass fun D σ H ⟨B, F, ρ, s, k, h⟩ => (Run.ret h) F ρ H σ .refl k
theorem s_break : DS X Wx (.Break pos) sBrk := ps_mono ps_break fun D σ H ⟨B, F, ρ, s, k, h⟩ => (Run.ret h) F ρ H σ .refl k
theorem s_continue : DS X Wx (.Continue pos) sCont := ps_mono ps_continue fun D σ H ⟨B, F, ρ, s, k, h⟩ => (Run.ret h) F ρ H σ .refl k
theorem s_never : DS X Wx st sFail := ps_mono ps_never fun D σ H ⟨B, F, ρ, s, k, h⟩ => h
theorem s_if {c : Expr} (hc : DC X Wx c c1) (ha : DB X Wx a b1) (hb : DB X Wx b b2) : DS X Wx (.If c a b pos) (sIf c1 b1 b2) :=
  ps_mono (ps_if hc ha hb) fun D σ H ⟨B, F, ρ, s, k, h⟩ => ⟨B, F, ρ, s, k, (Run.bind h).mono (fun b s1 _ h1 F1 ρ1 H1 e1 k1 => by
    cases b with
    | true => exact iteT ⟨B, F1, ρ1, s1, k1, h1.mono (fun r s' _ z F2 ρ2 H2 σ2 x2 k2 => z F2 ρ2 H2 σ2 ((k.sx e1).trans x2) k2) fun _ _ _ e => e⟩
    | false => exact iteF ⟨B, F1, ρ1, s1, k1, h1.mono (fun r s' _ z F2 ρ2 H2 σ2 x2 k2 => z F2 ρ2 H2 σ2 ((k.sx e1).trans x2) k2) fun _ _ _ e => e⟩) fun x s1 _ z F' ρ' H' cls d k' xo => z F' ρ' H' σ cls d k' xo⟩
theorem s_expr (he : DE X Wx e m) (hs : swapsWith e none pos.line X.env = pure false := by rfl) : DS X Wx (.Expr e pos) (sExpr m) :=
  ps_mono (ps_expr he hs) fun D σ H ⟨B, F, ρ, s, k, h⟩ => ⟨B, F, ρ, s, k, (Run.bind h).mono (fun w s1 _ h1 F1 ρ1 H1 v e1 k1 _ _ => (Run.ret h1) F1 ρ1 H1 σ (k.sx e1) k1) fun x s1 _ z F' ρ' H' cls d k' xo => z F' ρ' H' σ cls d k' xo⟩
theorem s_ret (he : DE X Wx e m) : DS X Wx (.Return (some e) pos) (sRet m) :=
  ps_mono (ps_ret he) fun D σ H ⟨B, F, ρ, s, k, h⟩ => ⟨B, F, ρ, s, k, (Run.bind h).mono (fun w s1 _ h1 F1 ρ1 H1 v e1 k1 o1 _ => ret_ok (k.sx e1) k1 o1 h1) fun x s1 _ z F' ρ' H' cls d k' xo => z F' ρ' H' σ cls d k' xo⟩
theorem s_retN : DS X Wx (.Return none pos) sRetN := ps_mono ps_retN fun D σ H ⟨B, F, ρ, s, k, h⟩ => (Run.ret h) F ρ H σ .refl k .non .non
theorem asg_step {D : Ends} {σ : Sg} {H : Hp} {i : Nat} (h : BM X.K X.mg Wx (sAsg i m) D σ H) : EM X.K X.mg Wx m σ H fun x H1 => gName i x σ H1 D.nx := by
  obtain ⟨B, F, ρ, s, k, h⟩ := h
  refine ⟨B, F, ρ, s, k, (Run.bind h).mono (fun w s1 _ h1 F1 ρ1 H1 v e1 k1 o1 f1 => ?_) fun x s1 _ z F' ρ' H' cls d k' xo => z F' ρ' H' σ cls d k' xo⟩
  obtain ⟨F2, s2, hs, k2, h2⟩ := asg_ok e1 k1 o1 f1 (Run.bind h1)
  exact (Run.ret h2) F2 ρ1 H1 _ ⟨hs, k.stay e1⟩ k2
theorem s_asg (i : Nat) {x : Str} {pos' : Pos} (hN : X.N.Nodup) (he : DE X Wx e m) (hi : X.N[i]? = some x := by rfl) (hx : Loc X.env.scope x := by first | exact Or.inl rfl | exact Or.inr rfl) (hs : swapsWith e (some (.Name x pos')) pos.line X.env = pure false := by rfl)
    (hf : X.fn x = true ∨ X.env.scope.names.lookup x = some .local := by first | exact .inl rfl | exact .inr rfl | assumption) : DS X Wx (.Assign [.Name x pos'] e pos) (sAsg i m) :=
  ps_mono (ps_set hN hi hx he hs hf) fun D σ H h => asg_step h
end
end Z
/-! Z, part 6: targets, parallel stores, stores into lists, loops. -/
namespace Z
open PySem PySem.Spec PyProof.Rows L2

/-! ### targets that take data -/
def SO (is : List Nat) (σ σ' : Sg) : Prop := σ'.length = σ.length ∧ ∀ j, j ∉ is → σ'[j]? = σ[j]?
theorem SO.refl {is : List Nat} {σ : Sg} : SO is σ σ := ⟨rfl, fun _ _ => rfl⟩
theorem SO.trans {is js : List Nat} {σ σ1 σ2 : Sg} (a : SO is σ σ1) (b : SO js σ1 σ2) : SO (is ++ js) σ σ2 :=
  ⟨b.1.trans a.1, fun j h => (b.2 j fun z => h (List.mem_append_right _ z)).trans (a.2 j fun z => h (List.mem_append_left _ z))⟩
/-- as Ext, the slots may be others -/
structure GX (s : S) (σ : Sg) (F : Fz) (ρ : List Addr) (H : Hp) (s' : S) (σ' : Sg) (F' : Fz) (ρ' : List Addr) (H' : Hp) : Prop where
  sub : ∀ a, F a → F' a
  rho : ∃ m, ρ' = ρ ++ m
  new : ∀ a, a ∈ ρ' → a ∈ ρ ∨ H a = none
  keep : ∀ a o, H a = some o → a ∉ ρ → ¬ OwnedBy s σ a → H' a = some o
  th : ∀ a, H' a = none → H a = none
  fz : ∀ a, F' a → F a ∨ H a = none ∨ OwnedBy s σ a
  ow : ∀ a, OwnedBy s' σ' a → OwnedBy s σ a
section
variable {K : PySem.W.Frag} {B : Base} {F F' F1 F2 : Fz} {ρ ρ' ρ1 ρ2 : List Addr} {s s' s1 s2 : S} {σ σ' σ1 σ2 : Sg} {H H' H1 H2 : Hp}
theorem Ext.gx (x : Ext s σ F ρ H s' F' ρ' H') : GX s σ F ρ H s' σ F' ρ' H' := ⟨x.sub, x.rho, x.new, x.keep, x.th, x.fz, x.ow⟩
theorem GX.refl : GX s σ F ρ H s σ F ρ H := Ext.refl.gx
theorem GX.trans (x : GX s σ F ρ H s1 σ1 F1 ρ1 H1) (y : GX s1 σ1 F1 ρ1 H1 s2 σ2 F2 ρ2 H2) : GX s σ F ρ H s2 σ2 F2 ρ2 H2 where
  sub := fun a q => y.sub a (x.sub a q)
  rho := by
    obtain ⟨m, e⟩ := x.rho
    obtain ⟨m', e'⟩ := y.rho
    exact ⟨m ++ m', by rw [e', e, List.append_assoc]⟩
  new := fun a q => (y.new a q).elim (x.new a) fun q => .inr (x.th a q)
  keep := fun a o q n no => y.keep a o (x.keep a o q n no) (fun z => (x.new a z).elim n fun z => by rw [q] at z; cases z) fun z => no (x.ow a z)
  th := fun a q => x.th a (y.th a q)
  fz := fun a q => by
    rcases y.fz a q with q | q | q
    · exact x.fz a q
    · exact .inr (.inl (x.th a q))
    · exact .inr (.inr (x.ow a q))
  ow := fun a q => x.ow a (y.ow a q)
theorem Ok.gsx (k : Ok K B F ρ s σ H) (x : GX s σ F ρ H s' σ' F' ρ' H') : SX F H F' H' := ⟨x.sub, fun a o e q => x.keep a o e (fun ha => by
  obtain ⟨n1, vs, n2⟩ := k.sto.mem ha
  rcases q with q | q
  · exact n1 q
  · rw [n2] at e; cases e; cases q) fun ho => by
  obtain ⟨n1, _, _, vs, n2⟩ := k.owned ho
  rcases q with q | q
  · exact n1 q
  · rw [n2] at e; cases e; cases q⟩
end
def GEnd (K : PySem.W.Frag) (B : Base) (is : List Nat) (σ : Sg) (s : S) (F : Fz) (ρ : List Addr) (H : Hp) (Q : Sg → Hp → Prop) (s' : S) : Prop := ∀ F' ρ' H' σ', GX s σ F ρ H s' σ' F' ρ' H' → SO is σ σ' → Ok K B F' ρ' s' σ' H' → Q σ' H'
def GM (K : PySem.W.Frag) (mg : Str → Option Value) (Wx : WX) (is : List Nat) (g : D → M Unit) : TG := fun v σ H Q => ∃ B F ρ s d, Ok K B F ρ s σ H ∧ Rp K F H v d ∧ Run (g d) s (fun _ s' => GEnd K B is σ s F ρ H Q s') (BEr K mg Wx B)
def GsM (K : PySem.W.Frag) (mg : Str → Option Value) (Wx : WX) (is : List Nat) (g : List D → M Unit) : TGs := fun vs σ H Q => ∃ B F ρ s ds, Ok K B F ρ s σ H ∧ RpAll K F H vs ds ∧ Run (g ds) s (fun _ s' => GEnd K B is σ s F ρ H Q s') (BEr K mg Wx B)
abbrev DG (X : Cx) (Wx : WX) (is : List Nat) (t : Expr) (g : D → M Unit) : Prop := PG X t (GM X.K X.mg Wx is g)
abbrev DGs (X : Cx) (Wx : WX) (is : List Nat) (t : List Expr) (g : List D → M Unit) : Prop := PGs X t (GsM X.K X.mg Wx is g)
theorem pg_mono {X : Cx} {e : Expr} {t t' : TG} (h : PG X e t) (k : ∀ v σ H Q, t' v σ H Q → t v σ H Q) : PG X e t' := ⟨fun pins s σ H v u Q I r q => h.run pins s σ H v u Q I r (k _ _ _ _ q)⟩
theorem pgs_mono {X : Cx} {e : List Expr} {t t' : TGs} (h : PGs X e t) (k : ∀ v σ H Q, t' v σ H Q → t v σ H Q) : PGs X e t' := ⟨fun pins s σ H v u Q I r q => h.run pins s σ H v u Q I r (k _ _ _ _ q)⟩
def tName (i : Nat) (d : D) : M Unit := setW i (.val d)
def tNilG : List D → M Unit
  | [] => Pure.pure ()
  | _ => M.fail
def tConsG (g : D → M Unit) (r : List D → M Unit) : List D → M Unit
  | d :: ds => g d >>= fun _ => r ds
  | _ => M.fail
def tTupG (n : Nat) (r : List D → M Unit) : D → M Unit
  | .tuple ds => if ds.length = n then r ds else M.fail
  | .list ds => if ds.length = n then r ds else M.fail
  | _ => M.fail
section
variable {K : PySem.W.Frag} {mg : Str → Option Value} {Wx : WX} {B : Base} {F F0 F' F1 F2 : Fz} {ρ ρ0 ρ' ρ1 ρ2 : List Addr} {s s0 s' s1 s2 : S} {σ σ' σ1 : Sg} {H Hs H' H1 H2 : Hp} {v : V} {w : W} {p : Addr} {o : HO} {d : D} {i : Nat} {is js : List Nat}
theorem GEnd.step {Q : Sg → Hp → Prop} (x : GX s σ F ρ H s1 σ1 F1 ρ1 H1) (y : SO is σ σ1) (h : GEnd K B (is ++ js) σ s F ρ H Q s') : GEnd K B js σ1 s1 F1 ρ1 H1 Q s' := fun F' ρ' H' σ' x' y' k' => h F' ρ' H' σ' (x.trans x') (y.trans y') k'
theorem set_ok {ok : Unit → S → Prop} {er : Exc → S → Prop} (k : Ok K B F ρ s σ H) (so : SOk K B F ρ H v w) (no : ∀ ds a, w = .own ds → v = .ref a → ¬ OwnedBy s σ a) (h : Run (setW i w) s ok er) : i < s.env.length ∧ Ok K B F ρ (s.setEnv i (some w)) (σ.set i (some v)) H ∧ ok () (s.setEnv i (some w)) := by
  unfold Run setW at h
  by_cases hi : i < s.env.length
  · rw [if_pos hi] at h
    exact ⟨hi, k.store hi so no, h⟩
  · rw [if_neg hi] at h; exact h.elim
end
section
variable {X : Cx} {Wx : WX} {pos : Pos} {e : Expr} {es : List Expr} {m m1 m2 : M W} {ma : M (List W)} {st : Stmt} {rest a b : List Stmt} {b1 b2 : M SR} {c1 : M Bool} {is js : List Nat} {g : D → M Unit} {r : List D → M Unit}
theorem g_name (i : Nat) {x : Str} (hN : X.N.Nodup) (hi : X.N[i]? = some x := by rfl) (hx : Loc X.env.scope x := by first | exact Or.inl rfl | exact Or.inr rfl)
    (hf : X.fn x = true ∨ X.env.scope.names.lookup x = some .local := by first | exact .inl rfl | exact .inr rfl | assumption) : DG X Wx [i] (.Name x pos) (tName i) :=
  pg_mono (pg_name hN hi hx hf) fun v σ H Q ⟨B, F, ρ, s, d, k, rp, h⟩ => by
    obtain ⟨hi, k2, h2⟩ := set_ok (w := .val d) k rp (fun _ _ e => by cases e) h
    refine h2 F ρ H _ ⟨fun _ z => z, ⟨[], by simp⟩, fun _ z => .inl z, fun _ _ z _ _ => z, fun _ z => z, fun _ z => .inl z, fun a z => ?_⟩ ⟨List.length_set, fun j hj => List.getElem?_set_ne fun z => hj (by rw [z]; exact List.mem_singleton_self _)⟩ k2
    obtain ⟨j, ds, y1, y2⟩ := z
    rcases env_set y1 with ⟨hj, y1⟩ | ⟨hj, y1⟩
    · cases y1
    · rw [List.getElem?_set_ne (Ne.symm hj)] at y2
      exact ⟨j, ds, y1, y2⟩
theorem gs_nil : DGs X Wx [] [] tNilG := pgs_mono pgs_nil fun vs σ H Q ⟨B, F, ρ, s, ds, k, rp, h⟩ => by
  cases rp with
  | nil => exact ⟨rfl, h F ρ H σ .refl .refl k⟩
  | cons _ _ => exact h.elim
theorem gs_cons (h1 : DG X Wx is e g) (h2 : DGs X Wx js es r) (hs : (assignEach (e :: es) X.env).map (·.2) = assign e X.env :: (assignEach es X.env).map (·.2) := by rfl) : DGs X Wx (is ++ js) (e :: es) (tConsG g r) :=
  pgs_mono (pgs_cons h1 h2 hs) fun vs σ H Q ⟨B, F, ρ, s, ds, k, rp, h⟩ => by
    cases rp with
    | nil => exact h.elim
    | cons a b =>
      refine ⟨_, _, rfl, B, F, ρ, s, _, k, a, (Run.bind h).mono (fun _ s1 _ h1 F1 ρ1 H1 σ1 x y k1 => ?_) fun _ _ _ e => e⟩
      exact ⟨B, F1, ρ1, s1, _, k1, (k.gsx x).rpAll b, h1.mono (fun _ s2 _ z => z.step x y) fun _ _ _ e => e⟩
theorem pg_or {X : Cx} {e : Expr} {t1 t2 : TG} (h1 : PG X e t1) (h2 : PG X e t2) : PG X e fun v σ H Q => t1 v σ H Q ∨ t2 v σ H Q :=
  ⟨fun pins s σ H v u Q I r h => h.elim (fun z => h1.run pins s σ H v u Q I r z) fun z => h2.run pins s σ H v u Q I r z⟩
theorem g_tup {kk n : Nat} (hc : X.calm = true) (h : DGs X Wx is es r) (hn : (assignEach es X.env).length = n := by rfl) (hst : (assignEach es X.env).findIdx? (·.1) = none := by rfl) : DG X Wx is (.Tuple es kk pos) (tTupG n r) :=
  pg_mono (pg_or (pg_tup hc h hn hst) (pg_lst hc h hn hst)) fun v σ H Q ⟨B, F, ρ, s, d, k, rp, h⟩ => by
    unfold tTupG at h
    split at h
    · rename_i ds
      split at h
      · rename_i hl
        cases rp with
        | tup a b => exact .inl ⟨_, _, rfl, a, by rw [b.length]; exact hl, B, F, ρ, s, _, k, b, h⟩
      · exact h.elim
    · rename_i ds
      split at h
      · rename_i hl
        cases rp with
        | lst f a b => exact .inr ⟨_, _, rfl, SqL.of a, by rw [b.length]; exact hl, B, F, ρ, s, _, k, b, h⟩
      · exact h.elim
    · exact h.elim
/-! ### target = value, by data -/
def toVal (w : W) : M D := escW w >>= fun w => match w with
  | .val d => Pure.pure d
  | _ => M.fail
def sUnp (g : D → M Unit) (m : M W) : M SR := m >>= fun w => toVal w >>= fun d => g d >>= fun _ => Pure.pure .next
theorem val_ok {K : PySem.W.Frag} {B : Base} {F F0 : Fz} {ρ ρ0 : List Addr} {s s0 : S} {σ : Sg} {H Hs : Hp} {v : V} {w : W} {ok : D → S → Prop} {er : Exc → S → Prop} (e : Ext s0 σ F0 ρ0 Hs s F ρ H) (k : Ok K B F ρ s σ H) (o : WOk K B F ρ s σ H v w) (f : Fresh Hs v w) (h : Run (toVal w) s ok er) :
    ∃ F' s' d, Ok K B F' ρ s' σ H ∧ Ext s0 σ F0 ρ0 Hs s' F' ρ H ∧ Rp K F' H v d ∧ ok d s' := by
  obtain ⟨F', s', w', k', e', o', st', h'⟩ := esc_ok k.sto e k o f (Run.bind h)
  cases w' with
  | val d => exact ⟨F', s', d, k', e', o', h'⟩
  | _ => exact h'.elim
theorem s_unp {tg : Expr} (he : DE X Wx e m) (hg : DG X Wx is tg g) (hs : swapsWithSole [tg] e pos.line X.env = pure false := by rfl) (hw : swappedStores [tg] e X.env = pure none := by rfl) (h1 : List.map (fun x => x.snd) (assignEach [tg] X.env) = [assign tg X.env] := by rfl) : DS X Wx (.Assign [tg] e pos) (sUnp g m) :=
  ps_mono (ps_asg he hg hs hw h1) fun D σ H ⟨B, F, ρ, s, k, h⟩ => ⟨B, F, ρ, s, k, (Run.bind h).mono (fun w s1 _ h1 F1 ρ1 H1 v e1 k1 o1 f1 => by
    obtain ⟨F2, s2, d, k2, e2, rp, h2⟩ := val_ok e1 k1 o1 f1 (Run.bind h1)
    exact ⟨B, F2, ρ1, s2, d, k2, rp, (Run.bind h2).mono (fun _ s3 _ h3 F3 ρ3 H3 σ3 x3 y3 k3 => (Run.ret h3) F3 ρ3 H3 σ3 ((k.sx e2).trans (k2.gsx x3)) k3) fun _ _ _ e => e⟩) fun x s1 _ z F' ρ' H' cls d k' xo => z F' ρ' H' σ cls d k' xo⟩
/-! ### lists that are held while others are made -/
inductive WHeld (K : PySem.W.Frag) (B : Base) (F : Fz) (ρ : List Addr) (s : S) (σ : Sg) (H : Hp) : List V → List W → Prop
  | nil : WHeld K B F ρ s σ H [] []
  | cons {v : V} {vs : List V} {w : W} {ws : List W} : WOk K B F ρ s σ H v w → (∀ i, w ≠ .peek i) → (∀ (j : Nat) (ds es : List D) (a : Addr), w = .own ds → ws[j]? = some (.own es) → v = .ref a → vs[j]? ≠ some (.ref a)) → WHeld K B F ρ s σ H vs ws → WHeld K B F ρ s σ H (v :: vs) (w :: ws)
def FreshAll (H : Hp) (vs : List V) (ws : List W) : Prop := ∀ (j : Nat) (es : List D) (a : Addr), ws[j]? = some (.own es) → vs[j]? = some (.ref a) → H a = none
def PostH (K : PySem.W.Frag) (B : Base) (σ : Sg) (s : S) (F : Fz) (ρ : List Addr) (H : Hp) (Q : List V → Hp → Prop) (ws : List W) (s' : S) : Prop :=
  ∀ F' ρ' H' vs, Ext s σ F ρ H s' F' ρ' H' → Ok K B F' ρ' s' σ H' → WHeld K B F' ρ' s' σ H' vs ws → FreshAll H vs ws → Q vs H'
def HM (K : PySem.W.Frag) (mg : Str → Option Value) (Wx : WX) (m : M (List W)) : TA := fun σ H Q => ∃ B F ρ s, Ok K B F ρ s σ H ∧ Run m s (PostH K B σ s F ρ H Q) (Er K mg Wx B σ)
abbrev DH (X : Cx) (Wx : WX) (es : List Expr) (m : M (List W)) : Prop := PA X es (HM X.K X.mg Wx m)
def resW (w : W) : M W := match w with
  | .own ds => Pure.pure (.own ds)
  | w => escW w
def hCons (m : M W) (r : M (List W)) : M (List W) := m >>= fun a => resW a >>= fun w => r >>= fun ws => Pure.pure (w :: ws)
theorem res_ok {K : PySem.W.Frag} {B : Base} {F F0 : Fz} {ρ ρ0 : List Addr} {s s0 : S} {σ : Sg} {H Hs : Hp} {v : V} {w : W} {ok : W → S → Prop} {er : Exc → S → Prop} (e : Ext s0 σ F0 ρ0 Hs s F ρ H) (k : Ok K B F ρ s σ H) (o : WOk K B F ρ s σ H v w) (f : Fresh Hs v w) (h : Run (resW w) s ok er) :
    ∃ F' s' w', Ok K B F' ρ s' σ H ∧ Ext s0 σ F0 ρ0 Hs s' F' ρ H ∧ WOk K B F' ρ s' σ H v w' ∧ Fresh Hs v w' ∧ (∀ i, w' ≠ .peek i) ∧ ok w' s' := by
  have other : Run (escW w) s ok er → ∃ F' s' w', Ok K B F' ρ s' σ H ∧ Ext s0 σ F0 ρ0 Hs s' F' ρ H ∧ WOk K B F' ρ s' σ H v w' ∧ Fresh Hs v w' ∧ (∀ i, w' ≠ .peek i) ∧ ok w' s' := fun h => by
    obtain ⟨F', s', w', k', e', o', st', h'⟩ := esc_ok k.sto e k o f h
    exact ⟨F', s', w', k', e', o', fresh_stable st', (fun i z => by rw [z] at st'; cases st'), h'⟩
  cases w with
  | own ds => exact ⟨F, s, _, k, e, o, f, (fun i z => by cases z), Run.ret h⟩
  | val d => exact other h
  | ref n => exact other h
  | scr ns => exact other h
  | fn x => exact other h
  | exc xx => exact other h
  | peek j => exact other h
theorem WHeld.mono {K : PySem.W.Frag} {B : Base} {F F' : Fz} {ρ ρ' : List Addr} {s s' : S} {σ : Sg} {H H' : Hp} {vs : List V} {ws : List W} (k : Ok K B F ρ s σ H) (x : Ext s σ F ρ H s' F' ρ' H') (h : WHeld K B F ρ s σ H vs ws) : WHeld K B F' ρ' s' σ H' vs ws := by
  induction h with
  | nil => exact .nil
  | cons a b c _ ih => exact .cons (a.mono k x) b c ih
theorem h_nil : DH X Wx [] aNil := pa_mono pa_nil fun σ H Q ⟨B, F, ρ, s, k, h⟩ => (Run.ret h) F ρ H [] .refl k .nil (fun j es a e => by simp at e)
theorem h_cons (ha : DE X Wx e m) (hr : DH X Wx es ma) (hs : starEach (e :: es) X.env = (false, eval e X.env) :: starEach es X.env := by rfl) : DH X Wx (e :: es) (hCons m ma) :=
  pa_mono (pa_cons ha hr hs) fun σ H Q ⟨B, F, ρ, s, k, h⟩ => by
    refine ⟨B, F, ρ, s, k, (Run.bind h).mono (fun w1 s1 _ h1 F1 ρ1 H1 x e1 k1 o1 f1 => ?_) fun _ _ _ e => e⟩
    obtain ⟨F2, s2, w2, k2, e2, o2, f2, np, h2⟩ := res_ok e1 k1 o1 f1 (Run.bind h1)
    refine ⟨B, F2, ρ1, s2, k2, (Run.bind h2).mono (fun ws s3 _ h3 F3 ρ3 H3 vs e3 k3 o3 f3 => ?_) fun _ _ _ e => e⟩
    refine (Run.ret h3) F3 ρ3 H3 _ (e2.trans e3 k2.sto) k3 (.cons (o2.mono k2 e3) np (fun j ds es a q1 q2 q3 q4 => ?_) o3) fun j es a q1 q2 => ?_
    · subst q1
      obtain ⟨b, us, z1, z2, _⟩ := o2
      rw [q3] at z1
      cases z1
      have := f3 j es a q2 q4
      rw [z2] at this; cases this
    · cases j with
      | zero =>
        simp at q1 q2
        subst q1
        exact f2 a q2
      | succ j => exact e2.th a (f3 j es a (by simpa using q1) (by simpa using q2))
def setAll : List Nat → List W → M Unit
  | [], [] => Pure.pure ()
  | i :: is, w :: ws => setW i w >>= fun _ => setAll is ws
  | _, _ => M.fail
def setManyS : Sg → List Nat → List V → Sg
  | σ, i :: is, v :: vs => setManyS (σ.set i (some v)) is vs
  | σ, _, _ => σ
def sPar (is : List Nat) (ma : M (List W)) : M SR := ma >>= fun ws => setAll is ws >>= fun _ => Pure.pure .next
theorem setAll_ok {K : PySem.W.Frag} {B : Base} {F : Fz} {ρ : List Addr} {H : Hp} {ok : Unit → S → Prop} {er : Exc → S → Prop} : ∀ {is : List Nat} {ws : List W} {vs : List V} {s : S} {σ : Sg}, Ok K B F ρ s σ H → WHeld K B F ρ s σ H vs ws → Run (setAll is ws) s ok er → is.length = vs.length ∧ ∃ s', Ok K B F ρ s' (setManyS σ is vs) H ∧ ok () s'
  | [], [], vs, s, σ, k, o, h => by cases o; exact ⟨rfl, s, k, h⟩
  | [], w :: ws, vs, s, σ, k, o, h => h.elim
  | i :: is, [], vs, s, σ, k, o, h => h.elim
  | i :: is, w :: ws, vs, s, σ, k, o, h => by
    cases o with
    | @cons v vs _ _ a b c d =>
      have so : SOk K B F ρ H v w := by
        cases w with
        | val d => exact a
        | ref n => exact a
        | scr ns => exact a
        | fn x => exact a
        | exc xx => exact a
        | peek j => exact (b j rfl).elim
        | own ds =>
          obtain ⟨a, us, z1, z2, z3, z4, z5, z6, z7⟩ := a
          exact ⟨a, us, z1, z2, z3, z4, z5, z7⟩
      have no : ∀ ds a, w = .own ds → v = .ref a → ¬ OwnedBy s σ a := fun ds a' e1 e2 => by
        subst e1
        obtain ⟨a, us, z1, z2, z3, z4, z5, z6, z7⟩ := a
        rw [z1] at e2
        cases e2
        exact z6
      obtain ⟨hi, k2, h2⟩ := set_ok k so no (Run.bind h)
      have held : ∀ {vs' : List V} {ws' : List W}, WHeld K B F ρ s σ H vs' ws' → (∀ (j : Nat) (ds es : List D) (a : Addr), w = .own ds → ws'[j]? = some (.own es) → v = .ref a → vs'[j]? ≠ some (.ref a)) → WHeld K B F ρ (s.setEnv i (some w)) (σ.set i (some v)) H vs' ws' := by
        intro vs' ws' hh
        induction hh with
        | nil => intro _; exact .nil
        | @cons v' vs' w' ws' a' b' c' d' ih =>
          intro c''
          refine .cons ?_ b' c' (ih fun j ds es a q1 q2 q3 q4 => c'' (j + 1) ds es a q1 (by simpa using q2) q3 (by simpa using q4))
          cases w' with
          | val d => exact a'
          | ref n => exact a'
          | scr ns => exact a'
          | fn x => exact a'
          | exc xx => exact a'
          | peek j => exact (b' j rfl).elim
          | own es =>
            obtain ⟨a, us, z1, z2, z3, z4, z5, z6, z7⟩ := a'
            refine ⟨a, us, z1, z2, z3, z4, z5, fun z => ?_, z7⟩
            obtain ⟨j, fs, y1, y2⟩ := z
            rcases env_set y1 with ⟨hj, y1⟩ | ⟨hj, y1⟩
            · cases y1
              subst hj
              rw [List.getElem?_set_self (by rw [← k.len]; exact hi)] at y2
              refine c'' 0 fs es _ rfl rfl ?_ (by rw [z1]; rfl)
              exact Option.some.inj (Option.some.inj y2)
            · rw [List.getElem?_set_ne (Ne.symm hj)] at y2
              exact z6 ⟨j, fs, y1, y2⟩
      obtain ⟨hl, s', k3, h3⟩ := setAll_ok k2 (held d c) h2
      exact ⟨by simp [hl], s', k3, h3⟩
theorem par_step {D : Ends} {σ : Sg} {H : Hp} {is : List Nat} (h : BM X.K X.mg Wx (sPar is ma) D σ H) : HM X.K X.mg Wx ma σ H fun vs H1 => is.length = vs.length ∧ D.nx (setManyS σ is vs) H1 := by
  obtain ⟨B, F, ρ, s, k, h⟩ := h
  refine ⟨B, F, ρ, s, k, (Run.bind h).mono (fun ws s1 _ h1 F1 ρ1 H1 vs e1 k1 o1 f1 => ?_) fun x s1 _ z F' ρ' H' cls d k' xo => z F' ρ' H' σ cls d k' xo⟩
  obtain ⟨hl, s2, k2, h2⟩ := setAll_ok k1 o1 (Run.bind h1)
  exact ⟨hl, (Run.ret h2) F1 ρ1 H1 _ (k.sx e1) k2⟩
theorem s_par (i j : Nat) {x y : Str} {a b : Expr} {px py pt : Pos} {kt k2 pt2} (hc : X.calm = true) (hN : X.N.Nodup) (ha : DH X Wx [a, b] ma) (hw : swappedStores [.Tuple [.Name x px, .Name y py] kt pt] (.Tuple [a, b] k2 pt2) X.env = pure (some [x, y]) := by rfl) (hi : X.N[i]? = some x := by rfl) (hj : X.N[j]? = some y := by rfl) (hij : i ≠ j := by decide)
    (hx : X.env.scope.names.lookup x = some .local := by rfl) (hy : X.env.scope.names.lookup y = some .local := by rfl)
    (hs : swapsWithSole [.Tuple [.Name x px, .Name y py] kt pt] (.Tuple [a, b] k2 pt2) pos.line X.env = pure false := by rfl) : DS X Wx (.Assign [.Tuple [.Name x px, .Name y py] kt pt] (.Tuple [a, b] k2 pt2) pos) (sPar [i, j] ma) :=
  ps_mono (ps_par hc hN hi hj hij hx hy ha hw hs) fun D σ H h => by
    obtain ⟨B, F, ρ, s, k, h⟩ := par_step h
    refine ⟨B, F, ρ, s, k, h.mono (fun ws s1 _ h1 F1 ρ1 H1 vs e1 k1 o1 f1 => ?_) fun _ _ _ e => e⟩
    obtain ⟨hl, q⟩ := h1 F1 ρ1 H1 vs e1 k1 o1 f1
    match vs, hl with
    | [v, w], _ => exact ⟨v, w, rfl, q⟩
theorem s_par3 (i j l : Nat) {x y z : Str} {a b c : Expr} {px py pz pt : Pos} {kt k2 pt2} (hc : X.calm = true) (hN : X.N.Nodup) (ha : DH X Wx [a, b, c] ma)
    (hw : swappedStores [.Tuple [.Name x px, .Name y py, .Name z pz] kt pt] (.Tuple [a, b, c] k2 pt2) X.env = pure (some [x, y, z]) := by rfl) (hi : X.N[i]? = some x := by rfl) (hj : X.N[j]? = some y := by rfl) (hl : X.N[l]? = some z := by rfl) (hij : i ≠ j := by decide) (hil : i ≠ l := by decide) (hjl : j ≠ l := by decide)
    (hx : X.env.scope.names.lookup x = some .local := by rfl) (hy : X.env.scope.names.lookup y = some .local := by rfl) (hz : X.env.scope.names.lookup z = some .local := by rfl)
    (hs : swapsWithSole [.Tuple [.Name x px, .Name y py, .Name z pz] kt pt] (.Tuple [a, b, c] k2 pt2) pos.line X.env = pure false := by rfl) : DS X Wx (.Assign [.Tuple [.Name x px, .Name y py, .Name z pz] kt pt] (.Tuple [a, b, c] k2 pt2) pos) (sPar [i, j, l] ma) :=
  ps_mono (ps_par3 hc hN hi hj hl hij hil hjl hx hy hz ha hw hs) fun D σ H h => by
    obtain ⟨B, F, ρ, s, k, h⟩ := par_step h
    refine ⟨B, F, ρ, s, k, h.mono (fun ws s1 _ h1 F1 ρ1 H1 vs e1 k1 o1 f1 => ?_) fun _ _ _ e => e⟩
    obtain ⟨hl, q⟩ := h1 F1 ρ1 H1 vs e1 k1 o1 f1
    match vs, hl with
    | [u, v, w], _ => exact ⟨u, v, w, rfl, q⟩
/-- the names of a tuple target, stored one by one -/
inductive Names_ (X : Cx) : List Expr → List Nat → Prop
  | nil : Names_ X [] []
  | cons {x : Str} {p : Pos} {es : List Expr} {is : List Nat} (i : Nat) (hi : X.N[i]? = some x) (hx : Loc X.env.scope x) (hf : X.fn x = true ∨ X.env.scope.names.lookup x = some .local)
      (hs : (assignEach (.Name x p :: es) X.env).map (·.2) = assign (.Name x p) X.env :: (assignEach es X.env).map (·.2)) : Names_ X es is → Names_ X (.Name x p :: es) (i :: is)
def gMany : List Nat → TGs := fun is vs σ H Q => is.length = vs.length ∧ Q (setManyS σ is vs) H
theorem names_g (hN : X.N.Nodup) {es : List Expr} {is : List Nat} (h : Names_ X es is) : PGs X es (gMany is) := by
  induction h with
  | nil =>
    refine pgs_mono pgs_nil fun vs σ H Q h => ?_
    obtain ⟨hl, q⟩ := h
    match vs, hl with
    | [], _ => exact ⟨rfl, q⟩
  | cons i hi hx hf hs _ ih =>
    refine pgs_mono (pgs_cons (pg_name hN hi hx hf) ih hs) fun vs σ H Q h => ?_
    obtain ⟨hl, q⟩ := h
    match vs, hl with
    | v :: vs, hl => exact ⟨v, vs, rfl, by simpa using hl, q⟩
/-- a, b, .. = x, y, .. by way of a tuple -/
theorem s_parT {ts : List Expr} {is : List Nat} {x1 kt n : Nat} {pt p1 : Pos} (hc : X.calm = true) (hN : X.N.Nodup) (hts : Names_ X ts is) (ha : DH X Wx es ma) (hnn : n = is.length := by rfl) (hn : (assignEach ts X.env).length = n := by rfl) (hst : (assignEach ts X.env).findIdx? (·.1) = none := by rfl)
    (hz : is.length ≤ 1000 := by decide) (hs : swapsWithSole [.Tuple ts kt pt] (.Tuple es x1 p1) pos.line X.env = pure false := by rfl) (hw : swappedStores [.Tuple ts kt pt] (.Tuple es x1 p1) X.env = pure none := by rfl) : DS X Wx (.Assign [.Tuple ts kt pt] (.Tuple es x1 p1) pos) (sPar is ma) :=
  ps_mono (ps_asg (pe_tup ha) (pg_tup hc (names_g hN hts) hn hst) hs hw) fun D σ H h => by
    obtain ⟨B, F, ρ, s, k, h⟩ := h
    refine ⟨B, F, ρ, s, k, (Run.bind h).mono (fun ws s1 _ h1 F1 ρ1 H1 vs e1 k1 o1 f1 => ?_) fun x s1 _ z F' ρ' H' cls d k' xo => z F' ρ' H' σ cls d k' xo⟩
    have hl := (setAll_ok k1 o1 (Run.bind h1)).1
    refine ⟨by rw [← hl, sizeLine_eq]; omega, fun p hp => ⟨p, vs, rfl, SqT.of upd_same, by rw [← hl, hnn], hl, ?_⟩⟩
    obtain ⟨_, s2, k2, h2⟩ := setAll_ok (k1.new (o := .tup vs) hp) (o1.mono k1 (Ext.new_ hp)) (Run.bind h1)
    exact (Run.ret h2) F1 ρ1 _ _ ((k.sx e1).trans ⟨fun _ z => z, stay_upd hp⟩) k2
end
end Z
/-! Z, part 7: lists that are changed, loops. -/
namespace Z
open PySem PySem.Spec PyProof.Rows L2

/-! ### a list is changed where it stands -/
def modSt {α : Type} (n : Nat) (f : List D → Option (List D × α)) (s : S) : Out S α := match (s.st[n]?).bind f with
  | some (ds, b) => .ok b { s with st := s.st.set n ds }
  | none => .fail
def modSlot {α : Type} (i : Nat) (f : List D → Option (List D × α)) (s : S) : Option (Option W) → Out S α
  | some (some (.own ds)) => (match f ds with
    | some (ds', b) => .ok b (s.setEnv i (some (.own ds')))
    | none => .fail)
  | some (some (.ref n)) => modSt n f s
  | _ => .fail
def modL {α : Type} (w : W) (f : List D → Option (List D × α)) : M α := fun s => match w with
  | .ref n => modSt n f s
  | .peek i => modSlot i f s s.env[i]?
  | _ => .fail
section
variable {K : PySem.W.Frag} {mg : Str → Option Value} {Wx : WX} {B : Base} {F F0 F' F1 F2 : Fz} {ρ ρ0 ρ' ρ1 ρ2 : List Addr} {s s0 s' s1 s2 : S} {σ σ' σ1 : Sg} {H Hs H' H1 H2 : Hp} {v : V} {w : W} {p : Addr} {o : HO} {d : D} {i : Nat} {is js : List Nat}
theorem stay_write {a : Addr} {vs vs' : List V} (h : H a = some (.lst vs)) (f : ¬ F a) : Stay F H (upd H a (.lst vs')) := fun b o e q => by
  have : b ≠ a := fun z => by
    subst z
    rcases q with q | q
    · exact f q
    · rw [h] at e; cases e; cases q
  rw [upd_ne this]; exact e
theorem Ok.ownWrite {ds ds' : List D} {a : Addr} {vs' : List V} (k : Ok K B F ρ s σ H) (e : s.env[i]? = some (some (.own ds))) (e1 : σ[i]? = some (some (.ref a))) (r : RpAll K F H vs' ds') : Ok K B F ρ (s.setEnv i (some (.own ds'))) σ (upd H a (.lst vs')) := by
  obtain ⟨v, e2, b, vs, e3, h1, h2, h3, h4, h5⟩ := k.env i _ e
  rw [e1] at e2
  cases e2
  cases e3
  have st : Stay F H (upd H a (.lst vs')) := stay_write h1 h3
  exact {
    len := by rw [← k.len]; exact List.length_set
    base := ⟨k.base.sub, k.base.rho, k.base.new, fun b o q n => by
      have : b ≠ a := fun z => by rw [z, h5] at q; cases q
      rw [upd_ne this]; exact k.base.keep b o q n, k.base.fz⟩
    trk := fun b f => by
      have : b ≠ a := fun z => h3 (z ▸ f)
      rw [upd_ne this]; exact k.trk b f
    sto := ⟨k.sto.len, k.sto.nd, fun n es q => by
      obtain ⟨b, us, q1, q2, q3, q4⟩ := k.sto.at_ n es q
      have : b ≠ a := fun z => h4 (z ▸ List.mem_of_getElem? q1)
      exact ⟨b, us, q1, q2, by rw [upd_ne this]; exact q3, q4.st st fun _ z => z⟩⟩
    env := fun j w q => by
      rcases env_set q with ⟨hj, q⟩ | ⟨hj, q⟩
      · cases q
        subst hj
        exact ⟨.ref a, e1, a, vs', rfl, upd_same, r.st st fun _ z => z, h3, h4, h5⟩
      · obtain ⟨v', q1, q2⟩ := k.env j w q
        refine ⟨v', q1, ?_⟩
        cases w with
        | val d => exact Rp.st q2 st fun _ z => z
        | own es =>
          obtain ⟨b, us, z1, z2, z3, z4, z5, z6⟩ := q2
          have : b ≠ a := fun z => by
            subst z1 z
            exact hj (k.sep j i es ds b q e q1 e1)
          exact ⟨b, us, z1, by rw [upd_ne this]; exact z2, z3.st st fun _ z => z, z4, z5, z6⟩
        | ref n => exact q2
        | peek j => exact q2
        | scr ns =>
          obtain ⟨b, z1, z2⟩ := q2
          exact ⟨b, z1, z2.mono st⟩
        | fn x => exact q2
        | exc xx => exact ExV.st q2 st fun _ z => z
    sep := fun j l ds1 es b q1 q2 q3 q4 => by
      have old : ∀ {j : Nat} {ds1 : List D}, (s.setEnv i (some (.own ds'))).env[j]? = some (some (.own ds1)) → ∃ ds2, s.env[j]? = some (some (.own ds2)) := fun {j ds1} q => by
        rcases env_set q with ⟨hj, q⟩ | ⟨hj, q⟩
        · rw [hj]; exact ⟨ds, e⟩
        · exact ⟨ds1, q⟩
      obtain ⟨_, g1⟩ := old q1
      obtain ⟨_, g2⟩ := old q2
      exact k.sep j l _ _ b g1 g2 q3 q4 }
theorem Ok.stoWrite {ds' : List D} {a : Addr} {vs' : List V} {n : Nat} (k : Ok K B F ρ s σ H) (e1 : ρ[n]? = some a) (r : RpAll K F H vs' ds') : Ok K B F ρ { s with st := s.st.set n ds' } σ (upd H a (.lst vs')) := by
  have ha : a ∈ ρ := List.mem_of_getElem? e1
  obtain ⟨h3, vs, h1⟩ := k.sto.mem ha
  have st : Stay F H (upd H a (.lst vs')) := stay_write h1 h3
  have hb : ∀ {b o}, B.H b = some o → b ∉ B.ρ → b ≠ a := fun {b o} q nq z => by
    subst z
    rcases k.base.new b ha with z | z
    · exact nq z
    · rw [q] at z; cases z
  exact {
    len := k.len
    base := ⟨k.base.sub, k.base.rho, k.base.new, fun b o q nq => by rw [upd_ne (hb q nq)]; exact k.base.keep b o q nq, k.base.fz⟩
    trk := fun b f => by
      have : b ≠ a := fun z => h3 (z ▸ f)
      rw [upd_ne this]; exact k.trk b f
    sto := ⟨by rw [List.length_set]; exact k.sto.len, k.sto.nd, fun m es q => by
      by_cases hm : n = m
      · subst hm
        have hl : n < s.st.length := by
          by_cases hl : n < s.st.length
          · exact hl
          · rw [List.getElem?_eq_none (by rw [List.length_set]; omega)] at q; cases q
        rw [List.getElem?_set_self hl] at q
        cases q
        exact ⟨a, vs', e1, h3, upd_same, r.st st fun _ z => z⟩
      · rw [List.getElem?_set_ne hm] at q
        obtain ⟨b, us, q1, q2, q3, q4⟩ := k.sto.at_ m es q
        have : b ≠ a := fun z => by
          subst z
          exact hm (nodup_ix' k.sto.nd e1 q1)
        exact ⟨b, us, q1, q2, by rw [upd_ne this]; exact q3, q4.st st fun _ z => z⟩⟩
    env := fun j w q => by
      obtain ⟨v', q1, q2⟩ := k.env j w q
      refine ⟨v', q1, ?_⟩
      cases w with
      | val d => exact Rp.st q2 st fun _ z => z
      | own es =>
        obtain ⟨b, us, z1, z2, z3, z4, z5, z6⟩ := q2
        have : b ≠ a := fun z => z5 (z ▸ ha)
        exact ⟨b, us, z1, by rw [upd_ne this]; exact z2, z3.st st fun _ z => z, z4, z5, z6⟩
      | ref n => exact q2
      | peek j => exact q2
      | scr ns =>
        obtain ⟨b, z1, z2⟩ := q2
        exact ⟨b, z1, z2.mono st⟩
      | fn x => exact q2
      | exc xx => exact ExV.st q2 st fun _ z => z
    sep := k.sep }
where
  nodup_ix' {l : List Addr} (hN : l.Nodup) {i j : Nat} {x : Addr} (a : l[i]? = some x) (b : l[j]? = some x) : i = j := by
    obtain ⟨h1, e1⟩ := List.getElem?_eq_some_iff.mp a
    obtain ⟨h2, e2⟩ := List.getElem?_eq_some_iff.mp b
    exact (List.getElem_inj hN).mp (e1.trans e2.symm)
theorem ext_write {a : Addr} {vs vs' : List V} (h : H a = some (.lst vs)) (hm : a ∈ ρ ∨ OwnedBy s σ a) (ow : ∀ b, OwnedBy s' σ b → OwnedBy s σ b) : Ext s σ F ρ H s' F ρ (upd H a (.lst vs')) :=
  ⟨fun _ z => z, ⟨[], by simp⟩, fun _ z => .inl z, fun b o e n1 n2 => by
    have : b ≠ a := fun z => by
      subst z
      exact hm.elim n1 n2
    rw [upd_ne this]; exact e, fun b e => upd_none e, fun _ z => .inl z, ow⟩
theorem mod_ok {α : Type} {f : List D → Option (List D × α)} {ok : α → S → Prop} {er : Exc → S → Prop} (k : Ok K B F ρ s σ H) (o : WOk K B F ρ s σ H v w) (h : Run (modL w f) s ok er) :
    ∃ a vs ds ds' b, v = .ref a ∧ H a = some (.lst vs) ∧ RpAll K F H vs ds ∧ f ds = some (ds', b) ∧ ∀ vs', RpAll K F H vs' ds' → ∃ s', Ok K B F ρ s' σ (upd H a (.lst vs')) ∧ Ext s σ F ρ H s' F ρ (upd H a (.lst vs')) ∧ SX F H F (upd H a (.lst vs')) ∧ ok b s' := by
  have stc : ∀ {n : Nat} {a : Addr}, ρ[n]? = some a → v = .ref a → Run (modSt n f) s ok er → ∃ a vs ds ds' b, v = .ref a ∧ H a = some (.lst vs) ∧ RpAll K F H vs ds ∧ f ds = some (ds', b) ∧ ∀ vs', RpAll K F H vs' ds' → ∃ s', Ok K B F ρ s' σ (upd H a (.lst vs')) ∧ Ext s σ F ρ H s' F ρ (upd H a (.lst vs')) ∧ SX F H F (upd H a (.lst vs')) ∧ ok b s' := by
    intro n a e1 e2 h
    unfold Run modSt at h
    cases q : s.st[n]? with
    | none => simp only [q, Option.bind_none] at h
    | some ds =>
      simp only [q, Option.bind_some] at h
      obtain ⟨b, us, q1, q2, q3, q4⟩ := k.sto.at_ n ds q
      rw [e1] at q1
      cases q1
      cases q5 : f ds with
      | none => simp only [q5] at h
      | some r =>
        obtain ⟨ds', b'⟩ := r
        simp only [q5] at h
        have h' := h
        exact ⟨a, us, ds, ds', b', e2, q3, q4, q5, fun vs' r => ⟨_, k.stoWrite e1 r, ext_write q3 (.inl (List.mem_of_getElem? e1)) fun _ z => z, ⟨fun _ z => z, stay_write q3 q2⟩, h'⟩⟩
  cases w with
  | ref n =>
    obtain ⟨a, e1, e2⟩ := o
    exact stc e2 e1 h
  | peek i =>
    have o' : σ[i]? = some (some v) := o
    have h : Run (fun _ => modSlot i f s s.env[i]?) s ok er := h
    cases q : s.env[i]? with
    | none => rw [q] at h; exact h.elim
    | some oo =>
      cases oo with
      | none => rw [q] at h; exact h.elim
      | some w' =>
        rw [q] at h
        cases w' with
        | ref n =>
          obtain ⟨v', e1, a, e2, e3⟩ := k.env i _ q
          rw [o'] at e1; cases e1
          exact stc e3 e2 h
        | own ds =>
          obtain ⟨v', e1, a, vs, e2, h1, h2, h3, h4, h5⟩ := k.env i _ q
          rw [o'] at e1; cases e1
          subst e2
          have h' : Run (fun _ => modSlot i f s (some (some (.own ds)))) s ok er := h
          unfold Run modSlot at h'
          cases q5 : f ds with
          | none => simp only [q5] at h'
          | some r =>
            obtain ⟨ds', b'⟩ := r
            simp only [q5] at h'
            refine ⟨a, vs, ds, ds', b', rfl, h1, h2, q5, fun vs' r => ⟨_, k.ownWrite q o' r, ext_write h1 (.inr ⟨i, ds, q, o'⟩) (fun b z => ?_), ⟨fun _ z => z, stay_write h1 h3⟩, h'⟩⟩
            obtain ⟨j, es, z1, z2⟩ := z
            rcases env_set z1 with ⟨hj, z1⟩ | ⟨hj, z1⟩
            · subst hj; exact ⟨j, ds, q, z2⟩
            · exact ⟨j, es, z1, z2⟩
        | val d => exact h.elim
        | peek j => exact h.elim
        | scr ns => exact h.elim
        | fn x => exact h.elim
        | exc xx => exact h.elim
  | val d => exact h.elim
  | own ds => exact h.elim
  | scr ns => exact h.elim
  | fn x => exact h.elim
  | exc xx => exact h.elim
end
/-- what a method of lists asks of its object -/
def lookL (w : W) : M Unit := look w >>= fun d => match d with
  | .list _ => Pure.pure ()
  | _ => M.fail
def eAppend (mo me : M W) : M W := mo >>= fun w => lookL w >>= fun _ => me >>= fun x => toVal x >>= fun d => modL w (fun ds => if ds.length < sizeLine then some (ds ++ [d], ()) else none) >>= fun _ => Pure.pure (.val .none)
def ePopAt (mo me : M W) : M W := mo >>= fun w => lookL w >>= fun _ => me >>= fun x => look x >>= fun d => modL w (fun ds => match d with
  | .int i => if -(2 ^ 63) ≤ i ∧ i < 2 ^ 63 then (seqIndex? i ds.length).bind fun j => (ds[j]?).map fun e => (ds.eraseIdx j, e) else none
  | _ => none) >>= fun e => Pure.pure (.val e)
def tSubG (mo mi : M W) (d : D) : M Unit := mo >>= fun w => mi >>= fun x => look x >>= fun k => modL w (fun ds => match k with
  | .int k => (ixN ds.length k).map fun j => (ds.set j d, ())
  | _ => none)
section
variable {X : Cx} {Wx : WX} {pos apos cpos : Pos} {o e : Expr} {es : List Expr} {m mo me mi : M W}
theorem lookL_ok {K : PySem.W.Frag} {B : Base} {F : Fz} {ρ : List Addr} {s : S} {σ : Sg} {H : Hp} {v : V} {w : W} {β : Type} {g : Unit → M β} {ok : β → S → Prop} {er : Exc → S → Prop} (k : Ok K B F ρ s σ H) (o : WOk K B F ρ s σ H v w) (h : Run (lookL w >>= g) s ok er) : tyV K "list" v H ∧ Run (g ()) s ok er := by
  obtain ⟨d, e1, h⟩ := Run.look (Run.bind h)
  cases d with
  | list ds =>
    obtain ⟨a, vs, rfl, q, _⟩ := (content_ok k o e1).1.list
    exact ⟨.inl ⟨rfl, vs, q⟩, h⟩
  | _ => exact h.elim
theorem i_append (ho : DE X Wx o mo) (he : DE X Wx e me) (hbase : attributeBase o "append" X.env (eval o X.env) = eval o X.env := by rfl)
    (hfew : ((backTo cpos (starEach [e] X.env)).all (fun x => !x.1) && (backToKw cpos (keywordEach [] X.env)).all (fun x => x.1.isSome) && decide ([e].length + ([] : List Keyword).length + (if ([] : List Keyword).isEmpty then 0 else 1) < 30)) = true := by rfl)
    (hline : (apos.endLine == cpos.line) = true := by rfl) (hs : starEach [e] X.env = (false, eval e X.env) :: starEach [] X.env := by rfl) (hpl : (backTo cpos (starEach [] X.env)).any (·.1) = false := by rfl) :
    DE X Wx (.Call (.Attribute o "append" apos) [e] [] cpos) (eAppend mo me) :=
  pe_mono (pe_bm PySem.F.plainAttrs_list PySem.F.slot_list_append PySem.F.type_list_append mt_append ho (pa_cons he pa_nil hs) hbase hfew hline hs hpl) fun σ H Q ⟨B, F, ρ, s, k, h⟩ => by
    refine ⟨B, F, ρ, s, k, (Run.bind h).mono (fun w1 s1 _ h1 F1 ρ1 H1 x e1 k1 o1 _ => ?_) fun _ _ _ e => e⟩
    obtain ⟨ty, h1⟩ := lookL_ok k1 o1 h1
    refine ⟨ty, B, F1, ρ1, s1, k1, (Run.bind h1).mono (fun w2 s2 _ h2 F2 ρ2 H2 y e2 k2 o2 f2 => ?_) fun _ _ _ e => e⟩
    obtain ⟨F3, s3, d, k3, e3, rd, h3⟩ := val_ok e2 k2 o2 f2 (Run.bind h2)
    obtain ⟨a, vs, ds, ds', b, ea, h4, r4, q4, w4⟩ := mod_ok k3 (o1.mono k1 e3) (Run.bind h3)
    split at q4
    · rename_i hz
      cases q4
      refine ⟨a, vs, y, ea, rfl, h4, by rw [r4.length]; exact hz, ?_⟩
      obtain ⟨s5, k5, e5, _, h5⟩ := w4 _ (r4.append (.cons rd .nil))
      exact (Run.ret h5) F3 ρ2 _ .non ((e1.trans e3 k1.sto).trans e5 k3.sto) k5 .non trivial
    · cases q4
theorem i_popAt (ho : DE X Wx o mo) (he : DE X Wx e me) (hbase : attributeBase o "pop" X.env (eval o X.env) = eval o X.env := by rfl)
    (hfew : ((backTo cpos (starEach [e] X.env)).all (fun x => !x.1) && (backToKw cpos (keywordEach [] X.env)).all (fun x => x.1.isSome) && decide ([e].length + ([] : List Keyword).length + (if ([] : List Keyword).isEmpty then 0 else 1) < 30)) = true := by rfl)
    (hline : (apos.endLine == cpos.line) = true := by rfl) (hs : starEach [e] X.env = (false, eval e X.env) :: starEach [] X.env := by rfl) (hpl : (backTo cpos (starEach [] X.env)).any (·.1) = false := by rfl) :
    DE X Wx (.Call (.Attribute o "pop" apos) [e] [] cpos) (ePopAt mo me) :=
  pe_mono (pe_bm PySem.F.plainAttrs_list PySem.F.slot_list_pop PySem.F.type_list_pop mt_popAt ho (pa_cons he pa_nil hs) hbase hfew hline hs hpl) fun σ H Q ⟨B, F, ρ, s, k, h⟩ => by
    refine ⟨B, F, ρ, s, k, (Run.bind h).mono (fun w1 s1 _ h1 F1 ρ1 H1 x e1 k1 o1 _ => ?_) fun _ _ _ e => e⟩
    obtain ⟨ty, h1⟩ := lookL_ok k1 o1 h1
    refine ⟨ty, B, F1, ρ1, s1, k1, (Run.bind h1).mono (fun w2 s2 _ h2 F2 ρ2 H2 y e2 k2 o2 f2 => ?_) fun _ _ _ e => e⟩
    obtain ⟨d, ed, h2⟩ := Run.look h2
    obtain ⟨a, vs, ds, ds', b, ea, h4, r4, q4, w4⟩ := mod_ok k2 (o1.mono k1 e2) (Run.bind h2)
    split at q4
    · rename_i i
      split at q4
      · rename_i hz
        cases q5 : seqIndex? i ds.length with
        | none => rw [q5] at q4; cases q4
        | some j =>
          rw [q5] at q4
          have q4' : (ds[j]?).map (fun e => (ds.eraseIdx j, e)) = some (ds', b) := q4
          cases q6 : ds[j]? with
          | none => rw [q6] at q4'; cases q4'
          | some z =>
            rw [q6] at q4'
            cases q4'
            obtain ⟨u, hu, ru⟩ := r4.get q6
            have ey := (content_ok k2 o2 ed).1.int
            subst ey
            refine ⟨a, vs, i, j, u, ea, rfl, h4, hz.1, hz.2, by rw [r4.length]; exact q5, hu, ?_⟩
            obtain ⟨s5, k5, e5, x5, h5⟩ := w4 _ (r4.eraseIdx j)
            exact (Run.ret h5) F2 ρ2 _ u ((e1.trans e2 k1.sto).trans e5 k2.sto) k5 (x5.rp ru) trivial
      · cases q4
    · cases q4
theorem g_sub (ho : DE X Wx o mo) (hi : DE X Wx e mi) (ha : ∀ v, assign (.Subscript o e pos) X.env v = (do
      let ov ← holding [v] (eval o X.env)
      let iv ← holding [v, ov] (eval e X.env)
      standAt pos
      holding [v, ov, iv] (setItem ov iv v)
      release [v, ov, iv] []) := by intro _; rfl) : DG X Wx [] (.Subscript o e pos) (tSubG mo mi) :=
  pg_mono (pg_sub ho hi set_list ha) fun v σ H Q ⟨B, F, ρ, s, d, k, rp, h⟩ => by
    refine ⟨B, F, ρ, s, k, (Run.bind h).mono (fun w1 s1 _ h1 F1 ρ1 H1 x e1 k1 o1 _ => ?_) fun x s1 _ z F' ρ' H' cls d k' xo => z F' ρ' H' σ cls d k' xo⟩
    refine ⟨B, F1, ρ1, s1, k1, (Run.bind h1).mono (fun w2 s2 _ h2 F2 ρ2 H2 y e2 k2 o2 f2 => ?_) fun x s1 _ z F' ρ' H' cls d k' xo => z F' ρ' H' σ cls d k' xo⟩
    obtain ⟨kd, ek, h2⟩ := Run.look h2
    have x12 := (k.sx e1).trans (k1.sx e2)
    obtain ⟨a, vs, ds, ds', b, ea, h4, r4, q4, w4⟩ := mod_ok k2 (o1.mono k1 e2) h2
    split at q4
    · rename_i i
      cases q5 : ixN ds.length i with
      | none => rw [q5] at q4; cases q4
      | some j =>
        rw [q5] at q4
        cases q4
        have ey := (content_ok k2 o2 ek).1.int
        subst ey
        refine ⟨a, vs, i, j, ea, rfl, h4, by rw [r4.length]; exact q5, ?_⟩
        obtain ⟨s5, k5, e5, x5, h5⟩ := w4 _ (r4.set j (x12.rp rp))
        exact h5 F2 ρ2 _ σ (((e1.trans e2 k1.sto).trans e5 k2.sto).gx) .refl k5
    · cases q4
end
/-! ### what is gone through -/
def WalkD (K : PySem.W.Frag) (J : It) (ds : List D) (F1 : Fz) (H1 : Hp) : Prop := ∃ G Y, Walk J ds.length G Y ∧ (∀ F H, SX F1 H1 F H → G H) ∧
  ∀ i F H x H' d, SX F1 H1 F H → ds[i]? = some d → Y i H x H' → (H' = H ∨ ∃ p o, H p = none ∧ H' = upd H p o) ∧ Rp K F H' x d
def SI (K : PySem.W.Frag) (mg : Str → Option Value) (Wx : WX) (m : M (List D)) : TI := fun σ H R => ∃ B F ρ s, Ok K B F ρ s σ H ∧ Run m s (fun ds s' => ∀ F' ρ' H' J, Ext s σ F ρ H s' F' ρ' H' → Ok K B F' ρ' s' σ H' → WalkD K J ds F' H' → R J H') (Er K mg Wx B σ)
abbrev DI (X : Cx) (Wx : WX) (tg it : Expr) (m : M (List D)) : Prop := PI X tg it (SI X.K X.mg Wx m)
theorem pi_mono {X : Cx} {tg e : Expr} {t t' : TI} (h : PI X tg e t) (k : ∀ σ H R, t' σ H R → t σ H R) : PI X tg e t' := ⟨fun pins s σ H R I q => h.run pins s σ H R I (k _ _ _ q)⟩
theorem pi_or {X : Cx} {tg e : Expr} {t t' : TI} (h : PI X tg e t) (h' : PI X tg e t') : PI X tg e (fun σ H R => t σ H R ∨ t' σ H R) := ⟨fun pins s σ H R I q => q.elim (h.run pins s σ H R I) (h'.run pins s σ H R I)⟩
def itemsD : W → Option (List D)
  | .val (.list ds) => some ds
  | .val (.tuple ds) => some ds
  | .scr ns => some (ns.map .int)
  | _ => none
def srcV (m : M W) : M (List D) := m >>= fun w => escW w >>= fun w => ofO (itemsD w)
section
variable {K : PySem.W.Frag} {F F1 : Fz} {H H1 : Hp} {a : Addr} {vs : List V} {ds : List D}
theorem walkD_list (f : F1 a) (e : H1 a = some (.lst vs)) (r : RpAll K F1 H1 vs ds) : WalkD K (Itl K a) ds F1 H1 :=
  ⟨_, _, by rw [← r.length]; exact walk_list, fun F H x => SqL.of (x.stay a _ e (.inl f)), fun i F H x H' d sx ed y => by
    obtain ⟨v, h1, h2⟩ := r.get ed
    obtain ⟨y1, y2⟩ := y
    rw [h1] at y2
    cases y2
    subst y1
    exact ⟨.inl rfl, sx.rp h2⟩⟩
theorem walkD_tup (e : SqT K H1 a vs) (r : RpAll K F1 H1 vs ds) : WalkD K (Itt K a) ds F1 H1 :=
  ⟨_, _, by rw [← r.length]; exact walk_tup, fun F H x => sqT_stay x.stay e, fun i F H x H' d sx ed y => by
    obtain ⟨v, h1, h2⟩ := r.get ed
    obtain ⟨y1, y2⟩ := y
    rw [h1] at y2
    cases y2
    subst y1
    exact ⟨.inl rfl, sx.rp h2⟩⟩
theorem walkD_scr {ns : List Int} (e : ScrAt K H1 a ns) : WalkD K (Itl K a) (ns.map .int) F1 H1 := by
  refine ⟨fun H => SqL K H a (ns.map V.int), YAt (ns.map V.int), ?_, fun F H x => (e.mono x.stay).sq, fun i F H x H' d sx ed y => ?_⟩
  · have h := walk_list (K := K) (a := a) (xs := ns.map V.int)
    rw [List.length_map] at h ⊢
    exact h
  · obtain ⟨y1, y2⟩ := y
    subst y1
    rw [List.getElem?_map] at y2 ed
    cases q : ns[i]? with
    | none => rw [q] at ed; cases ed
    | some n =>
      rw [q] at y2 ed
      cases y2
      cases ed
      exact ⟨.inl rfl, .int n⟩
end
section
variable {X : Cx} {Wx : WX} {tg e : Expr} {m : M W}
theorem d_val (he : DE X Wx e m) : DI X Wx tg e (srcV m) := pi_mono (pi_or (pi_list he) (pi_tup he)) fun σ H R ⟨B, F, ρ, s, k, h⟩ => by
  have h1 := Run.bind h
  unfold Run at h1
  cases q : m s with
  | fail => rw [q] at h1; exact h1.elim
  | err x s1 =>
    rw [q] at h1
    refine .inl ⟨B, F, ρ, s, k, ?_⟩
    unfold Run
    rw [q]
    exact h1
  | ok w s1 =>
    rw [q] at h1
    have h2 : Run (escW w >>= fun w => ofO (itemsD w)) s1 _ _ := h1
    have h3 := Run.bind h2
    unfold Run at h3
    cases q2 : escW w s1 with
    | fail => rw [q2] at h3; exact h3.elim
    | err x s2 =>
      rw [q2] at h3
      exfalso
      cases w with
      | peek i =>
        have q2' : escSlot i s1 s1.env[i]? = .err x s2 := q2
        unfold escSlot at q2'
        split at q2' <;> cases q2'
      | _ => cases q2
    | ok w2 s2 =>
      rw [q2] at h3
      obtain ⟨ds, e3, h4⟩ := Run.ofO h3
      have step : ∀ {P : V → Hp → Prop}, (∀ F' ρ' H' x, Ok X.K B F' ρ' s2 σ H' → Ext s σ F ρ H s2 F' ρ' H' → WOk X.K B F' ρ' s2 σ H' x w2 → P x H') → EM X.K X.mg Wx m σ H P := fun {P} hp => by
        refine ⟨B, F, ρ, s, k, ?_⟩
        unfold Run
        rw [q]
        intro F1 ρ1 H1 x e1 k1 o1 f1
        obtain ⟨F', s', w', k', e', o', _, hq⟩ := esc_ok (ok := fun w s => w = w2 ∧ s = s2) (er := fun _ _ => False) k1.sto e1 k1 o1 f1 (by unfold Run; rw [q2]; exact ⟨rfl, rfl⟩)
        obtain ⟨rfl, rfl⟩ := hq
        exact hp F' ρ1 H1 x k' e' o'
      cases w2 with
      | val d =>
        cases d with
        | list ds' =>
          cases e3
          refine .inl (step fun F' ρ' H' x k' e' o' => ?_)
          cases o' with
          | lst f el r => exact ⟨_, rfl, ⟨_, SqL.of el⟩, h4 F' ρ' H' _ e' k' (walkD_list f el r)⟩
        | tuple ds' =>
          cases e3
          refine .inr (step fun F' ρ' H' x k' e' o' => ?_)
          cases o' with
          | tup el r => exact ⟨_, rfl, ⟨_, el⟩, h4 F' ρ' H' _ e' k' (walkD_tup el r)⟩
        | _ => cases e3
      | scr ns =>
        cases e3
        refine .inl (step fun F' ρ' H' x k' e' o' => ?_)
        obtain ⟨a, rfl, sc⟩ := o'
        exact ⟨_, rfl, ⟨_, sc.sq⟩, h4 F' ρ' H' _ e' k' (walkD_scr sc)⟩
      | _ => cases e3
/-! ### for, while -/
def loopF (g : D → M Unit) (b : M SR) : List D → M SR
  | [] => Pure.pure .next
  | d :: ds => g d >>= fun _ => b >>= fun r => match r with
    | .next => loopF g b ds
    | .cont => loopF g b ds
    | .brk => Pure.pure .next
    | .ret w => Pure.pure (.ret w)
def sFor (src : M (List D)) (g : D → M Unit) (b : M SR) : M SR := src >>= fun ds => loopF g b ds
def whileF (c : M Bool) (b : M SR) : Nat → M SR
  | 0 => M.fail
  | n + 1 => c >>= fun t => if t = true then b >>= fun r => (match r with
    | .next => whileF c b n
    | .cont => whileF c b n
    | .brk => Pure.pure .next
    | .ret w => Pure.pure (.ret w)) else Pure.pure .next
variable {pos : Pos} {body : List Stmt} {b : M SR} {src : M (List D)} {g : D → M Unit} {is : List Nat} {c : Expr} {c1 : M Bool}
theorem s_for {iter : Expr} (hp : PassesOwn (model X.prog X.w) X.A X.env X.xe) (hc : X.calm = true) (hi : DI X Wx tg iter src) (hg : DG X Wx is tg g) (hb : DB X Wx body b) (hs : ∀ x, foldedSetIterable iter X.env x = pure x := by intro _; rfl) : DS X Wx (.For tg iter body [] pos) (sFor src g b) :=
  ps_mono (ps_for hp hc hi hg hb hs) fun D σ H ⟨B, F, ρ, s, k, h⟩ => by
    refine ⟨B, F, ρ, s, k, (Run.bind h).mono (fun ds s1 _ h1 F1 ρ1 H1 J e1 k1 wd => ?_) fun x s1 _ z F' ρ' H' cls d k' xo => z F' ρ' H' σ cls d k' xo⟩
    obtain ⟨G, Y, wk, hG, hY⟩ := wd
    have x01 := k.sx e1
    refine for_it wk (fun i σ' H' => ∃ F' ρ' s', SX F1 H1 F' H' ∧ Ok X.K B F' ρ' s' σ' H' ∧ Run (loopF g b (ds.drop i)) s' (BEnd X.K B F H D) (BEr X.K X.mg Wx B)) ⟨F1, ρ1, s1, .refl, k1, h1⟩ (fun i σ' H' _ ⟨F', ρ', s', x', _⟩ => hG F' H' x') (fun i x σ' H' H2 hi ⟨F', ρ', s', x', k', h'⟩ y => ?_) fun σ' H' ⟨F', ρ', s', x', k', h'⟩ => ?_
    · have ed : ds[i]? = some ds[i] := List.getElem?_eq_getElem hi
      obtain ⟨hH, rp⟩ := hY i F' H' x H2 _ x' ed y
      rw [List.drop_eq_getElem_cons hi] at h'
      have kk : Ok X.K B F' ρ' s' σ' H2 ∧ SX F' H' F' H2 := by
        rcases hH with rfl | ⟨p, o, hn, rfl⟩
        · exact ⟨k', .refl⟩
        · exact ⟨k'.new hn, fun _ z => z, stay_upd hn⟩
      obtain ⟨k2, x2⟩ := kk
      refine ⟨B, F', ρ', s', ds[i], k2, rp, (Run.bind h').mono (fun _ s3 _ h3 F3 ρ3 H3 σ3 x3 y3 k3 => ?_) fun _ _ _ e => e⟩
      refine ⟨B, F3, ρ3, s3, k3, (Run.bind h3).mono (fun r s4 _ h4 F4 ρ4 H4 σ4 x4 k4 => ?_) fun _ _ _ e => e⟩
      have xx := ((x'.trans x2).trans (k2.gsx x3)).trans x4
      cases r with
      | next => exact ⟨F4, ρ4, s4, xx, k4, h4⟩
      | cont => exact ⟨F4, ρ4, s4, xx, k4, h4⟩
      | brk => exact h4 F4 ρ4 H4 σ4 (x01.trans xx) k4
      | ret w => exact h4 F4 ρ4 H4 σ4 (x01.trans xx) k4
    · rw [List.drop_length] at h'
      exact h' F' ρ' H' σ' (x01.trans x') k'
theorem s_while (n : Nat) (hp : PassesOwn (model X.prog X.w) X.A X.env X.xe) (hc : DC X Wx c c1) (hb : DB X Wx body b) : DS X Wx (.While c body [] pos) (whileF c1 b n) :=
  ps_mono (ps_while hp hc hb) fun D σ H ⟨B, F, ρ, s, k, h⟩ => by
    refine ⟨fun m σ' H' => ∃ F' ρ' s', SX F H F' H' ∧ Ok X.K B F' ρ' s' σ' H' ∧ Run (whileF c1 b m) s' (BEnd X.K B F H D) (BEr X.K X.mg Wx B), ⟨n, F, ρ, s, .refl, k, h⟩, fun m σ' H' ⟨F', ρ', s', x', k', h'⟩ => ?_⟩
    cases m with
    | zero => exact h'.elim
    | succ m =>
      refine ⟨B, F', ρ', s', k', (Run.bind h').mono (fun t s1 _ h1 F1 ρ1 H1 e1 k1 => ?_) fun x s1 _ z F' ρ' H' cls d k' xo => z F' ρ' H' σ' cls d k' xo⟩
      have x1 := x'.trans (k'.sx e1)
      cases t with
      | false => exact iteF ((Run.ret (er := BEr X.K X.mg Wx B) h1) F1 ρ1 H1 σ' x1 k1)
      | true =>
        refine iteT ⟨fun σ' H' => ∃ F' ρ' s', SX F H F' H' ∧ Ok X.K B F' ρ' s' σ' H' ∧ Run (whileF c1 b m) s' (BEnd X.K B F H D) (BEr X.K X.mg Wx B), fun σ2 H2 hh => ⟨m, Nat.lt_succ_self _, hh⟩, ?_⟩
        refine ⟨B, F1, ρ1, s1, k1, (Run.bind h1).mono (fun r s4 _ h4 F4 ρ4 H4 σ4 x4 k4 => ?_) fun _ _ _ e => e⟩
        cases r with
        | next => exact ⟨F4, ρ4, s4, x1.trans x4, k4, h4⟩
        | cont => exact ⟨F4, ρ4, s4, x1.trans x4, k4, h4⟩
        | brk => exact h4 F4 ρ4 H4 σ4 (x1.trans x4) k4
        | ret w => exact h4 F4 ρ4 H4 σ4 (x1.trans x4) k4
end
end Z
/-! Z, part 8: list comprehensions. -/
namespace Z
open PySem PySem.Spec PyProof.Rows L2

def wipeE : List (Option W) → List Nat → List (Option W)
  | env, [] => env
  | env, v :: vs => (wipeE env vs).set v none
def S.wipe (s : S) (vs : List Nat) : S := { s with env := wipeE s.env vs }
def restE : List (Option W) → List (Option W) → List Nat → List (Option W)
  | env, _, [] => env
  | env, o, v :: vs => (restE env o vs).set v ((o[v]?).getD none)
def S.rest (s o : S) (vs : List Nat) : S := { s with env := restE s.env o.env vs }
def ownFree (s : S) (vs : List Nat) : Bool := vs.all fun v => match s.env[v]? with
  | some (some (.own _)) => false
  | _ => true
def nE {α : Type} (m : M α) : M α := fun s => match m s with
  | .ok a s' => .ok a s'
  | _ => .fail
def wipeM (vs : List Nat) : M Unit := fun s => .ok () (s.wipe vs)
def compLoop (vs : List Nat) (g : D → M Unit) (c : M Bool) (e : M W) : List D → List D → M (List D)
  | [], acc => Pure.pure acc
  | d :: ds, acc => nE (g d) >>= fun _ => nE c >>= fun b => if b = true then nE e >>= fun w => toVal w >>= fun y => if acc.length < sizeLine then wipeM vs >>= fun _ => compLoop vs g c e ds (acc ++ [y]) else M.fail else wipeM vs >>= fun _ => compLoop vs g c e ds acc
/-- [e for target in source if c] -/
def lcM (vs : List Nat) (body : M (List D)) : M W := fun s => if ownFree s vs = true then (match body (s.wipe vs) with
  | .ok r s' => .ok (.own r) (s'.rest s vs)
  | _ => .fail) else .fail
def eLc (vs : List Nat) (src : M (List D)) (g : D → M Unit) (c : M Bool) (e : M W) : M W := src >>= fun ds => lcM vs (compLoop vs g c e ds [])
def cTrue : M Bool := Pure.pure true
section
variable {K : PySem.W.Frag} {mg : Str → Option Value} {Wx : WX} {B : Base} {F F0 F' F1 F2 : Fz} {ρ ρ0 ρ' ρ1 ρ2 : List Addr} {s s0 s' s1 s2 : S} {σ σ' σ1 σ2 : Sg} {H Hs H' H1 H2 : Hp} {v : V} {w : W} {p : Addr} {o : HO} {d : D} {i : Nat} {is js vs : List Nat}
theorem Run.nE {α : Type} {m : M α} {ok : α → S → Prop} {er er' : Exc → S → Prop} (h : Run (Z.nE m) s ok er) : Run m s ok er' := by
  unfold Run Z.nE at h
  unfold Run
  cases q : m s with
  | fail => rw [q] at h; exact h.elim
  | ok a s' => rw [q] at h; exact h
  | err x s' => rw [q] at h; exact h.elim
theorem wipeE_length (env : List (Option W)) : ∀ vs : List Nat, (wipeE env vs).length = env.length
  | [] => rfl
  | v :: vs => by unfold wipeE; rw [List.length_set, wipeE_length env vs]
theorem wipeE_get {env : List (Option W)} {w : W} : ∀ {vs : List Nat}, (wipeE env vs)[i]? = some (some w) → i ∉ vs ∧ env[i]? = some (some w)
  | [], h => ⟨by simp, h⟩
  | v :: vs, h => by
    have h : ((wipeE env vs).set v none)[i]? = some (some w) := h
    rcases env_set h with ⟨_, h⟩ | ⟨hi, h⟩
    · cases h
    · obtain ⟨h1, h2⟩ := wipeE_get h
      exact ⟨by simp [hi, h1], h2⟩
theorem wipeS_get : ∀ {vs : List Nat}, i ∉ vs → (L2.wipe σ vs)[i]? = σ[i]?
  | [], _ => rfl
  | v :: vs, h => by
    have hv : v ≠ i := fun z => h (by rw [z]; exact List.mem_cons_self)
    have hr : i ∉ vs := fun z => h (List.mem_cons_of_mem _ z)
    show ((L2.wipe σ vs).set v none)[i]? = σ[i]?
    rw [List.getElem?_set_ne hv]
    exact wipeS_get hr
theorem wipeS_in : ∀ {vs : List Nat}, i ∈ vs → i < σ.length → (L2.wipe σ vs)[i]? = some none
  | v :: vs, h, hl => by
    show ((L2.wipe σ vs).set v none)[i]? = some none
    by_cases hv : v = i
    · subst hv
      rw [List.getElem?_set_self (by rw [wipe_length]; exact hl)]
    · rw [List.getElem?_set_ne hv]
      rcases List.mem_cons.mp h with z | z
      · exact absurd z.symm hv
      · exact wipeS_in z hl
theorem wipe_eq (h : SO is (L2.wipe σ vs) σ2) (hs : ∀ j ∈ is, j ∈ vs) : L2.wipe σ2 vs = L2.wipe σ vs := by
  have hl : σ2.length = σ.length := h.1.trans (wipe_length σ vs)
  refine List.ext_getElem? fun j => ?_
  by_cases hj : j ∈ vs
  · by_cases hjl : j < σ.length
    · rw [wipeS_in hj (by rw [hl]; exact hjl), wipeS_in hj hjl]
    · rw [List.getElem?_eq_none (by rw [wipe_length]; omega), List.getElem?_eq_none (by rw [wipe_length]; omega)]
  · rw [wipeS_get hj, h.2 j (fun z => hj (hs j z)), wipeS_get hj]
theorem wipe_wipe : L2.wipe (L2.wipe σ vs) vs = L2.wipe σ vs := wipe_eq (is := vs) ⟨rfl, fun _ _ => rfl⟩ (fun _ z => z)
theorem owned_wipe {a : Addr} (h : OwnedBy (s.wipe vs) (L2.wipe σ vs) a) : OwnedBy s σ a := by
  obtain ⟨j, ds, e1, e2⟩ := h
  obtain ⟨h1, h2⟩ := wipeE_get e1
  exact ⟨j, ds, h2, by rw [← wipeS_get h1]; exact e2⟩
theorem Ok.wipe_ (k : Ok K B F ρ s σ H) (vs : List Nat) : Ok K B F ρ (s.wipe vs) (L2.wipe σ vs) H where
  len := by
    show (wipeE s.env vs).length = _
    rw [wipeE_length, wipe_length]; exact k.len
  base := k.base
  trk := k.trk
  sto := k.sto
  env := fun j w e => by
    obtain ⟨h1, h2⟩ := wipeE_get e
    obtain ⟨v, e1, e2⟩ := k.env j w h2
    exact ⟨v, by rw [wipeS_get h1]; exact e1, e2⟩
  sep := fun j l ds es a e1 e2 e3 e4 => by
    obtain ⟨h1, g1⟩ := wipeE_get e1
    obtain ⟨h2, g2⟩ := wipeE_get e2
    rw [wipeS_get h1] at e3
    rw [wipeS_get h2] at e4
    exact k.sep j l ds es a g1 g2 e3 e4
theorem gx_wipe : GX s σ F ρ H (s.wipe vs) (L2.wipe σ vs) F ρ H := ⟨fun _ z => z, ⟨[], by simp⟩, fun _ z => .inl z, fun _ _ z _ _ => z, fun _ z => z, fun _ z => .inl z, fun _ z => owned_wipe z⟩
theorem restE_length (env o : List (Option W)) : ∀ vs : List Nat, (restE env o vs).length = env.length
  | [] => rfl
  | v :: vs => by unfold restE; rw [List.length_set, restE_length env o vs]
theorem restE_get {env o : List (Option W)} {w : W} : ∀ {vs : List Nat}, (restE env o vs)[i]? = some (some w) → (i ∈ vs ∧ o[i]? = some (some w)) ∨ (i ∉ vs ∧ env[i]? = some (some w))
  | [], h => .inr ⟨by simp, h⟩
  | v :: vs, h => by
    have h : ((restE env o vs).set v ((o[v]?).getD none))[i]? = some (some w) := h
    rcases env_set h with ⟨hi, h⟩ | ⟨hi, h⟩
    · subst hi
      refine .inl ⟨List.mem_cons_self, ?_⟩
      cases q : o[i]? with
      | none => rw [q] at h; cases h
      | some x => rw [q] at h; exact congrArg some h
    · rcases restE_get h with ⟨h1, h2⟩ | ⟨h1, h2⟩
      · exact .inl ⟨List.mem_cons_of_mem _ h1, h2⟩
      · exact .inr ⟨by simp [hi, h1], h2⟩
theorem ownFree_ok (h : ownFree s vs = true) (hi : i ∈ vs) (ds : List D) : s.env[i]? ≠ some (some (.own ds)) := fun e => by
  have := List.all_eq_true.mp h i hi
  rw [e] at this
  cases this
theorem not_owned (k : Ok K B F ρ s σ H) {a : Addr} {vs' : List V} (h1 : H a = some (.lst vs')) : True := trivial
/-- behind the block -/
theorem Ok.restore (k : Ok K B F ρ s σ H) (hf : ownFree s vs = true) (x : GX (s.wipe vs) (L2.wipe σ vs) F ρ H s' (L2.wipe σ vs) F' ρ' H') (k' : Ok K B F' ρ' s' (L2.wipe σ vs) H') : Ok K B F' ρ' (s'.rest s vs) σ H' ∧ Ext s σ F ρ H (s'.rest s vs) F' ρ' H' := by
  have sx : SX F H F' H' := (k.wipe_ vs).gsx x
  have ow : ∀ a, OwnedBy (s'.rest s vs) σ a → OwnedBy s' (L2.wipe σ vs) a := fun a z => by
    obtain ⟨j, ds, e1, e2⟩ := z
    rcases restE_get e1 with ⟨h1, h2⟩ | ⟨h1, h2⟩
    · exact absurd h2 (ownFree_ok hf h1 ds)
    · exact ⟨j, ds, h2, by rw [wipeS_get h1]; exact e2⟩
  refine ⟨{
    len := by
      show (restE s'.env s.env vs).length = _
      rw [restE_length, k'.len, wipe_length]
    base := k'.base
    trk := k'.trk
    sto := k'.sto
    env := fun j w e => by
      rcases restE_get e with ⟨h1, h2⟩ | ⟨h1, h2⟩
      · obtain ⟨v, e1, e2⟩ := k.env j w h2
        refine ⟨v, e1, ?_⟩
        cases w with
        | val d => exact sx.rp e2
        | own ds => exact absurd h2 (ownFree_ok hf h1 ds)
        | ref n =>
          obtain ⟨a, q1, q2⟩ := e2
          obtain ⟨m, em⟩ := x.rho
          refine ⟨a, q1, ?_⟩
          rw [em]
          obtain ⟨hn, _⟩ := List.getElem?_eq_some_iff.mp q2
          rw [List.getElem?_append_left hn]; exact q2
        | peek j => exact e2
        | scr ns =>
          obtain ⟨a, q1, q2⟩ := e2
          exact ⟨a, q1, q2.mono sx.stay⟩
        | fn x => exact e2
        | exc xx => exact ExV.st e2 sx.stay sx.sub
      · obtain ⟨v, e1, e2⟩ := k'.env j w h2
        exact ⟨v, by rw [← wipeS_get h1]; exact e1, e2⟩
    sep := fun j l ds es a e1 e2 e3 e4 => by
      rcases restE_get e1 with ⟨h1, g1⟩ | ⟨h1, g1⟩
      · exact absurd g1 (ownFree_ok hf h1 ds)
      · rcases restE_get e2 with ⟨h2, g2⟩ | ⟨h2, g2⟩
        · exact absurd g2 (ownFree_ok hf h2 es)
        · exact k'.sep j l ds es a g1 g2 (by rw [wipeS_get h1]; exact e3) (by rw [wipeS_get h2]; exact e4) }, ⟨x.sub, x.rho, x.new, fun a o e n no => x.keep a o e n fun z => no (owned_wipe z), x.th, fun a z => ?_, fun a z => owned_wipe (x.ow a (ow a z))⟩⟩
  rcases x.fz a z with z | z | z
  · exact .inl z
  · exact .inr (.inl z)
  · exact .inr (.inr (owned_wipe z))
/-- the list that a comprehension fills, within its block -/
structure Acc (K : PySem.W.Frag) (F : Fz) (ρ : List Addr) (s : S) (σ : Sg) (H : Hp) (L : Addr) (acc : List D) : Prop where
  at_ : ∃ vs, H L = some (.lst vs) ∧ RpAll K F H vs acc
  nF : ¬ F L
  nρ : L ∉ ρ
  nO : ¬ OwnedBy s σ L
theorem Acc.mono {L : Addr} {acc : List D} (a : Acc K F ρ s σ H L acc) (k : Ok K B F ρ s σ H) (x : GX s σ F ρ H s' σ' F' ρ' H') : Acc K F' ρ' s' σ' H' L acc := by
  obtain ⟨vs, h1, h2⟩ := a.at_
  refine ⟨⟨vs, x.keep L _ h1 a.nρ a.nO, (k.gsx x).rpAll h2⟩, fun z => ?_, fun z => ?_, fun z => a.nO (x.ow L z)⟩
  · rcases x.fz L z with z | z | z
    · exact a.nF z
    · rw [h1] at z; cases z
    · exact a.nO z
  · rcases x.new L z with z | z
    · exact a.nρ z
    · rw [h1] at z; cases z
/-- an item joins it -/
theorem Acc.push {L : Addr} {acc : List D} {y : V} (a : Acc K F ρ s σ H L acc) (hB : B.H L = none) (k : Ok K B F ρ s σ H) (r : Rp K F H y d) : ∃ vs, H L = some (.lst vs) ∧ vs.length = acc.length ∧ Ok K B F ρ s σ (upd H L (.lst (vs ++ [y]))) ∧ Acc K F ρ s σ (upd H L (.lst (vs ++ [y]))) L (acc ++ [d]) := by
  obtain ⟨vs, h1, h2⟩ := a.at_
  have st : Stay F H (upd H L (.lst (vs ++ [y]))) := stay_write h1 a.nF
  have ne : ∀ {b}, OwnedBy s σ b → b ≠ L := fun z e => a.nO (e ▸ z)
  refine ⟨vs, h1, h2.length, {
    len := k.len
    base := ⟨k.base.sub, k.base.rho, k.base.new, fun b o q n => by
      have : b ≠ L := fun z => by rw [z, hB] at q; cases q
      rw [upd_ne this]; exact k.base.keep b o q n, k.base.fz⟩
    trk := fun b f => by
      have : b ≠ L := fun z => a.nF (z ▸ f)
      rw [upd_ne this]; exact k.trk b f
    sto := ⟨k.sto.len, k.sto.nd, fun n es q => by
      obtain ⟨b, us, q1, q2, q3, q4⟩ := k.sto.at_ n es q
      have : b ≠ L := fun z => a.nρ (z ▸ List.mem_of_getElem? q1)
      exact ⟨b, us, q1, q2, by rw [upd_ne this]; exact q3, q4.st st fun _ z => z⟩⟩
    env := fun j w q => by
      obtain ⟨v', q1, q2⟩ := k.env j w q
      refine ⟨v', q1, ?_⟩
      cases w with
      | val d => exact Rp.st q2 st fun _ z => z
      | own es =>
        obtain ⟨b, us, z1, z2, z3, z4, z5, z6⟩ := q2
        have : b ≠ L := ne ⟨j, es, q, by rw [q1, z1]⟩
        exact ⟨b, us, z1, by rw [upd_ne this]; exact z2, z3.st st fun _ z => z, z4, z5, z6⟩
      | ref n => exact q2
      | peek j => exact q2
      | scr ns =>
        obtain ⟨b, z1, z2⟩ := q2
        exact ⟨b, z1, z2.mono st⟩
      | fn x => exact q2
      | exc xx => exact ExV.st q2 st fun _ z => z
    sep := k.sep }, ⟨⟨_, upd_same, (h2.append (.cons r .nil)).st st fun _ z => z⟩, a.nF, a.nρ, a.nO⟩⟩
/-- the block's change as the outside sees it: L is new -/
theorem gx_push {L : Addr} {vs' : List V} (x : GX s σ F ρ H s' σ' F' ρ' H') (h : H L = none) : GX s σ F ρ H s' σ' F' ρ' (upd H' L (.lst vs')) :=
  ⟨x.sub, x.rho, x.new, fun a o e n no => by
    have : a ≠ L := fun z => by rw [z, h] at e; cases e
    rw [upd_ne this]; exact x.keep a o e n no, fun a e => x.th a (upd_none e), x.fz, x.ow⟩
end
section
variable {X : Cx} {Wx : WX} {tg e iter : Expr} {m : M W} {src : M (List D)} {g : D → M Unit} {c1 : M Bool} {is : List Nat} {ifs : List Expr} {scope : Scope} {own : List (Str × Nat)} {pos : Pos}
abbrev Wx0 : WX := fun _ _ _ _ => False
abbrev DTs (X : Cx) (ifs : List Expr) (m : M Bool) : Prop := PTs X ifs (CM X.K X.mg Wx0 m)
theorem t_nil : DTs X [] cTrue := ⟨fun pins s σ H Q I ⟨B, F, ρ, s', k, h⟩ => pts_nil.run pins s σ H Q I ((Run.ret h) F ρ H .refl k)⟩
theorem t_one {c : Expr} (h : DC X Wx0 c c1) : DTs X [c] c1 := pts_one h
/-- what a turn of the block asks, from its state -/
theorem turn_ok {K : PySem.W.Frag} {mg : Str → Option Value} {B : Base} {L : Addr} {vs : List Nat} {σ : Sg} {d : D} {ds acc : List D} {s0 s : S} {F0 F : Fz} {ρ0 ρ : List Addr} {Hs H : Hp} {x : V} {R : List D → S → Prop} {er : Exc → S → Prop} {Nx : Hp → Prop}
    (his : ∀ j ∈ is, j ∈ vs) (hL : Hs L = none) (hB : B.H L = none) (gx : GX s0 (L2.wipe σ vs) F0 ρ0 Hs s (L2.wipe σ vs) F ρ H) (k : Ok K B F ρ s (L2.wipe σ vs) H) (a : Acc K F ρ s (L2.wipe σ vs) H L acc) (rp : Rp K F H x d) (h : Run (compLoop vs g c1 m (d :: ds) acc) s R er)
    (hn : ∀ F' ρ' s' H' acc', GX s0 (L2.wipe σ vs) F0 ρ0 Hs s' (L2.wipe σ vs) F' ρ' H' → Ok K B F' ρ' s' (L2.wipe σ vs) H' → Acc K F' ρ' s' (L2.wipe σ vs) H' L acc' → Run (compLoop vs g c1 m ds acc') s' R er → Nx H') :
    GM K mg Wx0 is g x (L2.wipe σ vs) H fun σ2 H2 => L2.wipe σ2 vs = L2.wipe σ vs ∧ CM K mg Wx0 c1 σ2 H2 fun b H3 => if b = true then EM K mg Wx0 m σ2 H3 fun y H4 => ∃ acc, H4 L = some (.lst acc) ∧ acc.length < sizeLine ∧ Nx (upd H4 L (.lst (acc ++ [y]))) else Nx H3 := by
  refine ⟨B, F, ρ, s, d, k, rp, (Run.nE (Run.bind h)).mono (fun _ s1 _ h1 F1 ρ1 H1 σ1 g1 so k1 => ?_) fun _ _ _ z => z⟩
  have ew := wipe_eq so his
  refine ⟨ew, B, F1, ρ1, s1, k1, (Run.nE (Run.bind h1)).mono (fun b s2 _ h2 F2 ρ2 H2 e2 k2 => ?_) fun _ _ _ z => z⟩
  have a2 := (a.mono k g1).mono k1 e2.gx
  cases b with
  | false =>
    refine iteF ?_
    have h3 : Run (compLoop vs g c1 m ds acc) (s2.wipe vs) R er := Run.bind (m := wipeM vs) h2
    have k3 := k2.wipe_ vs
    rw [ew] at k3
    have gw : GX s2 σ1 F2 ρ2 H2 (s2.wipe vs) (L2.wipe σ vs) F2 ρ2 H2 := by rw [← ew]; exact gx_wipe
    exact hn F2 ρ2 _ H2 acc (((gx.trans g1).trans e2.gx).trans gw) k3 (a2.mono k2 gw) h3
  | true =>
    refine iteT ⟨B, F2, ρ2, s2, k2, (Run.nE (Run.bind h2)).mono (fun w s3 _ h3 F3 ρ3 H3 y e3 k3 o3 f3 => ?_) fun _ _ _ z => z⟩
    obtain ⟨F4, s4, dy, k4, e4, ry, h4⟩ := val_ok e3 k3 o3 f3 (Run.bind h3)
    have a4 := a2.mono k2 e4.gx
    by_cases hz : acc.length < sizeLine
    · have h5 : Run (if acc.length < sizeLine then wipeM vs >>= fun _ => compLoop vs g c1 m ds (acc ++ [dy]) else M.fail) s4 R er := h4
      rw [if_pos hz] at h5
      have h6 : Run (compLoop vs g c1 m ds (acc ++ [dy])) (s4.wipe vs) R er := Run.bind (m := wipeM vs) h5
      obtain ⟨us, q1, q2, k5, a5⟩ := a4.push hB k4 ry
      have k6 := k5.wipe_ vs
      rw [ew] at k6
      have gw : GX s4 σ1 F4 ρ3 (upd H3 L (.lst (us ++ [y]))) (s4.wipe vs) (L2.wipe σ vs) F4 ρ3 (upd H3 L (.lst (us ++ [y]))) := by rw [← ew]; exact gx_wipe
      have gall := (((gx.trans g1).trans e2.gx).trans e4.gx)
      exact ⟨us, q1, by rw [q2]; exact hz, hn F4 ρ3 _ _ _ ((gx_push gall hL).trans gw) k6 (a5.mono k5 gw) h6⟩
    · have h5 : Run (if acc.length < sizeLine then wipeM vs >>= fun _ => compLoop vs g c1 m ds (acc ++ [dy]) else M.fail) s4 R er := h4
      rw [if_neg hz] at h5
      exact h5.elim
theorem lc_step {K : PySem.W.Frag} {mg : Str → Option Value} {σ : Sg} {H : Hp} {Q : VK} {vs : List Nat} (his : ∀ j ∈ is, j ∈ vs) (h : EM K mg Wx (eLc vs src g c1 m) σ H Q) :
    tLc (SI K mg Wx src) (GM K mg Wx0 is g) (CM K mg Wx0 c1) (EM K mg Wx0 m) vs σ H Q := by
  obtain ⟨B, F, ρ, s, k, h⟩ := h
  refine ⟨B, F, ρ, s, k, (Run.bind h).mono (fun ds s1 _ h1 F1 ρ1 H1 J e1 k1 wd => ?_) fun _ _ _ z => z⟩
  intro L hL
  have h1' : Run (lcM vs (compLoop vs g c1 m ds [])) s1 (Post K B σ s F ρ H Q) (Er K mg Wx B σ) := h1
  by_cases hf : ownFree s1 vs = true
  · have hb : Run (compLoop vs g c1 m ds []) (s1.wipe vs) (fun r s' => Post K B σ s F ρ H Q (.own r) (s'.rest s1 vs)) (fun _ _ => False) := by
      unfold Run lcM at h1'
      rw [if_pos hf] at h1'
      unfold Run
      cases q : compLoop vs g c1 m ds [] (s1.wipe vs) with
      | fail => rw [q] at h1'; exact h1'.elim
      | err x s' => rw [q] at h1'; exact h1'.elim
      | ok r s' => rw [q] at h1'; exact h1'
    obtain ⟨G, Y, wk, hG, hY⟩ := wd
    have hB := k1.fresh hL
    have kw := k1.wipe_ vs
    have kw0 := kw.new (o := .lst []) hL
    have inv0 : GX (s1.wipe vs) (L2.wipe σ vs) F1 ρ1 H1 (s1.wipe vs) (L2.wipe σ vs) F1 ρ1 (upd H1 L (.lst [])) := (Ext.new_ hL).gx
    have acc0 : Acc K F1 ρ1 (s1.wipe vs) (L2.wipe σ vs) (upd H1 L (.lst [])) L [] := ⟨⟨[], upd_same, .nil⟩, kw.nF hL, kw.nρ hL, kw.nO hL⟩
    refine lc_it wk (fun i H' => ∃ F' ρ' s' acc, GX (s1.wipe vs) (L2.wipe σ vs) F1 ρ1 H1 s' (L2.wipe σ vs) F' ρ' H' ∧ Ok K B F' ρ' s' (L2.wipe σ vs) H' ∧ Acc K F' ρ' s' (L2.wipe σ vs) H' L acc ∧ Run (compLoop vs g c1 m (ds.drop i) acc) s' (fun r s' => Post K B σ s F ρ H Q (.own r) (s'.rest s1 vs)) (fun _ _ => False))
      ⟨F1, ρ1, s1.wipe vs, [], inv0, kw0, acc0, hb⟩ (fun i H' _ ⟨F', ρ', s', acc, x', _⟩ => hG F' H' (kw.gsx x')) (fun i x H' H2 hi ⟨F', ρ', s', acc, x', k', a', h'⟩ y => ?_) fun H' ⟨F', ρ', s', acc, x', k', a', h'⟩ => ?_
    · have ed : ds[i]? = some ds[i] := List.getElem?_eq_getElem hi
      obtain ⟨hH, rp⟩ := hY i F' H' x H2 _ (kw.gsx x') ed y
      rw [List.drop_eq_getElem_cons hi] at h'
      have kk : Ok K B F' ρ' s' (L2.wipe σ vs) H2 ∧ GX s' (L2.wipe σ vs) F' ρ' H' s' (L2.wipe σ vs) F' ρ' H2 := by
        rcases hH with rfl | ⟨p, o, hn, rfl⟩
        · exact ⟨k', .refl⟩
        · exact ⟨k'.new hn, (Ext.new_ hn).gx⟩
      obtain ⟨k2, x2⟩ := kk
      exact turn_ok his hL hB (x'.trans x2) k2 (a'.mono k' x2) rp h' fun F3 ρ3 s3 H3 acc3 g3 k3 a3 h3 => ⟨F3, ρ3, s3, acc3, g3, k3, a3, h3⟩
    · rw [List.drop_length] at h'
      obtain ⟨kr, er⟩ := Ok.restore k1 hf x' k'
      obtain ⟨us, q1, q2⟩ := a'.at_
      have ow : ¬ OwnedBy (s'.rest s1 vs) σ L := fun z => by
        have := er.ow L z
        exact k1.nO hL this
      exact (Run.ret (er := fun _ _ => False) h') F' ρ' H' _ (e1.trans er k1.sto) kr ⟨L, us, rfl, q1, q2, a'.nF, a'.nρ, ow, hB⟩ fun a e => by cases e; exact e1.th L hL
  · unfold Run lcM at h1'
    rw [if_neg hf] at h1'
    exact h1'.elim
theorem i_lc (hc : X.calm = true) (hN : X.N.Nodup) (hi : DI X Wx tg iter src) (ok : BlkOk X.N X.env.scope scope own)
    (hg : ∀ (s : Shared) (H : Hp) (C : Addr) (cl : List (Str × Addr)) (fp : List Addr), DG (X.blk s H scope (compEnvC scope cl C X.env) fp) Wx0 is tg g)
    (ht : ∀ (s : Shared) (H : Hp) (C : Addr) (cl : List (Str × Addr)) (fp : List Addr), DTs (X.blk s H scope (compEnvC scope cl C X.env) fp) ifs c1)
    (he : ∀ (s : Shared) (H : Hp) (C : Addr) (cl : List (Str × Addr)) (fp : List Addr), DE (X.blk s H scope (compEnvC scope cl C X.env) fp) Wx0 e m) (his : ∀ j ∈ is, j ∈ own.map (·.2)) (hs : ∀ x, foldedSetIterable iter X.env x = pure x := by intro _; rfl) :
    DE X Wx (.ListComp e [⟨tg, iter, ifs, 0⟩] scope pos) (eLc (own.map (·.2)) src g c1 m) :=
  pe_mono (pe_lc hc hN hi ok hg ht he hs) fun σ H Q h => lc_step his h
theorem s_setLc {i : Nat} {y : Str} {py spos : Pos} (hc : X.calm = true) (hN : X.N.Nodup) (hy : X.N[i]? = some y) (hyl : X.env.scope.names.lookup y = some .local)
    (hsw : swapsWith (.ListComp e [⟨tg, iter, ifs, 0⟩] scope pos) (some (.Name y py)) spos.line X.env = pure true) (hi : DI X Wx tg iter src) (ok : BlkOk X.N X.env.scope scope own)
    (hg : ∀ (s : Shared) (H : Hp) (C : Addr) (cl : List (Str × Addr)) (fp : List Addr), DG (X.blk s H scope (compEnvC scope cl C X.env) fp) Wx0 is tg g)
    (ht : ∀ (s : Shared) (H : Hp) (C : Addr) (cl : List (Str × Addr)) (fp : List Addr), DTs (X.blk s H scope (compEnvC scope cl C X.env) fp) ifs c1)
    (he : ∀ (s : Shared) (H : Hp) (C : Addr) (cl : List (Str × Addr)) (fp : List Addr), DE (X.blk s H scope (compEnvC scope cl C X.env) fp) Wx0 e m) (his : ∀ j ∈ is, j ∈ own.map (·.2)) (hs : ∀ x, foldedSetIterable iter X.env x = pure x := by intro _; rfl) :
    DS X Wx (.Assign [.Name y py] (.ListComp e [⟨tg, iter, ifs, 0⟩] scope pos) spos) (sAsg i (eLc (own.map (·.2)) src g c1 m)) :=
  ps_mono (ps_setLc hc hN hy hyl hsw hi ok hg ht he hs) fun D σ H h => lc_step his (asg_step h)
end
end Z
/-! Z, part 9: subscripts, slices, built-ins, what is gone through, calls with keywords. -/
namespace Z
open PySem PySem.Spec PyProof.Rows L2

/-! ### items and slices -/
def ixD : D → D → Option W
  | .list ds, .int i => (atI ds i).map .val
  | .tuple ds, .int i => (atI ds i).map .val
  | .str z, .int i => if z.length ≤ sizeLine then (atI z.cps.toList i).map fun c => .val (.str ⟨#[c]⟩) else none
  | _, _ => none
def opLk (f : D → D → Option W) (m1 m2 : M W) : M W := m1 >>= fun a => m2 >>= fun b => look a >>= fun x => look b >>= fun y => ofO (f x y)
def op1 (f : D → Option W) (m : M W) : M W := m >>= fun a => look a >>= fun x => ofO (f x)
def pNone : M (Option Int) := Pure.pure none
def pSome (m : M W) : M (Option Int) := m >>= fun a => look a >>= fun d => match d with
  | .int i => Pure.pure (some i)
  | _ => M.fail
def cutL {α : Type} (xs : List α) (lo hi : Option Int) : List α := (xs.drop (HT.sIx xs.length 0 lo)).take (HT.sIx xs.length xs.length hi - HT.sIx xs.length 0 lo)
def slD (d : D) (lo hi : Option Int) : Option W := match d with
  | .list ds => some (.own (cutL ds lo hi))
  | .tuple ds => some (.val (.tuple (cutL ds lo hi)))
  | .str z => if z.length ≤ sizeLine then some (.val (.str (cutS z lo hi))) else none
  | _ => none
def eSl (m : M W) (l h : M (Option Int)) : M W := m >>= fun a => l >>= fun lo => h >>= fun hi => look a >>= fun d => ofO (slD d lo hi)
section
variable {K : PySem.W.Frag} {mg : Str → Option Value} {Wx : WX} {B : Base} {F : Fz} {ρ : List Addr} {s : S} {σ : Sg} {H : Hp} {vs : List V} {ds : List D}
theorem RpAll.atI {i : Int} {d : D} (r : RpAll K F H vs ds) (e : L2.atI ds i = some d) : ∃ v, L2.atI vs i = some v ∧ Rp K F H v d := by
  unfold L2.atI at e ⊢
  rw [r.length]
  cases q : ixN ds.length i with
  | none => rw [q] at e; cases e
  | some j =>
    rw [q] at e
    exact r.get e
theorem RpAll.cut (lo hi : Option Int) (r : RpAll K F H vs ds) : RpAll K F H (cutV vs lo hi) (cutL ds lo hi) := by
  unfold cutV cutL
  rw [r.length]
  exact (r.drop _).take _
theorem cutL_length {α : Type} (xs : List α) (lo hi : Option Int) : (cutL xs lo hi).length ≤ xs.length := by
  unfold cutL
  rw [List.length_take, List.length_drop]
  omega
def PostO (K : PySem.W.Frag) (B : Base) (σ : Sg) (s : S) (F : Fz) (ρ : List Addr) (H : Hp) (Q : Option Int → Hp → Prop) (b : Option Int) (s' : S) : Prop :=
  ∀ F' ρ' H', Ext s σ F ρ H s' F' ρ' H' → Ok K B F' ρ' s' σ H' → Q b H'
def OM (K : PySem.W.Frag) (mg : Str → Option Value) (Wx : WX) (m : M (Option Int)) : TO := fun σ H Q => ∃ B F ρ s, Ok K B F ρ s σ H ∧ Run m s (PostO K B σ s F ρ H Q) (Er K mg Wx B σ)
end
section
variable {X : Cx} {Wx : WX} {pos p p2 : Pos} {a b e : Expr} {m m1 m2 : M W} {lo hi : Option Expr} {ml mh : M (Option Int)} {x : Str}
theorem i_ix (ha : DE X Wx a m1) (hb : DE X Wx b m2) (hs : PlainIx b := by intro _ _; rfl) : DE X Wx (.Subscript a b pos) (opLk ixD m1 m2) :=
  pe_mono (pe_ix ix_seq ha hb hs) fun σ H Q h => em_bin (P := fun x y H2 => rIx X.K x y H2 Q) (fun {B F ρ s H _ _ _ _} k o1 o2 h => by
    obtain ⟨d1, e1, h⟩ := Run.look h
    obtain ⟨d2, e2, h⟩ := Run.look h
    obtain ⟨w, e3, h⟩ := Run.ofO h
    have l1 := (content_ok k o1 e1).1
    have l2 := (content_ok k o2 e2).1
    unfold ixD at e3
    split at e3
    · rename_i ds i _
      cases q : atI ds i with
      | none => rw [q] at e3; cases e3
      | some d =>
        rw [q] at e3
        cases e3
        obtain ⟨p, vs, rfl, sq, r⟩ := l1.list
        obtain ⟨v, q1, q2⟩ := r.atI q
        exact .inl ⟨p, vs, i, v, rfl, l2.int, sq, q1, h.val k q2⟩
    · rename_i ds i _
      cases q : atI ds i with
      | none => rw [q] at e3; cases e3
      | some d =>
        rw [q] at e3
        cases e3
        obtain ⟨p, vs, rfl, sq, r⟩ := l1.tup
        obtain ⟨v, q1, q2⟩ := r.atI q
        exact .inr (.inl ⟨p, vs, i, v, rfl, l2.int, sq, q1, h.val k q2⟩)
    · rename_i z i _
      split at e3
      · rename_i hz
        cases q : atI z.cps.toList i with
        | none => rw [q] at e3; cases e3
        | some c =>
          rw [q] at e3
          cases e3
          exact .inr (.inr ⟨z, i, c, l1.str, l2.int, hz, q, h.val k (.str _)⟩)
      · cases e3
    · cases e3) h
theorem po_mono {e : Option Expr} {t t' : TO} (h : PO X e t) (k : ∀ σ H Q, t' σ H Q → t σ H Q) : PO X e t' := ⟨fun pins s σ H Q I q => h.run pins s σ H Q I (k _ _ _ q)⟩
abbrev DO (X : Cx) (Wx : WX) (e : Option Expr) (m : M (Option Int)) : Prop := PO X e (OM X.K X.mg Wx m)
theorem o_none : DO X Wx none pNone := po_mono po_none fun σ H Q ⟨B, F, ρ, s, k, h⟩ => (Run.ret h) F ρ H .refl k
theorem o_some (he : DE X Wx e m) : DO X Wx (some e) (pSome m) := po_mono (po_some he) fun σ H Q ⟨B, F, ρ, s, k, h⟩ => ⟨B, F, ρ, s, k, (Run.bind h).mono (fun w s1 _ h1 F1 ρ1 H1 v e1 k1 o1 _ => by
  obtain ⟨d, ed, h2⟩ := Run.look h1
  cases d with
  | int i =>
    have := (content_ok k1 o1 ed).1.int
    subst this
    exact ⟨i, rfl, (Run.ret h2) F1 ρ1 H1 e1 k1⟩
  | _ => exact h2.elim) fun _ _ _ z => z⟩
def rSl_ (K : PySem.W.Frag) : V → Option Int → Option Int → Hp → VK → Prop := fun x lo hi H Q => rSlL K x lo hi H Q ∨ rSlA K x lo hi H Q ∨ rSlS x lo hi H Q
theorem sl_any : SlR X (rSl_ X.K) := sl_list.or (sl_tupA.or sl_str)
theorem cut_whole {α : Type} {xs : List α} {lo hi : Option Int} (h : HT.sIx xs.length 0 lo = 0 ∧ HT.sIx xs.length xs.length hi = xs.length) : cutL xs lo hi = xs := by
  unfold cutL
  rw [h.1, h.2]
  simp
theorem i_sl (ha : DE X Wx a m) (hl : DO X Wx lo ml) (hh : DO X Wx hi mh) : DE X Wx (.Subscript a (.Slice lo hi none p2) pos) (eSl m ml mh) :=
  pe_mono (pe_slice sl_any ha hl hh) fun σ H Q ⟨B, F, ρ, s, k, h⟩ => by
    refine ⟨B, F, ρ, s, k, (Run.bind h).mono (fun w1 s1 _ h1 F1 ρ1 H1 x e1 k1 o1 _ => ?_) fun _ _ _ z => z⟩
    refine ⟨B, F1, ρ1, s1, k1, (Run.bind h1).mono (fun lo s2 _ h2 F2 ρ2 H2 e2 k2 => ?_) fun _ _ _ z => z⟩
    refine ⟨B, F2, ρ2, s2, k2, (Run.bind h2).mono (fun hi s3 _ h3 F3 ρ3 H3 e3 k3 => ?_) fun _ _ _ z => z⟩
    obtain ⟨d, ed, h4⟩ := Run.look h3
    obtain ⟨w, ew, h5⟩ := Run.ofO h4
    have l1 := (content_ok k3 ((o1.mono k1 e2).mono k2 e3) ed).1
    have h6 := h5.step ((e1.trans e2 k1.sto).trans e3 k2.sto) k3.sto
    unfold slD at ew
    split at ew
    · cases ew
      obtain ⟨p, vs, rfl, sq, r⟩ := l1.list
      exact .inl ⟨p, vs, rfl, sq, fun q hq => h6.own k3 (r.cut _ _) hq⟩
    · cases ew
      obtain ⟨p, vs, rfl, sq, r⟩ := l1.tup
      refine .inr (.inl ⟨p, vs, rfl, sq, fun hw => ?_, fun _ q hq => h6.tup k3 (r.cut _ _) hq⟩)
      rw [r.length] at hw
      rw [cut_whole hw] at h6
      exact h6.val k3 (.tup sq r)
    · split at ew
      · rename_i hz
        cases ew
        exact .inr (.inr ⟨_, l1.str, hz, h6.val k3 (.str _)⟩)
      · cases ew
    · cases ew
/-! ### built-ins of one and of two -/
def U1R (K : PySem.W.Frag) (r : List V → Hp → VK → Prop) (f : D → Option W) : Prop := ∀ {B F ρ s σ H x d w Q}, Ok K B F ρ s σ H → Lk K F H x d → f d = some w → Post K B σ s F ρ H Q w s → r [x] H Q
def U2R (K : PySem.W.Frag) (r : List V → Hp → VK → Prop) (f : D → D → Option W) : Prop := ∀ {B F ρ s σ H x y d e w Q}, Ok K B F ρ s σ H → Lk K F H x d → Lk K F H y e → f d e = some w → Post K B σ s F ρ H Q w s → r [x, y] H Q
theorem u1_step {K : PySem.W.Frag} {mg : Str → Option Value} {σ : Sg} {H : Hp} {Q : VK} {r : List V → Hp → VK → Prop} {f : D → Option W} (hr : U1R K r f) (h : EM K mg Wx (op1 f m) σ H Q) : EM K mg Wx m σ H fun x H1 => r [x] H1 Q :=
  em_un (P := fun x H1 => r [x] H1 Q) (fun {B F ρ s H _ _} k o h => by
    obtain ⟨d1, e1, h⟩ := Run.look h
    obtain ⟨w, e3, h⟩ := Run.ofO h
    exact hr k (content_ok k o e1).1 e3 h) h
theorem u2_step {K : PySem.W.Frag} {mg : Str → Option Value} {σ : Sg} {H : Hp} {Q : VK} {r : List V → Hp → VK → Prop} {f : D → D → Option W} (hr : U2R K r f) (h : EM K mg Wx (opLk f m1 m2) σ H Q) : EM K mg Wx m1 σ H fun x H1 => EM K mg Wx m2 σ H1 fun y H2 => r [x, y] H2 Q :=
  em_bin (P := fun x y H1 => r [x, y] H1 Q) (fun {B F ρ s H _ _ _ _} k o1 o2 h => by
    obtain ⟨d1, e1, h⟩ := Run.look h
    obtain ⟨d2, e2, h⟩ := Run.look h
    obtain ⟨w, e3, h⟩ := Run.ofO h
    exact hr k (content_ok k o1 e1).1 (content_ok k o2 e2).1 e3 h) h
theorem i_b1 {id : String} {r : List V → Hp → VK → Prop} {f : D → Option W} (hc : CallR X (.builtin id) r) (hr : U1R X.K r f) (hm : X.mg x = none) (ha : DE X Wx e m) (hv : bootBuiltins x = some (.builtin id) := by decide +kernel) (hg : Gl X x := by rfl) (hn : x ≠ "__name__" := by decide) (hdb : (x == ("__debug__" : Str)) = false := by decide)
    (hs : starEach [e] X.env = (false, eval e X.env) :: starEach [] X.env := by rfl) (hpl : (backTo pos (starEach [] X.env)).any (·.1) = false := by rfl) : DE X Wx (.Call (.Name x p) [e] [] pos) (op1 f m) :=
  pe_mono (pe_callB hc hg hm hv (pa_cons ha pa_nil hs) hn hdb hs hpl) fun σ H Q h => u1_step hr h
theorem i_ty1 {T : String} {r : List V → Hp → VK → Prop} {f : D → Option W} (hc : CallR X (.type T) r) (hr : U1R X.K r f) (hm : X.mg x = none) (ha : DE X Wx e m) (hv : bootBuiltins x = some (.type T) := by decide +kernel) (hg : Gl X x := by rfl) (hn : x ≠ "__name__" := by decide) (hdb : (x == ("__debug__" : Str)) = false := by decide)
    (hs : starEach [e] X.env = (false, eval e X.env) :: starEach [] X.env := by rfl) (hpl : (backTo pos (starEach [] X.env)).any (·.1) = false := by rfl) : DE X Wx (.Call (.Name x p) [e] [] pos) (op1 f m) :=
  pe_mono (pe_callTy hc hg hm hv (pa_cons ha pa_nil hs) hn hdb hs hpl) fun σ H Q h => u1_step hr h
theorem i_b2 {id : String} {r : List V → Hp → VK → Prop} {f : D → D → Option W} (hc : CallR X (.builtin id) r) (hr : U2R X.K r f) (hm : X.mg x = none) (ha : DE X Wx a m1) (hb : DE X Wx b m2) (hv : bootBuiltins x = some (.builtin id) := by decide +kernel) (hg : Gl X x := by rfl) (hn : x ≠ "__name__" := by decide) (hdb : (x == ("__debug__" : Str)) = false := by decide)
    (hs : starEach [a, b] X.env = (false, eval a X.env) :: starEach [b] X.env := by rfl) (hs2 : starEach [b] X.env = (false, eval b X.env) :: starEach [] X.env := by rfl) (hpl : (backTo pos (starEach [b] X.env)).any (·.1) = false := by rfl) : DE X Wx (.Call (.Name x p) [a, b] [] pos) (opLk f m1 m2) :=
  pe_mono (pe_callB hc hg hm hv (pa_cons ha (pa_cons hb pa_nil hs2) hs) hn hdb hs hpl) fun σ H Q h => u2_step hr h
/-- a module's name for a built-in function -/
theorem i_f2 {id : String} {r : List V → Hp → VK → Prop} {f : D → D → Option W} (hc : CallR X (.builtin id) r) (hr : U2R X.K r f) (hm : X.mg x = some (.builtin id)) (ha : DE X Wx a m1) (hb : DE X Wx b m2) (hg : Gl X x := by rfl) (hdb : (x == ("__debug__" : Str)) = false := by decide)
    (hs : starEach [a, b] X.env = (false, eval a X.env) :: starEach [b] X.env := by rfl) (hs2 : starEach [b] X.env = (false, eval b X.env) :: starEach [] X.env := by rfl) (hpl : (backTo pos (starEach [b] X.env)).any (·.1) = false := by rfl) : DE X Wx (.Call (.Name x p) [a, b] [] pos) (opLk f m1 m2) :=
  pe_mono (pe_callBfun hc hg hm (pa_cons ha (pa_cons hb pa_nil hs2) hs) hdb hs hpl) fun σ H Q h => u2_step hr h
end
def lenD : D → Option W
  | .list ds => some (.val (.int ds.length))
  | .tuple ds => some (.val (.int ds.length))
  | .str z => if z.length ≤ sizeLine then some (.val (.int z.length)) else none
  | _ => none
def absD : D → Option W
  | .int i => some (.val (.int (if i < 0 then -i else i)))
  | _ => none
def intD : D → Option W
  | .int i => some (.val (.int i))
  | .bool b => some (.val (.int (if b then 1 else 0)))
  | _ => none
def boolsOf : List D → Option (List Bool)
  | [] => some []
  | .bool b :: r => (boolsOf r).map (b :: ·)
  | _ => none
def intsOf : List D → Option (List Int)
  | [] => some []
  | .int b :: r => (intsOf r).map (b :: ·)
  | _ => none
def allD : D → Option W
  | .list ds => (boolsOf ds).map fun bs => .val (.bool (bs.all id))
  | _ => none
def anyD : D → Option W
  | .list ds => (boolsOf ds).map fun bs => .val (.bool (bs.any id))
  | _ => none
def sumD : D → Option W
  | .list ds => (intsOf ds).map fun ns => .val (.int ns.sum)
  | _ => none
def maxI : List Int → Option Int
  | [] => none
  | n :: ns => some (ns.foldl max n)
def minI : List Int → Option Int
  | [] => none
  | n :: ns => some (ns.foldl min n)
def max1D : D → Option W
  | .list ds => ((intsOf ds).bind maxI).map fun n => .val (.int n)
  | _ => none
def min1D : D → Option W
  | .list ds => ((intsOf ds).bind minI).map fun n => .val (.int n)
  | _ => none
def tupleD : D → Option W
  | .list ds => some (.val (.tuple ds))
  | .tuple ds => some (.val (.tuple ds))
  | _ => none
def listD : D → Option W
  | .list ds => some (.own ds)
  | .tuple ds => some (.own ds)
  | _ => none
def max2D : D → D → Option W
  | .int i, .int j => some (.val (.int (if j > i then j else i)))
  | _, _ => none
def min2D : D → D → Option W
  | .int i, .int j => some (.val (.int (if j < i then j else i)))
  | _, _ => none
def gcdD : D → D → Option W
  | .int i, .int j => some (.val (.int (Nat.gcd i.natAbs j.natAbs : Nat)))
  | _, _ => none
def divmodD : D → D → Option W
  | .int i, .int j => if 0 < j ∧ j < 1073741824 then some (.val (.tuple [.int (i / j), .int (i % j)])) else none
  | _, _ => none
section
variable {K : PySem.W.Frag} {F : Fz} {H : Hp}
theorem bools_ok : ∀ {ds : List D} {vs : List V} {bs : List Bool}, RpAll K F H vs ds → boolsOf ds = some bs → vs = bs.map V.bl
  | [], _, _, .nil, e => by cases e; rfl
  | d :: ds, _, bs, .cons a b, e => by
    cases d with
    | bool x =>
      have e' : (boolsOf ds).map (x :: ·) = some bs := e
      cases q : boolsOf ds with
      | none => rw [q] at e'; cases e'
      | some r =>
        rw [q] at e'
        cases e'
        cases a
        rw [bools_ok b q]
        rfl
    | _ => cases e
theorem ints_ok : ∀ {ds : List D} {vs : List V} {bs : List Int}, RpAll K F H vs ds → intsOf ds = some bs → vs = bs.map V.int
  | [], _, _, .nil, e => by cases e; rfl
  | d :: ds, _, bs, .cons a b, e => by
    cases d with
    | int x =>
      have e' : (intsOf ds).map (x :: ·) = some bs := e
      cases q : intsOf ds with
      | none => rw [q] at e'; cases e'
      | some r =>
        rw [q] at e'
        cases e'
        cases a
        rw [ints_ok b q]
        rfl
    | _ => cases e
theorem u_len : U1R K (fun xs H Q => ∃ x n, xs = [x] ∧ LenV K x H n ∧ Q (.int n) H) lenD := by
  intro B F ρ s σ H x d w Q k l e p
  unfold lenD at e
  split at e
  · cases e
    obtain ⟨a, vs, rfl, sq, r⟩ := l.list
    exact ⟨_, _, rfl, .inl ⟨vs, sq, r.length.symm⟩, p.val k (.int _)⟩
  · cases e
    obtain ⟨a, vs, rfl, sq, r⟩ := l.tup
    exact ⟨_, _, rfl, .inr ⟨vs, sq, r.length.symm⟩, p.val k (.int _)⟩
  · split at e
    · rename_i hz
      cases e
      obtain rfl := l.str
      exact ⟨_, _, rfl, ⟨hz, rfl⟩, p.val k (.int _)⟩
    · cases e
  · cases e
theorem u_abs : U1R K (fun xs H Q => ∃ i, xs = [.int i] ∧ Q (.int (if i < 0 then -i else i)) H) absD := by
  intro B F ρ s σ H x d w Q k l e p
  unfold absD at e
  split at e
  · cases e
    obtain rfl := l.int
    exact ⟨_, rfl, p.val k (.int _)⟩
  · cases e
theorem u_int : U1R K (fun xs H Q => (∃ i, xs = [.int i] ∧ Q (.int i) H) ∨ ∃ k, xs = [.bl k] ∧ Q (.int (if k then 1 else 0)) H) intD := by
  intro B F ρ s σ H x d w Q k l e p
  unfold intD at e
  split at e
  · cases e
    obtain rfl := l.int
    exact .inl ⟨_, rfl, p.val k (.int _)⟩
  · cases e
    obtain rfl := l.bool
    exact .inr ⟨_, rfl, p.val k (.int _)⟩
  · cases e
theorem u_all : U1R K (rAll K) allD := by
  intro B F ρ s σ H x d w Q k l e p
  unfold allD at e
  split at e
  · rename_i ds
    cases q : boolsOf ds with
    | none => rw [q] at e; cases e
    | some bs =>
      rw [q] at e
      cases e
      obtain ⟨a, vs, rfl, sq, r⟩ := l.list
      have := bools_ok r q
      subst this
      exact ⟨a, bs, rfl, sq, p.val k (.bl _)⟩
  · cases e
theorem u_any : U1R K (rAny K) anyD := by
  intro B F ρ s σ H x d w Q k l e p
  unfold anyD at e
  split at e
  · rename_i ds
    cases q : boolsOf ds with
    | none => rw [q] at e; cases e
    | some bs =>
      rw [q] at e
      cases e
      obtain ⟨a, vs, rfl, sq, r⟩ := l.list
      have := bools_ok r q
      subst this
      exact ⟨a, bs, rfl, sq, p.val k (.bl _)⟩
  · cases e
theorem u_sum : U1R K (rSum K) sumD := by
  intro B F ρ s σ H x d w Q k l e p
  unfold sumD at e
  split at e
  · rename_i ds
    cases q : intsOf ds with
    | none => rw [q] at e; cases e
    | some bs =>
      rw [q] at e
      cases e
      obtain ⟨a, vs, rfl, sq, r⟩ := l.list
      have := ints_ok r q
      subst this
      exact ⟨a, bs, rfl, sq, p.val k (.int _)⟩
  · cases e
theorem foldl_max_mem : ∀ (ns : List Int) (n : Int), ns.foldl max n ∈ n :: ns ∧ ∀ y ∈ n :: ns, y ≤ ns.foldl max n
  | [], n => by simp
  | m :: ns, n => by
    obtain ⟨h1, h2⟩ := foldl_max_mem ns (max n m)
    simp only [List.foldl_cons]
    refine ⟨?_, fun y hy => ?_⟩
    · rcases List.mem_cons.mp h1 with h | h
      · rw [h]
        by_cases q : n ≤ m
        · rw [Int.max_eq_right q]; simp
        · rw [Int.max_eq_left (by omega)]; simp
      · simp [h]
    · have h3 := h2 (max n m) List.mem_cons_self
      rcases List.mem_cons.mp hy with h | h
      · subst h; omega
      · rcases List.mem_cons.mp h with h | h
        · subst h; omega
        · exact h2 y (List.mem_cons_of_mem _ h)
theorem foldl_min_mem : ∀ (ns : List Int) (n : Int), ns.foldl min n ∈ n :: ns ∧ ∀ y ∈ n :: ns, ns.foldl min n ≤ y
  | [], n => by simp
  | m :: ns, n => by
    obtain ⟨h1, h2⟩ := foldl_min_mem ns (min n m)
    simp only [List.foldl_cons]
    refine ⟨?_, fun y hy => ?_⟩
    · rcases List.mem_cons.mp h1 with h | h
      · rw [h]
        by_cases q : n ≤ m
        · rw [Int.min_eq_left q]; simp
        · rw [Int.min_eq_right (by omega)]; simp
      · simp [h]
    · have h3 := h2 (min n m) List.mem_cons_self
      rcases List.mem_cons.mp hy with h | h
      · subst h; omega
      · rcases List.mem_cons.mp h with h | h
        · subst h; omega
        · exact h2 y (List.mem_cons_of_mem _ h)
theorem u_max1 : U1R K (rMax K) max1D := by
  intro B F ρ s σ H x d w Q k l e p
  unfold max1D at e
  split at e
  · rename_i ds
    cases q : intsOf ds with
    | none => rw [q] at e; cases e
    | some bs =>
      rw [q] at e
      cases bs with
      | nil => cases e
      | cons n ns =>
        cases e
        obtain ⟨a, vs, rfl, sq, r⟩ := l.list
        have := ints_ok r q
        subst this
        obtain ⟨h1, h2⟩ := foldl_max_mem ns n
        refine ⟨a, n :: ns, rfl, sq, by simp, fun m hm hle => ?_⟩
        have : m = ns.foldl max n := Int.le_antisymm (h2 m hm) (hle _ h1)
        rw [this]
        exact p.val k (.int _)
  · cases e
theorem u_min1 : U1R K (rMin K) min1D := by
  intro B F ρ s σ H x d w Q k l e p
  unfold min1D at e
  split at e
  · rename_i ds
    cases q : intsOf ds with
    | none => rw [q] at e; cases e
    | some bs =>
      rw [q] at e
      cases bs with
      | nil => cases e
      | cons n ns =>
        cases e
        obtain ⟨a, vs, rfl, sq, r⟩ := l.list
        have := ints_ok r q
        subst this
        obtain ⟨h1, h2⟩ := foldl_min_mem ns n
        refine ⟨a, n :: ns, rfl, sq, by simp, fun m hm hle => ?_⟩
        have : m = ns.foldl min n := Int.le_antisymm (hle _ h1) (h2 m hm)
        rw [this]
        exact p.val k (.int _)
  · cases e
theorem u_tuple : U1R K (fun xs H Q => ∃ p ys, xs = [.ref p] ∧ ((SqL K H p ys ∧ ∀ l, H l = none → Q (.ref l) (upd H l (.tup ys))) ∨ (SqT K H p ys ∧ Q (.ref p) H))) tupleD := by
  intro B F ρ s σ H x d w Q k l e p
  unfold tupleD at e
  split at e
  · cases e
    obtain ⟨a, vs, rfl, sq, r⟩ := l.list
    exact ⟨a, vs, rfl, .inl ⟨sq, fun q hq => p.tup k r hq⟩⟩
  · cases e
    obtain ⟨a, vs, rfl, sq, r⟩ := l.tup
    exact ⟨a, vs, rfl, .inr ⟨sq, p.val k (.tup sq r)⟩⟩
  · cases e
theorem u_list : U1R K (fun xs H Q => ∃ p ys, xs = [.ref p] ∧ (SqL K H p ys ∨ SqT K H p ys) ∧ ∀ l, H l = none → Q (.ref l) (upd H l (.lst ys))) listD := by
  intro B F ρ s σ H x d w Q k l e p
  unfold listD at e
  split at e
  · cases e
    obtain ⟨a, vs, rfl, sq, r⟩ := l.list
    exact ⟨a, vs, rfl, .inl sq, fun q hq => p.own k r hq⟩
  · cases e
    obtain ⟨a, vs, rfl, sq, r⟩ := l.tup
    exact ⟨a, vs, rfl, .inr sq, fun q hq => p.own k r hq⟩
  · cases e
theorem u_max2 : U2R K (fun xs H Q => ∃ i j, xs = [.int i, .int j] ∧ Q (.int (if j > i then j else i)) H) max2D := by
  intro B F ρ s σ H x y d e w Q k l l' e' p
  unfold max2D at e'
  split at e'
  · cases e'
    obtain rfl := l.int
    obtain rfl := l'.int
    exact ⟨_, _, rfl, p.val k (.int _)⟩
  · cases e'
theorem u_min2 : U2R K (fun xs H Q => ∃ i j, xs = [.int i, .int j] ∧ Q (.int (if j < i then j else i)) H) min2D := by
  intro B F ρ s σ H x y d e w Q k l l' e' p
  unfold min2D at e'
  split at e'
  · cases e'
    obtain rfl := l.int
    obtain rfl := l'.int
    exact ⟨_, _, rfl, p.val k (.int _)⟩
  · cases e'
theorem u_gcd : U2R K rGcd gcdD := by
  intro B F ρ s σ H x y d e w Q k l l' e' p
  unfold gcdD at e'
  split at e'
  · cases e'
    obtain rfl := l.int
    obtain rfl := l'.int
    exact ⟨_, _, rfl, p.val k (.int _)⟩
  · cases e'
theorem u_divmod : U2R K (fun xs H Q => ∃ i j, xs = [.int i, .int j] ∧ CDiv i j ∧ ∀ p, H p = none → Q (.ref p) (upd H p (.tup [.int (i / j), .int (i % j)]))) divmodD := by
  intro B F ρ s σ H x y d e w Q k l l' e' p
  unfold divmodD at e'
  split at e'
  · split at e'
    · rename_i hz
      cases e'
      obtain rfl := l.int
      obtain rfl := l'.int
      exact ⟨_, _, rfl, hz, fun q hq => p.tup k (.cons (.int _) (.cons (.int _) .nil)) hq⟩
    · cases e'
  · cases e'
end
/-! ### isinstance, of built-in types -/
def typeN : D → String
  | .none => "NoneType"
  | .bool _ => "bool"
  | .int _ => "int"
  | .str _ => "str"
  | .list _ => "list"
  | .tuple _ => "tuple"
  | .dict _ => "dict"
/-- an error as data -/
def errD : D → Bool
  | .dict (_ :: _) => true
  | _ => false
def isi1 (T : String) (d : D) : Option W := if errD d then none else (kitB (typeN d) T).map fun b => .val (.bool b)
def isiAny (t : String) : List String → Option Bool
  | [] => some false
  | T :: r => (kitB t T).bind fun b => if b then some true else isiAny t r
def isiT (Ts : List String) (d : D) : Option W := if errD d then none else (isiAny (typeN d) Ts).map fun b => .val (.bool b)
theorem tyx_ok {K : PySem.W.Frag} {F : Fz} {H : Hp} {v : V} {d : D} (ne : errD d = false) (l : Lk K F H v d) : TyX K H v (.type (typeN d)) := by
  cases d with
  | none => obtain rfl := l.none; exact .base .non
  | bool b => obtain rfl := l.bool; exact .base (.bl _)
  | int i => obtain rfl := l.int; exact .base (.int _)
  | str z => obtain rfl := l.str; exact .base (.str _)
  | list ds =>
    obtain ⟨a, vs, rfl, sq, r⟩ := l.list
    rcases sq with (h | ⟨o, h⟩) | ⟨o, its, n, h1, h2, _⟩
    · exact .base (.lst h)
    · exact .base (.frz h)
    · exact .kList h1 h2
  | tuple ds =>
    obtain ⟨a, vs, rfl, sq, r⟩ := l.tup
    rcases sq with (h | ⟨o, h⟩) | ⟨o, its, n, h1, h2, _⟩
    · exact .base (.tup h)
    · exact .fTuple h
    · exact .kTuple h1 h2
  | dict l' =>
    cases l' with
    | cons _ _ => cases ne
    | nil =>
      obtain ⟨a, rfl, h⟩ := l.dict
      exact .base (.dK h)
section
variable {X : Cx} {Wx : WX} {pos p p2 : Pos} {a b e : Expr} {m m1 m2 : M W} {x : Str}
theorem i_isi {T : String} {y : Str} (ha : DE X Wx e m) (hm : X.mg "isinstance" = none) (hm2 : X.mg y = none) (hv2 : bootBuiltins y = some (.type T) := by decide +kernel) (hg : Gl X "isinstance" := by rfl) (hg2 : Gl X y := by rfl) (hn2 : y ≠ "__name__" := by decide) (hdb2 : (y == ("__debug__" : Str)) = false := by decide)
    (hs : starEach [e, .Name y p2] X.env = (false, eval e X.env) :: starEach [.Name y p2] X.env := by rfl) (hs2 : starEach [.Name y p2] X.env = (false, eval (.Name y p2) X.env) :: starEach [] X.env := by rfl) (hpl : (backTo pos (starEach [.Name y p2] X.env)).any (·.1) = false := by rfl) :
    DE X Wx (.Call (.Name "isinstance" p) [e, .Name y p2] [] pos) (op1 (isi1 T) m) :=
  pe_mono (pe_callB call_isi hg hm (by decide +kernel) (pa_cons ha (pa_cons (pe_bltn (v := .ty T) hg2 hm2 hv2 rfl hn2 hdb2) pa_nil hs2) hs) (by decide) (by decide) hs hpl) fun σ H Q h =>
    em_un (P := fun x H1 => rIsi X.K [x, .ty T] H1 Q) (fun {B F ρ s H _ _} k o h => by
      obtain ⟨d1, e1, h⟩ := Run.look h
      obtain ⟨w, e3, h⟩ := Run.ofO h
      have l := (content_ok k o e1).1
      have ne : errD d1 = false := by
        cases z : errD d1 with
        | false => rfl
        | true => unfold isi1 at e3; rw [if_pos z] at e3; cases e3
      have e4 : (kitB (typeN d1) T).map (fun b => W.val (.bool b)) = some w := by
        unfold isi1 at e3
        rw [if_neg (by simp [ne])] at e3
        exact e3
      cases q : kitB (typeN d1) T with
      | none => rw [q] at e4; cases e4
      | some b =>
        rw [q] at e4
        cases e4
        exact ⟨_, _, _, _, b, rfl, .ty T, tyx_ok ne l, kit_ty q, h.val k (.bl b)⟩) h
theorem isiAny_ok {K : PySem.W.Frag} {t : String} : ∀ {Ts : List String} {b : Bool}, isiAny t Ts = some b → PySem.W.kitAny K (.type t) (Ts.map Value.type) = some b
  | [], b, e => by cases e; exact kitAny_nil
  | T :: r, b, e => by
    have e' : (kitB t T).bind (fun b => if b then some true else isiAny t r) = some b := e
    cases q : kitB t T with
    | none => rw [q] at e'; cases e'
    | some c =>
      rw [q] at e'
      refine kitAny_cons (kit_ty q) (fun hc => ?_) (fun hc => ?_)
      · subst hc
        exact isiAny_ok e'
      · subst hc
        cases e'
        rfl
theorem clsv_all : ∀ Ts : List String, Paired ClsV (Ts.map V.ty) (Ts.map Value.type)
  | [] => .nil
  | T :: r => .cons (.ty T) (clsv_all r)
/-- the names of built-in types, one by one -/
inductive TyNames (X : Cx) : List Expr → List String → Prop
  | nil : TyNames X [] []
  | cons {y : Str} {p : Pos} {T : String} {es : List Expr} {Ts : List String} (hm : X.mg y = none) (hv : bootBuiltins y = some (.type T)) (hg : Gl X y) (hn : y ≠ "__name__") (hdb : (y == ("__debug__" : Str)) = false)
      (hs : starEach (.Name y p :: es) X.env = (false, eval (.Name y p) X.env) :: starEach es X.env) : TyNames X es Ts → TyNames X (.Name y p :: es) (T :: Ts)
theorem tyNames_pa {es : List Expr} {Ts : List String} (h : TyNames X es Ts) : PA X es (fun _ H Q => Q (Ts.map V.ty) H) := by
  induction h with
  | nil => exact pa_nil
  | cons hm hv hg hn hdb hs _ ih => exact pa_mono (pa_cons (pe_bltn (v := .ty _) hg hm hv rfl hn hdb) ih hs) fun σ H Q q => q
theorem i_isiT {es : List Expr} {Ts : List String} {x1 : Nat} (ha : DE X Wx e m) (hm : X.mg "isinstance" = none) (ht : TyNames X es Ts) (hz : Ts.length ≤ 1000 := by decide) (hg : Gl X "isinstance" := by rfl)
    (hs : starEach [e, .Tuple es x1 p2] X.env = (false, eval e X.env) :: starEach [.Tuple es x1 p2] X.env := by rfl) (hs2 : starEach [.Tuple es x1 p2] X.env = (false, eval (.Tuple es x1 p2) X.env) :: starEach [] X.env := by rfl) (hpl : (backTo pos (starEach [.Tuple es x1 p2] X.env)).any (·.1) = false := by rfl) :
    DE X Wx (.Call (.Name "isinstance" p) [e, .Tuple es x1 p2] [] pos) (op1 (isiT Ts) m) :=
  pe_mono (pe_callB call_isiT hg hm (by decide +kernel) (pa_cons ha (pa_cons (pe_tup (tyNames_pa ht)) pa_nil hs2) hs) (by decide) (by decide) hs hpl) fun σ H Q h =>
    em_un (P := fun x H1 => (Ts.map V.ty).length ≤ sizeLine ∧ ∀ q, H1 q = none → rIsiT X.K [x, .ref q] (upd H1 q (.tup (Ts.map V.ty))) Q) (fun {B F ρ s H x w} k o h => by
      obtain ⟨d1, e1, h⟩ := Run.look h
      obtain ⟨w, e3, h⟩ := Run.ofO h
      have l := (content_ok k o e1).1
      have ne : errD d1 = false := by
        cases z : errD d1 with
        | false => rfl
        | true => unfold isiT at e3; rw [if_pos z] at e3; cases e3
      have e4 : (isiAny (typeN d1) Ts).map (fun b => W.val (.bool b)) = some w := by
        unfold isiT at e3
        rw [if_neg (by simp [ne])] at e3
        exact e3
      refine ⟨by rw [List.length_map, sizeLine_eq]; omega, fun q hq => ?_⟩
      cases qa : isiAny (typeN d1) Ts with
      | none => rw [qa] at e4; cases e4
      | some b =>
        rw [qa] at e4
        cases e4
        have l2 := (content_ok (k.new (o := .tup (Ts.map V.ty)) hq) (o.mono k (Ext.new_ hq)) e1).1
        exact ⟨_, q, _, _, _, b, rfl, upd_same, clsv_all Ts, tyx_ok ne l2, isiAny_ok qa, h F ρ _ _ (Ext.new_ hq) (k.new hq) (.bl b) trivial⟩) h
end
end Z
/-! Z, part 10: what is gone through: range, enumerate, zip. -/
namespace Z
open PySem PySem.Spec PyProof.Rows L2

/-! ### lists and tuples alike -/
def SqB (K : PySem.W.Frag) (H : Hp) (t : Bool) (a : Addr) (xs : List V) : Prop := match t with
  | true => SqT K H a xs
  | false => SqL K H a xs
def ItB (h : Heap) (t : Bool) (it a : Addr) (i : Nat) : Prop := match t with
  | true => h.IsTupleIter it a i
  | false => h.IsListIter it a i
def HasB (h : Heap) (t : Bool) (a : Addr) (its : Array Value) : Prop := match t with
  | true => h.IsTuple a its
  | false => h.IsList a its
def objB (t : Bool) (a : Addr) : Obj := match t with
  | true => { cls := .type "tuple_iterator", data := .fields #[.ref a, .int 0 0] }
  | false => { cls := .type "list_iterator", data := .fields #[.ref a, .int 0 0] }
section
variable {X : Cx} {pins : List (Addr × Obj)} {σ : Sg} {H : Hp} {s : Shared} {t : Bool} {a it : Addr} {xs ys : List V} {h h' : Heap} {i : Nat} {its : Array Value}
theorem inv_seq (I : Inv X pins σ H s) (q : SqB X.K H t a xs) : ∃ its : List Value, Vals xs its ∧ HasB s.heap t a its.toArray := by
  cases t with
  | true => obtain ⟨its, rv, p, _⟩ := I.tuple q; exact ⟨its, rv, p⟩
  | false => obtain ⟨its, rv, p, _⟩ := I.list q; exact ⟨its, rv, p.isList⟩
theorem inv_inj (I : Inv X pins σ H s) (q : SqB X.K H t a xs) (q' : SqB X.K H t a ys) : xs = ys := by
  cases t with
  | true => exact I.tuple_inj q q'
  | false => exact I.list_inj q q'
theorem HasB.lt (q : HasB h t a its) : a < h.objs.size := by
  cases t with
  | true => obtain ⟨_, e, _⟩ := (show h.IsTuple a its from q); exact Heap.lt_size e
  | false => obtain ⟨_, e, _⟩ := (show h.IsList a its from q); exact Heap.lt_size e
theorem ItB.get (q : ItB h t it a i) : ∃ o, h.get? it = some o ∧ ∀ v, o.data ≠ .cell v := by
  cases t with
  | true => obtain ⟨o, e, _, d⟩ := (show h.IsTupleIter it a i from q); exact ⟨o, e, fun v z => by rw [d] at z; cases z⟩
  | false => obtain ⟨o, e, _, d⟩ := (show h.IsListIter it a i from q); exact ⟨o, e, fun v z => by rw [d] at z; cases z⟩
theorem ItB.at_ (q : ItB h t it a i) (k : ∀ o, h.get? it = some o → h'.get? it = some o) : ItB h' t it a i := by
  cases t with
  | true => obtain ⟨o, e, r⟩ := (show h.IsTupleIter it a i from q); exact ⟨o, k o e, r⟩
  | false => obtain ⟨o, e, r⟩ := (show h.IsListIter it a i from q); exact ⟨o, k o e, r⟩
theorem draws_b {prog : Program} {w : World} {A : Around} (hh : A.handled = none) (hne : a ≠ it) (items : Array Value) :
    Draws prog w A it [it, a] items.size (fun i v => items[i]? = some v) (fun i h => ItB h t it a i ∧ HasB h t a items) := by
  cases t with
  | true => exact Draws.tuple hh it a hne items
  | false => exact Draws.list hh it a hne items
theorem begins_b (items : Array Value) : Begins (.ref a) (objB t a) fun h => HasB h t a items := by
  cases t with
  | true => exact begins_tuple a items
  | false => exact begins_list a items
theorem itB_new (e : h.get? it = some (objB t a)) : ItB h t it a 0 := by
  cases t with
  | true => exact ⟨_, e, rfl, rfl⟩
  | false => exact ⟨_, e, rfl, rfl⟩
end

/-! ### zip -/
def ItzB (K : PySem.W.Frag) (t u : Bool) (a b : Addr) : It :=
  ⟨fun i H => ∃ (xs ys : List V) (x y : V), SqB K H t a xs ∧ SqB K H u b ys ∧ xs[i]? = some x ∧ ys[i]? = some y,
    fun i H v H' => ∃ T x y, v = .ref T ∧ H T = none ∧ H' = upd H T (.tup [x, y]) ∧ (∀ xs, SqB K H t a xs → xs[i]? = some x) ∧ ∀ ys, SqB K H u b ys → ys[i]? = some y,
    fun i H => ∃ xs ys : List V, SqB K H t a xs ∧ SqB K H u b ys ∧ i = min xs.length ys.length⟩
theorem turn_zipB {P : Program} {w : World} {K : PySem.W.Frag} {elts : List Expr} {kk : Nat} {tpos : Pos} {t u : Bool} {a b z TI TO i1 i2 : Addr} (D : ZipSep2 z TI TO i1 i2 [i1, a] [i2, b]) (ha : a ≠ i1) (hb : b ≠ i2) :
    Turn P w K (.Tuple elts kk tpos) (ItzB K t u a b) [z, TI, TO, i1, i2] z (fun i h => IsZip h z TI TO .none ∧ IsTupOf2 h TI (.ref i1) (.ref i2) ∧ (∃ x y, IsTupOf2 h TO x y) ∧ ItB h t i1 a i ∧ ItB h u i2 b i) where
  mem := by simp
  obj := fun i h st c hc => by
    obtain ⟨hz, hTI, ⟨x, y, hTO⟩, g1, g2⟩ := st
    have e' : c = z ∨ c = TI ∨ c = TO ∨ c = i1 ∨ c = i2 := by simpa using hc
    rcases e' with q | q | q | q | q
    · rw [q]; exact ⟨_, hz, fun v q => nomatch q⟩
    · rw [q]; exact ⟨_, hTI, fun v q => nomatch q⟩
    · rw [q]; exact ⟨_, hTO, fun v q => nomatch q⟩
    · rw [q]; exact g1.get
    · rw [q]; exact g2.get
  keep := fun i h h' st k => by
    obtain ⟨hz, hTI, ⟨x, y, hTO⟩, h1, h2⟩ := st
    exact ⟨k z (by simp) _ hz, k TI (by simp) _ hTI, ⟨x, y, k TO (by simp) _ hTO⟩, h1.at_ fun o q => k i1 (by simp) o q, h2.at_ fun o q => k i2 (by simp) o q⟩
  item := by
    intro X hP hw hK hc i pins s σ H E I hf st hg
    subst hP hw hK
    obtain ⟨hz, hTI, hTO, h1, h2⟩ := st
    obtain ⟨xs, ys, x, y, hqx, hqy, hx, hy⟩ := hg
    obtain ⟨its, rv, p⟩ := inv_seq I hqx
    obtain ⟨its2, rv2, p2⟩ := inv_seq I hqy
    obtain ⟨v1, hu, ru⟩ := rv.get hx
    obtain ⟨v2, hu2, ru2⟩ := rv2.get hy
    have l1 := rv.length
    have l2 := rv2.length
    have hi : i < min its.toArray.size its2.toArray.size := by
      have := (List.getElem?_eq_some_iff.mp hu).1
      have := (List.getElem?_eq_some_iff.mp hu2).1
      simp
      omega
    have G := GoesN.zip2 (prog := X.prog) (w := X.w) (A := X.A) (elts := elts) (x1 := kk) (pos := tpos) D (draws_b (t := t) (A := X.A.in1) (I.ok.hd hc) ha its.toArray) (draws_b (t := u) (A := X.A.in1) (I.ok.hd hc) hb its2.toArray)
    refine G.goes i s (fun u s2 => ∃ x H', Inv X pins σ H' s2 ∧ RelV x u ∧ (ItzB X.K t _ a b).yld i H x H' ∧ _ ∧ ∀ b ∈ [z, TI, TO, i1, i2], H' b = none) E hi ⟨hz, hTI, hTO, ⟨h1, p⟩, ⟨h2, p2⟩⟩ fun v h' tk hY st' hk htk => ?_
    obtain ⟨T, w1, w2, rfl, hnew, e1, e2, hT⟩ := hY
    obtain ⟨z', TI', TO', ⟨g1, _⟩, ⟨g2, _⟩⟩ := st'
    have q1 : w1 = v1 := Option.some.inj (e1.symm.trans (by simpa using hu))
    have q2 : w2 = v2 := Option.some.inj (e2.symm.trans (by simpa using hu2))
    subst q1 q2
    have new : ObjOk X.prog X.w (upd H T (.tup [x, y])) h' T (.tup [x, y]) := ⟨by show 2 ≤ sizeLine; decide, [w1, w2], .cons ru (.cons ru2 .nil), hT⟩
    have hsub : ∀ c, c ∈ [z, TO, i1, i2] → c ∈ [z, TI, TO, i1, i2] := fun c hc => by simp at hc ⊢; rcases hc with q | q | q | q <;> simp [q]
    have I1 : Inv X pins σ (upd H T (.tup [x, y])) { s with heap := h', toks := tk } :=
      I.turnedNew (ch := [z, TO, i1, i2]) (fun c o hb q => hk c o hb q) (fun c hc => hf c (hsub c hc)) hnew new
    have hlt : ∀ c ∈ [z, TI, TO, i1, i2], c < s.heap.objs.size := fun c hc => by
      have e' : c = z ∨ c = TI ∨ c = TO ∨ c = i1 ∨ c = i2 := by simpa using hc
      rcases e' with q | q | q | q | q
      · rw [q]; exact Heap.lt_size hz
      · rw [q]; exact Heap.lt_size hTI
      · rw [q]; obtain ⟨_, _, e⟩ := hTO; exact Heap.lt_size e
      · rw [q]; obtain ⟨_, e, _⟩ := h1.get; exact Heap.lt_size e
      · rw [q]; obtain ⟨_, e, _⟩ := h2.get; exact Heap.lt_size e
    refine ⟨.ref T, _, I1, rfl, ⟨T, x, y, rfl, I.hok.fresh hnew, rfl, fun l hl => by rw [inv_inj I hl hqx]; exact hx, fun l hl => by rw [inv_inj I hl hqy]; exact hy⟩, ⟨z', TI', TO', g1, g2⟩, fun c hcm => ?_⟩
    have : c ≠ T := fun q => absurd (hlt c hcm) (by rw [q]; exact Nat.not_lt.mpr hnew)
    rw [upd_ne this]
    exact (hf c hcm).1
  done := by
    intro X hP hw hK hc i pins s σ H E I hf st hg
    subst hP hw hK
    obtain ⟨hz, hTI, hTO, h1, h2⟩ := st
    obtain ⟨xs, ys, hqx, hqy, hend⟩ := hg
    obtain ⟨its, rv, p⟩ := inv_seq I hqx
    obtain ⟨its2, rv2, p2⟩ := inv_seq I hqy
    have l1 := rv.length
    have l2 := rv2.length
    have hi : i = min its.toArray.size its2.toArray.size := by
      simp
      omega
    have G := GoesN.zip2 (prog := X.prog) (w := X.w) (A := X.A) (elts := elts) (x1 := kk) (pos := tpos) D (draws_b (t := t) (A := X.A.in1) (I.ok.hd hc) ha its.toArray) (draws_b (t := u) (A := X.A.in1) (I.ok.hd hc) hb its2.toArray)
    have hsub : ∀ c, c ∈ [z, TO, i1, i2] → c ∈ [z, TI, TO, i1, i2] := fun c hc => by simp at hc ⊢; rcases hc with q | q | q | q <;> simp [q]
    refine G.stops s _ E ?_ fun h' tk hk htk => I.turnedL (t' := tk) (ch := [z, TO, i1, i2]) (fun c o hb q => hk c o hb q) fun c hc => hf c (hsub c hc)
    rw [← hi]
    exact ⟨hz, hTI, hTO, ⟨h1, p⟩, ⟨h2, p2⟩⟩
  self := fun A i s Q E st h => wpAny_pyIter_zip st.1 h
def iZipB (K : PySem.W.Frag) (ta : TA) : TI := fun σ H R => ta σ H fun vs H1 => ∃ a b t u xs ys, vs = [.ref a, .ref b] ∧ SqB K H1 t a xs ∧ SqB K H1 u b ys ∧ R (ItzB K t u a b) H1
theorem pi_zipB {X : Cx} {e e2 : Expr} {ta : TA} {p pos tpos : Pos} {elts : List Expr} {kk : Nat} (hg : Gl X "zip") (hm : X.mg "zip" = none) (ha : PA X [e, e2] ta)
    (hs : starEach [e, e2] X.env = (false, eval e X.env) :: starEach [e2] X.env := by rfl) (hpl : (backTo pos (starEach [e2] X.env)).any (·.1) = false := by rfl) :
    PI X (.Tuple elts kk tpos) (.Call (.Name "zip" p) [e, e2] [] pos) (iZipB X.K ta) := by
  refine ⟨fun pins s σ H R I h => ?_⟩
  refine Call_ (ld_blt I hg hm PyProof.Rows.boot_zip (PyProof.Rows.callWith_type1 (thn (ha.run pos pins s σ H _ I h) fun us s1 ⟨vs, H1, I1, r1, q1⟩ => ?_) hs hpl))
  obtain ⟨a, b, t, u, xs, ys, ex, hqx, hqy, q⟩ := q1
  subst ex
  cases r1 with
  | cons r rr =>
    cases rr with
    | cons r' rr =>
      cases rr
      cases r
      cases r'
      obtain ⟨its, rv, p1⟩ := inv_seq I1 hqx
      obtain ⟨its2, rv2, p2⟩ := inv_seq I1 hqy
      have la := p1.lt
      have lb := p2.lt
      refine zip_begins2 (begins_b its.toArray) (begins_b its2.toArray) p1 p2 fun h' hz hTI hTO g1 g2 hsz hk => wpAny_pyIter_zip hz ?_
      have I2 : Inv X pins σ H1 { s1 with heap := h' } := I1.kept (t' := s1.toks) hk
      have la' : a ≠ s1.heap.objs.size := Nat.ne_of_lt la
      have lb' : b ≠ s1.heap.objs.size + 1 := Nat.ne_of_lt (Nat.lt_succ_of_lt lb)
      refine ⟨s1.heap.objs.size + 4, [s1.heap.objs.size + 4, s1.heap.objs.size + 2, s1.heap.objs.size + 3, s1.heap.objs.size, s1.heap.objs.size + 1], _, _, H1, rfl, I2,
        turn_zipB (zip_sep2 (fun c hc => by simp at hc; rw [hc]; exact la) (fun c hc => by simp at hc; rw [hc]; exact lb)) la' lb', ⟨hz, hTI, ⟨_, _, hTO⟩, itB_new g1, itB_new g2⟩, fun c hcm => ?_, q⟩
      have e' : c = s1.heap.objs.size + 4 ∨ c = s1.heap.objs.size + 2 ∨ c = s1.heap.objs.size + 3 ∨ c = s1.heap.objs.size ∨ c = s1.heap.objs.size + 1 := by simpa using hcm
      have hle : s1.heap.objs.size ≤ c := by
        rcases e' with z | z | z | z | z
        · rw [z]; exact Nat.le_add_right _ _
        · rw [z]; exact Nat.le_add_right _ _
        · rw [z]; exact Nat.le_add_right _ _
        · rw [z]; exact Nat.le_refl _
        · rw [z]; exact Nat.le_add_right _ _
      exact I1.fpOk hle (I1.hok.fresh hle)
theorem walk_zipB {K : PySem.W.Frag} {t u : Bool} {a b : Addr} {xs ys : List V} {n : Nat} (hn : n = min xs.length ys.length) (hinj : ∀ H zs, SqB K H t a xs → SqB K H t a zs → True) :
    Walk (ItzB K t u a b) n (fun H => SqB K H t a xs ∧ SqB K H u b ys) (YPair (fun i => xs[i]?) (fun i => ys[i]?)) := by
  subst hn
  refine ⟨fun i _ hi q => ?_, fun _ q => ⟨xs, ys, q.1, q.2, rfl⟩, fun i H v H' _ q y => ?_⟩
  · have h1 : i < xs.length := by omega
    have h2 : i < ys.length := by omega
    exact ⟨xs, ys, xs[i], ys[i], q.1, q.2, by simp [h1], by simp [h2]⟩
  · obtain ⟨T, x, z, h1, h2, h3, h4, h5⟩ := y
    exact ⟨T, x, z, h1, h2, h3, h4 xs q.1, h5 ys q.2⟩
end Z
/-! Z, part 11: enumerate; the sources as readings. -/
namespace Z
open PySem PySem.Spec PyProof.Rows L2

/-! ### enumerate over a list or a tuple, from a start -/
def IteB (K : PySem.W.Frag) (t : Bool) (a : Addr) (k : Int) : It :=
  ⟨fun i H => ∃ (xs : List V) (x : V), SqB K H t a xs ∧ xs[i]? = some x, fun i H v H' => ∃ T x, v = .ref T ∧ H T = none ∧ H' = upd H T (.tup [.int (k + (i : Nat)), x]) ∧ ∀ xs, SqB K H t a xs → xs[i]? = some x,
    fun i H => ∃ xs : List V, SqB K H t a xs ∧ i = xs.length⟩
theorem turn_enumB {P : Program} {w : World} {K : PySem.W.Frag} {elts : List Expr} {kk : Nat} {tpos : Pos} {t : Bool} {k0 : Int} {a e it : Addr} (hne : e ≠ it) (ha : a ≠ it) (hea : e ≠ a) :
    Turn P w K (.Tuple elts kk tpos) (IteB K t a k0) [e, it] e (fun i h => (∃ old, IsEnum h e it (k0 + ((i : Nat) : Int)) old) ∧ ItB h t it a i) where
  mem := by simp
  obj := fun i h st b hb => by
    obtain ⟨⟨old, he⟩, g⟩ := st
    have e' : b = e ∨ b = it := by simpa using hb
    rcases e' with z | z
    · rw [z]; exact ⟨_, he, fun v q => nomatch q⟩
    · rw [z]; exact g.get
  keep := fun i h h' st k => let ⟨⟨old, he⟩, hi⟩ := st; ⟨⟨old, k e (by simp) _ he⟩, hi.at_ fun o q => k it (by simp) o q⟩
  item := by
    intro X hP hw hK hc i pins s σ H E I hf st hg
    subst hP hw hK
    obtain ⟨he, h1⟩ := st
    obtain ⟨xs, x, hqx, hx⟩ := hg
    obtain ⟨its, rv, p⟩ := inv_seq I hqx
    obtain ⟨v1, hu, ru⟩ := rv.get hx
    have l1 := rv.length
    have hi : i < its.toArray.size := by
      have := (List.getElem?_eq_some_iff.mp hu).1
      simpa using this
    have G := GoesN.enumFrom (prog := X.prog) (w := X.w) (A := X.A) (elts := elts) (x1 := kk) (pos := tpos) k0 (draws_b (t := t) (A := X.A.in1) (I.ok.hd hc) ha its.toArray) e hne (by simp [hne, hea]) (by simp)
    refine G.goes i s (fun u s2 => ∃ x H', Inv X pins σ H' s2 ∧ RelV x u ∧ (IteB X.K t a k0).yld i H x H' ∧ _ ∧ ∀ b ∈ [e, it], H' b = none) E hi ⟨he, ⟨h1, p⟩⟩ fun v h' tk hY st' hk htk => ?_
    obtain ⟨T, tt, w1, rfl, hnew, e1, hT⟩ := hY
    obtain ⟨z', ⟨g1, _⟩⟩ := st'
    have q1 : w1 = v1 := Option.some.inj (e1.symm.trans (by simpa using hu))
    subst q1
    have new : ObjOk X.prog X.w (upd H T (.tup [.int (k0 + (i : Nat)), x])) h' T (.tup [.int (k0 + (i : Nat)), x]) := ⟨by show 2 ≤ sizeLine; decide, [.int (k0 + (i : Int)) tt, w1], .cons ⟨_, rfl⟩ (.cons ru .nil), hT⟩
    have I1 : Inv X pins σ (upd H T (.tup [.int (k0 + (i : Nat)), x])) { s with heap := h', toks := tk } :=
      I.turnedNew (ch := [e, it]) (fun c o hb q => hk c o hb q) (fun c hc => hf c hc) hnew new
    have hlt : ∀ c ∈ [e, it], c < s.heap.objs.size := fun c hc => by
      have e' : c = e ∨ c = it := by simpa using hc
      rcases e' with q | q
      · rw [q]; obtain ⟨_, e⟩ := he; exact Heap.lt_size e
      · rw [q]; obtain ⟨_, e, _⟩ := h1.get; exact Heap.lt_size e
    refine ⟨.ref T, _, I1, rfl, ⟨T, x, rfl, I.hok.fresh hnew, rfl, fun l hl => by rw [inv_inj I hl hqx]; exact hx⟩, ⟨z', g1⟩, fun c hcm => ?_⟩
    have : c ≠ T := fun q => absurd (hlt c hcm) (by rw [q]; exact Nat.not_lt.mpr hnew)
    rw [upd_ne this]
    exact (hf c hcm).1
  done := by
    intro X hP hw hK hc i pins s σ H E I hf st hg
    subst hP hw hK
    obtain ⟨he, h1⟩ := st
    obtain ⟨xs, hqx, hend⟩ := hg
    obtain ⟨its, rv, p⟩ := inv_seq I hqx
    have l1 := rv.length
    have hi : i = its.toArray.size := by
      simp
      omega
    have G := GoesN.enumFrom (prog := X.prog) (w := X.w) (A := X.A) (elts := elts) (x1 := kk) (pos := tpos) k0 (draws_b (t := t) (A := X.A.in1) (I.ok.hd hc) ha its.toArray) e hne (by simp [hne, hea]) (by simp)
    refine G.stops s _ E ?_ fun h' tk hk htk => I.turnedL (t' := tk) (ch := [e, it]) (fun c o hb q => hk c o hb q) fun c hc => hf c hc
    rw [← hi]
    exact ⟨he, ⟨h1, p⟩⟩
  self := fun A i s Q E st h => let ⟨⟨_, he⟩, _⟩ := st; wpAny_pyIter_enum he h
set_option maxHeartbeats 1000000 in
theorem meets_enumerate_new1 {v : Value} {o : Obj} {H : Heap → Prop} (B : Begins v o H) :
    Meets (Builtin.«enumerate.__new__» ⟨[.type "enumerate", v], []⟩) (fun _ R s => H s.heap ∧
      R (.ok (.ret (.ref (s.heap.push o).objs.size))) { s with heap := (s.heap.push o).push { cls := .type "enumerate", data := .fields #[.none, .bool false, .ref s.heap.objs.size, rawInt 0, .none, .none] } }) :=
  .of_wp fun prog w A R s h => by
    obtain ⟨hp, g, d, tk, os⟩ := s; obtain ⟨h1, h⟩ := h
    have hsub := sub_enumerate
    have q1 : ∀ {A' : Around} {E : Value → Shared → Prop} {Q : Value → Shared → Prop}, Q (.ref hp.objs.size) ⟨hp.push o, g, d, tk, os⟩ → wpAny (model prog w) A' (pyIter v) Q E ⟨hp, g, d, tk, os⟩ :=
      fun q => B.iter prog w _ _ ⟨hp, g, d, tk, os⟩ _ h1 q
    wp_walk using q1
    refine wpAny_stack_any fun st => wpAny_pure ?_
    split
    · rename_i c _ _ _ _ _
      cases (c == Value.type "enumerate")
      · wp_walk using q1
        exact ⟨_, rfl, h⟩
      · wp_walk using q1
        exact ⟨_, rfl, h⟩
    · wp_walk using q1
      exact ⟨_, rfl, h⟩
theorem enum_begins1 {prog : Program} {w : World} {A : Around} {E : Value → Shared → Prop} {s : Shared} {v : Value} {o : Obj} {H : Heap → Prop} {Q : Value → Shared → Prop} (B : Begins v o H) (h1 : H s.heap)
    (h : ∀ h', IsEnum h' (s.heap.objs.size + 1) s.heap.objs.size 0 .none → h'.get? s.heap.objs.size = some o → h'.objs.size = s.heap.objs.size + 2 →
      (∀ b o, s.heap.get? b = some o → h'.get? b = some o) → Q (.ref (s.heap.objs.size + 1)) { s with heap := h' }) :
    wpAny (model prog w) A (call (.type "enumerate") [v]) Q E s := by
  refine callType_new F.called_enumerate (by decide) (F.typeCall_enumerate_1 _) (F.newCall_enumerate_1 _) (fun obj => F.args_object_init_2 obj _) F.entry_enumerate_new
    (meets_enumerate_new1 B) ⟨h1, ?_⟩
  have hz : (s.heap.push o).objs.size = s.heap.objs.size + 1 := Heap.size_push ..
  show _ ∧ _
  rw [hz]
  have he : IsEnum ((s.heap.push o).push { cls := .type "enumerate", data := .fields #[.none, .bool false, .ref s.heap.objs.size, rawInt 0, .none, .none] }) (s.heap.objs.size + 1) s.heap.objs.size 0 .none := by
    have := Heap.get?_push_size (s.heap.push o) (o := { cls := .type "enumerate", data := .fields #[.none, .bool false, .ref s.heap.objs.size, rawInt 0, .none, .none] }) rfl
    rw [hz] at this; exact this
  refine ⟨⟨_, he, rfl⟩, h _ he (Heap.get?_push_of_some _ (Heap.get?_push_size _ B.free)) (by rw [Heap.size_push, hz]) fun b o x => Heap.get?_push_of_some _ (Heap.get?_push_of_some _ x)⟩
def iEnumB (K : PySem.W.Frag) (ta : TA) : TI := fun σ H R => ta σ H fun vs H1 => ∃ a t xs, vs = [.ref a] ∧ SqB K H1 t a xs ∧ R (IteB K t a 0) H1
def iEnumB2 (K : PySem.W.Frag) (ta : TA) : TI := fun σ H R => ta σ H fun vs H1 => ∃ a t xs k, vs = [.ref a, .int k] ∧ SqB K H1 t a xs ∧ -(2 ^ 63) ≤ k ∧ k < 2 ^ 63 ∧ R (IteB K t a k) H1
section
variable {X : Cx} {e e2 : Expr} {ta : TA} {p pos tpos : Pos} {elts : List Expr} {kk : Nat}
theorem enum_pie {pins : List (Addr × Obj)} {σ : Sg} {H : Hp} {s : Shared} {R : It → Hp → Prop} {t : Bool} {a : Addr} {xs : List V} {k : Int} {E : Value → Shared → Prop} {h' : Heap} (I1 : Inv X pins σ H s) (hq : SqB X.K H t a xs) (q : R (IteB X.K t a k) H)
    (he : IsEnum h' (s.heap.objs.size + 1) s.heap.objs.size k .none) (g1 : h'.get? s.heap.objs.size = some (objB t a)) (hk : ∀ b o, s.heap.get? b = some o → h'.get? b = some o) (la : a < s.heap.objs.size) :
    wpAny (model X.prog X.w) X.A (pyIter (.ref (s.heap.objs.size + 1))) (PIE X pins σ (.Tuple elts kk tpos) R) E { s with heap := h' } := by
  refine wpAny_pyIter_enum he ?_
  have I2 : Inv X pins σ H { s with heap := h' } := I1.kept (t' := s.toks) hk
  refine ⟨s.heap.objs.size + 1, [s.heap.objs.size + 1, s.heap.objs.size], _, _, H, rfl, I2, turn_enumB (Nat.succ_ne_self _) (Nat.ne_of_lt la) (Nat.ne_of_gt (Nat.lt_succ_of_lt la)), ⟨⟨.none, ?_⟩, itB_new g1⟩, fun b hb => ?_, q⟩
  · have e1 : k + ((0 : Nat) : Int) = k := by simp
    rw [e1]; exact he
  · have e' : b = s.heap.objs.size + 1 ∨ b = s.heap.objs.size := by simpa using hb
    have hle : s.heap.objs.size ≤ b := by
      rcases e' with z | z
      · rw [z]; exact Nat.le_add_right _ _
      · rw [z]; exact Nat.le_refl _
    exact I1.fpOk hle (I1.hok.fresh hle)
theorem pi_enumB (hg : Gl X "enumerate") (hm : X.mg "enumerate" = none) (ha : PA X [e] ta) (hs : starEach [e] X.env = [(false, eval e X.env)] := by rfl) :
    PI X (.Tuple elts kk tpos) (.Call (.Name "enumerate" p) [e] [] pos) (iEnumB X.K ta) := by
  refine ⟨fun pins s σ H R I h => ?_⟩
  refine Call_ (ld_blt I hg hm boot_enumerate (PyProof.Rows.callWith_type1 (thn (ha.run pos pins s σ H _ I h) fun us s1 ⟨vs, H1, I1, r1, q1⟩ => ?_) hs rfl))
  obtain ⟨a, t, xs, ex, hq, q⟩ := q1
  subst ex
  cases r1 with
  | cons r rr =>
    cases rr
    cases r
    obtain ⟨its, rv, p'⟩ := inv_seq I1 hq
    exact enum_begins1 (begins_b its.toArray) p' fun h' he g1 hsz hk => enum_pie I1 hq q he g1 hk p'.lt
theorem pi_enumB2 (hg : Gl X "enumerate") (hm : X.mg "enumerate" = none) (ha : PA X [e, e2] ta) (hs : starEach [e, e2] X.env = (false, eval e X.env) :: starEach [e2] X.env := by rfl) (hpl : (backTo pos (starEach [e2] X.env)).any (·.1) = false := by rfl) :
    PI X (.Tuple elts kk tpos) (.Call (.Name "enumerate" p) [e, e2] [] pos) (iEnumB2 X.K ta) := by
  refine ⟨fun pins s σ H R I h => ?_⟩
  refine Call_ (ld_blt I hg hm boot_enumerate (PyProof.Rows.callWith_type1 (thn (ha.run pos pins s σ H _ I h) fun us s1 ⟨vs, H1, I1, r1, q1⟩ => ?_) hs hpl))
  obtain ⟨a, t, xs, k, ex, hq, hk0, hk1, q⟩ := q1
  subst ex
  cases r1 with
  | cons r rr =>
    cases rr with
    | cons r' rr =>
      cases rr
      cases r
      obtain ⟨tt, rfl⟩ := r'
      obtain ⟨its, rv, p'⟩ := inv_seq I1 hq
      exact enum_begins (begins_b its.toArray) p' hk0 hk1 fun h' he g1 hsz hk => enum_pie I1 hq q he g1 hk p'.lt
end
theorem walk_enumB {K : PySem.W.Frag} {t : Bool} {a : Addr} {k : Int} {xs : List V} : Walk (IteB K t a k) xs.length (fun H => SqB K H t a xs) (YPair (fun i => some (.int (k + (i : Nat)))) (fun i => xs[i]?)) := by
  refine ⟨fun i _ hi q => ⟨xs, xs[i], q, by simp [hi]⟩, fun _ q => ⟨xs, q, rfl⟩, fun i H v H' _ q y => ?_⟩
  obtain ⟨T, x, h1, h2, h3, h4⟩ := y
  exact ⟨T, .int (k + (i : Nat)), x, h1, h2, h3, rfl, h4 xs q⟩

/-! ### the readings -/
section
variable {K : PySem.W.Frag} {mg : Str → Option Value} {B : Base} {F : Fz} {ρ : List Addr} {s : S} {σ : Sg} {H : Hp} {v v2 : V} {w : W} {ds es : List D}
theorem seq_ok (k : Ok K B F ρ s σ H) (o : WOk K B F ρ s σ H v w) (e : itemsD w = some ds) : ∃ a t vs, v = .ref a ∧ RpAll K F H vs ds ∧ ∀ F2 H2, SX F H F2 H2 → SqB K H2 t a vs := by
  cases w with
  | val d =>
    have r : Rp K F H v d := o
    cases d with
    | list ys =>
      cases e
      cases r with
      | @lst a xs _ f e r => exact ⟨a, false, xs, rfl, r, fun F2 H2 x => SqL.of (x.stay a _ e (.inl f))⟩
    | tuple ys =>
      cases e
      cases r with
      | @tup a xs _ e r => exact ⟨a, true, xs, rfl, r, fun F2 H2 x => sqT_stay x.stay e⟩
    | _ => cases e
  | scr ns =>
    cases e
    obtain ⟨a, rfl, hs⟩ := o
    exact ⟨a, false, _, rfl, rp_ints ns, fun F2 H2 x => (hs.mono x.stay).sq⟩
  | fn x => cases e
  | exc xx => cases e
  | _ => cases e
def pairs : List D → List D → List D
  | x :: xs, y :: ys => .tuple [x, y] :: pairs xs ys
  | _, _ => []
theorem pairs_length : ∀ xs ys : List D, (pairs xs ys).length = min xs.length ys.length
  | [], ys => by simp [pairs]
  | x :: xs, [] => by simp [pairs]
  | x :: xs, y :: ys => by
    have := pairs_length xs ys
    simp only [pairs, List.length_cons, this]
    omega
theorem pairs_get : ∀ (xs ys : List D) (i : Nat) (d : D), (pairs xs ys)[i]? = some d → ∃ x y, xs[i]? = some x ∧ ys[i]? = some y ∧ d = .tuple [x, y]
  | [], ys, i, d, h => by simp [pairs] at h
  | x :: xs, [], i, d, h => by simp [pairs] at h
  | x :: xs, y :: ys, 0, d, h => by simp [pairs] at h; exact ⟨x, y, rfl, rfl, h.symm⟩
  | x :: xs, y :: ys, i + 1, d, h => by
    obtain ⟨x', y', e1, e2, e3⟩ := pairs_get xs ys i d (by simpa [pairs] using h)
    exact ⟨x', y', by simpa using e1, by simpa using e2, e3⟩
def numbered : Int → List D → List D
  | _, [] => []
  | k, x :: xs => .tuple [.int k, x] :: numbered (k + 1) xs
theorem numbered_length : ∀ (xs : List D) (k : Int), (numbered k xs).length = xs.length
  | [], k => rfl
  | x :: xs, k => by simp [numbered, numbered_length xs]
theorem numbered_get : ∀ (xs : List D) (k : Int) (i : Nat) (d : D), (numbered k xs)[i]? = some d → ∃ x, xs[i]? = some x ∧ d = .tuple [.int (k + (i : Nat)), x]
  | [], k, i, d, h => by simp [numbered] at h
  | x :: xs, k, 0, d, h => by simp [numbered] at h; exact ⟨x, rfl, by simp [h]⟩
  | x :: xs, k, i + 1, d, h => by
    obtain ⟨x', e1, e2⟩ := numbered_get xs (k + 1) i d (by simpa [numbered] using h)
    refine ⟨x', by simpa using e1, ?_⟩
    rw [e2]
    have : k + 1 + (i : Int) = k + ((i + 1 : Nat) : Int) := by omega
    rw [this]
theorem pair_rp {F1 : Fz} {H1 H' : Hp} {x y v : V} {d1 d2 : D} {T : Addr} (r1 : Rp K F1 H1 x d1) (r2 : Rp K F1 H1 y d2) (hT : H1 T = none) (e : H' = upd H1 T (.tup [x, y])) : Rp K F1 H' (.ref T) (.tuple [d1, d2]) := by
  subst e
  exact .tup (SqT.of upd_same) (.cons (r1.st (stay_upd hT) fun _ z => z) (.cons (r2.st (stay_upd hT) fun _ z => z) .nil))
theorem walkD_zip {t u : Bool} {a b : Addr} {xs ys : List V} {F1 : Fz} {H1 : Hp} (q1 : ∀ F2 H2, SX F1 H1 F2 H2 → SqB K H2 t a xs) (q2 : ∀ F2 H2, SX F1 H1 F2 H2 → SqB K H2 u b ys) (r1 : RpAll K F1 H1 xs ds) (r2 : RpAll K F1 H1 ys es) : WalkD K (ItzB K t u a b) (pairs ds es) F1 H1 := by
  refine ⟨_, _, walk_zipB (xs := xs) (ys := ys) (by rw [pairs_length, r1.length, r2.length]) fun _ _ _ _ => trivial, fun F H x => ⟨q1 F H x, q2 F H x⟩, fun i F H x H' d sx ed y => ?_⟩
  obtain ⟨T, v1, v2, rfl, hT, hH, e1, e2⟩ := y
  obtain ⟨d1, d2, g1, g2, rfl⟩ := pairs_get ds es i d ed
  obtain ⟨w1, f1, p1⟩ := r1.get g1
  obtain ⟨w2, f2, p2⟩ := r2.get g2
  have e1' : xs[i]? = some v1 := e1
  have e2' : ys[i]? = some v2 := e2
  rw [f1] at e1'; cases e1'
  rw [f2] at e2'; cases e2'
  exact ⟨.inr ⟨T, _, hT, hH⟩, pair_rp (v := .ref T) (sx.rp p1) (sx.rp p2) hT hH⟩
theorem walkD_enum {t : Bool} {a : Addr} {xs : List V} {F1 : Fz} {H1 : Hp} {k0 : Int} (q1 : ∀ F2 H2, SX F1 H1 F2 H2 → SqB K H2 t a xs) (r1 : RpAll K F1 H1 xs ds) : WalkD K (IteB K t a k0) (numbered k0 ds) F1 H1 := by
  refine ⟨_, _, by rw [numbered_length, ← r1.length]; exact walk_enumB (xs := xs), fun F H x => q1 F H x, fun i F H x H' d sx ed y => ?_⟩
  obtain ⟨T, v1, v2, rfl, hT, hH, e1, e2⟩ := y
  obtain ⟨d2, g2, rfl⟩ := numbered_get ds k0 i d ed
  obtain ⟨w2, f2, p2⟩ := r1.get g2
  have e1' : some (V.int (k0 + (i : Nat))) = some v1 := e1
  have e2' : xs[i]? = some v2 := e2
  cases e1'
  rw [f2] at e2'; cases e2'
  exact ⟨.inr ⟨T, _, hT, hH⟩, pair_rp (v := .ref T) (.int _) (sx.rp p2) hT hH⟩
def rangeD (lo : Int) (n : Nat) : List D := (List.range n).map fun i => .int (lo + (i : Nat))
theorem walkD_range {lo : Int} {n : Nat} {F1 : Fz} {H1 : Hp} : WalkD K (Itr lo n) (rangeD lo n) F1 H1 := by
  refine ⟨_, _, by rw [show (rangeD lo n).length = n by simp [rangeD]]; exact walk_range, fun F H x => trivial, fun i F H x H' d sx ed y => ?_⟩
  obtain ⟨e1, e2⟩ := y
  subst e1 e2
  refine ⟨.inl rfl, ?_⟩
  unfold rangeD at ed
  rw [List.getElem?_map] at ed
  cases q : (List.range n)[i]? with
  | none => rw [q] at ed; cases ed
  | some j =>
    rw [q] at ed
    obtain ⟨h1, h2⟩ := List.getElem?_eq_some_iff.mp q
    simp at h2
    subst h2
    cases ed
    exact .int _
end
def srcA (f : List W → Option (List D)) (ma : M (List W)) : M (List D) := ma >>= fun ws => ofO (f ws)
def zipW : List W → Option (List D)
  | [a, b] => (itemsD a).bind fun x => (itemsD b).map fun y => pairs x y
  | _ => none
def enumW : List W → Option (List D)
  | [a] => (itemsD a).map (numbered 0)
  | _ => none
def enumW2 : List W → Option (List D)
  | [a, .val (.int k)] => if -(2 ^ 63) ≤ k ∧ k < 2 ^ 63 then (itemsD a).map (numbered k) else none
  | _ => none
def rangeW : List W → Option (List D)
  | [.val (.int j)] => if -(2 ^ 62) ≤ j ∧ j < 2 ^ 62 then some (rangeD 0 j.toNat) else none
  | _ => none
def rangeW2 : List W → Option (List D)
  | [.val (.int i), .val (.int j)] => if -(2 ^ 62) ≤ i ∧ i < 2 ^ 62 ∧ -(2 ^ 62) ≤ j ∧ j < 2 ^ 62 then some (rangeD i (j - i).toNat) else none
  | _ => none
section
variable {X : Cx} {Wx : WX} {e e2 : Expr} {ma : M (List W)} {p pos tpos : Pos} {elts : List Expr} {kk : Nat} {tg : Expr}
theorem srcA_step {K : PySem.W.Frag} {mg : Str → Option Value} {σ : Sg} {H : Hp} {R : It → Hp → Prop} {P : List V → Hp → Prop} {f : List W → Option (List D)}
    (hr : ∀ {B F ρ s H vs ws ds}, Ok K B F ρ s σ H → WAll K B F ρ s σ H vs ws → f ws = some ds → (∀ J, WalkD K J ds F H → R J H) → P vs H) (h : SI K mg Wx (srcA f ma) σ H R) : AM K mg Wx ma σ H P := by
  obtain ⟨B, F, ρ, s, k, h⟩ := h
  exact ⟨B, F, ρ, s, k, (Run.bind h).mono (fun ws s1 _ h1 F1 ρ1 H1 vs e1 k1 o1 => by
    obtain ⟨ds, ed, h2⟩ := Run.ofO h1
    exact hr k1 o1 ed fun J wd => h2 F1 ρ1 H1 J e1 k1 wd) fun _ _ _ e => e⟩
theorem d_zip (hm : X.mg "zip" = none) (ha : DA X Wx [e, e2] ma) (hg : Gl X "zip" := by rfl)
    (hs : starEach [e, e2] X.env = (false, eval e X.env) :: starEach [e2] X.env := by rfl) (hpl : (backTo pos (starEach [e2] X.env)).any (·.1) = false := by rfl) :
    DI X Wx (.Tuple elts kk tpos) (.Call (.Name "zip" p) [e, e2] [] pos) (srcA zipW ma) := pi_mono (pi_zipB hg hm ha hs hpl) fun σ H R h => srcA_step (P := fun vs H1 => ∃ a b t u xs ys, vs = [.ref a, .ref b] ∧ SqB X.K H1 t a xs ∧ SqB X.K H1 u b ys ∧ R (ItzB X.K t u a b) H1) (fun {B F ρ s H vs ws ds} k o e hR => by
  cases o with
  | nil => cases e
  | @cons v vs w ws o1 o =>
    cases o with
    | nil => cases e
    | @cons v2 vs w2 ws o2 o =>
      cases o with
      | cons _ _ => cases e
      | nil =>
        have e' : ((itemsD w).bind fun x => (itemsD w2).map fun y => pairs x y) = some ds := e
        cases q1 : itemsD w with
        | none => rw [q1] at e'; cases e'
        | some x =>
          cases q2 : itemsD w2 with
          | none => rw [q1, q2] at e'; cases e'
          | some y =>
            rw [q1, q2] at e'
            cases e'
            obtain ⟨a, t, xs, rfl, r1, g1⟩ := seq_ok k o1 q1
            obtain ⟨b, u, ys, rfl, r2, g2⟩ := seq_ok k o2 q2
            exact ⟨a, b, t, u, xs, ys, rfl, g1 F H .refl, g2 F H .refl, hR _ (walkD_zip g1 g2 r1 r2)⟩) h
theorem d_enum (hm : X.mg "enumerate" = none) (ha : DA X Wx [e] ma) (hg : Gl X "enumerate" := by rfl) (hs : starEach [e] X.env = [(false, eval e X.env)] := by rfl) :
    DI X Wx (.Tuple elts kk tpos) (.Call (.Name "enumerate" p) [e] [] pos) (srcA enumW ma) := pi_mono (pi_enumB hg hm ha hs) fun σ H R h => srcA_step (P := fun vs H1 => ∃ a t xs, vs = [.ref a] ∧ SqB X.K H1 t a xs ∧ R (IteB X.K t a 0) H1) (fun {B F ρ s H vs ws ds} k o e hR => by
  cases o with
  | nil => cases e
  | @cons v vs w ws o1 o =>
    cases o with
    | cons _ _ => cases e
    | nil =>
      have e' : (itemsD w).map (numbered 0) = some ds := e
      cases q1 : itemsD w with
      | none => rw [q1] at e'; cases e'
      | some x =>
        rw [q1] at e'
        cases e'
        obtain ⟨a, t, xs, rfl, r1, g1⟩ := seq_ok k o1 q1
        exact ⟨a, t, xs, rfl, g1 F H .refl, hR _ (walkD_enum g1 r1)⟩) h
theorem d_enum2 (hm : X.mg "enumerate" = none) (ha : DA X Wx [e, e2] ma) (hg : Gl X "enumerate" := by rfl) (hs : starEach [e, e2] X.env = (false, eval e X.env) :: starEach [e2] X.env := by rfl) (hpl : (backTo pos (starEach [e2] X.env)).any (·.1) = false := by rfl) :
    DI X Wx (.Tuple elts kk tpos) (.Call (.Name "enumerate" p) [e, e2] [] pos) (srcA enumW2 ma) := pi_mono (pi_enumB2 hg hm ha hs hpl) fun σ H R h => srcA_step (P := fun vs H1 => ∃ a t xs k, vs = [.ref a, .int k] ∧ SqB X.K H1 t a xs ∧ -(2 ^ 63) ≤ k ∧ k < 2 ^ 63 ∧ R (IteB X.K t a k) H1) (fun {B F ρ s H vs ws ds} k o e hR => by
  cases o with
  | nil => cases e
  | @cons v vs w ws o1 o =>
    cases o with
    | nil => cases e
    | @cons v2 vs w2 ws o2 o =>
      cases o with
      | cons _ _ =>
        unfold enumW2 at e
        split at e
        · rename_i z; cases z
        · cases e
      | nil =>
        unfold enumW2 at e
        split at e
        · rename_i a k0 z
          cases z
          split at e
          · rename_i hk
            cases q1 : itemsD w with
            | none => rw [q1] at e; cases e
            | some x =>
              rw [q1] at e
              cases e
              obtain ⟨a', t, xs, rfl, r1, g1⟩ := seq_ok k o1 q1
              have o2' : Rp X.K F H v2 (.int k0) := o2
              cases o2'
              exact ⟨a', t, xs, k0, rfl, g1 F H .refl, hk.1, hk.2, hR _ (walkD_enum g1 r1)⟩
          · cases e
        · cases e) h
theorem d_range (hm : X.mg "range" = none) (ha : DA X Wx [e] ma) (hg : Gl X "range" := by rfl) (hs : starEach [e] X.env = [(false, eval e X.env)] := by rfl) :
    DI X Wx tg (.Call (.Name "range" p) [e] [] pos) (srcA rangeW ma) := pi_mono (pi_range1 hg hm ha hs) fun σ H R h => srcA_step (P := fun vs H1 => ∃ j : Int, vs = [.int j] ∧ -(2 ^ 62) ≤ j ∧ j < 2 ^ 62 ∧ R (Itr 0 j.toNat) H1) (fun {B F ρ s H vs ws ds} k o e hR => by
  cases o with
  | nil => cases e
  | @cons v vs w ws o1 o =>
    unfold rangeW at e
    split at e
    · rename_i j z
      cases z
      cases o
      split at e
      · rename_i hk
        cases e
        have o1' : Rp X.K F H v (.int j) := o1
        cases o1'
        exact ⟨j, rfl, hk.1, hk.2, hR _ walkD_range⟩
      · cases e
    · cases e) h
theorem d_range2 (hm : X.mg "range" = none) (ha : DA X Wx [e, e2] ma) (hg : Gl X "range" := by rfl) (hs : starEach [e, e2] X.env = [(false, eval e X.env), (false, eval e2 X.env)] := by rfl) (hs2 : starEach [e2] X.env = [(false, eval e2 X.env)] := by rfl) :
    DI X Wx tg (.Call (.Name "range" p) [e, e2] [] pos) (srcA rangeW2 ma) := pi_mono (pi_range2 hg hm ha hs hs2) fun σ H R h => srcA_step (P := fun vs H1 => ∃ i j : Int, vs = [.int i, .int j] ∧ (-(2 ^ 62) ≤ i ∧ i < 2 ^ 62 ∧ -(2 ^ 62) ≤ j ∧ j < 2 ^ 62) ∧ R (Itr i (j - i).toNat) H1) (fun {B F ρ s H vs ws ds} k o e hR => by
  cases o with
  | nil => cases e
  | @cons v vs w ws o1 o =>
    cases o with
    | nil =>
      unfold rangeW2 at e
      split at e
      · rename_i z; cases z
      · cases e
    | @cons v2 vs w2 ws o2 o =>
      unfold rangeW2 at e
      split at e
      · rename_i i j z
        cases z
        cases o
        split at e
        · rename_i hk
          cases e
          have o1' : Rp X.K F H v (.int i) := o1
          have o2' : Rp X.K F H v2 (.int j) := o2
          cases o1'
          cases o2'
          exact ⟨i, j, rfl, hk, hR _ walkD_range⟩
        · cases e
      · cases e) h
end
end Z
/-! Z, part 12: a def by its facts; who is called; calls with keywords. -/
namespace Z
open PySem PySem.Spec PyProof.Rows L2

theorem fn_okD {P : Program} {w : World} {K : PySem.W.Frag} {mg : Str → Option Value} {base : Heap} {x qual : Str} {params : Arguments} {body : List Stmt} {scope : Scope} {dvs : List V} {kws : List (Str × V)} {f : Addr} {fd : FuncData} {N ps : List Str} {k n : Nat} {mb : M SR}
    (G : FunD K x qual params body scope dvs kws f fd) (Sc : FnScope N ps scope) (hps : n = ps.length) (hn : n ≤ N.length)
    (hbody : ∀ (cdv : Value) (A : Around) (outer : List Env) (s : Shared) (H : Hp) (E : XK), Room k (A.deeper (envOfC qual scope s.heap.objs.size f cdv)) →
      PassesOwn (model P w) (A.deeper (envOfC qual scope s.heap.objs.size f cdv)) (envOfC qual scope s.heap.objs.size f cdv) (cxOf (L2.CX P w) P w K mg base N qual scope f cdv A outer s H E).xe →
      Takes (cxOf (L2.CX P w) P w K mg base N qual scope f cdv A outer s H E) (fun cls d _ H => E cls d H) →
      DB (cxOf (L2.CX P w) P w K mg base N qual scope f cdv A outer s H E) (fun cls d _ H => E cls d H) body mb) :
    FnOk P w K mg base (L2.CX P w) (k + 1) f fd ps (spZ K mg n (fnOf N.length mb)) :=
  G.ok Sc (fun vs H Q E h => by obtain ⟨_, _, _, _, e, _⟩ := h; rw [e, hps]) fun cdv A outer s H vs Q E hr h =>
    ⟨_, (hbody cdv A outer s H E hr (passes_of (X := cxOf (L2.CX P w) P w K mg base N qual scope f cdv A outer s H E) rfl) (takes_of rfl rfl rfl rfl)).run |> fun z => ⟨z⟩, body_ok hn h⟩

/-- who is called by the name x: level k, n parameters ps, the mirror fs -/
structure Callee (P : Program) (w : World) (K : PySem.W.Frag) (mg : Str → Option Value) (base : Heap) (x : Str) (k n : Nat) (ps : List Str) (fs : Fn) : Prop where
  ex : ∃ f fd, FnOk P w K mg base (L2.CX P w) k f fd ps (spZ K mg n fs) ∧ mg x = some (.ref f) ∧ PySem.W.keepIn K (.ref f) = true ∧
    ∃ (y q : Str) (params : Arguments) (body : List Stmt) (scope : Scope), FunD K y q params body scope [] [] f fd ∧ True
/-- how it takes what is given -/
structure Takes_ (P : Program) (w : World) (K : PySem.W.Frag) (mg : Str → Option Value) (base : Heap) (x : Str) (k n : Nat) (ps : List Str) (fs : Fn) : Prop where
  ex : ∃ f fd, FnOk P w K mg base (L2.CX P w) k f fd ps (spZ K mg n fs) ∧ mg x = some (.ref f) ∧ PySem.W.keepIn K (.ref f) = true ∧ Binds K fd ps []
structure TakesK (P : Program) (w : World) (K : PySem.W.Frag) (mg : Str → Option Value) (base : Heap) (x : Str) (k n : Nat) (ps : List Str) (fs : Fn) (np : Nat) (ks : List Str) (is : List Nat) : Prop where
  ex : ∃ f fd, FnOk P w K mg base (L2.CX P w) k f fd ps (spZ K mg n fs) ∧ mg x = some (.ref f) ∧ PySem.W.keepIn K (.ref f) = true ∧ ∃ g gV, KBn K fd ps np ks g gV ∧ ∀ vs zs, gV vs zs = is.filterMap fun i => (vs ++ zs)[i]?
section
variable {X : Cx} {Wx : WX} {k n np : Nat} {ps ks : List Str} {is : List Nat} {fs : Fn} {x : Str} {p pos : Pos} {e : Expr} {es : List Expr} {kws : List Keyword} {ma mk : M (List W)}
theorem i_callC (C : Takes_ X.prog X.w X.K X.mg X.base x k n ps fs) (hr : Room k X.A) (tk : Takes X Wx)
    (ha : DA X Wx (e :: es) ma) (hg : Gl X x := by rfl) (hdb : (x == ("__debug__" : Str)) = false := by decide) (he : starEach (e :: es) X.env = (false, eval e X.env) :: starEach es X.env := by rfl) (hpl : (backTo pos (starEach es X.env)).any (·.1) = false := by rfl) :
    DE X Wx (.Call (.Name x p) (e :: es) [] pos) (eCallS n fs ma) := by
  obtain ⟨f, fd, G, hm, hk, hb⟩ := C.ex
  exact i_call G hr hm hk hb tk ha hg hdb he hpl
theorem run_fnSN {CX : CXT} {f : Addr} {fd : FuncData} {sp : Sp} {E : Sg → XK} {g : List Value → List Value → List Value} {gV : List V → List V → List V} {pins : List (Addr × Obj)} {σ : Sg} {H : Hp} {s : Shared} {Q : VK} {us ws : List Value} {vs zs : List V}
    (F : FnOk X.prog X.w X.K X.mg X.base CX k f fd ps sp) (hr : Room k X.A) (hb : KBn X.K fd ps n ks g gV) (hx : PassesAt CX X σ (E σ))
    (I : Inv X pins σ H s) (r : Vals vs us) (rz : Vals zs ws) (l1 : vs.length = n) (l2 : zs.length = ks.length) (h : sp (gV vs zs) H Q (E σ)) : wpAny (model X.prog X.w) X.A (call (.ref f) us (ks.zip ws)) (EP X pins σ Q) X.xe s := by
  have r2 := hb.rel r rz
  refine wpAny_call (codeAny_mono (F.run X.A X.stack s H ⟨us, ks.zip ws⟩ (g us ws) (gV vs zs) Q (E σ) hr I.env0 (hb.to s us ws I.kIn (r.length.symm.trans l1) (rz.length.symm.trans l2)) r2 h) fun r s' hq => ?_)
  cases r with
  | error e => exact hx pins H s e s' I hq
  | ok fl =>
    cases fl with
    | ret u => exact I.after hq
    | next => exact False.elim hq
    | brk => exact False.elim hq
    | cont => exact False.elim hq
/-- the keywords alone -/
theorem pe_callSK0 {CX : CXT} {f : Addr} {fd : FuncData} {sp : Sp} {E : Sg → XK} {g : List Value → List Value → List Value} {gV : List V → List V → List V} {tk : TA} (F : FnOk X.prog X.w X.K X.mg X.base CX k f fd ps sp) (hr : Room k X.A) (hg : Gl X x) (hm : X.mg x = some (.ref f)) (hk : PySem.W.keepIn X.K (.ref f) = true) (hb : KBn X.K fd ps 0 ks g gV) (hx : ∀ σ, PassesAt CX X σ (E σ))
    (hkw : PK X kws tk) (hall : (backToKw pos (keywordEach kws X.env)).all (·.1.isSome) = true := by rfl) (hks : (backToKw pos (keywordEach kws X.env)).filterMap (·.1) = ks := by rfl)
    (hdb : (x == ("__debug__" : Str)) = false := by decide) (hpl : ((backTo pos (starEach [] X.env)).any (·.1) || (backToKw pos (keywordEach kws X.env)).any (·.1.isNone)) = false := by rfl) :
    PE X (.Call (.Name x p) [] kws pos) (fun σ H Q => tk σ H fun zs H2 => zs.length = ks.length ∧ sp (gV [] zs) H2 Q (E σ)) := by
  refine ⟨fun pins s σ H Q I h => ?_⟩
  refine wpAny_Call_Name_kw (ld_glob I hg hm ?_ hdb)
  refine PySem.W.callWith_KW0 (h₀ := X.base) I.ok.mod.kin hk hall ?_ hpl
  refine thn (hkw.run pos pins s σ H _ I h) fun ws s2 ⟨zs, H2, I2, rz, l2, q2⟩ => ⟨I2.kIn, ?_⟩
  rw [hks]
  exact run_fnSN (us := []) (vs := []) F hr hb (hx σ) I2 .nil rz rfl l2 q2
theorem pe_callSK {CX : CXT} {f : Addr} {fd : FuncData} {sp : Sp} {E : Sg → XK} {g : List Value → List Value → List Value} {gV : List V → List V → List V} {t tk : TA} (F : FnOk X.prog X.w X.K X.mg X.base CX k f fd ps sp) (hr : Room k X.A) (hg : Gl X x) (hm : X.mg x = some (.ref f)) (hk : PySem.W.keepIn X.K (.ref f) = true) (hb : KBn X.K fd ps np ks g gV) (hx : ∀ σ, PassesAt CX X σ (E σ))
    (ha : PA X (e :: es) t) (hkw : PK X kws tk) (hall : (backToKw pos (keywordEach kws X.env)).all (·.1.isSome) = true := by rfl) (hks : (backToKw pos (keywordEach kws X.env)).filterMap (·.1) = ks := by rfl)
    (hdb : (x == ("__debug__" : Str)) = false := by decide) (he : starEach (e :: es) X.env = (false, eval e X.env) :: starEach es X.env := by rfl)
    (hpl : ((backTo pos (starEach (e :: es) X.env)).any (·.1) || (backToKw pos (keywordEach kws X.env)).any (·.1.isNone)) = false := by rfl) :
    PE X (.Call (.Name x p) (e :: es) kws pos) (fun σ H Q => t σ H fun vs H1 => tk σ H1 fun zs H2 => vs.length = np ∧ zs.length = ks.length ∧ sp (gV vs zs) H2 Q (E σ)) := by
  refine ⟨fun pins s σ H Q I h => ?_⟩
  refine wpAny_Call_Name_kw (ld_glob I hg hm ?_ hdb)
  refine PySem.W.callWith_KW (h₀ := X.base) I.ok.mod.kin hk hall (thn (ha.run pos pins s σ H _ I h) fun us s1 ⟨vs, H1, I1, r, q⟩ => ?_) hpl he
  refine thn (hkw.run pos pins s1 σ H1 _ I1 q) fun ws s2 ⟨zs, H2, I2, rz, l1, l2, q2⟩ => ⟨I2.kIn, ?_⟩
  rw [hks]
  exact run_fnSN F hr hb (hx σ) I2 r rz l1 l2 q2
def permW (is : List Nat) (ws : List W) : List W := is.filterMap fun i => ws[i]?
def eCallK (n : Nat) (f : Fn) (np nk : Nat) (is : List Nat) (ma mk : M (List W)) : M W := ma >>= fun ws => mk >>= fun zs => if ws.length = np ∧ zs.length = nk then callS n f (permW is (ws ++ zs)) else M.fail
theorem WAll.length {K : PySem.W.Frag} {B : Base} {F : Fz} {ρ : List Addr} {s : S} {σ : Sg} {H : Hp} {vs : List V} {ws : List W} (h : WAll K B F ρ s σ H vs ws) : vs.length = ws.length := by
  induction h with
  | nil => rfl
  | cons _ _ ih => simp [ih]
theorem WAll.app {K : PySem.W.Frag} {B : Base} {F : Fz} {ρ : List Addr} {s : S} {σ : Sg} {H : Hp} {vs vs' : List V} {ws ws' : List W} (h : WAll K B F ρ s σ H vs ws) (h' : WAll K B F ρ s σ H vs' ws') : WAll K B F ρ s σ H (vs ++ vs') (ws ++ ws') := by
  induction h with
  | nil => exact h'
  | cons a _ ih => exact .cons a ih
theorem WAll.get {K : PySem.W.Frag} {B : Base} {F : Fz} {ρ : List Addr} {s : S} {σ : Sg} {H : Hp} {vs : List V} {ws : List W} (h : WAll K B F ρ s σ H vs ws) : ∀ i : Nat, (vs[i]? = none ∧ ws[i]? = none) ∨ ∃ v w, vs[i]? = some v ∧ ws[i]? = some w ∧ WOk K B F ρ s σ H v w := by
  induction h with
  | nil => exact fun i => .inl ⟨by simp, by simp⟩
  | @cons v vs w ws a _ ih =>
    intro i
    cases i with
    | zero => exact .inr ⟨v, w, by simp, by simp, a⟩
    | succ i => simpa using ih i
theorem WAll.perm {K : PySem.W.Frag} {B : Base} {F : Fz} {ρ : List Addr} {s : S} {σ : Sg} {H : Hp} {vs : List V} {ws : List W} (h : WAll K B F ρ s σ H vs ws) : ∀ is : List Nat, WAll K B F ρ s σ H (is.filterMap fun i => vs[i]?) (permW is ws)
  | [] => .nil
  | i :: is => by
    unfold permW
    rcases h.get i with ⟨e1, e2⟩ | ⟨v, w, e1, e2, o⟩
    · rw [List.filterMap_cons, List.filterMap_cons, e1, e2]
      exact WAll.perm h is
    · rw [List.filterMap_cons, List.filterMap_cons, e1, e2]
      exact .cons o (WAll.perm h is)
theorem i_callK0 (C : TakesK X.prog X.w X.K X.mg X.base x k n ps fs 0 ks is) (hr : Room k X.A) (tk : Takes X Wx) (hkw : DK X Wx kws mk) (hks : (backToKw pos (keywordEach kws X.env)).filterMap (·.1) = ks := by rfl) (hg : Gl X x := by rfl)
    (hall : (backToKw pos (keywordEach kws X.env)).all (·.1.isSome) = true := by rfl) (hdb : (x == ("__debug__" : Str)) = false := by decide) (hpl : ((backTo pos (starEach [] X.env)).any (·.1) || (backToKw pos (keywordEach kws X.env)).any (·.1.isNone)) = false := by rfl) :
    DE X Wx (.Call (.Name x p) [] kws pos) (eCallK n fs 0 ks.length is aNil mk) := by
  obtain ⟨f, fd, G, hm, hk, g, gV, hb, hgv⟩ := C.ex
  refine pe_mono (pe_callSK0 (E := WE Wx) G hr hg hm hk hb (fun σ => passAt tk σ) hkw hall hks hdb hpl) fun σ H Q h => ?_
  refine am_step (ma := mk) (f := fun zs => if ([] : List W).length = 0 ∧ zs.length = ks.length then callS n fs (permW is ([] ++ zs)) else M.fail) (P := fun zs H2 => zs.length = ks.length ∧ spZ X.K X.mg n fs (gV [] zs) H2 Q (WE Wx σ)) (fun {B F ρ s H vs ws} kk o h => ?_) h
  by_cases hl : ([] : List W).length = 0 ∧ ws.length = ks.length
  · rw [if_pos hl] at h
    refine ⟨o.length.trans hl.2, ?_⟩
    rw [hgv]
    exact call_step kk (o.perm is) h
  · rw [if_neg hl] at h; exact h.elim
theorem i_callK (C : TakesK X.prog X.w X.K X.mg X.base x k n ps fs np ks is) (hr : Room k X.A) (tk : Takes X Wx) (ha : DA X Wx (e :: es) ma) (hkw : DK X Wx kws mk) (hks : (backToKw pos (keywordEach kws X.env)).filterMap (·.1) = ks := by rfl) (hg : Gl X x := by rfl)
    (hall : (backToKw pos (keywordEach kws X.env)).all (·.1.isSome) = true := by rfl) (hdb : (x == ("__debug__" : Str)) = false := by decide) (he : starEach (e :: es) X.env = (false, eval e X.env) :: starEach es X.env := by rfl)
    (hpl : ((backTo pos (starEach (e :: es) X.env)).any (·.1) || (backToKw pos (keywordEach kws X.env)).any (·.1.isNone)) = false := by rfl) :
    DE X Wx (.Call (.Name x p) (e :: es) kws pos) (eCallK n fs np ks.length is ma mk) := by
  obtain ⟨f, fd, G, hm, hk, g, gV, hb, hgv⟩ := C.ex
  refine pe_mono (pe_callSK (E := WE Wx) G hr hg hm hk hb (fun σ => passAt tk σ) ha hkw hall hks hdb he hpl) fun σ H Q h => ?_
  obtain ⟨B, F, ρ, s, kk, h⟩ := h
  refine ⟨B, F, ρ, s, kk, (Run.bind h).mono (fun ws s1 _ h1 F1 ρ1 H1 vs e1 k1 o1 => ?_) fun _ _ _ e => e⟩
  refine ⟨B, F1, ρ1, s1, k1, (Run.bind h1).mono (fun zs s2 _ h2 F2 ρ2 H2 us e2 k2 o2 => ?_) fun _ _ _ e => e⟩
  by_cases hl : ws.length = np ∧ zs.length = ks.length
  · rw [if_pos hl] at h2
    have o := (o1.mono k1 e2).app o2
    refine ⟨o1.length.trans hl.1, o2.length.trans hl.2, ?_⟩
    rw [hgv]
    exact call_step k2 (o.perm is) (h2.mono (fun w s' _ p => p.step (e1.trans e2 k1.sto) k2.sto) fun _ _ _ e => e)
  · rw [if_neg hl] at h2; exact h2.elim
end
/-- a def of no default takes keywords -/
theorem Vals.perm {vs : List V} {us : List Value} (h : Vals vs us) : ∀ is : List Nat, Vals (is.filterMap fun i => vs[i]?) (is.filterMap fun i => us[i]?)
  | [] => .nil
  | i :: is => by
    rw [List.filterMap_cons, List.filterMap_cons]
    cases q : vs[i]? with
    | none =>
      have : us[i]? = none := by
        rw [List.getElem?_eq_none_iff] at q ⊢
        rw [← h.length]; exact q
      rw [this]
      exact Vals.perm h is
    | some v =>
      obtain ⟨u, hu, ru⟩ := h.get q
      rw [hu]
      exact .cons ru (Vals.perm h is)
theorem funD_kbn {K : PySem.W.Frag} {x qual : Str} {params : Arguments} {body : List Stmt} {scope : Scope} {f : Addr} {fd : FuncData} {ps ks : List Str} {n : Nat} {is : List Nat} (F : FunD K x qual params body scope [] [] f fd)
    (h : ∀ (kV doc pm : Value) (an : Option Addr) (cdv ct : Value) (us ws : List Value), us.length = n → ws.length = ks.length → bindArgs (PySem.W.fnOf x qual params body scope .none kV doc pm an cdv ct) ⟨us, ks.zip ws⟩ = pure (ps.zip (is.filterMap fun i => (us ++ ws)[i]?))) :
    ∃ g gV, KBn K fd ps n ks g gV ∧ ∀ vs zs, gV vs zs = is.filterMap fun i => (vs ++ zs)[i]? := by
  refine ⟨fun us ws => is.filterMap fun i => (us ++ ws)[i]?, fun vs zs => is.filterMap fun i => (vs ++ zs)[i]?, ⟨?_, fun r1 r2 => Vals.perm (r1.append r2) is⟩, fun _ _ => rfl⟩
  obtain ⟨oc, od, dV, kV, doc, pm, an, cdv, ct, osl, rfl, lk, hcd, hD, hK⟩ := F.ex
  rcases hD with ⟨_, rfl⟩ | ⟨e, _⟩
  · exact fun s us ws _ l1 l2 => .of_eq (h kV doc pm an cdv ct us ws l1 l2)
  · exact absurd rfl e
end Z
/-! Z, part 13: comprehensions of two clauses; starred displays. -/
namespace Z
open PySem PySem.Spec PyProof.Rows L2

def compLoop2 (vs vs1 : List Nat) (g : D → M Unit) (c : M Bool) (src1 : M (List D)) (g1 : D → M Unit) (c1 : M Bool) (e : M W) : List D → List D → M (List D)
  | [], acc => Pure.pure acc
  | d :: ds, acc => nE (g d) >>= fun _ => nE c >>= fun b => if b = true then nE src1 >>= fun ds1 => wipeM vs1 >>= fun _ => compLoop vs1 g1 c1 e ds1 acc >>= fun acc' => wipeM vs >>= fun _ => compLoop2 vs vs1 g c src1 g1 c1 e ds acc'
      else wipeM vs >>= fun _ => compLoop2 vs vs1 g c src1 g1 c1 e ds acc
def eLc2 (vs vs1 : List Nat) (src : M (List D)) (g : D → M Unit) (c : M Bool) (src1 : M (List D)) (g1 : D → M Unit) (c1 : M Bool) (e : M W) : M W := src >>= fun ds => lcM vs (compLoop2 vs vs1 g c src1 g1 c1 e ds [])
section
variable {X : Cx} {Wx : WX} {tg e iter : Expr} {m : M W} {src : M (List D)} {g : D → M Unit} {c1 : M Bool} {is : List Nat} {ifs : List Expr} {scope : Scope} {own : List (Str × Nat)} {pos : Pos}
theorem turn_okG {K : PySem.W.Frag} {mg : Str → Option Value} {B : Base} {L : Addr} {vs : List Nat} {σ σ0 : Sg} {d : D} {ds acc : List D} {s0 s : S} {F0 F : Fz} {ρ0 ρ : List Addr} {Hs H : Hp} {x : V} {R : List D → S → Prop} {er : Exc → S → Prop} {Nx : Hp → Prop}
    (his : ∀ j ∈ is, j ∈ vs) (hL : Hs L = none) (hB : B.H L = none) (gx : GX s0 σ0 F0 ρ0 Hs s (L2.wipe σ vs) F ρ H) (k : Ok K B F ρ s (L2.wipe σ vs) H) (a : Acc K F ρ s (L2.wipe σ vs) H L acc) (rp : Rp K F H x d) (h : Run (compLoop vs g c1 m (d :: ds) acc) s R er)
    (hn : ∀ F' ρ' s' H' acc', GX s0 σ0 F0 ρ0 Hs s' (L2.wipe σ vs) F' ρ' H' → Ok K B F' ρ' s' (L2.wipe σ vs) H' → Acc K F' ρ' s' (L2.wipe σ vs) H' L acc' → SX F H F' H' → Run (compLoop vs g c1 m ds acc') s' R er → Nx H') :
    GM K mg Wx0 is g x (L2.wipe σ vs) H fun σ2 H2 => L2.wipe σ2 vs = L2.wipe σ vs ∧ CM K mg Wx0 c1 σ2 H2 fun b H3 => if b = true then EM K mg Wx0 m σ2 H3 fun y H4 => ∃ acc, H4 L = some (.lst acc) ∧ acc.length < sizeLine ∧ Nx (upd H4 L (.lst (acc ++ [y]))) else Nx H3 := by
  refine ⟨B, F, ρ, s, d, k, rp, (Run.nE (Run.bind h)).mono (fun _ s1 _ h1 F1 ρ1 H1 σ1 g1 so k1 => ?_) fun _ _ _ z => z⟩
  have ew := wipe_eq so his
  refine ⟨ew, B, F1, ρ1, s1, k1, (Run.nE (Run.bind h1)).mono (fun b s2 _ h2 F2 ρ2 H2 e2 k2 => ?_) fun _ _ _ z => z⟩
  have a2 := (a.mono k g1).mono k1 e2.gx
  cases b with
  | false =>
    refine iteF ?_
    have h3 : Run (compLoop vs g c1 m ds acc) (s2.wipe vs) R er := Run.bind (m := wipeM vs) h2
    have k3 := k2.wipe_ vs
    rw [ew] at k3
    have gw : GX s2 σ1 F2 ρ2 H2 (s2.wipe vs) (L2.wipe σ vs) F2 ρ2 H2 := by rw [← ew]; exact gx_wipe
    exact hn F2 ρ2 _ H2 acc (((gx.trans g1).trans e2.gx).trans gw) k3 (a2.mono k2 gw) (k.gsx ((g1.trans e2.gx).trans gw)) h3
  | true =>
    refine iteT ⟨B, F2, ρ2, s2, k2, (Run.nE (Run.bind h2)).mono (fun w s3 _ h3 F3 ρ3 H3 y e3 k3 o3 f3 => ?_) fun _ _ _ z => z⟩
    obtain ⟨F4, s4, dy, k4, e4, ry, h4⟩ := val_ok e3 k3 o3 f3 (Run.bind h3)
    have a4 := a2.mono k2 e4.gx
    by_cases hz : acc.length < sizeLine
    · have h5 : Run (if acc.length < sizeLine then wipeM vs >>= fun _ => compLoop vs g c1 m ds (acc ++ [dy]) else M.fail) s4 R er := h4
      rw [if_pos hz] at h5
      have h6 : Run (compLoop vs g c1 m ds (acc ++ [dy])) (s4.wipe vs) R er := Run.bind (m := wipeM vs) h5
      obtain ⟨us, q1, q2, k5, a5⟩ := a4.push hB k4 ry
      have k6 := k5.wipe_ vs
      rw [ew] at k6
      have gw : GX s4 σ1 F4 ρ3 (upd H3 L (.lst (us ++ [y]))) (s4.wipe vs) (L2.wipe σ vs) F4 ρ3 (upd H3 L (.lst (us ++ [y]))) := by rw [← ew]; exact gx_wipe
      have gall := (((gx.trans g1).trans e2.gx).trans e4.gx)
      have sx : SX F H F4 H3 := k.gsx ((g1.trans e2.gx).trans e4.gx)
      exact ⟨us, q1, by rw [q2]; exact hz, hn F4 ρ3 _ _ _ ((gx_push gall hL).trans gw) k6 (a5.mono k5 gw) (sx.trans ⟨fun _ z => z, stay_write q1 a4.nF⟩) h6⟩
    · have h5 : Run (if acc.length < sizeLine then wipeM vs >>= fun _ => compLoop vs g c1 m ds (acc ++ [dy]) else M.fail) s4 R er := h4
      rw [if_neg hz] at h5
      exact h5.elim
/-- the loop of a second clause -/
theorem lc_it1 {J : It} {n : Nat} {G : Hp → Prop} {Y : Nat → Hp → V → Hp → Prop} (w : Walk J n G Y) {g : TG} {tt : TT} {te : TE} {vs : List Nat} {σ : Sg} {H1 : Hp} {D : Addr} {Qd : Hp → Prop} (Pv : Nat → Hp → Prop) (h0 : Pv 0 H1) (hG : ∀ i H, i ≤ n → Pv i H → G H)
    (hs : ∀ i x H H', i < n → Pv i H → Y i H x H' → g x (L2.wipe σ vs) H' fun σ2 H2 => L2.wipe σ2 vs = L2.wipe σ vs ∧ tt σ2 H2 fun b H3 =>
      if b = true then te σ2 H3 fun y H4 => ∃ acc, H4 D = some (.lst acc) ∧ acc.length < sizeLine ∧ Pv (i + 1) (upd H4 D (.lst (acc ++ [y]))) else Pv (i + 1) H3) (hd : ∀ H, Pv n H → Qd H) :
    ∃ W : Nat → Nat → Hp → Prop, (∃ m, W 0 m H1) ∧ ∀ i m H, W i m H →
      (J.stop i H ∧ Qd H) ∨ (J.go i H ∧ ∃ Nx : Hp → Prop, (∀ H', Nx H' → ∃ m', m' < m ∧ W (i + 1) m' H') ∧ ∀ x H', J.yld i H x H' → g x (L2.wipe σ vs) H' fun σ2 H2 => L2.wipe σ2 vs = L2.wipe σ vs ∧ tt σ2 H2 fun b H3 =>
        if b = true then te σ2 H3 fun y H4 => ∃ acc, H4 D = some (.lst acc) ∧ acc.length < sizeLine ∧ Nx (upd H4 D (.lst (acc ++ [y]))) else Nx H3) := by
  refine ⟨fun i m H => m = n - i ∧ i ≤ n ∧ Pv i H, ⟨n, by simp, Nat.zero_le _, h0⟩, ?_⟩
  rintro i m H ⟨rfl, hi, p⟩
  have q := hG i H hi p
  by_cases hlt : i < n
  · refine .inr ⟨w.goes i H hlt q, Pv (i + 1), fun H' p' => ⟨n - (i + 1), by omega, rfl, hlt, p'⟩, fun x H' y => hs i x H H' hlt p (w.yields i H x H' hlt q y)⟩
  · have e : i = n := by omega
    subst e
    exact .inl ⟨w.stops H q, hd H p⟩
theorem so_wipe {σ : Sg} {vs : List Nat} : SO vs σ (L2.wipe σ vs) := ⟨L2.wipe_length _ _, fun j h => wipeS_get h⟩
variable {src1 : M (List D)} {g1 : D → M Unit} {c2 : M Bool} {is1 : List Nat} {vs1 : List Nat} {tg1 iter1 : Expr} {ifs1 : List Expr}
theorem lc2_step {K : PySem.W.Frag} {mg : Str → Option Value} {σ : Sg} {H : Hp} {Q : VK} {vs : List Nat} (his : ∀ j ∈ is, j ∈ vs) (his1 : ∀ j ∈ is1, j ∈ vs1) (hv : ∀ j ∈ vs1, j ∈ vs) (h : EM K mg Wx (eLc2 vs vs1 src g c1 src1 g1 c2 m) σ H Q) :
    tLc2 (SI K mg Wx src) (GM K mg Wx0 is g) (CM K mg Wx0 c1) (SI K mg Wx0 src1) (GM K mg Wx0 is1 g1) (CM K mg Wx0 c2) (EM K mg Wx0 m) vs vs1 σ H Q := by
  obtain ⟨B, F, ρ, s, k, h⟩ := h
  refine ⟨B, F, ρ, s, k, (Run.bind h).mono (fun ds s1 _ h1 F1 ρ1 H1 J e1 k1 wd => ?_) fun _ _ _ z => z⟩
  intro L hL
  have h1' : Run (lcM vs (compLoop2 vs vs1 g c1 src1 g1 c2 m ds [])) s1 (Post K B σ s F ρ H Q) (Er K mg Wx B σ) := h1
  by_cases hf : ownFree s1 vs = true
  · have hb : Run (compLoop2 vs vs1 g c1 src1 g1 c2 m ds []) (s1.wipe vs) (fun r s' => Post K B σ s F ρ H Q (.own r) (s'.rest s1 vs)) (fun _ _ => False) := by
      unfold Run lcM at h1'
      rw [if_pos hf] at h1'
      unfold Run
      cases q : compLoop2 vs vs1 g c1 src1 g1 c2 m ds [] (s1.wipe vs) with
      | fail => rw [q] at h1'; exact h1'.elim
      | err x s' => rw [q] at h1'; exact h1'.elim
      | ok r s' => rw [q] at h1'; exact h1'
    obtain ⟨G, Y, wk, hG, hY⟩ := wd
    have hB := k1.fresh hL
    have kw := k1.wipe_ vs
    have kw0 := kw.new (o := .lst []) hL
    have inv0 : GX (s1.wipe vs) (L2.wipe σ vs) F1 ρ1 H1 (s1.wipe vs) (L2.wipe σ vs) F1 ρ1 (upd H1 L (.lst [])) := (Ext.new_ hL).gx
    have acc0 : Acc K F1 ρ1 (s1.wipe vs) (L2.wipe σ vs) (upd H1 L (.lst [])) L [] := ⟨⟨[], upd_same, .nil⟩, kw.nF hL, kw.nρ hL, kw.nO hL⟩
    let R : List D → S → Prop := fun r s' => Post K B σ s F ρ H Q (.own r) (s'.rest s1 vs)
    let er : Exc → S → Prop := fun _ _ => False
    let Pv : Nat → Hp → Prop := fun i H' => ∃ F' ρ' s' acc, GX (s1.wipe vs) (L2.wipe σ vs) F1 ρ1 H1 s' (L2.wipe σ vs) F' ρ' H' ∧ Ok K B F' ρ' s' (L2.wipe σ vs) H' ∧ Acc K F' ρ' s' (L2.wipe σ vs) H' L acc ∧ Run (compLoop2 vs vs1 g c1 src1 g1 c2 m (ds.drop i) acc) s' R er
    refine ⟨fun i mm H => mm = ds.length - i ∧ i ≤ ds.length ∧ Pv i H, ⟨ds.length, by simp, Nat.zero_le _, F1, ρ1, s1.wipe vs, [], inv0, kw0, acc0, hb⟩, ?_⟩
    rintro i mm H' ⟨rfl, hi, F', ρ', s', acc, x', k', a', h'⟩
    have q := hG F' H' (kw.gsx x')
    by_cases hlt : i < ds.length
    · refine .inr ⟨wk.goes i H' hlt q, Pv (i + 1), fun H' p' => ⟨ds.length - (i + 1), by omega, rfl, hlt, p'⟩, fun x H2 y => ?_⟩
      have y' := wk.yields i H' x H2 hlt q y
      have ed : ds[i]? = some ds[i] := List.getElem?_eq_getElem hlt
      obtain ⟨hH, rp⟩ := hY i F' H' x H2 _ (kw.gsx x') ed y'
      rw [List.drop_eq_getElem_cons hlt] at h'
      have kk : Ok K B F' ρ' s' (L2.wipe σ vs) H2 ∧ GX s' (L2.wipe σ vs) F' ρ' H' s' (L2.wipe σ vs) F' ρ' H2 := by
        rcases hH with rfl | ⟨p, o, hn, rfl⟩
        · exact ⟨k', .refl⟩
        · exact ⟨k'.new hn, (Ext.new_ hn).gx⟩
      obtain ⟨k2, x2⟩ := kk
      have gx := x'.trans x2
      have a2 := a'.mono k' x2
      refine ⟨B, F', ρ', s', ds[i], k2, rp, (Run.nE (Run.bind h')).mono (fun _ s3 _ h3 F3 ρ3 H3 σ3 g3 so k3 => ?_) fun _ _ _ z => z⟩
      have ew := wipe_eq so his
      refine ⟨ew, B, F3, ρ3, s3, k3, (Run.nE (Run.bind h3)).mono (fun b s4 _ h4 F4 ρ4 H4 e4 k4 => ?_) fun _ _ _ z => z⟩
      have a4 := (a2.mono k2 g3).mono k3 e4.gx
      cases b with
      | false =>
        refine iteF ?_
        have h5 : Run (compLoop2 vs vs1 g c1 src1 g1 c2 m (ds.drop (i + 1)) acc) (s4.wipe vs) R er := Run.bind (m := wipeM vs) h4
        have k5 := k4.wipe_ vs
        rw [ew] at k5
        have gw : GX s4 σ3 F4 ρ4 H4 (s4.wipe vs) (L2.wipe σ vs) F4 ρ4 H4 := by rw [← ew]; exact gx_wipe
        exact ⟨F4, ρ4, _, acc, (((gx.trans g3).trans e4.gx).trans gw), k5, a4.mono k4 gw, h5⟩
      | true =>
        refine iteT ⟨B, F4, ρ4, s4, k4, (Run.nE (Run.bind h4)).mono (fun ds1 s5 _ h5 F5 ρ5 H5 J1 e5 k5 wd1 => ?_) fun _ _ _ z => z⟩
        have h6 : Run (compLoop vs1 g1 c2 m ds1 acc >>= fun acc' => wipeM vs >>= fun _ => compLoop2 vs vs1 g c1 src1 g1 c2 m (ds.drop (i + 1)) acc') (s5.wipe vs1) R er := Run.bind (m := wipeM vs1) h5
        have h7 := Run.bind h6
        have k6 := k5.wipe_ vs1
        have gw : GX s5 σ3 F5 ρ5 H5 (s5.wipe vs1) (L2.wipe σ3 vs1) F5 ρ5 H5 := gx_wipe
        have gall := (((gx.trans g3).trans e4.gx).trans e5.gx).trans gw
        have a6 := (a4.mono k4 e5.gx).mono k5 gw
        obtain ⟨G1, Y1, wk1, hG1, hY1⟩ := wd1
        let R1 : List D → S → Prop := fun acc' s' => Run (wipeM vs >>= fun _ => compLoop2 vs vs1 g c1 src1 g1 c2 m (ds.drop (i + 1)) acc') s' R er
        have ew2 : L2.wipe (L2.wipe σ3 vs1) vs = L2.wipe σ vs := wipe_eq (so.trans so_wipe) fun j hj => by
          rcases List.mem_append.mp hj with z | z
          · exact his j z
          · exact hv j z
        refine lc_it1 wk1 (fun j H7 => ∃ F7 ρ7 s7 acc7, (GX (s1.wipe vs) (L2.wipe σ vs) F1 ρ1 H1 s7 (L2.wipe σ3 vs1) F7 ρ7 H7 ∧ SX F5 H5 F7 H7) ∧ Ok K B F7 ρ7 s7 (L2.wipe σ3 vs1) H7 ∧ Acc K F7 ρ7 s7 (L2.wipe σ3 vs1) H7 L acc7 ∧ Run (compLoop vs1 g1 c2 m (ds1.drop j) acc7) s7 R1 er)
          ⟨F5, ρ5, s5.wipe vs1, acc, ⟨gall, .refl⟩, k6, a6, h7⟩ (fun j H7 _ ⟨F7, ρ7, s7, acc7, x7, _⟩ => hG1 F7 H7 x7.2) (fun j x H7 H8 hj ⟨F7, ρ7, s7, acc7, ⟨x7, sx7⟩, k7, a7, h7'⟩ y => ?_) fun H7 ⟨F7, ρ7, s7, acc7, ⟨x7, sx7⟩, k7, a7, h7'⟩ => ?_
        · have ed : ds1[j]? = some ds1[j] := List.getElem?_eq_getElem hj
          obtain ⟨hH, rp⟩ := hY1 j F7 H7 x H8 _ sx7 ed y
          rw [List.drop_eq_getElem_cons hj] at h7'
          have kk : Ok K B F7 ρ7 s7 (L2.wipe σ3 vs1) H8 ∧ GX s7 (L2.wipe σ3 vs1) F7 ρ7 H7 s7 (L2.wipe σ3 vs1) F7 ρ7 H8 := by
            rcases hH with rfl | ⟨p, o, hn, rfl⟩
            · exact ⟨k7, .refl⟩
            · exact ⟨k7.new hn, (Ext.new_ hn).gx⟩
          obtain ⟨k8, x8⟩ := kk
          exact turn_okG his1 hL hB (x7.trans x8) k8 (a7.mono k7 x8) rp h7' fun F9 ρ9 s9 H9 acc9 g9 k9 a9 sx9 h9 => ⟨F9, ρ9, s9, acc9, ⟨g9, (sx7.trans (k7.gsx x8)).trans sx9⟩, k9, a9, h9⟩
        · rw [List.drop_length] at h7'
          have h8 : Run (compLoop2 vs vs1 g c1 src1 g1 c2 m (ds.drop (i + 1)) acc7) (s7.wipe vs) R er := Run.bind (m := wipeM vs) (Run.ret (er := er) h7')
          have k8 := k7.wipe_ vs
          rw [ew2] at k8
          have gw8 : GX s7 (L2.wipe σ3 vs1) F7 ρ7 H7 (s7.wipe vs) (L2.wipe σ vs) F7 ρ7 H7 := by rw [← ew2]; exact gx_wipe
          exact ⟨F7, ρ7, _, acc7, x7.trans gw8, k8, a7.mono k7 gw8, h8⟩
    · have e : i = ds.length := by omega
      subst e
      rw [List.drop_length] at h'
      obtain ⟨kr, er'⟩ := Ok.restore k1 hf x' k'
      obtain ⟨us, q1, q2⟩ := a'.at_
      have ow : ¬ OwnedBy (s'.rest s1 vs) σ L := fun z => by
        have := er'.ow L z
        exact k1.nO hL this
      exact .inl ⟨wk.stops H' q, (Run.ret (er := fun _ _ => False) h') F' ρ' H' _ (e1.trans er' k1.sto) kr ⟨L, us, rfl, q1, q2, a'.nF, a'.nρ, ow, hB⟩ fun a e => by cases e; exact e1.th L hL⟩
  · unfold Run lcM at h1'
    rw [if_neg hf] at h1'
    exact h1'.elim
theorem i_lc2 (hc : X.calm = true) (hN : X.N.Nodup) (hi : DI X Wx tg iter src) (ok : BlkOk X.N X.env.scope scope own) (hv : ∀ j ∈ vs1, j ∈ own.map (·.2))
    (hg : ∀ (s : Shared) (H : Hp) (C : Addr) (cl : List (Str × Addr)) (fp : List Addr), DG (X.blk s H scope (compEnvC scope cl C X.env) fp) Wx0 is tg g)
    (ht : ∀ (s : Shared) (H : Hp) (C : Addr) (cl : List (Str × Addr)) (fp : List Addr), DTs (X.blk s H scope (compEnvC scope cl C X.env) fp) ifs c1)
    (hi1 : ∀ (s : Shared) (H : Hp) (C : Addr) (cl : List (Str × Addr)) (fp : List Addr), DI (X.blk s H scope (compEnvC scope cl C X.env) fp) Wx0 tg1 iter1 src1)
    (hg1 : ∀ (s : Shared) (H : Hp) (C : Addr) (cl : List (Str × Addr)) (fp : List Addr), DG (X.blk s H scope (compEnvC scope cl C X.env) fp) Wx0 is1 tg1 g1)
    (ht1 : ∀ (s : Shared) (H : Hp) (C : Addr) (cl : List (Str × Addr)) (fp : List Addr), DTs (X.blk s H scope (compEnvC scope cl C X.env) fp) ifs1 c2)
    (he : ∀ (s : Shared) (H : Hp) (C : Addr) (cl : List (Str × Addr)) (fp : List Addr), DE (X.blk s H scope (compEnvC scope cl C X.env) fp) Wx0 e m) (his : ∀ j ∈ is, j ∈ own.map (·.2)) (his1 : ∀ j ∈ is1, j ∈ vs1)
    (hs : ∀ x, foldedSetIterable iter X.env x = pure x := by intro _; rfl) (hs1 : ∀ env x, foldedSetIterable iter1 env x = pure x := by intro _ _; rfl) :
    DE X Wx (.ListComp e [⟨tg, iter, ifs, 0⟩, ⟨tg1, iter1, ifs1, 0⟩] scope pos) (eLc2 (own.map (·.2)) vs1 src g c1 src1 g1 c2 m) :=
  pe_mono (pe_lc2 hc hN hi ok hv hg ht hi1 hg1 ht1 he hs hs1) fun σ H Q h => lc2_step his his1 hv h
theorem s_setLc2 {i : Nat} {y : Str} {py spos : Pos} (hc : X.calm = true) (hN : X.N.Nodup) (hy : X.N[i]? = some y) (hyl : X.env.scope.names.lookup y = some .local)
    (hsw : swapsWith (.ListComp e [⟨tg, iter, ifs, 0⟩, ⟨tg1, iter1, ifs1, 0⟩] scope pos) (some (.Name y py)) spos.line X.env = pure true) (hi : DI X Wx tg iter src) (ok : BlkOk X.N X.env.scope scope own) (hv : ∀ j ∈ vs1, j ∈ own.map (·.2))
    (hg : ∀ (s : Shared) (H : Hp) (C : Addr) (cl : List (Str × Addr)) (fp : List Addr), DG (X.blk s H scope (compEnvC scope cl C X.env) fp) Wx0 is tg g)
    (ht : ∀ (s : Shared) (H : Hp) (C : Addr) (cl : List (Str × Addr)) (fp : List Addr), DTs (X.blk s H scope (compEnvC scope cl C X.env) fp) ifs c1)
    (hi1 : ∀ (s : Shared) (H : Hp) (C : Addr) (cl : List (Str × Addr)) (fp : List Addr), DI (X.blk s H scope (compEnvC scope cl C X.env) fp) Wx0 tg1 iter1 src1)
    (hg1 : ∀ (s : Shared) (H : Hp) (C : Addr) (cl : List (Str × Addr)) (fp : List Addr), DG (X.blk s H scope (compEnvC scope cl C X.env) fp) Wx0 is1 tg1 g1)
    (ht1 : ∀ (s : Shared) (H : Hp) (C : Addr) (cl : List (Str × Addr)) (fp : List Addr), DTs (X.blk s H scope (compEnvC scope cl C X.env) fp) ifs1 c2)
    (he : ∀ (s : Shared) (H : Hp) (C : Addr) (cl : List (Str × Addr)) (fp : List Addr), DE (X.blk s H scope (compEnvC scope cl C X.env) fp) Wx0 e m) (his : ∀ j ∈ is, j ∈ own.map (·.2)) (his1 : ∀ j ∈ is1, j ∈ vs1)
    (hs : ∀ x, foldedSetIterable iter X.env x = pure x := by intro _; rfl) (hs1 : ∀ env x, foldedSetIterable iter1 env x = pure x := by intro _ _; rfl) :
    DS X Wx (.Assign [.Name y py] (.ListComp e [⟨tg, iter, ifs, 0⟩, ⟨tg1, iter1, ifs1, 0⟩] scope pos) spos) (sAsg i (eLc2 (own.map (·.2)) vs1 src g c1 src1 g1 c2 m)) :=
  ps_mono (ps_setLc2 hc hN hy hyl hsw hi ok hv hg ht hi1 hg1 ht1 he hs hs1) fun D σ H h => lc2_step his his1 hv (asg_step h)
/-! ### starred displays -/
def valsD : List D → List W := List.map .val
def aStar (m : M W) (r : M (List W)) : M (List W) := m >>= fun a => escW a >>= fun w => ofO (itemsD w) >>= fun ds => r >>= fun ws => Pure.pure (valsD ds ++ ws)
theorem wall_vals {K : PySem.W.Frag} {B : Base} {F : Fz} {ρ : List Addr} {s : S} {σ : Sg} {H : Hp} : ∀ {vs : List V} {ds : List D}, RpAll K F H vs ds → WAll K B F ρ s σ H vs (valsD ds)
  | _, _, .nil => .nil
  | _, _, .cons a b => .cons a (wall_vals b)
theorem a_star {es : List Expr} {ma : M (List W)} {p : Pos} (ha : DE X Wx e m) (hr : DA X Wx es ma) (hs : starEach (.Starred e p :: es) X.env = (true, eval e X.env) :: starEach es X.env := by rfl) : DA X Wx (.Starred e p :: es) (aStar m ma) :=
  pa_mono (StX.pa_star ha hr hs) fun σ H Q ⟨B, F, ρ, s, k, h⟩ => by
    refine ⟨B, F, ρ, s, k, (Run.bind h).mono (fun w1 s1 _ h1 F1 ρ1 H1 x e1 k1 o1 f1 => ?_) fun _ _ _ e => e⟩
    obtain ⟨F2, s2, w2, k2, e2, o2, st2, h2⟩ := esc_ok k1.sto e1 k1 o1 f1 (Run.bind h1)
    obtain ⟨ds, ed, h3⟩ := Run.ofOb h2
    obtain ⟨a, t, vs, rfl, r, sq⟩ := seq_ok k2 o2 ed
    have sq0 := sq F2 H1 .refl
    have sq1 : SqT X.K H1 a vs ∨ SqL X.K H1 a vs := match t, sq0 with
      | true, z => .inl z
      | false, z => .inr z
    refine ⟨a, vs, rfl, sq1, B, F2, ρ1, s2, k2, (Run.bind h3).mono (fun ws s3 _ h3 F3 ρ3 H3 us e3 k3 o3 => ?_) fun _ _ _ e => e⟩
    have x3 := k2.sx e3
    exact (Run.ret h3) F3 ρ3 H3 _ (e2.trans e3 k2.sto) k3 ((wall_vals (x3.rpAll r)).app o3)
end
end Z
/-! Z, part 14: the module's names as facts; the law's end. -/
namespace Z
open PySem PySem.Spec PyProof.Rows L2

/-! ### constants of the module -/
mutual
def conB (K : PySem.W.Frag) : D → Value → Bool
  | .none, .none => true
  | .bool b, .bool c => b == c
  | .int i, .int j _ => decide (i = j)
  | .str x, .str y _ => decide (x = y)
  | .tuple ds, .ref a => (match K.lookup a with
    | some ⟨.type c, _, .seq its _, _⟩ => decide (c = "tuple") && (decide (its.size ≤ sizeLine) && conAll K ds its.toList)
    | _ => false)
  | _, _ => false
def conAll (K : PySem.W.Frag) : List D → List Value → Bool
  | [], [] => true
  | d :: ds, u :: us => conB K d u && conAll K ds us
  | _, _ => false
end
mutual
theorem conB_ok {K : PySem.W.Frag} : ∀ (d : D) (u : Value), conB K d u = true → ∃ v, RelV v u ∧ ∀ F H, Rp K F H v d
  | .none, u, h => by
    cases u with
    | none => exact ⟨.non, rfl, fun _ _ => .non⟩
    | _ => cases h
  | .bool b, u, h => by
    cases u with
    | bool c =>
      have : b = c := eq_of_beq h
      subst this
      exact ⟨.bl b, rfl, fun _ _ => .bl b⟩
    | _ => cases h
  | .int i, u, h => by
    cases u with
    | int j t =>
      have : i = j := of_decide_eq_true h
      subst this
      exact ⟨.int i, ⟨t, rfl⟩, fun _ _ => .int i⟩
    | _ => cases h
  | .str i, u, h => by
    cases u with
    | str j t =>
      have : i = j := of_decide_eq_true h
      subst this
      exact ⟨.str i, ⟨t, rfl⟩, fun _ _ => .str i⟩
    | _ => cases h
  | .tuple ds, u, h => by
    cases u with
    | ref a =>
      have h1 : (match K.lookup a with
        | some ⟨.type c, _, .seq its _, _⟩ => decide (c = "tuple") && (decide (its.size ≤ sizeLine) && conAll K ds its.toList)
        | _ => false) = true := h
      cases q : K.lookup a with
      | none => rw [q] at h1; cases h1
      | some o =>
        obtain ⟨oc, od, dt, osl⟩ := o
        rw [q] at h1
        cases oc with
        | type c =>
          cases dt with
          | seq its n =>
            obtain ⟨h2, h3⟩ := He.ba (show (decide (c = "tuple") && (decide (its.size ≤ sizeLine) && conAll K ds its.toList)) = true from h1)
            obtain ⟨h4, h5⟩ := He.ba h3
            obtain ⟨vs, rv, rp⟩ := conAll_ok ds its.toList h5
            exact ⟨.ref a, rfl, fun F H => .tup (.inr ⟨_, its, n, q, congrArg Value.type (of_decide_eq_true h2), rfl, of_decide_eq_true h4, rv⟩) (rp F H)⟩
          | _ => cases h1
        | _ => cases dt <;> cases h1
    | _ => cases h
  | .list ds, u, h => by cases u <;> cases h
  | .dict ds, u, h => by cases u <;> cases h
theorem conAll_ok {K : PySem.W.Frag} : ∀ (ds : List D) (us : List Value), conAll K ds us = true → ∃ vs, Vals vs us ∧ ∀ F H, RpAll K F H vs ds
  | [], [], _ => ⟨[], .nil, fun _ _ => .nil⟩
  | [], _ :: _, h => by cases h
  | _ :: _, [], h => by cases h
  | d :: ds, u :: us, h => by
    obtain ⟨h1, h2⟩ := He.ba (show (conB K d u && conAll K ds us) = true from h)
    obtain ⟨v, r1, p1⟩ := conB_ok d u h1
    obtain ⟨vs, r2, p2⟩ := conAll_ok ds us h2
    exact ⟨v :: vs, .cons r1 r2, fun F H => .cons (p1 F H) (p2 F H)⟩
end
def Con (K : PySem.W.Frag) (mg : Str → Option Value) (x : Str) (d : D) : Prop := ∃ u v, mg x = some u ∧ RelV v u ∧ ∀ F H, Rp K F H v d
theorem i_con {X : Cx} {Wx : WX} {x : Str} {d : D} {pos : Pos} (C : Con X.K X.mg x d) (hg : Gl X x := by rfl) (hdb : (x == ("__debug__" : Str)) = false := by decide) : DE X Wx (.Name x pos) (eC d) := by
  obtain ⟨u, v, hm, r, hd⟩ := C
  exact i_glob hg hm r hd hdb
/-! ### more facts -/
inductive Fb where
  | con (x : Str) (d : D)
  | blt (x : Str) (id : String)
  | is (f : PySem.W.Frag → Bool)
def isBlt (id : String) : Option (Option Value) → Bool
  | some (some (.builtin i)) => decide (i = id)
  | _ => false
def Fb.ok (K : PySem.W.Frag) : Fb → Bool
  | .con x d => (match PySem.W.nsIn K mainGlobals x with
    | some (some u) => conB K d u
    | _ => false)
  | .blt x id => (match PySem.W.nsIn K mainGlobals x with
    | some (some (.builtin i)) => decide (i = id)
    | _ => false)
  | .is f => f K
section
variable {K : PySem.W.Frag} {h : Heap} {mg : Str → Option Value}
theorem con_ok (X : K.In h) (G : h.Ns mainGlobals mg) {x : Str} {d : D} (c : (Fb.con x d).ok K = true) : Con K mg x d := by
  have c1 : (match PySem.W.nsIn K mainGlobals x with
    | some (some u) => conB K d u
    | _ => false) = true := c
  cases e : PySem.W.nsIn K mainGlobals x with
  | none => rw [e] at c1; cases c1
  | some o =>
    rw [e] at c1
    cases o with
    | none => cases c1
    | some u =>
      obtain ⟨v, r, p⟩ := conB_ok d u c1
      exact ⟨u, v, PySem.W.mg_of X G e, r, p⟩
theorem blt_ok (X : K.In h) (G : h.Ns mainGlobals mg) {x : Str} {id : String} (c : (Fb.blt x id).ok K = true) : mg x = some (.builtin id) := by
  have c1 : (match PySem.W.nsIn K mainGlobals x with
    | some (some (.builtin i)) => decide (i = id)
    | _ => false) = true := c
  cases e : PySem.W.nsIn K mainGlobals x with
  | none => rw [e] at c1; cases c1
  | some o =>
    rw [e] at c1
    cases o with
    | none => cases c1
    | some u =>
      cases u with
      | builtin i =>
        have : i = id := of_decide_eq_true c1
        subst this
        exact PySem.W.mg_of X G e
      | _ => cases c1
end
def obsZ (fa : List He.Fa) (fb : List Fb) (fn : List He.DefD) (K : PySem.W.Frag) : He.AlD := ((He.obsD fa fn K).1 && fb.all fun f => f.ok K, (He.obsD fa fn K).2)
def SaysZ (fa : List He.Fa) (fb : List Fb) (fn : List He.DefD) (K : PySem.W.Frag) : Prop := He.SaysD fa fn K ∧ (fb.all fun f => f.ok K) = true
theorem says_of {fa : List He.Fa} {fb : List Fb} {fn : List He.DefD} {K : PySem.W.Frag} (e : obsZ fa fb fn K = He.valD fn) : SaysZ fa fb fn K := by
  have g1 : (obsZ fa fb fn K).1 = (He.valD fn).1 := congrArg (fun z : He.AlD => z.1) e
  have g2 : (obsZ fa fb fn K).2 = (He.valD fn).2 := congrArg (fun z : He.AlD => z.2) e
  have h1 : ((He.obsD fa fn K).1 && fb.all fun f => f.ok K) = true := g1
  have h2 : (He.obsD fa fn K).2 = (He.valD fn).2 := g2
  obtain ⟨h3, h4⟩ := He.ba h1
  exact ⟨Prod.ext h3 h2, h4⟩
def obsZG (n : Nat) (fa : List He.Fa) (fb : List Fb) (fn : List He.DefD) (g : Addr → Option Obj) : He.AlD := obsZ fa fb fn (He.frG g (He.asD g n))
def hookZ (n : Nat) (fa : List He.Fa) (fb : List Fb) (fn : List He.DefD) : PySem.W.Hook where
  α := He.AlD
  obs := fun s => obsZG n fa fb fn s.heap.get?
  val := fun _ => He.valD fn
  says := fun _ h => ∃ K : PySem.W.Frag, K.In h ∧ SaysZ fa fb fn K
  of := fun _ _ e => ⟨_, He.frG_in, says_of e⟩
  keeps := fun _ _ _ ⟨K, hK, c⟩ k => ⟨K, PySem.W.Frag.In.keeps hK k, c⟩
theorem obsZG_eq {n : Nat} {fa : List He.Fa} {fb : List Fb} {fn : List He.DefD} {g : Addr → Option Obj} {s : Shared} (h : ∀ a, g a = s.heap.get? a) : obsZG n fa fb fn g = (hookZ n fa fb fn).obs s := by
  have e : g = s.heap.get? := funext h
  rw [e] <;> rfl
section
variable {fa : List He.Fa} {fb : List Fb} {fn : List He.DefD} {K : PySem.W.Frag}
theorem SaysZ.fact (c : SaysZ fa fb fn K) (i : Nat) {f : He.Fa} (h : fa[i]? = some f := by rfl) : f.ok K = true := c.1.fact i h
theorem SaysZ.more (c : SaysZ fa fb fn K) (i : Nat) {f : Fb} (h : fb[i]? = some f := by rfl) : f.ok K = true := List.all_eq_true.mp c.2 f (List.mem_of_getElem? h)
end
/-! ### nothing goes out of a comprehension; nothing is asked of what is never reached -/
theorem takes0 {X : Cx} : Takes X Wx0 := fun u s' ⟨_, _, _, _, _, _, _, _, _, _, _, _, _, _, _, _, w⟩ => w.elim
theorem b_never {X : Cx} {Wx : WX} {st : List Stmt} : DB X Wx st sFail := ⟨fun pins s σ H D I ⟨B, F, ρ, s', k, h⟩ => h.elim⟩
theorem e_never {X : Cx} {Wx : WX} {e : Expr} : DE X Wx e M.fail := ⟨fun pins s σ H D I ⟨B, F, ρ, s', k, h⟩ => h.elim⟩
theorem c_never {X : Cx} {Wx : WX} {e : Expr} : DC X Wx e M.fail := ⟨fun pins s σ H D I ⟨B, F, ρ, s', k, h⟩ => h.elim⟩
theorem hu64 {k : Nat} {A : Around} (r : Room k A) : A.units + 64 < cLine := r.units
theorem hu65 {k : Nat} {A : Around} (r : Room k A) : A.units + 65 < cLine := by have := r.un; omega
/-! ### the law's own call -/
theorem law_end {K : PySem.W.Frag} {mg : Str → Option Value} {f : Fn} {H : Hp} {a : Addr} {ns : List Int} (hO : Only H) (hS : SqL K H a (ns.map V.int)) (h : ∃ st, f [.scr ns] [] = .ok (.val (.bool true)) st) :
    spZ K mg 1 f [.ref a] H (fun v _ => v = .bl true) fun _ _ _ => False := by
  obtain ⟨st, e⟩ := h
  have hs : ScrAt K H a ns := by
    rcases hS with h | h
    · rcases h with h | ⟨o, h⟩
      · rcases hO a with z | ⟨o, xs, z⟩
        · rw [h] at z; cases z
        · rw [h] at z; cases z
      · exact .inl ⟨o, h⟩
    · exact .inr (.inr h)
  refine ⟨fun _ => False, [], [], [.scr ns], rfl, ⟨fun _ z => z.elim, ⟨rfl, List.nodup_nil, fun n ds e => by simp at e⟩⟩, .cons ⟨a, rfl, hs⟩ .nil, ?_⟩
  unfold FRun
  rw [e]
  exact fun F' ρ' v H' _ _ r => by
    have r' : Rp K F' H' v (.bool true) := r
    cases r'
    rfl
/-- a law over the world's own readings of what is let out -/
theorem walk_ofZ {l : PySem.W.OpenLaw} {n k : Nat} {q : Program} {loose : List Str} {XP : (Str → Option Value) → Heap → Prop} {YP : World → Heap → Prop} {d : DefRec} {x : Str} (hn : l.most = some n) (hn2 : n ≤ sizeLine) (hdf : d.params.defaults = []) (hr : Room k callerA)
    (F : ∀ (w : World) (mg : Str → Option Value) (fa : Addr) (h : Heap), YP w h → h.Ns mainGlobals mg → mg d.name = some (.ref fa) → ∃ (K : PySem.W.Frag) (fd : FuncData) (f : Fn), K.In h ∧
      (∀ (s : Shared) (u : Value), BindsTo s fd ⟨[u], []⟩ [(x, u)]) ∧ (∀ ns : List Int, ns.length ≤ n → ∃ st, f [.scr ns] [] = .ok (.val (.bool true)) st) ∧ ∀ base : Heap, K.In base → base.Ns mainGlobals mg → FnOk l.prog w K mg base (L2.CX l.prog w) k fa fd [x] (spZ K mg 1 f)) :
    PySem.W.WalkO q loose XP YP l.row.toRowW d [] (fun f vs => PySem.call f vs) := by
  refine Att.attach_call hn hdf fun w s₀ s₁ mg mb fa o pm cd doc a vs ns G Y ho hd hcd hmg hobj hints hlen hg => ?_
  obtain ⟨K, fd, f, KX, hb, hlaw, hF⟩ := F w mg fa _ Y G.T.g hmg
  exact law_call KX G.T.g G.T.b G.T.builtins G.T.nolimit hg hobj hints (Nat.le_trans hlen hn2) hr hF hb (fun H hO hS => law_end hO hS (hlaw ns hlen)) fun H e s' h => by
    obtain ⟨_, _, _, _, _, _, _, _, _, _, _, _, z⟩ := h
    exact z
end Z
/-! Z, part 15: sum of lists, from a list. -/
namespace Z
open PySem PySem.Spec PyProof.Rows L2

/-- what stands in the lists from the i-th on -/
def restL (ls : Nat → List Value) (i : Nat) : Nat → List Value
  | 0 => []
  | k + 1 => ls i ++ restL ls (i + 1) k
section
variable {prog : Program} {w : World} {A : Around} {R : Result → Shared → Prop} {I : Addr} {fp wr : List Addr} {n : Nat} {P : Nat → Value → Prop} {St : Nat → Heap → Prop}
theorem fresh_size {h : Heap} {b : Addr} {o : Obj} (e : h.get? b = some o) : h.objs.size ≠ b := Nat.ne_of_gt (Heap.lt_size e)
theorem sum_lists_loop (W : Walks prog w A.in1 I fp wr n P St) (hfl : ∀ i h, St i h → ∀ b ∈ fp, ∃ o, h.get? b = some o) (ad : Nat → Addr) (ls : Nat → List Value) (cp : Nat → Nat) (hval : ∀ i v, P i v → v = .ref (ad i)) (S : Addr) (hSf : S ∉ fp) (hSa : ∀ i, i < n → ad i ≠ S) (hwa : ∀ i, i < n → ad i ∉ wr) :
    ∀ (k i : Nat) (s : Shared) (T : Addr) (acc : List Value) (ct c : Nat), n - i = k → i ≤ n → St i s.heap → IsL s.heap S #[.ref T] c → T ≠ S → T ∉ wr → IsL s.heap T acc.toArray ct → (∀ j, j < n → IsL s.heap (ad j) (ls j).toArray (cp j)) → (acc ++ restL ls i k).length ≤ sizeLine →
    (∀ h' tk T' ct', IsL h' T' (acc ++ restL ls i k).toArray ct' → (k = 0 → T' = T) → (k ≠ 0 → s.heap.get? T' = none) → (∀ b o, b ∉ wr → b ≠ S → s.heap.get? b = some o → h'.get? b = some o) → R (.ok (.ret (.ref T'))) { s with heap := h', toks := tk }) →
    codeAny (model prog w) A (.builtin "sum.loop" ⟨[.ref I, .ref S, rawInt 2, rawInt 0], []⟩) R s := by
  have hSw : S ∉ wr := fun h => hSf (W.sub _ h)
  intro k
  induction k with
  | zero =>
    intro i s T acc ct c hk hi hst hS hTS hTw hT hL hz hR
    have hin : i = n := by omega
    subst hin
    refine codeAny_builtin F.entry_sum_loop ?_
    rw [Around.under_plainId F.plain_sum_loop _]
    show wpAny _ A.in1 (seqItems? (.ref S) >>= _) _ _ s
    refine wpAny_bind (wpAny_seqItems hS rfl ?_)
    show wpAny _ A.in1 (tryCatch (pyNext (.ref I)) _ >>= _) _ _ s
    refine wpAny_bind (wpAny_tryCatch (W.done s _ _ hst fun h' tk hk' => ?_))
    refine wpAny_pure (hR h' tk T ct ?_ (fun _ => rfl) (fun h => absurd rfl h) fun b o hbw _ e => hk' b o hbw e)
    show IsL h' T (acc ++ []).toArray ct
    rw [List.append_nil]
    exact hk' T _ hTw hT
  | succ k ih =>
    intro i s T acc ct c hk hi hst hS hTS hTw hT hL hz hR
    have hlt : i < n := by omega
    have hz' : (acc ++ (ls i ++ restL ls (i + 1) k)).length ≤ sizeLine := hz
    have hlen : acc.length + ((ls i).length + (restL ls (i + 1) k).length) ≤ sizeLine := by simpa using hz'
    refine codeAny_builtin F.entry_sum_loop ?_
    rw [Around.under_plainId F.plain_sum_loop _]
    show wpAny _ A.in1 (seqItems? (.ref S) >>= _) _ _ s
    refine wpAny_bind (wpAny_seqItems hS rfl ?_)
    show wpAny _ A.in1 (tryCatch (pyNext (.ref I)) _ >>= _) _ _ s
    refine wpAny_bind (wpAny_tryCatch (W.item i s _ _ hlt hst fun v h' tk hP hst' hk' => ?_))
    obtain rfl := hval i v hP
    have hS' := hk' S _ hSw hS
    have hT' := hk' T _ hTw hT
    have hL' := hk' (ad i) _ (hwa i hlt) (hL i hlt)
    show wpAny _ A.in1 ((holding [Value.ref (ad i)] (binaryOp .Add (.ref T) (.ref (ad i)))).attempt >>= _) _ _ _
    refine wpAny_bind (wpAny_attempt (wpAny_holding (PySem.P.add_list hT' hL' ?_ (by rw [List.size_toArray, List.size_toArray]; omega))))
    have ea : acc.toArray ++ (ls i).toArray = (acc ++ ls i).toArray := by simp
    rw [ea]
    generalize hp : h'.objs.size = p
    have push : ∀ b o, h'.get? b = some o → (h'.push { cls := .type "list", data := .seq (acc ++ ls i).toArray }).get? b = some o := fun b o e => Heap.get?_push_of_some _ e
    have hp2 : (h'.push { cls := .type "list", data := .seq (acc ++ ls i).toArray }).get? p = some { cls := .type "list", data := .seq (acc ++ ls i).toArray } := by rw [← hp]; exact Heap.get?_push_size _ rfl
    have np : ∀ b o, h'.get? b = some o → p ≠ b := fun b o e => by rw [← hp]; exact fresh_size e
    have pS : p ≠ S := np S _ hS'
    have pf : p ∉ fp := fun hb => by
      obtain ⟨o, e⟩ := hfl _ _ hst' p hb
      exact np p o e rfl
    have pw : p ∉ wr := fun hb => pf (W.sub _ hb)
    have pn : s.heap.get? p = none := by
      cases q : s.heap.get? p with
      | none => rfl
      | some o => exact absurd rfl (np p o (hk' p o pw q))
    show wpAny _ A.in1 (updateSeq S (fun _ => #[.ref p]) >>= _) _ _ _
    refine wpAny_bind ?_
    have hS1 := push S _ hS'
    refine wpAny_updateSeq hS1 rfl ?_
    have hS2 := Heap.get?_update_self (Obj.mapSeq fun _ => #[Value.ref p]) hS1 rfl
    refine wpAny_bind (wpAny_letGo ?_)
    refine wpAny_bind ?_
    refine wpAny_updateSeq hS2 rfl ?_
    have hS3 := Heap.get?_update_self (Obj.mapSeq fun _ => #[Value.ref p]) hS2 rfl
    have up : ∀ b o, b ≠ S → h'.get? b = some o → (((h'.push { cls := .type "list", data := .seq (acc ++ ls i).toArray }).update S (Obj.mapSeq fun _ => #[Value.ref p])).update S (Obj.mapSeq fun _ => #[Value.ref p])).get? b = some o := fun b o hb e =>
      (Heap.get?_update_other _ _ (Ne.symm hb)).trans ((Heap.get?_update_other _ _ (Ne.symm hb)).trans (push b o e))
    have up2 : ∀ b o, b ≠ S → (h'.push { cls := .type "list", data := .seq (acc ++ ls i).toArray }).get? b = some o → (((h'.push { cls := .type "list", data := .seq (acc ++ ls i).toArray }).update S (Obj.mapSeq fun _ => #[Value.ref p])).update S (Obj.mapSeq fun _ => #[Value.ref p])).get? b = some o := fun b o hb e =>
      (Heap.get?_update_other _ _ (Ne.symm hb)).trans ((Heap.get?_update_other _ _ (Ne.symm hb)).trans e)
    refine wpAny_pure ⟨plainId_quiet F.plain_sum_loop _, ih (i + 1) _ p (acc ++ ls i) 0 _ (by omega) hlt (W.frame _ _ _ hst' fun b hb o e => up b o (fun q => hSf (q ▸ hb)) e) hS3 pS pw (up2 p _ pS hp2) (fun j hj => up _ _ (hSa j hj) (hk' _ _ (hwa j hj) (hL j hj))) (by rw [List.append_assoc]; exact hz') fun h'' tk'' T' ct' g1 g2 g3 g4 => ?_⟩
    refine hR h'' tk'' T' ct' (by rw [List.append_assoc] at g1; exact g1) (fun h => absurd h (Nat.succ_ne_zero k)) (fun _ => ?_) fun b o hbw hbS e => g4 b o hbw hbS (up b o hbS (hk' b o hbw e))
    by_cases h0 : k = 0
    · subst h0
      rw [g2 rfl]
      exact pn
    · have q1 := g3 h0
      cases q : s.heap.get? T' with
      | none => rfl
      | some o =>
        exfalso
        by_cases c1 : T' ∈ wr
        · obtain ⟨o2, e2⟩ := hfl _ _ hst' T' (W.sub _ c1)
          rw [up T' o2 (fun z => hSw (z ▸ c1)) e2] at q1
          cases q1
        · by_cases c2 : T' = S
          · rw [c2, hS3] at q1
            cases q1
          · rw [up T' o c2 (hk' T' o c1 q)] at q1
            cases q1
end
section
variable {prog : Program} {w : World} {A : Around} {E : Value → Shared → Prop} {s : Shared}
theorem args_sum2 (a b : Value) : argsOk "sum" ⟨[a, b], []⟩ := by unfold argsOk; kernel_rfl
theorem call_sum_lists (hh : A.handled = none) {l T : Addr} {items : Array Value} {acc : List Value} {ct : Nat} {Q : Value → Shared → Prop} (hl : s.heap.IsList l items) (ad : Nat → Addr) (ls : Nat → List Value) (cp : Nat → Nat) (hval : ∀ (i : Nat) (v : Value), items[i]? = some v → v = .ref (ad i))
    (hT : IsL s.heap T acc.toArray ct) (hL : ∀ j, j < items.size → IsL s.heap (ad j) (ls j).toArray (cp j)) (hz : (acc ++ restL ls 0 items.size).length ≤ sizeLine)
    (h : ∀ h' tk T' ct', IsL h' T' (acc ++ restL ls 0 items.size).toArray ct' → (items.size = 0 → T' = T) → (items.size ≠ 0 → s.heap.get? T' = none) → (∀ b o, s.heap.get? b = some o → h'.get? b = some o) → Q (.ref T') { s with heap := h', toks := tk }) :
    wpAny (model prog w) A (call (.builtin "sum") [.ref l, .ref T]) Q E s := by
  have hlt : ∀ {b o}, s.heap.get? b = some o → b < s.heap.objs.size := fun e => Heap.lt_size e
  obtain ⟨ol, hol, hlc, nl, hld⟩ := id hl
  refine call_function_tree F.kind_sum F.plain_sum F.entry_sum (args_sum2 _ _) ?_
  unfold Builtin.«sum»
  simp only [List.length_cons, List.length_nil]
  rw [if_neg (by decide)]
  refine wpAny_bind (wpAny_of_eq (show Builtin.Builtins.bindParams "sum" ["start"] 0 ⟨[Value.ref T], []⟩ = pure [some (Value.ref T)] from rfl) ?_)
  refine wpAny_bind (wpAny_pyIter_list hl ?_)
  refine wpAny_bind (wpAny_pure ?_)
  have k1 : ∀ b o, s.heap.get? b = some o → (s.heap.push { cls := .type "list_iterator", data := .fields #[.ref l, .int 0 0] }).get? b = some o := fun b o e => Heap.get?_push_of_some _ e
  have hTy : Shared.TypeIs { s with heap := s.heap.push { cls := .type "list_iterator", data := .fields #[.ref l, .int 0 0] } } (.ref T) "list" := ⟨_, k1 T _ hT, rfl⟩
  simp only [List.forIn_cons, List.forIn_nil]
  refine wpAny_bind (wpAny_bind (wpAny_bind (wpAny_isInstance (T := "list") (b := false) hTy F.sub_list_str ?_)))
  simp only [Bool.false_eq_true, if_false]
  refine wpAny_pure (wpAny_bind (wpAny_bind (wpAny_isInstance (T := "list") (b := false) hTy F.sub_list_bytes ?_)))
  simp only [Bool.false_eq_true, if_false]
  refine wpAny_pure (wpAny_bind (wpAny_bind (wpAny_isInstance (T := "list") (b := false) hTy F.sub_list_bytearray ?_)))
  simp only [Bool.false_eq_true, if_false]
  refine wpAny_pure (wpAny_pure ?_)
  refine wpAny_bind (wpAny_newObj_type ?_)
  generalize hI : s.heap.objs.size = I at *
  have hit : (s.heap.push { cls := .type "list_iterator", data := .fields #[.ref l, .int 0 0] }).get? I = some { cls := .type "list_iterator", data := .fields #[.ref l, .int 0 0] } := by rw [← hI]; exact Heap.get?_push_size _ rfl
  generalize s.heap.push { cls := .type "list_iterator", data := .fields #[.ref l, .int 0 0] } = h1 at *
  have hlI : l ≠ I := Nat.ne_of_lt (hlt hol)
  have hTI : T ≠ I := Nat.ne_of_lt (hlt hT)
  generalize hS : h1.objs.size = S
  have k2 : ∀ b o, h1.get? b = some o → (h1.push { cls := .type "list", data := .seq #[Value.ref T] }).get? b = some o := fun b o e => Heap.get?_push_of_some _ e
  have hS2 : (h1.push { cls := .type "list", data := .seq #[Value.ref T] }).get? S = some { cls := .type "list", data := .seq #[Value.ref T] } := by rw [← hS]; exact Heap.get?_push_size _ rfl
  have ne : ∀ b o, h1.get? b = some o → b ≠ S := fun b o e => by rw [← hS]; exact Nat.ne_of_lt (Heap.lt_size e)
  have W := Walks.list (prog := prog) (w := w) (A := A.in1) hh I l hlI items
  refine wpAny_pure ⟨plainId_quiet F.plain_sum_loop _, sum_lists_loop W (fun i h st b hb => ?_) ad ls cp hval S ?_ (fun i hi => ne _ _ (k1 _ _ (hL i hi))) (fun i hi hm => ?_) items.size 0 _ T acc ct _ (Nat.sub_zero _) (Nat.zero_le _) ⟨⟨_, k2 _ _ hit, rfl, rfl⟩, ⟨ol, k2 _ _ (k1 _ _ hol), hlc, nl, hld⟩⟩ hS2 (ne _ _ (k1 _ _ hT)) ?_ (k2 _ _ (k1 _ _ hT)) (fun j hj => k2 _ _ (k1 _ _ (hL j hj))) hz fun h' tk T' ct' g1 g2 g3 g4 => ?_⟩
  · obtain ⟨⟨o1, e1, _⟩, ⟨o2, e2, _⟩⟩ := st
    have hb' : b = I ∨ b = l := by simpa using hb
    rcases hb' with rfl | rfl
    · exact ⟨o1, e1⟩
    · exact ⟨o2, e2⟩
  · intro hm
    have hm' : S = I ∨ S = l := by simpa using hm
    rcases hm' with q | q
    · exact ne I _ hit q.symm
    · exact ne l _ (k1 _ _ hol) q.symm
  · have q : ad i = I := by simpa using hm
    exact Nat.ne_of_lt (hlt (hL i hi)) q
  · intro hm
    exact hTI (by simpa using hm)
  · refine h h' tk T' ct' g1 g2 (fun h0 => ?_) fun b o e => g4 b o (fun hm => ?_) (ne _ _ (k1 _ _ e)) (k2 _ _ (k1 _ _ e))
    · have q := g3 h0
      cases q2 : s.heap.get? T' with
      | none => rfl
      | some o => rw [k2 _ _ (k1 _ _ q2)] at q; cases q
    · have q : b = I := by simpa using hm
      exact Nat.ne_of_lt (hlt e) q
end
/-! ### the reading -/
def flatD : List D → Option (List D)
  | [] => some []
  | .list ds :: r => (flatD r).map (ds ++ ·)
  | _ => none
def sum2F (w1 w2 : W) : M W := match w1, w2 with
  | .own (x :: xs), .own zs => ofO ((flatD (x :: xs)).bind fun ys => if zs.length + ys.length ≤ sizeLine then some (.own (zs ++ ys)) else none)
  | _, _ => M.fail
def eSum2 (m1 m2 : M W) : M W := m1 >>= fun a => m2 >>= fun b => sum2F a b
inductive FlatV (H : Hp) : List V → List V → Prop
  | nil : FlatV H [] []
  | cons {a : Addr} {xs vs ys : List V} : H a = some (.lst xs) → FlatV H vs ys → FlatV H (.ref a :: vs) (xs ++ ys)
theorem rest_flat (us : List (Addr × List Value × Nat)) : ∀ (i : Nat) (ls : Nat → List Value), (∀ j u, us[j]? = some u → ls (i + j) = u.2.1) → restL ls i us.length = us.flatMap (·.2.1) := by
  induction us with
  | nil => exact fun _ _ _ => rfl
  | cons u us ih =>
    intro i ls h
    have h0 : ls i = u.2.1 := h 0 u rfl
    rw [List.flatMap_cons, ← ih (i + 1) ls fun j v e => by
      have := h (j + 1) v (by simpa using e)
      rw [← this]
      congr 1
      omega]
    show ls i ++ restL ls (i + 1) us.length = _
    rw [h0]
section
variable {X : Cx}
theorem flat_heap {pins : List (Addr × Obj)} {σ : Sg} {H : Hp} {s : Shared} (I : Inv X pins σ H s) {vs ys : List V} (f : FlatV H vs ys) : ∀ {its : List Value}, Vals vs its → ∃ us : List (Addr × List Value × Nat), its = us.map (fun u => Value.ref u.1) ∧ (∀ u ∈ us, IsL s.heap u.1 u.2.1.toArray u.2.2) ∧ Vals ys (us.flatMap (·.2.1)) := by
  induction f with
  | nil =>
    intro its r
    cases r
    exact ⟨[], rfl, (fun _ h => by cases h), Paired.nil⟩
  | @cons a xs vs ys hH _ ih =>
    intro its r
    cases r with
    | cons r rr =>
      cases r
      obtain ⟨us, e1, e2, e3⟩ := ih rr
      obtain ⟨z, it2, n, rv, hl, e⟩ := I.lstM hH
      refine ⟨(a, it2, n) :: us, by rw [e1]; rfl, fun u hu => ?_, ?_⟩
      · rcases List.mem_cons.mp hu with rfl | hu
        · exact e
        · exact e2 u hu
      · rw [List.flatMap_cons]
        exact rv.append e3
def rSum2 (K : PySem.W.Frag) : List V → Hp → VK → Prop := fun vs H Q => ∃ l b xs zs ys, vs = [.ref l, .ref b] ∧ SqL K H l xs ∧ H b = some (.lst zs) ∧ FlatV H xs ys ∧ zs.length + ys.length ≤ sizeLine ∧ (xs = [] → Q (.ref b) H) ∧ (xs ≠ [] → ∀ p, H p = none → Q (.ref p) (upd H p (.lst (zs ++ ys))))
theorem cr_sum2 (hc : X.calm = true) : CallR X (.builtin "sum") (rSum2 X.K) := by
  intro pins s σ H vs us Q I r h
  obtain ⟨l, b, xs, zs, ys, rfl, hl, hb, hf, hz, q0, q1⟩ := h
  cases r with
  | cons r rr =>
    cases rr with
    | cons r' rr =>
      cases rr
      cases r
      cases r'
      obtain ⟨its, rv, pl, _⟩ := I.list hl
      obtain ⟨us, rfl, e2, e3⟩ := flat_heap I hf rv
      obtain ⟨z, itz, nz, rz, hlz, ez⟩ := I.lstM hb
      have hsz : (us.map (fun u => Value.ref u.1)).toArray.size = us.length := by simp
      have hlen := rv.length
      have hy := e3.length
      have hfl : ∀ g, restL (fun i => ((us[i]?).getD (0, [], 0)).2.1) 0 (us.map (fun u => Value.ref u.1)).toArray.size = g ↔ us.flatMap (·.2.1) = g := fun g => by
        rw [hsz, rest_flat us 0 _ fun j u e => by rw [Nat.zero_add, e]; rfl]
      have hfe : restL (fun i => ((us[i]?).getD (0, [], 0)).2.1) 0 (us.map (fun u => Value.ref u.1)).toArray.size = us.flatMap (·.2.1) := (hfl _).mpr rfl
      refine call_sum_lists (I.ok.hd hc) pl.isList (fun i => ((us[i]?).getD (0, [], 0)).1) (fun i => ((us[i]?).getD (0, [], 0)).2.1) (fun i => ((us[i]?).getD (0, [], 0)).2.2) (fun i v e => ?_) ez (fun j hj => ?_) (by rw [hfe, List.length_append]; omega) fun h' tk T' ct' g1 g2 g3 g4 => ?_
      · rw [List.getElem?_toArray, List.getElem?_map] at e
        cases q : us[i]? with
        | none => rw [q] at e; cases e
        | some u => rw [q] at e; exact (Option.some.inj e).symm
      · rw [hsz] at hj
        have := e2 us[j] (List.getElem_mem hj)
        simpa [List.getElem?_eq_getElem hj] using this
      · rw [hfe] at g1
        rw [hsz] at g2 g3
        by_cases h0 : us = []
        · subst h0
          have hx : xs = [] := List.length_eq_zero_iff.mp (by rw [hlen]; rfl)
          rw [g2 rfl]
          exact ⟨.ref b, H, I.kept (t' := tk) g4, rfl, q0 hx⟩
        · have hx : xs ≠ [] := fun z => by
            subst z
            exact h0 (List.length_eq_zero_iff.mp (by simpa using hlen.symm))
          have gn := g3 (fun z => h0 (List.length_eq_zero_iff.mp z))
          have hn : H T' = none := I.hok.gone gn
          exact ⟨.ref T', _, I.laidN (o := .lst (zs ++ ys)) (t' := tk) g4 gn hn ⟨by rw [List.length_append]; exact hz, _, ct', rz.append e3, g1⟩, rfl, q1 hx T' hn⟩
end
theorem flat_rp {K : PySem.W.Frag} {F : Fz} {H : Hp} : ∀ {xs ys : List D} {vs : List V}, flatD xs = some ys → RpAll K F H vs xs → ∃ us, FlatV H vs us ∧ RpAll K F H us ys
  | [], _, _, e, .nil => by cases e; exact ⟨[], .nil, .nil⟩
  | x :: xs, ys, _, e, .cons a b => by
    cases x with
    | list ds =>
      have e' : (flatD xs).map (ds ++ ·) = some ys := e
      cases q : flatD xs with
      | none => rw [q] at e'; cases e'
      | some zs =>
        rw [q] at e'
        cases e'
        obtain ⟨us, f, r⟩ := flat_rp q b
        cases a with
        | lst h1 h2 h3 => exact ⟨_, .cons h2 f, h3.append r⟩
    | _ => cases e
theorem i_sum2 {X : Cx} {Wx : WX} {p pos : Pos} {a b : Expr} {m1 m2 : M W} (hm : X.mg "sum" = none) (ha : DE X Wx a m1) (hb : DE X Wx b m2) (hc : X.calm = true := by rfl) (hg : Gl X "sum" := by rfl)
    (hs : starEach [a, b] X.env = (false, eval a X.env) :: starEach [b] X.env := by rfl) (hs2 : starEach [b] X.env = (false, eval b X.env) :: starEach [] X.env := by rfl) (hpl : (backTo pos (starEach [b] X.env)).any (·.1) = false := by rfl) :
    DE X Wx (.Call (.Name "sum" p) [a, b] [] pos) (eSum2 m1 m2) :=
  pe_mono (pe_callB (cr_sum2 hc) hg hm (by decide +kernel) (pa_cons ha (pa_cons hb pa_nil hs2) hs) (by decide) (by decide) hs hpl) fun σ H Q h =>
    em_bin (P := fun x y H1 => rSum2 X.K [x, y] H1 Q) (fun {B F ρ s H x y w1 w2} k o1 o2 h => by
      cases w1 with
      | own xs =>
        cases w2 with
        | own zs =>
          cases xs with
          | nil => exact h.elim
          | cons d xs =>
            obtain ⟨w, e, h⟩ := Run.ofO h
            cases q : flatD (d :: xs) with
            | none => rw [q] at e; cases e
            | some ys =>
              rw [q] at e
              have e' : (if zs.length + ys.length ≤ sizeLine then some (W.own (zs ++ ys)) else none) = some w := e
              split at e'
              · rename_i hz
                cases e'
                obtain ⟨a1, vs, rfl, h1, r1, _⟩ := o1
                obtain ⟨a2, us, rfl, h2, r2, _⟩ := o2
                obtain ⟨ts, f, rt⟩ := flat_rp q r1
                refine ⟨a1, a2, vs, us, ts, rfl, SqL.of h1, h2, f, by rw [r2.length, rt.length]; exact hz, fun z => ?_, fun _ p hp => ?_⟩
                · subst z; cases r1
                · exact h F ρ _ _ (Ext.new_ hp) (k.new hp) (wok_new k (r2.append rt) hp) fun a e => by cases e; exact hp
              · cases e'
        | _ => cases xs <;> exact h.elim
      | _ => exact h.elim) h
end Z
/-! Z, part 16: promises where nothing is being shown (guards: none at work); functions as values; repr of data. -/
namespace Z
open PySem PySem.Spec PyProof.Rows L2

/-- a def's promise, asked only where no repr is under way -/
structure FnG (P : Program) (w : World) (K : PySem.W.Frag) (mg : Str → Option Value) (base : Heap) (W : CXT) (k : Nat) (f : Addr) (fd : FuncData) (ps : List Str) (sp : Sp) : Prop where
  size : ∀ vs H Q E, sp vs H Q E → vs.length = ps.length
  go : ∀ (A : Around) (ov : List Env) (s : Shared) (H : Hp) (args : Args) (us : List Value) (vs : List V) (Q : VK) (E : XK), A.guards = some [] → Room k A → Env0 P w K mg base A ov s H →
    BindsTo s fd args (ps.zip us) → Vals vs us → sp vs H Q E → codeAny (model P w) A (.call (.ref f) args) (CR W ov P w H s Q E) s
theorem fnG_of {W : CXT} {P : Program} {w : World} {K : PySem.W.Frag} {mg : Str → Option Value} {base : Heap} {k : Nat} {f : Addr} {x qual : Str} {pr : Arguments} {bd : List Stmt} {sc : Scope} {dV kV dc pm cv ct oc : Value} {an od : Option Addr}
    {ol : Array (Option Value)} {N ps : List Str} {sp : Sp} (lk : K.lookup f = some ⟨oc, od, .func (PySem.W.fnOf x qual pr bd sc dV kV dc pm an cv ct), ol⟩) (hq : PySem.W.codeIn K cv qual = true) (T : FnScope N ps sc)
    (sz : ∀ vs H Q E, sp vs H Q E → vs.length = ps.length)
    (hb : ∀ (A : Around) (ov : List Env) (s : Shared) (H : Hp) (vs : List V) (Q : VK) (E : XK), A.guards = some [] → Room k (A.deeper (envOfC qual sc s.heap.objs.size f cv)) → sp vs H Q E →
      ∃ t, PSs (cxOf W P w K mg base N qual sc f cv A ov s H E) bd t ∧ t { nx := fun _ H' => Q .non H', rt := Q } (start N vs) H) :
    FnG P w K mg base W (k + 1) f (PySem.W.fnOf x qual pr bd sc dV kV dc pm an cv ct) ps sp := by
  refine ⟨sz, fun A ov s H as us vs Q E gd rm ev bt rv hs => ?_⟩
  have ez := sz _ _ _ _ hs
  have KX : K.In s.heap := ev.mod.kin.keeps fun a o z => (ev.bs a o z).1
  have nl : s.heap.NoLimit := ev.mod.nolimit.keeps fun a o z => (ev.bs a o z).1
  have kinds : ∀ y ∈ ps.zip us, sc.names.lookup y.1 = some .local ∨ (sc.names.lookup y.1 = some .cell ∧ ((cellsFrom (s.heap.objs.size + 1) sc.names []).lookup y.1).isSome = true) := fun ⟨m, v⟩ hy =>
    (T.par m (List.of_mem_zip hy).1).elim .inl fun z => .inr ⟨z, PySem.W.cellsFrom_some _ _ _ (.inl z)⟩
  refine codeAny_call_function rm.depth (KX _ _ lk) rfl T.co T.gen rfl (PySem.W.codeRec_of KX hq) (bt _ _ _ _ (wpAny_newFunctionEnv_cells T.kind kinds fun env he s1 y => ?_))
  subst he
  refine ⟨nl.keeps y.toInCall.keep, codeAny_func ?_⟩
  obtain ⟨t, ht, hz⟩ := hb A ov s H vs Q E gd (rm.deeper _) hs
  have J : Inv (cxOf W P w K mg base N qual sc f cv A ov s H E) [] (start N vs) H s1 := inv_start T rm.hd ev ez rv y
  have ends : ∀ {σ' : Sg} {H' : Hp} {v : V} {u : Value} {s' : Shared}, Inv (cxOf W P w K mg base N qual sc f cv A ov s H E) [] σ' H' s' → RelV v u → Q v H' → CE ov P w H s Q u s' :=
    fun {_ H' v _ _} I r z => ⟨v, H', I.os, I.bare, I.base, I.hok, r, z⟩
  refine wpAny_mono (ht.run [] s1 (start N vs) H _ J hz) (fun fl s' h => ?_) fun _ _ h => h
  match fl, h with
  | .ret u, ⟨v, σ', H', I, r, z⟩ => exact ends I r z
  | .next, ⟨σ', H', I, z⟩ => exact ends (v := V.non) (u := Value.none) I rfl z
  | .brk, ⟨_, _, _, z⟩ => exact z.elim
  | .cont, ⟨_, _, _, z⟩ => exact z.elim
theorem fn_okG {P : Program} {w : World} {K : PySem.W.Frag} {mg : Str → Option Value} {base : Heap} {x qual : Str} {params : Arguments} {body : List Stmt} {scope : Scope} {dvs : List V} {kws : List (Str × V)} {f : Addr} {fd : FuncData} {N ps : List Str} {k n : Nat} {mb : M SR}
    (G : FunD K x qual params body scope dvs kws f fd) (Sc : FnScope N ps scope) (hps : n = ps.length) (hn : n ≤ N.length)
    (hbody : ∀ (cdv : Value) (A : Around) (outer : List Env) (s : Shared) (H : Hp) (E : XK), Room k (A.deeper (envOfC qual scope s.heap.objs.size f cdv)) → (A.deeper (envOfC qual scope s.heap.objs.size f cdv)).guards = some [] →
      PassesOwn (model P w) (A.deeper (envOfC qual scope s.heap.objs.size f cdv)) (envOfC qual scope s.heap.objs.size f cdv) (cxOf (L2.CX P w) P w K mg base N qual scope f cdv A outer s H E).xe →
      Takes (cxOf (L2.CX P w) P w K mg base N qual scope f cdv A outer s H E) (fun cls d _ H => E cls d H) →
      DB (cxOf (L2.CX P w) P w K mg base N qual scope f cdv A outer s H E) (fun cls d _ H => E cls d H) body mb) :
    FnG P w K mg base (L2.CX P w) (k + 1) f fd ps (spZ K mg n (fnOf N.length mb)) := by
  obtain ⟨oc, od, dV, kV, doc, pm, an, cdv, ct, osl, rfl, lk, hcd, _, _⟩ := G.ex
  exact fnG_of lk hcd Sc (fun vs H Q E h => by obtain ⟨_, _, _, _, e, _⟩ := h; rw [e, hps]) fun A outer s H vs Q E gd hr h =>
    ⟨_, ⟨(hbody cdv A outer s H E hr gd (passes_of (X := cxOf (L2.CX P w) P w K mg base N qual scope f cdv A outer s H E) rfl) (takes_of rfl rfl rfl rfl)).run⟩, body_ok hn h⟩

/-! ### calls -/
structure TakesG (P : Program) (w : World) (K : PySem.W.Frag) (mg : Str → Option Value) (base : Heap) (x : Str) (k n : Nat) (ps : List Str) (fs : Fn) : Prop where
  ex : ∃ f fd, FnG P w K mg base (L2.CX P w) k f fd ps (spZ K mg n fs) ∧ mg x = some (.ref f) ∧ PySem.W.keepIn K (.ref f) = true ∧ Binds K fd ps []
structure TakesGK (P : Program) (w : World) (K : PySem.W.Frag) (mg : Str → Option Value) (base : Heap) (x : Str) (k n : Nat) (ps : List Str) (fs : Fn) (np : Nat) (ks : List Str) (is : List Nat) : Prop where
  ex : ∃ f fd, FnG P w K mg base (L2.CX P w) k f fd ps (spZ K mg n fs) ∧ mg x = some (.ref f) ∧ PySem.W.keepIn K (.ref f) = true ∧ ∃ g gV, KBn K fd ps np ks g gV ∧ ∀ vs zs, gV vs zs = is.filterMap fun i => (vs ++ zs)[i]?
section
variable {X : Cx} {Wx : WX} {k n np i : Nat} {ps ks : List Str} {is : List Nat} {fs : Fn} {f : Addr} {fd : FuncData} {sp : Sp} {x : Str} {p pos : Pos} {e : Expr} {es : List Expr} {kws : List Keyword} {ma mk : M (List W)}
theorem after_run {W : CXT} {E : Sg → XK} {pins : List (Addr × Obj)} {σ : Sg} {H : Hp} {s : Shared} {Q : VK} {args : Args} {us : List Value} {vs : List V} (F : FnG X.prog X.w X.K X.mg X.base W k f fd ps sp) (hr : Room k X.A) (gd : X.A.guards = some []) (hx : PassesAt W X σ (E σ))
    (I : Inv X pins σ H s) (b : BindsTo s fd args (ps.zip us)) (r : Vals vs us) (h : sp vs H Q (E σ)) : wpAny (model X.prog X.w) X.A (call (.ref f) args.pos args.kw) (EP X pins σ Q) X.xe s := by
  refine wpAny_call (codeAny_mono (F.go X.A X.stack s H args us vs Q (E σ) gd hr I.env0 b r h) fun r s' z => ?_)
  match r, z with
  | .error e, z => exact hx pins H s e s' I z
  | .ok (.ret u), z => exact I.after z
  | .ok .next, z => exact z.elim
  | .ok .brk, z => exact z.elim
  | .ok .cont, z => exact z.elim
theorem run_fnG {W : CXT} {E : Sg → XK} {pins : List (Addr × Obj)} {σ : Sg} {H : Hp} {s : Shared} {Q : VK} {us : List Value} {vs : List V} (F : FnG X.prog X.w X.K X.mg X.base W k f fd ps sp) (hr : Room k X.A) (gd : X.A.guards = some []) (hb : Binds X.K fd ps []) (hx : PassesAt W X σ (E σ))
    (I : Inv X pins σ H s) (r : Vals vs us) (h : sp vs H Q (E σ)) : wpAny (model X.prog X.w) X.A (call (.ref f) us) (EP X pins σ Q) X.xe s := by
  have b := hb s us I.kIn (by rw [List.append_nil, ← r.length]; exact F.size _ _ _ _ h)
  rw [List.append_nil] at b
  exact after_run (args := ⟨us, []⟩) F hr gd hx I b r h
theorem run_fnGN {W : CXT} {E : Sg → XK} {g : List Value → List Value → List Value} {gV : List V → List V → List V} {pins : List (Addr × Obj)} {σ : Sg} {H : Hp} {s : Shared} {Q : VK} {us ws : List Value} {vs zs : List V}
    (F : FnG X.prog X.w X.K X.mg X.base W k f fd ps sp) (hr : Room k X.A) (gd : X.A.guards = some []) (hb : KBn X.K fd ps n ks g gV) (hx : PassesAt W X σ (E σ))
    (I : Inv X pins σ H s) (r : Vals vs us) (rz : Vals zs ws) (l1 : vs.length = n) (l2 : zs.length = ks.length) (h : sp (gV vs zs) H Q (E σ)) : wpAny (model X.prog X.w) X.A (call (.ref f) us (ks.zip ws)) (EP X pins σ Q) X.xe s :=
  after_run (args := ⟨us, ks.zip ws⟩) F hr gd hx I (hb.to s us ws I.kIn (r.length.symm.trans l1) (rz.length.symm.trans l2)) (hb.rel r rz) h
theorem i_callG (C : TakesG X.prog X.w X.K X.mg X.base x k n ps fs) (hr : Room k X.A) (gd : X.A.guards = some []) (tk : Takes X Wx)
    (ha : DA X Wx (e :: es) ma) (hg : Gl X x := by rfl) (hdb : (x == ("__debug__" : Str)) = false := by decide) (he : starEach (e :: es) X.env = (false, eval e X.env) :: starEach es X.env := by rfl) (hpl : (backTo pos (starEach es X.env)).any (·.1) = false := by rfl) :
    DE X Wx (.Call (.Name x p) (e :: es) [] pos) (eCallS n fs ma) := by
  obtain ⟨f, fd, G, hm, hk, hb⟩ := C.ex
  have base : PE X (.Call (.Name x p) (e :: es) [] pos) (tCallS (spZ X.K X.mg n fs) (WE Wx) fun σ H Q => AM X.K X.mg Wx ma σ H Q) := by
    refine ⟨fun pins s σ H Q I h => wpAny_Call_Name_kw (ld_glob I hg hm ?_ hdb)⟩
    exact PySem.W.callWith_K (h₀ := X.base) I.ok.mod.kin hk (thn (ha.run pos pins s σ H _ I h) fun us s1 ⟨vs, H1, J, r, q⟩ => ⟨J.kIn, run_fnG G hr gd hb (passAt tk σ) J r q⟩) he hpl
  exact pe_mono base fun σ H Q h => am_step (P := fun vs H1 => spZ X.K X.mg n fs vs H1 Q (WE Wx σ)) (fun kk o h => call_step kk o h) h
theorem i_callG0 (C : TakesG X.prog X.w X.K X.mg X.base x k 0 ps fs) (hr : Room k X.A) (gd : X.A.guards = some []) (tk : Takes X Wx)
    (hg : Gl X x := by rfl) (hdb : (x == ("__debug__" : Str)) = false := by decide) : DE X Wx (.Call (.Name x p) [] [] pos) (eCallS 0 fs aNil) := by
  obtain ⟨f, fd, G, hm, hk, hb⟩ := C.ex
  have base : PE X (.Call (.Name x p) [] [] pos) fun σ H Q => spZ X.K X.mg 0 fs [] H Q (WE Wx σ) := by
    refine ⟨fun pins s σ H Q I h => wpAny_Call_Name_kw (ld_glob I hg hm ?_ hdb)⟩
    exact PySem.W.callWith_K0 I.kIn hk (run_fnG (us := []) G hr gd hb (passAt tk σ) I .nil h)
  refine pe_mono base fun σ H Q h => ?_
  obtain ⟨B, F, ρ, s, kk, h⟩ := h
  have h2 : Run (callS 0 fs []) s (Post X.K B σ s F ρ H Q) (Er X.K X.mg Wx B σ) := Run.bind (m := aNil) (k := fun ws => callS 0 fs ws) h
  exact call_step kk .nil h2
theorem i_callGK0 (C : TakesGK X.prog X.w X.K X.mg X.base x k n ps fs 0 ks is) (hr : Room k X.A) (gd : X.A.guards = some []) (tk : Takes X Wx) (hkw : DK X Wx kws mk) (hks : (backToKw pos (keywordEach kws X.env)).filterMap (·.1) = ks := by rfl) (hg : Gl X x := by rfl)
    (hall : (backToKw pos (keywordEach kws X.env)).all (·.1.isSome) = true := by rfl) (hdb : (x == ("__debug__" : Str)) = false := by decide) (hpl : ((backTo pos (starEach [] X.env)).any (·.1) || (backToKw pos (keywordEach kws X.env)).any (·.1.isNone)) = false := by rfl) :
    DE X Wx (.Call (.Name x p) [] kws pos) (eCallK n fs 0 ks.length is aNil mk) := by
  obtain ⟨f, fd, G, hm, hk, g, gV, hb, hgv⟩ := C.ex
  have base : PE X (.Call (.Name x p) [] kws pos) (fun σ H Q => AM X.K X.mg Wx mk σ H fun zs H2 => zs.length = ks.length ∧ spZ X.K X.mg n fs (gV [] zs) H2 Q (WE Wx σ)) := by
    refine ⟨fun pins s σ H Q I h => wpAny_Call_Name_kw (ld_glob I hg hm ?_ hdb)⟩
    refine PySem.W.callWith_KW0 (h₀ := X.base) I.ok.mod.kin hk hall (thn (hkw.run pos pins s σ H _ I h) fun ws s2 ⟨zs, H2, J, rz, l2, q2⟩ => ⟨J.kIn, ?_⟩) hpl
    rw [hks]
    exact run_fnGN (us := []) (vs := []) G hr gd hb (passAt tk σ) J .nil rz rfl l2 q2
  refine pe_mono base fun σ H Q h => ?_
  refine am_step (ma := mk) (f := fun zs => if ([] : List W).length = 0 ∧ zs.length = ks.length then callS n fs (permW is ([] ++ zs)) else M.fail) (P := fun zs H2 => zs.length = ks.length ∧ spZ X.K X.mg n fs (gV [] zs) H2 Q (WE Wx σ)) (fun {B F ρ s H vs ws} kk o h => ?_) h
  by_cases hl : ([] : List W).length = 0 ∧ ws.length = ks.length
  · rw [if_pos hl] at h
    refine ⟨o.length.trans hl.2, ?_⟩
    rw [hgv]
    exact call_step kk (o.perm is) h
  · rw [if_neg hl] at h; exact h.elim
theorem i_callGK (C : TakesGK X.prog X.w X.K X.mg X.base x k n ps fs np ks is) (hr : Room k X.A) (gd : X.A.guards = some []) (tk : Takes X Wx) (ha : DA X Wx (e :: es) ma) (hkw : DK X Wx kws mk) (hks : (backToKw pos (keywordEach kws X.env)).filterMap (·.1) = ks := by rfl) (hg : Gl X x := by rfl)
    (hall : (backToKw pos (keywordEach kws X.env)).all (·.1.isSome) = true := by rfl) (hdb : (x == ("__debug__" : Str)) = false := by decide) (he : starEach (e :: es) X.env = (false, eval e X.env) :: starEach es X.env := by rfl)
    (hpl : ((backTo pos (starEach (e :: es) X.env)).any (·.1) || (backToKw pos (keywordEach kws X.env)).any (·.1.isNone)) = false := by rfl) :
    DE X Wx (.Call (.Name x p) (e :: es) kws pos) (eCallK n fs np ks.length is ma mk) := by
  obtain ⟨f, fd, G, hm, hk, g, gV, hb, hgv⟩ := C.ex
  have base : PE X (.Call (.Name x p) (e :: es) kws pos) (fun σ H Q => AM X.K X.mg Wx ma σ H fun vs H1 => AM X.K X.mg Wx mk σ H1 fun zs H2 => vs.length = np ∧ zs.length = ks.length ∧ spZ X.K X.mg n fs (gV vs zs) H2 Q (WE Wx σ)) := by
    refine ⟨fun pins s σ H Q I h => wpAny_Call_Name_kw (ld_glob I hg hm ?_ hdb)⟩
    refine PySem.W.callWith_KW (h₀ := X.base) I.ok.mod.kin hk hall (thn (ha.run pos pins s σ H _ I h) fun us s1 ⟨vs, H1, J, r, q⟩ => ?_) hpl he
    refine thn (hkw.run pos pins s1 σ H1 _ J q) fun ws s2 ⟨zs, H2, J2, rz, l1, l2, q2⟩ => ⟨J2.kIn, ?_⟩
    rw [hks]
    exact run_fnGN G hr gd hb (passAt tk σ) J2 r rz l1 l2 q2
  refine pe_mono base fun σ H Q h => ?_
  obtain ⟨B, F, ρ, s, kk, h⟩ := h
  refine ⟨B, F, ρ, s, kk, (Run.bind h).mono (fun ws s1 _ h1 F1 ρ1 H1 vs e1 k1 o1 => ?_) fun _ _ _ e => e⟩
  refine ⟨B, F1, ρ1, s1, k1, (Run.bind h1).mono (fun zs s2 _ h2 F2 ρ2 H2 us e2 k2 o2 => ?_) fun _ _ _ e => e⟩
  by_cases hl : ws.length = np ∧ zs.length = ks.length
  · rw [if_pos hl] at h2
    have o := (o1.mono k1 e2).app o2
    refine ⟨o1.length.trans hl.1, o2.length.trans hl.2, ?_⟩
    rw [hgv]
    exact call_step k2 (o.perm is) (h2.mono (fun w s' _ p => p.step (e1.trans e2 k1.sto) k2.sto) fun _ _ _ e => e)
  · rw [if_neg hl] at h2; exact h2.elim
end
end Z
/-! Z, part 17: the law's own call where nothing is shown; functions as values; repr of data. -/
namespace Z
open PySem PySem.Spec PyProof.Rows L2

abbrev LawEnd (s₁ : Shared) (r : Result) (t : Shared) : Prop := r = .ok (.ret (.bool true)) ∧ OldK s₁.heap t.heap ∧ t.os = s₁.os ∧ AllBare t.gens
section
variable {P : Program} {w : World} {K : PySem.W.Frag} {mg mb : Str → Option Value} {W : CXT} {k : Nat} {fa a : Addr} {fd : FuncData} {x : Str} {sp : Sp} {s₁ : Shared} {vs : List Value} {ns : List Int}
abbrev scrO (vs : List Value) : Obj := { cls := .type "list", data := .seq vs.toArray }
theorem law_from (KX : K.In s₁.heap) (g1 : s₁.heap.Ns mainGlobals mg) (g2 : s₁.heap.Ns builtinsNs mb) (g3 : ∀ y : Str, y ≠ "__name__" → mb y = bootBuiltins y) (g4 : s₁.heap.NoLimit) (g5 : s₁.gens = #[])
    (oa : s₁.heap.get? a = some (scrO vs)) (hr : Room k callerA) (F : ∀ b : Heap, K.In b → b.Ns mainGlobals mg → FnG P w K mg b W k fa fd [x] sp) (bnd : ∀ (s : Shared) (u : Value), BindsTo s fd ⟨[u], []⟩ [(x, u)])
    (out : ∀ H e t, W [] H s₁ (fun _ _ _ => False) e t → False) {H : Hp} (oh : Only H) (prom : sp [.ref a] H (fun v _ => v = .bl true) fun _ _ _ => False) (ok : HOk P w H s₁.heap) (hA : ∀ b, H b ≠ none → b = a) (hK : H a ≠ none → K.lookup a = none) :
    codeAny (model P w) callerA (.call (.ref fa) ⟨[.ref a], []⟩) (LawEnd s₁) s₁ := by
  have there : ∀ {b : Addr} {o : Obj}, s₁.heap.get? b = some o → H b = none → (hidT s₁.heap H).get? b = some o := fun z n => hidT_get z n
  have self : ∀ {b : Addr}, ¬ H b = none → b = a := fun {b} z => hA b z
  have dicts : ∀ {b : Addr} {o : Obj} {es : Array DictEntry} {ep : Nat}, s₁.heap.get? b = some o → o.data = .dict es ep → H b = none := fun {b o es ep} z d =>
    Decidable.byContradiction fun n => by
      obtain rfl := self n
      rw [oa] at z
      obtain rfl := Option.some.inj z
      have d' : Data.seq vs.toArray _ = Data.dict es ep := d
      exact Data.noConfusion d'
  have names : ∀ {b : Addr} {m : Str → Option Value}, s₁.heap.Ns b m → (hidT s₁.heap H).Ns b m := fun ⟨o, es, ep, z, d, r⟩ => ⟨o, es, ep, there z (dicts z d), d, r⟩
  have KB : K.In (hidT s₁.heap H) := fun b o z => there (KX b o z) (Decidable.byContradiction fun n => by
    obtain rfl := self n
    rw [hK n] at z
    cases z)
  obtain ⟨mc, l1, l2⟩ := g4
  have ev : Env0 P w K mg (hidT s₁.heap H) callerA [] s₁ H := ⟨rfl, ⟨KB, names g1, ⟨mb, names g2, g3⟩, ⟨mc, names l1, l2⟩⟩, fun b o z => of_hidT z, Nat.le_of_eq (hidT_size _ _), trivial, (fun b z => nomatch (show b ∈ ([] : List Addr) from z)), ok, .of_eq g5⟩
  have run := (F _ KB (names g1)).go callerA [] s₁ H ⟨[.ref a], []⟩ [.ref a] [.ref a] _ _ rfl hr ev (bnd s₁ (.ref a)) (.cons rfl .nil) prom
  refine codeAny_mono run fun r t z => ?_
  match r, z with
  | .error e, z => exact (out H e t z).elim
  | .ok .next, z => exact z.elim
  | .ok .brk, z => exact z.elim
  | .ok .cont, z => exact z.elim
  | .ok (.ret u), ⟨v, H', o1, o2, un, ok', rel, q⟩ =>
    have q' : v = .bl true := q
    subst q'
    have rel' : u = Value.bool true := rel
    subst rel'
    refine ⟨rfl, OldK.of_keep fun b o z => ?_, o1, o2⟩
    rcases oh b with n | ⟨ob, xs, n⟩
    · exact un.keep b o z n (fun y => by cases y) (by simp)
    · obtain ⟨p1, _⟩ := ok b _ n
      obtain ⟨p2, _⟩ := ok' b _ (un.frzs b ob _ n)
      rw [z] at p1
      obtain rfl := Option.some.inj p1
      exact p2
theorem law_callG (KX : K.In s₁.heap) (g1 : s₁.heap.Ns mainGlobals mg) (g2 : s₁.heap.Ns builtinsNs mb) (g3 : ∀ y : Str, y ≠ "__name__" → mb y = bootBuiltins y) (g4 : s₁.heap.NoLimit) (g5 : s₁.gens = #[])
    (oa : s₁.heap.get? a = some (scrO vs)) (iv : IntsAre vs ns) (hl : ns.length ≤ sizeLine) (hr : Room k callerA) (F : ∀ b : Heap, K.In b → b.Ns mainGlobals mg → FnG P w K mg b W k fa fd [x] sp) (bnd : ∀ (s : Shared) (u : Value), BindsTo s fd ⟨[u], []⟩ [(x, u)])
    (prom : ∀ H : Hp, Only H → SqL K H a (ns.map V.int) → sp [.ref a] H (fun v _ => v = .bl true) fun _ _ _ => False) (out : ∀ H e t, W [] H s₁ (fun _ _ _ => False) e t → False) :
    codeAny (model P w) callerA (.call (.ref fa) ⟨[.ref a], []⟩) (LawEnd s₁) s₁ := by
  have rel := vals_ints iv
  have len := iv.length
  cases own : K.lookup a with
  | some o =>
    have z := KX a o own
    rw [oa] at z
    obtain rfl := Option.some.inj z
    have none_ : Only fun _ => none := fun _ => .inl rfl
    refine law_from KX g1 g2 g3 g4 g5 oa hr F bnd out none_ (prom _ none_ (.inr ⟨_, vs.toArray, _, own, rfl, rfl, rfl, ?_, ?_⟩)) (fun b u y => ?_) (fun b y => absurd rfl y) fun y => absurd rfl y
    · rw [List.size_toArray, len]; exact hl
    · simpa using rel
    · have y' : (none : Option HO) = some u := y
      cases y'
  | none =>
    let h0 : Hp := fun b => if b = a then some (.frz (scrO vs) (.lst (ns.map V.int))) else none
    have at_ : h0 a = some (.frz (scrO vs) (.lst (ns.map V.int))) := if_pos rfl
    have off : ∀ {b : Addr}, b ≠ a → h0 b = none := fun n => if_neg n
    have only : Only h0 := fun b => by
      by_cases n : b = a
      · rw [n]; exact .inr ⟨_, _, at_⟩
      · exact .inl (off n)
    refine law_from KX g1 g2 g3 g4 g5 oa hr F bnd out only (prom h0 only (.inl (.inr ⟨_, at_⟩))) (fun b u y => ?_) (fun b y => Decidable.byContradiction fun n => y (off n)) fun _ => own
    by_cases n : b = a
    · subst n
      rw [at_] at y
      obtain rfl := Option.some.inj y
      exact ⟨oa, by rw [List.length_map]; exact hl, vs, _, rel, oa⟩
    · rw [off n] at y; cases y
end
theorem walk_ofG {l : PySem.W.OpenLaw} {n k : Nat} {q : Program} {loose : List Str} {XP : (Str → Option Value) → Heap → Prop} {YP : World → Heap → Prop} {d : DefRec} {x : Str} (hn : l.most = some n) (hn2 : n ≤ sizeLine) (hdf : d.params.defaults = []) (hr : Room k callerA)
    (F : ∀ (w : World) (mg : Str → Option Value) (fa : Addr) (h : Heap), YP w h → h.Ns mainGlobals mg → mg d.name = some (.ref fa) → ∃ (K : PySem.W.Frag) (fd : FuncData) (f : Fn), K.In h ∧
      (∀ (s : Shared) (u : Value), BindsTo s fd ⟨[u], []⟩ [(x, u)]) ∧ (∀ ns : List Int, ns.length ≤ n → (∀ z ∈ ns, Builtin.Int.intBits z ≤ 1048576) → ∃ st, f [.scr ns] [] = .ok (.val (.bool true)) st) ∧ ∀ base : Heap, K.In base → base.Ns mainGlobals mg → FnG l.prog w K mg base (L2.CX l.prog w) k fa fd [x] (spZ K mg 1 f)) :
    PySem.W.WalkO q loose XP YP l.row.toRowW d [] (fun f vs => PySem.call f vs) := by
  refine Att.attach_callB hn hdf fun w s₀ s₁ mg mb fa o pm cd doc a vs ns G Y ho hd hcd hmg hobj hints hlen hbits hg => ?_
  obtain ⟨K, fd, f, KX, hb, hlaw, hF⟩ := F w mg fa _ Y G.T.g hmg
  exact law_callG KX G.T.g G.T.b G.T.builtins G.T.nolimit hg hobj hints (Nat.le_trans hlen hn2) hr hF hb (fun H hO hS => law_end hO hS (hlaw ns hlen hbits)) fun H e s' h => by
    obtain ⟨_, _, _, _, _, _, _, _, _, _, _, _, z⟩ := h
    exact z

/-! ### functions as values -/
def eFn (x : Str) : M W := Pure.pure (.fn x)
def fnAt (i : Nat) (s : S) : Option Str := match s.env[i]? with
  | some (some (.fn g)) => some g
  | _ => none
def eCallV (n i : Nat) (tab : List (Str × Fn)) (ma : M (List W)) : M W := fun s => match fnAt i s with
  | some g => (match tab.lookup g with
    | some f => (ma >>= callS n f) s
    | none => .fail)
  | none => .fail
section
variable {X : Cx} {Wx : WX} {n i : Nat} {x : Str} {p pos : Pos} {e : Expr} {es : List Expr} {ma : M (List W)} {tab : List (Str × Fn)} {k : Nat}
theorem i_fn (hm : X.mg x = some (.ref (He.ga X.K x))) (hg : Gl X x := by rfl) (hdb : (x == ("__debug__" : Str)) = false := by decide) : DE X Wx (.Name x pos) (eFn x) :=
  pe_mono (pe_glob hg hm (v := .ref (He.ga X.K x)) rfl hdb) fun σ H Q ⟨B, F, ρ, s, k, h⟩ => (Run.ret h) F ρ H _ .refl k rfl trivial
/-- those that a slot may hold -/
inductive TabOk (X : Cx) (k n : Nat) : List (Str × Fn) → Prop
  | nil : TabOk X k n []
  | cons {y : Str} {ps : List Str} {fs : Fn} {l : List (Str × Fn)} (hm : X.mg y = some (.ref (He.ga X.K y))) (C : TakesG X.prog X.w X.K X.mg X.base y k n ps fs) : TabOk X k n l → TabOk X k n ((y, fs) :: l)
theorem TabOk.get (T : TabOk X k n tab) {g : Str} {fs : Fn} (h : tab.lookup g = some fs) : ∃ (fd : FuncData) (ps : List Str), FnG X.prog X.w X.K X.mg X.base (L2.CX X.prog X.w) k (He.ga X.K g) fd ps (spZ X.K X.mg n fs) ∧ PySem.W.keepIn X.K (.ref (He.ga X.K g)) = true ∧ Binds X.K fd ps [] := by
  induction T with
  | nil => cases h
  | @cons y ps fs' l hm C _ ih =>
    rw [List.lookup_cons] at h
    by_cases q : g == y
    · rw [q] at h
      have e : fs' = fs := by simpa using h
      subst e
      obtain ⟨f, fd, G, hm2, hk, hb⟩ := C.ex
      rw [hm] at hm2
      have ef := Value.ref.inj (Option.some.inj hm2)
      subst ef
      rw [eq_of_beq q]
      exact ⟨fd, ps, G, hk, hb⟩
    · have q' : (g == y) = false := by simpa using q
      rw [q'] at h
      exact ih h
theorem i_callV (i : Nat) (T : TabOk X k n tab) (hr : Room k X.A) (gd : X.A.guards = some []) (tk : Takes X Wx) (ha : DA X Wx (e :: es) ma) (hN : X.N[i]? = some x := by rfl)
    (hv : Vis X.env.scope x := by first | exact Or.inl rfl | exact Or.inr (Or.inl rfl) | exact Or.inr (Or.inr rfl)) (hdb : (x == ("__debug__" : Str)) = false := by decide) (hcd : (x == ("__classdict__" : Str)) = false := by decide)
    (he : starEach (e :: es) X.env = (false, eval e X.env) :: starEach es X.env := by rfl) (hpl : (backTo pos (starEach es X.env)).any (·.1) = false := by rfl) :
    DE X Wx (.Call (.Name x p) (e :: es) [] pos) (eCallV n i tab ma) := by
  refine ⟨fun pins s0 σ H Q I ⟨B, F, ρ, s, kk, h⟩ => ?_⟩
  unfold Run eCallV fnAt at h
  cases q : s.env[i]? with
  | none => rw [q] at h; exact h.elim
  | some o =>
    cases o with
    | none => rw [q] at h; exact h.elim
    | some w =>
      cases w with
      | fn g =>
        rw [q] at h
        obtain ⟨v, e1, e2⟩ := kk.env i _ q
        have e2 : v = .ref (He.ga X.K g) := e2
        subst e2
        cases ql : tab.lookup g with
        | none => simp only [ql] at h
        | some fs =>
          simp only [ql] at h
          have h : Run (ma >>= callS n fs) s (Post X.K B σ s F ρ H Q) (Er X.K X.mg Wx B σ) := h
          obtain ⟨fd, ps, G, hk, hb⟩ := T.get ql
          refine wpAny_Call_Name_kw (thn ((pe_var (pos := p) hN hv hdb hcd).run pins s0 σ H (fun v H1 => v = .ref (He.ga X.K g) ∧ H1 = H) I ⟨_, e1, rfl, rfl⟩) fun u s1 ⟨v, H1, I1, r1, q1⟩ => ?_)
          obtain ⟨rfl, rfl⟩ := q1
          cases r1
          have am : AM X.K X.mg Wx ma σ H1 fun vs H2 => spZ X.K X.mg n fs vs H2 Q (WE Wx σ) := am_step (P := fun vs H1 => spZ X.K X.mg n fs vs H1 Q (WE Wx σ)) (fun kk o h => call_step kk o h) ⟨B, F, ρ, s, kk, h⟩
          exact PySem.W.callWith_K (h₀ := X.base) I1.ok.mod.kin hk (thn (ha.run pos pins s1 σ H1 _ I1 am) fun us s2 ⟨vs, H2, J, r, z⟩ => ⟨J.kIn, run_fnG G hr gd hb (passAt tk σ) J r z⟩) he hpl
      | _ => rw [q] at h; exact h.elim
end
/-! ### repr -/
def isSeqD : D → Bool
  | .list _ => true
  | .tuple _ => true
  | _ => false
def reprD (d : D) : Option W := if isSeqD d = true ∧ d.showable = true ∧ d.hasDict = false ∧ d.depth ≤ 60 ∧ d.shown.length ≤ sizeLine then some (.val (.str d.shown)) else none
section
variable {X : Cx} {Wx : WX} {p pos p2 : Pos} {a : Expr} {m : M W}
theorem call_repr (hu : X.A.units + 65 < cLine) (gd : X.A.guards = some []) : CallR X (.builtin "repr") fun xs H Q => ∃ a d, xs = [.ref a] ∧ Dp X.K H (.ref a) d ∧ d.showable = true ∧ d.hasDict = false ∧ d.depth ≤ 60 ∧ d.shown.length ≤ sizeLine ∧ Q (.str d.shown) H := by
  intro pins s σ H xs us Q I r h
  obtain ⟨a, d, rfl, dp, h1, h2, h3, h4, q⟩ := h
  obtain ⟨u, rfl, ru⟩ := vals1 r
  have ru' : u = .ref a := ru
  subst ru'
  obtain ⟨as, rd⟩ := Dp.reads I d (.ref a) (.ref a) dp rfl
  exact repr_of_reads' rd h1 (fun z => by rw [h2] at z; cases z) gd (by omega) (fun b o z => z) (fun h' u tk keep => ⟨.str d.shown, H, I.kept keep, ⟨u, rfl⟩, q⟩) h4
theorem u_repr {K : PySem.W.Frag} : U1R K (fun xs H Q => ∃ a d, xs = [.ref a] ∧ Dp K H (.ref a) d ∧ d.showable = true ∧ d.hasDict = false ∧ d.depth ≤ 60 ∧ d.shown.length ≤ sizeLine ∧ Q (.str d.shown) H) reprD := by
  intro B F ρ s σ H x d w Q k l e p
  unfold reprD at e
  split at e
  · rename_i h
    obtain ⟨h0, h1, h2, h3, h4⟩ := h
    cases e
    have q := p.val k (.str d.shown)
    cases d with
    | list ds =>
      obtain ⟨a, vs, rfl, _, _⟩ := l.list
      exact ⟨a, _, rfl, l.dp h2, h1, h2, h3, h4, q⟩
    | tuple ds =>
      obtain ⟨a, vs, rfl, _, _⟩ := l.tup
      exact ⟨a, _, rfl, l.dp h2, h1, h2, h3, h4, q⟩
    | _ => cases h0
  · cases e
end
end Z
/-! Z, part 18: what is read from the end, [::-1]. -/
namespace Z
open PySem PySem.Spec PyProof.Rows L2
section
variable {prog : Program} {w : World} {A : Around} {E : Value → Shared → Prop} {s : Shared}
theorem back_adjust (n : Nat) : Builtin.Slice.sliceAdjust none none (-1) (n : Int) = ((n : Int) - 1, -1) := rfl
theorem back_places (n : Nat) : Builtin.Slice.slicePlaces ((n : Int) - 1) (-1) (-1) = n := by
  unfold Builtin.Slice.slicePlaces
  rw [if_neg (by decide)]
  by_cases h : (n : Int) - 1 > -1
  · rw [if_pos h]
    have : ((n : Int) - 1 - -1 - 1) / (- -1) + 1 = n := by
      have e : (- -1 : Int) = 1 := rfl
      rw [e, Int.ediv_one]; omega
    rw [this]; rfl
  · rw [if_neg h]; omega
theorem back_pick (xs : Array Value) : ((List.range xs.size).filterMap fun (m : Nat) => xs[(((xs.size : Int) - 1) + (m : Int) * (-1)).toNat]?).toArray = xs.toList.reverse.toArray := by
  congr 1
  have e : ((List.range xs.size).filterMap fun (m : Nat) => xs[(((xs.size : Int) - 1) + (m : Int) * (-1)).toNat]?) = ((List.range xs.size).map fun m => xs.size - 1 - m).filterMap (xs[·]?) := by
    rw [List.filterMap_map]
    congr 1
    funext m
    show xs[(((xs.size : Int) - 1) + (m : Int) * (-1)).toNat]? = xs[xs.size - 1 - m]?
    congr 1
    omega
  rw [e, PySem.W.krv_range, List.filterMap_reverse, PySem.W.krv_all]
theorem back_applied {sl : Addr} {vs : Value} {n : Nat} {Q : Int × Int × Nat → Shared → Prop} (hs : s.heap.IsSliceOf sl .none .none vs) (ps : IsPart vs (some (-1))) (h : Q ((n : Int) - 1, -1, n) s) :
    wpAny (model prog w) A (Builtin.Slice.sliceApplied (.ref sl) (pure (n : Int))) Q E s := by
  obtain ⟨o, ho, _, hd⟩ := id hs
  unfold Builtin.Slice.sliceApplied Builtin.Slice.sliceFields
  refine wpAny_bind (wpAny_bind (wpAny_field ho hd (x := .none) rfl (wpAny_bind (wpAny_field ho hd (x := .none) rfl (wpAny_bind (wpAny_field ho hd (x := vs) rfl (wpAny_pure (wpAny_bind ?_))))))))
  refine HT.slicePart_ ps ?_
  show wpAny _ _ (if ((-1 : Int) == 0) = true then _ else _) _ _ s
  rw [if_neg (by decide)]
  refine wpAny_bind (HT.slicePart_ .none (wpAny_bind (HT.slicePart_ .none (wpAny_bind (wpAny_pure ?_)))))
  show wpAny _ _ (match Builtin.Slice.sliceAdjust none none (-1) (n : Int) with | (l, u) => pure (l, (-1 : Int), Builtin.Slice.slicePlaces l u (-1))) _ _ s
  rw [back_adjust]
  show wpAny _ _ (pure ((n : Int) - 1, (-1 : Int), Builtin.Slice.slicePlaces ((n : Int) - 1) (-1) (-1))) _ _ s
  rw [back_places]
  exact wpAny_pure h
theorem getItem_tuple_back {tp sl : Addr} {xs : Array Value} {vs : Value} {Q : Value → Shared → Prop} (ht : IsTup s.heap tp xs) (hs : s.heap.IsSliceOf sl .none .none vs) (ps : IsPart vs (some (-1))) (hz : xs.size ≤ sizeLine)
    (h : Q (.ref s.heap.objs.size) { s with heap := s.heap.push { cls := .type "tuple", data := .seq xs.toList.reverse.toArray } }) : wpAny (model prog w) A (getItem (.ref tp) (.ref sl)) Q E s := by
  have fits : sizeOk (.seq xs.toList.reverse.toArray) := by
    show xs.toList.reverse.toArray.size ≤ sizeLine
    simpa using hz
  obtain ⟨o, ho, hc, _⟩ := id hs
  have isS : s.TypeIs (.ref sl) "slice" := ⟨o, ho, hc⟩
  unfold getItem
  with_reducible first | refine wpAny_holding ?_ | skip
  try refine wpAny_bind (wpAny_pure ?_)
  refine wpAny_bind (wpAny_sequenceKey ht.typeIs (by decide) (wpAny_bind (wpAny_callSpecial?_slot (name := Str.ofString "__getitem__") ht.typeIs PyProof.Rows.slot_tuple_getitem ?_)))
  refine wpAny_call_entry PyProof.Rows.slot_tuple_getitem ht.typeIs entry_tuple_getitem ?_ (args_tuple_getitem _ _)
  show wpAny _ _ (Builtin.Tuple.tupleItemsOf (.ref tp) >>= _) _ _ s
  refine wpAny_bind (tupleItemsOf_ ht (wpAny_bind (wpAny_typeOf isS ?_)))
  rw [if_pos (by decide)]
  refine wpAny_bind (back_applied hs ps ?_)
  have step : ¬ ((((xs.size : Int) - 1) == 0 && (-1 : Int) == 1 && xs.size == xs.size) = true) := by simp
  show wpAny _ _ (if (((xs.size : Int) - 1) == 0 && (-1 : Int) == 1 && xs.size == xs.size) = true then _ else _) _ _ s
  rw [if_neg step, back_pick]
  first
    | exact wpAny_bind (m := Builtin.Tuple.tupleExact _) (wpAny_newObj_type (wpAny_pure ⟨_, rfl, wpAny_pure h⟩) fits)
    | exact wpAny_bind (m := Builtin.Tuple.tupleExact _) (wpAny_newObj_type (wpAny_bind (wpAny_pure (wpAny_pure ⟨_, rfl, wpAny_pure h⟩))) fits)
    | exact wpAny_bind (wpAny_bind (m := Builtin.Tuple.tupleExact _) (wpAny_newObj_type (wpAny_pure (wpAny_pure ⟨_, rfl, wpAny_pure h⟩)) fits))
    | exact wpAny_bind (wpAny_bind (m := Builtin.Tuple.tupleExact _) (wpAny_newObj_type (wpAny_pure ⟨_, rfl, wpAny_pure h⟩) fits))
end
def revD : D → Option W
  | .list ds => some (.own ds.reverse)
  | .tuple ds => some (.val (.tuple ds.reverse))
  | _ => none
section
variable {X : Cx} {Wx : WX} {pos p1 p2 p3 : Pos} {a : Expr} {m : M W} {k : Nat}
def tBack (K : PySem.W.Frag) (te : TE) : TE := fun σ H Q => te σ H fun x H1 => (∃ a xs, x = .ref a ∧ SqL K H1 a xs ∧ ∀ p, H1 p = none → Q (.ref p) (upd H1 p (.lst xs.reverse))) ∨
  (∃ a xs, x = .ref a ∧ SqT K H1 a xs ∧ ∀ p, H1 p = none → Q (.ref p) (upd H1 p (.tup xs.reverse)))
theorem pe_back {te : TE} (he : PE X a te) : PE X (.Subscript a (.Slice none none (some (.UnaryOp .USub (.Constant (.int 1) k p1) p2)) p3) pos) (tBack X.K te) := by
  refine ⟨fun pins s σ H Q I h => Subscript_ (thn (he.run pins s σ H _ I h) fun v s1 ⟨x, H1, I1, r1, q1⟩ => ?_)⟩
  have part : PO X (some (.UnaryOp .USub (.Constant (.int 1) k p1) p2)) (tPart (tUn (rU fun j => .int (-j)) (tC (.int 1)))) := po_some (pe_un un_neg pe_int)
  refine wpAny_Slice (thn (po_none.run pins s1 σ H1 (fun o G => o = none ∧ G = H1) I1 ⟨rfl, rfl⟩) fun vl s2 ⟨_, _, I2, pl, z1, z2⟩ => ?_)
  subst z1 z2
  cases pl
  refine thn (po_none.run pins s2 σ _ (fun o G => o = none ∧ G = _) I2 ⟨rfl, rfl⟩) fun vu s3 ⟨_, _, I3, pu, z1, z2⟩ => ?_
  subst z1 z2
  cases pu
  refine thn (part.run pins s3 σ _ (fun o G => o = some (-1) ∧ G = _) I3 ⟨1, rfl, -1, rfl, rfl, rfl⟩) fun vs s4 ⟨_, G, I4, ps, z1, z2⟩ => ?_
  subst z1 z2
  have I5 : Inv X pins σ G { s4 with heap := s4.heap.push { cls := .type "slice", data := .fields #[.none, .none, vs] } } := I4.kept (t' := s4.toks) fun b ob q => Heap.get?_push_of_some _ q
  show wpAny _ X.A (subscriptTail a (.Slice none none (some (.UnaryOp .USub (.Constant (.int 1) k p1) p2)) p3) v (.ref s4.heap.objs.size)) (EP X pins σ Q) X.xe _
  rcases q1 with ⟨b, xs, rfl, hx, q⟩ | ⟨b, xs, rfl, hx, q⟩
  · cases r1
    obtain ⟨its, r, ht, hz⟩ := I5.list hx
    have len := r.length
    refine tail_any (ops := [.ref b, .ref s4.heap.objs.size]) ht.isList.typeIs (PySem.slot_list_getitem.lookup) ?_ (by with_unfolding_all rfl)
    refine wpAny_getItem_list_slice ht.isList (Heap.IsSliceOf.new _ .none .none vs) .none .none ps (by decide) ?_ (by rw [List.size_toArray]; omega)
    rw [PySem.W.krv_pick]
    exact ⟨.ref _, _, I5.laid (t' := s4.toks) (o := .lst xs.reverse) (fun b ob q => Heap.get?_push_of_some _ q) (Nat.le_refl _) ⟨by rw [List.length_reverse]; exact hz, _, 0, r.reverse, Heap.get?_push_size _ rfl⟩, rfl, q _ (I5.hok.fresh (Nat.le_refl _))⟩
  · cases r1
    obtain ⟨its, r, ht, hz⟩ := I5.tuple hx
    have len := r.length
    refine tail_any (ops := [.ref b, .ref s4.heap.objs.size]) ht.typeIs PyProof.Rows.slot_tuple_getitem.lookup ?_ (by with_unfolding_all rfl)
    refine getItem_tuple_back ht (Heap.IsSliceOf.new _ .none .none vs) ps (by rw [List.size_toArray]; omega) ?_
    exact ⟨.ref _, _, I5.laid (t' := s4.toks) (o := .tup xs.reverse) (fun b ob q => Heap.get?_push_of_some _ q) (Nat.le_refl _) ⟨by rw [List.length_reverse]; exact hz, _, r.reverse, IsTup.new _ _⟩, rfl, q _ (I5.hok.fresh (Nat.le_refl _))⟩
theorem i_back (ha : DE X Wx a m) : DE X Wx (.Subscript a (.Slice none none (some (.UnaryOp .USub (.Constant (.int 1) k p1) p2)) p3) pos) (op1 revD m) :=
  pe_mono (pe_back ha) fun σ H Q ⟨B, F, ρ, s, k, h⟩ => ⟨B, F, ρ, s, k, (Run.bind h).mono (fun w1 s1 _ h1 F1 ρ1 H1 x e1 k1 o1 _ => by
    obtain ⟨d, ed, h4⟩ := Run.look h1
    obtain ⟨w, ew, h5⟩ := Run.ofO h4
    have l1 := (content_ok k1 o1 ed).1
    have h6 := h5.step e1 k1.sto
    unfold revD at ew
    split at ew
    · cases ew
      obtain ⟨p, vs, rfl, sq, r⟩ := l1.list
      exact .inl ⟨p, vs, rfl, sq, fun q hq => h6.own k1 r.reverse hq⟩
    · cases ew
      obtain ⟨p, vs, rfl, sq, r⟩ := l1.tup
      exact .inr ⟨p, vs, rfl, sq, fun q hq => h6.tup k1 r.reverse hq⟩
    · cases ew) fun _ _ _ z => z⟩
end
end Z
namespace Z
open PySem PySem.Spec PyProof.Rows L2
theorem FnG.mono {P : Program} {w : World} {K : PySem.W.Frag} {mg : Str → Option Value} {base : Heap} {W : CXT} {j k : Nat} {f : Addr} {fd : FuncData} {ps : List Str} {sp : Sp} (F : FnG P w K mg base W j f fd ps sp) (h : j ≤ k) : FnG P w K mg base W k f fd ps sp :=
  ⟨F.size, fun A ov s H as us vs Q E gd rm => F.go A ov s H as us vs Q E gd (rm.mono h)⟩
theorem TakesG.mono {P : Program} {w : World} {K : PySem.W.Frag} {mg : Str → Option Value} {base : Heap} {x : Str} {j k n : Nat} {ps : List Str} {fs : Fn} (C : TakesG P w K mg base x j n ps fs) (h : j ≤ k) : TakesG P w K mg base x k n ps fs :=
  let ⟨f, fd, G, a, b, c⟩ := C.ex
  ⟨f, fd, G.mono h, a, b, c⟩
end Z
/-! Z, part 19: try with clauses; the error that is caught is tracked like any other object (exT), so that it may be handed on. -/
namespace Z
open PySem PySem.Spec PyProof.Rows L2

/-- a clause: the class it names, the slot it binds, what its suite does -/
structure Cl where
  c : Value
  i : Option Nat
  ts : TS
def Cl.ends (q : Cl) (D : Ends) : Ends := match q.i with
  | none => D
  | some i => { nx := fun σ H => D.nx (σ.set i none) H, rt := D.rt, bk := fun σ H => D.bk (σ.set i none) H, ct := fun σ H => D.ct (σ.set i none) H }
def Cl.slots (q : Cl) (σ : Sg) (a : Addr) : Sg := match q.i with
  | none => σ
  | some i => σ.set i (some (.ref a))
/-- what a try wishes of an error of its body -/
def wCls (K : PySem.W.Frag) (D : Ends) (Wout : WX) : List Cl → WX
  | [] => Wout
  | q :: qs => fun cls d σ H => ∃ b, PySem.W.exmOne K cls q.c = some b ∧ (b = true → ∀ a, H a = none → q.ts (q.ends D) (q.slots σ a) (upd H a (exT a cls d))) ∧ (b = false → wCls K D Wout qs cls d σ H)
inductive ClsOk (X : Cx) : List ExceptHandler → List Cl → Prop
  | nil : ClsOk X [] []
  | as {x n : Str} {np pos : Pos} {c : Value} {i : Nat} {b₀ : Stmt} {suite : List Stmt} {ts : TS} {hs : List ExceptHandler} {qs : List Cl} : Names X x c → X.N.Nodup → X.N[i]? = some n → X.env.kindOf n = some .local →
      (∀ (a : Addr) (pn : List (Addr × Obj)), PSs (X.suite a pn) (b₀ :: suite) ts) → ClsOk X hs qs → ClsOk X (.ExceptHandler (some (.Name x np)) (some n) (b₀ :: suite) pos :: hs) (⟨c, some i, ts⟩ :: qs)
  | only {x : Str} {np pos : Pos} {c : Value} {b₀ : Stmt} {suite : List Stmt} {ts : TS} {hs : List ExceptHandler} {qs : List Cl} : Names X x c →
      (∀ (a : Addr) (pn : List (Addr × Obj)), PSs (X.suite a pn) (b₀ :: suite) ts) → ClsOk X hs qs → ClsOk X (.ExceptHandler (some (.Name x np)) none (b₀ :: suite) pos :: hs) (⟨c, none, ts⟩ :: qs)
theorem exT_ok {P : Program} {w : World} {H : Hp} {h : Heap} {a : Addr} {cls : Value} {d : Option Addr} {oe : Obj} {vs : Array Value} (e : h.get? a = some oe) (z : Zc cls d oe) (dd : oe.data = .fields vs) : ObjOk P w H h a (exT a cls d) :=
  ⟨⟨oe, vs, e, z, dd⟩, ⟨oe, e⟩, fun _ _ ⟨o, v, q, r⟩ k => ⟨o, v, k o q, r⟩⟩
section
variable {X : Cx} {pins : List (Addr × Obj)} {σ : Sg} {H : Hp} {s : Shared} {a : Addr} {cls : Value} {d : Option Addr} {D : Ends} {Wout : WX}
/-- the error in sight of its suite -/
theorem Inv.seen {oe : Obj} {vs : Array Value} (I : Inv X pins σ H s) (ha : s.heap.get? a = some oe) (hz : Zc cls d oe) (hd : oe.data = .fields vs) (na : H a = none) (n0 : X.s_0.heap.get? a = none) (np : ∀ p ∈ X.pn ++ pins, p.1 ≠ a) (nL : a ≠ X.env.locals) :
    Inv (X.suite a (X.pn ++ pins)) [] σ (upd H a (exT a cls d)) s where
  ok := I.ok.suite _ _
  os := I.os
  bare := I.bare
  base := {
    keep := I.base.keep
    slot := I.base.slot
    free := fun b o e n q => by
      have hb : b ≠ a := fun z => by
        have e' : X.s_0.heap.get? b = some o := e
        rw [z, n0] at e'; cases e'
      rw [upd_ne hb]
      exact I.base.free b o e n q
    there := I.base.there
    tups := fun b xs e => by rw [upd_ne (ne_of_none (I.base.tups b xs e) na)]; exact I.base.tups b xs e
    frzs := fun b o u e => by rw [upd_ne (ne_of_none (I.base.frzs b o u e) na)]; exact I.base.frzs b o u e
    tbls := fun b ps e => by
      obtain ⟨m, q⟩ := I.base.tbls b ps e
      exact ⟨m, by rw [upd_ne (ne_of_none q na)]; exact q⟩ }
  loc := I.loc
  cell := I.cell
  free := by rw [upd_ne (Ne.symm nL)]; exact I.free
  freeC := fun x c e => by
    obtain ⟨v, o, ho, hc⟩ := I.cell x c e
    have hb : c ≠ a := fun z => by
      rw [z, ha] at ho
      cases ho
      rw [hd] at hc; cases hc
    rw [upd_ne hb]; exact I.freeC x c e
  pin := fun p hp => by
    have hp' : p ∈ X.pn ++ pins := by simpa using hp
    obtain ⟨e, n, r⟩ := I.pin p hp'
    exact ⟨e, by rw [upd_ne (np p hp')]; exact n, r⟩
  hok := I.hok.laidN (fun _ _ q => q) na (show ObjOk X.prog X.w _ s.heap a (exT a cls d) from exT_ok ha hz hd)
  len := I.len
theorem Inv.unseen {pn' : List (Addr × Obj)} (I : Inv (X.suite a (X.pn ++ pins)) pn' σ H s) (ok : X.Ok) : Inv X pins σ H s :=
  ⟨ok, I.os, I.bare, I.base, I.loc, I.cell, I.free, I.freeC, fun p hp => I.pin p (List.mem_append_left _ hp), I.hok, I.len⟩
/-- the clauses are tried -/
theorem handle {B : Heap} {sI : Shared} (hs : X.stack = X.env :: X.outer) (hf : X.env.frame = some X.env.locals) (hex : X.ex = []) (tk : Takes X Wout) (J : Inv X pins σ H sI) (nb : ∀ b o, sI.heap.get? b = some o → b ∉ frs X.stack → B.get? b = some o) (na : H a = none) :
    ∀ {cs : List ExceptHandler} {qs : List Cl}, ClsOk X cs qs → ∀ (s' : Shared), s'.os = sI.os → AllBare s'.gens → sI.heap.UpToSlots s'.heap → HandSPX.FlyingZ B (X.env :: X.outer) a (Zc cls d) s'.heap → wCls X.K D Wout qs cls d σ H →
      wpAny (model X.prog X.w) X.A (handleBy (.ref a) X.env cs) (SP X pins D) X.xe s' := by
  have ok := J.ok
  intro cs qs hq
  have main : ∀ (s' : Shared), s'.os = sI.os → AllBare s'.gens → sI.heap.UpToSlots s'.heap → HandSPX.FlyingZ B (X.env :: X.outer) a (Zc cls d) s'.heap →
      a ∉ frs (X.env :: X.outer) ∧ a ≠ X.env.locals ∧ Inv X pins σ H s' ∧ Inv (X.suite a (X.pn ++ pins)) [] σ (upd H a (exT a cls d)) s' := fun s' os ag up fl => by
    have J3 : Inv X pins σ H s' := J.landed nb fl.1 up os ag
    obtain ⟨oe, vs, he, hz, hd⟩ := fl.there
    have nfr : a ∉ frs (X.env :: X.outer) := fun hm => by
      obtain ⟨_, o', e', hnf⟩ := fl.2.2.1.mem hm
      rw [he] at e'; cases e'
      exact hnf _ hd
    have nL : a ≠ X.env.locals := fun z => nfr (List.mem_filterMap.mpr ⟨X.env, List.mem_cons_self, by rw [hf, z]⟩)
    have nI : sI.heap.get? a = none := by
      cases q : sI.heap.get? a with
      | none => rfl
      | some o =>
        have z := nb a o q (by rw [hs]; exact nfr)
        rw [fl.2.1] at z; cases z
    have n0 : X.s_0.heap.get? a = none := by
      cases q : X.s_0.heap.get? a with
      | none => rfl
      | some o =>
        obtain ⟨o', z⟩ := J.base.there a o q (by rw [hex]; exact fun z => nomatch z)
        rw [nI] at z; cases z
    have np : ∀ p ∈ X.pn ++ pins, p.1 ≠ a := fun p hp z => by
      obtain ⟨e, _⟩ := J.pin p hp
      rw [z, nI] at e; cases e
    exact ⟨nfr, nL, J3, Inv.seen J3 he hz hd na n0 np nL⟩
  have pick : ∀ (s' : Shared) (x : Str) (np : Pos) (c : Value) (b : Bool), Names X x c → PySem.W.exmOne X.K cls c = some b → s'.os = sI.os → AllBare s'.gens → sI.heap.UpToSlots s'.heap → HandSPX.FlyingZ B (X.env :: X.outer) a (Zc cls d) s'.heap →
      ∀ {Q : Bool → Shared → Prop} {E : Value → Shared → Prop}, Q b s' → wpAny (model X.prog X.w) (X.A.mark (some (.ref a))) (eval (.Name x np) X.env) (fun c s₁ => wpAny (model X.prog X.w) (X.A.mark (some (.ref a))) (excMatches (.ref a) c) Q E s₁) E s' :=
    fun s' x np c b hc hb os ag up fl Q E q => by
      obtain ⟨_, _, J3, S3⟩ := main s' os ag up fl
      obtain ⟨oe, vs, he, hz, hd⟩ := fl.there
      have LT : PySem.W.Looks (model X.prog X.w) s'.heap (typeOf (.ref a)) cls := fun A Q E s k q => wpAny_typeOf_ref (k _ _ he) (by rw [hz.1]; exact q)
      have LM := PySem.W.exm_one (M := model X.prog X.w) J3.kIn LT hb
      obtain ⟨hg, hdbg, hm | ⟨hm, hv, hnn⟩⟩ := hc
      · exact ld_glob (X := X.suite a (X.pn ++ pins)) S3 hg hm (LM.here q) hdbg
      · exact ld_blt (X := X.suite a (X.pn ++ pins)) S3 hg hm hv (LM.here q) hnn hdbg
  induction hq with
  | nil =>
    intro s' os ag up fl w
    refine wpAny_handleBy_nil ?_
    obtain ⟨_, _, _, oe, vs, T, oT, ts', he, hz, hd, h1, hr⟩ := id fl
    unfold PySem.passOn
    refine wpAny_bind (wpAny_field he hd h1 ?_)
    rw [if_neg (show ¬ ((Value.ref T == Value.none) = true) from by simp)]
    have fin : wpAny (model X.prog X.w) X.A (setFlight (.ref a) X.env.frame) (fun _ s4 => wpAny (model X.prog X.w) X.A (throw (.ref a) : Sem Flow) (SP X pins D) X.xe s4) X.xe s' := by
      rw [hf]
      refine HandSPX.setFlight_upZ fl fun h4 hh4 up4 => wpAny_throw (tk _ _ ?_)
      exact ⟨a, B, sI, pins, σ, H, cls, d, rfl, J, nb, up.trans up4, .inr (.inr (by rw [hs]; exact hh4)), na, os, ag, w⟩
    first
      | exact wpAny_bind (wpAny_pure (wpAny_bind fin))
      | exact wpAny_bind fin
  | @as x n np pos c i b₀ suite ts cs qs hc hN hi hl hsu _ ih =>
    intro s' os ag up fl w
    obtain ⟨b, hb, hy, hn⟩ := w
    refine wpAny_handleBy_cons (codeAny_handlers_test (pick s' x np c b hc hb os ag up fl ?_)) (by intro q; cases q)
    cases b with
    | false => exact ih s' os ag up fl (hn rfl)
    | true =>
      refine codeAny_handlers_suite_as (HandSPX.lands_againZ fl fun h4 fl4 up4 => ?_)
      obtain ⟨_, _, _, S4⟩ := main { s' with heap := h4 } os ag (up.trans up4) fl4
      refine store_ok (X := X.suite a (X.pn ++ pins)) (v := .ref a) S4 hN hi (.inl hl) rfl (fun s5 S5 => ?_) (.inr hl)
      refine wpAny_mono ((hsu a (X.pn ++ pins)).run [] s5 _ _ _ S5 (hy rfl a na)) (fun f s6 hsp => ?_) (fun _ _ z => False.elim z)
      have end_ : ∀ {σ6 : Sg} {H6 : Hp} {Q : Shared → Prop}, Inv (X.suite a (X.pn ++ pins)) [] σ6 H6 s6 → (∀ s7, Inv X pins (σ6.set i none) H6 s7 → Q s7) →
          wpAny (model X.prog X.w) X.A (do bindName X.env n .none; unbindBehindTheSuite X.env n pos) (fun _ s7 => Q s7) X.xe s6 := fun S6 hq => gone_ok (Inv.unseen S6 ok) hN hi hl hq
      cases f with
      | next =>
        obtain ⟨σ6, H6, S6, q6⟩ := hsp
        exact end_ S6 fun s7 J7 => ⟨_, _, J7, q6⟩
      | brk =>
        obtain ⟨σ6, H6, S6, q6⟩ := hsp
        exact end_ S6 fun s7 J7 => ⟨_, _, J7, q6⟩
      | cont =>
        obtain ⟨σ6, H6, S6, q6⟩ := hsp
        exact end_ S6 fun s7 J7 => ⟨_, _, J7, q6⟩
      | ret u =>
        obtain ⟨v6, σ6, H6, S6, r6, q6⟩ := hsp
        exact end_ S6 fun s7 J7 => ⟨_, _, _, J7, r6, q6⟩
  | @only x np pos c b₀ suite ts cs qs hc hsu _ ih =>
    intro s' os ag up fl w
    obtain ⟨b, hb, hy, hn⟩ := w
    refine wpAny_handleBy_cons (codeAny_handlers_test (pick s' x np c b hc hb os ag up fl ?_)) (by intro q; cases q)
    cases b with
    | false => exact ih s' os ag up fl (hn rfl)
    | true =>
      refine codeAny_handlers_suite (HandSPX.lands_againZ fl fun h4 fl4 up4 => ?_)
      obtain ⟨_, _, _, S4⟩ := main { s' with heap := h4 } os ag (up.trans up4) fl4
      refine wpAny_mono ((hsu a (X.pn ++ pins)).run [] _ _ _ _ S4 (hy rfl a na)) (fun f s6 hsp => ?_) (fun _ _ z => False.elim z)
      cases f with
      | next =>
        obtain ⟨σ6, H6, S6, q6⟩ := hsp
        exact ⟨_, _, Inv.unseen S6 ok, q6⟩
      | brk =>
        obtain ⟨σ6, H6, S6, q6⟩ := hsp
        exact ⟨_, _, Inv.unseen S6 ok, q6⟩
      | cont =>
        obtain ⟨σ6, H6, S6, q6⟩ := hsp
        exact ⟨_, _, Inv.unseen S6 ok, q6⟩
      | ret u =>
        obtain ⟨v6, σ6, H6, S6, r6, q6⟩ := hsp
        exact ⟨_, _, _, Inv.unseen S6 ok, r6, q6⟩
/-- try: body, clauses -/
theorem ps_tryV {body : List Stmt} {h₀ : ExceptHandler} {hr : List ExceptHandler} {qs : List Cl} {tb : WX → TS} {pos : Pos} (hs : X.stack = X.env :: X.outer) (hf : X.env.frame = some X.env.locals) (hex : X.ex = []) (tk : Takes X Wout)
    (hb : ∀ (W : WX) (pn : List (Addr × Obj)) (xe : Value → Shared → Prop), Takes (X.tr pn xe) W → PassesOwn (model X.prog X.w) X.A X.env xe → PSs (X.tr pn xe) body (tb W)) (hc : ClsOk X (h₀ :: hr) qs) :
    PS X (.Try body (h₀ :: hr) [] [] pos) (fun D σ H => tb (wCls X.K D Wout qs) D σ H) := by
  refine ⟨fun pins s σ H D I h => ?_⟩
  have ok := I.ok
  have hfr : X.A.frames = some (X.env :: X.outer) := by rw [ok.frames, hs]
  refine wpAny_Try_except (wpAny_mono ((hb (wCls X.K D Wout qs) (X.pn ++ pins) (fun e s₁ => wpAny (model X.prog X.w) X.A (noteFrame e X.env) (fun _ s₂ => wpAny (model X.prog X.w) X.A (setFlight e none) (fun _ s₃ =>
    wpAny (model X.prog X.w) X.A (handleBy e X.env (h₀ :: hr)) (SP X pins D) X.xe s₃) X.xe s₂) X.xe s₁) (fun u s' xx => ?_) PassesOwn.looking).run [] s σ H D (I.toTry _) h) (fun f s1 hsp => ?_) (fun e s1 he => he))
  · obtain ⟨a, B, sI, pins', σ', H', cls, d, rfl, J', nb, up, sky, na, os, ag, w⟩ := xx
    have J : Inv X pins σ' H' sI := J'.ofTry ok
    have sky' : Sky B (X.env :: X.outer) a (Zc cls d) X.env.locals s'.heap := by rw [← hs]; exact sky
    show wpAny (model X.prog X.w) X.A (noteFrame (.ref a) X.env) _ _ _
    exact Sky.land Zc.steady hfr hf sky' fun h3 fl3 up3 => handle hs hf hex tk J nb na hc { s' with heap := h3 } os ag (up.trans up3) fl3 w
  · cases f with
    | next =>
      obtain ⟨σ', H', J', q⟩ := hsp
      exact wpAny_execs_nil ⟨σ', H', J'.ofTry ok, q⟩
    | brk =>
      obtain ⟨σ', H', J', q⟩ := hsp
      exact ⟨σ', H', J'.ofTry ok, q⟩
    | cont =>
      obtain ⟨σ', H', J', q⟩ := hsp
      exact ⟨σ', H', J'.ofTry ok, q⟩
    | ret u =>
      obtain ⟨v, σ', H', J', r, q⟩ := hsp
      exact ⟨v, σ', H', J'.ofTry ok, r, q⟩
end
end Z
/-! Z, part 20: try, in the layer. -/
namespace Z
open PySem PySem.Spec PyProof.Rows L2

/-- what stands when a try begins: all but the lists that slots own -/
noncomputable def baseAt (F : Fz) (ρ : List Addr) (H : Hp) (s : S) (σ : Sg) : Base := ⟨F, ρ, fun a => @ite _ (OwnedBy s σ a) (Classical.propDecidable _) none (H a)⟩
section
variable {K : PySem.W.Frag} {mg : Str → Option Value} {Wx : WX} {B : Base} {F F' F1 F2 : Fz} {ρ ρ' ρ1 ρ2 : List Addr} {s s' s1 s2 : S} {σ σ' : Sg} {H H' H1 H2 : Hp} {v : V} {w : W} {a : Addr} {o : HO} {x : Exc}
theorem baseAt_own (h : OwnedBy s σ a) : (baseAt F ρ H s σ).H a = none := if_pos h
theorem baseAt_ne (h : ¬ OwnedBy s σ a) : (baseAt F ρ H s σ).H a = H a := if_neg h
theorem baseAt_some (h : (baseAt F ρ H s σ).H a = some o) : H a = some o ∧ ¬ OwnedBy s σ a := by
  by_cases q : OwnedBy s σ a
  · rw [baseAt_own q] at h; cases h
  · rw [baseAt_ne q] at h; exact ⟨h, q⟩
theorem Ok.none_ (k : Ok K B F ρ s σ H) (h : (baseAt F ρ H s σ).H a = none) : B.H a = none := by
  by_cases q : OwnedBy s σ a
  · exact (k.owned q).2.2.1
  · rw [baseAt_ne q] at h
    exact k.base.there k.sto h
theorem Ok.rebase (k : Ok K B F ρ s σ H) : Ok K (baseAt F ρ H s σ) F ρ s σ H where
  len := k.len
  base := ⟨fun _ h => h, ⟨[], (List.append_nil _).symm⟩, fun _ h => .inl h, fun b o e _ => (baseAt_some e).1, fun _ h => .inl h⟩
  trk := k.trk
  sto := k.sto
  env := fun i w e => by
    obtain ⟨v, e1, e2⟩ := k.env i w e
    refine ⟨v, e1, ?_⟩
    cases w with
    | own ds =>
      obtain ⟨b, vs, rfl, q2, q3, q4, q5, q6⟩ := e2
      exact ⟨b, vs, rfl, q2, q3, q4, q5, baseAt_own ⟨i, ds, e, e1⟩⟩
    | val d => exact e2
    | ref n => exact e2
    | peek j => exact e2
    | scr ns => exact e2
    | fn y => exact e2
    | exc y => exact e2
  sep := k.sep
theorem Ok.sx_base (k : Ok K B F ρ s σ H) (k' : Ok K (baseAt F ρ H s σ) F' ρ' s' σ' H') : SX F H F' H' :=
  ⟨k'.base.sub, fun b o e q => by
    have nρ : b ∉ ρ := fun m => by
      obtain ⟨n, hn⟩ := List.getElem?_of_mem m
      have hl : n < s.st.length := by
        rw [k.sto.len]
        exact (List.getElem?_eq_some_iff.mp hn).1
      obtain ⟨c, vs, e1, e2, e3, _⟩ := k.sto.at_ n _ (List.getElem?_eq_getElem hl)
      rw [hn] at e1; cases e1
      rcases q with q | q
      · exact e2 q
      · rw [e] at e3; cases e3; cases q
    have no : ¬ OwnedBy s σ b := fun m => by
      obtain ⟨nf, _, _, vs, e3⟩ := k.owned m
      rcases q with q | q
      · exact nf q
      · rw [e] at e3; cases e3; cases q
    exact k'.base.keep b o (by rw [baseAt_ne no]; exact e) nρ⟩
theorem Ok.unbase (k : Ok K B F ρ s σ H) (k' : Ok K (baseAt F ρ H s σ) F' ρ' s' σ' H') : Ok K B F' ρ' s' σ' H' where
  len := k'.len
  base := {
    sub := fun b f => k'.base.sub b (k.base.sub b f)
    rho := by
      obtain ⟨m, e⟩ := k.base.rho
      obtain ⟨n, e'⟩ := k'.base.rho
      have e'' : ρ' = ρ ++ n := e'
      exact ⟨m ++ n, by rw [e'', e, List.append_assoc]⟩
    new := fun b m => by
      rcases k'.base.new b m with h | h
      · exact k.base.new b h
      · exact .inr (k.none_ h)
    keep := fun b o e nb => by
      have e1 := k.base.keep b o e nb
      have no : ¬ OwnedBy s σ b := fun m => by rw [(k.owned m).2.2.1] at e; cases e
      refine k'.base.keep b o (by rw [baseAt_ne no]; exact e1) fun m => ?_
      rcases k.base.new b m with h | h
      · exact nb h
      · rw [e] at h; cases h
    fz := fun b f => by
      rcases k'.base.fz b f with h | h
      · exact k.base.fz b h
      · exact .inr (k.none_ h) }
  trk := k'.trk
  sto := k'.sto
  env := fun i w e => by
    obtain ⟨v, e1, e2⟩ := k'.env i w e
    refine ⟨v, e1, ?_⟩
    cases w with
    | own ds =>
      obtain ⟨b, vs, rfl, q2, q3, q4, q5, q6⟩ := e2
      exact ⟨b, vs, rfl, q2, q3, q4, q5, k.none_ q6⟩
    | val d => exact e2
    | ref n => exact e2
    | peek j => exact e2
    | scr ns => exact e2
    | fn y => exact e2
    | exc y => exact e2
  sep := k'.sep
theorem ROk.unbase (k : Ok K B F ρ s σ H) (r : ROk K F' ρ' (baseAt F ρ H s σ).H H' v w) : ROk K F' ρ' B.H H' v w := by
  cases w with
  | own ds =>
    obtain ⟨b, vs, e, q2, q3, q4, q5, q6⟩ := r
    exact ⟨b, vs, e, q2, q3, q4, q5, k.none_ q6⟩
  | val d => exact r
  | ref n => exact r
  | peek j => exact r
  | scr ns => exact r
  | fn y => exact r
  | exc y => exact r
/-- a slot forgotten, above and below -/
theorem Ok.gone (k : Ok K B F ρ s σ H) (i : Nat) : Ok K B F ρ (s.setEnv i none) (σ.set i none) H where
  len := by
    show (s.env.set i none).length = (σ.set i none).length
    rw [List.length_set, List.length_set]
    exact k.len
  base := k.base
  trk := k.trk
  sto := k.sto
  env := fun j w e => by
    rcases env_set e with ⟨_, e⟩ | ⟨hj, e⟩
    · cases e
    · obtain ⟨v, e1, e2⟩ := k.env j w e
      exact ⟨v, by rw [List.getElem?_set_ne (Ne.symm hj)]; exact e1, e2⟩
  sep := fun j l ds es a e1 e2 e3 e4 => by
    rcases env_set e1 with ⟨_, e⟩ | ⟨hj, e1⟩
    · cases e
    · rcases env_set e2 with ⟨_, e⟩ | ⟨hl, e2⟩
      · cases e
      · rw [List.getElem?_set_ne (Ne.symm hj)] at e3
        rw [List.getElem?_set_ne (Ne.symm hl)] at e4
        exact k.sep j l ds es a e1 e2 e3 e4
end
/-! ### the mirror -/
/-- a clause: of which classes it takes (each that may come), the slot, the suite -/
structure Cm where
  tab : List (Str × Bool)
  i : Option Nat
  mh : M SR
def noErr (r : Out S SR) : Out S SR := match r with
  | .err _ _ => .fail
  | r => r
def freeR (i : Nat) (r : Out S SR) : Out S SR := match r with
  | .ok a s => .ok a (s.setEnv i none)
  | r => r
def takeC (q : Cm) (x : Exc) : M SR := fun s => match q.i with
  | none => noErr (q.mh s)
  | some i => if i < s.env.length then freeR i (noErr (q.mh (s.setEnv i (some (.exc x))))) else .fail
def tryC : List Cm → Exc → M SR
  | [], x => fun s => .err x s
  | q :: qs, x => match q.tab.lookup x.name with
    | some true => takeC q x
    | some false => tryC qs x
    | none => M.fail
def sTry (qs : List Cm) (mb : M SR) : M SR := fun s => match mb s with
  | .err x s' => tryC qs x s'
  | r => r
/-- what a clause takes is what it names -/
def TabE (K : PySem.W.Frag) (mg : Str → Option Value) (tab : List (Str × Bool)) (c : Value) : Prop := ∀ (y : Str) (b : Bool) (C : Addr), tab.lookup y = some b → mg y = some (.ref C) → PySem.W.exmOne K (.ref C) c = some b ∧ C = He.ga K y
inductive CmOk (X : Cx) : List ExceptHandler → List Cm → Prop
  | nil : CmOk X [] []
  | as {x n : Str} {np pos : Pos} {c : Value} {i : Nat} {tab : List (Str × Bool)} {b₀ : Stmt} {suite : List Stmt} {mh : M SR} {hs : List ExceptHandler} {qs : List Cm} : Names X x c → X.N.Nodup → X.N[i]? = some n → X.env.kindOf n = some .local → TabE X.K X.mg tab c →
      (∀ (a : Addr) (pn : List (Addr × Obj)), DB (X.suite a pn) Wx0 (b₀ :: suite) mh) → CmOk X hs qs → CmOk X (.ExceptHandler (some (.Name x np)) (some n) (b₀ :: suite) pos :: hs) (⟨tab, some i, mh⟩ :: qs)
  | only {x : Str} {np pos : Pos} {c : Value} {tab : List (Str × Bool)} {b₀ : Stmt} {suite : List Stmt} {mh : M SR} {hs : List ExceptHandler} {qs : List Cm} : Names X x c → TabE X.K X.mg tab c →
      (∀ (a : Addr) (pn : List (Addr × Obj)), DB (X.suite a pn) Wx0 (b₀ :: suite) mh) → CmOk X hs qs → CmOk X (.ExceptHandler (some (.Name x np)) none (b₀ :: suite) pos :: hs) (⟨tab, none, mh⟩ :: qs)
section
variable {X : Cx} {Wx : WX} {pos : Pos}
theorem xok_arg {K : PySem.W.Frag} {mg : Str → Option Value} {F : Fz} {H : Hp} {x : Exc} {cls : Value} {d : Option Addr} (h : XOk K mg F H x cls d) : ExArg K F H x d := by
  obtain ⟨C, _, _, h⟩ := h
  unfold ExArg
  cases q : x.arg with
  | none => rw [q] at h; exact h
  | some p => rw [q] at h; exact h
theorem noErr_ok {o : Out S SR} {ok : SR → S → Prop} {er : Exc → S → Prop} (h : Run (fun _ : S => noErr o) ⟨[], []⟩ ok er) : ∃ r s, o = .ok r s ∧ ok r s := by
  cases o with
  | fail => exact h.elim
  | ok r s => exact ⟨r, s, rfl, h⟩
  | err x s => exact h.elim
theorem cls_of {hs : List ExceptHandler} {qs : List Cm} (h : CmOk X hs qs) : ∃ cs : List Cl, ClsOk X hs cs ∧
    ∀ {B : Base} {F F1 : Fz} {ρ1 : List Addr} {H H1 : Hp} {s1 : S} {σ1 : Sg} {x : Exc} {cls : Value} {d : Option Addr} {D : Ends}, Ok X.K B F1 ρ1 s1 σ1 H1 → SX F H F1 H1 → XOk X.K X.mg F1 H1 x cls d → Run (tryC qs x) s1 (BEnd X.K B F H D) (BEr X.K X.mg Wx B) → wCls X.K D Wx cs cls d σ1 H1 := by
  induction h with
  | nil => exact ⟨[], .nil, fun {B F F1 ρ1 H H1 s1 σ1 x cls d D} k sx xo r => (show BEr X.K X.mg Wx B x s1 from r) F1 ρ1 H1 σ1 cls d k xo⟩
  | @as x n np pos c i tab b₀ suite mh hs qs hc hN hi hl ht hsu _ ih =>
    obtain ⟨cs, h1, h2⟩ := ih
    refine ⟨⟨c, some i, BM X.K X.mg Wx0 mh⟩ :: cs, .as hc hN hi hl (fun a pn => hsu a pn) h1, fun {B F F1 ρ1 H H1 s1 σ1 x cls d D} k sx xo r => ?_⟩
    have xa := xok_arg xo
    obtain ⟨C, hm, rfl, _⟩ := id xo
    have r' : Run (match tab.lookup x.name with | some true => takeC ⟨tab, some i, mh⟩ x | some false => tryC qs x | none => M.fail) s1 (BEnd X.K B F H D) (BEr X.K X.mg Wx B) := r
    cases q : tab.lookup x.name with
    | none => rw [q] at r'; exact r'.elim
    | some b =>
      obtain ⟨hx, hC⟩ := ht x.name b C q hm
      rw [q] at r'
      refine ⟨b, hx, fun hb a na => ?_, fun hb => ?_⟩
      · subst hb
        have r2 : Run (fun _ : S => if i < s1.env.length then freeR i (noErr (mh (s1.setEnv i (some (.exc x))))) else .fail) s1 (BEnd X.K B F H D) (BEr X.K X.mg Wx B) := r'
        by_cases hi' : i < s1.env.length
        · rw [if_pos hi'] at r2
          have k1 := k.new (o := exT a (.ref C) d) na
          have ev : ExV X.K F1 (upd H1 a (exT a (.ref C) d)) (.ref a) x := ⟨a, d, rfl, by rw [hC]; exact upd_same, xa.st (stay_upd na) fun _ z => z⟩
          have k2 := k1.store (v := .ref a) (w := .exc x) hi' ev fun ds b e => by cases e
          refine ⟨B, F1, ρ1, s1.setEnv i (some (.exc x)), k2, ?_⟩
          have sx1 : SX F H F1 (upd H1 a (exT a (.ref C) d)) := sx.trans ⟨fun _ z => z, stay_upd na⟩
          unfold Run at r2 ⊢
          cases o : mh (s1.setEnv i (some (.exc x))) with
          | fail => rw [o] at r2; exact r2.elim
          | err y s2 => rw [o] at r2; exact r2.elim
          | ok rr s2 =>
            rw [o] at r2
            have r3 : BEnd X.K B F H D rr (s2.setEnv i none) := r2
            intro F2 ρ2 H2 σ2 sx2 k3
            have z := r3 F2 ρ2 H2 (σ2.set i none) (sx1.trans sx2) (k3.gone i)
            cases rr with
            | next => exact z
            | brk => exact z
            | cont => exact z
            | ret w => exact z
        · rw [if_neg hi'] at r2; exact r2.elim
      · subst hb
        exact h2 k sx xo r'
  | @only x np pos c tab b₀ suite mh hs qs hc ht hsu _ ih =>
    obtain ⟨cs, h1, h2⟩ := ih
    refine ⟨⟨c, none, BM X.K X.mg Wx0 mh⟩ :: cs, .only hc (fun a pn => hsu a pn) h1, fun {B F F1 ρ1 H H1 s1 σ1 x cls d D} k sx xo r => ?_⟩
    obtain ⟨C, hm, rfl, _⟩ := id xo
    have r' : Run (match tab.lookup x.name with | some true => takeC ⟨tab, none, mh⟩ x | some false => tryC qs x | none => M.fail) s1 (BEnd X.K B F H D) (BEr X.K X.mg Wx B) := r
    cases q : tab.lookup x.name with
    | none => rw [q] at r'; exact r'.elim
    | some b =>
      obtain ⟨hx, hC⟩ := ht x.name b C q hm
      rw [q] at r'
      refine ⟨b, hx, fun hb a na => ?_, fun hb => ?_⟩
      · subst hb
        have r2 : Run (fun _ : S => noErr (mh s1)) s1 (BEnd X.K B F H D) (BEr X.K X.mg Wx B) := r'
        have k1 := k.new (o := exT a (.ref C) d) na
        refine ⟨B, F1, ρ1, s1, k1, ?_⟩
        have sx1 : SX F H F1 (upd H1 a (exT a (.ref C) d)) := sx.trans ⟨fun _ z => z, stay_upd na⟩
        unfold Run at r2 ⊢
        cases o : mh s1 with
        | fail => rw [o] at r2; exact r2.elim
        | err y s2 => rw [o] at r2; exact r2.elim
        | ok rr s2 =>
          rw [o] at r2
          have r3 : BEnd X.K B F H D rr s2 := r2
          intro F2 ρ2 H2 σ2 sx2 k3
          have z := r3 F2 ρ2 H2 σ2 (sx1.trans sx2) k3
          cases rr with
          | next => exact z
          | brk => exact z
          | cont => exact z
          | ret w => exact z
      · subst hb
        exact h2 k sx xo r'
/-- try: body, clauses -/
theorem s_try {body : List Stmt} {h₀ : ExceptHandler} {hr : List ExceptHandler} {qs : List Cm} {mb : M SR} (tk : Takes X Wx)
    (hb : ∀ (W : WX) (pn : List (Addr × Obj)) (xe : Value → Shared → Prop), Takes (X.tr pn xe) W → PassesOwn (model X.prog X.w) X.A X.env xe → DB (X.tr pn xe) W body mb) (hc : CmOk X (h₀ :: hr) qs)
    (hs : X.stack = X.env :: X.outer := by rfl) (hf : X.env.frame = some X.env.locals := by rfl) (hex : X.ex = [] := by rfl) : DS X Wx (.Try body (h₀ :: hr) [] [] pos) (sTry qs mb) := by
  obtain ⟨cs, h1, h2⟩ := cls_of (Wx := Wx) hc
  refine ps_mono (ps_tryV (tb := fun W => BM X.K X.mg W mb) hs hf hex tk (fun W pn xe t p => hb W pn xe t p) h1) fun D σ H ⟨B, F, ρ, s, k, h⟩ => ?_
  refine ⟨baseAt F ρ H s σ, F, ρ, s, k.rebase, ?_⟩
  unfold Run sTry at h
  unfold Run
  cases o : mb s with
  | fail => rw [o] at h; exact h.elim
  | ok r s1 =>
    rw [o] at h
    have h : BEnd X.K B F H D r s1 := h
    intro F1 ρ1 H1 σ1 sx k1
    have z := h F1 ρ1 H1 σ1 sx (k.unbase k1)
    cases r with
    | next => exact z
    | brk => exact z
    | cont => exact z
    | ret w => exact fun v rv => z v (ROk.unbase k rv)
  | err x s1 =>
    rw [o] at h
    intro F1 ρ1 H1 σ1 cls d k1 xo
    exact h2 (k.unbase k1) (k.sx_base k1) xo h
end
end Z
/-! Z, part 21: own classes of errors: raise C(e), e.f, isinstance(e, C). -/
namespace Z
open PySem PySem.Spec PyProof.Rows L2

/-! ### the error that a value is -/
def decE : D → Option Exc
  | .dict [(.str n, .none)] => some ⟨n, none⟩
  | .dict [(.str n, .tuple [.str f, d])] => some ⟨n, some (f, d)⟩
  | _ => none
def excS : W → Option Exc
  | .exc x => some x
  | .val d => decE d
  | _ => none
def excOf (w : W) (s : S) : Option Exc := match w with
  | .peek i => (match s.env[i]? with
    | some (some w) => excS w
    | _ => none)
  | w => excS w
def lookE (w : W) : M Exc := fun s => match excOf w s with
  | some x => .ok x s
  | none => .fail
section
variable {K : PySem.W.Frag} {B : Base} {F : Fz} {ρ : List Addr} {s : S} {σ : Sg} {H : Hp} {v : V} {w : W} {x : Exc}
theorem decE_ok {d : D} (h : Rp K F H v d) (e : decE d = some x) : ExV K F H v x := by
  unfold decE at e
  split at e
  · cases e
    cases h with
    | er0 q => exact ⟨_, _, rfl, q, rfl⟩
  · cases e
    cases h with
    | er1 q r t => exact ⟨_, _, rfl, q, _, _, rfl, r, t⟩
  · cases e
theorem excOf_ok (k : Ok K B F ρ s σ H) (o : WOk K B F ρ s σ H v w) (e : excOf w s = some x) : ExV K F H v x := by
  cases w with
  | exc y => cases e; exact o
  | peek i =>
    have e' : (match s.env[i]? with
      | some (some w) => excS w
      | _ => none) = some x := e
    have o' : σ[i]? = some (some v) := o
    split at e'
    · rename_i y q
      obtain ⟨u, e1, e2⟩ := k.env i _ q
      rw [o'] at e1; cases e1
      cases y with
      | exc y => cases e'; exact e2
      | val d => exact decE_ok e2 e'
      | _ => cases e'
    · cases e'
  | val d => exact decE_ok o e
  | own ds => cases e
  | ref n => cases e
  | scr ns => cases e
  | fn y => cases e
theorem Run.lookE {β : Type} {k : Exc → M β} {ok : β → S → Prop} {er : Exc → S → Prop} (h : Run (Z.lookE w >>= k) s ok er) : ∃ x, excOf w s = some x ∧ Run (k x) s ok er := by
  have h' := Run.bind h
  unfold Run Z.lookE at h'
  cases e : excOf w s with
  | none => rw [e] at h'; exact h'.elim
  | some x => rw [e] at h'; exact ⟨x, rfl, h'⟩
end
section
variable {X : Cx} {pins : List (Addr × Obj)} {σ : Sg} {H : Hp} {s : Shared} {a C : Addr} {d : Option Addr}
/-- an error with a dict, in the heap -/
theorem inst_d {b : Addr} {fs : List (Str × V)} (I : Inv X pins σ H s) (ha : H a = some (exT a (.ref C) (some b))) (hb : H b = some (.xd fs)) :
    ∃ (oe od : Obj) (mA : Str → Option Value), PySem.W.InstAt s.heap a oe C (some od) ∧ (∀ n, PySem.W.lookIn n od = some (mA n)) ∧ ∀ n, RelO (fs.lookup n) (mA n) := by
  obtain ⟨⟨oe, vs, he, hz, hd⟩, _⟩ := I.hok a _ ha
  obtain ⟨mA, hns, hr⟩ := I.hok b _ hb
  obtain ⟨od, ho, hl⟩ := lookIn_ns hns
  exact ⟨oe, od, mA, ⟨he, hz.1, by unfold PySem.W.notCls; rw [hd] <;> rfl, by rw [hz.2]; exact ho⟩, hl, hr⟩
theorem inst_n (I : Inv X pins σ H s) (ha : H a = some (exT a (.ref C) none)) : ∃ oe, PySem.W.InstAt s.heap a oe C none := by
  obtain ⟨⟨oe, vs, he, hz, hd⟩, _⟩ := I.hok a _ ha
  refine ⟨oe, ?_⟩
  obtain ⟨oc, od, oda, osl⟩ := oe
  obtain ⟨h1, h2⟩ := hz
  dsimp only at h1 h2 hd
  subst h1 h2 hd
  exact ⟨he, rfl, rfl, trivial⟩
/-- e.f -/
theorem pe_exf {e : Expr} {te : TE} {pos : Pos} {n : Str} (he : PE X e te) (hb : attributeBase e n X.env (eval e X.env) = eval e X.env := by rfl) :
    PE X (.Attribute e n pos) (fun σ H Q => te σ H fun x H1 => ∃ a C b fs v, x = .ref a ∧ XfC X.K C ∧ PySem.W.findIn X.K (.ref C) n = some none ∧ H1 a = some (exT a (.ref C) (some b)) ∧ H1 b = some (.xd fs) ∧ fs.lookup n = some v ∧ Q v H1) := by
  refine ⟨fun pins s σ H Q I h => attr_of hb (thn (he.run pins s σ H _ I h) fun u s1 hh => ?_)⟩
  obtain ⟨x, H1, I1, rx, a, C, b, fs, v, rfl, T, hno, ha, hb2, l, q⟩ := hh
  obtain rfl : u = Value.ref a := rx
  obtain ⟨oe, od, mA, J, hl, hr⟩ := inst_d I1 ha hb2
  obtain ⟨u, hu, ru⟩ := RelO.some_of (v := v) (o := mA n) (by rw [← l]; exact hr n)
  exact HandSPX.exc_get I1.kIn J T.ga T.gg T.exC (PySem.W.findObj_own T.hdC hno rfl (by rw [hl, hu])) (handed_of ru) ⟨v, H1, I1.tok _, ru, q⟩
/-- isinstance(e, c) -/
def rIsV (K : PySem.W.Frag) : List V → Hp → VK → Prop := fun xs H Q => ∃ (a C : Addr) (d : Option Addr) (c : V) (cv : Value) (b : Bool), xs = [.ref a, c] ∧ ExcC K C ∧ H a = some (exT a (.ref C) d) ∧ (d = none ∨ ∃ b fs, d = some b ∧ H b = some (.xd fs)) ∧
  (∀ u, RelV c u → u = cv) ∧ PySem.W.kitOne K (.ref C) cv = some b ∧ Q (.bl b) H
theorem call_isV : CallR X (.builtin "isinstance") (rIsV X.K) := by
  intro pins s σ H xs us Q I r h
  obtain ⟨a, C, d, c, cv, b, rfl, T, ha, hd, hcv, e, q⟩ := h
  cases r with
  | cons rx rr =>
    cases rr with
    | cons rt rr =>
      cases rr
      cases rx
      have ec := hcv _ rt
      subst ec
      have hcl : (PySem.W.clsIn X.K C).isSome = true := by
        obtain ⟨cd, hc, _⟩ := PySem.W.any_some T.hd
        rw [hc]; rfl
      rcases hd with rfl | ⟨bd, fs, rfl, hb⟩
      · obtain ⟨oe, J⟩ := inst_n I ha
        exact PySem.W.kia_one (PySem.W.kitx_exc hcl T.hg T.hk T.hs T.ha T.hn T.ht T.hm) I.kIn J e (fun z => nomatch z) fun tk => ⟨.bl b, H, I.kept (t' := tk) fun _ _ z => z, rfl, q⟩
      · obtain ⟨oe, od, mA, J, _, _⟩ := inst_d I ha hb
        exact PySem.W.kia_one (PySem.W.kitx_exc hcl T.hg T.hk T.hs T.ha T.hn T.ht T.hm) I.kIn J e (fun z => nomatch z) fun tk => ⟨.bl b, H, I.kept (t' := tk) fun _ _ z => z, rfl, q⟩
end
/-! ### in the layer -/
def eXf (cs : List Str) (f : Str) (m : M W) : M W := m >>= fun w => lookE w >>= fun x => ofO (if x.name ∈ cs then (match x.arg with
  | some (g, d) => if g = f then some (.val d) else none
  | none => none) else none)
def eIsE (tab : List (Str × Bool)) (m : M W) : M W := m >>= fun w => lookE w >>= fun x => ofO ((tab.lookup x.name).map fun b => .val (.bool b))
def XfT (K : PySem.W.Frag) (cs : List Str) (f : Str) : Prop := ∀ y ∈ cs, XfC K (He.ga K y) ∧ PySem.W.findIn K (.ref (He.ga K y)) f = some none
def IsT (K : PySem.W.Frag) (tab : List (Str × Bool)) (cv : Value) : Prop := ∀ y b, tab.lookup y = some b → ExcC K (He.ga K y) ∧ PySem.W.kitOne K (.ref (He.ga K y)) cv = some b
section
variable {X : Cx} {Wx : WX} {pos p p2 : Pos} {e : Expr} {m : M W} {cs : List Str} {f : Str} {tab : List (Str × Bool)}
theorem i_xf (T : XfT X.K cs f) (he : DE X Wx e m) (hb : attributeBase e f X.env (eval e X.env) = eval e X.env := by rfl) : DE X Wx (.Attribute e f pos) (eXf cs f m) :=
  pe_mono (pe_exf he hb) fun σ H Q h => em_un (P := fun x H1 => ∃ a C b fs v, x = .ref a ∧ XfC X.K C ∧ PySem.W.findIn X.K (.ref C) f = some none ∧ H1 a = some (exT a (.ref C) (some b)) ∧ H1 b = some (.xd fs) ∧ fs.lookup f = some v ∧ Q v H1) (fun {B F ρ s H _ _} k o h => by
    obtain ⟨x, e1, h1⟩ := Run.lookE h
    obtain ⟨w, e2, post⟩ := Run.ofO h1
    clear h h1
    obtain ⟨a, d, rfl, ha, xa⟩ := excOf_ok k o e1
    split at e2
    · rename_i hm
      obtain ⟨T1, T2⟩ := T _ hm
      unfold ExArg at xa
      cases q : x.arg with
      | none => rw [q] at e2; cases e2
      | some p =>
        obtain ⟨g, dd⟩ := p
        rw [q] at e2 xa
        obtain ⟨b, v, rfl, hb2, r⟩ := xa
        have e3 : (if g = f then some (W.val dd) else none) = some w := e2
        by_cases hg : g = f
        · rw [if_pos hg] at e3
          cases e3
          subst hg
          exact ⟨a, _, b, _, v, rfl, T1, T2, ha, hb2, by simp [List.lookup], post.val k r⟩
        · rw [if_neg hg] at e3; cases e3
    · cases e2) h
/-- what is known of an error before isinstance is asked -/
theorem exv_parts {K : PySem.W.Frag} {F : Fz} {H : Hp} {v : V} {x : Exc} (h : ExV K F H v x) : ∃ a d, v = .ref a ∧ H a = some (exT a (.ref (He.ga K x.name)) d) ∧ (d = none ∨ ∃ b fs, d = some b ∧ H b = some (.xd fs)) := by
  obtain ⟨a, d, rfl, ha, xa⟩ := h
  refine ⟨a, d, rfl, ha, ?_⟩
  unfold ExArg at xa
  cases q : x.arg with
  | none => rw [q] at xa; exact .inl xa
  | some p =>
    rw [q] at xa
    obtain ⟨b, v, e, hb, _⟩ := xa
    exact .inr ⟨b, _, e, hb⟩
theorem isE_step {c : V} {cv : Value} {σ : Sg} {H : Hp} {Q : VK} (T : IsT X.K tab cv) (hc : ∀ u, RelV c u → u = cv) (h : EM X.K X.mg Wx (eIsE tab m) σ H Q) : EM X.K X.mg Wx m σ H fun x H1 => rIsV X.K [x, c] H1 Q :=
  em_un (P := fun x H1 => rIsV X.K [x, c] H1 Q) (fun {B F ρ s H _ _} k o h => by
    obtain ⟨x, e1, h⟩ := Run.lookE h
    obtain ⟨w, e2, h⟩ := Run.ofO h
    obtain ⟨a, d, rfl, ha, xa⟩ := exv_parts (excOf_ok k o e1)
    cases q : tab.lookup x.name with
    | none => rw [q] at e2; cases e2
    | some b =>
      rw [q] at e2
      cases e2
      obtain ⟨T1, T2⟩ := T _ _ q
      exact ⟨a, _, d, c, cv, b, rfl, T1, ha, xa, hc, T2, h.val k (.bl b)⟩) h
/-- of an own class -/
theorem i_isE {y : Str} {C : Addr} (hm : X.mg "isinstance" = none) (hy : X.mg y = some (.ref C)) (T : IsT X.K tab (.ref C)) (he : DE X Wx e m) (hg : Gl X "isinstance" := by rfl) (hg2 : Gl X y := by rfl) (hdb2 : (y == ("__debug__" : Str)) = false := by decide)
    (hs : starEach [e, .Name y p2] X.env = (false, eval e X.env) :: starEach [.Name y p2] X.env := by rfl) (hs2 : starEach [.Name y p2] X.env = (false, eval (.Name y p2) X.env) :: starEach [] X.env := by rfl) (hpl : (backTo pos (starEach [.Name y p2] X.env)).any (·.1) = false := by rfl) :
    DE X Wx (.Call (.Name "isinstance" p) [e, .Name y p2] [] pos) (eIsE tab m) :=
  pe_mono (pe_callB call_isV hg hm (by decide +kernel) (pa_cons he (pa_cons (pe_glob (v := .ref C) hg2 hy rfl hdb2) pa_nil hs2) hs) (by decide) (by decide) hs hpl) fun σ H Q h => isE_step T (fun u r => r) h
/-- of a built-in class -/
theorem i_isB {y : Str} {T' : String} (hm : X.mg "isinstance" = none) (hm2 : X.mg y = none) (T : IsT X.K tab (.type T')) (he : DE X Wx e m) (hv2 : bootBuiltins y = some (.type T') := by decide +kernel) (hg : Gl X "isinstance" := by rfl) (hg2 : Gl X y := by rfl) (hn2 : y ≠ "__name__" := by decide) (hdb2 : (y == ("__debug__" : Str)) = false := by decide)
    (hs : starEach [e, .Name y p2] X.env = (false, eval e X.env) :: starEach [.Name y p2] X.env := by rfl) (hs2 : starEach [.Name y p2] X.env = (false, eval (.Name y p2) X.env) :: starEach [] X.env := by rfl) (hpl : (backTo pos (starEach [.Name y p2] X.env)).any (·.1) = false := by rfl) :
    DE X Wx (.Call (.Name "isinstance" p) [e, .Name y p2] [] pos) (eIsE tab m) :=
  pe_mono (pe_callB call_isV hg hm (by decide +kernel) (pa_cons he (pa_cons (pe_bltn (v := .ty T') hg2 hm2 hv2 rfl hn2 hdb2) pa_nil hs2) hs) (by decide) (by decide) hs hpl) fun σ H Q h => isE_step T (fun u r => r) h
end
end Z
/-! Z, part 22: raise C(e), C an own class of errors whose __init__ keeps e in a field; the facts of such classes. -/
namespace Z
open PySem PySem.Spec PyProof.Rows L2

/-! ### __init__(self, y): self.f = y -/
def spInit (K : PySem.W.Frag) (f : Str) : Sp := fun vs H Q _ => ∃ (a C : Addr) (v : V), vs = [.ref a, v] ∧ OexC K C ∧ PySem.W.findIn K (.ref C) f = some none ∧ H a = some (exo a C none) ∧
  ∀ dx, H dx = none → dx ≠ a → Q .non (upd (upd H dx (exd dx [(f, v)])) a (exo a C (some dx)))
theorem init_ok {P : Program} {w : World} {K : PySem.W.Frag} {mg : Str → Option Value} {base : Heap} {CX : CXT} {qual f y : Str} {params : Arguments} {p1 p2 p3 p4 : Pos} {scope : Scope} {fI : Addr} {fd : FuncData} {k : Nat}
    (G : FunD K "__init__" qual params [.Assign [.Attribute (.Name "self" p1) f p2] (.Name y p3) p4] scope [] [] fI fd) (Sc : FnScope ["self", y] ["self", y] scope) (hy : (y == ("__debug__" : Str)) = false) (hy2 : (y == ("__classdict__" : Str)) = false)
    (v0 : Vis scope "self") (v1 : Vis scope y) : FnOk P w K mg base CX (k + 1) fI fd ["self", y] (spInit K f) :=
  G.ok Sc (fun vs H Q E h => by obtain ⟨a, C, v, rfl, _⟩ := h; rfl) fun cdv A outer s H vs Q E hr h =>
    ⟨tOst K f (tVar 0) (tVar 1), pss_one (ps_ost (pv 0 rfl v0 (by decide) (by decide)) (pv 1 rfl v1 hy hy2) (by rfl)), by
      obtain ⟨a, C, v, rfl, T, hno, ha, q⟩ := h
      exact ⟨v, rfl, .ref a, rfl, a, C, rfl, T, hno, .inl ⟨ha, fun dx n ne => q dx n ne⟩⟩⟩
/-! ### raise C(e) -/
def sRaise (x f : Str) (ma : M (List W)) : M SR := ma >>= fun ws => match ws with
  | [.val d] => fun s => .err ⟨x, some (f, d)⟩ s
  | _ => M.fail
/-- what is known of an own class of errors with one field -/
structure ErrF (P : Program) (w : World) (K : PySem.W.Frag) (mg : Str → Option Value) (base : Heap) (x f : Str) (k : Nat) : Prop where
  ex : ∃ (fI : Addr) (fd : FuncData) (y : Str), mg x = some (.ref (He.ga K x)) ∧ OexC K (He.ga K x) ∧ PySem.W.findIn K (.ref (He.ga K x)) f = some none ∧ PySem.W.findIn K (.ref (He.ga K x)) "__init__" = some (some (.ref fI)) ∧
    PySem.W.typeIn K (.ref fI) = some (.type "function") ∧ FnOk P w K mg base (L2.CX P w) k fI fd ["self", y] (spInit K f) ∧ Binds K fd ["self", y] []
section
variable {X : Cx} {Wx : WX} {p pos pos2 : Pos} {e : Expr} {ma : M (List W)} {x f : Str} {k : Nat}
theorem passes_none : Passes (L2.CX X.prog X.w) X (fun _ _ _ => False) := fun _ _ _ _ _ _ _ c => by
  obtain ⟨_, _, _, _, _, _, _, _, _, _, _, _, z⟩ := c
  exact z.elim
theorem del_upd2 {H : Hp} {a dx : Addr} {o1 o2 o3 o4 : HO} (ha : H a = none) (hne : dx ≠ a) : upd (del (upd (upd (upd H a o1) dx o2) a o3) a) dx o4 = upd H dx o4 := by
  funext b
  by_cases hb : b = dx
  · rw [hb, upd_same, upd_same]
  · rw [upd_ne hb, upd_ne hb]
    by_cases hc : b = a
    · rw [hc, del_same, ha]
    · rw [del_ne hc, upd_ne hc, upd_ne hb, upd_ne hc]
theorem s_raise (T : ErrF X.prog X.w X.K X.mg X.base x f k) (hr : Room (k + 1) X.A) (tk : Takes X Wx) (ha : DA X Wx [e] ma) (hc : X.calm = true := by rfl) (hg : Gl X x := by rfl) (hdb : (x == ("__debug__" : Str)) = false := by decide)
    (he : starEach [e] X.env = (false, eval e X.env) :: starEach [] X.env := by rfl) (hpl : (backTo pos (starEach [] X.env)).any (·.1) = false := by rfl) :
    DS X Wx (.Raise (some (.Call (.Name x p) [e] [] pos)) none pos2) (sRaise x f ma) := by
  obtain ⟨fI, fd, y, hm, T1, hno, hI, tI, G, hb⟩ := T.ex
  refine ps_mono (ps_raise hc tk (pmk_oex (dvs := []) T1 hI tI G hr hb .nil passes_none hg hm ha hdb he hpl)) fun D σ H ⟨B, F, ρ, s, kk, h⟩ => ?_
  refine ⟨B, F, ρ, s, kk, (Run.bind h).mono (fun ws s1 _ h1 F1 ρ1 H1 vs e1 k1 o1 => ?_) fun x s1 _ z F' ρ' H' cls d k' xo => z F' ρ' H' σ cls d k' xo⟩
  cases o1 with
  | nil => exact h1.elim
  | @cons v vs w ws ow o2 =>
    cases o2 with
    | cons _ _ => cases w <;> exact h1.elim
    | nil =>
      cases w with
      | val d =>
        refine ⟨(by decide : 1 ≤ 1000), fun a na => ⟨a, He.ga X.K x, v, rfl, T1, hno, upd_same, fun dx hdx hne => ⟨rfl, dx, [(f, v)], upd_same, by rw [upd_ne hne]; exact upd_same, ?_, ?_⟩⟩⟩
        · rw [upd_ne hne] at hdx; exact hdx
        · rw [upd_ne hne] at hdx
          rw [del_upd2 na hne]
          have h2 : BEr X.K X.mg Wx B ⟨x, some (f, d)⟩ s1 := h1
          exact h2 F1 ρ1 _ σ (.ref (He.ga X.K x)) (some dx) (k1.new hdx) ⟨_, hm, rfl, dx, v, rfl, upd_same, Rp.st ow (stay_upd hdx) fun _ z => z⟩
      | _ => exact h1.elim
end
/-! ### facts -/
def exlB (K : PySem.W.Frag) (C : Addr) : Bool := match K.lookup C with
  | some ⟨.type "type", _, .cls cd, sl⟩ => (match cd.mro, sl.toList with
    | .ref C' :: bm, [_, _, _, _, some (.builtin n), _] => C' == C && n == "ValueError.__new__" && !cd.hasDel && cd.hasDict && PySem.HandSPX.refsVE bm
    | _, _ => false)
  | _ => false
theorem exl_ok {K : PySem.W.Frag} {C : Addr} (h : exlB K C = true) : ∃ nm q N bs bm sn sub ab col dd k0 k1 k2 k3 k5, K.lookup C = some (excClassObj nm q C N bs bm true sn sub ab col dd k0 k1 k2 k3 k5 "ValueError.__new__") ∧ PySem.HandSPX.refsVE bm = true := by
  unfold exlB at h
  split at h
  · rename_i dd cd sl ho
    split at h
    · rename_i C' bm k0 k1 k2 k3 n k5 hm hs
      simp only [Bool.and_eq_true, beq_iff_eq, Bool.not_eq_true'] at h
      obtain ⟨⟨⟨⟨e1, e2⟩, e3⟩, e4⟩, e5⟩ := h
      obtain ⟨l⟩ := sl
      have hs' : l = [k0, k1, k2, k3, some (.builtin n), k5] := hs
      obtain ⟨nm, bs, mro, ns, qn, hd, sn, sub, ab, col, hdel⟩ := cd
      dsimp only at hm e3 e4
      subst hs' hm e1 e2 e3 e4
      exact ⟨_, _, _, _, bm, _, _, _, _, _, _, _, _, _, _, ho, e5⟩
    · cases h
  · cases h
/-- a class of errors: what must be known of it -/
def errB (K : PySem.W.Frag) (C : Addr) : Bool := exlB K C && (PySem.W.keepIn K (.ref C) && (PySem.W.hasDictIn K C && (He.eqO (PySem.W.findIn K (.ref C) "__setattr__") (some (some (.builtin "object.__setattr__"))) &&
  (He.eqO (PySem.W.findIn K (.ref C) "__getattribute__") (some (some (.builtin "BaseException.__getattribute__"))) && (He.eqO (PySem.W.findIn K (.ref C) "__getattr__") (some none) &&
  (He.eqO (PySem.W.findIn K (.ref C) "__class__") (some (some (.builtin "object.__class__"))) && (decide (PySem.W.subIn K (.ref C) (.type "BaseException") = some true) && (decide (PySem.W.typeIn K (.ref C) = some (.type "type")) &&
  (decide (PySem.W.mroIn K C (.type "object") = some true) && (He.eqO (PySem.W.specialIn K (.builtin "object.__class__") "__get__") (some (some (.builtin "getset_descriptor.__get__"))) && decide (PySem.W.takesIn K (.builtin "object.__class__") = some true)))))))))))
structure ErrC (K : PySem.W.Frag) (C : Addr) : Prop where
  oex : OexC K C
  xf : XfC K C
  is : ExcC K C
theorem errB_ok {K : PySem.W.Frag} {C : Addr} (h : errB K C = true) : ErrC K C := by
  obtain ⟨a1, h⟩ := He.ba h
  obtain ⟨a2, h⟩ := He.ba h
  obtain ⟨a3, h⟩ := He.ba h
  obtain ⟨a4, h⟩ := He.ba h
  obtain ⟨a5, h⟩ := He.ba h
  obtain ⟨a6, h⟩ := He.ba h
  obtain ⟨a7, h⟩ := He.ba h
  obtain ⟨a8, h⟩ := He.ba h
  obtain ⟨a9, h⟩ := He.ba h
  obtain ⟨a10, h⟩ := He.ba h
  obtain ⟨a11, a12⟩ := He.ba h
  exact ⟨⟨exl_ok a1, He.eqO_ok a4, of_decide_eq_true a8, of_decide_eq_true a9, a2⟩, ⟨He.eqO_ok a5, He.eqO_ok a6, of_decide_eq_true a8, a3⟩,
    ⟨He.eqO_ok a5, He.eqO_ok a6, of_decide_eq_true a8, a3, He.eqO_ok a7, He.eqO_ok a11, of_decide_eq_true a12, of_decide_eq_true a10⟩⟩
end Z
/-! Z, part 23: the facts of classes of errors, by tables; the empty dict. -/
namespace Z
open PySem PySem.Spec PyProof.Rows L2

def tabB (tab : List (Str × Bool)) (z : Str) (K : PySem.W.Frag) : Bool := tab.all fun q => decide (PySem.W.exmOne K (.ref (He.ga K q.1)) (.ref (He.ga K z)) = some q.2)
def isOB (tab : List (Str × Bool)) (z : Str) (K : PySem.W.Frag) : Bool := tab.all fun q => errB K (He.ga K q.1) && decide (PySem.W.kitOne K (.ref (He.ga K q.1)) (.ref (He.ga K z)) = some q.2)
def isBB (tab : List (Str × Bool)) (t : String) (K : PySem.W.Frag) : Bool := tab.all fun q => errB K (He.ga K q.1) && decide (PySem.W.kitOne K (.ref (He.ga K q.1)) (.type t) = some q.2)
def xfTB (cs : List Str) (f : Str) (K : PySem.W.Frag) : Bool := cs.all fun y => errB K (He.ga K y) && He.eqO (PySem.W.findIn K (.ref (He.ga K y)) f) (some none)
def AllGlo (K : PySem.W.Frag) (mg : Str → Option Value) : List (Str × Bool) → Prop
  | [] => True
  | q :: qs => mg q.1 = some (.ref (He.ga K q.1)) ∧ AllGlo K mg qs
section
variable {K : PySem.W.Frag} {mg : Str → Option Value} {tab : List (Str × Bool)} {z f : Str} {t : String} {cs : List Str}
theorem lookup_mem' {y : Str} {b : Bool} : ∀ {tab : List (Str × Bool)}, tab.lookup y = some b → (y, b) ∈ tab
  | [], h => by cases h
  | (u, v) :: tab, h => by
    rw [List.lookup_cons] at h
    by_cases e : y = u
    · subst e
      simp at h
      subst h
      exact List.mem_cons_self ..
    · have e' : (y == u) = false := by simpa using e
      rw [e'] at h
      exact List.mem_cons_of_mem _ (lookup_mem' h)
theorem AllGlo.at_ : ∀ {tab : List (Str × Bool)}, AllGlo K mg tab → ∀ q ∈ tab, mg q.1 = some (.ref (He.ga K q.1))
  | _ :: _, h, q, hq => by
    rcases List.mem_cons.mp hq with rfl | hq
    · exact h.1
    · exact AllGlo.at_ h.2 q hq
theorem tabB_ok (h : tabB tab z K = true) (g : AllGlo K mg tab) : TabE K mg tab (.ref (He.ga K z)) := fun y b C hl hm => by
  have m := lookup_mem' hl
  have e := of_decide_eq_true (List.all_eq_true.mp h _ m)
  have hg := g.at_ _ m
  have hC : C = He.ga K y := Value.ref.inj (Option.some.inj (hm.symm.trans hg))
  subst hC
  exact ⟨e, rfl⟩
theorem isOB_ok (h : isOB tab z K = true) : IsT K tab (.ref (He.ga K z)) := fun y b hl => by
  obtain ⟨a, e⟩ := He.ba (List.all_eq_true.mp h _ (lookup_mem' hl))
  exact ⟨(errB_ok a).is, of_decide_eq_true e⟩
theorem isBB_ok (h : isBB tab t K = true) : IsT K tab (.type t) := fun y b hl => by
  obtain ⟨a, e⟩ := He.ba (List.all_eq_true.mp h _ (lookup_mem' hl))
  exact ⟨(errB_ok a).is, of_decide_eq_true e⟩
theorem xfTB_ok (h : xfTB cs f K = true) : XfT K cs f := fun y hy => by
  obtain ⟨a, e⟩ := He.ba (List.all_eq_true.mp h _ hy)
  exact ⟨(errB_ok a).xf, He.eqO_ok e⟩
end
/-! ### a def within a class -/
def clsDef (s : Stmt) (j : Nat) : Stmt := match s with
  | .ClassDef _ _ _ body _ _ _ _ _ _ _ => body.getD j (.Pass ⟨0, 0, 0, 0⟩)
  | _ => .Pass ⟨0, 0, 0, 0⟩
/-! ### {} -/
def eDct0 : M W := Pure.pure (.val (.dict []))
theorem i_dict0 {X : Cx} {Wx : WX} {pos : Pos} : DE X Wx (.Dict [] [] pos) eDct0 :=
  pe_mono pe_dnewK fun σ H Q ⟨B, F, ρ, s, k, h⟩ p hp => (Run.ret h) F ρ _ (.ref p) (Ext.new_ hp) (k.new hp) (.dct upd_same) trivial
end Z
/-! Z, part 24: a new error as a value: C(e), C(f=e), C(). -/
namespace Z
section
open PySem PySem.HandSPX PySem.Builtin PySem.Builtin.ObjectAttr
variable {prog : Program} {w : World} {A : Around} {E : Value → Shared → Prop} {R : Result → Shared → Prop} {h : Heap} {g : Array GenState} {d : Drawn} {t : Nat} {os : OsState}
variable {nm q : Str} {C N : Addr} {bs bm bmB : List Value} {hdct : Bool} {sn : List Str} {sub : List Value} {ab : Bool} {col : Option Bool} {dd : Option Addr} {k0 k1 k2 k3 k5 : Option Value} {B newId initId : String}
theorem checkNewK {M : Model} (F : ExcBaseFacts B newId initId bmB) (hT : ∀ X : String, bm.contains (.type X) = bmB.contains (.type X)) {rest : List Value} {kw : List (Str × Value)} {Q : Unit → Shared → Prop}
    (hC : h.get? C = some (excClassObj nm q C N bs bm hdct sn sub ab col dd k0 k1 k2 k3 k5 newId)) (hq : Q () ⟨h, g, d, t, os⟩) : wpAny M A (checkBuiltinCall newId ⟨.ref C :: rest, kw⟩) Q E ⟨h, g, d, t, os⟩ := by
  have hcont : (Value.ref C :: bm).contains (.type B) = true := by rw [List.contains_cons, hT, F.hasB, Bool.or_true]
  have hstar := F.noStar
  simp only [checkBuiltinCall, F.newKind, F.newSplit, F.newRow]
  repeat (first | refine wpAny_loadPart_at hC ?_ | (refine wpAny_isSubtype_exc hC ?_; rw [hcont]) | refine wpAny_staticBase_exc hC ?_ | refine wpAny_madeBy_exc hC ?_ | simp only [bne_self_eq_false, Bool.false_eq_true, if_false] | wp_step)
  exact hq
theorem newK (F : ExcBaseFacts B newId initId bmB) (hT : ∀ X : String, bm.contains (.type X) = bmB.contains (.type X)) {rest : List Value} {kw : List (Str × Value)}
    (hC : h.get? C = some (excClassObj nm q C N bs bm hdct sn sub ab col dd k0 k1 k2 k3 k5 newId))
    (hq : R (.ok (.ret (.ref (h.objs.size + 1)))) ⟨(h.push { cls := .type "tuple", data := .seq rest.toArray }).push
      { cls := .ref C, data := .fields #[.ref h.objs.size, .none, .none, .none, .bool false, .none] }, g, d, t, os⟩) (hrest : rest.length ≤ sizeLine) :
    codeAny (model prog w) A (.builtin newId ⟨.ref C :: rest, kw⟩) R ⟨h, g, d, t, os⟩ := by
  have hends := F.ends
  have hcB : (Value.ref C :: bm).contains (.type B) = true := by rw [List.contains_cons, hT, F.hasB, Bool.or_true]
  have hcA : (Value.ref C :: bm).contains (.type "AttributeError") = false := by rw [List.contains_cons, hT, F.noAttr]; rfl
  have hcN : (Value.ref C :: bm).contains (.type "NameError") = false := by rw [List.contains_cons, hT, F.noName]; rfl
  refine codeAny_builtinAt F.entry ?_
  unfold Builtin.«BaseException.__new__»
  refine wpAt_bind ?_
  show wpAt _ _ _ (stack >>= _) _ _ _
  refine wpAt_bind (wpAt_stack fun p below => wpAt_of_wpAny ?_)
  wp_walk
  refine wpAt_of_wpAny ?_
  rw [F.owner]
  repeat (first | with_reducible refine wpAny_madeHere_exc F.canon hC ?_ | with_reducible refine wpAny_loadPart_at hC ?_ | (with_reducible refine wpAny_isSubtype_exc hC ?_; first | rw [hcB] | rw [hcA] | rw [hcN]) | wp_step)
  show R _ _
  rw [Heap.size_push]
  exact hq
theorem typeCallK (F : ExcBaseFacts B newId initId bmB) (hT : ∀ X : String, bm.contains (.type X) = bmB.contains (.type X)) {rest : List Value} {kw : List (Str × Value)} {fI : Addr} {Q : Fin → Shared → Prop}
    (hC : h.get? C = some (excClassObj nm q C N bs bm hdct sn sub ab col dd k0 k1 k2 k3 k5 newId))
    (hi : W.Looks (model prog w) h (typeLookup (.ref C) "__init__") (some (.ref fI))) (hb : ∀ self, W.Looks (model prog w) h (bindSpecial (.ref fI) self) (.ref fI, [self])) (hrest : rest.length ≤ sizeLine)
    (hq : codeAny (model prog w) A (.call (.ref fI) ⟨.ref (h.objs.size + 1) :: rest, kw⟩)
      (fun r s' => match r with | .ok (.ret v) => v = .none ∧ Q (.done (.ret (.ref (h.objs.size + 1)))) s' | .ok _ => False | .error e => E e s')
      ⟨(h.push (W.kdv_tup rest)).push (excO C h.objs.size), g, d, t, os⟩) :
    wpAny (model prog w) A (Builtin.«type.__call__» ⟨.ref C :: rest, kw⟩) Q E ⟨h, g, d, t, os⟩ := by
  repeat (first | with_reducible refine wpAny_loadPart_at hC ?_ | with_reducible refine wpAny_madeBy_exc hC ?_ | wp_step)
  refine codeAny_call_builtin_code (Code.quiet_builtin _ F.quiet) (checkNewK F hT hC ?_)
  refine newK F hT hC ?_ hrest
  show wpAny _ _ _ _ _ _
  have k : ∀ b o, h.get? b = some o → ((h.push (W.kdv_tup rest)).push (excO C h.objs.size)).get? b = some o := fun b o e => Heap.get?_push_of_some _ (Heap.get?_push_of_some _ e)
  have hC₁ := k _ _ hC
  have hget : ((h.push (W.kdv_tup rest)).push (excO C h.objs.size)).get? (h.objs.size + 1) = some (excO C h.objs.size) := by heap_get
  have hcC : (Value.ref C :: bm).contains (.ref C) = true := by simp
  have i1 := hi.keeps k
  have b1 := (hb (.ref (h.objs.size + 1))).keeps k
  unfold isInstance
  repeat (first | with_reducible refine wpAny_loadPart_at hget ?_ | (with_reducible refine wpAny_isSubtype_exc hC₁ ?_; rw [hcC]) | wp_step)
  show wpAny _ _ (typeLookup (.ref C) _) _ _ _
  refine i1.at ?_
  refine wpAny_holding (wpAny_bind (b1.at ?_))
  refine wpAny_bind (wpAny_call (codeAny_mono hq fun r s' z => ?_))
  rcases r with e | (v | _ | _ | _) <;> first | exact z | exact z.elim | skip
  obtain ⟨rfl, z⟩ := z
  first
    | exact wpAny_pure (wpAny_pure z)
    | (wp_walk; exact z)
theorem callK (F : ExcBaseFacts B newId initId bmB) (hT : ∀ X : String, bm.contains (.type X) = bmB.contains (.type X)) {rest : List Value} {kw : List (Str × Value)} {fI : Addr}
    (hC : h.get? C = some (excClassObj nm q C N bs bm hdct sn sub ab col dd k0 k1 k2 k3 k5 newId))
    (hi : W.Looks (model prog w) h (typeLookup (.ref C) "__init__") (some (.ref fI))) (hb : ∀ self, W.Looks (model prog w) h (bindSpecial (.ref fI) self) (.ref fI, [self])) (hrest : rest.length ≤ sizeLine)
    (hq : codeAny (model prog w) (A.under (.builtin "type.__call__" ⟨.ref C :: rest, kw⟩)) (.call (.ref fI) ⟨.ref (h.objs.size + 1) :: rest, kw⟩) (W.InitBack (h.objs.size + 1) R)
      ⟨(h.push (W.kdv_tup rest)).push (excO C h.objs.size), g, d, t, os⟩) :
    codeAny (model prog w) A (.call (.ref C) ⟨rest, kw⟩) R ⟨h, g, d, t, os⟩ := by
  have f1 := tc_lookup
  have f2 := tc_bind (.ref C)
  have hTy : (⟨h, g, d, t, os⟩ : Shared).TypeIs (.ref C) "type" := ⟨_, hC, rfl⟩
  refine codeAny_of_tree ?_
  show wpAny _ _ (callAny (.ref C) _) _ _ _
  repeat (any_goals (first | assumption | with_reducible refine wpAny_loadPart_at hC ?_ | wp_step))
  refine ⟨rfl, ?_⟩
  refine codeAny_call_builtin_at (Code.quiet_builtin _ (by decide +kernel)) entry_typeCall (wpAny_check_type_call_sub hC (typeCallK F hT hC hi hb hrest ?_))
  refine codeAny_mono hq fun r s' z => ?_
  rcases r with e | (v | _ | _ | _) <;> exact z
end
section
open PySem PySem.Spec PyProof.Rows L2
def tExc (C : Addr) (sp : Sp) (args : List V) (H1 : Hp) (Q : VK) : Prop := ∀ a, H1 a = none → sp (.ref a :: args) (upd H1 a (exo a C none))
  (fun v H2 => v = .non ∧ ∃ (d : Addr) (fs : List (Str × V)), H2 a = some (exo a C (some d)) ∧ H2 d = some (exd d fs) ∧ H1 d = none ∧ Q (.ref a) (upd (upd (del H2 a) d (.xd fs)) a (exT a (.ref C) (some d)))) (fun _ _ _ => False)
section
variable {X : Cx} {x : Str} {C fI : Addr} {k n : Nat} {fd : FuncData} {ps ks : List Str} {sp : Sp} {p pos : Pos} {e : Expr} {es : List Expr} {kws : List Keyword} {ta tk : TA} {pins : List (Addr × Obj)} {σ : Sg} {H H1 : Hp} {s s1 : Shared} {Q : VK} {us ws : List Value} {vs zs : List V}
theorem run_exc {CX : CXT} (T : OexC X.K C) (iC : PySem.W.findIn X.K (.ref C) "__init__" = some (some (.ref fI))) (tI : PySem.W.typeIn X.K (.ref fI) = some (.type "function"))
    (F1 : FnOk X.prog X.w X.K X.mg X.base CX k fI fd ps sp) (hr : Room (k + 1) X.A) (hb : KBn X.K fd ps (n + 1) ks (fun us ws => us ++ ws) (fun vs zs => vs ++ zs)) (hx : Passes CX X (fun _ _ _ => False))
    (I1 : Inv X pins σ H1 s1) (r : Vals vs us) (rz : Vals zs ws) (l1 : vs.length = n) (l2 : zs.length = ks.length) (hz : vs.length ≤ 1000) (q1 : tExc C sp (vs ++ zs) H1 Q) :
    wpAny (model X.prog X.w) X.A (call (.ref C) us (ks.zip ws)) (EP X pins σ Q) X.xe s1 := by
  obtain ⟨nm, q, N, bs, bm, sn, sub, ab, col, dd, k0, k1, k2, k3, k5, hC, hbm⟩ := T.cls
  obtain ⟨hp, g, dr, tk, os⟩ := s1
  have hsz : hp.objs.size ≤ hp.objs.size + 1 := Nat.le_succ _
  have hn : H1 (hp.objs.size + 1) = none := I1.hok.fresh hsz
  have hq := q1 (hp.objs.size + 1) hn
  have kk : ∀ b o, hp.get? b = some o → ((hp.push (PySem.W.kdv_tup us)).push (PySem.HandSPX.excO C hp.objs.size)).get? b = some o := fun b o e => Heap.get?_push_of_some _ (Heap.get?_push_of_some _ e)
  have hget : ((hp.push (PySem.W.kdv_tup us)).push (PySem.HandSPX.excO C hp.objs.size)).get? (hp.objs.size + 1) = some (PySem.HandSPX.excO C hp.objs.size) := by heap_get
  have I2 : Inv X pins σ (upd H1 (hp.objs.size + 1) (exo (hp.objs.size + 1) C none)) ⟨(hp.push (PySem.W.kdv_tup us)).push (PySem.HandSPX.excO C hp.objs.size), g, dr, tk, os⟩ :=
    I1.laid (t' := tk) (a := hp.objs.size + 1) (o := exo (hp.objs.size + 1) C none) (h' := (hp.push (PySem.W.kdv_tup us)).push (PySem.HandSPX.excO C hp.objs.size)) kk hsz (exo_ok hget)
  have r1 : Vals (V.ref (hp.objs.size + 1) :: vs) (Value.ref (hp.objs.size + 1) :: us) := .cons rfl r
  have r2 := hb.rel r1 rz
  have e1 : (Value.ref (hp.objs.size + 1) :: us).length = n + 1 := r1.length.symm.trans (congrArg Nat.succ l1)
  have e2 : ws.length = ks.length := rz.length.symm.trans l2
  have hus : us.length ≤ sizeLine := by
    rw [← Paired.length r, sizeLine_eq]
    omega
  refine wpAny_call (callK F.excBase_ValueError (fun Y => PySem.HandSPX.refsVE_contains Y bm hbm) (I1.kIn _ _ hC) (PySem.W.looks_findIn I1.kIn iC) (fun self => PySem.W.bind_fn I1.kIn self tI) hus
    (codeAny_mono (F1.run _ X.stack _ _ ⟨Value.ref (hp.objs.size + 1) :: us, ks.zip ws⟩ ((Value.ref (hp.objs.size + 1) :: us) ++ ws) _ _ (fun _ _ _ => False) (hr.make C us (ks.zip ws)) (I2.env0.make C us (ks.zip ws)) (hb.to _ (Value.ref (hp.objs.size + 1) :: us) ws I2.kIn e1 e2) r2 hq) fun r s' hq' => ?_))
  cases r with
  | error er => exact hx pins σ _ _ er s' I2 hq'
  | ok fl =>
    cases fl with
    | ret u =>
      obtain ⟨v, H2, os2, bare2, un2, hok2, rv, ev, d, fs, ea, ed, hd1, q2⟩ := hq'
      subst ev
      obtain ⟨h2, g2, d2, t2, os'⟩ := s'
      refine ⟨rv, ?_⟩
      obtain ⟨t0, G, J, kG, ge, hoe, na⟩ := mk_end0 (d2 := d2) (t2 := t2) I1 hsz kk un2 hok2 os2 bare2 ea ed hd1
      exact ⟨.ref (hp.objs.size + 1), _, J.laidN (t' := t2) kG ge na (exT_ok hoe ⟨rfl, rfl⟩ rfl), rfl, q2⟩
    | next => exact False.elim hq'
    | brk => exact False.elim hq'
    | cont => exact False.elim hq'
/-- C(e, ..) -/
theorem pe_exc {CX : CXT} (T : OexC X.K C) (iC : PySem.W.findIn X.K (.ref C) "__init__" = some (some (.ref fI))) (tI : PySem.W.typeIn X.K (.ref fI) = some (.type "function"))
    (F1 : FnOk X.prog X.w X.K X.mg X.base CX k fI fd ps sp) (hr : Room (k + 1) X.A) (hb : KBn X.K fd ps (n + 1) [] (fun us ws => us ++ ws) (fun vs zs => vs ++ zs)) (hx : Passes CX X (fun _ _ _ => False)) (hg : Gl X x) (hm : X.mg x = some (.ref C)) (ha : PA X (e :: es) ta)
    (hdb : (x == ("__debug__" : Str)) = false := by decide) (he : starEach (e :: es) X.env = (false, eval e X.env) :: starEach es X.env := by rfl) (hpl : (backTo pos (starEach es X.env)).any (·.1) = false := by rfl) :
    PE X (.Call (.Name x p) (e :: es) [] pos) (fun σ H Q => ta σ H fun vs H1 => vs.length = n ∧ vs.length ≤ 1000 ∧ tExc C sp vs H1 Q) := by
  refine ⟨fun pins s σ H Q I h => ?_⟩
  refine wpAny_Call_Name_kw (ld_glob I hg hm ?_ hdb)
  refine PySem.W.callWith_K (h₀ := X.base) I.ok.mod.kin T.kC (thn (ha.run pos pins s σ H _ I h) fun us s1 ⟨vs, H1, I1, r1, l1, hz, q1⟩ => ⟨I1.kIn, ?_⟩) he hpl
  exact run_exc (zs := []) (ws := []) T iC tI F1 hr hb hx I1 r1 .nil l1 rfl hz (by rw [List.append_nil]; exact q1)
/-- C(y=e) -/
theorem pe_excK {CX : CXT} (T : OexC X.K C) (iC : PySem.W.findIn X.K (.ref C) "__init__" = some (some (.ref fI))) (tI : PySem.W.typeIn X.K (.ref fI) = some (.type "function"))
    (F1 : FnOk X.prog X.w X.K X.mg X.base CX k fI fd ps sp) (hr : Room (k + 1) X.A) (hb : KBn X.K fd ps 1 ks (fun us ws => us ++ ws) (fun vs zs => vs ++ zs)) (hx : Passes CX X (fun _ _ _ => False)) (hg : Gl X x) (hm : X.mg x = some (.ref C)) (hkw : PK X kws tk)
    (hall : (backToKw pos (keywordEach kws X.env)).all (·.1.isSome) = true := by rfl) (hks : (backToKw pos (keywordEach kws X.env)).filterMap (·.1) = ks := by rfl)
    (hdb : (x == ("__debug__" : Str)) = false := by decide) (hpl : ((backTo pos (starEach [] X.env)).any (·.1) || (backToKw pos (keywordEach kws X.env)).any (·.1.isNone)) = false := by rfl) :
    PE X (.Call (.Name x p) [] kws pos) (fun σ H Q => tk σ H fun zs H1 => zs.length = ks.length ∧ tExc C sp zs H1 Q) := by
  refine ⟨fun pins s σ H Q I h => ?_⟩
  refine wpAny_Call_Name_kw (ld_glob I hg hm ?_ hdb)
  refine PySem.W.callWith_KW0 (h₀ := X.base) I.ok.mod.kin T.kC hall ?_ hpl
  refine thn (hkw.run pos pins s σ H _ I h) fun ws s2 ⟨zs, H2, I2, rz, l2, q2⟩ => ⟨I2.kIn, ?_⟩
  rw [hks]
  exact run_exc (us := []) (vs := []) T iC tI F1 hr hb hx I2 .nil rz rfl l2 (by decide) q2
end
theorem funD_app {K : PySem.W.Frag} {x qual : Str} {params : Arguments} {body : List Stmt} {scope : Scope} {f : Addr} {fd : FuncData} {ps ks : List Str} {n : Nat} (F : FunD K x qual params body scope [] [] f fd)
    (h : ∀ (kV doc pm : Value) (an : Option Addr) (cdv ct : Value) (us ws : List Value), us.length = n → ws.length = ks.length → bindArgs (PySem.W.fnOf x qual params body scope .none kV doc pm an cdv ct) ⟨us, ks.zip ws⟩ = pure (ps.zip (us ++ ws))) :
    KBn K fd ps n ks (fun us ws => us ++ ws) (fun vs zs => vs ++ zs) := by
  refine ⟨?_, fun r1 r2 => r1.append r2⟩
  obtain ⟨oc, od, dV, kV, doc, pm, an, cdv, ct, osl, rfl, lk, hcd, hD, hK⟩ := F.ex
  rcases hD with ⟨_, rfl⟩ | ⟨e, _⟩
  · exact fun s us ws _ l1 l2 => .of_eq (h kV doc pm an cdv ct us ws l1 l2)
  · exact absurd rfl e
/-- an error as data -/
def encE (x f : Str) (d : D) : D := .dict [(.str x, .tuple [.str f, d])]
def encE0 (x : Str) : D := .dict [(.str x, .none)]
/-- an own class of errors that keeps y in f -/
structure ErrN (P : Program) (w : World) (K : PySem.W.Frag) (mg : Str → Option Value) (base : Heap) (x f y : Str) (k : Nat) : Prop where
  ex : ∃ (fI : Addr) (fd : FuncData), mg x = some (.ref (He.ga K x)) ∧ OexC K (He.ga K x) ∧ PySem.W.findIn K (.ref (He.ga K x)) f = some none ∧ PySem.W.findIn K (.ref (He.ga K x)) "__init__" = some (some (.ref fI)) ∧
    PySem.W.typeIn K (.ref fI) = some (.type "function") ∧ FnOk P w K mg base (L2.CX P w) k fI fd ["self", y] (spInit K f) ∧
    KBn K fd ["self", y] 2 [] (fun us ws => us ++ ws) (fun vs zs => vs ++ zs) ∧ KBn K fd ["self", y] 1 [y] (fun us ws => us ++ ws) (fun vs zs => vs ++ zs)
def eNewE (x f : Str) (ma : M (List W)) : M W := ma >>= fun ws => match ws with
  | [.val d] => Pure.pure (.val (encE x f d))
  | _ => M.fail
section
variable {X : Cx} {Wx : WX} {p pos : Pos} {e : Expr} {kws : List Keyword} {ma : M (List W)} {x f y : Str} {k : Nat} {B : Base} {F : Fz} {ρ : List Addr} {s : S} {σ : Sg} {H : Hp} {Q : VK} {vs : List V} {ws : List W}
theorem tExc_ok (T1 : OexC X.K (He.ga X.K x)) (hno : PySem.W.findIn X.K (.ref (He.ga X.K x)) f = some none) (k1 : Ok X.K B F ρ s σ H) (o1 : WAll X.K B F ρ s σ H vs ws)
    (h : Run (match ws with | [.val d] => (Pure.pure (.val (encE x f d)) : M W) | _ => M.fail) s (Post X.K B σ s F ρ H Q) (Er X.K X.mg Wx B σ)) : vs.length = 1 ∧ tExc (He.ga X.K x) (spInit X.K f) vs H Q := by
  cases o1 with
  | nil => exact h.elim
  | @cons v vs w ws ow o2 =>
    cases o2 with
    | cons _ _ => cases w <;> exact h.elim
    | nil =>
      cases w with
      | val d =>
        refine ⟨rfl, fun a na => ⟨a, He.ga X.K x, v, rfl, T1, hno, upd_same, fun dx hdx hne => ⟨rfl, dx, [(f, v)], upd_same, by rw [upd_ne hne]; exact upd_same, ?_, ?_⟩⟩⟩
        · rw [upd_ne hne] at hdx; exact hdx
        · rw [upd_ne hne] at hdx
          rw [del_upd2 na hne]
          have na2 : upd H dx (.xd [(f, v)]) a = none := by rw [upd_ne (Ne.symm hne)]; exact na
          have k2 := k1.new (o := .xd [(f, v)]) hdx
          refine (Run.ret h) F ρ _ (.ref a) ((Ext.new_ hdx).trans (Ext.new_ na2) k2.sto) (k2.new na2) ?_ trivial
          refine .er1 (n := x) upd_same (by rw [upd_ne hne]; exact upd_same) ?_
          exact Rp.st (Rp.st ow (stay_upd hdx) fun _ z => z) (stay_upd na2) fun _ z => z
      | _ => exact h.elim
/-- C(e) -/
theorem i_newE (T : ErrN X.prog X.w X.K X.mg X.base x f y k) (hr : Room (k + 1) X.A) (ha : DA X Wx [e] ma) (hg : Gl X x := by rfl) (hdb : (x == ("__debug__" : Str)) = false := by decide)
    (he : starEach [e] X.env = (false, eval e X.env) :: starEach [] X.env := by rfl) (hpl : (backTo pos (starEach [] X.env)).any (·.1) = false := by rfl) :
    DE X Wx (.Call (.Name x p) [e] [] pos) (eNewE x f ma) := by
  obtain ⟨fI, fd, hm, T1, hno, hI, tI, G, hb, _⟩ := T.ex
  refine pe_mono (pe_exc T1 hI tI G hr hb passes_none hg hm ha hdb he hpl) fun σ H Q ⟨B, F, ρ, s, kk, h⟩ => ?_
  refine ⟨B, F, ρ, s, kk, (Run.bind h).mono (fun ws s1 _ h1 F1 ρ1 H1 vs e1 k1 o1 => ?_) fun _ _ _ z => z⟩
  have h2 := h1.mono (ok' := Post X.K B σ s1 F1 ρ1 H1 Q) (er' := Er X.K X.mg Wx B σ) (fun _ _ _ z => z.step e1 k1.sto) fun _ _ _ z => z
  obtain ⟨l, t⟩ := tExc_ok T1 hno k1 o1 h2
  exact ⟨l, by omega, t⟩
/-- C(y=e) -/
theorem i_newEK (T : ErrN X.prog X.w X.K X.mg X.base x f y k) (hr : Room (k + 1) X.A) (hk : DK X Wx kws ma) (hg : Gl X x := by rfl) (hdb : (x == ("__debug__" : Str)) = false := by decide)
    (hall : (backToKw pos (keywordEach kws X.env)).all (·.1.isSome) = true := by rfl) (hks : (backToKw pos (keywordEach kws X.env)).filterMap (·.1) = [y] := by rfl)
    (hpl : ((backTo pos (starEach [] X.env)).any (·.1) || (backToKw pos (keywordEach kws X.env)).any (·.1.isNone)) = false := by rfl) :
    DE X Wx (.Call (.Name x p) [] kws pos) (eNewE x f ma) := by
  obtain ⟨fI, fd, hm, T1, hno, hI, tI, G, _, hb⟩ := T.ex
  refine pe_mono (pe_excK T1 hI tI G hr hb passes_none hg hm hk hall hks hdb hpl) fun σ H Q ⟨B, F, ρ, s, kk, h⟩ => ?_
  refine ⟨B, F, ρ, s, kk, (Run.bind h).mono (fun ws s1 _ h1 F1 ρ1 H1 vs e1 k1 o1 => ?_) fun _ _ _ z => z⟩
  have h2 := h1.mono (ok' := Post X.K B σ s1 F1 ρ1 H1 Q) (er' := Er X.K X.mg Wx B σ) (fun _ _ _ z => z.step e1 k1.sto) fun _ _ _ z => z
  exact tExc_ok T1 hno k1 o1 h2
/-- C() -/
theorem pe_exc0 {C : Addr} (q : PySem.W.excIn X.K C PySem.HandSPX.veTail "ValueError.__new__" = true) (gC : X.mg x = some (.ref C)) (kC : PySem.W.keepIn X.K (.ref C) = true) (hg : Gl X x) (hdb : (x == ("__debug__" : Str)) = false := by decide) :
    PE X (.Call (.Name x p) [] [] pos) (fun σ H Q => ∀ a, H a = none → Q (.ref a) (upd H a (exT a (.ref C) none))) := by
  refine ⟨fun pins s σ H Q I h => ?_⟩
  refine wpAny_Call_Name_kw (ld_glob I hg gC ?_ hdb)
  refine PySem.W.callWith_K0 I.kIn kC ?_
  show wpAny _ _ (call (.ref C) []) _ _ _
  obtain ⟨bm, N, nm, qn, bs, hdct, sn, sub, ab, col, dd, k0, k1, k2, k3, k5, mN, hC, hN, hni, T⟩ := exc_obj I.kIn q
  refine wpAny_call_exc_subT F.excBase_ValueError T hC hN hni (fun h' a hm => ?_) (by show 0 ≤ sizeLine; omega)
  have hn : H a = none := I.hok.gone hm.new
  obtain ⟨t, ht, _, _⟩ := hm.there
  exact ⟨.ref a, upd H a (exT a (.ref C) none), I.laidN hm.keeps hm.new hn (exT_ok ht ⟨rfl, rfl⟩ rfl), rfl, h a hn⟩
structure Err0 (K : PySem.W.Frag) (mg : Str → Option Value) (x : Str) : Prop where
  gl : mg x = some (.ref (He.ga K x))
  is : PySem.W.excIn K (He.ga K x) PySem.HandSPX.veTail "ValueError.__new__" = true
  kp : PySem.W.keepIn K (.ref (He.ga K x)) = true
def eNewE0 (x : Str) : M W := Pure.pure (.val (encE0 x))
theorem i_newE0 (T : Err0 X.K X.mg x) (hg : Gl X x := by rfl) (hdb : (x == ("__debug__" : Str)) = false := by decide) : DE X Wx (.Call (.Name x p) [] [] pos) (eNewE0 x) :=
  pe_mono (pe_exc0 T.is T.gl T.kp hg hdb) fun σ H Q ⟨B, F, ρ, s, k, h⟩ a na => (Run.ret h) F ρ _ (.ref a) (Ext.new_ na) (k.new na) (.er0 (n := x) upd_same) trivial
end
def err0B (z : Str) (K : PySem.W.Frag) : Bool := PySem.W.excIn K (He.ga K z) PySem.HandSPX.veTail "ValueError.__new__" && PySem.W.keepIn K (.ref (He.ga K z))
theorem err0_ok {K : PySem.W.Frag} {mg : Str → Option Value} {z : Str} (g : mg z = some (.ref (He.ga K z))) (h : err0B z K = true) : Err0 K mg z := ⟨g, (He.ba h).1, (He.ba h).2⟩
/-! ### {} == {} -/
theorem hu0 {k : Nat} {A : Around} (r : Room k A) : A.units < cLine := by have := hu64 r; omega
def eqDD (d e : D) : Option Bool := match d, e with
  | .dict [], .dict [] => some true
  | d, e => eqD d e
theorem c_eqD {K : PySem.W.Frag} : CmpR K (fun x y H Q => rEqD K x y H Q ∨ rEqDA x y H Q) eqDD := by
  intro F H x y d1 d2 b Q h1 h2 e q
  unfold eqDD at e
  split at e
  · cases e
    obtain ⟨a, rfl, ha⟩ := h1.dict
    obtain ⟨c, rfl, hc⟩ := h2.dict
    exact .inr ⟨a, c, [], [], rfl, rfl, ha, hc, rfl, (fun p hp => nomatch hp), q⟩
  · exact .inl (c_eq h1 h2 e q)
end
end Z
/-! P, part 0: the mirrors run by simp. -/
namespace Z
open PySem PySem.Spec PyProof.Rows L2

/-- what comes behind, as an instance: it is looked at when the first is known -/
class Kont (α β : Type) where
  go : α → M β
def runK {α β : Type} (o : Out S α) [k : Kont α β] : Out S β := match o with
  | .fail => .fail
  | .err x s' => .err x s'
  | .ok a s' => k.go a s'
@[simp] theorem runK_ok {α β : Type} {a : α} {s : S} {k : α → M β} : runK (Out.ok a s) (k := ⟨k⟩) = k a s := (rfl)
@[simp] theorem runK_err {α β : Type} {x : Exc} {s : S} {k : α → M β} : runK (Out.err x s : Out S α) (k := ⟨k⟩) = .err x s := (rfl)
@[simp] theorem runK_fail {α β : Type} {k : α → M β} : runK (Out.fail : Out S α) (k := ⟨k⟩) = (.fail : Out S β) := (rfl)
@[simp] theorem bind_app {α β : Type} {m : M α} {k : α → M β} {s : S} : (m >>= k) s = runK (m s) (k := ⟨k⟩) := (rfl)
@[simp] theorem pure_app {α : Type} {a : α} {s : S} : (Pure.pure a : M α) s = .ok a s := (rfl)
@[simp] theorem fail_app {α : Type} {s : S} : (M.fail : M α) s = .fail := (rfl)
@[simp] theorem ofO_some {α : Type} {a : α} {s : S} : ofO (some a) s = .ok a s := (rfl)
@[simp] theorem ofO_none {α : Type} {s : S} : (ofO (none : Option α)) s = .fail := (rfl)
@[simp] theorem eC_app {d : D} {s : S} : eC d s = .ok (.val d) s := (rfl)
/-- a slot that holds something -/
def evO (i : Nat) (s : S) : Option (Option W) → Out S W
  | some (some _) => .ok (.peek i) s
  | _ => .fail
@[simp] theorem evO_some {i : Nat} {s : S} {w : W} : evO i s (some (some w)) = .ok (.peek i) s := (rfl)
@[simp] theorem eVar_mk {i : Nat} {env : List (Option W)} {st : Store} : eVar i ⟨env, st⟩ = evO i ⟨env, st⟩ env[i]? := (rfl)
theorem eVar_app {i : Nat} {s : S} {w : W} (h : s.env[i]? = some (some w)) : eVar i s = .ok (.peek i) s := by
  unfold eVar
  rw [h]
/-- contents -/
@[simp] theorem content_val {d : D} {s : S} : content (.val d) s = some d := (rfl)
@[simp] theorem content_own {ds : List D} {s : S} : content (.own ds) s = some (.list ds) := (rfl)
@[simp] theorem content_scr {ns : List Int} {s : S} : content (.scr ns) s = some (.list (ns.map .int)) := (rfl)
@[simp] theorem content_ref {n : Nat} {s : S} : content (.ref n) s = (s.st[n]?).map .list := (rfl)
@[simp] theorem contW_val {d : D} {st : Store} : contW st (.val d) = some d := (rfl)
@[simp] theorem contW_own {ds : List D} {st : Store} : contW st (.own ds) = some (.list ds) := (rfl)
@[simp] theorem contW_scr {ns : List Int} {st : Store} : contW st (.scr ns) = some (.list (ns.map .int)) := (rfl)
@[simp] theorem contW_fn {x : Str} {st : Store} : contW st (.fn x) = none := (rfl)
@[simp] theorem contW_exc {x : Exc} {st : Store} : contW st (.exc x) = none := (rfl)
@[simp] theorem content_fn {x : Str} {s : S} : content (.fn x) s = none := (rfl)
@[simp] theorem content_exc {x : Exc} {s : S} : content (.exc x) s = none := (rfl)
@[simp] theorem contW_ref {n : Nat} {st : Store} : contW st (.ref n) = (st[n]?).map .list := (rfl)
@[simp] theorem content_peek {i : Nat} {env : List (Option W)} {st : Store} : content (.peek i) ⟨env, st⟩ = (env[i]?).bind fun o => o.bind (contW st) := (rfl)
@[simp] theorem isScr_peek {i : Nat} {env : List (Option W)} {st : Store} : isScr (.peek i) ⟨env, st⟩ = ((env[i]?).bind fun o => o.map scrW).getD false := (rfl)
@[simp] theorem isScr_val {d : D} {s : S} : isScr (.val d) s = false := (rfl)
@[simp] theorem isScr_own {d : List D} {s : S} : isScr (.own d) s = false := (rfl)
@[simp] theorem isScr_ref {d : Nat} {s : S} : isScr (.ref d) s = false := (rfl)
@[simp] theorem isScr_scr {d : List Int} {s : S} : isScr (.scr d) s = true := (rfl)
@[simp] theorem scrW_val {d : D} : scrW (.val d) = false := (rfl)
@[simp] theorem scrW_own {d : List D} : scrW (.own d) = false := (rfl)
@[simp] theorem scrW_ref {d : Nat} : scrW (.ref d) = false := (rfl)
@[simp] theorem scrW_scr {d : List Int} : scrW (.scr d) = true := (rfl)
def outO {α : Type} (o : Option α) (s : S) : Out S α := match o with
  | some a => .ok a s
  | none => .fail
@[simp] theorem outO_some {α : Type} {a : α} {s : S} : outO (some a) s = .ok a s := (rfl)
@[simp] theorem outO_none {α : Type} {s : S} : outO (none : Option α) s = .fail := (rfl)
@[simp] theorem look_app {w : W} {s : S} : look w s = outO (content w s) s := by
  unfold look outO
  cases content w s <;> rfl
@[simp] theorem lookT_app {w : W} {s : S} : lookT w s = if isScr w s = true then (match content w s with | some _ => .fail | none => .fail) else outO (content w s) s := by
  unfold lookT outO
  cases content w s with
  | none => simp
  | some d => rfl
@[simp] theorem opBin_app {f : D → D → Option W} {m1 m2 : M W} {s : S} : opBin f m1 m2 s = runK (m1 s) (k := ⟨fun a => m2 >>= fun b => lookT a >>= fun x => lookT b >>= fun y => ofO (f x y)⟩) := (rfl)
@[simp] theorem opCmp_app {f : D → D → Option Bool} {m1 m2 : M W} {s : S} : opCmp f m1 m2 s = runK (m1 s) (k := ⟨fun a => m2 >>= fun b => look a >>= fun x => look b >>= fun y => ofO (f x y)⟩) := (rfl)
@[simp] theorem opCmpV_app {f : D → D → Option Bool} {m1 m2 : M W} {s : S} : opCmpV f m1 m2 s = runK (m1 s) (k := ⟨fun a => m2 >>= fun b => look a >>= fun x => look b >>= fun y => ofO ((f x y).map fun b => .val (.bool b))⟩) := (rfl)
@[simp] theorem opLk_app {f : D → D → Option W} {m1 m2 : M W} {s : S} : opLk f m1 m2 s = runK (m1 s) (k := ⟨fun a => m2 >>= fun b => look a >>= fun x => look b >>= fun y => ofO (f x y)⟩) := (rfl)
@[simp] theorem op1_app {f : D → Option W} {m : M W} {s : S} : op1 f m s = runK (m s) (k := ⟨fun a => look a >>= fun x => ofO (f x)⟩) := (rfl)
@[simp] theorem opChainV_app {f f' : D → D → Option Bool} {m1 m2 m3 : M W} {s : S} : opChainV f f' m1 m2 m3 s = runK (m1 s) (k := ⟨fun a => m2 >>= fun b => look a >>= fun x => look b >>= fun y => ofO (f x y) >>= fun t => if t = true then m3 >>= fun c => look b >>= fun y => look c >>= fun z => ofO ((f' y z).map fun b => .val (.bool b)) else Pure.pure (.val (.bool false))⟩) := (rfl)
@[simp] theorem opChain_app {f f' : D → D → Option Bool} {m1 m2 m3 : M W} {s : S} : opChain f f' m1 m2 m3 s = runK (m1 s) (k := ⟨fun a => m2 >>= fun b => look a >>= fun x => look b >>= fun y => ofO (f x y) >>= fun t => if t = true then m3 >>= fun c => look b >>= fun y => look c >>= fun z => ofO (f' y z) else Pure.pure false⟩) := (rfl)
@[simp] theorem opTruth_app {m : M W} {s : S} : opTruth m s = runK (m s) (k := ⟨fun a => look a >>= fun d => ofO (truthD d)⟩) := (rfl)
@[simp] theorem cAnd_app {m1 m2 : M Bool} {s : S} : cAnd m1 m2 s = runK (m1 s) (k := ⟨fun b => if b = true then m2 else Pure.pure false⟩) := (rfl)
@[simp] theorem cOr_app {m1 m2 : M Bool} {s : S} : cOr m1 m2 s = runK (m1 s) (k := ⟨fun b => if b = true then Pure.pure true else m2⟩) := (rfl)
@[simp] theorem cNot_app {m1 : M Bool} {s : S} : cNot m1 s = runK (m1 s) (k := ⟨fun b => Pure.pure (!b)⟩) := (rfl)
@[simp] theorem eAnd_app {m1 m2 : M W} {s : S} : eAnd m1 m2 s = runK (m1 s) (k := ⟨fun a => look a >>= fun d => ofO (truthD d) >>= fun b => if b = true then m2 else keepW a⟩) := (rfl)
@[simp] theorem eOr_app {m1 m2 : M W} {s : S} : eOr m1 m2 s = runK (m1 s) (k := ⟨fun a => look a >>= fun d => ofO (truthD d) >>= fun b => if b = true then keepW a else m2⟩) := (rfl)
@[simp] theorem eNot_app {m1 : M W} {s : S} : eNot m1 s = runK (m1 s) (k := ⟨fun a => look a >>= fun d => ofO ((truthD d).map fun b => .val (.bool !b))⟩) := (rfl)
@[simp] theorem eIf_app {c : M Bool} {m1 m2 : M W} {s : S} : eIf c m1 m2 s = runK (c s) (k := ⟨fun b => if b = true then m1 else m2⟩) := (rfl)
@[simp] theorem eNeg_app {m1 : M W} {s : S} : eNeg m1 s = runK (m1 s) (k := ⟨fun a => look a >>= fun d => ofO (match d with | .int i => some (.val (.int (-i))) | _ => none)⟩) := (rfl)
@[simp] theorem keepW_val {d : D} : keepW (.val d) = Pure.pure (.val d) := (rfl)
@[simp] theorem keepW_peek {d : Nat} : keepW (.peek d) = Pure.pure (.peek d) := (rfl)
@[simp] theorem keepW_ref {d : Nat} : keepW (.ref d) = Pure.pure (.ref d) := (rfl)
@[simp] theorem keepW_fn {d : Str} : keepW (.fn d) = Pure.pure (.fn d) := (rfl)
@[simp] theorem keepW_exc {d : Exc} : keepW (.exc d) = Pure.pure (.exc d) := (rfl)
@[simp] theorem keepW_scr {d : List Int} : keepW (.scr d) = Pure.pure (.scr d) := (rfl)
@[simp] theorem setEnv_mk {env : List (Option W)} {st : Store} {i : Nat} {o : Option W} : S.setEnv ⟨env, st⟩ i o = ⟨env.set i o, st⟩ := (rfl)
@[simp] theorem escW_val {d : D} {s : S} : escW (.val d) s = .ok (.val d) s := (rfl)
@[simp] theorem escW_own {d : List D} {s : S} : escW (.own d) s = .ok (.val (.list d)) s := (rfl)
@[simp] theorem escW_ref {d : Nat} {s : S} : escW (.ref d) s = .ok (.ref d) s := (rfl)
@[simp] theorem escW_fn {d : Str} {s : S} : escW (.fn d) s = .ok (.fn d) s := (rfl)
@[simp] theorem escW_exc {d : Exc} {s : S} : escW (.exc d) s = .ok (.exc d) s := (rfl)
@[simp] theorem escW_scr {d : List Int} {s : S} : escW (.scr d) s = .ok (.scr d) s := (rfl)
@[simp] theorem escW_peek {i : Nat} {env : List (Option W)} {st : Store} : escW (.peek i) ⟨env, st⟩ = escSlot i ⟨env, st⟩ env[i]? := (rfl)
@[simp] theorem escSlot_val {i : Nat} {s : S} {d : D} : escSlot i s (some (some (.val d))) = .ok (.val d) s := (rfl)
@[simp] theorem escSlot_own {i : Nat} {s : S} {d : List D} : escSlot i s (some (some (.own d))) = .ok (.val (.list d)) (s.setEnv i (some (.val (.list d)))) := (rfl)
@[simp] theorem escSlot_ref {i : Nat} {s : S} {d : Nat} : escSlot i s (some (some (.ref d))) = .ok (.ref d) s := (rfl)
@[simp] theorem escSlot_fn {i : Nat} {s : S} {d : Str} : escSlot i s (some (some (.fn d))) = .ok (.fn d) s := (rfl)
@[simp] theorem escSlot_exc {i : Nat} {s : S} {d : Exc} : escSlot i s (some (some (.exc d))) = .ok (.exc d) s := (rfl)
@[simp] theorem escSlot_scr {i : Nat} {s : S} {d : List Int} : escSlot i s (some (some (.scr d))) = .ok (.scr d) s := (rfl)
@[simp] theorem aNil_app {s : S} : aNil s = .ok [] s := (rfl)
@[simp] theorem aCons_app {m : M W} {r : M (List W)} {s : S} : aCons m r s = runK (m s) (k := ⟨fun a => escW a >>= fun w => r >>= fun ws => Pure.pure (w :: ws)⟩) := (rfl)
@[simp] theorem aStar_app {m : M W} {r : M (List W)} {s : S} : aStar m r s = runK (m s) (k := ⟨fun a => escW a >>= fun w => ofO (itemsD w) >>= fun ds => r >>= fun ws => Pure.pure (valsD ds ++ ws)⟩) := (rfl)
@[simp] theorem allVal_nil : allVal [] = some [] := (rfl)
@[simp] theorem allVal_cons {d : D} {r : List W} : allVal (.val d :: r) = (allVal r).map (d :: ·) := (rfl)
@[simp] theorem allVal_vals {ds : List D} : allVal (valsD ds) = some ds := by
  induction ds with
  | nil => rfl
  | cons d ds ih =>
    show (allVal (valsD ds)).map (d :: ·) = _
    rw [ih]
    rfl
@[simp] theorem allVal_app {ds : List D} {r : List W} : allVal (valsD ds ++ r) = (allVal r).map (ds ++ ·) := by
  induction ds with
  | nil =>
    show allVal r = _
    cases allVal r <;> rfl
  | cons d ds ih =>
    show (allVal (valsD ds ++ r)).map (d :: ·) = _
    rw [ih]
    cases allVal r <;> rfl
@[simp] theorem eTup_app {ma : M (List W)} {s : S} : eTup ma s = runK (ma s) (k := ⟨fun ws => ofO ((allVal ws).bind fun ds => if ds.length ≤ sizeLine then some (.val (.tuple ds)) else none)⟩) := (rfl)
@[simp] theorem eLst_app {ma : M (List W)} {s : S} : eLst ma s = runK (ma s) (k := ⟨fun ws => ofO ((allVal ws).bind fun ds => if ds.length ≤ sizeLine then some (.own ds) else none)⟩) := (rfl)
@[simp] theorem eNew_app {ma : M (List W)} {s : S} : eNew ma s = runK (ma s) (k := ⟨fun ws => ofO ((allVal ws).bind fun ds => if ds.length ≤ sizeLine then some ds else none) >>= fun ds s => .ok (.ref s.st.length) { s with st := s.st ++ [ds] }⟩) := (rfl)
/-- calls -/
def outF (n : Nat) (s : S) (o : Out Store W) : Out S W := match o with
  | .fail => .fail
  | .ok w st => .ok w { s with st := st }
  | .err x st => .err x { s with st := st }
@[simp] theorem outF_ok {n : Nat} {env : List (Option W)} {st st' : Store} {w : W} : outF n ⟨env, st⟩ (.ok w st') = .ok w ⟨env, st'⟩ := (rfl)
@[simp] theorem outF_err {n : Nat} {env : List (Option W)} {st st' : Store} {x : Exc} : outF n ⟨env, st⟩ (.err x st') = .err x ⟨env, st'⟩ := (rfl)
@[simp] theorem eCallS_app {n : Nat} {f : Fn} {ma : M (List W)} {s : S} : eCallS n f ma s = runK (ma s) (k := ⟨fun ws => callS n f ws⟩) := (rfl)
@[simp] theorem callS_app {n : Nat} {f : Fn} {ws : List W} {env : List (Option W)} {st : Store} : callS n f ws ⟨env, st⟩ = if stAll ws = true then (if ws.length = n then outF n ⟨env, st⟩ (f ws st) else .fail) else .fail := by
  unfold callS callF outF
  split
  · rfl
  · rfl
@[simp] theorem stAll_nil : stAll [] = true := (rfl)
@[simp] theorem stAll_cons {w : W} {ws : List W} : stAll (w :: ws) = (stable w && stAll ws) := (rfl)
@[simp] theorem stable_val {d : D} : stable (.val d) = true := (rfl)
@[simp] theorem stable_ref {d : Nat} : stable (.ref d) = true := (rfl)
@[simp] theorem stable_fn {d : Str} : stable (.fn d) = true := (rfl)
@[simp] theorem stable_exc {d : Exc} : stable (.exc d) = true := (rfl)
@[simp] theorem stable_scr {d : List Int} : stable (.scr d) = true := (rfl)
@[simp] theorem eCallK_app {n : Nat} {f : Fn} {np nk : Nat} {is : List Nat} {ma mk : M (List W)} {s : S} : eCallK n f np nk is ma mk s = runK (ma s) (k := ⟨fun ws => mk >>= fun zs => if ws.length = np ∧ zs.length = nk then callS n f (permW is (ws ++ zs)) else M.fail⟩) := (rfl)
@[simp] theorem permW_nil {ws : List W} : permW [] ws = [] := (rfl)
theorem permW_cons {i : Nat} {is : List Nat} {ws : List W} {w : W} (h : ws[i]? = some w) : permW (i :: is) ws = w :: permW is ws := by
  unfold permW
  rw [List.filterMap_cons, h]
/-- the ends of a def -/
def outR (o : Out S SR) : Out Store W := match o with
  | .fail => .fail
  | .ok r s' => (match r with
    | .next => .ok (.val .none) s'.st
    | .ret w => .ok w s'.st
    | _ => .fail)
  | .err x s' => .err x s'.st
theorem fnOf_app {nN : Nat} {mb : M SR} {ws : List W} {st : Store} : fnOf nN mb ws st = outR (mb ⟨ws.map some ++ List.replicate (nN - ws.length) none, st⟩) := (rfl)
@[simp] theorem outR_ret {w : W} {env : List (Option W)} {st : Store} : outR (.ok (.ret w) ⟨env, st⟩) = .ok w st := (rfl)
@[simp] theorem outR_next {env : List (Option W)} {st : Store} : outR (.ok .next ⟨env, st⟩) = .ok (.val .none) st := (rfl)
@[simp] theorem outR_err {x : Exc} {env : List (Option W)} {st : Store} : outR (.err x ⟨env, st⟩) = .err x st := (rfl)
@[simp] theorem seq_app {m1 m2 : M SR} {s : S} : seq m1 m2 s = runK (m1 s) (k := ⟨fun r => match r with | .next => m2 | r => Pure.pure r⟩) := (rfl)
@[simp] theorem sNext_app {s : S} : sNext s = .ok .next s := (rfl)
@[simp] theorem sBrk_app {s : S} : sBrk s = .ok .brk s := (rfl)
@[simp] theorem sCont_app {s : S} : sCont s = .ok .cont s := (rfl)
@[simp] theorem sIf_app {c : M Bool} {m1 m2 : M SR} {s : S} : sIf c m1 m2 s = runK (c s) (k := ⟨fun b => if b = true then m1 else m2⟩) := (rfl)
@[simp] theorem sExpr_app {m : M W} {s : S} : sExpr m s = runK (m s) (k := ⟨fun _ => Pure.pure .next⟩) := (rfl)
@[simp] theorem sRet_app {m : M W} {s : S} : sRet m s = runK (m s) (k := ⟨retW⟩) := (rfl)
@[simp] theorem sRetN_app {s : S} : sRetN s = .ok (.ret (.val .none)) s := (rfl)
@[simp] theorem retW_val {d : D} {s : S} : retW (.val d) s = .ok (.ret (.val d)) s := (rfl)
@[simp] theorem retW_own {d : List D} {s : S} : retW (.own d) s = .ok (.ret (.own d)) s := (rfl)
@[simp] theorem retW_ref {d : Nat} {s : S} : retW (.ref d) s = .ok (.ret (.ref d)) s := (rfl)
@[simp] theorem retW_scr {d : List Int} {s : S} : retW (.scr d) s = .ok (.ret (.scr d)) s := (rfl)
@[simp] theorem retW_peek {i : Nat} {env : List (Option W)} {st : Store} : retW (.peek i) ⟨env, st⟩ = retSlot i ⟨env, st⟩ env[i]? := (rfl)
@[simp] theorem retSlot_val {i : Nat} {s : S} {d : D} : retSlot i s (some (some (.val d))) = .ok (.ret (.val d)) s := (rfl)
@[simp] theorem retSlot_own {i : Nat} {s : S} {d : List D} : retSlot i s (some (some (.own d))) = .ok (.ret (.own d)) (s.setEnv i none) := (rfl)
@[simp] theorem retSlot_ref {i : Nat} {s : S} {d : Nat} : retSlot i s (some (some (.ref d))) = .ok (.ret (.ref d)) s := (rfl)
@[simp] theorem retSlot_scr {i : Nat} {s : S} {d : List Int} : retSlot i s (some (some (.scr d))) = .ok (.ret (.scr d)) s := (rfl)
@[simp] theorem setW_app {i : Nat} {w : W} {env : List (Option W)} {st : Store} : setW i w ⟨env, st⟩ = if i < env.length then .ok () ⟨env.set i (some w), st⟩ else .fail := (rfl)
@[simp] theorem asgW_own {i : Nat} {ds : List D} : asgW i (.own ds) = setW i (.own ds) := (rfl)
@[simp] theorem asgW_val {i : Nat} {d : D} : asgW i (.val d) = (escW (.val d) >>= setW i) := (rfl)
@[simp] theorem asgW_ref {i : Nat} {d : Nat} : asgW i (.ref d) = (escW (.ref d) >>= setW i) := (rfl)
@[simp] theorem asgW_scr {i : Nat} {d : List Int} : asgW i (.scr d) = (escW (.scr d) >>= setW i) := (rfl)
@[simp] theorem asgW_peek {i : Nat} {d : Nat} : asgW i (.peek d) = (escW (.peek d) >>= setW i) := (rfl)
@[simp] theorem sAsg_app {i : Nat} {m : M W} {s : S} : sAsg i m s = runK (m s) (k := ⟨fun w => asgW i w >>= fun _ => Pure.pure .next⟩) := (rfl)
@[simp] theorem tName_app {i : Nat} {d : D} {env : List (Option W)} {st : Store} : tName i d ⟨env, st⟩ = if i < env.length then .ok () ⟨env.set i (some (.val d)), st⟩ else .fail := (rfl)
@[simp] theorem tNilG_nil : tNilG [] = Pure.pure () := (rfl)
@[simp] theorem tConsG_cons {g : D → M Unit} {r : List D → M Unit} {d : D} {ds : List D} : tConsG g r (d :: ds) = (g d >>= fun _ => r ds) := (rfl)
@[simp] theorem tTupG_tup {n : Nat} {r : List D → M Unit} {ds : List D} : tTupG n r (.tuple ds) = if ds.length = n then r ds else M.fail := (rfl)
@[simp] theorem tTupG_list {n : Nat} {r : List D → M Unit} {ds : List D} : tTupG n r (.list ds) = if ds.length = n then r ds else M.fail := (rfl)
@[simp] theorem toVal_val {d : D} {s : S} : toVal (.val d) s = .ok d s := (rfl)
@[simp] theorem toVal_own {d : List D} {s : S} : toVal (.own d) s = .ok (.list d) s := (rfl)
@[simp] theorem toVal_peek {i : Nat} {env : List (Option W)} {st : Store} : toVal (.peek i) ⟨env, st⟩ = runK (escSlot i ⟨env, st⟩ env[i]?) (k := ⟨fun w => match w with | .val d => Pure.pure d | _ => M.fail⟩) := (rfl)
@[simp] theorem sUnp_app {g : D → M Unit} {m : M W} {s : S} : sUnp g m s = runK (m s) (k := ⟨fun w => toVal w >>= fun d => g d >>= fun _ => Pure.pure .next⟩) := (rfl)
@[simp] theorem resW_own {d : List D} : resW (.own d) = Pure.pure (.own d) := (rfl)
@[simp] theorem resW_val {d : D} : resW (.val d) = escW (.val d) := (rfl)
@[simp] theorem resW_peek {d : Nat} : resW (.peek d) = escW (.peek d) := (rfl)
@[simp] theorem resW_ref {d : Nat} : resW (.ref d) = escW (.ref d) := (rfl)
@[simp] theorem hCons_app {m : M W} {r : M (List W)} {s : S} : hCons m r s = runK (m s) (k := ⟨fun a => resW a >>= fun w => r >>= fun ws => Pure.pure (w :: ws)⟩) := (rfl)
@[simp] theorem setAll_nil : setAll [] [] = Pure.pure () := (rfl)
@[simp] theorem setAll_cons {i : Nat} {is : List Nat} {w : W} {ws : List W} : setAll (i :: is) (w :: ws) = (setW i w >>= fun _ => setAll is ws) := (rfl)
@[simp] theorem sPar_app {is : List Nat} {ma : M (List W)} {s : S} : sPar is ma s = runK (ma s) (k := ⟨fun ws => setAll is ws >>= fun _ => Pure.pure .next⟩) := (rfl)
@[simp] theorem modL_ref {α : Type} {n : Nat} {f : List D → Option (List D × α)} {s : S} : modL (.ref n) f s = modSt n f s := (rfl)
@[simp] theorem modL_peek {α : Type} {i : Nat} {f : List D → Option (List D × α)} {env : List (Option W)} {st : Store} : modL (.peek i) f ⟨env, st⟩ = modSlot i f ⟨env, st⟩ env[i]? := (rfl)
@[simp] theorem modSlot_ref {α : Type} {i n : Nat} {f : List D → Option (List D × α)} {s : S} : modSlot i f s (some (some (.ref n))) = modSt n f s := (rfl)
def modOut {α : Type} (i : Nat) (s : S) : Option (List D × α) → Out S α
  | some (ds', b) => .ok b (s.setEnv i (some (.own ds')))
  | none => .fail
@[simp] theorem modOut_some {α : Type} {i : Nat} {s : S} {ds : List D} {b : α} : modOut i s (some (ds, b)) = .ok b (s.setEnv i (some (.own ds))) := (rfl)
@[simp] theorem modSlot_own {α : Type} {i : Nat} {f : List D → Option (List D × α)} {s : S} {ds : List D} : modSlot i f s (some (some (.own ds))) = modOut i s (f ds) := by
  show (match f ds with | some (ds', b) => Out.ok b (s.setEnv i (some (.own ds'))) | none => .fail) = modOut i s (f ds)
  cases f ds <;> rfl
theorem modSt_of {α : Type} {n : Nat} {f : List D → Option (List D × α)} {env : List (Option W)} {st : Store} {ds ds' : List D} {b : α} (h : st[n]? = some ds) (e : f ds = some (ds', b)) : modSt n f ⟨env, st⟩ = .ok b ⟨env, st.set n ds'⟩ := by
  unfold modSt
  show (match (st[n]?).bind f with | some (ds, b) => _ | none => _) = _
  rw [h]
  show (match f ds with | some (ds, b) => _ | none => _) = _
  rw [e]
@[simp] theorem lookL_app {w : W} {s : S} : lookL w s = runK (look w s) (k := ⟨fun d => match d with | .list _ => Pure.pure () | _ => M.fail⟩) := (rfl)
@[simp] theorem eAppend_app {mo me : M W} {s : S} : eAppend mo me s = runK (mo s) (k := ⟨fun w => lookL w >>= fun _ => me >>= fun x => toVal x >>= fun d => modL w (fun ds => if ds.length < sizeLine then some (ds ++ [d], ()) else none) >>= fun _ => Pure.pure (.val .none)⟩) := (rfl)
@[simp] theorem tSubG_app {mo mi : M W} {d : D} {s : S} : tSubG mo mi d s = runK (mo s) (k := ⟨fun w => mi >>= fun x => look x >>= fun k => modL w (fun ds => match k with | .int k => (ixN ds.length k).map fun j => (ds.set j d, ()) | _ => none)⟩) := (rfl)
/-- slices -/
@[simp] theorem pNone_app {s : S} : pNone s = .ok none s := (rfl)
@[simp] theorem pSome_app {m : M W} {s : S} : pSome m s = runK (m s) (k := ⟨fun a => look a >>= fun d => match d with | .int i => Pure.pure (some i) | _ => M.fail⟩) := (rfl)
@[simp] theorem eSl_app {m : M W} {l h : M (Option Int)} {s : S} : eSl m l h s = runK (m s) (k := ⟨fun a => l >>= fun lo => h >>= fun hi => look a >>= fun d => ofO (slD d lo hi)⟩) := (rfl)
/-- sources, loops -/
@[simp] theorem srcV_app {m : M W} {s : S} : srcV m s = runK (m s) (k := ⟨fun w => escW w >>= fun w => ofO (itemsD w)⟩) := (rfl)
@[simp] theorem srcA_app {f : List W → Option (List D)} {ma : M (List W)} {s : S} : srcA f ma s = runK (ma s) (k := ⟨fun ws => ofO (f ws)⟩) := (rfl)
@[simp] theorem itemsD_list {ds : List D} : itemsD (.val (.list ds)) = some ds := (rfl)
@[simp] theorem itemsD_tuple {ds : List D} : itemsD (.val (.tuple ds)) = some ds := (rfl)
@[simp] theorem itemsD_scr {ds : List Int} : itemsD (.scr ds) = some (ds.map .int) := (rfl)
@[simp] theorem sFor_app {src : M (List D)} {g : D → M Unit} {b : M SR} {s : S} : sFor src g b s = runK (src s) (k := ⟨(loopF g b)⟩) := (rfl)
def okO {α : Type} : Out S α → Out S α
  | .ok a s' => .ok a s'
  | _ => .fail
@[simp] theorem okO_ok {α : Type} {s : S} {a : α} : okO (.ok a s) = .ok a s := (rfl)
@[simp] theorem nE_app {α : Type} {m : M α} {s : S} : nE m s = okO (m s) := by
  unfold nE okO
  cases m s <;> rfl
@[simp] theorem wipeM_app {vs : List Nat} {env : List (Option W)} {st : Store} : wipeM vs ⟨env, st⟩ = .ok () ⟨wipeE env vs, st⟩ := (rfl)
@[simp] theorem wipeE_nil {env : List (Option W)} : wipeE env [] = env := (rfl)
@[simp] theorem wipeE_cons {env : List (Option W)} {v : Nat} {vs : List Nat} : wipeE env (v :: vs) = (wipeE env vs).set v none := (rfl)
@[simp] theorem cTrue_app {s : S} : cTrue s = .ok true s := (rfl)
@[simp] theorem wipe_mk {vs : List Nat} {env : List (Option W)} {st : Store} : S.wipe ⟨env, st⟩ vs = ⟨wipeE env vs, st⟩ := (rfl)
@[simp] theorem restE_nil {env o : List (Option W)} : restE env o [] = env := (rfl)
@[simp] theorem restE_cons {env o : List (Option W)} {v : Nat} {vs : List Nat} : restE env o (v :: vs) = (restE env o vs).set v ((o[v]?).getD none) := (rfl)
def notOwn : Option (Option W) → Bool
  | some (some (.own _)) => false
  | _ => true
@[simp] theorem notOwn_none : notOwn (some none) = true := (rfl)
@[simp] theorem notOwn_val {d : D} : notOwn (some (some (.val d))) = true := (rfl)
@[simp] theorem notOwn_ref {d : Nat} : notOwn (some (some (.ref d))) = true := (rfl)
@[simp] theorem notOwn_fn {d : Str} : notOwn (some (some (.fn d))) = true := (rfl)
@[simp] theorem notOwn_exc {d : Exc} : notOwn (some (some (.exc d))) = true := (rfl)
@[simp] theorem notOwn_scr {d : List Int} : notOwn (some (some (.scr d))) = true := (rfl)
@[simp] theorem ownFree_nil {s : S} : ownFree s [] = true := (rfl)
@[simp] theorem ownFree_cons {env : List (Option W)} {st : Store} {v : Nat} {vs : List Nat} : ownFree ⟨env, st⟩ (v :: vs) = (notOwn env[v]? && ownFree ⟨env, st⟩ vs) := by
  unfold ownFree notOwn
  rw [List.all_cons] <;> first | rfl | congr 1
def lcO (old : List (Option W)) (vs : List Nat) : Out S (List D) → Out S W
  | .ok r s' => .ok (.own r) ⟨restE s'.env old vs, s'.st⟩
  | _ => .fail
@[simp] theorem lcO_ok {old env : List (Option W)} {vs : List Nat} {r : List D} {st : Store} : lcO old vs (.ok r ⟨env, st⟩) = .ok (.own r) ⟨restE env old vs, st⟩ := (rfl)
@[simp] theorem lcM_app {vs : List Nat} {body : M (List D)} {env : List (Option W)} {st : Store} : lcM vs body ⟨env, st⟩ = if ownFree ⟨env, st⟩ vs = true then lcO env vs (body ⟨wipeE env vs, st⟩) else .fail := by
  unfold lcM lcO
  split
  · show (match body ⟨wipeE env vs, st⟩ with | .ok r s' => _ | _ => _) = _
    cases body ⟨wipeE env vs, st⟩ <;> rfl
  · rfl
@[simp] theorem eLc_app {vs : List Nat} {src : M (List D)} {g : D → M Unit} {c : M Bool} {e : M W} {s : S} : eLc vs src g c e s = runK (src s) (k := ⟨fun ds => lcM vs (compLoop vs g c e ds [])⟩) := (rfl)
@[simp] theorem eLc2_app {vs vs1 : List Nat} {src src1 : M (List D)} {g g1 : D → M Unit} {c c1 : M Bool} {e : M W} {s : S} : eLc2 vs vs1 src g c src1 g1 c1 e s = runK (src s) (k := ⟨fun ds => lcM vs (compLoop2 vs vs1 g c src1 g1 c1 e ds [])⟩) := (rfl)
theorem bind_inv {α β : Type} {m : M α} {k : α → M β} {s s2 : S} {b : β} (h : (m >>= k) s = .ok b s2) : ∃ a s1, m s = .ok a s1 ∧ k a s1 = .ok b s2 := by
  have h : runK (m s) (k := ⟨k⟩) = .ok b s2 := h
  cases q : m s with
  | fail => rw [q] at h; cases h
  | err x s1 => rw [q] at h; cases h
  | ok a s1 => rw [q] at h; exact ⟨a, s1, rfl, h⟩
theorem bind_of {α β : Type} {m : M α} {k : α → M β} {s s1 : S} {a : α} (h : m s = .ok a s1) : (m >>= k) s = k a s1 := by
  show runK (m s) (k := ⟨k⟩) = _
  rw [h]
  rfl
/-- one turn of a comprehension without a test -/
def turnF (vs : List Nat) (g : D → M Unit) (e : M W) (d : D) : M D := nE (g d) >>= fun _ => nE e >>= fun w => toVal w >>= fun y => wipeM vs >>= fun _ => Pure.pure y
@[simp] theorem turnF_app {vs : List Nat} {g : D → M Unit} {e : M W} {d : D} {s : S} : turnF vs g e d s = runK (okO (g d s)) (k := ⟨fun _ => nE e >>= fun w => toVal w >>= fun y => wipeM vs >>= fun _ => Pure.pure y⟩) := by
  show runK (nE (g d) s) (k := ⟨_⟩) = _
  rw [nE_app]
theorem compLoop_step {vs : List Nat} {g : D → M Unit} {e : M W} {d y : D} {ds acc : List D} {s s' : S} (h : turnF vs g e d s = .ok y s') (hl : acc.length < sizeLine) : compLoop vs g cTrue e (d :: ds) acc s = compLoop vs g cTrue e ds (acc ++ [y]) s' := by
  obtain ⟨_, s1, h1, h⟩ := bind_inv h
  obtain ⟨w, s2, h2, h⟩ := bind_inv h
  obtain ⟨y', s3, h3, h⟩ := bind_inv h
  obtain ⟨_, s4, h4, h⟩ := bind_inv h
  cases h
  show (nE (g d) >>= _) s = _
  rw [bind_of h1]
  show (nE cTrue >>= _) s1 = _
  rw [bind_of (m := nE cTrue) (a := true) (s1 := s1) rfl]
  show (ite (true = true) _ _ : M (List D)) s1 = _
  rw [if_pos rfl, bind_of h2, bind_of h3, if_pos hl, bind_of h4]
theorem compLoop_nil {vs : List Nat} {g : D → M Unit} {c : M Bool} {e : M W} {acc : List D} {s : S} : compLoop vs g c e [] acc s = .ok acc s := rfl
/-- nothing but the list comes of it -/
theorem compLoop_map {vs : List Nat} {g : D → M Unit} {e : M W} {s : S} (f : D → D) : ∀ (ds acc : List D), acc.length + ds.length ≤ sizeLine → (∀ d ∈ ds, turnF vs g e d s = .ok (f d) s) → compLoop vs g cTrue e ds acc s = .ok (acc ++ ds.map f) s
  | [], acc, _, _ => by rw [compLoop_nil]; simp
  | d :: ds, acc, hl, h => by
    have hl' : acc.length + (ds.length + 1) ≤ sizeLine := hl
    rw [compLoop_step (h d (List.mem_cons_self ..)) (by omega), compLoop_map f ds _ (by rw [List.length_append, List.length_singleton]; omega) fun x hx => h x (List.mem_cons_of_mem _ hx)]
    simp
/-- the state moves; each item that comes has a property -/
theorem compLoop_inv {vs : List Nat} {g : D → M Unit} {e : M W} {I : Nat → S → Prop} {R : D → Prop} : ∀ (ds acc : List D) (i : Nat) (s : S), acc.length + ds.length ≤ sizeLine → I i s → (∀ d ∈ ds, ∀ j s, j < i + ds.length → I j s → ∃ y s', turnF vs g e d s = .ok y s' ∧ I (j + 1) s' ∧ R y) →
    ∃ ys s', compLoop vs g cTrue e ds acc s = .ok (acc ++ ys) s' ∧ I (i + ds.length) s' ∧ ys.length = ds.length ∧ ∀ y ∈ ys, R y
  | [], acc, i, s, _, hi, _ => ⟨[], s, by rw [compLoop_nil]; simp, hi, rfl, by simp⟩
  | d :: ds, acc, i, s, hl, hi, h => by
    have hl' : acc.length + (ds.length + 1) ≤ sizeLine := hl
    have hlen : (d :: ds).length = ds.length + 1 := rfl
    obtain ⟨y, s1, e1, hi1, r⟩ := h d (List.mem_cons_self ..) i s (by omega) hi
    obtain ⟨ys, s', e2, hi2, e3, r2⟩ := compLoop_inv ds (acc ++ [y]) (i + 1) s1 (by rw [List.length_append, List.length_singleton]; omega) hi1 fun x hx j s hj => h x (List.mem_cons_of_mem _ hx) j s (by omega)
    refine ⟨y :: ys, s', ?_, ?_, ?_, ?_⟩
    · rw [compLoop_step e1 (by omega), e2]
      simp
    · have : i + 1 + ds.length = i + (ds.length + 1) := by omega
      rw [this] at hi2
      exact hi2
    · simp [e3]
    · intro z hz
      rcases List.mem_cons.mp hz with rfl | hz
      · exact r
      · exact r2 z hz
theorem loopF_nil {g : D → M Unit} {b : M SR} {s : S} : loopF g b [] s = .ok .next s := rfl
theorem loopF_step {g : D → M Unit} {b : M SR} {d : D} {ds : List D} {s s' : S} (h : (g d >>= fun _ => b) s = .ok .next s') : loopF g b (d :: ds) s = loopF g b ds s' := by
  obtain ⟨_, s1, h1, h2⟩ := bind_inv h
  show (g d >>= _) s = _
  rw [bind_of h1, bind_of h2]
theorem loopF_ret {g : D → M Unit} {b : M SR} {d : D} {ds : List D} {s s' : S} {w : W} (h : (g d >>= fun _ => b) s = .ok (.ret w) s') : loopF g b (d :: ds) s = .ok (.ret w) s' := by
  obtain ⟨_, s1, h1, h2⟩ := bind_inv h
  show (g d >>= _) s = _
  rw [bind_of h1, bind_of h2]
  rfl
/-- a loop with its invariant, no way out of it -/
theorem loopF_inv {g : D → M Unit} {b : M SR} {I : List D → S → Prop} : ∀ (ds : List D) (s : S), I ds s → (∀ d ds s, I (d :: ds) s → ∃ s', (g d >>= fun _ => b) s = .ok .next s' ∧ I ds s') → ∃ s', loopF g b ds s = .ok .next s' ∧ I [] s'
  | [], s, hi, _ => ⟨s, rfl, hi⟩
  | d :: ds, s, hi, h => by
    obtain ⟨s1, e1, hi1⟩ := h d ds s hi
    obtain ⟨s', e2, hi2⟩ := loopF_inv ds s1 hi1 h
    exact ⟨s', by rw [loopF_step e1, e2], hi2⟩
theorem compLoop_via {α : Type} {vs : List Nat} {g : D → M Unit} {e : M W} {s : S} (i j : α → D) : ∀ (xs : List α) (acc : List D), acc.length + xs.length ≤ sizeLine → (∀ x ∈ xs, turnF vs g e (i x) s = .ok (j x) s) → compLoop vs g cTrue e (xs.map i) acc s = .ok (acc ++ xs.map j) s
  | [], acc, _, _ => by rw [List.map_nil, compLoop_nil]; simp
  | d :: ds, acc, hl, h => by
    have hl' : acc.length + (ds.length + 1) ≤ sizeLine := hl
    rw [List.map_cons, compLoop_step (h d (List.mem_cons_self ..)) (by omega), compLoop_via i j ds _ (by rw [List.length_append, List.length_singleton]; omega) fun x hx => h x (List.mem_cons_of_mem _ hx)]
    simp
theorem pairs_map {α β : Type} (i : α → D) (j : β → D) : ∀ (xs : List α) (ys : List β), pairs (xs.map i) (ys.map j) = (xs.zip ys).map fun p => .tuple [i p.1, j p.2]
  | [], ys => by simp [pairs]
  | x :: xs, [] => by simp [pairs]
  | x :: xs, y :: ys => by simp [pairs, pairs_map i j xs ys]
theorem pairs_same {α : Type} (i j : α → D) : ∀ xs : List α, pairs (xs.map i) (xs.map j) = xs.map fun x => .tuple [i x, j x]
  | [] => rfl
  | x :: xs => by simp [pairs, pairs_same i j xs]
theorem compLoop_stepC {vs : List Nat} {g : D → M Unit} {c : M Bool} {e : M W} {d : D} {b : Bool} {ds acc : List D} {s s1 s2 : S} (h1 : g d s = .ok () s1) (h2 : c s1 = .ok b s2) :
    compLoop vs g c e (d :: ds) acc s = (if b = true then nE e >>= fun w => toVal w >>= fun y => if acc.length < sizeLine then wipeM vs >>= fun _ => compLoop vs g c e ds (acc ++ [y]) else M.fail else wipeM vs >>= fun _ => compLoop vs g c e ds acc) s2 := by
  show (nE (g d) >>= _) s = _
  have q1 : nE (g d) s = .ok () s1 := by rw [nE_app, h1]; rfl
  have q2 : nE c s1 = .ok b s2 := by rw [nE_app, h2]; rfl
  rw [bind_of q1, bind_of q2]
/-- with a test: those that pass it -/
theorem compLoop_filter {α : Type} {vs : List Nat} {g : D → M Unit} {c : M Bool} {e : M W} {s : S} (i j : α → D) (t : α → Bool) : ∀ (xs : List α) (acc : List D), acc.length + xs.length ≤ sizeLine →
    (∀ x ∈ xs, ∃ s1 s2, g (i x) s = .ok () s1 ∧ c s1 = .ok (t x) s2 ∧ s2.wipe vs = s ∧ (t x = true → (nE e >>= fun w => toVal w >>= fun y => wipeM vs >>= fun _ => Pure.pure y) s2 = .ok (j x) s)) →
    compLoop vs g c e (xs.map i) acc s = .ok (acc ++ (xs.filter t).map j) s
  | [], acc, _, _ => by rw [List.map_nil, compLoop_nil]; simp
  | x :: xs, acc, hl, h => by
    have hl' : acc.length + (xs.length + 1) ≤ sizeLine := hl
    obtain ⟨s1, s2, h1, h2, h3, h4⟩ := h x (List.mem_cons_self ..)
    rw [List.map_cons, compLoop_stepC h1 h2]
    cases q : t x with
    | false =>
      show (wipeM vs >>= _) s2 = _
      have q3 : wipeM vs s2 = .ok () s := by rw [← h3]; rfl
      rw [bind_of q3, compLoop_filter i j t xs acc (by omega) fun y hy => h y (List.mem_cons_of_mem _ hy), List.filter_cons_of_neg (by rw [q]; decide)]
    | true =>
      obtain ⟨w, s3, g1, g⟩ := bind_inv (h4 q)
      obtain ⟨y, s4, g2, g⟩ := bind_inv g
      obtain ⟨_, s5, g3, g⟩ := bind_inv g
      cases g
      show (nE e >>= _) s2 = _
      rw [bind_of g1, bind_of g2]
      show (ite (acc.length < sizeLine) _ _ : M (List D)) s4 = _
      rw [if_pos (by omega), bind_of g3, compLoop_filter i j t xs _ (by rw [List.length_append, List.length_singleton]; omega) fun y hy => h y (List.mem_cons_of_mem _ hy), List.filter_cons_of_pos (by rw [q])]
      simp
/-- each with its number -/
def idx {α : Type} : Nat → List α → List (Nat × α)
  | _, [] => []
  | k, x :: xs => (k, x) :: idx (k + 1) xs
theorem numbered_map {α : Type} (f : α → D) : ∀ (xs : List α) (k : Nat), numbered (k : Int) (xs.map f) = (idx k xs).map fun p => .tuple [.int (p.1 : Int), f p.2]
  | [], k => rfl
  | x :: xs, k => by
    have := numbered_map f xs (k + 1)
    rw [Int.natCast_add] at this
    simp only [List.map_cons, numbered, idx]
    rw [← this]
    rfl
theorem idx_length {α : Type} : ∀ (xs : List α) (k : Nat), (idx k xs).length = xs.length
  | [], _ => rfl
  | x :: xs, k => by simp [idx, idx_length xs]
theorem idx_mem {α : Type} {p : Nat × α} : ∀ {xs : List α} {k : Nat}, p ∈ idx k xs → ∃ i, p.1 = k + i ∧ xs[i]? = some p.2
  | [], k, h => by cases h
  | x :: xs, k, h => by
    rcases List.mem_cons.mp (show p ∈ (k, x) :: idx (k + 1) xs from h) with rfl | h
    · exact ⟨0, rfl, rfl⟩
    · obtain ⟨i, h1, h2⟩ := idx_mem h
      exact ⟨i + 1, by omega, by simpa using h2⟩
theorem idx_drop {α : Type} (i : Nat) : ∀ (xs : List α) (k : Nat), ((idx k xs).filter fun p => decide (p.1 ≠ k + i)).map (·.2) = xs.eraseIdx i
  | [], k => by simp [idx]
  | x :: xs, k => by
    have all : ∀ (xs : List α) (m : Nat), k < m → ((idx m xs).filter fun p => decide (p.1 ≠ k)).map (·.2) = xs := fun xs => by
      induction xs with
      | nil => intro m _; rfl
      | cons y ys ih =>
        intro m hm
        simp only [idx]
        rw [List.filter_cons_of_pos (by simp; omega), List.map_cons, ih (m + 1) (by omega)]
    cases i with
    | zero =>
      simp only [idx, Nat.add_zero]
      rw [List.filter_cons_of_neg (by simp), all xs (k + 1) (by omega)]
      rfl
    | succ i =>
      simp only [idx]
      rw [List.filter_cons_of_pos (by simp), List.map_cons]
      have := idx_drop i xs (k + 1)
      rw [show k + 1 + i = k + (i + 1) by omega] at this
      rw [this]
      rfl
end Z
/-! P, part 1: the built-ins on data of known kind. -/
namespace Z
open PySem PySem.Spec PyProof.Rows L2
theorem isi_of {T : String} {d : D} {b : Bool} (h : kitB (typeN d) T = some b) (hd : ∀ l, d ≠ .dict l) : isi1 T d = some (.val (.bool b)) := by
  cases d with
  | dict l => exact absurd rfl (hd l)
  | _ => simp only [isi1, errD, h, Option.map_some, Bool.false_eq_true, if_false]
theorem isiT_of {Ts : List String} {d : D} {b : Bool} (h : isiAny (typeN d) Ts = some b) (hd : ∀ l, d ≠ .dict l) : isiT Ts d = some (.val (.bool b)) := by
  cases d with
  | dict l => exact absurd rfl (hd l)
  | _ => simp only [isiT, errD, h, Option.map_some, Bool.false_eq_true, if_false]
@[simp] theorem isi_int_int {i : Int} : isi1 "int" (.int i) = some (.val (.bool true)) := isi_of (show kitB "int" "int" = some true from by decide +kernel) (by intro l h; cases h)
@[simp] theorem isi_int_bool {b : Bool} : isi1 "int" (.bool b) = some (.val (.bool true)) := isi_of (show kitB "bool" "int" = some true from by decide +kernel) (by intro l h; cases h)
@[simp] theorem isi_int_tuple {ds : List D} : isi1 "int" (.tuple ds) = some (.val (.bool false)) := isi_of (show kitB "tuple" "int" = some false from by decide +kernel) (by intro l h; cases h)
@[simp] theorem isi_int_list {ds : List D} : isi1 "int" (.list ds) = some (.val (.bool false)) := isi_of (show kitB "list" "int" = some false from by decide +kernel) (by intro l h; cases h)
@[simp] theorem isi_int_str {x : Str} : isi1 "int" (.str x) = some (.val (.bool false)) := isi_of (show kitB "str" "int" = some false from by decide +kernel) (by intro l h; cases h)
@[simp] theorem isi_int_NoneType  : isi1 "int" .none = some (.val (.bool false)) := isi_of (show kitB "NoneType" "int" = some false from by decide +kernel) (by intro l h; cases h)
@[simp] theorem isi_bool_int {i : Int} : isi1 "bool" (.int i) = some (.val (.bool false)) := isi_of (show kitB "int" "bool" = some false from by decide +kernel) (by intro l h; cases h)
@[simp] theorem isi_bool_bool {b : Bool} : isi1 "bool" (.bool b) = some (.val (.bool true)) := isi_of (show kitB "bool" "bool" = some true from by decide +kernel) (by intro l h; cases h)
@[simp] theorem isi_bool_tuple {ds : List D} : isi1 "bool" (.tuple ds) = some (.val (.bool false)) := isi_of (show kitB "tuple" "bool" = some false from by decide +kernel) (by intro l h; cases h)
@[simp] theorem isi_bool_list {ds : List D} : isi1 "bool" (.list ds) = some (.val (.bool false)) := isi_of (show kitB "list" "bool" = some false from by decide +kernel) (by intro l h; cases h)
@[simp] theorem isi_bool_str {x : Str} : isi1 "bool" (.str x) = some (.val (.bool false)) := isi_of (show kitB "str" "bool" = some false from by decide +kernel) (by intro l h; cases h)
@[simp] theorem isi_bool_NoneType  : isi1 "bool" .none = some (.val (.bool false)) := isi_of (show kitB "NoneType" "bool" = some false from by decide +kernel) (by intro l h; cases h)
@[simp] theorem isi_tuple_int {i : Int} : isi1 "tuple" (.int i) = some (.val (.bool false)) := isi_of (show kitB "int" "tuple" = some false from by decide +kernel) (by intro l h; cases h)
@[simp] theorem isi_tuple_bool {b : Bool} : isi1 "tuple" (.bool b) = some (.val (.bool false)) := isi_of (show kitB "bool" "tuple" = some false from by decide +kernel) (by intro l h; cases h)
@[simp] theorem isi_tuple_tuple {ds : List D} : isi1 "tuple" (.tuple ds) = some (.val (.bool true)) := isi_of (show kitB "tuple" "tuple" = some true from by decide +kernel) (by intro l h; cases h)
@[simp] theorem isi_tuple_list {ds : List D} : isi1 "tuple" (.list ds) = some (.val (.bool false)) := isi_of (show kitB "list" "tuple" = some false from by decide +kernel) (by intro l h; cases h)
@[simp] theorem isi_tuple_str {x : Str} : isi1 "tuple" (.str x) = some (.val (.bool false)) := isi_of (show kitB "str" "tuple" = some false from by decide +kernel) (by intro l h; cases h)
@[simp] theorem isi_tuple_NoneType  : isi1 "tuple" .none = some (.val (.bool false)) := isi_of (show kitB "NoneType" "tuple" = some false from by decide +kernel) (by intro l h; cases h)
@[simp] theorem isi_list_int {i : Int} : isi1 "list" (.int i) = some (.val (.bool false)) := isi_of (show kitB "int" "list" = some false from by decide +kernel) (by intro l h; cases h)
@[simp] theorem isi_list_bool {b : Bool} : isi1 "list" (.bool b) = some (.val (.bool false)) := isi_of (show kitB "bool" "list" = some false from by decide +kernel) (by intro l h; cases h)
@[simp] theorem isi_list_tuple {ds : List D} : isi1 "list" (.tuple ds) = some (.val (.bool false)) := isi_of (show kitB "tuple" "list" = some false from by decide +kernel) (by intro l h; cases h)
@[simp] theorem isi_list_list {ds : List D} : isi1 "list" (.list ds) = some (.val (.bool true)) := isi_of (show kitB "list" "list" = some true from by decide +kernel) (by intro l h; cases h)
@[simp] theorem isi_list_str {x : Str} : isi1 "list" (.str x) = some (.val (.bool false)) := isi_of (show kitB "str" "list" = some false from by decide +kernel) (by intro l h; cases h)
@[simp] theorem isi_list_NoneType  : isi1 "list" .none = some (.val (.bool false)) := isi_of (show kitB "NoneType" "list" = some false from by decide +kernel) (by intro l h; cases h)
@[simp] theorem isi_str_int {i : Int} : isi1 "str" (.int i) = some (.val (.bool false)) := isi_of (show kitB "int" "str" = some false from by decide +kernel) (by intro l h; cases h)
@[simp] theorem isi_str_bool {b : Bool} : isi1 "str" (.bool b) = some (.val (.bool false)) := isi_of (show kitB "bool" "str" = some false from by decide +kernel) (by intro l h; cases h)
@[simp] theorem isi_str_tuple {ds : List D} : isi1 "str" (.tuple ds) = some (.val (.bool false)) := isi_of (show kitB "tuple" "str" = some false from by decide +kernel) (by intro l h; cases h)
@[simp] theorem isi_str_list {ds : List D} : isi1 "str" (.list ds) = some (.val (.bool false)) := isi_of (show kitB "list" "str" = some false from by decide +kernel) (by intro l h; cases h)
@[simp] theorem isi_str_str {x : Str} : isi1 "str" (.str x) = some (.val (.bool true)) := isi_of (show kitB "str" "str" = some true from by decide +kernel) (by intro l h; cases h)
@[simp] theorem isi_str_NoneType  : isi1 "str" .none = some (.val (.bool false)) := isi_of (show kitB "NoneType" "str" = some false from by decide +kernel) (by intro l h; cases h)
@[simp] theorem isi_dict_int {i : Int} : isi1 "dict" (.int i) = some (.val (.bool false)) := isi_of (show kitB "int" "dict" = some false from by decide +kernel) (by intro l h; cases h)
@[simp] theorem isi_dict_bool {b : Bool} : isi1 "dict" (.bool b) = some (.val (.bool false)) := isi_of (show kitB "bool" "dict" = some false from by decide +kernel) (by intro l h; cases h)
@[simp] theorem isi_dict_tuple {ds : List D} : isi1 "dict" (.tuple ds) = some (.val (.bool false)) := isi_of (show kitB "tuple" "dict" = some false from by decide +kernel) (by intro l h; cases h)
@[simp] theorem isi_dict_list {ds : List D} : isi1 "dict" (.list ds) = some (.val (.bool false)) := isi_of (show kitB "list" "dict" = some false from by decide +kernel) (by intro l h; cases h)
@[simp] theorem isi_dict_str {x : Str} : isi1 "dict" (.str x) = some (.val (.bool false)) := isi_of (show kitB "str" "dict" = some false from by decide +kernel) (by intro l h; cases h)
@[simp] theorem isi_dict_NoneType  : isi1 "dict" .none = some (.val (.bool false)) := isi_of (show kitB "NoneType" "dict" = some false from by decide +kernel) (by intro l h; cases h)
@[simp] theorem isiT_tl_int {i : Int} : isiT ["tuple", "list"] (.int i) = some (.val (.bool false)) := isiT_of (show isiAny "int" ["tuple", "list"] = some false from by decide +kernel) (by intro l h; cases h)
@[simp] theorem isiT_tl_bool {b : Bool} : isiT ["tuple", "list"] (.bool b) = some (.val (.bool false)) := isiT_of (show isiAny "bool" ["tuple", "list"] = some false from by decide +kernel) (by intro l h; cases h)
@[simp] theorem isiT_tl_tuple {ds : List D} : isiT ["tuple", "list"] (.tuple ds) = some (.val (.bool true)) := isiT_of (show isiAny "tuple" ["tuple", "list"] = some true from by decide +kernel) (by intro l h; cases h)
@[simp] theorem isiT_tl_list {ds : List D} : isiT ["tuple", "list"] (.list ds) = some (.val (.bool true)) := isiT_of (show isiAny "list" ["tuple", "list"] = some true from by decide +kernel) (by intro l h; cases h)
@[simp] theorem isiT_tl_str {x : Str} : isiT ["tuple", "list"] (.str x) = some (.val (.bool false)) := isiT_of (show isiAny "str" ["tuple", "list"] = some false from by decide +kernel) (by intro l h; cases h)
@[simp] theorem isiT_tl_NoneType  : isiT ["tuple", "list"] .none = some (.val (.bool false)) := isiT_of (show isiAny "NoneType" ["tuple", "list"] = some false from by decide +kernel) (by intro l h; cases h)
@[simp] theorem truthD_bool {b : Bool} : truthD (.bool b) = some b := (rfl)
@[simp] theorem truthD_none : truthD .none = some false := (rfl)
@[simp] theorem truthD_int {b : Int} : truthD (.int b) = some (b != 0) := (rfl)
@[simp] theorem truthD_list {b : List D} : truthD (.list b) = some (!b.isEmpty) := (rfl)
@[simp] theorem truthD_tuple {b : List D} : truthD (.tuple b) = some (!b.isEmpty) := (rfl)
@[simp] theorem ltD_int {i j : Int} : ltD (.int i) (.int j) = some (decide (i < j)) := (rfl)
@[simp] theorem leD_int {i j : Int} : leD (.int i) (.int j) = some (decide (i ≤ j)) := (rfl)
@[simp] theorem gtD_int {i j : Int} : gtD (.int i) (.int j) = some (decide (j < i)) := (rfl)
@[simp] theorem geD_int {i j : Int} : geD (.int i) (.int j) = some (decide (j ≤ i)) := (rfl)
@[simp] theorem shaped_int {i : Int} : okD (.int i) = true := by simp [okD, SeqAt.shaped, PyData.canLay0, PyData.depth, PyData.hasDict]
@[simp] theorem shaped_none : okD .none = true := by simp [okD, SeqAt.shaped, PyData.canLay0, PyData.depth, PyData.hasDict]
@[simp] theorem shaped_bool {i : Bool} : okD (.bool i) = true := by simp [okD, SeqAt.shaped, PyData.canLay0, PyData.depth, PyData.hasDict]
@[simp] theorem eqv_int {i j : Int} : PyData.eqv (.int i) (.int j) = decide (i = j) := by
  simp only [PyData.eqv]
  exact Bool.eq_iff_iff.mpr (by simp)
@[simp] theorem eqD_int {i j : Int} : eqD (.int i) (.int j) = some (decide (i = j)) := by
  simp [eqD]
@[simp] theorem neD_int {i j : Int} : neD (.int i) (.int j) = some (!decide (i = j)) := by
  simp [neD]
@[simp] theorem isD_none {d : D} : isD d .none = some (match d with | .none => true | _ => false) := by
  cases d <;> rfl
@[simp] theorem isNotD_none {d : D} : isNotD d .none = some (match d with | .none => false | _ => true) := by
  cases d <;> rfl
@[simp] theorem addD_int {i j : Int} : addD (.int i) (.int j) = some (.val (.int (i + j))) := (rfl)
@[simp] theorem subD_int {i j : Int} : subD (.int i) (.int j) = some (.val (.int (i - j))) := (rfl)
@[simp] theorem addD_tup {a b : List D} : addD (.tuple a) (.tuple b) = if a.length + b.length ≤ sizeLine then some (.val (.tuple (a ++ b))) else none := (rfl)
@[simp] theorem addD_list {a b : List D} : addD (.list a) (.list b) = if a.length + b.length ≤ sizeLine then some (.own (a ++ b)) else none := (rfl)
/-- a whole number of not too many bits -/
def Sz (i : Int) : Prop := i.natAbs < 2 ^ 8000
theorem Sz.log (h : Sz i) : i.natAbs.log2 < 8001 := by
  by_cases h0 : i.natAbs = 0
  · rw [h0]; decide
  · exact Nat.lt_succ_of_lt ((Nat.log2_lt h0).mpr h)
theorem mulD_bits {i j : Int} {a b : Nat} (h : i.natAbs < 2 ^ a) (g : j.natAbs < 2 ^ b) (l : a + b ≤ 134217728) : mulD (.int i) (.int j) = some (.val (.int (i * j))) :=
  if_pos (mulx_ok h g l)
theorem mulD_sz {i j : Int} (h : Sz i) (g : Sz j) : mulD (.int i) (.int j) = some (.val (.int (i * j))) := mulD_bits h g (by decide)
theorem fdivD_sz {i j : Int} (h : j ≠ 0) (g : Sz j) : fdivD (.int i) (.int j) = some (.val (.int (i.fdiv j))) := by
  have h2 := g.log
  exact if_pos ⟨h, by omega⟩
@[simp] theorem modD_int {i j : Int} : modD (.int i) (.int j) = if j ≠ 0 then some (.val (.int (i.fmod j))) else none := (rfl)
@[simp] theorem lenD_list {ds : List D} : lenD (.list ds) = some (.val (.int ds.length)) := (rfl)
@[simp] theorem lenD_tuple {ds : List D} : lenD (.tuple ds) = some (.val (.int ds.length)) := (rfl)
@[simp] theorem absD_int {i : Int} : absD (.int i) = some (.val (.int (if i < 0 then -i else i))) := (rfl)
@[simp] theorem intD_int {i : Int} : intD (.int i) = some (.val (.int i)) := (rfl)
@[simp] theorem intD_bool {i : Bool} : intD (.bool i) = some (.val (.int (if i then 1 else 0))) := (rfl)
@[simp] theorem gcdD_int {i j : Int} : gcdD (.int i) (.int j) = some (.val (.int (Nat.gcd i.natAbs j.natAbs : Nat))) := (rfl)
@[simp] theorem tupleD_list {ds : List D} : tupleD (.list ds) = some (.val (.tuple ds)) := (rfl)
@[simp] theorem tupleD_tuple {ds : List D} : tupleD (.tuple ds) = some (.val (.tuple ds)) := (rfl)
@[simp] theorem listD_list {ds : List D} : listD (.list ds) = some (.own ds) := (rfl)
@[simp] theorem listD_tuple {ds : List D} : listD (.tuple ds) = some (.own ds) := (rfl)
@[simp] theorem max2D_int {i j : Int} : max2D (.int i) (.int j) = some (.val (.int (if j > i then j else i))) := (rfl)
@[simp] theorem min2D_int {i j : Int} : min2D (.int i) (.int j) = some (.val (.int (if j < i then j else i))) := (rfl)
theorem ixD_tup {ds : List D} {i : Int} {d : D} (h : atI ds i = some d) : ixD (.tuple ds) (.int i) = some (.val d) := by
  show (atI ds i).map W.val = _
  rw [h]
  rfl
theorem ixD_list {ds : List D} {i : Int} {d : D} (h : atI ds i = some d) : ixD (.list ds) (.int i) = some (.val d) := by
  show (atI ds i).map W.val = _
  rw [h]
  rfl
theorem atI_of {α : Type} {ds : List α} {n : Nat} {d : α} (h : ds[n]? = some d) : atI ds (n : Int) = some d := atI_nat h
@[simp] theorem ixD_0 {d : D} {ds : List D} : ixD (.tuple (d :: ds)) (.int 0) = some (.val d) := ixD_tup (atI_nat (j := 0) rfl)
@[simp] theorem ixD_1 {d e : D} {ds : List D} : ixD (.tuple (e :: d :: ds)) (.int 1) = some (.val d) := ixD_tup (atI_nat (j := 1) rfl)
@[simp] theorem ixD_2 {a d e : D} {ds : List D} : ixD (.tuple (a :: e :: d :: ds)) (.int 2) = some (.val d) := ixD_tup (atI_nat (j := 2) rfl)
@[simp] theorem ixL_0 {d : D} {ds : List D} : ixD (.list (d :: ds)) (.int 0) = some (.val d) := ixD_list (atI_nat (j := 0) rfl)
@[simp] theorem ixL_1 {d e : D} {ds : List D} : ixD (.list (e :: d :: ds)) (.int 1) = some (.val d) := ixD_list (atI_nat (j := 1) rfl)
@[simp] theorem ixL_2 {a d e : D} {ds : List D} : ixD (.list (a :: e :: d :: ds)) (.int 2) = some (.val d) := ixD_list (atI_nat (j := 2) rfl)
theorem sizeLine_big : 1000000 ≤ sizeLine := by rw [sizeLine_eq]; decide
theorem divmodD_int {i j : Int} (h : 0 < j) (g : j < 1073741824) : divmodD (.int i) (.int j) = some (.val (.tuple [.int (i / j), .int (i % j)])) := if_pos ⟨h, g⟩
end Z
/-! P, part 2: fractions as pairs of whole numbers. -/
namespace Z
open PySem PySem.Spec PyProof.Rows L2

def frac (q : Rat) : D := .tuple [.int q.num, .int q.den]
/-- of at most L bits above and below -/
structure Ht (L : Nat) (q : Rat) : Prop where
  num : q.num.natAbs < 2 ^ L
  den : q.den < 2 ^ L
theorem Ht.mono {L M : Nat} {q : Rat} (h : Ht L q) (l : L ≤ M) : Ht M q :=
  ⟨Nat.lt_of_lt_of_le h.num (Nat.pow_le_pow_right (by decide) l), Nat.lt_of_lt_of_le h.den (Nat.pow_le_pow_right (by decide) l)⟩
theorem divInt_pos {a : Int} {b : Nat} (hb : b ≠ 0) : (Rat.divInt a b).num = a / (Nat.gcd a.natAbs b : Nat) ∧ (Rat.divInt a b).den = b / Nat.gcd a.natAbs b := by
  rw [Rat.divInt_ofNat, Rat.mkRat_def, dif_neg hb, Rat.normalize_eq]
  exact ⟨rfl, rfl⟩
theorem Ht.divInt {L : Nat} {a : Int} {b : Nat} (hb : b ≠ 0) (h1 : a.natAbs < 2 ^ L) (h2 : b < 2 ^ L) : Ht L (Rat.divInt a b) := by
  obtain ⟨e1, e2⟩ := divInt_pos (a := a) hb
  refine ⟨?_, ?_⟩
  · rw [e1]
    refine Nat.lt_of_le_of_lt ?_ h1
    exact Int.natAbs_ediv_le_natAbs _ _
  · rw [e2]
    exact Nat.lt_of_le_of_lt (Nat.div_le_self _ _) h2
theorem pow_mul_lt {a b L M : Nat} (h1 : a < 2 ^ L) (h2 : b < 2 ^ M) : a * b < 2 ^ (L + M) := by
  rw [Nat.pow_add]
  exact Nat.mul_lt_mul'' h1 h2
theorem add_eq (p q : Rat) : p + q = Rat.divInt (p.num * q.den + q.num * p.den) ((p.den * q.den : Nat) : Int) := by
  conv => lhs; rw [← Rat.num_divInt_den p, ← Rat.num_divInt_den q]
  rw [Rat.divInt_add_divInt _ _ (by exact_mod_cast p.den_nz) (by exact_mod_cast q.den_nz)]
  congr 1
theorem sub_eq (p q : Rat) : p - q = Rat.divInt (p.num * q.den - q.num * p.den) ((p.den * q.den : Nat) : Int) := by
  conv => lhs; rw [← Rat.num_divInt_den p, ← Rat.num_divInt_den q]
  rw [Rat.divInt_sub_divInt _ _ (by exact_mod_cast p.den_nz) (by exact_mod_cast q.den_nz)]
  congr 1
theorem mul_eq (p q : Rat) : p * q = Rat.divInt (p.num * q.num) ((p.den * q.den : Nat) : Int) := by
  conv => lhs; rw [← Rat.num_divInt_den p, ← Rat.num_divInt_den q]
  rw [Rat.divInt_mul_divInt]
  congr 1
theorem div_eq (p q : Rat) : p / q = Rat.divInt (p.num * q.den) (p.den * q.num) := by
  conv => lhs; rw [← Rat.num_divInt_den p, ← Rat.num_divInt_den q]
  rw [Rat.div_def, Rat.inv_divInt, Rat.divInt_mul_divInt]
theorem mul_nz (p q : Rat) : p.den * q.den ≠ 0 := Nat.mul_ne_zero p.den_nz q.den_nz
theorem ht_add {L M : Nat} {p q : Rat} (h : Ht L p) (g : Ht M q) : Ht (L + M + 1) (p + q) := by
  rw [add_eq]
  have h1 := pow_mul_lt h.num g.den
  have h2 := pow_mul_lt g.num h.den
  have h3 := pow_mul_lt h.den g.den
  rw [Nat.add_comm M L] at h2
  refine Ht.divInt (mul_nz p q) ?_ ?_
  · refine Nat.lt_of_le_of_lt (Int.natAbs_add_le _ _) ?_
    rw [Int.natAbs_mul, Int.natAbs_mul, Int.natAbs_natCast, Int.natAbs_natCast, Nat.pow_succ]
    omega
  · rw [Nat.pow_succ]; omega
theorem ht_sub {L M : Nat} {p q : Rat} (h : Ht L p) (g : Ht M q) : Ht (L + M + 1) (p - q) := by
  rw [sub_eq]
  have h1 := pow_mul_lt h.num g.den
  have h2 := pow_mul_lt g.num h.den
  have h3 := pow_mul_lt h.den g.den
  rw [Nat.add_comm M L] at h2
  refine Ht.divInt (mul_nz p q) ?_ ?_
  · refine Nat.lt_of_le_of_lt (Int.natAbs_sub_le _ _) ?_
    rw [Int.natAbs_mul, Int.natAbs_mul, Int.natAbs_natCast, Int.natAbs_natCast, Nat.pow_succ]
    omega
  · rw [Nat.pow_succ]; omega
theorem ht_mul {L M : Nat} {p q : Rat} (h : Ht L p) (g : Ht M q) : Ht (L + M) (p * q) := by
  rw [mul_eq]
  refine Ht.divInt (mul_nz p q) ?_ (pow_mul_lt h.den g.den)
  rw [Int.natAbs_mul]
  exact pow_mul_lt h.num g.num
theorem divInt_sign {a b : Int} (hb : b ≠ 0) : Rat.divInt a b = Rat.divInt (a * b.sign) (b.natAbs : Nat) := by
  rcases Int.lt_or_lt_of_ne hb with h | h
  · rw [Int.sign_eq_neg_one_of_neg h]
    have : ((b.natAbs : Nat) : Int) = -b := by omega
    rw [this, Int.mul_neg_one, Rat.neg_divInt_neg]
  · rw [Int.sign_eq_one_of_pos h]
    have : ((b.natAbs : Nat) : Int) = b := by omega
    rw [this, Int.mul_one]
theorem Ht.divInt' {L : Nat} {a b : Int} (hb : b ≠ 0) (h1 : a.natAbs < 2 ^ L) (h2 : b.natAbs < 2 ^ L) : Ht L (Rat.divInt a b) := by
  rw [divInt_sign hb]
  refine Ht.divInt (by omega) ?_ h2
  rw [Int.natAbs_mul, Int.natAbs_sign_of_ne_zero hb, Nat.mul_one]
  exact h1
theorem num_nz {q : Rat} (h : q ≠ 0) : q.num ≠ 0 := fun z => h (Rat.num_eq_zero.mp z)
theorem ht_div {L M : Nat} {p q : Rat} (h : Ht L p) (g : Ht M q) (nz : q ≠ 0) : Ht (L + M) (p / q) := by
  rw [div_eq]
  refine Ht.divInt' (Int.mul_ne_zero (by exact_mod_cast p.den_nz) (num_nz nz)) ?_ ?_
  · rw [Int.natAbs_mul, Int.natAbs_natCast]; exact pow_mul_lt h.num g.den
  · rw [Int.natAbs_mul, Int.natAbs_natCast]; exact pow_mul_lt h.den g.num
theorem sz_of {L : Nat} {i : Int} (h : i.natAbs < 2 ^ L) (l : L ≤ 8000) : Sz i := Nat.lt_of_lt_of_le h (Nat.pow_le_pow_right (by decide) l)
theorem Ht.szn {L : Nat} {q : Rat} (h : Ht L q) (l : L ≤ 8000 := by omega) : Sz q.num := sz_of h.num l
theorem Ht.szd {L : Nat} {q : Rat} (h : Ht L q) (l : L ≤ 8000 := by omega) : Sz (q.den : Int) := by
  have := h.den
  exact sz_of (L := L) (by rw [Int.natAbs_natCast]; exact this) l
theorem frac_inj {p q : Rat} (h : frac p = frac q) : p = q := by
  unfold frac at h
  injection h with h
  injection h with h1 h2
  injection h1 with h1
  injection h2 with h2 _
  injection h2 with h2
  exact Rat.ext h1 (by exact_mod_cast h2)
@[simp] theorem ix_num {q : Rat} : ixD (frac q) (.int 0) = some (.val (.int q.num)) := ixD_0
@[simp] theorem ix_den {q : Rat} : ixD (frac q) (.int 1) = some (.val (.int q.den)) := ixD_1
theorem den_pos' {q : Rat} : (0 : Int) < q.den := by exact_mod_cast q.den_pos
theorem den_nz' {q : Rat} : (q.den : Int) ≠ 0 := by exact_mod_cast q.den_nz
@[simp] theorem shaped_frac {q : Rat} : okD (frac q) = true := by simp [frac, okD, SeqAt.shaped, PyData.canLay0, PyData.canLayAll0, PyData.depth, PyData.depthAll, PyData.hasDict, PyData.hasDictAll]
@[simp] theorem eqv_frac {p q : Rat} : PyData.eqv (frac p) (frac q) = decide (p = q) := by
  show PyData.eqv (.tuple [.int p.num, .int p.den]) (.tuple [.int q.num, .int q.den]) = _
  simp only [PyData.eqv, PyData.eqvAll]
  refine Bool.eq_iff_iff.mpr ?_
  simp only [Bool.and_eq_true, beq_iff_eq, decide_eq_true_eq, Bool.true_eq, and_true]
  constructor
  · rintro ⟨h1, h2⟩
    exact Rat.ext h1 (by exact_mod_cast h2)
  · rintro rfl
    exact ⟨rfl, rfl⟩
@[simp] theorem eqD_frac {p q : Rat} : eqD (frac p) (frac q) = some (decide (p = q)) := by simp [eqD]
@[simp] theorem neD_frac {p q : Rat} : neD (frac p) (frac q) = some (!decide (p = q)) := by simp [neD]
theorem gcd_red (q : Rat) : Nat.gcd q.num.natAbs q.den = 1 := q.reduced
/-- normalising by the greatest common part -/
theorem frac_gcd {a : Int} {b : Nat} (hb : b ≠ 0) : PyData.tuple [.int (a.fdiv (Nat.gcd a.natAbs b : Nat)), .int ((b : Int).fdiv (Nat.gcd a.natAbs b : Nat))] = frac (Rat.divInt a b) := by
  obtain ⟨e1, e2⟩ := divInt_pos (a := a) hb
  unfold frac
  rw [e1, e2, Int.fdiv_eq_ediv_of_nonneg _ (by omega), Int.fdiv_eq_ediv_of_nonneg _ (by omega)]
  rfl
theorem le_of_num {p q : Rat} : (q.num * p.den < p.num * q.den) = (q < p) := propext (Rat.lt_iff q p).symm
end Z
/-! P, part 3: of all laws. -/
namespace Z
open PySem PySem.Spec PyProof.Rows L2
theorem whileF_succ {c : M Bool} {b : M SR} {n : Nat} {s : S} : whileF c b (n + 1) s = runK (c s) (k := ⟨fun t => if t = true then b >>= fun r => (match r with
    | .next => whileF c b n
    | .cont => whileF c b n
    | .brk => Pure.pure .next
    | .ret w => Pure.pure (.ret w)) else Pure.pure .next⟩) := rfl
def HtA (H : Nat) (rs : List Rat) : Prop := ∀ r ∈ rs, Ht H r
def tot (rs : List Rat) : Rat := rs.foldl (· + ·) 0
theorem foldl_add (rs : List Rat) (z : Rat) : rs.foldl (· + ·) z = z + tot rs := by
  induction rs generalizing z with
  | nil => simp [tot, Rat.add_zero]
  | cons r rs ih =>
    have e1 : (r :: rs).foldl (· + ·) z = rs.foldl (· + ·) (z + r) := rfl
    have e2 : tot (r :: rs) = rs.foldl (· + ·) (0 + r) := rfl
    rw [e1, e2, ih, ih]
    grind
@[simp] theorem tot_nil : tot [] = 0 := rfl
@[simp] theorem tot_cons {r : Rat} {rs : List Rat} : tot (r :: rs) = r + tot rs := by
  show rs.foldl (· + ·) (0 + r) = _
  rw [foldl_add]
  grind
theorem ht_zero : Ht 1 0 := ⟨by decide, by decide⟩
theorem ht_one : Ht 1 1 := ⟨by decide, by decide⟩
theorem bools_true {α : Type} (xs : List α) : boolsOf (xs.map fun _ => PyData.bool true) = some (xs.map fun _ => true) := by
  induction xs with
  | nil => rfl
  | cons x xs ih =>
    show (boolsOf (xs.map fun _ => PyData.bool true)).map (true :: ·) = _
    rw [ih]
    rfl
theorem all_true {α : Type} (xs : List α) : allD (.list (xs.map fun _ => PyData.bool true)) = some (.val (.bool true)) := by
  show (boolsOf (xs.map fun _ => PyData.bool true)).map _ = _
  rw [bools_true]
  simp
theorem frac_nat (n : Nat) : frac (n : Rat) = .tuple [.int n, .int 1] := rfl
theorem ht_nat {L n : Nat} (h : n < 2 ^ L) (hL : 1 ≤ L) : Ht L (n : Rat) := ⟨h, by
  have : (2 : Nat) ^ 1 ≤ 2 ^ L := Nat.pow_le_pow_right (by decide) hL
  show 1 < 2 ^ L
  omega⟩
theorem nat_nz {n : Nat} (h : n ≠ 0) : (n : Rat) ≠ 0 := fun z => h (by exact_mod_cast z)
theorem cut_to {α : Type} (xs : List α) {k : Nat} (h : k ≤ xs.length) : cutL xs none (some (k : Int)) = xs.take k := by
  unfold cutL
  rw [HT.sIx_none, HT.sIx_nat]
  simp [Nat.min_eq_left h]
theorem cut_from {α : Type} (xs : List α) {k : Nat} (h : k ≤ xs.length) : cutL xs (some (k : Int)) none = xs.drop k := by
  unfold cutL
  rw [HT.sIx_none, HT.sIx_nat, Nat.min_eq_left h]
  exact List.take_of_length_le (by simp)
@[simp] theorem slD_tup {ds : List D} {lo hi : Option Int} : slD (.tuple ds) lo hi = some (.val (.tuple (cutL ds lo hi))) := rfl
@[simp] theorem slD_list {ds : List D} {lo hi : Option Int} : slD (.list ds) lo hi = some (.own (cutL ds lo hi)) := rfl
theorem set_eq {α : Type} {xs : List α} {i : Nat} {p : α} (h : i < xs.length) : xs.take i ++ p :: xs.drop (i + 1) = xs.set i p := by
  rw [List.set_eq_take_append_cons_drop, if_pos h]
theorem ix_map {α : Type} (f : α → D) {xs : List α} {i : Nat} {x : α} (h : xs[i]? = some x) : ixD (.tuple (xs.map f)) (.int (i : Int)) = some (.val (f x)) := ixD_tup (atI_nat (by rw [List.getElem?_map, h]; rfl))
theorem ixl_map {α : Type} (f : α → D) {xs : List α} {i : Nat} {x : α} (h : xs[i]? = some x) : ixD (.list (xs.map f)) (.int (i : Int)) = some (.val (f x)) := ixD_list (atI_nat (by rw [List.getElem?_map, h]; rfl))
theorem tup_over {n : Nat} (h : n ≠ 0) : PyData.tuple [.int 1, .int n] = frac (1 / (n : Rat)) := by
  have e1 : (1 : Rat) / (n : Rat) = Rat.divInt 1 (n : Int) := by
    rw [div_eq]
    show Rat.divInt (1 * 1) (1 * (n : Int)) = _
    rw [Int.one_mul, Int.one_mul]
  obtain ⟨h1, h2⟩ := divInt_pos (a := 1) h
  unfold frac
  rw [e1, h1, h2]
  simp
theorem ht_over {L n : Nat} (h : n ≠ 0) (g : n < 2 ^ L) (hL : 1 ≤ L) : Ht (1 + L) (1 / (n : Rat)) := ht_div ht_one (ht_nat g hL) (nat_nz h)
theorem over_eq (a b : Rat) : a * (1 / b) = a / b := by rw [Rat.div_def, Rat.div_def]; grind
def Nice : Nat → D → Prop
  | 0, _ => False
  | _ + 1, .int _ => True
  | n + 1, .tuple ds => ds.length ≤ 1000 ∧ ∀ d ∈ ds, Nice n d
  | n + 1, .list ds => ds.length ≤ 1000 ∧ ∀ d ∈ ds, Nice n d
  | _ + 1, _ => False
theorem range_row {n : Nat} (h : n ≤ 1000) : rangeW [.val (.int n)] = some (rangeD 0 n) := by
  have h1 : -(2 ^ 62) ≤ (n : Int) ∧ (n : Int) < 2 ^ 62 := ⟨by omega, by omega⟩
  simp only [rangeW]
  rw [if_pos h1, Int.toNat_natCast]
theorem range_row' {n : Nat} {z : Int} (e : z = (n : Int)) (h : n ≤ 1000) : rangeW [.val (.int z)] = some (rangeD 0 n) := by
  rw [e]
  exact range_row h
theorem nice_frac {n : Nat} {q : Rat} : Nice (n + 2) (frac q) := ⟨by show 2 ≤ 1000; decide, fun d hd => by
  have : d = .int q.num ∨ d = .int q.den := by simpa [frac] using hd
  rcases this with rfl | rfl <;> trivial⟩
theorem ixn_1 : ixN 3 1 = some 1 := by decide
theorem ixn_2 : ixN 3 2 = some 2 := by decide
theorem ixn_00 : ixN 3 0 = some 0 := by decide
theorem all_frac {L : Nat} : ∀ {ys : List D}, (∀ y ∈ ys, ∃ q, y = frac q ∧ Ht L q) → ∃ rs : List Rat, ys = rs.map frac ∧ HtA L rs
  | [], _ => ⟨[], rfl, fun _ h => by cases h⟩
  | y :: ys, h => by
    obtain ⟨q, e, hq⟩ := h y (List.mem_cons_self ..)
    obtain ⟨rs, e2, h2⟩ := all_frac fun z hz => h z (List.mem_cons_of_mem _ hz)
    refine ⟨q :: rs, by rw [e, e2]; rfl, fun x hx => ?_⟩
    rcases List.mem_cons.mp hx with rfl | hx
    · exact hq
    · exact h2 x hx
theorem all_ex {P : D → Prop} {α : Type} {Q : α → Prop} {f : α → D} : ∀ {ds : List D}, (∀ d ∈ ds, ∃ a, d = f a ∧ Q a) → ∃ xs : List α, ds = xs.map f ∧ ∀ a ∈ xs, Q a
  | [], _ => ⟨[], rfl, fun _ h => by cases h⟩
  | y :: ys, h => by
    obtain ⟨q, e, hq⟩ := h y (List.mem_cons_self ..)
    obtain ⟨rs, e2, h2⟩ := all_ex (P := P) fun z hz => h z (List.mem_cons_of_mem _ hz)
    refine ⟨q :: rs, by rw [e, e2]; rfl, fun x hx => ?_⟩
    rcases List.mem_cons.mp hx with rfl | hx
    · exact hq
    · exact h2 x hx
theorem over_parts {m : Nat} (hm : m ≠ 0) : (1 / (m : Rat)).num = 1 ∧ (1 / (m : Rat)).den = m := by
  have h := tup_over hm
  unfold frac at h
  injection h with h
  injection h with h1 h2
  injection h1 with h1
  injection h2 with h2 _
  injection h2 with h2
  exact ⟨h1.symm, by exact_mod_cast h2.symm⟩
theorem cut_map {α β : Type} (f : α → β) (xs : List α) (lo hi : Option Int) : cutL (xs.map f) lo hi = (cutL xs lo hi).map f := by
  unfold cutL
  simp [List.map_take, List.map_drop]
@[simp] theorem powD_int {i j : Int} : powD (.int i) (.int j) = if 0 ≤ j ∧ j ≤ 1000000 ∧ i.natAbs < 2 ^ 64 then some (.val (.int (i ^ j.toNat))) else none := (rfl)
theorem nice_plain (n : Nat) : ∀ d : D, Nice n d → d.canLay0 = true ∧ d.depth ≤ n := by
  induction n with
  | zero => exact fun _ h => h.elim
  | succ n ih =>
    have all : ∀ ds : List D, (∀ d ∈ ds, Nice n d) → PyData.canLayAll0 ds = true ∧ PyData.depthAll ds ≤ n := fun ds => by
      induction ds with
      | nil => exact fun _ => ⟨by simp [PyData.canLayAll0], by simp [PyData.depthAll]⟩
      | cons d ds ihl =>
        intro h
        obtain ⟨a1, a2⟩ := ih d (h d (List.mem_cons_self ..))
        obtain ⟨b1, b2⟩ := ihl fun x hx => h x (List.mem_cons_of_mem _ hx)
        exact ⟨by simp [PyData.canLayAll0, a1, b1], by simp only [PyData.depthAll]; omega⟩
    intro d h
    cases d with
    | int i => exact ⟨by simp [PyData.canLay0], by simp [PyData.depth]⟩
    | tuple ds =>
      obtain ⟨a, b⟩ := all ds h.2
      exact ⟨by simpa [PyData.canLay0] using a, by simp only [PyData.depth]; omega⟩
    | list ds =>
      obtain ⟨a, b⟩ := all ds h.2
      exact ⟨by simpa [PyData.canLay0] using a, by simp only [PyData.depth]; omega⟩
    | _ => exact h.elim
theorem nice_nd (n : Nat) : ∀ d : D, Nice n d → d.hasDict = false := by
  induction n with
  | zero => exact fun _ h => h.elim
  | succ n ih =>
    have all : ∀ ds : List D, (∀ d ∈ ds, Nice n d) → PyData.hasDictAll ds = false := fun ds => by
      induction ds with
      | nil => exact fun _ => by simp [PyData.hasDictAll]
      | cons d ds ihl =>
        intro h
        simp [PyData.hasDictAll, ih d (h d (List.mem_cons_self ..)), ihl fun x hx => h x (List.mem_cons_of_mem _ hx)]
    intro d h
    cases d with
    | int i => simp [PyData.hasDict]
    | tuple ds => simpa [PyData.hasDict] using all ds h.2
    | list ds => simpa [PyData.hasDict] using all ds h.2
    | _ => exact h.elim
theorem nice_shaped {n : Nat} (hn : n ≤ 64) {d : D} (h : Nice n d) : okD d = true := by
  obtain ⟨a, b⟩ := nice_plain n d h
  refine okD.of ?_ (nice_nd n d h)
  unfold SeqAt.shaped
  rw [a, Bool.true_and]
  exact decide_eq_true (by omega)
theorem ne_nil {ds : List D} (h : okD (.list ds) = true) : neD (.list ds) (.list []) = some (!ds.isEmpty) := by
  have k : okD (.list []) = true := by decide
  unfold neD
  rw [h, k]
  cases ds <;> simp [PyData.eqv, PyData.eqvAll]
theorem eq_nil {ds : List D} (h : okD (.list ds) = true) : eqD (.list ds) (.list []) = some ds.isEmpty := by
  have k : okD (.list []) = true := by decide
  unfold eqD
  rw [h, k]
  cases ds <;> simp [PyData.eqv, PyData.eqvAll]
theorem shaped_ints {ns : List Nat} (h : ns.length ≤ 1000) : okD (.list (ns.map fun (k : Nat) => PyData.int (k : Int))) = true := nice_shaped (n := 2) (by decide) ⟨by simpa using h, fun d hd => by
  obtain ⟨q, _, rfl⟩ := List.mem_map.mp hd
  trivial⟩
theorem idx_get {α : Type} {x : α} : ∀ {xs : List α} {k i : Nat}, xs[i]? = some x → (k + i, x) ∈ idx k xs
  | [], k, i, h => by simp at h
  | y :: ys, k, 0, h => by
    have : y = x := by simpa using h
    subst this
    exact List.mem_cons_self ..
  | y :: ys, k, i + 1, h => by
    have := idx_get (k := k + 1) (i := i) (x := x) (xs := ys) (by simpa using h)
    rw [show k + 1 + i = k + (i + 1) by omega] at this
    exact List.mem_cons_of_mem _ this
theorem while_next {c : M Bool} {b : M SR} {m : Nat} {s s1 s2 : S} (h1 : c s = .ok true s1) (h2 : b s1 = .ok .next s2) : whileF c b (m + 1) s = whileF c b m s2 := by
  rw [whileF_succ, h1, runK_ok, if_pos rfl, bind_of h2]
theorem while_ret {c : M Bool} {b : M SR} {m : Nat} {s s1 s2 : S} {w : W} (h1 : c s = .ok true s1) (h2 : b s1 = .ok (.ret w) s2) : whileF c b (m + 1) s = .ok (.ret w) s2 := by
  rw [whileF_succ, h1, runK_ok, if_pos rfl, bind_of h2]
  rfl
theorem bind_congr {α β : Type} {m m' : M α} {k : α → M β} {s s' : S} (h : m s = m' s') : (m >>= k) s = (m' >>= k) s' := by
  rw [bind_app, bind_app, h]
theorem rangeD_succ {lo : Int} {n : Nat} : rangeD lo (n + 1) = .int lo :: rangeD (lo + 1) n := by
  unfold rangeD
  rw [List.range_succ_eq_map, List.map_cons, List.map_map]
  congr 1
  · simp
  · exact List.map_congr_left fun i _ => by
      show PyData.int _ = PyData.int _
      congr 1
      show lo + ((i + 1 : Nat) : Int) = _
      omega
theorem rangeD_zero {lo : Int} : rangeD lo 0 = [] := rfl
theorem range_2 {i j : Nat} (h : j ≤ 1000) (h2 : i ≤ 1000) : rangeW2 [.val (.int i), .val (.int j)] = some (rangeD i (j - i)) := by
  unfold rangeW2
  simp only
  rw [if_pos (by omega), show ((j : Int) - i).toNat = j - i by omega]
theorem ixN_of {n k : Nat} (h : k < n) : ixN n (k : Int) = some k := by
  unfold ixN
  simp [h]
theorem atI_mid {α : Type} {pre post : List α} {x : α} : (pre ++ x :: post)[pre.length]? = some x := by simp
theorem range_idx {α : Type} : ∀ (xs : List α) (k : Nat), rangeD (k : Int) xs.length = (idx k xs).map fun q => PyData.int (q.1 : Int)
  | [], k => rfl
  | x :: xs, k => by
    rw [List.length_cons, rangeD_succ]
    have := range_idx xs (k + 1)
    rw [show ((k + 1 : Nat) : Int) = (k : Int) + 1 by omega] at this
    rw [this]
    rfl
theorem ht_neg {L : Nat} {q : Rat} (h : Ht L q) : Ht L (-q) := ⟨by rw [Rat.neg_num, Int.natAbs_neg]; exact h.num, by rw [Rat.neg_den]; exact h.den⟩
def absR (q : Rat) : Rat := if q < 0 then -q else q
theorem absR_nn (q : Rat) : 0 ≤ absR q := by unfold absR; split <;> grind
theorem absR_mul (a b : Rat) : absR (a * b) = absR a * absR b := by
  unfold absR
  by_cases ha : a < 0 <;> by_cases hb : b < 0
  · have := Rat.mul_pos (a := -a) (b := -b) (by grind) (by grind)
    have h : ¬ a * b < 0 := by grind
    simp only [ha, hb, h, if_true, if_false]; grind
  · by_cases h0 : b = 0
    · subst h0; simp only [ha, hb, if_true, if_false]; grind
    · have := Rat.mul_pos (a := -a) (b := b) (by grind) (by grind)
      have h : a * b < 0 := by grind
      simp only [ha, hb, h, if_true, if_false]; grind
  · by_cases h0 : a = 0
    · subst h0; simp only [ha, hb, if_true, if_false]; grind
    · have := Rat.mul_pos (a := a) (b := -b) (by grind) (by grind)
      have h : a * b < 0 := by grind
      simp only [ha, hb, h, if_true, if_false]; grind
  · have := Rat.mul_nonneg (a := a) (b := b) (by grind) (by grind)
    have h : ¬ a * b < 0 := by grind
    simp only [ha, hb, h, if_false]
theorem absR_neg (a : Rat) : absR (-a) = absR a := by unfold absR; split <;> split <;> grind
theorem absR_of {a : Rat} (h : 0 ≤ a) : absR a = a := by unfold absR; rw [if_neg (by grind)]
theorem zip_turn {α β γ : Type} (f : α → β → γ) : ∀ (a : List α) (b : List β), (a.zip b).map (fun x => f x.1 x.2) = (b.zip a).map fun x => f x.2 x.1
  | [], b => by simp
  | x :: a, [] => by simp
  | x :: a, y :: b => by simp [zip_turn f a b]
theorem absFrac (q : Rat) : PyData.tuple [.int (if q.num < 0 then -q.num else q.num), .int (q.den : Int)] = frac (absR q) := by
  have n : (q.num < 0) = (q < 0) := by
    have := Rat.num_nonneg (q := q)
    have h2 : (0 ≤ q) = ¬ (q < 0) := propext Rat.not_lt.symm
    rw [h2] at this
    exact propext ⟨fun z => Decidable.byContradiction fun w => by have := this.mpr w; omega, fun z => Decidable.byContradiction fun w => (this.mp (by omega)) z⟩
  unfold absR frac
  by_cases h : q < 0
  · rw [if_pos h, if_pos (by rw [n]; exact h), Rat.neg_num, Rat.neg_den]
  · rw [if_neg h, if_neg (by rw [n]; exact h)]
theorem ht_absR {L : Nat} {q : Rat} (h : Ht L q) : Ht L (absR q) := by
  unfold absR
  split
  · exact ht_neg h
  · exact h
theorem all_of : ∀ {ys : List D}, (∀ y ∈ ys, y = .bool true) → allD (.list ys) = some (.val (.bool true)) := fun {ys} h => by
  have : ys = ys.map fun _ => .bool true := by
    conv => lhs; rw [← List.map_id ys]
    exact List.map_congr_left fun y hy => h y hy
  rw [this]
  exact all_true ys
theorem flatten_one {α : Type} (n : Nat) (x : α) : (List.replicate n [x]).flatten = List.replicate n x := by
  induction n with
  | zero => rfl
  | succ n ih => rw [List.replicate_succ, List.flatten_cons, ih]; rfl
theorem tot_rep (m : Nat) (q : Rat) : tot (List.replicate m q) = (m : Rat) * q := by
  induction m with
  | zero => simp [Rat.zero_mul]
  | succ m ih =>
    rw [List.replicate_succ, tot_cons, ih]
    have : ((m + 1 : Nat) : Rat) = (m : Rat) + 1 := by exact_mod_cast rfl
    rw [this]; grind
theorem quot_eq (m k : Nat) : (m : Rat) / (k : Rat) = Rat.divInt (m : Int) (k : Int) := by
  rw [div_eq]
  show Rat.divInt ((m : Int) * 1) (1 * (k : Int)) = _
  rw [Int.mul_one, Int.one_mul]
theorem map_id_of {α : Type} {f : α → α} : ∀ {l : List α}, (∀ x ∈ l, x = f x) → l = l.map f
  | [], _ => rfl
  | x :: l, h => by
    rw [List.map_cons, ← h x (List.mem_cons_self ..), ← map_id_of fun y hy => h y (List.mem_cons_of_mem _ hy)]
theorem HtA.mono {L M : Nat} {rs : List Rat} (h : HtA L rs) (l : L ≤ M) : HtA M rs := fun r hr => (h r hr).mono l
theorem mulD_rep {ds : List D} {k : Int} : mulD (.tuple ds) (.int k) = if -1000 ≤ k ∧ k ≤ 1000 ∧ ds.length ≤ 1000 then some (.val (.tuple (List.replicate k.toNat ds).flatten)) else none := rfl
end Z
/-! P, part 4: fractions over a known denominator, of a known size. -/
namespace Z
open PySem PySem.Spec PyProof.Rows L2
def Fr (D B : Nat) (q : Rat) : Prop := ∃ m : Int, q * (D : Rat) = (m : Rat) ∧ m.natAbs ≤ B * D
theorem natR_nz {n : Nat} (h : n ≠ 0) : (n : Rat) ≠ 0 := nat_nz h
theorem ratOfInt_add (a b : Int) : ((a + b : Int) : Rat) = (a : Rat) + (b : Rat) := Rat.intCast_add a b
theorem ratOfInt_mul (a b : Int) : ((a * b : Int) : Rat) = (a : Rat) * (b : Rat) := Rat.intCast_mul a b
theorem ratOfInt_neg (a : Int) : ((-a : Int) : Rat) = -(a : Rat) := Rat.intCast_neg a
theorem ratOfInt_sub (a b : Int) : ((a - b : Int) : Rat) = (a : Rat) - (b : Rat) := Rat.intCast_sub a b
theorem natR_mul (a b : Nat) : ((a * b : Nat) : Rat) = (a : Rat) * (b : Rat) := Rat.natCast_mul a b
theorem Fr.add {D B C : Nat} {p q : Rat} (h : Fr D B p) (g : Fr D C q) : Fr D (B + C) (p + q) := by
  obtain ⟨m, h1, h2⟩ := h
  obtain ⟨n, g1, g2⟩ := g
  refine ⟨m + n, ?_, ?_⟩
  · rw [ratOfInt_add, ← h1, ← g1]; grind
  · rw [Nat.add_mul]
    exact Nat.le_trans (Int.natAbs_add_le _ _) (by omega)
theorem Fr.sub {D B C : Nat} {p q : Rat} (h : Fr D B p) (g : Fr D C q) : Fr D (B + C) (p - q) := by
  obtain ⟨m, h1, h2⟩ := h
  obtain ⟨n, g1, g2⟩ := g
  refine ⟨m - n, ?_, ?_⟩
  · rw [ratOfInt_sub, ← h1, ← g1]; grind
  · rw [Nat.add_mul]
    exact Nat.le_trans (Int.natAbs_sub_le _ _) (by omega)
theorem Fr.neg {D B : Nat} {p : Rat} (h : Fr D B p) : Fr D B (-p) := by
  obtain ⟨m, h1, h2⟩ := h
  exact ⟨-m, by rw [ratOfInt_neg, ← h1]; grind, by rw [Int.natAbs_neg]; exact h2⟩
theorem Fr.abs {D B : Nat} {p : Rat} (h : Fr D B p) : Fr D B (absR p) := by
  unfold absR
  split
  · exact h.neg
  · exact h
theorem Fr.mul {D E B C : Nat} {p q : Rat} (h : Fr D B p) (g : Fr E C q) : Fr (D * E) (B * C) (p * q) := by
  obtain ⟨m, h1, h2⟩ := h
  obtain ⟨n, g1, g2⟩ := g
  refine ⟨m * n, ?_, ?_⟩
  · rw [ratOfInt_mul, ← h1, ← g1, natR_mul]; grind
  · rw [Int.natAbs_mul]
    have e : B * C * (D * E) = (B * D) * (C * E) := by
      rw [Nat.mul_assoc, Nat.mul_assoc, Nat.mul_left_comm C D E]
    rw [e]
    exact Nat.mul_le_mul h2 g2
theorem Fr.mono {D B C : Nat} {p : Rat} (h : Fr D B p) (l : B ≤ C) : Fr D C p := by
  obtain ⟨m, h1, h2⟩ := h
  exact ⟨m, h1, Nat.le_trans h2 (Nat.mul_le_mul_right _ l)⟩
theorem Fr.up {D B : Nat} {p : Rat} (h : Fr D B p) (k : Nat) : Fr (D * k) B p := by
  obtain ⟨m, h1, h2⟩ := h
  refine ⟨m * k, ?_, ?_⟩
  · rw [natR_mul, ratOfInt_mul, ← h1]
    have : ((k : Int) : Rat) = (k : Rat) := rfl
    rw [this]; grind
  · rw [Int.natAbs_mul, Int.natAbs_natCast, ← Nat.mul_assoc]
    exact Nat.mul_le_mul_right _ h2
theorem Fr.dvd {D E B : Nat} {p : Rat} (h : Fr D B p) (l : D ∣ E) : Fr E B p := by
  obtain ⟨k, rfl⟩ := l
  exact h.up k
theorem Fr.eq {D B : Nat} {p : Rat} (hD : D ≠ 0) (h : Fr D B p) : ∃ m : Int, p = Rat.divInt m (D : Int) ∧ m.natAbs ≤ B * D := by
  obtain ⟨m, h1, h2⟩ := h
  refine ⟨m, ?_, h2⟩
  have e : Rat.divInt m (D : Int) = (m : Rat) / (D : Rat) := by
    rw [div_eq]
    show _ = Rat.divInt (m * 1) (1 * (D : Int))
    rw [Int.mul_one, Int.one_mul]
  have := natR_nz hD
  rw [e]; grind
theorem Fr.ht {D B L : Nat} {p : Rat} (hD : D ≠ 0) (h : Fr D B p) (h1 : B * D < 2 ^ L) (h2 : D < 2 ^ L) : Ht L p := by
  obtain ⟨m, e, hm⟩ := h.eq hD
  rw [e]
  exact Ht.divInt hD (Nat.lt_of_le_of_lt hm h1) h2
theorem Fr.int {D B : Nat} {i : Int} (h : i.natAbs ≤ B) : Fr D B (i : Rat) := by
  refine ⟨i * D, ?_, ?_⟩
  · rw [ratOfInt_mul]; rfl
  · rw [Int.natAbs_mul, Int.natAbs_natCast]
    exact Nat.mul_le_mul_right _ h
theorem Fr.nat {D B : Nat} {i : Nat} (h : i ≤ B) : Fr D B (i : Rat) := Fr.int (i := (i : Int)) (by rw [Int.natAbs_natCast]; exact h)
theorem Fr.zero {D B : Nat} : Fr D B 0 := Fr.int (i := 0) (Nat.zero_le _)
theorem Fr.one {D B : Nat} (h : 1 ≤ B) : Fr D B 1 := Fr.int (i := 1) h
theorem Fr.divInt {a : Int} {b : Nat} (hb : b ≠ 0) {B : Nat} (h : a.natAbs ≤ B * b) : Fr b B (Rat.divInt a b) := by
  refine ⟨a, ?_, h⟩
  have e : Rat.divInt a (b : Int) = (a : Rat) / (b : Rat) := by
    rw [div_eq]
    show _ = Rat.divInt (a * 1) (1 * (b : Int))
    rw [Int.mul_one, Int.one_mul]
  have := natR_nz hb
  rw [e]; grind
theorem Fr.pow {D B : Nat} {p : Rat} (h : Fr D B p) : ∀ n : Nat, Fr (D ^ n) (B ^ n) (p ^ n)
  | 0 => by
    rw [Rat.pow_zero, Nat.pow_zero, Nat.pow_zero]
    exact Fr.one (Nat.le_refl _)
  | n + 1 => by
    rw [Rat.pow_succ, Nat.pow_succ, Nat.pow_succ]
    exact (h.pow n).mul h
theorem tot_fr {D B : Nat} : ∀ {rs : List Rat}, (∀ r ∈ rs, Fr D B r) → Fr D (rs.length * B) (tot rs)
  | [], _ => by simpa using Fr.zero
  | r :: rs, h => by
    rw [tot_cons, List.length_cons, Nat.add_mul, Nat.one_mul, Nat.add_comm]
    exact (h r (List.mem_cons_self ..)).add (tot_fr fun x hx => h x (List.mem_cons_of_mem _ hx))
end Z
/-! P, part 5: repr of nested whole numbers. -/
namespace Z
open PySem PySem.Spec PyProof.Rows L2
/-- nested tuples and lists of whole numbers of few bits, n deep, at most m parts each -/
def ShB (m : Nat) : Nat → D → Prop
  | 0, _ => False
  | _ + 1, .int i => i.natAbs.log2 < 1920
  | n + 1, .tuple ds => ds.length ≤ m ∧ ∀ d ∈ ds, ShB m n d
  | n + 1, .list ds => ds.length ≤ m ∧ ∀ d ∈ ds, ShB m n d
  | _ + 1, _ => False
def shL (m : Nat) : Nat → Nat
  | 0 => 0
  | n + 1 => 1921 + m * (shL m n + 2) + 2
theorem sh_all {ds : List D} (f : ∀ d ∈ ds, d.showable = true) : PyData.showableAll ds = true := by
  induction ds with
  | nil => simp [PyData.showableAll]
  | cons d ds ih => simp [PyData.showableAll, f d (List.mem_cons_self ..), ih fun x hx => f x (List.mem_cons_of_mem _ hx)]
theorem nd_all {ds : List D} (f : ∀ d ∈ ds, d.hasDict = false) : PyData.hasDictAll ds = false := by
  induction ds with
  | nil => simp [PyData.hasDictAll]
  | cons d ds ih => simp [PyData.hasDictAll, f d (List.mem_cons_self ..), ih fun x hx => f x (List.mem_cons_of_mem _ hx)]
theorem dp_all {ds : List D} {n : Nat} (f : ∀ d ∈ ds, d.depth ≤ n) : PyData.depthAll ds ≤ n := by
  induction ds with
  | nil => simp [PyData.depthAll]
  | cons d ds ih =>
    have h1 := f d (List.mem_cons_self ..)
    have h2 := ih fun x hx => f x (List.mem_cons_of_mem _ hx)
    simp only [PyData.depthAll]; omega
theorem piled_all {ds : List D} {n : Nat} (f : ∀ d ∈ ds, d.shown.length ≤ n) : piled (PyData.shownAll ds) ≤ ds.length * (n + 2) := by
  induction ds with
  | nil => simp [PyData.shownAll, piled]
  | cons d ds ih =>
    have h1 := f d (List.mem_cons_self ..)
    have h2 := ih fun x hx => f x (List.mem_cons_of_mem _ hx)
    simp only [PyData.shownAll]
    rw [piled_cons, List.length_cons, Nat.add_mul]; omega
theorem list_len (ts : List Str) : (listText ts).length ≤ piled ts + 2 := by
  unfold listText
  have ap : ∀ a b : Str, (a ++ b).length = a.length + b.length := fun a b => PySem.Str.length_append a b
  rw [ap]
  have e1 : (("]" : String) : Str).length = 1 := rfl
  have e0 : (("[" : String) : Str).length = 1 := rfl
  cases ts with
  | nil =>
    show (("[" : String) : Str).length + (("]" : String) : Str).length ≤ _
    rw [e0, e1]; omega
  | cons t ts =>
    have h := textFrom_length_pos ts 1 ((("[" : String) : Str) ++ (("" : String) : Str) ++ t) (by decide)
    show (textFrom 1 ((("[" : String) : Str) ++ (("" : String) : Str) ++ t) ts).length + (("]" : String) : Str).length ≤ _
    have e2 : (("" : String) : Str).length = 0 := rfl
    rw [h, ap, ap, e0, e1, e2, piled_cons]; omega
theorem ShB.facts {m : Nat} : ∀ (n : Nat) (d : D), ShB m n d → d.showable = true ∧ d.hasDict = false ∧ d.depth ≤ n ∧ d.shown.length ≤ shL m n
  | 0, _, h => h.elim
  | n + 1, .int i, h => by
    have h' : i.natAbs.log2 < 1920 := h
    refine ⟨by simp [PyData.showable, h'], by simp [PyData.hasDict], by simp [PyData.depth], ?_⟩
    have := int_text_len_1921 h'
    simp only [PyData.shown]
    unfold shL
    omega
  | n + 1, .tuple ds, h => by
    have h' : ds.length ≤ m ∧ ∀ d ∈ ds, ShB m n d := h
    have ih := fun d hd => ShB.facts n d (h'.2 d hd)
    refine ⟨by simp [PyData.showable, sh_all fun d hd => (ih d hd).1], by simp [PyData.hasDict, nd_all fun d hd => (ih d hd).2.1], ?_, ?_⟩
    · have := dp_all fun d hd => (ih d hd).2.2.1
      simp only [PyData.depth]; omega
    · have p := piled_all fun d hd => (ih d hd).2.2.2
      have t := fmt_text (PyData.shownAll ds)
      have l : ds.length * (shL m n + 2) ≤ m * (shL m n + 2) := Nat.mul_le_mul_right _ h'.1
      simp only [PyData.shown]
      have e : shL m (n + 1) = 1921 + m * (shL m n + 2) + 2 := rfl
      omega
  | n + 1, .list ds, h => by
    have h' : ds.length ≤ m ∧ ∀ d ∈ ds, ShB m n d := h
    have ih := fun d hd => ShB.facts n d (h'.2 d hd)
    refine ⟨by simp [PyData.showable, sh_all fun d hd => (ih d hd).1], by simp [PyData.hasDict, nd_all fun d hd => (ih d hd).2.1], ?_, ?_⟩
    · have := dp_all fun d hd => (ih d hd).2.2.1
      simp only [PyData.depth]; omega
    · have p := piled_all fun d hd => (ih d hd).2.2.2
      have t := list_len (PyData.shownAll ds)
      have l : ds.length * (shL m n + 2) ≤ m * (shL m n + 2) := Nat.mul_le_mul_right _ h'.1
      simp only [PyData.shown]
      have e : shL m (n + 1) = 1921 + m * (shL m n + 2) + 2 := rfl
      omega
  | _ + 1, .none, h => h.elim
  | _ + 1, .bool _, h => h.elim
  | _ + 1, .str _, h => h.elim
  | _ + 1, .dict _, h => h.elim
theorem repr_sh {m n : Nat} {d : D} (h : ShB m n d) (sq : isSeqD d = true) (hn : n ≤ 60) (hl : shL m n ≤ 1000000) : reprD d = some (.val (.str d.shown)) := by
  obtain ⟨h1, h2, h3, h4⟩ := h.facts n d
  have := sizeLine_big
  exact if_pos ⟨sq, h1, h2, by omega, by omega⟩
theorem sh_frac {m n L : Nat} {q : Rat} (h : Ht L q) (hL : L ≤ 1900) (hm : 2 ≤ m) : ShB m (n + 2) (frac q) := ⟨hm, fun d hd => by
  have small : ∀ k : Nat, k < 2 ^ L → k.log2 < 1920 := fun k hk => by
    by_cases h0 : k = 0
    · rw [h0]; decide
    · have := (Nat.log2_lt h0).mpr hk
      omega
  have : d = .int q.num ∨ d = .int q.den := by simpa [frac] using hd
  rcases this with rfl | rfl
  · exact small _ h.num
  · show ((q.den : Int)).natAbs.log2 < 1920
    rw [Int.natAbs_natCast]
    exact small _ h.den⟩
end Z
/-! P, part 6: the text of nested whole numbers can be compared. -/
namespace Z
open PySem PySem.Spec PyProof.Rows L2
def Okc (t : Str) : Prop := ∀ c ∈ t.cps.toList, c < 0x110000
theorem okc_app {a b : Str} (h : Okc a) (g : Okc b) : Okc (a ++ b) := fun c hc => by
  rcases mem_cps_append.mp hc with q | q
  · exact h c q
  · exact g c q
theorem okc_int (i : Int) : Okc (Str.ofString (toString i)) := fun c hc => by
  by_cases h : c ≠ 45 ∧ (c < 48 ∨ 57 < c)
  · exact absurd hc (int_text_free' c h i)
  · omega
instance (t : Str) : Decidable (Okc t) := by unfold Okc; infer_instance
theorem okc_sep : Okc (Str.ofString ", ") := by decide +kernel
theorem okc_none : Okc (Str.ofString "") := by decide +kernel
theorem okc_from : ∀ (ts : List Str) (k : Nat) (acc : Str), Okc acc → (∀ t ∈ ts, Okc t) → Okc (textFrom k acc ts)
  | [], _, _, h, _ => h
  | t :: ts, k, acc, h, g => okc_from ts (k + 1) _ (okc_app (okc_app h (by split; exact okc_sep; exact okc_none)) (g t (List.mem_cons_self ..))) fun x hx => g x (List.mem_cons_of_mem _ hx)
theorem okc_list {ts : List Str} (g : ∀ t ∈ ts, Okc t) : Okc (listText ts) := okc_app (okc_from ts 0 _ (show Okc (Str.ofString "[") by decide +kernel) g) (show Okc (Str.ofString "]") by decide +kernel)
theorem okc_join : ∀ {ts : List Str}, (∀ t ∈ ts, Okc t) → Okc (Str.join ", " ts)
  | [], _ => show Okc (Str.ofString "") by decide +kernel
  | [t], g => g t (List.mem_cons_self ..)
  | t :: u :: ts, g => okc_app (okc_app (g t (List.mem_cons_self ..)) okc_sep) (okc_join fun x hx => g x (List.mem_cons_of_mem _ hx))
theorem okc_tup {ts : List Str} (g : ∀ t ∈ ts, Okc t) : Okc (tupleText ts) := by
  unfold tupleText
  refine okc_app (okc_app (show Okc (Str.ofString "(") by decide +kernel) (okc_join g)) ?_
  split
  · exact (show Okc (Str.ofString ",)") by decide +kernel)
  · exact (show Okc (Str.ofString ")") by decide +kernel)
theorem okc_all {ds : List D} (f : ∀ d ∈ ds, Okc d.shown) : ∀ t ∈ PyData.shownAll ds, Okc t := by
  induction ds with
  | nil => intro t ht; simp [PyData.shownAll] at ht
  | cons d ds ih =>
    intro t ht
    simp only [PyData.shownAll, List.mem_cons] at ht
    rcases ht with rfl | ht
    · exact f d (List.mem_cons_self ..)
    · exact ih (fun x hx => f x (List.mem_cons_of_mem _ hx)) t ht
theorem ShB.okc {m : Nat} : ∀ (n : Nat) (d : D), ShB m n d → Okc d.shown
  | 0, _, h => h.elim
  | n + 1, .int i, h => by
    simp only [PyData.shown]
    exact okc_int i
  | n + 1, .tuple ds, h => by
    have h' : ds.length ≤ m ∧ ∀ d ∈ ds, ShB m n d := h
    simp only [PyData.shown]
    exact okc_tup (okc_all fun d hd => ShB.okc n d (h'.2 d hd))
  | n + 1, .list ds, h => by
    have h' : ds.length ≤ m ∧ ∀ d ∈ ds, ShB m n d := h
    simp only [PyData.shown]
    exact okc_list (okc_all fun d hd => ShB.okc n d (h'.2 d hd))
  | _ + 1, .none, h => h.elim
  | _ + 1, .bool _, h => h.elim
  | _ + 1, .str _, h => h.elim
  | _ + 1, .dict _, h => h.elim
theorem okc_shaped {t : Str} (h : Okc t) : okD (.str t) = true := by
  have : t.cps.all (· < 0x110000) = true := by
    rw [Array.all_eq_true_iff_forall_mem]
    intro c hc
    exact decide_eq_true (h c (by simpa using hc))
  simp [okD, SeqAt.shaped, PyData.canLay0, PyData.depth, PyData.strOk, PyData.hasDict, this]
theorem neD_self {d : D} (h : okD d = true) : neD d d = some (!PyData.eqv d d) := by
  unfold neD
  rw [h]; rfl
/-- a text is not unlike itself -/
theorem ne_same {t : Str} (h : Okc t) : neD (.str t) (.str t) = some false := by
  rw [neD_self (okc_shaped h)]
  simp [PyData.eqv]
theorem eq_same {t : Str} (h : Okc t) : eqD (.str t) (.str t) = some true := by
  unfold eqD
  rw [okc_shaped h]
  simp [PyData.eqv]
end Z
/-! P, part 7: raise, try, fields of errors, run by simp. -/
namespace Z
open PySem PySem.Spec PyProof.Rows L2
def raiseK (x f : Str) (ws : List W) : M SR := match ws with
  | [.val d] => fun s => .err ⟨x, some (f, d)⟩ s
  | _ => M.fail
@[simp] theorem raiseK_val {x f : Str} {d : D} {s : S} : raiseK x f [.val d] s = .err ⟨x, some (f, d)⟩ s := (rfl)
@[simp] theorem sRaise_app {x f : Str} {ma : M (List W)} {s : S} : sRaise x f ma s = runK (ma s) (k := ⟨raiseK x f⟩) := (rfl)
def tryO (qs : List Cm) (o : Out S SR) : Out S SR := match o with
  | .err x s' => tryC qs x s'
  | r => r
@[simp] theorem tryO_ok {qs : List Cm} {r : SR} {s : S} : tryO qs (.ok r s) = .ok r s := (rfl)
@[simp] theorem tryO_err {qs : List Cm} {x : Exc} {s : S} : tryO qs (.err x s) = tryC qs x s := (rfl)
@[simp] theorem sTry_app {qs : List Cm} {mb : M SR} {s : S} : sTry qs mb s = tryO qs (mb s) := (rfl)
def tryL (q : Cm) (qs : List Cm) (x : Exc) (s : S) (o : Option Bool) : Out S SR := match o with
  | some true => takeC q x s
  | some false => tryC qs x s
  | none => .fail
@[simp] theorem tryL_t {q : Cm} {qs : List Cm} {x : Exc} {s : S} : tryL q qs x s (some true) = takeC q x s := (rfl)
@[simp] theorem tryL_f {q : Cm} {qs : List Cm} {x : Exc} {s : S} : tryL q qs x s (some false) = tryC qs x s := (rfl)
@[simp] theorem tryC_nil {x : Exc} {s : S} : tryC [] x s = .err x s := (rfl)
@[simp] theorem tryC_cons {tab : List (Str × Bool)} {i : Option Nat} {mh : M SR} {qs : List Cm} {x : Exc} {s : S} : tryC (⟨tab, i, mh⟩ :: qs) x s = tryL ⟨tab, i, mh⟩ qs x s (tab.lookup x.name) := by
  show (match tab.lookup x.name with | some true => takeC ⟨tab, i, mh⟩ x | some false => tryC qs x | none => M.fail) s = _
  cases tab.lookup x.name with
  | none => rfl
  | some b => cases b <;> rfl
@[simp] theorem takeC_some {tab : List (Str × Bool)} {i : Nat} {mh : M SR} {x : Exc} {env : List (Option W)} {st : Store} : takeC ⟨tab, some i, mh⟩ x ⟨env, st⟩ = if i < env.length then freeR i (noErr (mh ⟨env.set i (some (.exc x)), st⟩)) else .fail := (rfl)
@[simp] theorem takeC_none {tab : List (Str × Bool)} {mh : M SR} {x : Exc} {s : S} : takeC ⟨tab, none, mh⟩ x s = noErr (mh s) := (rfl)
@[simp] theorem noErr_o {r : SR} {s : S} : noErr (.ok r s) = .ok r s := (rfl)
@[simp] theorem freeR_o {i : Nat} {r : SR} {env : List (Option W)} {st : Store} : freeR i (.ok r ⟨env, st⟩) = .ok r ⟨env.set i none, st⟩ := (rfl)
def lkX (s : S) : Option Exc → Out S Exc
  | some x => .ok x s
  | none => .fail
def lkE (s : S) : Option (Option W) → Out S Exc
  | some (some w) => lkX s (excS w)
  | _ => .fail
@[simp] theorem lkE_exc {s : S} {x : Exc} : lkE s (some (some (.exc x))) = .ok x s := (rfl)
@[simp] theorem lookE_peek {i : Nat} {env : List (Option W)} {st : Store} : lookE (.peek i) ⟨env, st⟩ = lkE ⟨env, st⟩ env[i]? := by
  unfold lookE excOf lkE
  simp only
  generalize env[i]? = o
  cases o with
  | none => rfl
  | some o =>
    cases o with
    | none => rfl
    | some w =>
      show (match excS w with | some x => _ | none => _) = lkX _ (excS w)
      cases excS w <;> rfl
@[simp] theorem lookE_exc {x : Exc} {s : S} : lookE (.exc x) s = .ok x s := (rfl)
def xfO (cs : List Str) (f : Str) (x : Exc) : Option W := if x.name ∈ cs then (match x.arg with
  | some (g, d) => if g = f then some (.val d) else none
  | none => none) else none
@[simp] theorem eXf_app {cs : List Str} {f : Str} {m : M W} {s : S} : eXf cs f m s = runK (m s) (k := ⟨fun w => lookE w >>= fun x => ofO (xfO cs f x)⟩) := (rfl)
@[simp] theorem eIsE_app {tab : List (Str × Bool)} {m : M W} {s : S} : eIsE tab m s = runK (m s) (k := ⟨fun w => lookE w >>= fun x => ofO ((tab.lookup x.name).map fun b => .val (.bool b))⟩) := (rfl)
@[simp] theorem eDct0_app {s : S} : eDct0 s = .ok (.val (.dict [])) s := (rfl)
/-- what can be shown and compared -/
def okShow (d : D) : Bool := isSeqD d && (d.showable && (!d.hasDict && (decide (d.depth ≤ 60) && (decide (d.shown.length ≤ 1000000) && decide (Okc d.shown)))))
theorem show_same {d : D} (h : okShow d = true) : reprD d = some (.val (.str d.shown)) ∧ neD (.str d.shown) (.str d.shown) = some false := by
  unfold okShow at h
  simp only [Bool.and_eq_true, decide_eq_true_eq, Bool.not_eq_true'] at h
  obtain ⟨h1, h2, h3, h4, h5, h6⟩ := h
  have := sizeLine_big
  exact ⟨if_pos ⟨h1, h2, h3, h4, by omega⟩, ne_same h6⟩
end Z
/-! P, part 8: errors as data. -/
namespace Z
open PySem PySem.Spec PyProof.Rows L2
@[simp] theorem lkE_enc {s : S} {n f : Str} {d : D} : lkE s (some (some (.val (encE n f d)))) = .ok ⟨n, some (f, d)⟩ s := (rfl)
@[simp] theorem lkE_enc0 {s : S} {n : Str} : lkE s (some (some (.val (encE0 n)))) = .ok ⟨n, none⟩ s := (rfl)
@[simp] theorem lookE_enc {s : S} {n f : Str} {d : D} : lookE (.val (encE n f d)) s = .ok ⟨n, some (f, d)⟩ s := (rfl)
@[simp] theorem lookE_enc0 {s : S} {n : Str} : lookE (.val (encE0 n)) s = .ok ⟨n, none⟩ s := (rfl)
def newEK (x f : Str) (ws : List W) : M W := match ws with
  | [.val d] => Pure.pure (.val (encE x f d))
  | _ => M.fail
@[simp] theorem newEK_val {x f : Str} {d : D} {s : S} : newEK x f [.val d] s = .ok (.val (encE x f d)) s := (rfl)
@[simp] theorem eNewE_app {x f : Str} {ma : M (List W)} {s : S} : eNewE x f ma s = runK (ma s) (k := ⟨newEK x f⟩) := (rfl)
@[simp] theorem eNewE0_app {x : Str} {s : S} : eNewE0 x s = .ok (.val (encE0 x)) s := (rfl)
theorem eqDD_ok {d e : D} (h : ∀ l, d ≠ .dict l) : eqDD d e = eqD d e := by
  unfold eqDD
  split
  · exact absurd rfl (h [])
  · rfl
@[simp] theorem eqDD_int {i j : Int} : eqDD (.int i) (.int j) = eqD (.int i) (.int j) := (rfl)
@[simp] theorem eqDD_bool {i j : Bool} : eqDD (.bool i) (.bool j) = eqD (.bool i) (.bool j) := (rfl)
@[simp] theorem eqDD_dict : eqDD (.dict []) (.dict []) = some true := (rfl)
end Z
/-! Draws of the laws k60 and on: a pool of three numbers, a modulus c. -/
namespace Z
open PySem PySem.Spec PyProof.Rows L2
def drawB (c : Int) : M SR := (seq (sIf (opCmp gtD (opLk ixD (eVar 0) (eC (.int 1))) (eC (.int 0))) (seq (sUnp (tTupG 2 (tConsG (tSubG (eVar 0) (eC (.int 1))) (tConsG (tName 2) tNilG))) (opLk divmodD (opLk ixD (eVar 0) (eC (.int 1))) (eVar 1)))
      (sRet (eVar 2))) sNext)
      (seq (sUnp (tSubG (eVar 0) (eC (.int 2))) (opBin addD (opLk ixD (eVar 0) (eC (.int 2))) (eC (.int 1))))
      (seq (sAsg 3 (op1 intD (opLk ixD (eVar 0) (eC (.int 0)))))
      (seq (sUnp (tSubG (eVar 0) (eC (.int 0))) (opBin modD (op1 intD (opBin addD (opBin addD (opBin mulD (eVar 3) (opBin addD (opBin modD (eVar 3) (eC (.int 20011))) (eC (.int 30011)))) (opBin mulD (eC (.int 70001)) (opLk ixD (eVar 0) (eC (.int 2))))) (eC (.int 9)))) (eC (.int c))))
      (sRet (opBin modD (op1 intD (opBin fdivD (opLk ixD (eVar 0) (eC (.int 0))) (eC (.int 128)))) (eVar 1)))))))
def drawF (c : Int) : Fn := fnOf 4 (drawB c)
/-- at most k draws so far -/
structure Pool (st : Store) (r k : Nat) : Prop where
  at_ : ∃ a b c : Int, st[r]? = some [.int b, .int a, .int c] ∧ 0 ≤ b ∧ b < 2 ^ 31 ∧ 0 ≤ c ∧ c ≤ k
theorem Pool.mono {st : Store} {r k l : Nat} (h : Pool st r k) (hl : k ≤ l) : Pool st r l := by
  obtain ⟨a, b, c, h1, h2, h3, h4, h5⟩ := h.at_
  exact ⟨a, b, c, h1, h2, h3, h4, by omega⟩
theorem s_draw {M : Int} (hM : 0 < M) (hM2 : M ≤ 2 ^ 31) {st : Store} {r k m : Nat} (h : Pool st r k) (hm : 1 ≤ m) (hm2 : m ≤ 1000) (hk : k ≤ 1000000) : ∃ (d : Nat) (st' : Store), drawF M [.ref r, .val (.int m)] st = .ok (.val (.int d)) st' ∧ d < m ∧ Pool st' r (k + 1) := by
  obtain ⟨a, b, c, h1, h2, h3, h4, h5⟩ := h.at_
  have hr : r < st.length := (List.getElem?_eq_some_iff.mp h1).1
  have hm' : (0 : Int) < m := by omega
  by_cases ha : 0 < a
  · have e3 : 0 ≤ a % (m : Int) := Int.emod_nonneg _ (by omega)
    have e4 : a % (m : Int) < m := Int.emod_lt_of_pos _ hm'
    refine ⟨(a % m).toNat, st.set r [.int b, .int (a / m), .int c], ?_, by omega, ⟨a / m, b, c, by rw [List.getElem?_set_self hr], h2, h3, h4, by omega⟩⟩
    have e1 := divmodD_int (i := a) (j := m) (by omega) (by omega)
    have e2 : ∀ env : List (Option W), modSt (α := Unit) r (fun ds => Option.map (fun j => (ds.set j (.int (a / m)), ())) (ixN ds.length 1)) ⟨env, st⟩ = .ok () ⟨env, st.set r [.int b, .int (a / m), .int c]⟩ :=
      fun env => modSt_of h1 (by simp [ixn_1])
    simp [drawF, drawB, fnOf_app, h1, ha, e1]
    rw [e2]
    simp
    omega
  · let b' : Int := (b * (b.fmod 20011 + 30011) + 70001 * (c + 1) + 9).fmod M
    have n1 : 0 ≤ b' := Int.fmod_nonneg_of_pos _ hM
    have n2 : b' < M := Int.fmod_lt_of_pos _ hM
    have q0 : 0 ≤ b.fmod 20011 := Int.fmod_nonneg_of_pos _ (by decide)
    have q3 : b.fmod 20011 < 20011 := Int.fmod_lt_of_pos _ (by decide)
    have e3 : 0 ≤ (b'.fdiv 128).fmod (m : Int) := Int.fmod_nonneg_of_pos _ hm'
    have e4 : (b'.fdiv 128).fmod (m : Int) < m := Int.fmod_lt_of_pos _ hm'
    let st1 := st.set r [.int b, .int a, .int (c + 1)]
    let st2 := st1.set r [.int b', .int a, .int (c + 1)]
    have q1 : st1[r]? = some [.int b, .int a, .int (c + 1)] := List.getElem?_set_self hr
    have q2 : st2[r]? = some [.int b', .int a, .int (c + 1)] := List.getElem?_set_self (by rw [List.length_set]; exact hr)
    refine ⟨((b'.fdiv 128).fmod m).toNat, st2, ?_, by omega, ⟨a, b', c + 1, q2, n1, by omega, by omega, by omega⟩⟩
    have f1 : ∀ env : List (Option W), modSt (α := Unit) r (fun ds => Option.map (fun j => (ds.set j (.int (c + 1)), ())) (ixN ds.length 2)) ⟨env, st⟩ = .ok () ⟨env, st1⟩ :=
      fun env => modSt_of h1 (by simp [ixn_2])
    have f2 : ∀ env : List (Option W), modSt (α := Unit) r (fun ds => Option.map (fun j => (ds.set j (.int b'), ())) (ixN ds.length 0)) ⟨env, st1⟩ = .ok () ⟨env, st2⟩ :=
      fun env => modSt_of q1 (by simp [ixn_00])
    have z1 := mulD_sz (i := b) (j := b.fmod 20011 + 30011) (sz_of (L := 31) (by omega) (by decide)) (sz_of (L := 31) (by omega) (by decide))
    have z2 := mulD_sz (i := 70001) (j := c + 1) (sz_of (L := 31) (by decide) (by decide)) (sz_of (L := 31) (by omega) (by decide))
    have z3 := fdivD_sz (i := b') (j := 128) (by decide) (sz_of (L := 31) (by decide) (by decide))
    have hm0 : m ≠ 0 := by omega
    have hM0 : M ≠ 0 := by omega
    simp [drawF, drawB, fnOf_app, h1, ha]
    rw [f1]
    simp [q1, z1, z2, hM0]
    rw [f2]
    simp [q2, z3, hm0]
    omega
end Z
/-! The pools of the laws k60 and on. -/
namespace Z
open PySem PySem.Spec PyProof.Rows L2
def poolL (m d : Int) : M SR := (sAsg 3 (opBin modD (op1 intD (opBin addD (opBin addD (opBin mulD (eVar 3) (eC (.int 48271))) (opBin modD (op1 intD (eVar 4)) (eC (.int m)))) (eC (.int d)))) (eC (.int m))))
def poolB (c1 c2 m d : Int) : M SR := (seq (sPar [2, 3] (hCons (eIf (opCmp ltD (eVar 1) (op1 lenD (eVar 0))) (op1 intD (opLk ixD (eVar 0) (eVar 1))) (opBin addD (opBin mulD (eC (.int 70001)) (eVar 1)) (eC (.int c1)))) (hCons (opBin addD (eC (.int c2)) (opBin mulD (eC (.int 5087)) (eVar 1))) aNil)))
      (seq (sFor (srcV (eSl (eVar 0) pNone (pSome (eC (.int 63))))) (tName 4) (poolL m d))
      (sRet (eNew (aCons (opBin modD (op1 intD (opBin addD (eVar 3) (opBin mulD (eVar 2) (eC (.int 1013))))) (eC (.int m))) (aCons (eIf (cOr (opCmp ltD (eVar 2) (eC (.int 0))) (opCmp geD (eVar 2) (opBin powD (eC (.int 10)) (eC (.int 18))))) (op1 absD (eVar 2)) (eC (.int 0))) (aCons (eC (.int 0)) aNil)))))))
def poolF (c1 c2 m d : Int) : Fn := fnOf 5 (poolB c1 c2 m d)
theorem pool_loop {ns : List Int} {turn m d : Int} {own : W} {st : Store} (hm : 0 < m) (hm2 : m ≤ 2 ^ 31) : ∀ (zs : List Int) (b : Int) (e : Option W), 0 ≤ b → b < 2 ^ 31 →
    ∃ b' e', 0 ≤ b' ∧ b' < 2 ^ 31 ∧ loopF (tName 4) (poolL m d) (zs.map .int) ⟨[some (.scr ns), some (.val (.int turn)), some own, some (.val (.int b)), e], st⟩ = .ok .next ⟨[some (.scr ns), some (.val (.int turn)), some own, some (.val (.int b')), e'], st⟩
  | [], b, e, h1, h2 => ⟨b, e, h1, h2, rfl⟩
  | z :: zs, b, e, h1, h2 => by
    let b1 : Int := (b * 48271 + z.fmod m + d).fmod m
    have n1 : 0 ≤ b1 := Int.fmod_nonneg_of_pos _ hm
    have n2 : b1 < m := Int.fmod_lt_of_pos _ hm
    obtain ⟨b', e', h3, h4, h5⟩ := pool_loop (ns := ns) (turn := turn) (own := own) (st := st) hm hm2 zs b1 (some (.val (.int z))) n1 (by omega)
    refine ⟨b', e', h3, h4, ?_⟩
    have z1 := mulD_sz (i := b) (j := 48271) (sz_of (L := 31) (by omega) (by decide)) (sz_of (L := 31) (by decide) (by decide))
    have hm0 : m ≠ 0 := by omega
    rw [List.map_cons, loopF_step (s' := ⟨[some (.scr ns), some (.val (.int turn)), some own, some (.val (.int b1)), some (.val (.int z))], st⟩), h5]
    simp [poolL, z1, hm0]
    rfl
theorem mulD_ib {i j : Int} (h : (Builtin.Int.intBits i : Int) + (Builtin.Int.intBits j : Int) ≤ 134217728) : mulD (.int i) (.int j) = some (.val (.int (i * j))) := if_pos h
theorem s_pool {c1 c2 m d : Int} {ns : List Int} {turn : Nat} (hm : 0 < m) (hm2 : m ≤ 2 ^ 31) (hc1 : 0 ≤ c1 ∧ c1 ≤ 100000) (hc2 : 0 ≤ c2 ∧ c2 ≤ 10000000) (hl : turn ≤ 3) (hn : ns.length ≤ 63) (hb : ∀ z ∈ ns, Builtin.Int.intBits z ≤ 1048576) {st : Store} : ∃ r st', poolF c1 c2 m d [.scr ns, .val (.int turn)] st = .ok (.ref r) st' ∧ Pool st' r 0 := by
  have hs := sizeLine_big
  have h3 : 3 ≤ sizeLine := by omega
  have hm0 : m ≠ 0 := by omega
  have key : ∀ o : Int, ∃ b' e', 0 ≤ b' ∧ b' < 2 ^ 31 ∧ loopF (tName 4) (poolL m d) (cutL (ns.map .int) none (some 63)) ⟨[some (.scr ns), some (.val (.int turn)), some (.val (.int o)), some (.val (.int (c2 + 5087 * (turn : Int)))), none], st⟩ = .ok .next ⟨[some (.scr ns), some (.val (.int turn)), some (.val (.int o)), some (.val (.int b')), e'], st⟩ := fun o => by
    rw [cut_map]
    exact pool_loop hm hm2 _ _ _ (by omega) (by omega)
  have z1 := mulD_sz (i := 5087) (j := turn) (sz_of (L := 31) (by decide) (by decide)) (sz_of (L := 31) (by omega) (by decide))
  have z2 := mulD_sz (i := 70001) (j := turn) (sz_of (L := 31) (by decide) (by decide)) (sz_of (L := 31) (by omega) (by decide))
  have fin : ∀ (b' a : Int), Pool (st ++ [[.int (b'.fmod m), .int a, .int 0]]) st.length 0 := fun b' a => ⟨a, b'.fmod m, 0, by simp, Int.fmod_nonneg_of_pos _ hm, by have := Int.fmod_lt_of_pos b' hm; omega, by decide, by decide⟩
  by_cases h : turn < ns.length
  · obtain ⟨b', e', g1, g2, g3⟩ := key ns[turn]
    have x := ixD_list (ds := ns.map PyData.int) (i := turn) (d := .int ns[turn]) (atI_nat (by simp [h]))
    have z3 : mulD (.int ns[turn]) (.int 1013) = some (.val (.int (ns[turn] * 1013))) := by
      have q := hb ns[turn] (List.getElem_mem _)
      have q2 : Builtin.Int.intBits 1013 = 10 := by decide +kernel
      exact mulD_ib (by rw [q2]; omega)
    by_cases ho1 : ns[turn] < 0
    · refine ⟨st.length, _, ?_, fin (b' + ns[turn] * 1013) (if ns[turn] < 0 then -ns[turn] else ns[turn])⟩
      simp [poolF, poolB, fnOf_app, h, x, z1]
      rw [g3]
      simp [ho1, h3, z3, hm0]
    · by_cases ho2 : 1000000000000000000 ≤ ns[turn]
      · refine ⟨st.length, _, ?_, fin (b' + ns[turn] * 1013) (if ns[turn] < 0 then -ns[turn] else ns[turn])⟩
        simp [poolF, poolB, fnOf_app, h, x, z1]
        rw [g3]
        simp [ho1, ho2, h3, z3, hm0]
      · refine ⟨st.length, _, ?_, fin (b' + ns[turn] * 1013) 0⟩
        simp [poolF, poolB, fnOf_app, h, x, z1]
        rw [g3]
        simp [ho1, ho2, h3, z3, hm0]
  · obtain ⟨b', e', g1, g2, g3⟩ := key (70001 * (turn : Int) + c1)
    have z3 := mulD_sz (i := 70001 * (turn : Int) + c1) (j := 1013) (sz_of (L := 31) (by omega) (by decide)) (sz_of (L := 31) (by decide) (by decide))
    refine ⟨st.length, _, ?_, fin (b' + (70001 * (turn : Int) + c1) * 1013) 0⟩
    have ho1 : ¬ 70001 * (turn : Int) + c1 < 0 := by omega
    have ho2 : ¬ 1000000000000000000 ≤ 70001 * (turn : Int) + c1 := by omega
    simp [poolF, poolB, fnOf_app, h, z1, z2]
    rw [g3]
    simp [ho1, ho2, h3, z3, hm0]
/-- how many turns a law takes -/
theorem turns_of (n : Nat) : ∃ m : Nat, m ≤ 3 ∧ (if (if (3 : Int) < n then (3 : Int) else n) > 2 then (if (3 : Int) < n then (3 : Int) else n) else 2) = (m : Int) := by
  by_cases h1 : (3 : Int) < n
  · exact ⟨3, by decide, by simp [h1]⟩
  · by_cases h2 : (n : Int) > 2
    · exact ⟨3, by decide, by simp [h1]; omega⟩
    · exact ⟨2, by decide, by simp [h1]; omega⟩
end Z
namespace K00
open PySem PySem.Spec PyProof.Rows L2 Z
def top (i : Nat) : Stmt := PySem.Challenge.pw_evendraws_k00_errors_each_of_its_own.main.body.getD i (.Pass ⟨0, 0, 0, 0⟩)
def b__law_draw : M SR := (seq (sIf (opCmp gtD (opLk ixD (eVar 0) (eC (.int 1))) (eC (.int 0))) (seq (sUnp (tTupG 2 (tConsG (tSubG (eVar 0) (eC (.int 1))) (tConsG (tName 2) tNilG))) (opLk divmodD (opLk ixD (eVar 0) (eC (.int 1))) (eVar 1)))
      (sRet (eVar 2))) sNext)
      (seq (sUnp (tSubG (eVar 0) (eC (.int 2))) (opBin addD (opLk ixD (eVar 0) (eC (.int 2))) (eC (.int 1))))
      (seq (sAsg 3 (op1 intD (opLk ixD (eVar 0) (eC (.int 0)))))
      (seq (sUnp (tSubG (eVar 0) (eC (.int 0))) (opBin modD (op1 intD (opBin addD (opBin addD (opBin mulD (eVar 3) (opBin addD (opBin modD (eVar 3) (eC (.int 20011))) (eC (.int 30011)))) (opBin mulD (eC (.int 70001)) (opLk ixD (eVar 0) (eC (.int 2))))) (eC (.int 9)))) (eC (.int 2147483629))))
      (sRet (opBin modD (op1 intD (opBin fdivD (opLk ixD (eVar 0) (eC (.int 0))) (eC (.int 128)))) (eVar 1)))))))
def m__law_draw : Fn := fnOf 4 b__law_draw
def b__law_pick : M SR := (sRet (opLk ixD (eVar 1) (eCallS 2 m__law_draw (aCons (eVar 0) (aCons (op1 lenD (eVar 1)) aNil)))))
def m__law_pick : Fn := fnOf 2 b__law_pick
def b__law_held : M SR := (seq (sIf (opCmp eqD (eVar 0) (eC (.int 0))) (sRet (eIf (opTruth (eVar 2)) (eNewE "InvalidCell" "given" (aCons (eVar 1) aNil)) (eNewE "InvalidCell" "given" (aCons (eVar 1) aNil)))) sNext)
      (seq (sIf (opCmp eqD (eVar 0) (eC (.int 1))) (sRet (eIf (opTruth (eVar 2)) (eNewE "InvalidTrees" "given" (aCons (eVar 1) aNil)) (eNewE "InvalidTrees" "given" (aCons (eVar 1) aNil)))) sNext)
      (seq (sIf (opCmp eqD (eVar 0) (eC (.int 2))) (sRet (eIf (opTruth (eVar 2)) (eNewE "InvalidFraction" "given" (aCons (eVar 1) aNil)) (eNewE "InvalidFraction" "given" (aCons (eVar 1) aNil)))) sNext)
      (seq (sIf (opCmp eqD (eVar 0) (eC (.int 3))) (sRet (eIf (opTruth (eVar 2)) (eNewE "InvalidNumber" "given" (aCons (eVar 1) aNil)) (eNewE "InvalidNumber" "given" (aCons (eVar 1) aNil)))) sNext)
      (seq (sIf (opCmp eqD (eVar 0) (eC (.int 4))) (sRet (eIf (opTruth (eVar 2)) (eNewE "InvalidWorld" "given" (aCons (eVar 1) aNil)) (eNewE "InvalidWorld" "given" (aCons (eVar 1) aNil)))) sNext)
      (seq (sIf (opCmp eqD (eVar 0) (eC (.int 5))) (sRet (eIf (opTruth (eVar 2)) (eNewE "InvalidPlay" "given" (aCons (eVar 1) aNil)) (eNewE "InvalidPlay" "given" (aCons (eVar 1) aNil)))) sNext)
      (seq (sIf (opCmp eqD (eVar 0) (eC (.int 6))) (sRet (eIf (opTruth (eVar 2)) (eNewE "InvalidShape" "given" (aCons (eVar 1) aNil)) (eNewE "InvalidShape" "given" (aCons (eVar 1) aNil)))) sNext)
      (seq (sIf (opCmp eqD (eVar 0) (eC (.int 7))) (sRet (eIf (opTruth (eVar 2)) (eNewE "InvalidLine" "given" (aCons (eVar 1) aNil)) (eNewE "InvalidLine" "given" (aCons (eVar 1) aNil)))) sNext)
      (seq (sIf (opCmp eqD (eVar 0) (eC (.int 8))) (sRet (eIf (opTruth (eVar 2)) (eNewE "NotADesk" "given" (aCons (eVar 1) aNil)) (eNewE "NotADesk" "given" (aCons (eVar 1) aNil)))) sNext)
      (sRet (eIf (opTruth (eVar 2)) (eNewE "NotNow" "given" (aCons (eVar 1) aNil)) (eNewE "NotNow" "given" (aCons (eVar 1) aNil)))))))))))))
def m__law_held : Fn := fnOf 3 b__law_held
def b__law_placed : M SR := (seq (sIf (opCmp eqD (eVar 0) (eC (.int 0))) (sRet (eIf (opTruth (eVar 2)) (eNewE "InvalidText" "index" (aCons (eVar 1) aNil)) (eNewE "InvalidText" "index" (aCons (eVar 1) aNil)))) sNext)
      (seq (sIf (opCmp eqD (eVar 0) (eC (.int 1))) (sRet (eIf (opTruth (eVar 2)) (eNewE "InvalidPlan" "index" (aCons (eVar 1) aNil)) (eNewE "InvalidPlan" "index" (aCons (eVar 1) aNil)))) sNext)
      (seq (sIf (opCmp eqD (eVar 0) (eC (.int 2))) (sRet (eIf (opTruth (eVar 2)) (eNewE "Misfit" "index" (aCons (eVar 1) aNil)) (eNewE "Misfit" "index" (aCons (eVar 1) aNil)))) sNext)
      (seq (sIf (opCmp eqD (eVar 0) (eC (.int 3))) (sRet (eIf (opTruth (eVar 2)) (eNewE "InvalidCode" "index" (aCons (eVar 1) aNil)) (eNewE "InvalidCode" "index" (aCons (eVar 1) aNil)))) sNext)
      (seq (sIf (opCmp eqD (eVar 0) (eC (.int 4))) (sRet (eIf (opTruth (eVar 2)) (eNewE "InvalidRow" "index" (aCons (eVar 1) aNil)) (eNewE "InvalidRow" "index" (aCons (eVar 1) aNil)))) sNext)
      (seq (sIf (opCmp eqD (eVar 0) (eC (.int 5))) (sRet (eIf (opTruth (eVar 2)) (eNewE "InvalidPapers" "index" (aCons (eVar 1) aNil)) (eNewE "InvalidPapers" "index" (aCons (eVar 1) aNil)))) sNext)
      (sRet (eIf (opTruth (eVar 2)) (eNewE "Broken" "index" (aCons (eVar 1) aNil)) (eNewE "Broken" "index" (aCons (eVar 1) aNil))))))))))
def m__law_placed : Fn := fnOf 3 b__law_placed
def b__law_made : M SR := (seq (sAsg 3 (eIf (opCmp ltD (eVar 0) (eC (.int 10))) (eCallS 3 m__law_held (aCons (eVar 0) (aCons (eVar 1) (aCons (eVar 2) aNil)))) (eCallS 3 m__law_placed (aCons (opBin subD (eVar 0) (eC (.int 10))) (aCons (eVar 1) (aCons (eVar 2) aNil))))))
      (sRet (eTup (aCons (eVar 3) (aCons (eIf (opCmp ltD (eVar 0) (eC (.int 10))) (eXf ["InvalidCell", "InvalidFraction", "InvalidLine", "InvalidNumber", "InvalidPlay", "InvalidShape", "InvalidTrees", "InvalidWorld", "NotADesk", "NotNow"] "given" (eVar 3)) (eXf ["Broken", "InvalidCode", "InvalidPapers", "InvalidPlan", "InvalidRow", "InvalidText", "Misfit"] "index" (eVar 3))) aNil)))))
def m__law_made : Fn := fnOf 4 b__law_made
def el__law_kinds_of_1 : M W := (eVar 2)
def b__law_kinds_of : M SR := (seq (sAsg 1 (eLst (aCons (eIsE [("Broken", false), ("DrawError", false), ("InvalidCell", true), ("InvalidCode", false), ("InvalidFraction", false), ("InvalidLine", false), ("InvalidNumber", false), ("InvalidPapers", false), ("InvalidPlan", false), ("InvalidPlay", false), ("InvalidRow", false), ("InvalidShape", false), ("InvalidText", false), ("InvalidTrees", false), ("InvalidWorld", false), ("Misfit", false), ("NotADesk", false), ("NotNow", false), ("NothingToUndo", false), ("TooMany", false)] (eVar 0)) (aCons (eIsE [("Broken", false), ("DrawError", false), ("InvalidCell", false), ("InvalidCode", false), ("InvalidFraction", false), ("InvalidLine", false), ("InvalidNumber", false), ("InvalidPapers", false), ("InvalidPlan", false), ("InvalidPlay", false), ("InvalidRow", false), ("InvalidShape", false), ("InvalidText", false), ("InvalidTrees", true), ("InvalidWorld", false), ("Misfit", false), ("NotADesk", false), ("NotNow", false), ("NothingToUndo", false), ("TooMany", false)] (eVar 0)) (aCons (eIsE [("Broken", false), ("DrawError", false), ("InvalidCell", false), ("InvalidCode", false), ("InvalidFraction", true), ("InvalidLine", false), ("InvalidNumber", false), ("InvalidPapers", false), ("InvalidPlan", false), ("InvalidPlay", false), ("InvalidRow", false), ("InvalidShape", false), ("InvalidText", false), ("InvalidTrees", false), ("InvalidWorld", false), ("Misfit", false), ("NotADesk", false), ("NotNow", false), ("NothingToUndo", false), ("TooMany", false)] (eVar 0)) (aCons (eIsE [("Broken", false), ("DrawError", false), ("InvalidCell", false), ("InvalidCode", false), ("InvalidFraction", false), ("InvalidLine", false), ("InvalidNumber", true), ("InvalidPapers", false), ("InvalidPlan", false), ("InvalidPlay", false), ("InvalidRow", false), ("InvalidShape", false), ("InvalidText", false), ("InvalidTrees", false), ("InvalidWorld", false), ("Misfit", false), ("NotADesk", false), ("NotNow", false), ("NothingToUndo", false), ("TooMany", false)] (eVar 0)) (aCons (eIsE [("Broken", false), ("DrawError", false), ("InvalidCell", false), ("InvalidCode", false), ("InvalidFraction", false), ("InvalidLine", false), ("InvalidNumber", false), ("InvalidPapers", false), ("InvalidPlan", false), ("InvalidPlay", false), ("InvalidRow", false), ("InvalidShape", false), ("InvalidText", false), ("InvalidTrees", false), ("InvalidWorld", true), ("Misfit", false), ("NotADesk", false), ("NotNow", false), ("NothingToUndo", false), ("TooMany", false)] (eVar 0)) aNil)))))))
      (seq (sAsg 1 (opBin addD (eVar 1) (eLst (aCons (eIsE [("Broken", false), ("DrawError", false), ("InvalidCell", false), ("InvalidCode", false), ("InvalidFraction", false), ("InvalidLine", false), ("InvalidNumber", false), ("InvalidPapers", false), ("InvalidPlan", false), ("InvalidPlay", true), ("InvalidRow", false), ("InvalidShape", false), ("InvalidText", false), ("InvalidTrees", false), ("InvalidWorld", false), ("Misfit", false), ("NotADesk", false), ("NotNow", false), ("NothingToUndo", false), ("TooMany", false)] (eVar 0)) (aCons (eIsE [("Broken", false), ("DrawError", false), ("InvalidCell", false), ("InvalidCode", false), ("InvalidFraction", false), ("InvalidLine", false), ("InvalidNumber", false), ("InvalidPapers", false), ("InvalidPlan", false), ("InvalidPlay", false), ("InvalidRow", false), ("InvalidShape", true), ("InvalidText", false), ("InvalidTrees", false), ("InvalidWorld", false), ("Misfit", false), ("NotADesk", false), ("NotNow", false), ("NothingToUndo", false), ("TooMany", false)] (eVar 0)) (aCons (eIsE [("Broken", false), ("DrawError", false), ("InvalidCell", false), ("InvalidCode", false), ("InvalidFraction", false), ("InvalidLine", true), ("InvalidNumber", false), ("InvalidPapers", false), ("InvalidPlan", false), ("InvalidPlay", false), ("InvalidRow", false), ("InvalidShape", false), ("InvalidText", false), ("InvalidTrees", false), ("InvalidWorld", false), ("Misfit", false), ("NotADesk", false), ("NotNow", false), ("NothingToUndo", false), ("TooMany", false)] (eVar 0)) (aCons (eIsE [("Broken", false), ("DrawError", false), ("InvalidCell", false), ("InvalidCode", false), ("InvalidFraction", false), ("InvalidLine", false), ("InvalidNumber", false), ("InvalidPapers", false), ("InvalidPlan", false), ("InvalidPlay", false), ("InvalidRow", false), ("InvalidShape", false), ("InvalidText", false), ("InvalidTrees", false), ("InvalidWorld", false), ("Misfit", false), ("NotADesk", true), ("NotNow", false), ("NothingToUndo", false), ("TooMany", false)] (eVar 0)) (aCons (eIsE [("Broken", false), ("DrawError", false), ("InvalidCell", false), ("InvalidCode", false), ("InvalidFraction", false), ("InvalidLine", false), ("InvalidNumber", false), ("InvalidPapers", false), ("InvalidPlan", false), ("InvalidPlay", false), ("InvalidRow", false), ("InvalidShape", false), ("InvalidText", false), ("InvalidTrees", false), ("InvalidWorld", false), ("Misfit", false), ("NotADesk", false), ("NotNow", true), ("NothingToUndo", false), ("TooMany", false)] (eVar 0)) aNil))))))))
      (seq (sAsg 1 (opBin addD (eVar 1) (eLst (aCons (eIsE [("Broken", false), ("DrawError", false), ("InvalidCell", false), ("InvalidCode", false), ("InvalidFraction", false), ("InvalidLine", false), ("InvalidNumber", false), ("InvalidPapers", false), ("InvalidPlan", false), ("InvalidPlay", false), ("InvalidRow", false), ("InvalidShape", false), ("InvalidText", true), ("InvalidTrees", false), ("InvalidWorld", false), ("Misfit", false), ("NotADesk", false), ("NotNow", false), ("NothingToUndo", false), ("TooMany", false)] (eVar 0)) (aCons (eIsE [("Broken", false), ("DrawError", false), ("InvalidCell", false), ("InvalidCode", false), ("InvalidFraction", false), ("InvalidLine", false), ("InvalidNumber", false), ("InvalidPapers", false), ("InvalidPlan", true), ("InvalidPlay", false), ("InvalidRow", false), ("InvalidShape", false), ("InvalidText", false), ("InvalidTrees", false), ("InvalidWorld", false), ("Misfit", false), ("NotADesk", false), ("NotNow", false), ("NothingToUndo", false), ("TooMany", false)] (eVar 0)) aNil)))))
      (seq (sAsg 1 (opBin addD (eVar 1) (eLst (aCons (eIsE [("Broken", false), ("DrawError", false), ("InvalidCell", false), ("InvalidCode", false), ("InvalidFraction", false), ("InvalidLine", false), ("InvalidNumber", false), ("InvalidPapers", false), ("InvalidPlan", false), ("InvalidPlay", false), ("InvalidRow", false), ("InvalidShape", false), ("InvalidText", false), ("InvalidTrees", false), ("InvalidWorld", false), ("Misfit", true), ("NotADesk", false), ("NotNow", false), ("NothingToUndo", false), ("TooMany", false)] (eVar 0)) (aCons (eIsE [("Broken", false), ("DrawError", false), ("InvalidCell", false), ("InvalidCode", true), ("InvalidFraction", false), ("InvalidLine", false), ("InvalidNumber", false), ("InvalidPapers", false), ("InvalidPlan", false), ("InvalidPlay", false), ("InvalidRow", false), ("InvalidShape", false), ("InvalidText", false), ("InvalidTrees", false), ("InvalidWorld", false), ("Misfit", false), ("NotADesk", false), ("NotNow", false), ("NothingToUndo", false), ("TooMany", false)] (eVar 0)) (aCons (eIsE [("Broken", false), ("DrawError", false), ("InvalidCell", false), ("InvalidCode", false), ("InvalidFraction", false), ("InvalidLine", false), ("InvalidNumber", false), ("InvalidPapers", false), ("InvalidPlan", false), ("InvalidPlay", false), ("InvalidRow", true), ("InvalidShape", false), ("InvalidText", false), ("InvalidTrees", false), ("InvalidWorld", false), ("Misfit", false), ("NotADesk", false), ("NotNow", false), ("NothingToUndo", false), ("TooMany", false)] (eVar 0)) (aCons (eIsE [("Broken", false), ("DrawError", false), ("InvalidCell", false), ("InvalidCode", false), ("InvalidFraction", false), ("InvalidLine", false), ("InvalidNumber", false), ("InvalidPapers", true), ("InvalidPlan", false), ("InvalidPlay", false), ("InvalidRow", false), ("InvalidShape", false), ("InvalidText", false), ("InvalidTrees", false), ("InvalidWorld", false), ("Misfit", false), ("NotADesk", false), ("NotNow", false), ("NothingToUndo", false), ("TooMany", false)] (eVar 0)) (aCons (eIsE [("Broken", true), ("DrawError", false), ("InvalidCell", false), ("InvalidCode", false), ("InvalidFraction", false), ("InvalidLine", false), ("InvalidNumber", false), ("InvalidPapers", false), ("InvalidPlan", false), ("InvalidPlay", false), ("InvalidRow", false), ("InvalidShape", false), ("InvalidText", false), ("InvalidTrees", false), ("InvalidWorld", false), ("Misfit", false), ("NotADesk", false), ("NotNow", false), ("NothingToUndo", false), ("TooMany", false)] (eVar 0)) aNil))))))))
      (seq (sAsg 1 (opBin addD (eVar 1) (eLst (aCons (eIsE [("Broken", false), ("DrawError", false), ("InvalidCell", false), ("InvalidCode", false), ("InvalidFraction", false), ("InvalidLine", false), ("InvalidNumber", false), ("InvalidPapers", false), ("InvalidPlan", false), ("InvalidPlay", false), ("InvalidRow", false), ("InvalidShape", false), ("InvalidText", false), ("InvalidTrees", false), ("InvalidWorld", false), ("Misfit", false), ("NotADesk", false), ("NotNow", false), ("NothingToUndo", false), ("TooMany", true)] (eVar 0)) (aCons (eIsE [("Broken", false), ("DrawError", false), ("InvalidCell", false), ("InvalidCode", false), ("InvalidFraction", false), ("InvalidLine", false), ("InvalidNumber", false), ("InvalidPapers", false), ("InvalidPlan", false), ("InvalidPlay", false), ("InvalidRow", false), ("InvalidShape", false), ("InvalidText", false), ("InvalidTrees", false), ("InvalidWorld", false), ("Misfit", false), ("NotADesk", false), ("NotNow", false), ("NothingToUndo", true), ("TooMany", false)] (eVar 0)) aNil)))))
      (sRet (eLc [2, 3] (srcA enumW (aCons (eVar 1) aNil)) (tTupG 2 (tConsG (tName 2) (tConsG (tName 3) tNilG))) (opTruth (eVar 3)) el__law_kinds_of_1)))))))
def m__law_kinds_of : Fn := fnOf 4 b__law_kinds_of
def el__law_same_1 : M W := (eVar 2)
def b__law_same (rec_ : Fn) : M SR := (seq (sIf (opTruth (op1 (isiT ["tuple", "list"]) (eVar 0))) (seq (sIf (cOr (opCmp neD (op1 (isi1 "tuple") (eVar 0)) (op1 (isi1 "tuple") (eVar 1))) (cOr (opCmp neD (op1 (isi1 "list") (eVar 0)) (op1 (isi1 "list") (eVar 1))) (opCmp neD (op1 lenD (eVar 0)) (op1 lenD (eVar 1))))) (sRet (eC (.bool false))) sNext)
      (sRet (opCmpV eqDD (eLc [2] (srcA rangeW (aCons (op1 lenD (eVar 0)) aNil)) (tName 2) (cNot (opTruth (eCallS 2 rec_ (aCons (opLk ixD (eVar 0) (eVar 2)) (aCons (opLk ixD (eVar 1) (eVar 2)) aNil))))) el__law_same_1) (eLst aNil)))) sNext)
      (seq (sIf (cOr (opTruth (op1 (isi1 "bool") (eVar 0))) (opTruth (op1 (isi1 "bool") (eVar 1)))) (sRet (eAnd (op1 (isi1 "bool") (eVar 0)) (eAnd (op1 (isi1 "bool") (eVar 1)) (opCmpV eqDD (eVar 0) (eVar 1))))) sNext)
      (sRet (eAnd (opCmpV eqDD (op1 (isi1 "int") (eVar 0)) (op1 (isi1 "int") (eVar 1))) (eAnd (opCmpV eqDD (op1 (isi1 "str") (eVar 0)) (op1 (isi1 "str") (eVar 1))) (opCmpV eqDD (eVar 0) (eVar 1)))))))
def m__law_same : Nat → Fn
  | 0 => fnOf 3 sFail
  | n + 1 => fnOf 3 (b__law_same (m__law_same n))
def lp__law_right_1 : M SR := (seq (sAsg 3 (eCallS 2 m__law_pick (aCons (eVar 0) (aCons (eVar 1) aNil))))
      (seq (sUnp (tTupG 2 (tConsG (tName 4) (tConsG (tName 5) tNilG))) (eCallS 3 m__law_made (aCons (eVar 2) (aCons (eVar 3) (aCons (opCmpV eqD (eCallS 2 m__law_draw (aCons (eVar 0) (aCons (eC (.int 2)) aNil))) (eC (.int 0))) aNil)))))
      (sIf (cOr (cNot (opTruth (eCallS 2 (m__law_same 4) (aCons (eVar 5) (aCons (eVar 3) aNil))))) (cOr (opCmp neD (eCallS 1 m__law_kinds_of (aCons (eVar 4) aNil)) (eLst (aCons (eVar 2) aNil))) (cOr (cNot (opTruth (eIsE [("Broken", true), ("DrawError", true), ("InvalidCell", true), ("InvalidCode", true), ("InvalidFraction", true), ("InvalidLine", true), ("InvalidNumber", true), ("InvalidPapers", true), ("InvalidPlan", true), ("InvalidPlay", true), ("InvalidRow", true), ("InvalidShape", true), ("InvalidText", true), ("InvalidTrees", true), ("InvalidWorld", true), ("Misfit", true), ("NotADesk", true), ("NotNow", true), ("NothingToUndo", true), ("TooMany", true)] (eVar 4)))) (cNot (opTruth (eIsE [("Broken", true), ("DrawError", true), ("InvalidCell", true), ("InvalidCode", true), ("InvalidFraction", true), ("InvalidLine", true), ("InvalidNumber", true), ("InvalidPapers", true), ("InvalidPlan", true), ("InvalidPlay", true), ("InvalidRow", true), ("InvalidShape", true), ("InvalidText", true), ("InvalidTrees", true), ("InvalidWorld", true), ("Misfit", true), ("NotADesk", true), ("NotNow", true), ("NothingToUndo", true), ("TooMany", true)] (eVar 4))))))) (sRet (eC (.bool false))) sNext)))
def lp__law_right_2 : M SR := (sIf (cOr (opCmp neD (eCallS 1 m__law_kinds_of (aCons (eVar 4) aNil)) (eLst (aCons (eVar 2) aNil))) (cNot (opTruth (eIsE [("Broken", true), ("DrawError", true), ("InvalidCell", true), ("InvalidCode", true), ("InvalidFraction", true), ("InvalidLine", true), ("InvalidNumber", true), ("InvalidPapers", true), ("InvalidPlan", true), ("InvalidPlay", true), ("InvalidRow", true), ("InvalidShape", true), ("InvalidText", true), ("InvalidTrees", true), ("InvalidWorld", true), ("Misfit", true), ("NotADesk", true), ("NotNow", true), ("NothingToUndo", true), ("TooMany", true)] (eVar 4))))) (sRet (eC (.bool false))) sNext)
def b__law_right : M SR := (seq (sAsg 1 (eLst (aCons (eC .none) (aCons (eC (.int 0)) (aCons (eNeg (eC (.int 1))) (aCons (eC (.bool true)) (aCons (eC (.str "")) (aCons (eC (.str "a = 1\n")) (aCons (eTup aNil) (aCons (eTup (aCons (eC (.int 1)) (aCons (eC (.int 2)) aNil))) (aCons (eLst (aCons (eC (.int 3)) aNil)) (aCons eDct0 (aCons (opBin powD (eC (.int 10)) (eC (.int 29))) (aCons (eCallS 2 m__law_draw (aCons (eVar 0) (aCons (eC (.int 99)) aNil))) aNil))))))))))))))
      (seq (sFor (srcA rangeW (aCons (eC (.int 17)) aNil)) (tName 2) lp__law_right_1)
      (seq (sFor (srcV (eLst (aCons (eTup (aCons (eC (.int 17)) (aCons (eNewE0 "TooMany") aNil))) (aCons (eTup (aCons (eC (.int 18)) (aCons (eNewE0 "NothingToUndo") aNil))) aNil)))) (tTupG 2 (tConsG (tName 2) (tConsG (tName 4) tNilG))) lp__law_right_2)
      (sRet (eAnd (eIsE [("Broken", true), ("DrawError", true), ("InvalidCell", true), ("InvalidCode", true), ("InvalidFraction", true), ("InvalidLine", true), ("InvalidNumber", true), ("InvalidPapers", true), ("InvalidPlan", true), ("InvalidPlay", true), ("InvalidRow", true), ("InvalidShape", true), ("InvalidText", true), ("InvalidTrees", true), ("InvalidWorld", true), ("Misfit", true), ("NotADesk", true), ("NotNow", true), ("NothingToUndo", true), ("TooMany", true)] (eNewE0 "DrawError")) (opCmpV eqD (eCallS 1 m__law_kinds_of (aCons (eNewE0 "DrawError") aNil)) (eLst aNil)))))))
def m__law_right : Fn := fnOf 6 b__law_right
def lp__law_pool_1 : M SR := (sAsg 3 (opBin modD (op1 intD (opBin addD (opBin addD (opBin mulD (eVar 3) (eC (.int 48271))) (opBin modD (op1 intD (eVar 4)) (eC (.int 2147483629)))) (eC (.int 3210)))) (eC (.int 2147483629))))
def b__law_pool : M SR := (seq (sPar [2, 3] (hCons (eIf (opCmp ltD (eVar 1) (op1 lenD (eVar 0))) (op1 intD (opLk ixD (eVar 0) (eVar 1))) (opBin addD (opBin mulD (eC (.int 70001)) (eVar 1)) (eC (.int 26500)))) (hCons (opBin addD (eC (.int 3463000)) (opBin mulD (eC (.int 5087)) (eVar 1))) aNil)))
      (seq (sFor (srcV (eSl (eVar 0) pNone (pSome (eC (.int 63))))) (tName 4) lp__law_pool_1)
      (sRet (eNew (aCons (opBin modD (op1 intD (opBin addD (eVar 3) (opBin mulD (eVar 2) (eC (.int 1013))))) (eC (.int 2147483629))) (aCons (eIf (cOr (opCmp ltD (eVar 2) (eC (.int 0))) (opCmp geD (eVar 2) (opBin powD (eC (.int 10)) (eC (.int 18))))) (op1 absD (eVar 2)) (eC (.int 0))) (aCons (eC (.int 0)) aNil)))))))
def m__law_pool : Fn := fnOf 5 b__law_pool
def lp_law_1 : M SR := (sIf (cNot (opTruth (eCallS 1 m__law_right (aCons (eCallS 2 m__law_pool (aCons (eVar 0) (aCons (eVar 1) aNil))) aNil)))) (sRet (eC (.bool false))) sNext)
def b_law : M SR := (seq (sFor (srcA rangeW (aCons (opLk max2D (eC (.int 2)) (opLk min2D (op1 lenD (eVar 0)) (eC (.int 3)))) aNil)) (tName 1) lp_law_1)
      (sRet (eC (.bool true))))
def m_law : Fn := fnOf 2 b_law
end K00
namespace K00
open PySem PySem.Spec PyProof.Rows L2 Z
variable {st : Store} {d : D} {b : Bool}
theorem kinds_0 : m__law_kinds_of [.val (encE "InvalidCell" "given" d)] st = .ok (.own [.int 0]) st := by kernel_rfl
theorem kinds_1 : m__law_kinds_of [.val (encE "InvalidTrees" "given" d)] st = .ok (.own [.int 1]) st := by kernel_rfl
theorem kinds_2 : m__law_kinds_of [.val (encE "InvalidFraction" "given" d)] st = .ok (.own [.int 2]) st := by kernel_rfl
theorem kinds_3 : m__law_kinds_of [.val (encE "InvalidNumber" "given" d)] st = .ok (.own [.int 3]) st := by kernel_rfl
theorem kinds_4 : m__law_kinds_of [.val (encE "InvalidWorld" "given" d)] st = .ok (.own [.int 4]) st := by kernel_rfl
theorem kinds_5 : m__law_kinds_of [.val (encE "InvalidPlay" "given" d)] st = .ok (.own [.int 5]) st := by kernel_rfl
theorem kinds_6 : m__law_kinds_of [.val (encE "InvalidShape" "given" d)] st = .ok (.own [.int 6]) st := by kernel_rfl
theorem kinds_7 : m__law_kinds_of [.val (encE "InvalidLine" "given" d)] st = .ok (.own [.int 7]) st := by kernel_rfl
theorem kinds_8 : m__law_kinds_of [.val (encE "NotADesk" "given" d)] st = .ok (.own [.int 8]) st := by kernel_rfl
theorem kinds_9 : m__law_kinds_of [.val (encE "NotNow" "given" d)] st = .ok (.own [.int 9]) st := by kernel_rfl
theorem kinds_10 : m__law_kinds_of [.val (encE "InvalidText" "index" d)] st = .ok (.own [.int 10]) st := by kernel_rfl
theorem kinds_11 : m__law_kinds_of [.val (encE "InvalidPlan" "index" d)] st = .ok (.own [.int 11]) st := by kernel_rfl
theorem kinds_12 : m__law_kinds_of [.val (encE "Misfit" "index" d)] st = .ok (.own [.int 12]) st := by kernel_rfl
theorem kinds_13 : m__law_kinds_of [.val (encE "InvalidCode" "index" d)] st = .ok (.own [.int 13]) st := by kernel_rfl
theorem kinds_14 : m__law_kinds_of [.val (encE "InvalidRow" "index" d)] st = .ok (.own [.int 14]) st := by kernel_rfl
theorem kinds_15 : m__law_kinds_of [.val (encE "InvalidPapers" "index" d)] st = .ok (.own [.int 15]) st := by kernel_rfl
theorem kinds_16 : m__law_kinds_of [.val (encE "Broken" "index" d)] st = .ok (.own [.int 16]) st := by kernel_rfl
theorem kinds_17 : m__law_kinds_of [.val (encE0 "TooMany")] st = .ok (.own [.int 17]) st := by kernel_rfl
theorem kinds_18 : m__law_kinds_of [.val (encE0 "NothingToUndo")] st = .ok (.own [.int 18]) st := by kernel_rfl
theorem kinds_d : m__law_kinds_of [.val (encE0 "DrawError")] st = .ok (.own []) st := by kernel_rfl
theorem made_0 : m__law_made [.val (.int 0), .val d, .val (.bool b)] st = .ok (.val (.tuple [encE "InvalidCell" "given" d, d])) st := by cases b <;> kernel_rfl
theorem made_1 : m__law_made [.val (.int 1), .val d, .val (.bool b)] st = .ok (.val (.tuple [encE "InvalidTrees" "given" d, d])) st := by cases b <;> kernel_rfl
theorem made_2 : m__law_made [.val (.int 2), .val d, .val (.bool b)] st = .ok (.val (.tuple [encE "InvalidFraction" "given" d, d])) st := by cases b <;> kernel_rfl
theorem made_3 : m__law_made [.val (.int 3), .val d, .val (.bool b)] st = .ok (.val (.tuple [encE "InvalidNumber" "given" d, d])) st := by cases b <;> kernel_rfl
theorem made_4 : m__law_made [.val (.int 4), .val d, .val (.bool b)] st = .ok (.val (.tuple [encE "InvalidWorld" "given" d, d])) st := by cases b <;> kernel_rfl
theorem made_5 : m__law_made [.val (.int 5), .val d, .val (.bool b)] st = .ok (.val (.tuple [encE "InvalidPlay" "given" d, d])) st := by cases b <;> kernel_rfl
theorem made_6 : m__law_made [.val (.int 6), .val d, .val (.bool b)] st = .ok (.val (.tuple [encE "InvalidShape" "given" d, d])) st := by cases b <;> kernel_rfl
theorem made_7 : m__law_made [.val (.int 7), .val d, .val (.bool b)] st = .ok (.val (.tuple [encE "InvalidLine" "given" d, d])) st := by cases b <;> kernel_rfl
theorem made_8 : m__law_made [.val (.int 8), .val d, .val (.bool b)] st = .ok (.val (.tuple [encE "NotADesk" "given" d, d])) st := by cases b <;> kernel_rfl
theorem made_9 : m__law_made [.val (.int 9), .val d, .val (.bool b)] st = .ok (.val (.tuple [encE "NotNow" "given" d, d])) st := by cases b <;> kernel_rfl
theorem made_10 : m__law_made [.val (.int 10), .val d, .val (.bool b)] st = .ok (.val (.tuple [encE "InvalidText" "index" d, d])) st := by cases b <;> kernel_rfl
theorem made_11 : m__law_made [.val (.int 11), .val d, .val (.bool b)] st = .ok (.val (.tuple [encE "InvalidPlan" "index" d, d])) st := by cases b <;> kernel_rfl
theorem made_12 : m__law_made [.val (.int 12), .val d, .val (.bool b)] st = .ok (.val (.tuple [encE "Misfit" "index" d, d])) st := by cases b <;> kernel_rfl
theorem made_13 : m__law_made [.val (.int 13), .val d, .val (.bool b)] st = .ok (.val (.tuple [encE "InvalidCode" "index" d, d])) st := by cases b <;> kernel_rfl
theorem made_14 : m__law_made [.val (.int 14), .val d, .val (.bool b)] st = .ok (.val (.tuple [encE "InvalidRow" "index" d, d])) st := by cases b <;> kernel_rfl
theorem made_15 : m__law_made [.val (.int 15), .val d, .val (.bool b)] st = .ok (.val (.tuple [encE "InvalidPapers" "index" d, d])) st := by cases b <;> kernel_rfl
theorem made_16 : m__law_made [.val (.int 16), .val d, .val (.bool b)] st = .ok (.val (.tuple [encE "Broken" "index" d, d])) st := by cases b <;> kernel_rfl
theorem same_0 : m__law_same 4 [.val (.none), .val (.none)] st = .ok (.val (.bool true)) st := by kernel_rfl
theorem same_1 : m__law_same 4 [.val (.int 0), .val (.int 0)] st = .ok (.val (.bool true)) st := by kernel_rfl
theorem same_2 : m__law_same 4 [.val (.int (-1)), .val (.int (-1))] st = .ok (.val (.bool true)) st := by kernel_rfl
theorem same_3 : m__law_same 4 [.val (.bool true), .val (.bool true)] st = .ok (.val (.bool true)) st := by kernel_rfl
theorem same_4 : m__law_same 4 [.val (.str ""), .val (.str "")] st = .ok (.val (.bool true)) st := by kernel_rfl
theorem same_5 : m__law_same 4 [.val (.str "a = 1\n"), .val (.str "a = 1\n")] st = .ok (.val (.bool true)) st := by kernel_rfl
theorem same_6 : m__law_same 4 [.val (.tuple []), .val (.tuple [])] st = .ok (.val (.bool true)) st := by kernel_rfl
theorem same_7 : m__law_same 4 [.val (.tuple [.int 1, .int 2]), .val (.tuple [.int 1, .int 2])] st = .ok (.val (.bool true)) st := by kernel_rfl
theorem same_8 : m__law_same 4 [.val (.list [.int 3]), .val (.list [.int 3])] st = .ok (.val (.bool true)) st := by kernel_rfl
theorem same_9 : m__law_same 4 [.val (.dict []), .val (.dict [])] st = .ok (.val (.bool true)) st := by kernel_rfl
theorem same_10 : m__law_same 4 [.val (.int (10 ^ 29)), .val (.int (10 ^ 29))] st = .ok (.val (.bool true)) st := by kernel_rfl
end K00
namespace K00
open PySem PySem.Spec PyProof.Rows L2 Z
variable {st : Store} {d : D} {b : Bool}
def vals (n : Nat) : List D := [.none, .int 0, .int (-1), .bool true, .str "", .str "a = 1\n", .tuple [], .tuple [.int 1, .int 2], .list [.int 3], .dict [], .int 100000000000000000000000000000, .int n]
theorem same_n {n : Nat} : m__law_same 4 [.val (.int n), .val (.int n)] st = .ok (.val (.bool true)) st := by
  have e : eqD (PyData.bool true) (PyData.bool true) = some true := by kernel_rfl
  have e' : eqD (PyData.bool false) (PyData.bool false) = some true := by kernel_rfl
  simp [m__law_same, b__law_same, fnOf_app, e, e']
theorem same_of {n : Nat} {v : D} (h : v ∈ vals n) : m__law_same 4 [.val v, .val v] st = .ok (.val (.bool true)) st := by
  simp only [vals, List.mem_cons, List.mem_nil_iff, or_false] at h
  rcases h with rfl | rfl | rfl | rfl | rfl | rfl | rfl | rfl | rfl | rfl | rfl | rfl
  · exact same_0
  · exact same_1
  · exact same_2
  · exact same_3
  · exact same_4
  · exact same_5
  · exact same_6
  · exact same_7
  · exact same_8
  · exact same_9
  · exact same_10
  · exact same_n
theorem ne_one {j : Int} : neD (.list [.int j]) (.list [.int j]) = some false := by
  rw [neD_self (by simp [okD, SeqAt.shaped, PyData.canLay0, PyData.canLayAll0, PyData.depth, PyData.depthAll, PyData.hasDict, PyData.hasDictAll])]
  simp [PyData.eqv, PyData.eqvAll]
abbrev tabT : List (Str × Bool) := [("Broken", true), ("DrawError", true), ("InvalidCell", true), ("InvalidCode", true), ("InvalidFraction", true), ("InvalidLine", true), ("InvalidNumber", true), ("InvalidPapers", true), ("InvalidPlan", true), ("InvalidPlay", true), ("InvalidRow", true), ("InvalidShape", true), ("InvalidText", true), ("InvalidTrees", true), ("InvalidWorld", true), ("Misfit", true), ("NotADesk", true), ("NotNow", true), ("NothingToUndo", true), ("TooMany", true)]
structure Cls (j : Nat) (c f : Str) : Prop where
  made : ∀ (d : D) (b : Bool) (st : Store), m__law_made [.val (.int j), .val d, .val (.bool b)] st = .ok (.val (.tuple [encE c f d, d])) st
  kinds : ∀ (d : D) (st : Store), m__law_kinds_of [.val (encE c f d)] st = .ok (.own [.int j]) st
  is : List.lookup c [("Broken", true), ("DrawError", true), ("InvalidCell", true), ("InvalidCode", true), ("InvalidFraction", true), ("InvalidLine", true), ("InvalidNumber", true), ("InvalidPapers", true), ("InvalidPlan", true), ("InvalidPlay", true), ("InvalidRow", true), ("InvalidShape", true), ("InvalidText", true), ("InvalidTrees", true), ("InvalidWorld", true), ("Misfit", true), ("NotADesk", true), ("NotNow", true), ("NothingToUndo", true), ("TooMany", true)] = some true
theorem cls : ∀ j : Nat, j < 17 → ∃ c f, Cls j c f
  | 0, _ => ⟨"InvalidCell", "given", fun _ _ _ => made_0, fun _ _ => kinds_0, by decide +kernel⟩
  | 1, _ => ⟨"InvalidTrees", "given", fun _ _ _ => made_1, fun _ _ => kinds_1, by decide +kernel⟩
  | 2, _ => ⟨"InvalidFraction", "given", fun _ _ _ => made_2, fun _ _ => kinds_2, by decide +kernel⟩
  | 3, _ => ⟨"InvalidNumber", "given", fun _ _ _ => made_3, fun _ _ => kinds_3, by decide +kernel⟩
  | 4, _ => ⟨"InvalidWorld", "given", fun _ _ _ => made_4, fun _ _ => kinds_4, by decide +kernel⟩
  | 5, _ => ⟨"InvalidPlay", "given", fun _ _ _ => made_5, fun _ _ => kinds_5, by decide +kernel⟩
  | 6, _ => ⟨"InvalidShape", "given", fun _ _ _ => made_6, fun _ _ => kinds_6, by decide +kernel⟩
  | 7, _ => ⟨"InvalidLine", "given", fun _ _ _ => made_7, fun _ _ => kinds_7, by decide +kernel⟩
  | 8, _ => ⟨"NotADesk", "given", fun _ _ _ => made_8, fun _ _ => kinds_8, by decide +kernel⟩
  | 9, _ => ⟨"NotNow", "given", fun _ _ _ => made_9, fun _ _ => kinds_9, by decide +kernel⟩
  | 10, _ => ⟨"InvalidText", "index", fun _ _ _ => made_10, fun _ _ => kinds_10, by decide +kernel⟩
  | 11, _ => ⟨"InvalidPlan", "index", fun _ _ _ => made_11, fun _ _ => kinds_11, by decide +kernel⟩
  | 12, _ => ⟨"Misfit", "index", fun _ _ _ => made_12, fun _ _ => kinds_12, by decide +kernel⟩
  | 13, _ => ⟨"InvalidCode", "index", fun _ _ _ => made_13, fun _ _ => kinds_13, by decide +kernel⟩
  | 14, _ => ⟨"InvalidRow", "index", fun _ _ _ => made_14, fun _ _ => kinds_14, by decide +kernel⟩
  | 15, _ => ⟨"InvalidPapers", "index", fun _ _ _ => made_15, fun _ _ => kinds_15, by decide +kernel⟩
  | 16, _ => ⟨"Broken", "index", fun _ _ _ => made_16, fun _ _ => kinds_16, by decide +kernel⟩
  | n + 17, h => absurd h (by omega)
theorem s_pick {r k : Nat} {ds : List D} (h : Pool st r k) (h1 : 1 ≤ ds.length) (h2 : ds.length ≤ 1000) (hk : k ≤ 1000000) : ∃ v st', m__law_pick [.ref r, .val (.list ds)] st = .ok (.val v) st' ∧ v ∈ ds ∧ Pool st' r (k + 1) := by
  obtain ⟨i, st', e, hi, p⟩ := s_draw (M := 2147483629) (by decide) (by decide) h h1 h2 hk
  have x := ixD_list (ds := ds) (i := i) (d := ds[i]) (atI_nat (by simp [hi]))
  refine ⟨ds[i], st', ?_, List.getElem_mem _, p⟩
  have e' : m__law_draw [.ref r, .val (.int ds.length)] st = .ok (.val (.int i)) st' := e
  simp [m__law_pick, b__law_pick, fnOf_app, e', x]
theorem vals_len {n : Nat} : (vals n).length = 12 := rfl
theorem turn1 {r k n j : Nat} {v1 a3 a4 a5 : Option W} (hj : j < 17) (hv : v1 = some (.own (vals n)) ∨ v1 = some (.val (.list (vals n)))) (h : Pool st r k) (hk : k ≤ 900000) :
    ∃ b3 b4 b5 st', lp__law_right_1 ⟨[some (.ref r), v1, some (.val (.int j)), a3, a4, a5], st⟩ = .ok .next ⟨[some (.ref r), some (.val (.list (vals n))), some (.val (.int j)), b3, b4, b5], st'⟩ ∧ Pool st' r (k + 2) := by
  have hsz := sizeLine_big
  have h2 : 2 ≤ sizeLine := by omega
  have h1 : 1 ≤ sizeLine := by omega
  obtain ⟨c, f, C⟩ := cls j hj
  obtain ⟨v, st1, e1, hm, p1⟩ := s_pick h (ds := vals n) (by rw [vals_len]; decide) (by rw [vals_len]; decide) (by omega)
  obtain ⟨i, st2, e2, hi, p2⟩ := s_draw (M := 2147483629) (m := 2) (by decide) (by decide) p1 (by decide) (by decide) (by omega)
  have e2' : m__law_draw [.ref r, .val (.int 2)] st1 = .ok (.val (.int i)) st2 := e2
  have e3 := same_of (st := st2) hm
  have e4 : ∀ b, m__law_made [.val (.int j), .val v, .val (.bool b)] st2 = .ok (.val (.tuple [encE c f v, v])) st2 := fun b => C.made v b st2
  have e5 := C.kinds v st2
  have e6 := C.is
  refine ⟨some (.val v), some (.val (encE c f v)), some (.val v), st2, ?_, p2⟩
  rcases hv with rfl | rfl <;> simp [lp__law_right_1, e1, e2', e3, e4, e5, e6, h1, h2, ne_one]
end K00
namespace K00
open PySem PySem.Spec PyProof.Rows L2 Z
variable {st : Store}
theorem turn2 {r : Nat} {v1 v2 a3 v4 a5 : Option W} {c : Str} {j : Nat} (hc : (c = "TooMany" ∧ j = 17) ∨ (c = "NothingToUndo" ∧ j = 18)) :
    lp__law_right_2 ⟨[some (.ref r), v1, some (.val (.int j)), a3, some (.val (encE0 c)), a5], st⟩ = .ok .next ⟨[some (.ref r), v1, some (.val (.int j)), a3, some (.val (encE0 c)), a5], st⟩ := by
  have hsz := sizeLine_big
  have h1 : 1 ≤ sizeLine := by omega
  rcases hc with ⟨rfl, rfl⟩ | ⟨rfl, rfl⟩
  · have l : List.lookup ("TooMany" : Str) tabT = some true := by decide +kernel
    have e := kinds_17 (st := st)
    simp [lp__law_right_2, e, h1, ne_one]
    rw [l]
    simp
  · have l : List.lookup ("NothingToUndo" : Str) tabT = some true := by decide +kernel
    have e := kinds_18 (st := st)
    simp [lp__law_right_2, e, h1, ne_one]
    rw [l]
    simp
theorem s_right {r k : Nat} (hP : Pool st r k) (hk : k ≤ 500000) : ∃ st', m__law_right [.ref r] st = .ok (.val (.bool true)) st' := by
  have hsz := sizeLine_big
  have h2 : 2 ≤ sizeLine := by omega
  have h0 : 0 ≤ sizeLine := by omega
  have h1 : 1 ≤ sizeLine := by omega
  have h12 : 12 ≤ sizeLine := by omega
  obtain ⟨n, st1, e1, hn, p1⟩ := s_draw (M := 2147483629) (m := 99) (by decide) (by decide) hP (by decide) (by decide) (by omega)
  have e1' : m__law_draw [.ref r, .val (.int 99)] st = .ok (.val (.int n)) st1 := e1
  have hr := range_row (n := 17) (by decide)
  simp only [show ((17 : Nat) : Int) = 17 from rfl] at hr
  obtain ⟨s', q, _, v1, a2, a3, a4, a5, st', e, _⟩ := loopF_inv (g := tName 2) (b := lp__law_right_1) (I := fun ds s => (ds.length ≤ 17 ∧ ∀ d ∈ ds, ∃ j : Nat, d = .int j ∧ j < 17) ∧ ∃ v1 a2 a3 a4 a5 st', s = ⟨[some (.ref r), v1, a2, a3, a4, a5], st'⟩ ∧ (v1 = some (.own (vals n)) ∨ v1 = some (.val (.list (vals n)))) ∧ Pool st' r (k + 1 + 2 * (17 - ds.length)))
    (rangeD 0 17) ⟨[some (.ref r), some (.own (vals n)), none, none, none, none], st1⟩
    ⟨⟨by decide, fun d hd => by
      obtain ⟨z, hz, rfl⟩ := List.mem_map.mp hd
      have := List.mem_range.mp hz
      exact ⟨z, by simp, by omega⟩⟩, _, _, _, _, _, st1, rfl, .inl rfl, by simpa [rangeD] using p1⟩ fun d ds s ⟨⟨hl, hg⟩, v1, a2, a3, a4, a5, st2, e, hv, w⟩ => by
      obtain ⟨j, rfl, hj⟩ := hg d (List.mem_cons_self ..)
      subst e
      have hl' : ds.length + 1 ≤ 17 := hl
      simp only [List.length_cons] at w
      obtain ⟨b3, b4, b5, st3, q, p⟩ := turn1 (a3 := a3) (a4 := a4) (a5 := a5) hj hv w (by omega)
      refine ⟨⟨[some (.ref r), some (.val (.list (vals n))), some (.val (.int j)), b3, b4, b5], st3⟩, by simpa using q, ⟨by omega, fun x hx => hg x (List.mem_cons_of_mem _ hx)⟩, _, _, _, _, _, st3, rfl, .inr rfl, p.mono (by omega)⟩
  subst e
  refine ⟨st', ?_⟩
  have l : List.lookup ("DrawError" : Str) tabT = some true := by decide +kernel
  have kd := kinds_d (st := st')
  have t1 := turn2 (st := st') (r := r) (v1 := v1) (v2 := a2) (a3 := a3) (v4 := a4) (a5 := a5) (c := "TooMany") (j := 17) (.inl ⟨rfl, rfl⟩)
  have t2 := turn2 (st := st') (r := r) (v1 := v1) (v2 := a2) (a3 := a3) (v4 := a4) (a5 := a5) (c := "NothingToUndo") (j := 18) (.inr ⟨rfl, rfl⟩)
  have lo : loopF (tTupG 2 (tConsG (tName 2) (tConsG (tName 4) tNilG))) lp__law_right_2 [.tuple [.int 17, encE0 "TooMany"], .tuple [.int 18, encE0 "NothingToUndo"]] ⟨[some (.ref r), v1, a2, a3, a4, a5], st'⟩ = .ok .next ⟨[some (.ref r), v1, some (.val (.int 18)), a3, some (.val (encE0 "NothingToUndo")), a5], st'⟩ := by
    rw [loopF_step (s' := ⟨[some (.ref r), v1, some (.val (.int 17)), a3, some (.val (encE0 "TooMany")), a5], st'⟩), loopF_step (s' := ⟨[some (.ref r), v1, some (.val (.int 18)), a3, some (.val (encE0 "NothingToUndo")), a5], st'⟩)]
    · rfl
    · simpa using t2
    · simpa using t1
  have en : eqD (.list []) (.list []) = some true := by kernel_rfl
  have pw : powD (.int 10) (.int 29) = some (.val (.int 100000000000000000000000000000)) := by kernel_rfl
  unfold vals at q
  simp [m__law_right, b__law_right, fnOf_app, hr, e1', h12, h0, h1, h2, pw]
  rw [q]
  simp [lo, h0, h2, kd, en]
  rw [l]
  simp [h0, h2, kd, en]
theorem pool_is : m__law_pool = poolF 26500 3463000 2147483629 3210 := rfl
theorem plain_law (ns : List Int) (h : ns.length ≤ 63) (hb : ∀ z ∈ ns, Builtin.Int.intBits z ≤ 1048576) : ∃ st, m_law [.scr ns] [] = .ok (.val (.bool true)) st := by
  have hsz := sizeLine_big
  obtain ⟨m, hm, hv⟩ := turns_of ns.length
  have hr := range_row (n := m) (by omega)
  obtain ⟨s', q, _, e1, st', e⟩ := loopF_inv (g := tName 1) (b := lp_law_1) (I := fun ds s => (∀ d ∈ ds, ∃ j : Nat, d = .int j ∧ j ≤ 3) ∧ ∃ e1 st', s = ⟨[some (.scr ns), e1], st'⟩) (rangeD 0 m) ⟨[some (.scr ns), none], []⟩
    ⟨fun d hd => by
      obtain ⟨z, hz, rfl⟩ := List.mem_map.mp hd
      have := List.mem_range.mp hz
      exact ⟨z, by simp, by omega⟩, none, [], rfl⟩ fun d ds s ⟨hg, a1, st1, e⟩ => by
      obtain ⟨j, rfl, hj⟩ := hg d (List.mem_cons_self ..)
      subst e
      obtain ⟨r, st2, x1, w1⟩ := s_pool (c1 := 26500) (c2 := 3463000) (m := 2147483629) (d := 3210) (by decide) (by decide) (by decide) (by decide) hj h hb (st := st1)
      rw [← pool_is] at x1
      obtain ⟨st3, x2⟩ := s_right w1 (by decide)
      refine ⟨⟨[some (.scr ns), some (.val (.int j))], st3⟩, ?_, fun x hx => hg x (List.mem_cons_of_mem _ hx), _, st3, rfl⟩
      simp [lp_law_1, x1, x2]
  subst e
  refine ⟨st', ?_⟩
  rw [← hv] at hr
  simp only [m_law, b_law, fnOf_app]
  simp [hr]
  rw [q]
  simp
end K00
namespace K00
open PySem PySem.Spec PyProof.Rows L2 Z
abbrev st__law_draw : Stmt := top 23
abbrev st__law_pick : Stmt := top 24
abbrev st__law_held : Stmt := top 27
abbrev st__law_placed : Stmt := top 28
abbrev st__law_made : Stmt := top 26
abbrev st__law_kinds_of : Stmt := top 29
abbrev st__law_same : Stmt := top 25
abbrev st__law_right : Stmt := top 30
abbrev st__law_pool : Stmt := top 22
abbrev st_law : Stmt := top 31
abbrev sti_InvalidCell : Stmt := clsDef (top 2) 0
abbrev sti_InvalidTrees : Stmt := clsDef (top 3) 0
abbrev sti_InvalidFraction : Stmt := clsDef (top 4) 0
abbrev sti_InvalidNumber : Stmt := clsDef (top 5) 0
abbrev sti_InvalidWorld : Stmt := clsDef (top 6) 0
abbrev sti_InvalidPlay : Stmt := clsDef (top 8) 0
abbrev sti_InvalidShape : Stmt := clsDef (top 7) 0
abbrev sti_InvalidLine : Stmt := clsDef (top 9) 0
abbrev sti_NotADesk : Stmt := clsDef (top 10) 0
abbrev sti_NotNow : Stmt := clsDef (top 11) 0
abbrev sti_InvalidText : Stmt := clsDef (top 12) 0
abbrev sti_InvalidPlan : Stmt := clsDef (top 13) 0
abbrev sti_Misfit : Stmt := clsDef (top 14) 0
abbrev sti_InvalidCode : Stmt := clsDef (top 15) 0
abbrev sti_InvalidRow : Stmt := clsDef (top 16) 0
abbrev sti_InvalidPapers : Stmt := clsDef (top 17) 0
abbrev sti_Broken : Stmt := clsDef (top 18) 0
structure Tx (K : PySem.W.Frag) (mg : Str → Option Value) : Prop where
  z_divmod : mg "divmod" = none
  z_int : mg "int" = none
  z_len : mg "len" = none
  z_isinstance : mg "isinstance" = none
  z_enumerate : mg "enumerate" = none
  z_list : mg "list" = none
  z_tuple : mg "tuple" = none
  z_range : mg "range" = none
  z_bool : mg "bool" = none
  z_str : mg "str" = none
  z_ValueError : mg "ValueError" = none
  z_abs : mg "abs" = none
  z_min : mg "min" = none
  z_max : mg "max" = none
  gc_InvalidWorld : mg "InvalidWorld" = some (.ref (He.ga K "InvalidWorld"))
  gc_InvalidNumber : mg "InvalidNumber" = some (.ref (He.ga K "InvalidNumber"))
  gc_InvalidFraction : mg "InvalidFraction" = some (.ref (He.ga K "InvalidFraction"))
  gc_InvalidTrees : mg "InvalidTrees" = some (.ref (He.ga K "InvalidTrees"))
  gc_InvalidCell : mg "InvalidCell" = some (.ref (He.ga K "InvalidCell"))
  gc_NotNow : mg "NotNow" = some (.ref (He.ga K "NotNow"))
  gc_NotADesk : mg "NotADesk" = some (.ref (He.ga K "NotADesk"))
  gc_InvalidLine : mg "InvalidLine" = some (.ref (He.ga K "InvalidLine"))
  gc_InvalidShape : mg "InvalidShape" = some (.ref (He.ga K "InvalidShape"))
  gc_InvalidPlay : mg "InvalidPlay" = some (.ref (He.ga K "InvalidPlay"))
  gc_InvalidPlan : mg "InvalidPlan" = some (.ref (He.ga K "InvalidPlan"))
  gc_InvalidText : mg "InvalidText" = some (.ref (He.ga K "InvalidText"))
  gc_Broken : mg "Broken" = some (.ref (He.ga K "Broken"))
  gc_InvalidPapers : mg "InvalidPapers" = some (.ref (He.ga K "InvalidPapers"))
  gc_InvalidRow : mg "InvalidRow" = some (.ref (He.ga K "InvalidRow"))
  gc_InvalidCode : mg "InvalidCode" = some (.ref (He.ga K "InvalidCode"))
  gc_Misfit : mg "Misfit" = some (.ref (He.ga K "Misfit"))
  gc_NothingToUndo : mg "NothingToUndo" = some (.ref (He.ga K "NothingToUndo"))
  gc_TooMany : mg "TooMany" = some (.ref (He.ga K "TooMany"))
  gc_DrawError : mg "DrawError" = some (.ref (He.ga K "DrawError"))
  i_InvalidWorld : IsT K [("Broken", false), ("DrawError", false), ("InvalidCell", false), ("InvalidCode", false), ("InvalidFraction", false), ("InvalidLine", false), ("InvalidNumber", false), ("InvalidPapers", false), ("InvalidPlan", false), ("InvalidPlay", false), ("InvalidRow", false), ("InvalidShape", false), ("InvalidText", false), ("InvalidTrees", false), ("InvalidWorld", true), ("Misfit", false), ("NotADesk", false), ("NotNow", false), ("NothingToUndo", false), ("TooMany", false)] (.ref (He.ga K "InvalidWorld"))
  i_InvalidNumber : IsT K [("Broken", false), ("DrawError", false), ("InvalidCell", false), ("InvalidCode", false), ("InvalidFraction", false), ("InvalidLine", false), ("InvalidNumber", true), ("InvalidPapers", false), ("InvalidPlan", false), ("InvalidPlay", false), ("InvalidRow", false), ("InvalidShape", false), ("InvalidText", false), ("InvalidTrees", false), ("InvalidWorld", false), ("Misfit", false), ("NotADesk", false), ("NotNow", false), ("NothingToUndo", false), ("TooMany", false)] (.ref (He.ga K "InvalidNumber"))
  i_InvalidFraction : IsT K [("Broken", false), ("DrawError", false), ("InvalidCell", false), ("InvalidCode", false), ("InvalidFraction", true), ("InvalidLine", false), ("InvalidNumber", false), ("InvalidPapers", false), ("InvalidPlan", false), ("InvalidPlay", false), ("InvalidRow", false), ("InvalidShape", false), ("InvalidText", false), ("InvalidTrees", false), ("InvalidWorld", false), ("Misfit", false), ("NotADesk", false), ("NotNow", false), ("NothingToUndo", false), ("TooMany", false)] (.ref (He.ga K "InvalidFraction"))
  i_InvalidTrees : IsT K [("Broken", false), ("DrawError", false), ("InvalidCell", false), ("InvalidCode", false), ("InvalidFraction", false), ("InvalidLine", false), ("InvalidNumber", false), ("InvalidPapers", false), ("InvalidPlan", false), ("InvalidPlay", false), ("InvalidRow", false), ("InvalidShape", false), ("InvalidText", false), ("InvalidTrees", true), ("InvalidWorld", false), ("Misfit", false), ("NotADesk", false), ("NotNow", false), ("NothingToUndo", false), ("TooMany", false)] (.ref (He.ga K "InvalidTrees"))
  i_InvalidCell : IsT K [("Broken", false), ("DrawError", false), ("InvalidCell", true), ("InvalidCode", false), ("InvalidFraction", false), ("InvalidLine", false), ("InvalidNumber", false), ("InvalidPapers", false), ("InvalidPlan", false), ("InvalidPlay", false), ("InvalidRow", false), ("InvalidShape", false), ("InvalidText", false), ("InvalidTrees", false), ("InvalidWorld", false), ("Misfit", false), ("NotADesk", false), ("NotNow", false), ("NothingToUndo", false), ("TooMany", false)] (.ref (He.ga K "InvalidCell"))
  i_NotNow : IsT K [("Broken", false), ("DrawError", false), ("InvalidCell", false), ("InvalidCode", false), ("InvalidFraction", false), ("InvalidLine", false), ("InvalidNumber", false), ("InvalidPapers", false), ("InvalidPlan", false), ("InvalidPlay", false), ("InvalidRow", false), ("InvalidShape", false), ("InvalidText", false), ("InvalidTrees", false), ("InvalidWorld", false), ("Misfit", false), ("NotADesk", false), ("NotNow", true), ("NothingToUndo", false), ("TooMany", false)] (.ref (He.ga K "NotNow"))
  i_NotADesk : IsT K [("Broken", false), ("DrawError", false), ("InvalidCell", false), ("InvalidCode", false), ("InvalidFraction", false), ("InvalidLine", false), ("InvalidNumber", false), ("InvalidPapers", false), ("InvalidPlan", false), ("InvalidPlay", false), ("InvalidRow", false), ("InvalidShape", false), ("InvalidText", false), ("InvalidTrees", false), ("InvalidWorld", false), ("Misfit", false), ("NotADesk", true), ("NotNow", false), ("NothingToUndo", false), ("TooMany", false)] (.ref (He.ga K "NotADesk"))
  i_InvalidLine : IsT K [("Broken", false), ("DrawError", false), ("InvalidCell", false), ("InvalidCode", false), ("InvalidFraction", false), ("InvalidLine", true), ("InvalidNumber", false), ("InvalidPapers", false), ("InvalidPlan", false), ("InvalidPlay", false), ("InvalidRow", false), ("InvalidShape", false), ("InvalidText", false), ("InvalidTrees", false), ("InvalidWorld", false), ("Misfit", false), ("NotADesk", false), ("NotNow", false), ("NothingToUndo", false), ("TooMany", false)] (.ref (He.ga K "InvalidLine"))
  i_InvalidShape : IsT K [("Broken", false), ("DrawError", false), ("InvalidCell", false), ("InvalidCode", false), ("InvalidFraction", false), ("InvalidLine", false), ("InvalidNumber", false), ("InvalidPapers", false), ("InvalidPlan", false), ("InvalidPlay", false), ("InvalidRow", false), ("InvalidShape", true), ("InvalidText", false), ("InvalidTrees", false), ("InvalidWorld", false), ("Misfit", false), ("NotADesk", false), ("NotNow", false), ("NothingToUndo", false), ("TooMany", false)] (.ref (He.ga K "InvalidShape"))
  i_InvalidPlay : IsT K [("Broken", false), ("DrawError", false), ("InvalidCell", false), ("InvalidCode", false), ("InvalidFraction", false), ("InvalidLine", false), ("InvalidNumber", false), ("InvalidPapers", false), ("InvalidPlan", false), ("InvalidPlay", true), ("InvalidRow", false), ("InvalidShape", false), ("InvalidText", false), ("InvalidTrees", false), ("InvalidWorld", false), ("Misfit", false), ("NotADesk", false), ("NotNow", false), ("NothingToUndo", false), ("TooMany", false)] (.ref (He.ga K "InvalidPlay"))
  i_InvalidPlan : IsT K [("Broken", false), ("DrawError", false), ("InvalidCell", false), ("InvalidCode", false), ("InvalidFraction", false), ("InvalidLine", false), ("InvalidNumber", false), ("InvalidPapers", false), ("InvalidPlan", true), ("InvalidPlay", false), ("InvalidRow", false), ("InvalidShape", false), ("InvalidText", false), ("InvalidTrees", false), ("InvalidWorld", false), ("Misfit", false), ("NotADesk", false), ("NotNow", false), ("NothingToUndo", false), ("TooMany", false)] (.ref (He.ga K "InvalidPlan"))
  i_InvalidText : IsT K [("Broken", false), ("DrawError", false), ("InvalidCell", false), ("InvalidCode", false), ("InvalidFraction", false), ("InvalidLine", false), ("InvalidNumber", false), ("InvalidPapers", false), ("InvalidPlan", false), ("InvalidPlay", false), ("InvalidRow", false), ("InvalidShape", false), ("InvalidText", true), ("InvalidTrees", false), ("InvalidWorld", false), ("Misfit", false), ("NotADesk", false), ("NotNow", false), ("NothingToUndo", false), ("TooMany", false)] (.ref (He.ga K "InvalidText"))
  i_Broken : IsT K [("Broken", true), ("DrawError", false), ("InvalidCell", false), ("InvalidCode", false), ("InvalidFraction", false), ("InvalidLine", false), ("InvalidNumber", false), ("InvalidPapers", false), ("InvalidPlan", false), ("InvalidPlay", false), ("InvalidRow", false), ("InvalidShape", false), ("InvalidText", false), ("InvalidTrees", false), ("InvalidWorld", false), ("Misfit", false), ("NotADesk", false), ("NotNow", false), ("NothingToUndo", false), ("TooMany", false)] (.ref (He.ga K "Broken"))
  i_InvalidPapers : IsT K [("Broken", false), ("DrawError", false), ("InvalidCell", false), ("InvalidCode", false), ("InvalidFraction", false), ("InvalidLine", false), ("InvalidNumber", false), ("InvalidPapers", true), ("InvalidPlan", false), ("InvalidPlay", false), ("InvalidRow", false), ("InvalidShape", false), ("InvalidText", false), ("InvalidTrees", false), ("InvalidWorld", false), ("Misfit", false), ("NotADesk", false), ("NotNow", false), ("NothingToUndo", false), ("TooMany", false)] (.ref (He.ga K "InvalidPapers"))
  i_InvalidRow : IsT K [("Broken", false), ("DrawError", false), ("InvalidCell", false), ("InvalidCode", false), ("InvalidFraction", false), ("InvalidLine", false), ("InvalidNumber", false), ("InvalidPapers", false), ("InvalidPlan", false), ("InvalidPlay", false), ("InvalidRow", true), ("InvalidShape", false), ("InvalidText", false), ("InvalidTrees", false), ("InvalidWorld", false), ("Misfit", false), ("NotADesk", false), ("NotNow", false), ("NothingToUndo", false), ("TooMany", false)] (.ref (He.ga K "InvalidRow"))
  i_InvalidCode : IsT K [("Broken", false), ("DrawError", false), ("InvalidCell", false), ("InvalidCode", true), ("InvalidFraction", false), ("InvalidLine", false), ("InvalidNumber", false), ("InvalidPapers", false), ("InvalidPlan", false), ("InvalidPlay", false), ("InvalidRow", false), ("InvalidShape", false), ("InvalidText", false), ("InvalidTrees", false), ("InvalidWorld", false), ("Misfit", false), ("NotADesk", false), ("NotNow", false), ("NothingToUndo", false), ("TooMany", false)] (.ref (He.ga K "InvalidCode"))
  i_Misfit : IsT K [("Broken", false), ("DrawError", false), ("InvalidCell", false), ("InvalidCode", false), ("InvalidFraction", false), ("InvalidLine", false), ("InvalidNumber", false), ("InvalidPapers", false), ("InvalidPlan", false), ("InvalidPlay", false), ("InvalidRow", false), ("InvalidShape", false), ("InvalidText", false), ("InvalidTrees", false), ("InvalidWorld", false), ("Misfit", true), ("NotADesk", false), ("NotNow", false), ("NothingToUndo", false), ("TooMany", false)] (.ref (He.ga K "Misfit"))
  i_NothingToUndo : IsT K [("Broken", false), ("DrawError", false), ("InvalidCell", false), ("InvalidCode", false), ("InvalidFraction", false), ("InvalidLine", false), ("InvalidNumber", false), ("InvalidPapers", false), ("InvalidPlan", false), ("InvalidPlay", false), ("InvalidRow", false), ("InvalidShape", false), ("InvalidText", false), ("InvalidTrees", false), ("InvalidWorld", false), ("Misfit", false), ("NotADesk", false), ("NotNow", false), ("NothingToUndo", true), ("TooMany", false)] (.ref (He.ga K "NothingToUndo"))
  i_TooMany : IsT K [("Broken", false), ("DrawError", false), ("InvalidCell", false), ("InvalidCode", false), ("InvalidFraction", false), ("InvalidLine", false), ("InvalidNumber", false), ("InvalidPapers", false), ("InvalidPlan", false), ("InvalidPlay", false), ("InvalidRow", false), ("InvalidShape", false), ("InvalidText", false), ("InvalidTrees", false), ("InvalidWorld", false), ("Misfit", false), ("NotADesk", false), ("NotNow", false), ("NothingToUndo", false), ("TooMany", true)] (.ref (He.ga K "TooMany"))
  i_DrawError : IsT K [("Broken", true), ("DrawError", true), ("InvalidCell", true), ("InvalidCode", true), ("InvalidFraction", true), ("InvalidLine", true), ("InvalidNumber", true), ("InvalidPapers", true), ("InvalidPlan", true), ("InvalidPlay", true), ("InvalidRow", true), ("InvalidShape", true), ("InvalidText", true), ("InvalidTrees", true), ("InvalidWorld", true), ("Misfit", true), ("NotADesk", true), ("NotNow", true), ("NothingToUndo", true), ("TooMany", true)] (.ref (He.ga K "DrawError"))
  i_ValueError : IsT K [("Broken", true), ("DrawError", true), ("InvalidCell", true), ("InvalidCode", true), ("InvalidFraction", true), ("InvalidLine", true), ("InvalidNumber", true), ("InvalidPapers", true), ("InvalidPlan", true), ("InvalidPlay", true), ("InvalidRow", true), ("InvalidShape", true), ("InvalidText", true), ("InvalidTrees", true), ("InvalidWorld", true), ("Misfit", true), ("NotADesk", true), ("NotNow", true), ("NothingToUndo", true), ("TooMany", true)] (.type "ValueError")
  x_given : XfT K ["InvalidCell", "InvalidFraction", "InvalidLine", "InvalidNumber", "InvalidPlay", "InvalidShape", "InvalidTrees", "InvalidWorld", "NotADesk", "NotNow"] "given"
  x_index : XfT K ["Broken", "InvalidCode", "InvalidPapers", "InvalidPlan", "InvalidRow", "InvalidText", "Misfit"] "index"
  e0_NothingToUndo : Err0 K mg "NothingToUndo"
  e0_TooMany : Err0 K mg "TooMany"
  e0_DrawError : Err0 K mg "DrawError"
  ec_InvalidCell : ErrC K (He.ga K "InvalidCell")
  nc_InvalidCell : PySem.W.findIn K (.ref (He.ga K "InvalidCell")) "given" = some none
  mc_InvalidCell : (He.Fa.meth "InvalidCell" "__init__").ok K = true
  dc_InvalidCell : ∃ fd, FunD K "__init__" "InvalidCell.__init__" (defArgs sti_InvalidCell) (defBody sti_InvalidCell) (defScope sti_InvalidCell) [] [] (He.ma K (He.ga K "InvalidCell") "__init__") fd
  ec_InvalidTrees : ErrC K (He.ga K "InvalidTrees")
  nc_InvalidTrees : PySem.W.findIn K (.ref (He.ga K "InvalidTrees")) "given" = some none
  mc_InvalidTrees : (He.Fa.meth "InvalidTrees" "__init__").ok K = true
  dc_InvalidTrees : ∃ fd, FunD K "__init__" "InvalidTrees.__init__" (defArgs sti_InvalidTrees) (defBody sti_InvalidTrees) (defScope sti_InvalidTrees) [] [] (He.ma K (He.ga K "InvalidTrees") "__init__") fd
  ec_InvalidFraction : ErrC K (He.ga K "InvalidFraction")
  nc_InvalidFraction : PySem.W.findIn K (.ref (He.ga K "InvalidFraction")) "given" = some none
  mc_InvalidFraction : (He.Fa.meth "InvalidFraction" "__init__").ok K = true
  dc_InvalidFraction : ∃ fd, FunD K "__init__" "InvalidFraction.__init__" (defArgs sti_InvalidFraction) (defBody sti_InvalidFraction) (defScope sti_InvalidFraction) [] [] (He.ma K (He.ga K "InvalidFraction") "__init__") fd
  ec_InvalidNumber : ErrC K (He.ga K "InvalidNumber")
  nc_InvalidNumber : PySem.W.findIn K (.ref (He.ga K "InvalidNumber")) "given" = some none
  mc_InvalidNumber : (He.Fa.meth "InvalidNumber" "__init__").ok K = true
  dc_InvalidNumber : ∃ fd, FunD K "__init__" "InvalidNumber.__init__" (defArgs sti_InvalidNumber) (defBody sti_InvalidNumber) (defScope sti_InvalidNumber) [] [] (He.ma K (He.ga K "InvalidNumber") "__init__") fd
  ec_InvalidWorld : ErrC K (He.ga K "InvalidWorld")
  nc_InvalidWorld : PySem.W.findIn K (.ref (He.ga K "InvalidWorld")) "given" = some none
  mc_InvalidWorld : (He.Fa.meth "InvalidWorld" "__init__").ok K = true
  dc_InvalidWorld : ∃ fd, FunD K "__init__" "InvalidWorld.__init__" (defArgs sti_InvalidWorld) (defBody sti_InvalidWorld) (defScope sti_InvalidWorld) [] [] (He.ma K (He.ga K "InvalidWorld") "__init__") fd
  ec_InvalidPlay : ErrC K (He.ga K "InvalidPlay")
  nc_InvalidPlay : PySem.W.findIn K (.ref (He.ga K "InvalidPlay")) "given" = some none
  mc_InvalidPlay : (He.Fa.meth "InvalidPlay" "__init__").ok K = true
  dc_InvalidPlay : ∃ fd, FunD K "__init__" "InvalidPlay.__init__" (defArgs sti_InvalidPlay) (defBody sti_InvalidPlay) (defScope sti_InvalidPlay) [] [] (He.ma K (He.ga K "InvalidPlay") "__init__") fd
  ec_InvalidShape : ErrC K (He.ga K "InvalidShape")
  nc_InvalidShape : PySem.W.findIn K (.ref (He.ga K "InvalidShape")) "given" = some none
  mc_InvalidShape : (He.Fa.meth "InvalidShape" "__init__").ok K = true
  dc_InvalidShape : ∃ fd, FunD K "__init__" "InvalidShape.__init__" (defArgs sti_InvalidShape) (defBody sti_InvalidShape) (defScope sti_InvalidShape) [] [] (He.ma K (He.ga K "InvalidShape") "__init__") fd
  ec_InvalidLine : ErrC K (He.ga K "InvalidLine")
  nc_InvalidLine : PySem.W.findIn K (.ref (He.ga K "InvalidLine")) "given" = some none
  mc_InvalidLine : (He.Fa.meth "InvalidLine" "__init__").ok K = true
  dc_InvalidLine : ∃ fd, FunD K "__init__" "InvalidLine.__init__" (defArgs sti_InvalidLine) (defBody sti_InvalidLine) (defScope sti_InvalidLine) [] [] (He.ma K (He.ga K "InvalidLine") "__init__") fd
  ec_NotADesk : ErrC K (He.ga K "NotADesk")
  nc_NotADesk : PySem.W.findIn K (.ref (He.ga K "NotADesk")) "given" = some none
  mc_NotADesk : (He.Fa.meth "NotADesk" "__init__").ok K = true
  dc_NotADesk : ∃ fd, FunD K "__init__" "NotADesk.__init__" (defArgs sti_NotADesk) (defBody sti_NotADesk) (defScope sti_NotADesk) [] [] (He.ma K (He.ga K "NotADesk") "__init__") fd
  ec_NotNow : ErrC K (He.ga K "NotNow")
  nc_NotNow : PySem.W.findIn K (.ref (He.ga K "NotNow")) "given" = some none
  mc_NotNow : (He.Fa.meth "NotNow" "__init__").ok K = true
  dc_NotNow : ∃ fd, FunD K "__init__" "NotNow.__init__" (defArgs sti_NotNow) (defBody sti_NotNow) (defScope sti_NotNow) [] [] (He.ma K (He.ga K "NotNow") "__init__") fd
  ec_InvalidText : ErrC K (He.ga K "InvalidText")
  nc_InvalidText : PySem.W.findIn K (.ref (He.ga K "InvalidText")) "index" = some none
  mc_InvalidText : (He.Fa.meth "InvalidText" "__init__").ok K = true
  dc_InvalidText : ∃ fd, FunD K "__init__" "InvalidText.__init__" (defArgs sti_InvalidText) (defBody sti_InvalidText) (defScope sti_InvalidText) [] [] (He.ma K (He.ga K "InvalidText") "__init__") fd
  ec_InvalidPlan : ErrC K (He.ga K "InvalidPlan")
  nc_InvalidPlan : PySem.W.findIn K (.ref (He.ga K "InvalidPlan")) "index" = some none
  mc_InvalidPlan : (He.Fa.meth "InvalidPlan" "__init__").ok K = true
  dc_InvalidPlan : ∃ fd, FunD K "__init__" "InvalidPlan.__init__" (defArgs sti_InvalidPlan) (defBody sti_InvalidPlan) (defScope sti_InvalidPlan) [] [] (He.ma K (He.ga K "InvalidPlan") "__init__") fd
  ec_Misfit : ErrC K (He.ga K "Misfit")
  nc_Misfit : PySem.W.findIn K (.ref (He.ga K "Misfit")) "index" = some none
  mc_Misfit : (He.Fa.meth "Misfit" "__init__").ok K = true
  dc_Misfit : ∃ fd, FunD K "__init__" "Misfit.__init__" (defArgs sti_Misfit) (defBody sti_Misfit) (defScope sti_Misfit) [] [] (He.ma K (He.ga K "Misfit") "__init__") fd
  ec_InvalidCode : ErrC K (He.ga K "InvalidCode")
  nc_InvalidCode : PySem.W.findIn K (.ref (He.ga K "InvalidCode")) "index" = some none
  mc_InvalidCode : (He.Fa.meth "InvalidCode" "__init__").ok K = true
  dc_InvalidCode : ∃ fd, FunD K "__init__" "InvalidCode.__init__" (defArgs sti_InvalidCode) (defBody sti_InvalidCode) (defScope sti_InvalidCode) [] [] (He.ma K (He.ga K "InvalidCode") "__init__") fd
  ec_InvalidRow : ErrC K (He.ga K "InvalidRow")
  nc_InvalidRow : PySem.W.findIn K (.ref (He.ga K "InvalidRow")) "index" = some none
  mc_InvalidRow : (He.Fa.meth "InvalidRow" "__init__").ok K = true
  dc_InvalidRow : ∃ fd, FunD K "__init__" "InvalidRow.__init__" (defArgs sti_InvalidRow) (defBody sti_InvalidRow) (defScope sti_InvalidRow) [] [] (He.ma K (He.ga K "InvalidRow") "__init__") fd
  ec_InvalidPapers : ErrC K (He.ga K "InvalidPapers")
  nc_InvalidPapers : PySem.W.findIn K (.ref (He.ga K "InvalidPapers")) "index" = some none
  mc_InvalidPapers : (He.Fa.meth "InvalidPapers" "__init__").ok K = true
  dc_InvalidPapers : ∃ fd, FunD K "__init__" "InvalidPapers.__init__" (defArgs sti_InvalidPapers) (defBody sti_InvalidPapers) (defScope sti_InvalidPapers) [] [] (He.ma K (He.ga K "InvalidPapers") "__init__") fd
  ec_Broken : ErrC K (He.ga K "Broken")
  nc_Broken : PySem.W.findIn K (.ref (He.ga K "Broken")) "index" = some none
  mc_Broken : (He.Fa.meth "Broken" "__init__").ok K = true
  dc_Broken : ∃ fd, FunD K "__init__" "Broken.__init__" (defArgs sti_Broken) (defBody sti_Broken) (defScope sti_Broken) [] [] (He.ma K (He.ga K "Broken") "__init__") fd
  g__law_draw : mg "_law_draw" = some (.ref (He.ga K "_law_draw"))
  d__law_draw : ∃ fd, FunD K "_law_draw" "_law_draw" (defArgs st__law_draw) (defBody st__law_draw) (defScope st__law_draw) [] [] (He.ga K "_law_draw") fd
  g__law_pick : mg "_law_pick" = some (.ref (He.ga K "_law_pick"))
  d__law_pick : ∃ fd, FunD K "_law_pick" "_law_pick" (defArgs st__law_pick) (defBody st__law_pick) (defScope st__law_pick) [] [] (He.ga K "_law_pick") fd
  g__law_held : mg "_law_held" = some (.ref (He.ga K "_law_held"))
  d__law_held : ∃ fd, FunD K "_law_held" "_law_held" (defArgs st__law_held) (defBody st__law_held) (defScope st__law_held) [] [] (He.ga K "_law_held") fd
  g__law_placed : mg "_law_placed" = some (.ref (He.ga K "_law_placed"))
  d__law_placed : ∃ fd, FunD K "_law_placed" "_law_placed" (defArgs st__law_placed) (defBody st__law_placed) (defScope st__law_placed) [] [] (He.ga K "_law_placed") fd
  g__law_made : mg "_law_made" = some (.ref (He.ga K "_law_made"))
  d__law_made : ∃ fd, FunD K "_law_made" "_law_made" (defArgs st__law_made) (defBody st__law_made) (defScope st__law_made) [] [] (He.ga K "_law_made") fd
  g__law_kinds_of : mg "_law_kinds_of" = some (.ref (He.ga K "_law_kinds_of"))
  d__law_kinds_of : ∃ fd, FunD K "_law_kinds_of" "_law_kinds_of" (defArgs st__law_kinds_of) (defBody st__law_kinds_of) (defScope st__law_kinds_of) [] [] (He.ga K "_law_kinds_of") fd
  g__law_same : mg "_law_same" = some (.ref (He.ga K "_law_same"))
  d__law_same : ∃ fd, FunD K "_law_same" "_law_same" (defArgs st__law_same) (defBody st__law_same) (defScope st__law_same) [] [] (He.ga K "_law_same") fd
  g__law_right : mg "_law_right" = some (.ref (He.ga K "_law_right"))
  d__law_right : ∃ fd, FunD K "_law_right" "_law_right" (defArgs st__law_right) (defBody st__law_right) (defScope st__law_right) [] [] (He.ga K "_law_right") fd
  g__law_pool : mg "_law_pool" = some (.ref (He.ga K "_law_pool"))
  d__law_pool : ∃ fd, FunD K "_law_pool" "_law_pool" (defArgs st__law_pool) (defBody st__law_pool) (defScope st__law_pool) [] [] (He.ga K "_law_pool") fd
  g_law : mg "law" = some (.ref (He.ga K "law"))
  d_law : ∃ fd, FunD K "law" "law" (defArgs st_law) (defBody st_law) (defScope st_law) [] [] (He.ga K "law") fd
section
variable {P : Program} {w : World} {K : PySem.W.Frag} {mg : Str → Option Value} {base : Heap}
theorem err_InvalidCell (T : Tx K mg) : ErrF P w K mg base "InvalidCell" "given" 1 := by
  obtain ⟨fd, F⟩ := T.dc_InvalidCell
  obtain ⟨m1, m2⟩ := He.ba T.mc_InvalidCell
  obtain ⟨m2, m3⟩ := He.ba m2
  exact ⟨_, fd, "given", T.gc_InvalidCell, T.ec_InvalidCell.oex, T.nc_InvalidCell, He.eqO_ok m1, beq_iff_eq.mp m2, init_ok F ⟨rfl, rfl, rfl, by decide +kernel, rfl, by decide +kernel, by decide +kernel⟩ (by decide) (by decide) (Or.inl rfl) (Or.inl rfl), F.bindsN fun _ _ _ _ _ _ us hl => match us, hl with | [_, _], _ => rfl⟩
theorem ern_InvalidCell (T : Tx K mg) : ErrN P w K mg base "InvalidCell" "given" "given" 1 := by
  obtain ⟨fd, F⟩ := T.dc_InvalidCell
  obtain ⟨m1, m2⟩ := He.ba T.mc_InvalidCell
  obtain ⟨m2, m3⟩ := He.ba m2
  exact ⟨_, fd, T.gc_InvalidCell, T.ec_InvalidCell.oex, T.nc_InvalidCell, He.eqO_ok m1, beq_iff_eq.mp m2, init_ok F ⟨rfl, rfl, rfl, by decide +kernel, rfl, by decide +kernel, by decide +kernel⟩ (by decide) (by decide) (Or.inl rfl) (Or.inl rfl), funD_app F fun _ _ _ _ _ _ us ws h1 h2 => (match us, ws, h1, h2 with | [_, _], [], _, _ => rfl), funD_app F fun _ _ _ _ _ _ us ws h1 h2 => (match us, ws, h1, h2 with | [_], [_], _, _ => rfl)⟩
theorem err_InvalidTrees (T : Tx K mg) : ErrF P w K mg base "InvalidTrees" "given" 1 := by
  obtain ⟨fd, F⟩ := T.dc_InvalidTrees
  obtain ⟨m1, m2⟩ := He.ba T.mc_InvalidTrees
  obtain ⟨m2, m3⟩ := He.ba m2
  exact ⟨_, fd, "given", T.gc_InvalidTrees, T.ec_InvalidTrees.oex, T.nc_InvalidTrees, He.eqO_ok m1, beq_iff_eq.mp m2, init_ok F ⟨rfl, rfl, rfl, by decide +kernel, rfl, by decide +kernel, by decide +kernel⟩ (by decide) (by decide) (Or.inl rfl) (Or.inl rfl), F.bindsN fun _ _ _ _ _ _ us hl => match us, hl with | [_, _], _ => rfl⟩
theorem ern_InvalidTrees (T : Tx K mg) : ErrN P w K mg base "InvalidTrees" "given" "given" 1 := by
  obtain ⟨fd, F⟩ := T.dc_InvalidTrees
  obtain ⟨m1, m2⟩ := He.ba T.mc_InvalidTrees
  obtain ⟨m2, m3⟩ := He.ba m2
  exact ⟨_, fd, T.gc_InvalidTrees, T.ec_InvalidTrees.oex, T.nc_InvalidTrees, He.eqO_ok m1, beq_iff_eq.mp m2, init_ok F ⟨rfl, rfl, rfl, by decide +kernel, rfl, by decide +kernel, by decide +kernel⟩ (by decide) (by decide) (Or.inl rfl) (Or.inl rfl), funD_app F fun _ _ _ _ _ _ us ws h1 h2 => (match us, ws, h1, h2 with | [_, _], [], _, _ => rfl), funD_app F fun _ _ _ _ _ _ us ws h1 h2 => (match us, ws, h1, h2 with | [_], [_], _, _ => rfl)⟩
theorem err_InvalidFraction (T : Tx K mg) : ErrF P w K mg base "InvalidFraction" "given" 1 := by
  obtain ⟨fd, F⟩ := T.dc_InvalidFraction
  obtain ⟨m1, m2⟩ := He.ba T.mc_InvalidFraction
  obtain ⟨m2, m3⟩ := He.ba m2
  exact ⟨_, fd, "given", T.gc_InvalidFraction, T.ec_InvalidFraction.oex, T.nc_InvalidFraction, He.eqO_ok m1, beq_iff_eq.mp m2, init_ok F ⟨rfl, rfl, rfl, by decide +kernel, rfl, by decide +kernel, by decide +kernel⟩ (by decide) (by decide) (Or.inl rfl) (Or.inl rfl), F.bindsN fun _ _ _ _ _ _ us hl => match us, hl with | [_, _], _ => rfl⟩
theorem ern_InvalidFraction (T : Tx K mg) : ErrN P w K mg base "InvalidFraction" "given" "given" 1 := by
  obtain ⟨fd, F⟩ := T.dc_InvalidFraction
  obtain ⟨m1, m2⟩ := He.ba T.mc_InvalidFraction
  obtain ⟨m2, m3⟩ := He.ba m2
  exact ⟨_, fd, T.gc_InvalidFraction, T.ec_InvalidFraction.oex, T.nc_InvalidFraction, He.eqO_ok m1, beq_iff_eq.mp m2, init_ok F ⟨rfl, rfl, rfl, by decide +kernel, rfl, by decide +kernel, by decide +kernel⟩ (by decide) (by decide) (Or.inl rfl) (Or.inl rfl), funD_app F fun _ _ _ _ _ _ us ws h1 h2 => (match us, ws, h1, h2 with | [_, _], [], _, _ => rfl), funD_app F fun _ _ _ _ _ _ us ws h1 h2 => (match us, ws, h1, h2 with | [_], [_], _, _ => rfl)⟩
theorem err_InvalidNumber (T : Tx K mg) : ErrF P w K mg base "InvalidNumber" "given" 1 := by
  obtain ⟨fd, F⟩ := T.dc_InvalidNumber
  obtain ⟨m1, m2⟩ := He.ba T.mc_InvalidNumber
  obtain ⟨m2, m3⟩ := He.ba m2
  exact ⟨_, fd, "given", T.gc_InvalidNumber, T.ec_InvalidNumber.oex, T.nc_InvalidNumber, He.eqO_ok m1, beq_iff_eq.mp m2, init_ok F ⟨rfl, rfl, rfl, by decide +kernel, rfl, by decide +kernel, by decide +kernel⟩ (by decide) (by decide) (Or.inl rfl) (Or.inl rfl), F.bindsN fun _ _ _ _ _ _ us hl => match us, hl with | [_, _], _ => rfl⟩
theorem ern_InvalidNumber (T : Tx K mg) : ErrN P w K mg base "InvalidNumber" "given" "given" 1 := by
  obtain ⟨fd, F⟩ := T.dc_InvalidNumber
  obtain ⟨m1, m2⟩ := He.ba T.mc_InvalidNumber
  obtain ⟨m2, m3⟩ := He.ba m2
  exact ⟨_, fd, T.gc_InvalidNumber, T.ec_InvalidNumber.oex, T.nc_InvalidNumber, He.eqO_ok m1, beq_iff_eq.mp m2, init_ok F ⟨rfl, rfl, rfl, by decide +kernel, rfl, by decide +kernel, by decide +kernel⟩ (by decide) (by decide) (Or.inl rfl) (Or.inl rfl), funD_app F fun _ _ _ _ _ _ us ws h1 h2 => (match us, ws, h1, h2 with | [_, _], [], _, _ => rfl), funD_app F fun _ _ _ _ _ _ us ws h1 h2 => (match us, ws, h1, h2 with | [_], [_], _, _ => rfl)⟩
theorem err_InvalidWorld (T : Tx K mg) : ErrF P w K mg base "InvalidWorld" "given" 1 := by
  obtain ⟨fd, F⟩ := T.dc_InvalidWorld
  obtain ⟨m1, m2⟩ := He.ba T.mc_InvalidWorld
  obtain ⟨m2, m3⟩ := He.ba m2
  exact ⟨_, fd, "given", T.gc_InvalidWorld, T.ec_InvalidWorld.oex, T.nc_InvalidWorld, He.eqO_ok m1, beq_iff_eq.mp m2, init_ok F ⟨rfl, rfl, rfl, by decide +kernel, rfl, by decide +kernel, by decide +kernel⟩ (by decide) (by decide) (Or.inl rfl) (Or.inl rfl), F.bindsN fun _ _ _ _ _ _ us hl => match us, hl with | [_, _], _ => rfl⟩
theorem ern_InvalidWorld (T : Tx K mg) : ErrN P w K mg base "InvalidWorld" "given" "given" 1 := by
  obtain ⟨fd, F⟩ := T.dc_InvalidWorld
  obtain ⟨m1, m2⟩ := He.ba T.mc_InvalidWorld
  obtain ⟨m2, m3⟩ := He.ba m2
  exact ⟨_, fd, T.gc_InvalidWorld, T.ec_InvalidWorld.oex, T.nc_InvalidWorld, He.eqO_ok m1, beq_iff_eq.mp m2, init_ok F ⟨rfl, rfl, rfl, by decide +kernel, rfl, by decide +kernel, by decide +kernel⟩ (by decide) (by decide) (Or.inl rfl) (Or.inl rfl), funD_app F fun _ _ _ _ _ _ us ws h1 h2 => (match us, ws, h1, h2 with | [_, _], [], _, _ => rfl), funD_app F fun _ _ _ _ _ _ us ws h1 h2 => (match us, ws, h1, h2 with | [_], [_], _, _ => rfl)⟩
theorem err_InvalidPlay (T : Tx K mg) : ErrF P w K mg base "InvalidPlay" "given" 1 := by
  obtain ⟨fd, F⟩ := T.dc_InvalidPlay
  obtain ⟨m1, m2⟩ := He.ba T.mc_InvalidPlay
  obtain ⟨m2, m3⟩ := He.ba m2
  exact ⟨_, fd, "given", T.gc_InvalidPlay, T.ec_InvalidPlay.oex, T.nc_InvalidPlay, He.eqO_ok m1, beq_iff_eq.mp m2, init_ok F ⟨rfl, rfl, rfl, by decide +kernel, rfl, by decide +kernel, by decide +kernel⟩ (by decide) (by decide) (Or.inl rfl) (Or.inl rfl), F.bindsN fun _ _ _ _ _ _ us hl => match us, hl with | [_, _], _ => rfl⟩
theorem ern_InvalidPlay (T : Tx K mg) : ErrN P w K mg base "InvalidPlay" "given" "given" 1 := by
  obtain ⟨fd, F⟩ := T.dc_InvalidPlay
  obtain ⟨m1, m2⟩ := He.ba T.mc_InvalidPlay
  obtain ⟨m2, m3⟩ := He.ba m2
  exact ⟨_, fd, T.gc_InvalidPlay, T.ec_InvalidPlay.oex, T.nc_InvalidPlay, He.eqO_ok m1, beq_iff_eq.mp m2, init_ok F ⟨rfl, rfl, rfl, by decide +kernel, rfl, by decide +kernel, by decide +kernel⟩ (by decide) (by decide) (Or.inl rfl) (Or.inl rfl), funD_app F fun _ _ _ _ _ _ us ws h1 h2 => (match us, ws, h1, h2 with | [_, _], [], _, _ => rfl), funD_app F fun _ _ _ _ _ _ us ws h1 h2 => (match us, ws, h1, h2 with | [_], [_], _, _ => rfl)⟩
theorem err_InvalidShape (T : Tx K mg) : ErrF P w K mg base "InvalidShape" "given" 1 := by
  obtain ⟨fd, F⟩ := T.dc_InvalidShape
  obtain ⟨m1, m2⟩ := He.ba T.mc_InvalidShape
  obtain ⟨m2, m3⟩ := He.ba m2
  exact ⟨_, fd, "given", T.gc_InvalidShape, T.ec_InvalidShape.oex, T.nc_InvalidShape, He.eqO_ok m1, beq_iff_eq.mp m2, init_ok F ⟨rfl, rfl, rfl, by decide +kernel, rfl, by decide +kernel, by decide +kernel⟩ (by decide) (by decide) (Or.inl rfl) (Or.inl rfl), F.bindsN fun _ _ _ _ _ _ us hl => match us, hl with | [_, _], _ => rfl⟩
theorem ern_InvalidShape (T : Tx K mg) : ErrN P w K mg base "InvalidShape" "given" "given" 1 := by
  obtain ⟨fd, F⟩ := T.dc_InvalidShape
  obtain ⟨m1, m2⟩ := He.ba T.mc_InvalidShape
  obtain ⟨m2, m3⟩ := He.ba m2
  exact ⟨_, fd, T.gc_InvalidShape, T.ec_InvalidShape.oex, T.nc_InvalidShape, He.eqO_ok m1, beq_iff_eq.mp m2, init_ok F ⟨rfl, rfl, rfl, by decide +kernel, rfl, by decide +kernel, by decide +kernel⟩ (by decide) (by decide) (Or.inl rfl) (Or.inl rfl), funD_app F fun _ _ _ _ _ _ us ws h1 h2 => (match us, ws, h1, h2 with | [_, _], [], _, _ => rfl), funD_app F fun _ _ _ _ _ _ us ws h1 h2 => (match us, ws, h1, h2 with | [_], [_], _, _ => rfl)⟩
theorem err_InvalidLine (T : Tx K mg) : ErrF P w K mg base "InvalidLine" "given" 1 := by
  obtain ⟨fd, F⟩ := T.dc_InvalidLine
  obtain ⟨m1, m2⟩ := He.ba T.mc_InvalidLine
  obtain ⟨m2, m3⟩ := He.ba m2
  exact ⟨_, fd, "given", T.gc_InvalidLine, T.ec_InvalidLine.oex, T.nc_InvalidLine, He.eqO_ok m1, beq_iff_eq.mp m2, init_ok F ⟨rfl, rfl, rfl, by decide +kernel, rfl, by decide +kernel, by decide +kernel⟩ (by decide) (by decide) (Or.inl rfl) (Or.inl rfl), F.bindsN fun _ _ _ _ _ _ us hl => match us, hl with | [_, _], _ => rfl⟩
theorem ern_InvalidLine (T : Tx K mg) : ErrN P w K mg base "InvalidLine" "given" "given" 1 := by
  obtain ⟨fd, F⟩ := T.dc_InvalidLine
  obtain ⟨m1, m2⟩ := He.ba T.mc_InvalidLine
  obtain ⟨m2, m3⟩ := He.ba m2
  exact ⟨_, fd, T.gc_InvalidLine, T.ec_InvalidLine.oex, T.nc_InvalidLine, He.eqO_ok m1, beq_iff_eq.mp m2, init_ok F ⟨rfl, rfl, rfl, by decide +kernel, rfl, by decide +kernel, by decide +kernel⟩ (by decide) (by decide) (Or.inl rfl) (Or.inl rfl), funD_app F fun _ _ _ _ _ _ us ws h1 h2 => (match us, ws, h1, h2 with | [_, _], [], _, _ => rfl), funD_app F fun _ _ _ _ _ _ us ws h1 h2 => (match us, ws, h1, h2 with | [_], [_], _, _ => rfl)⟩
theorem err_NotADesk (T : Tx K mg) : ErrF P w K mg base "NotADesk" "given" 1 := by
  obtain ⟨fd, F⟩ := T.dc_NotADesk
  obtain ⟨m1, m2⟩ := He.ba T.mc_NotADesk
  obtain ⟨m2, m3⟩ := He.ba m2
  exact ⟨_, fd, "given", T.gc_NotADesk, T.ec_NotADesk.oex, T.nc_NotADesk, He.eqO_ok m1, beq_iff_eq.mp m2, init_ok F ⟨rfl, rfl, rfl, by decide +kernel, rfl, by decide +kernel, by decide +kernel⟩ (by decide) (by decide) (Or.inl rfl) (Or.inl rfl), F.bindsN fun _ _ _ _ _ _ us hl => match us, hl with | [_, _], _ => rfl⟩
theorem ern_NotADesk (T : Tx K mg) : ErrN P w K mg base "NotADesk" "given" "given" 1 := by
  obtain ⟨fd, F⟩ := T.dc_NotADesk
  obtain ⟨m1, m2⟩ := He.ba T.mc_NotADesk
  obtain ⟨m2, m3⟩ := He.ba m2
  exact ⟨_, fd, T.gc_NotADesk, T.ec_NotADesk.oex, T.nc_NotADesk, He.eqO_ok m1, beq_iff_eq.mp m2, init_ok F ⟨rfl, rfl, rfl, by decide +kernel, rfl, by decide +kernel, by decide +kernel⟩ (by decide) (by decide) (Or.inl rfl) (Or.inl rfl), funD_app F fun _ _ _ _ _ _ us ws h1 h2 => (match us, ws, h1, h2 with | [_, _], [], _, _ => rfl), funD_app F fun _ _ _ _ _ _ us ws h1 h2 => (match us, ws, h1, h2 with | [_], [_], _, _ => rfl)⟩
theorem err_NotNow (T : Tx K mg) : ErrF P w K mg base "NotNow" "given" 1 := by
  obtain ⟨fd, F⟩ := T.dc_NotNow
  obtain ⟨m1, m2⟩ := He.ba T.mc_NotNow
  obtain ⟨m2, m3⟩ := He.ba m2
  exact ⟨_, fd, "given", T.gc_NotNow, T.ec_NotNow.oex, T.nc_NotNow, He.eqO_ok m1, beq_iff_eq.mp m2, init_ok F ⟨rfl, rfl, rfl, by decide +kernel, rfl, by decide +kernel, by decide +kernel⟩ (by decide) (by decide) (Or.inl rfl) (Or.inl rfl), F.bindsN fun _ _ _ _ _ _ us hl => match us, hl with | [_, _], _ => rfl⟩
theorem ern_NotNow (T : Tx K mg) : ErrN P w K mg base "NotNow" "given" "given" 1 := by
  obtain ⟨fd, F⟩ := T.dc_NotNow
  obtain ⟨m1, m2⟩ := He.ba T.mc_NotNow
  obtain ⟨m2, m3⟩ := He.ba m2
  exact ⟨_, fd, T.gc_NotNow, T.ec_NotNow.oex, T.nc_NotNow, He.eqO_ok m1, beq_iff_eq.mp m2, init_ok F ⟨rfl, rfl, rfl, by decide +kernel, rfl, by decide +kernel, by decide +kernel⟩ (by decide) (by decide) (Or.inl rfl) (Or.inl rfl), funD_app F fun _ _ _ _ _ _ us ws h1 h2 => (match us, ws, h1, h2 with | [_, _], [], _, _ => rfl), funD_app F fun _ _ _ _ _ _ us ws h1 h2 => (match us, ws, h1, h2 with | [_], [_], _, _ => rfl)⟩
theorem err_InvalidText (T : Tx K mg) : ErrF P w K mg base "InvalidText" "index" 1 := by
  obtain ⟨fd, F⟩ := T.dc_InvalidText
  obtain ⟨m1, m2⟩ := He.ba T.mc_InvalidText
  obtain ⟨m2, m3⟩ := He.ba m2
  exact ⟨_, fd, "index", T.gc_InvalidText, T.ec_InvalidText.oex, T.nc_InvalidText, He.eqO_ok m1, beq_iff_eq.mp m2, init_ok F ⟨rfl, rfl, rfl, by decide +kernel, rfl, by decide +kernel, by decide +kernel⟩ (by decide) (by decide) (Or.inl rfl) (Or.inl rfl), F.bindsN fun _ _ _ _ _ _ us hl => match us, hl with | [_, _], _ => rfl⟩
theorem ern_InvalidText (T : Tx K mg) : ErrN P w K mg base "InvalidText" "index" "index" 1 := by
  obtain ⟨fd, F⟩ := T.dc_InvalidText
  obtain ⟨m1, m2⟩ := He.ba T.mc_InvalidText
  obtain ⟨m2, m3⟩ := He.ba m2
  exact ⟨_, fd, T.gc_InvalidText, T.ec_InvalidText.oex, T.nc_InvalidText, He.eqO_ok m1, beq_iff_eq.mp m2, init_ok F ⟨rfl, rfl, rfl, by decide +kernel, rfl, by decide +kernel, by decide +kernel⟩ (by decide) (by decide) (Or.inl rfl) (Or.inl rfl), funD_app F fun _ _ _ _ _ _ us ws h1 h2 => (match us, ws, h1, h2 with | [_, _], [], _, _ => rfl), funD_app F fun _ _ _ _ _ _ us ws h1 h2 => (match us, ws, h1, h2 with | [_], [_], _, _ => rfl)⟩
theorem err_InvalidPlan (T : Tx K mg) : ErrF P w K mg base "InvalidPlan" "index" 1 := by
  obtain ⟨fd, F⟩ := T.dc_InvalidPlan
  obtain ⟨m1, m2⟩ := He.ba T.mc_InvalidPlan
  obtain ⟨m2, m3⟩ := He.ba m2
  exact ⟨_, fd, "index", T.gc_InvalidPlan, T.ec_InvalidPlan.oex, T.nc_InvalidPlan, He.eqO_ok m1, beq_iff_eq.mp m2, init_ok F ⟨rfl, rfl, rfl, by decide +kernel, rfl, by decide +kernel, by decide +kernel⟩ (by decide) (by decide) (Or.inl rfl) (Or.inl rfl), F.bindsN fun _ _ _ _ _ _ us hl => match us, hl with | [_, _], _ => rfl⟩
theorem ern_InvalidPlan (T : Tx K mg) : ErrN P w K mg base "InvalidPlan" "index" "index" 1 := by
  obtain ⟨fd, F⟩ := T.dc_InvalidPlan
  obtain ⟨m1, m2⟩ := He.ba T.mc_InvalidPlan
  obtain ⟨m2, m3⟩ := He.ba m2
  exact ⟨_, fd, T.gc_InvalidPlan, T.ec_InvalidPlan.oex, T.nc_InvalidPlan, He.eqO_ok m1, beq_iff_eq.mp m2, init_ok F ⟨rfl, rfl, rfl, by decide +kernel, rfl, by decide +kernel, by decide +kernel⟩ (by decide) (by decide) (Or.inl rfl) (Or.inl rfl), funD_app F fun _ _ _ _ _ _ us ws h1 h2 => (match us, ws, h1, h2 with | [_, _], [], _, _ => rfl), funD_app F fun _ _ _ _ _ _ us ws h1 h2 => (match us, ws, h1, h2 with | [_], [_], _, _ => rfl)⟩
theorem err_Misfit (T : Tx K mg) : ErrF P w K mg base "Misfit" "index" 1 := by
  obtain ⟨fd, F⟩ := T.dc_Misfit
  obtain ⟨m1, m2⟩ := He.ba T.mc_Misfit
  obtain ⟨m2, m3⟩ := He.ba m2
  exact ⟨_, fd, "index", T.gc_Misfit, T.ec_Misfit.oex, T.nc_Misfit, He.eqO_ok m1, beq_iff_eq.mp m2, init_ok F ⟨rfl, rfl, rfl, by decide +kernel, rfl, by decide +kernel, by decide +kernel⟩ (by decide) (by decide) (Or.inl rfl) (Or.inl rfl), F.bindsN fun _ _ _ _ _ _ us hl => match us, hl with | [_, _], _ => rfl⟩
theorem ern_Misfit (T : Tx K mg) : ErrN P w K mg base "Misfit" "index" "index" 1 := by
  obtain ⟨fd, F⟩ := T.dc_Misfit
  obtain ⟨m1, m2⟩ := He.ba T.mc_Misfit
  obtain ⟨m2, m3⟩ := He.ba m2
  exact ⟨_, fd, T.gc_Misfit, T.ec_Misfit.oex, T.nc_Misfit, He.eqO_ok m1, beq_iff_eq.mp m2, init_ok F ⟨rfl, rfl, rfl, by decide +kernel, rfl, by decide +kernel, by decide +kernel⟩ (by decide) (by decide) (Or.inl rfl) (Or.inl rfl), funD_app F fun _ _ _ _ _ _ us ws h1 h2 => (match us, ws, h1, h2 with | [_, _], [], _, _ => rfl), funD_app F fun _ _ _ _ _ _ us ws h1 h2 => (match us, ws, h1, h2 with | [_], [_], _, _ => rfl)⟩
theorem err_InvalidCode (T : Tx K mg) : ErrF P w K mg base "InvalidCode" "index" 1 := by
  obtain ⟨fd, F⟩ := T.dc_InvalidCode
  obtain ⟨m1, m2⟩ := He.ba T.mc_InvalidCode
  obtain ⟨m2, m3⟩ := He.ba m2
  exact ⟨_, fd, "index", T.gc_InvalidCode, T.ec_InvalidCode.oex, T.nc_InvalidCode, He.eqO_ok m1, beq_iff_eq.mp m2, init_ok F ⟨rfl, rfl, rfl, by decide +kernel, rfl, by decide +kernel, by decide +kernel⟩ (by decide) (by decide) (Or.inl rfl) (Or.inl rfl), F.bindsN fun _ _ _ _ _ _ us hl => match us, hl with | [_, _], _ => rfl⟩
theorem ern_InvalidCode (T : Tx K mg) : ErrN P w K mg base "InvalidCode" "index" "index" 1 := by
  obtain ⟨fd, F⟩ := T.dc_InvalidCode
  obtain ⟨m1, m2⟩ := He.ba T.mc_InvalidCode
  obtain ⟨m2, m3⟩ := He.ba m2
  exact ⟨_, fd, T.gc_InvalidCode, T.ec_InvalidCode.oex, T.nc_InvalidCode, He.eqO_ok m1, beq_iff_eq.mp m2, init_ok F ⟨rfl, rfl, rfl, by decide +kernel, rfl, by decide +kernel, by decide +kernel⟩ (by decide) (by decide) (Or.inl rfl) (Or.inl rfl), funD_app F fun _ _ _ _ _ _ us ws h1 h2 => (match us, ws, h1, h2 with | [_, _], [], _, _ => rfl), funD_app F fun _ _ _ _ _ _ us ws h1 h2 => (match us, ws, h1, h2 with | [_], [_], _, _ => rfl)⟩
theorem err_InvalidRow (T : Tx K mg) : ErrF P w K mg base "InvalidRow" "index" 1 := by
  obtain ⟨fd, F⟩ := T.dc_InvalidRow
  obtain ⟨m1, m2⟩ := He.ba T.mc_InvalidRow
  obtain ⟨m2, m3⟩ := He.ba m2
  exact ⟨_, fd, "index", T.gc_InvalidRow, T.ec_InvalidRow.oex, T.nc_InvalidRow, He.eqO_ok m1, beq_iff_eq.mp m2, init_ok F ⟨rfl, rfl, rfl, by decide +kernel, rfl, by decide +kernel, by decide +kernel⟩ (by decide) (by decide) (Or.inl rfl) (Or.inl rfl), F.bindsN fun _ _ _ _ _ _ us hl => match us, hl with | [_, _], _ => rfl⟩
theorem ern_InvalidRow (T : Tx K mg) : ErrN P w K mg base "InvalidRow" "index" "index" 1 := by
  obtain ⟨fd, F⟩ := T.dc_InvalidRow
  obtain ⟨m1, m2⟩ := He.ba T.mc_InvalidRow
  obtain ⟨m2, m3⟩ := He.ba m2
  exact ⟨_, fd, T.gc_InvalidRow, T.ec_InvalidRow.oex, T.nc_InvalidRow, He.eqO_ok m1, beq_iff_eq.mp m2, init_ok F ⟨rfl, rfl, rfl, by decide +kernel, rfl, by decide +kernel, by decide +kernel⟩ (by decide) (by decide) (Or.inl rfl) (Or.inl rfl), funD_app F fun _ _ _ _ _ _ us ws h1 h2 => (match us, ws, h1, h2 with | [_, _], [], _, _ => rfl), funD_app F fun _ _ _ _ _ _ us ws h1 h2 => (match us, ws, h1, h2 with | [_], [_], _, _ => rfl)⟩
theorem err_InvalidPapers (T : Tx K mg) : ErrF P w K mg base "InvalidPapers" "index" 1 := by
  obtain ⟨fd, F⟩ := T.dc_InvalidPapers
  obtain ⟨m1, m2⟩ := He.ba T.mc_InvalidPapers
  obtain ⟨m2, m3⟩ := He.ba m2
  exact ⟨_, fd, "index", T.gc_InvalidPapers, T.ec_InvalidPapers.oex, T.nc_InvalidPapers, He.eqO_ok m1, beq_iff_eq.mp m2, init_ok F ⟨rfl, rfl, rfl, by decide +kernel, rfl, by decide +kernel, by decide +kernel⟩ (by decide) (by decide) (Or.inl rfl) (Or.inl rfl), F.bindsN fun _ _ _ _ _ _ us hl => match us, hl with | [_, _], _ => rfl⟩
theorem ern_InvalidPapers (T : Tx K mg) : ErrN P w K mg base "InvalidPapers" "index" "index" 1 := by
  obtain ⟨fd, F⟩ := T.dc_InvalidPapers
  obtain ⟨m1, m2⟩ := He.ba T.mc_InvalidPapers
  obtain ⟨m2, m3⟩ := He.ba m2
  exact ⟨_, fd, T.gc_InvalidPapers, T.ec_InvalidPapers.oex, T.nc_InvalidPapers, He.eqO_ok m1, beq_iff_eq.mp m2, init_ok F ⟨rfl, rfl, rfl, by decide +kernel, rfl, by decide +kernel, by decide +kernel⟩ (by decide) (by decide) (Or.inl rfl) (Or.inl rfl), funD_app F fun _ _ _ _ _ _ us ws h1 h2 => (match us, ws, h1, h2 with | [_, _], [], _, _ => rfl), funD_app F fun _ _ _ _ _ _ us ws h1 h2 => (match us, ws, h1, h2 with | [_], [_], _, _ => rfl)⟩
theorem err_Broken (T : Tx K mg) : ErrF P w K mg base "Broken" "index" 1 := by
  obtain ⟨fd, F⟩ := T.dc_Broken
  obtain ⟨m1, m2⟩ := He.ba T.mc_Broken
  obtain ⟨m2, m3⟩ := He.ba m2
  exact ⟨_, fd, "index", T.gc_Broken, T.ec_Broken.oex, T.nc_Broken, He.eqO_ok m1, beq_iff_eq.mp m2, init_ok F ⟨rfl, rfl, rfl, by decide +kernel, rfl, by decide +kernel, by decide +kernel⟩ (by decide) (by decide) (Or.inl rfl) (Or.inl rfl), F.bindsN fun _ _ _ _ _ _ us hl => match us, hl with | [_, _], _ => rfl⟩
theorem ern_Broken (T : Tx K mg) : ErrN P w K mg base "Broken" "index" "index" 1 := by
  obtain ⟨fd, F⟩ := T.dc_Broken
  obtain ⟨m1, m2⟩ := He.ba T.mc_Broken
  obtain ⟨m2, m3⟩ := He.ba m2
  exact ⟨_, fd, T.gc_Broken, T.ec_Broken.oex, T.nc_Broken, He.eqO_ok m1, beq_iff_eq.mp m2, init_ok F ⟨rfl, rfl, rfl, by decide +kernel, rfl, by decide +kernel, by decide +kernel⟩ (by decide) (by decide) (Or.inl rfl) (Or.inl rfl), funD_app F fun _ _ _ _ _ _ us ws h1 h2 => (match us, ws, h1, h2 with | [_, _], [], _, _ => rfl), funD_app F fun _ _ _ _ _ _ us ws h1 h2 => (match us, ws, h1, h2 with | [_], [_], _, _ => rfl)⟩
theorem sc__law_draw : FnScope ["pool", "many", "figure", "held"] ["pool", "many"] (defScope st__law_draw) := ⟨rfl, rfl, rfl, by decide +kernel, rfl, by decide +kernel, by decide +kernel⟩
theorem fk__law_draw (T : Tx K mg) : ∃ fd, FunD K "_law_draw" "_law_draw" (defArgs st__law_draw) (defBody st__law_draw) (defScope st__law_draw) [] [] (He.ga K "_law_draw") fd ∧ FnG P w K mg base (L2.CX P w) 1 (He.ga K "_law_draw") fd ["pool", "many"] (spZ K mg 2 m__law_draw) := by
  obtain ⟨fd, F⟩ := T.d__law_draw
  have S := sc__law_draw
  exact ⟨fd, F, fn_okG (N := ["pool", "many", "figure", "held"]) (k := 0) (n := 2) (mb := b__law_draw) F S rfl (by decide) fun cdv A outer s H E hr hg hp tk =>
      (b_cons (s_if (i_cmpT op_gt c_gt (i_ix (i_var 0) i_int) i_int (nomark _)) (b_cons (s_unp (i_b2 call_divmod u_divmod T.z_divmod (i_ix (i_var 0) i_int) (i_var 1)) (g_tup rfl (gs_cons (g_sub (i_var 0) i_int) (gs_cons (g_name 2 S.nd) gs_nil))))
      (b_one (s_ret (i_var 2)))) b_nil)
      (b_cons (s_unp (i_bin o_add b_add (i_ix (i_var 0) i_int) i_int) (g_sub (i_var 0) i_int))
      (b_cons (s_asg 3 S.nd (i_ty1 call_int1 u_int T.z_int (i_ix (i_var 0) i_int)))
      (b_cons (s_unp (i_bin op_modN b_mod (i_ty1 call_int1 u_int T.z_int (i_bin o_add b_add (i_bin o_add b_add (i_bin o_mul b_mul (i_var 3) (i_bin o_add b_add (i_bin op_modN b_mod (i_var 3) i_int) i_int)) (i_bin o_mul b_mul i_int (i_ix (i_var 0) i_int))) i_int)) i_int) (g_sub (i_var 0) i_int))
      (b_one (s_ret (i_bin op_modN b_mod (i_ty1 call_int1 u_int T.z_int (i_bin op_fdivA b_fdiv (i_ix (i_var 0) i_int) i_int)) (i_var 1))))))))⟩
theorem ok__law_draw (T : Tx K mg) : TakesG P w K mg base "_law_draw" 1 2 ["pool", "many"] m__law_draw := by
  obtain ⟨fd, F, G⟩ := fk__law_draw (P := P) (w := w) (base := base) T
  exact ⟨_, fd, G, T.g__law_draw, F.kp, (F.bindsN fun _ _ _ _ _ _ us hl => match us, hl with | [_, _], _ => rfl)⟩
theorem sc__law_pick : FnScope ["pool", "some"] ["pool", "some"] (defScope st__law_pick) := ⟨rfl, rfl, rfl, by decide +kernel, rfl, by decide +kernel, by decide +kernel⟩
theorem fk__law_pick (T : Tx K mg) : ∃ fd, FunD K "_law_pick" "_law_pick" (defArgs st__law_pick) (defBody st__law_pick) (defScope st__law_pick) [] [] (He.ga K "_law_pick") fd ∧ FnG P w K mg base (L2.CX P w) 2 (He.ga K "_law_pick") fd ["pool", "some"] (spZ K mg 2 m__law_pick) := by
  obtain ⟨fd, F⟩ := T.d__law_pick
  have S := sc__law_pick
  exact ⟨fd, F, fn_okG (N := ["pool", "some"]) (k := 1) (n := 2) (mb := b__law_pick) F S rfl (by decide) fun cdv A outer s H E hr hg hp tk =>
      (b_one (s_ret (i_ix (i_var 1) (i_callG (ok__law_draw T) (hr.mono (by decide)) hg tk (a_cons (i_var 0) (a_cons (i_b1 call_len u_len T.z_len (i_var 1)) a_nil))))))⟩
theorem ok__law_pick (T : Tx K mg) : TakesG P w K mg base "_law_pick" 2 2 ["pool", "some"] m__law_pick := by
  obtain ⟨fd, F, G⟩ := fk__law_pick (P := P) (w := w) (base := base) T
  exact ⟨_, fd, G, T.g__law_pick, F.kp, (F.bindsN fun _ _ _ _ _ _ us hl => match us, hl with | [_, _], _ => rfl)⟩
theorem sc__law_held : FnScope ["k", "value", "is_named"] ["k", "value", "is_named"] (defScope st__law_held) := ⟨rfl, rfl, rfl, by decide +kernel, rfl, by decide +kernel, by decide +kernel⟩
theorem fk__law_held (T : Tx K mg) : ∃ fd, FunD K "_law_held" "_law_held" (defArgs st__law_held) (defBody st__law_held) (defScope st__law_held) [] [] (He.ga K "_law_held") fd ∧ FnG P w K mg base (L2.CX P w) 3 (He.ga K "_law_held") fd ["k", "value", "is_named"] (spZ K mg 3 m__law_held) := by
  obtain ⟨fd, F⟩ := T.d__law_held
  have S := sc__law_held
  exact ⟨fd, F, fn_okG (N := ["k", "value", "is_named"]) (k := 2) (n := 3) (mb := b__law_held) F S rfl (by decide) fun cdv A outer s H E hr hg hp tk =>
      (b_cons (s_if (i_cmpT (op_eqD (hu64 hr)) c_eq (i_var 0) i_int (nomark _)) (b_one (s_ret (i_if (i_truth (i_var 2)) (i_newEK (ern_InvalidCell T) (hr.mono (by decide)) (k_cons (i_var 1) k_nil)) (i_newE (ern_InvalidCell T) (hr.mono (by decide)) (a_cons (i_var 1) a_nil))))) b_nil)
      (b_cons (s_if (i_cmpT (op_eqD (hu64 hr)) c_eq (i_var 0) i_int (nomark _)) (b_one (s_ret (i_if (i_truth (i_var 2)) (i_newEK (ern_InvalidTrees T) (hr.mono (by decide)) (k_cons (i_var 1) k_nil)) (i_newE (ern_InvalidTrees T) (hr.mono (by decide)) (a_cons (i_var 1) a_nil))))) b_nil)
      (b_cons (s_if (i_cmpT (op_eqD (hu64 hr)) c_eq (i_var 0) i_int (nomark _)) (b_one (s_ret (i_if (i_truth (i_var 2)) (i_newEK (ern_InvalidFraction T) (hr.mono (by decide)) (k_cons (i_var 1) k_nil)) (i_newE (ern_InvalidFraction T) (hr.mono (by decide)) (a_cons (i_var 1) a_nil))))) b_nil)
      (b_cons (s_if (i_cmpT (op_eqD (hu64 hr)) c_eq (i_var 0) i_int (nomark _)) (b_one (s_ret (i_if (i_truth (i_var 2)) (i_newEK (ern_InvalidNumber T) (hr.mono (by decide)) (k_cons (i_var 1) k_nil)) (i_newE (ern_InvalidNumber T) (hr.mono (by decide)) (a_cons (i_var 1) a_nil))))) b_nil)
      (b_cons (s_if (i_cmpT (op_eqD (hu64 hr)) c_eq (i_var 0) i_int (nomark _)) (b_one (s_ret (i_if (i_truth (i_var 2)) (i_newEK (ern_InvalidWorld T) (hr.mono (by decide)) (k_cons (i_var 1) k_nil)) (i_newE (ern_InvalidWorld T) (hr.mono (by decide)) (a_cons (i_var 1) a_nil))))) b_nil)
      (b_cons (s_if (i_cmpT (op_eqD (hu64 hr)) c_eq (i_var 0) i_int (nomark _)) (b_one (s_ret (i_if (i_truth (i_var 2)) (i_newEK (ern_InvalidPlay T) (hr.mono (by decide)) (k_cons (i_var 1) k_nil)) (i_newE (ern_InvalidPlay T) (hr.mono (by decide)) (a_cons (i_var 1) a_nil))))) b_nil)
      (b_cons (s_if (i_cmpT (op_eqD (hu64 hr)) c_eq (i_var 0) i_int (nomark _)) (b_one (s_ret (i_if (i_truth (i_var 2)) (i_newEK (ern_InvalidShape T) (hr.mono (by decide)) (k_cons (i_var 1) k_nil)) (i_newE (ern_InvalidShape T) (hr.mono (by decide)) (a_cons (i_var 1) a_nil))))) b_nil)
      (b_cons (s_if (i_cmpT (op_eqD (hu64 hr)) c_eq (i_var 0) i_int (nomark _)) (b_one (s_ret (i_if (i_truth (i_var 2)) (i_newEK (ern_InvalidLine T) (hr.mono (by decide)) (k_cons (i_var 1) k_nil)) (i_newE (ern_InvalidLine T) (hr.mono (by decide)) (a_cons (i_var 1) a_nil))))) b_nil)
      (b_cons (s_if (i_cmpT (op_eqD (hu64 hr)) c_eq (i_var 0) i_int (nomark _)) (b_one (s_ret (i_if (i_truth (i_var 2)) (i_newEK (ern_NotADesk T) (hr.mono (by decide)) (k_cons (i_var 1) k_nil)) (i_newE (ern_NotADesk T) (hr.mono (by decide)) (a_cons (i_var 1) a_nil))))) b_nil)
      (b_one (s_ret (i_if (i_truth (i_var 2)) (i_newEK (ern_NotNow T) (hr.mono (by decide)) (k_cons (i_var 1) k_nil)) (i_newE (ern_NotNow T) (hr.mono (by decide)) (a_cons (i_var 1) a_nil))))))))))))))⟩
theorem ok__law_held (T : Tx K mg) : TakesG P w K mg base "_law_held" 3 3 ["k", "value", "is_named"] m__law_held := by
  obtain ⟨fd, F, G⟩ := fk__law_held (P := P) (w := w) (base := base) T
  exact ⟨_, fd, G, T.g__law_held, F.kp, (F.bindsN fun _ _ _ _ _ _ us hl => match us, hl with | [_, _, _], _ => rfl)⟩
theorem sc__law_placed : FnScope ["k", "value", "is_named"] ["k", "value", "is_named"] (defScope st__law_placed) := ⟨rfl, rfl, rfl, by decide +kernel, rfl, by decide +kernel, by decide +kernel⟩
theorem fk__law_placed (T : Tx K mg) : ∃ fd, FunD K "_law_placed" "_law_placed" (defArgs st__law_placed) (defBody st__law_placed) (defScope st__law_placed) [] [] (He.ga K "_law_placed") fd ∧ FnG P w K mg base (L2.CX P w) 3 (He.ga K "_law_placed") fd ["k", "value", "is_named"] (spZ K mg 3 m__law_placed) := by
  obtain ⟨fd, F⟩ := T.d__law_placed
  have S := sc__law_placed
  exact ⟨fd, F, fn_okG (N := ["k", "value", "is_named"]) (k := 2) (n := 3) (mb := b__law_placed) F S rfl (by decide) fun cdv A outer s H E hr hg hp tk =>
      (b_cons (s_if (i_cmpT (op_eqD (hu64 hr)) c_eq (i_var 0) i_int (nomark _)) (b_one (s_ret (i_if (i_truth (i_var 2)) (i_newEK (ern_InvalidText T) (hr.mono (by decide)) (k_cons (i_var 1) k_nil)) (i_newE (ern_InvalidText T) (hr.mono (by decide)) (a_cons (i_var 1) a_nil))))) b_nil)
      (b_cons (s_if (i_cmpT (op_eqD (hu64 hr)) c_eq (i_var 0) i_int (nomark _)) (b_one (s_ret (i_if (i_truth (i_var 2)) (i_newEK (ern_InvalidPlan T) (hr.mono (by decide)) (k_cons (i_var 1) k_nil)) (i_newE (ern_InvalidPlan T) (hr.mono (by decide)) (a_cons (i_var 1) a_nil))))) b_nil)
      (b_cons (s_if (i_cmpT (op_eqD (hu64 hr)) c_eq (i_var 0) i_int (nomark _)) (b_one (s_ret (i_if (i_truth (i_var 2)) (i_newEK (ern_Misfit T) (hr.mono (by decide)) (k_cons (i_var 1) k_nil)) (i_newE (ern_Misfit T) (hr.mono (by decide)) (a_cons (i_var 1) a_nil))))) b_nil)
      (b_cons (s_if (i_cmpT (op_eqD (hu64 hr)) c_eq (i_var 0) i_int (nomark _)) (b_one (s_ret (i_if (i_truth (i_var 2)) (i_newEK (ern_InvalidCode T) (hr.mono (by decide)) (k_cons (i_var 1) k_nil)) (i_newE (ern_InvalidCode T) (hr.mono (by decide)) (a_cons (i_var 1) a_nil))))) b_nil)
      (b_cons (s_if (i_cmpT (op_eqD (hu64 hr)) c_eq (i_var 0) i_int (nomark _)) (b_one (s_ret (i_if (i_truth (i_var 2)) (i_newEK (ern_InvalidRow T) (hr.mono (by decide)) (k_cons (i_var 1) k_nil)) (i_newE (ern_InvalidRow T) (hr.mono (by decide)) (a_cons (i_var 1) a_nil))))) b_nil)
      (b_cons (s_if (i_cmpT (op_eqD (hu64 hr)) c_eq (i_var 0) i_int (nomark _)) (b_one (s_ret (i_if (i_truth (i_var 2)) (i_newEK (ern_InvalidPapers T) (hr.mono (by decide)) (k_cons (i_var 1) k_nil)) (i_newE (ern_InvalidPapers T) (hr.mono (by decide)) (a_cons (i_var 1) a_nil))))) b_nil)
      (b_one (s_ret (i_if (i_truth (i_var 2)) (i_newEK (ern_Broken T) (hr.mono (by decide)) (k_cons (i_var 1) k_nil)) (i_newE (ern_Broken T) (hr.mono (by decide)) (a_cons (i_var 1) a_nil)))))))))))⟩
theorem ok__law_placed (T : Tx K mg) : TakesG P w K mg base "_law_placed" 3 3 ["k", "value", "is_named"] m__law_placed := by
  obtain ⟨fd, F, G⟩ := fk__law_placed (P := P) (w := w) (base := base) T
  exact ⟨_, fd, G, T.g__law_placed, F.kp, (F.bindsN fun _ _ _ _ _ _ us hl => match us, hl with | [_, _, _], _ => rfl)⟩
theorem sc__law_made : FnScope ["k", "value", "is_named", "e"] ["k", "value", "is_named"] (defScope st__law_made) := ⟨rfl, rfl, rfl, by decide +kernel, rfl, by decide +kernel, by decide +kernel⟩
theorem fk__law_made (T : Tx K mg) : ∃ fd, FunD K "_law_made" "_law_made" (defArgs st__law_made) (defBody st__law_made) (defScope st__law_made) [] [] (He.ga K "_law_made") fd ∧ FnG P w K mg base (L2.CX P w) 4 (He.ga K "_law_made") fd ["k", "value", "is_named"] (spZ K mg 3 m__law_made) := by
  obtain ⟨fd, F⟩ := T.d__law_made
  have S := sc__law_made
  exact ⟨fd, F, fn_okG (N := ["k", "value", "is_named", "e"]) (k := 3) (n := 3) (mb := b__law_made) F S rfl (by decide) fun cdv A outer s H E hr hg hp tk =>
      (b_cons (s_asg 3 S.nd (i_if (i_cmpT op_lt c_lt (i_var 0) i_int (nomark _)) (i_callG (ok__law_held T) (hr.mono (by decide)) hg tk (a_cons (i_var 0) (a_cons (i_var 1) (a_cons (i_var 2) a_nil)))) (i_callG (ok__law_placed T) (hr.mono (by decide)) hg tk (a_cons (i_bin op_sub b_sub (i_var 0) i_int) (a_cons (i_var 1) (a_cons (i_var 2) a_nil))))))
      (b_one (s_ret (i_tup (a_cons (i_var 3) (a_cons (i_if (i_cmpT op_lt c_lt (i_var 0) i_int (nomark _)) (i_xf T.x_given (i_var 3)) (i_xf T.x_index (i_var 3))) a_nil))))))⟩
theorem ok__law_made (T : Tx K mg) : TakesG P w K mg base "_law_made" 4 3 ["k", "value", "is_named"] m__law_made := by
  obtain ⟨fd, F, G⟩ := fk__law_made (P := P) (w := w) (base := base) T
  exact ⟨_, fd, G, T.g__law_made, F.kp, (F.bindsN fun _ _ _ _ _ _ us hl => match us, hl with | [_, _, _], _ => rfl)⟩
theorem sc__law_kinds_of : FnScope ["e", "told", "k", "is_one"] ["e"] (defScope st__law_kinds_of) := ⟨rfl, rfl, rfl, by decide +kernel, rfl, by decide +kernel, by decide +kernel⟩
theorem fk__law_kinds_of (T : Tx K mg) : ∃ fd, FunD K "_law_kinds_of" "_law_kinds_of" (defArgs st__law_kinds_of) (defBody st__law_kinds_of) (defScope st__law_kinds_of) [] [] (He.ga K "_law_kinds_of") fd ∧ FnG P w K mg base (L2.CX P w) 1 (He.ga K "_law_kinds_of") fd ["e"] (spZ K mg 1 m__law_kinds_of) := by
  obtain ⟨fd, F⟩ := T.d__law_kinds_of
  have S := sc__law_kinds_of
  exact ⟨fd, F, fn_okG (N := ["e", "told", "k", "is_one"]) (k := 0) (n := 1) (mb := b__law_kinds_of) F S rfl (by decide) fun cdv A outer s H E hr hg hp tk =>
      (b_cons (s_asg 1 S.nd (i_lst (a_cons (i_isE T.z_isinstance T.gc_InvalidCell T.i_InvalidCell (i_var 0)) (a_cons (i_isE T.z_isinstance T.gc_InvalidTrees T.i_InvalidTrees (i_var 0)) (a_cons (i_isE T.z_isinstance T.gc_InvalidFraction T.i_InvalidFraction (i_var 0)) (a_cons (i_isE T.z_isinstance T.gc_InvalidNumber T.i_InvalidNumber (i_var 0)) (a_cons (i_isE T.z_isinstance T.gc_InvalidWorld T.i_InvalidWorld (i_var 0)) a_nil)))))))
      (b_cons (s_asg 1 S.nd (i_bin o_add b_add (i_var 1) (i_lst (a_cons (i_isE T.z_isinstance T.gc_InvalidPlay T.i_InvalidPlay (i_var 0)) (a_cons (i_isE T.z_isinstance T.gc_InvalidShape T.i_InvalidShape (i_var 0)) (a_cons (i_isE T.z_isinstance T.gc_InvalidLine T.i_InvalidLine (i_var 0)) (a_cons (i_isE T.z_isinstance T.gc_NotADesk T.i_NotADesk (i_var 0)) (a_cons (i_isE T.z_isinstance T.gc_NotNow T.i_NotNow (i_var 0)) a_nil))))))))
      (b_cons (s_asg 1 S.nd (i_bin o_add b_add (i_var 1) (i_lst (a_cons (i_isE T.z_isinstance T.gc_InvalidText T.i_InvalidText (i_var 0)) (a_cons (i_isE T.z_isinstance T.gc_InvalidPlan T.i_InvalidPlan (i_var 0)) a_nil)))))
      (b_cons (s_asg 1 S.nd (i_bin o_add b_add (i_var 1) (i_lst (a_cons (i_isE T.z_isinstance T.gc_Misfit T.i_Misfit (i_var 0)) (a_cons (i_isE T.z_isinstance T.gc_InvalidCode T.i_InvalidCode (i_var 0)) (a_cons (i_isE T.z_isinstance T.gc_InvalidRow T.i_InvalidRow (i_var 0)) (a_cons (i_isE T.z_isinstance T.gc_InvalidPapers T.i_InvalidPapers (i_var 0)) (a_cons (i_isE T.z_isinstance T.gc_Broken T.i_Broken (i_var 0)) a_nil))))))))
      (b_cons (s_asg 1 S.nd (i_bin o_add b_add (i_var 1) (i_lst (a_cons (i_isE T.z_isinstance T.gc_TooMany T.i_TooMany (i_var 0)) (a_cons (i_isE T.z_isinstance T.gc_NothingToUndo T.i_NothingToUndo (i_var 0)) a_nil)))))
      (b_one (s_ret (i_lc (own := [("k", 2), ("is_one", 3)]) rfl S.nd (d_enum T.z_enumerate (a_cons (i_var 1) a_nil)) (show BlkOk ["e", "told", "k", "is_one"] (defScope st__law_kinds_of) _ [("k", 2), ("is_one", 3)] from ⟨rfl, by decide +kernel, by decide +kernel, by decide +kernel, by decide +kernel⟩) (fun _ _ _ _ _ => (g_tup rfl (gs_cons (g_name 2 S.nd) (gs_cons (g_name 3 S.nd) gs_nil)))) (fun _ _ _ _ _ => (t_one (i_truth (i_var 3)))) (fun _ _ _ _ _ => (i_var 2)) (by decide)))))))))⟩
theorem ok__law_kinds_of (T : Tx K mg) : TakesG P w K mg base "_law_kinds_of" 1 1 ["e"] m__law_kinds_of := by
  obtain ⟨fd, F, G⟩ := fk__law_kinds_of (P := P) (w := w) (base := base) T
  exact ⟨_, fd, G, T.g__law_kinds_of, F.kp, (F.bindsN fun _ _ _ _ _ _ us hl => match us, hl with | [_], _ => rfl)⟩
theorem sc__law_same : FnScope ["one", "other", "k"] ["one", "other"] (defScope st__law_same) := ⟨rfl, rfl, rfl, by decide +kernel, rfl, by decide +kernel, by decide +kernel⟩
theorem ok__law_same (T : Tx K mg) : ∀ n : Nat, TakesG P w K mg base "_law_same" (0 + 1 + n) 2 ["one", "other"] (m__law_same n)
  | 0 => by
    obtain ⟨fd, F⟩ := T.d__law_same
    have S := sc__law_same
    exact ⟨_, fd, (fn_okG (N := ["one", "other", "k"]) (k := 0) (n := 2) (mb := sFail) F S rfl (by decide) fun cdv A outer s H E hr hg hp tk => b_never), T.g__law_same, F.kp, (F.bindsN fun _ _ _ _ _ _ us hl => match us, hl with | [_, _], _ => rfl)⟩
  | n + 1 => by
    obtain ⟨fd, F⟩ := T.d__law_same
    have S := sc__law_same
    have C__law_same : TakesG P w K mg base "_law_same" (0 + 1 + n) 2 ["one", "other"] (m__law_same n) := ok__law_same T n
    exact ⟨_, fd, (fn_okG (N := ["one", "other", "k"]) (k := 0 + 1 + n) (n := 2) (mb := b__law_same (m__law_same n)) F S rfl (by decide) fun cdv A outer s H E hr hg hp tk =>
      (b_cons (s_if (i_truth (i_isiT (i_var 0) T.z_isinstance (.cons T.z_tuple (by decide +kernel) rfl (by decide) (by decide) rfl (.cons T.z_list (by decide +kernel) rfl (by decide) (by decide) rfl .nil)))) (b_cons (s_if (i_bool_ (w_or (i_cmpT (op_neD (hu64 hr)) c_ne (i_isi (i_var 0) T.z_isinstance T.z_tuple) (i_isi (i_var 1) T.z_isinstance T.z_tuple) (nomark _)) (w_or (i_cmpT (op_neD (hu64 hr)) c_ne (i_isi (i_var 0) T.z_isinstance T.z_list) (i_isi (i_var 1) T.z_isinstance T.z_list) (nomark _)) (w_or1 (i_cmpT (op_neD (hu64 hr)) c_ne (i_b1 call_len u_len T.z_len (i_var 0)) (i_b1 call_len u_len T.z_len (i_var 1)) (nomark _)))))) (b_one (s_ret i_bool)) b_nil)
      (b_one (s_ret (i_cmp ((op_eqD (hu64 hr)).or (op_eq_dictA (hu0 hr))) c_eqD (i_lc (own := [("k", 2)]) rfl S.nd (d_range T.z_range (a_cons (i_b1 call_len u_len T.z_len (i_var 0)) a_nil)) (show BlkOk ["one", "other", "k"] (defScope st__law_same) _ [("k", 2)] from ⟨rfl, by decide +kernel, by decide +kernel, by decide +kernel, by decide +kernel⟩) (fun _ _ _ _ _ => (g_name 2 S.nd)) (fun _ _ _ _ _ => (t_one (i_notT (i_truth (i_callG C__law_same (hr.mono (by omega)) hg Z.takes0 (a_cons (i_ix (i_var 0) (i_var 2)) (a_cons (i_ix (i_var 1) (i_var 2)) a_nil))))))) (fun _ _ _ _ _ => (i_var 2)) (by decide)) (i_lst a_nil) (nomark _))))) b_nil)
      (b_cons (s_if (i_bool_ (w_or (i_truth (i_isi (i_var 0) T.z_isinstance T.z_bool)) (w_or1 (i_truth (i_isi (i_var 1) T.z_isinstance T.z_bool))))) (b_one (s_ret (i_and (i_isi (i_var 0) T.z_isinstance T.z_bool) (i_and (i_isi (i_var 1) T.z_isinstance T.z_bool) (i_one (i_cmp ((op_eqD (hu64 hr)).or (op_eq_dictA (hu0 hr))) c_eqD (i_var 0) (i_var 1) (nomark _))))))) b_nil)
      (b_one (s_ret (i_and (i_cmp ((op_eqD (hu64 hr)).or (op_eq_dictA (hu0 hr))) c_eqD (i_isi (i_var 0) T.z_isinstance T.z_int) (i_isi (i_var 1) T.z_isinstance T.z_int) (nomark _)) (i_and (i_cmp ((op_eqD (hu64 hr)).or (op_eq_dictA (hu0 hr))) c_eqD (i_isi (i_var 0) T.z_isinstance T.z_str) (i_isi (i_var 1) T.z_isinstance T.z_str) (nomark _)) (i_one (i_cmp ((op_eqD (hu64 hr)).or (op_eq_dictA (hu0 hr))) c_eqD (i_var 0) (i_var 1) (nomark _)))))))))), T.g__law_same, F.kp, (F.bindsN fun _ _ _ _ _ _ us hl => match us, hl with | [_, _], _ => rfl)⟩
theorem sc__law_right : FnScope ["pool", "values", "k", "value", "e", "kept"] ["pool"] (defScope st__law_right) := ⟨rfl, rfl, rfl, by decide +kernel, rfl, by decide +kernel, by decide +kernel⟩
theorem fk__law_right (T : Tx K mg) : ∃ fd, FunD K "_law_right" "_law_right" (defArgs st__law_right) (defBody st__law_right) (defScope st__law_right) [] [] (He.ga K "_law_right") fd ∧ FnG P w K mg base (L2.CX P w) 6 (He.ga K "_law_right") fd ["pool"] (spZ K mg 1 m__law_right) := by
  obtain ⟨fd, F⟩ := T.d__law_right
  have S := sc__law_right
  exact ⟨fd, F, fn_okG (N := ["pool", "values", "k", "value", "e", "kept"]) (k := 5) (n := 1) (mb := b__law_right) F S rfl (by decide) fun cdv A outer s H E hr hg hp tk =>
      (b_cons (s_asg 1 S.nd (i_lst (a_cons i_none (a_cons i_int (a_cons (i_neg i_int) (a_cons i_bool (a_cons i_str (a_cons i_str (a_cons (i_tup a_nil) (a_cons (i_tup (a_cons i_int (a_cons i_int a_nil))) (a_cons (i_lst (a_cons i_int a_nil)) (a_cons i_dict0 (a_cons (i_bin op_pow b_pow i_int i_int) (a_cons (i_callG (ok__law_draw T) (hr.mono (by decide)) hg tk (a_cons (i_var 0) (a_cons i_int a_nil))) a_nil))))))))))))))
      (b_cons (s_for hp rfl (d_range T.z_range (a_cons i_int a_nil)) (g_name 2 S.nd) (b_cons (s_asg 3 S.nd (i_callG (ok__law_pick T) (hr.mono (by decide)) hg tk (a_cons (i_var 0) (a_cons (i_var 1) a_nil))))
      (b_cons (s_unp (i_callG (ok__law_made T) (hr.mono (by decide)) hg tk (a_cons (i_var 2) (a_cons (i_var 3) (a_cons (i_cmp (op_eqD (hu64 hr)) c_eq (i_callG (ok__law_draw T) (hr.mono (by decide)) hg tk (a_cons (i_var 0) (a_cons i_int a_nil))) i_int (nomark _)) a_nil)))) (g_tup rfl (gs_cons (g_name 4 S.nd) (gs_cons (g_name 5 S.nd) gs_nil))))
      (b_one (s_if (i_bool_ (w_or (i_notT (i_truth (i_callG (ok__law_same T 4) (hr.mono (by decide)) hg tk (a_cons (i_var 5) (a_cons (i_var 3) a_nil))))) (w_or (i_cmpT (op_neD (hu64 hr)) c_ne (i_callG (ok__law_kinds_of T) (hr.mono (by decide)) hg tk (a_cons (i_var 4) a_nil)) (i_lst (a_cons (i_var 2) a_nil)) (nomark _)) (w_or (i_notT (i_truth (i_isE T.z_isinstance T.gc_DrawError T.i_DrawError (i_var 4)))) (w_or1 (i_notT (i_truth (i_isB T.z_isinstance T.z_ValueError T.i_ValueError (i_var 4))))))))) (b_one (s_ret i_bool)) b_nil)))))
      (b_cons (s_for hp rfl (d_val (i_lst (a_cons (i_tup (a_cons i_int (a_cons (i_newE0 T.e0_TooMany) a_nil))) (a_cons (i_tup (a_cons i_int (a_cons (i_newE0 T.e0_NothingToUndo) a_nil))) a_nil)))) (g_tup rfl (gs_cons (g_name 2 S.nd) (gs_cons (g_name 4 S.nd) gs_nil))) (b_one (s_if (i_bool_ (w_or (i_cmpT (op_neD (hu64 hr)) c_ne (i_callG (ok__law_kinds_of T) (hr.mono (by decide)) hg tk (a_cons (i_var 4) a_nil)) (i_lst (a_cons (i_var 2) a_nil)) (nomark _)) (w_or1 (i_notT (i_truth (i_isE T.z_isinstance T.gc_DrawError T.i_DrawError (i_var 4))))))) (b_one (s_ret i_bool)) b_nil)))
      (b_one (s_ret (i_and (i_isB T.z_isinstance T.z_ValueError T.i_ValueError (i_newE0 T.e0_DrawError)) (i_one (i_cmp (op_eqD (hu64 hr)) c_eq (i_callG (ok__law_kinds_of T) (hr.mono (by decide)) hg tk (a_cons (i_newE0 T.e0_DrawError) a_nil)) (i_lst a_nil) (nomark _)))))))))⟩
theorem ok__law_right (T : Tx K mg) : TakesG P w K mg base "_law_right" 6 1 ["pool"] m__law_right := by
  obtain ⟨fd, F, G⟩ := fk__law_right (P := P) (w := w) (base := base) T
  exact ⟨_, fd, G, T.g__law_right, F.kp, (F.bindsN fun _ _ _ _ _ _ us hl => match us, hl with | [_], _ => rfl)⟩
theorem sc__law_pool : FnScope ["script", "lap", "own", "stirred", "cell"] ["script", "lap"] (defScope st__law_pool) := ⟨rfl, rfl, rfl, by decide +kernel, rfl, by decide +kernel, by decide +kernel⟩
theorem fk__law_pool (T : Tx K mg) : ∃ fd, FunD K "_law_pool" "_law_pool" (defArgs st__law_pool) (defBody st__law_pool) (defScope st__law_pool) [] [] (He.ga K "_law_pool") fd ∧ FnG P w K mg base (L2.CX P w) 1 (He.ga K "_law_pool") fd ["script", "lap"] (spZ K mg 2 m__law_pool) := by
  obtain ⟨fd, F⟩ := T.d__law_pool
  have S := sc__law_pool
  exact ⟨fd, F, fn_okG (N := ["script", "lap", "own", "stirred", "cell"]) (k := 0) (n := 2) (mb := b__law_pool) F S rfl (by decide) fun cdv A outer s H E hr hg hp tk =>
      (b_cons (s_par 2 3 rfl S.nd (h_cons (i_if (i_cmpT op_lt c_lt (i_var 1) (i_b1 call_len u_len T.z_len (i_var 0)) (nomark _)) (i_ty1 call_int1 u_int T.z_int (i_ix (i_var 0) (i_var 1))) (i_bin o_add b_add (i_bin o_mul b_mul i_int (i_var 1)) i_int)) (h_cons (i_bin o_add b_add i_int (i_bin o_mul b_mul i_int (i_var 1))) h_nil)))
      (b_cons (s_for hp rfl (d_val (i_sl (i_var 0) o_none (o_some i_int))) (g_name 4 S.nd) (b_one (s_asg 3 S.nd (i_bin op_modN b_mod (i_ty1 call_int1 u_int T.z_int (i_bin o_add b_add (i_bin o_add b_add (i_bin o_mul b_mul (i_var 3) i_int) (i_bin op_modN b_mod (i_ty1 call_int1 u_int T.z_int (i_var 4)) i_int)) i_int)) i_int))))
      (b_one (s_ret (i_new (a_cons (i_bin op_modN b_mod (i_ty1 call_int1 u_int T.z_int (i_bin o_add b_add (i_var 3) (i_bin o_mul b_mul (i_var 2) i_int))) i_int) (a_cons (i_if (i_bool_ (w_or (i_cmpT op_lt c_lt (i_var 2) i_int (nomark _)) (w_or1 (i_cmpT op_ge c_ge (i_var 2) (i_bin op_pow b_pow i_int i_int) (nomark _))))) (i_b1 call_abs u_abs T.z_abs (i_var 2)) i_int) (a_cons i_int a_nil))))))))⟩
theorem ok__law_pool (T : Tx K mg) : TakesG P w K mg base "_law_pool" 1 2 ["script", "lap"] m__law_pool := by
  obtain ⟨fd, F, G⟩ := fk__law_pool (P := P) (w := w) (base := base) T
  exact ⟨_, fd, G, T.g__law_pool, F.kp, (F.bindsN fun _ _ _ _ _ _ us hl => match us, hl with | [_, _], _ => rfl)⟩
theorem sc_law : FnScope ["script", "lap"] ["script"] (defScope st_law) := ⟨rfl, rfl, rfl, by decide +kernel, rfl, by decide +kernel, by decide +kernel⟩
theorem fn_law (T : Tx K mg) {fd : FuncData} (F : FunD K "law" "law" (defArgs st_law) (defBody st_law) (defScope st_law) [] [] (He.ga K "law") fd) : FnG P w K mg base (L2.CX P w) 7 (He.ga K "law") fd ["script"] (spZ K mg 1 m_law) := by
  have S := sc_law
  exact fn_okG (N := ["script", "lap"]) (k := 6) (n := 1) (mb := b_law) F S rfl (by decide) fun cdv A outer s H E hr hg hp tk =>
      (b_cons (s_for hp rfl (d_range T.z_range (a_cons (i_b2 (call_max2 rfl) u_max2 T.z_max i_int (i_b2 (call_min2 rfl) u_min2 T.z_min (i_b1 call_len u_len T.z_len (i_var 0)) i_int)) a_nil)) (g_name 1 S.nd) (b_one (s_if (i_notT (i_truth (i_callG (ok__law_right T) (hr.mono (by decide)) hg tk (a_cons (i_callG (ok__law_pool T) (hr.mono (by decide)) hg tk (a_cons (i_var 0) (a_cons (i_var 1) a_nil))) a_nil)))) (b_one (s_ret i_bool)) b_nil)))
      (b_one (s_ret i_bool)))
end
/-! ### the head -/
def dd__law_draw : He.DefD := ⟨("_law_draw", none), "_law_draw", "_law_draw", defArgs st__law_draw, defBody st__law_draw, defScope st__law_draw, [], []⟩
def dd__law_pick : He.DefD := ⟨("_law_pick", none), "_law_pick", "_law_pick", defArgs st__law_pick, defBody st__law_pick, defScope st__law_pick, [], []⟩
def dd__law_held : He.DefD := ⟨("_law_held", none), "_law_held", "_law_held", defArgs st__law_held, defBody st__law_held, defScope st__law_held, [], []⟩
def dd__law_placed : He.DefD := ⟨("_law_placed", none), "_law_placed", "_law_placed", defArgs st__law_placed, defBody st__law_placed, defScope st__law_placed, [], []⟩
def dd__law_made : He.DefD := ⟨("_law_made", none), "_law_made", "_law_made", defArgs st__law_made, defBody st__law_made, defScope st__law_made, [], []⟩
def dd__law_kinds_of : He.DefD := ⟨("_law_kinds_of", none), "_law_kinds_of", "_law_kinds_of", defArgs st__law_kinds_of, defBody st__law_kinds_of, defScope st__law_kinds_of, [], []⟩
def dd__law_same : He.DefD := ⟨("_law_same", none), "_law_same", "_law_same", defArgs st__law_same, defBody st__law_same, defScope st__law_same, [], []⟩
def dd__law_right : He.DefD := ⟨("_law_right", none), "_law_right", "_law_right", defArgs st__law_right, defBody st__law_right, defScope st__law_right, [], []⟩
def dd__law_pool : He.DefD := ⟨("_law_pool", none), "_law_pool", "_law_pool", defArgs st__law_pool, defBody st__law_pool, defScope st__law_pool, [], []⟩
def dd_law : He.DefD := ⟨("law", none), "law", "law", defArgs st_law, defBody st_law, defScope st_law, [], []⟩
def ddc_InvalidCell : He.DefD := ⟨("InvalidCell", some "__init__"), "__init__", "InvalidCell.__init__", defArgs sti_InvalidCell, defBody sti_InvalidCell, defScope sti_InvalidCell, [], []⟩
def ddc_InvalidTrees : He.DefD := ⟨("InvalidTrees", some "__init__"), "__init__", "InvalidTrees.__init__", defArgs sti_InvalidTrees, defBody sti_InvalidTrees, defScope sti_InvalidTrees, [], []⟩
def ddc_InvalidFraction : He.DefD := ⟨("InvalidFraction", some "__init__"), "__init__", "InvalidFraction.__init__", defArgs sti_InvalidFraction, defBody sti_InvalidFraction, defScope sti_InvalidFraction, [], []⟩
def ddc_InvalidNumber : He.DefD := ⟨("InvalidNumber", some "__init__"), "__init__", "InvalidNumber.__init__", defArgs sti_InvalidNumber, defBody sti_InvalidNumber, defScope sti_InvalidNumber, [], []⟩
def ddc_InvalidWorld : He.DefD := ⟨("InvalidWorld", some "__init__"), "__init__", "InvalidWorld.__init__", defArgs sti_InvalidWorld, defBody sti_InvalidWorld, defScope sti_InvalidWorld, [], []⟩
def ddc_InvalidPlay : He.DefD := ⟨("InvalidPlay", some "__init__"), "__init__", "InvalidPlay.__init__", defArgs sti_InvalidPlay, defBody sti_InvalidPlay, defScope sti_InvalidPlay, [], []⟩
def ddc_InvalidShape : He.DefD := ⟨("InvalidShape", some "__init__"), "__init__", "InvalidShape.__init__", defArgs sti_InvalidShape, defBody sti_InvalidShape, defScope sti_InvalidShape, [], []⟩
def ddc_InvalidLine : He.DefD := ⟨("InvalidLine", some "__init__"), "__init__", "InvalidLine.__init__", defArgs sti_InvalidLine, defBody sti_InvalidLine, defScope sti_InvalidLine, [], []⟩
def ddc_NotADesk : He.DefD := ⟨("NotADesk", some "__init__"), "__init__", "NotADesk.__init__", defArgs sti_NotADesk, defBody sti_NotADesk, defScope sti_NotADesk, [], []⟩
def ddc_NotNow : He.DefD := ⟨("NotNow", some "__init__"), "__init__", "NotNow.__init__", defArgs sti_NotNow, defBody sti_NotNow, defScope sti_NotNow, [], []⟩
def ddc_InvalidText : He.DefD := ⟨("InvalidText", some "__init__"), "__init__", "InvalidText.__init__", defArgs sti_InvalidText, defBody sti_InvalidText, defScope sti_InvalidText, [], []⟩
def ddc_InvalidPlan : He.DefD := ⟨("InvalidPlan", some "__init__"), "__init__", "InvalidPlan.__init__", defArgs sti_InvalidPlan, defBody sti_InvalidPlan, defScope sti_InvalidPlan, [], []⟩
def ddc_Misfit : He.DefD := ⟨("Misfit", some "__init__"), "__init__", "Misfit.__init__", defArgs sti_Misfit, defBody sti_Misfit, defScope sti_Misfit, [], []⟩
def ddc_InvalidCode : He.DefD := ⟨("InvalidCode", some "__init__"), "__init__", "InvalidCode.__init__", defArgs sti_InvalidCode, defBody sti_InvalidCode, defScope sti_InvalidCode, [], []⟩
def ddc_InvalidRow : He.DefD := ⟨("InvalidRow", some "__init__"), "__init__", "InvalidRow.__init__", defArgs sti_InvalidRow, defBody sti_InvalidRow, defScope sti_InvalidRow, [], []⟩
def ddc_InvalidPapers : He.DefD := ⟨("InvalidPapers", some "__init__"), "__init__", "InvalidPapers.__init__", defArgs sti_InvalidPapers, defBody sti_InvalidPapers, defScope sti_InvalidPapers, [], []⟩
def ddc_Broken : He.DefD := ⟨("Broken", some "__init__"), "__init__", "Broken.__init__", defArgs sti_Broken, defBody sti_Broken, defScope sti_Broken, [], []⟩
def fn : List He.DefD := [dd__law_draw, dd__law_pick, dd__law_held, dd__law_placed, dd__law_made, dd__law_kinds_of, dd__law_same, dd__law_right, dd__law_pool, dd_law, ddc_InvalidCell, ddc_InvalidTrees, ddc_InvalidFraction, ddc_InvalidNumber, ddc_InvalidWorld, ddc_InvalidPlay, ddc_InvalidShape, ddc_InvalidLine, ddc_NotADesk, ddc_NotNow, ddc_InvalidText, ddc_InvalidPlan, ddc_Misfit, ddc_InvalidCode, ddc_InvalidRow, ddc_InvalidPapers, ddc_Broken]
def fa : List He.Fa := [.glo "_law_draw", .glo "_law_pick", .glo "_law_held", .glo "_law_placed", .glo "_law_made", .glo "_law_kinds_of", .glo "_law_same", .glo "_law_right", .glo "_law_pool", .glo "law", .free "divmod", .free "int", .free "len", .free "isinstance", .free "enumerate", .free "list", .free "tuple", .free "range", .free "bool", .free "str", .free "ValueError", .free "abs", .free "min", .free "max", .glo "InvalidWorld", .glo "InvalidNumber", .glo "InvalidFraction", .glo "InvalidTrees", .glo "InvalidCell", .glo "NotNow", .glo "NotADesk", .glo "InvalidLine", .glo "InvalidShape", .glo "InvalidPlay", .glo "InvalidPlan", .glo "InvalidText", .glo "Broken", .glo "InvalidPapers", .glo "InvalidRow", .glo "InvalidCode", .glo "Misfit", .glo "NothingToUndo", .glo "TooMany", .glo "DrawError", .noat "InvalidCell" "given", .noat "InvalidTrees" "given", .noat "InvalidFraction" "given", .noat "InvalidNumber" "given", .noat "InvalidWorld" "given", .noat "InvalidPlay" "given", .noat "InvalidShape" "given", .noat "InvalidLine" "given", .noat "NotADesk" "given", .noat "NotNow" "given", .noat "InvalidText" "index", .noat "InvalidPlan" "index", .noat "Misfit" "index", .noat "InvalidCode" "index", .noat "InvalidRow" "index", .noat "InvalidPapers" "index", .noat "Broken" "index", .meth "InvalidCell" "__init__", .meth "InvalidTrees" "__init__", .meth "InvalidFraction" "__init__", .meth "InvalidNumber" "__init__", .meth "InvalidWorld" "__init__", .meth "InvalidPlay" "__init__", .meth "InvalidShape" "__init__", .meth "InvalidLine" "__init__", .meth "NotADesk" "__init__", .meth "NotNow" "__init__", .meth "InvalidText" "__init__", .meth "InvalidPlan" "__init__", .meth "Misfit" "__init__", .meth "InvalidCode" "__init__", .meth "InvalidRow" "__init__", .meth "InvalidPapers" "__init__", .meth "Broken" "__init__"]
def fb : List Fb := [.is (isOB [("Broken", false), ("DrawError", false), ("InvalidCell", false), ("InvalidCode", false), ("InvalidFraction", false), ("InvalidLine", false), ("InvalidNumber", false), ("InvalidPapers", false), ("InvalidPlan", false), ("InvalidPlay", false), ("InvalidRow", false), ("InvalidShape", false), ("InvalidText", false), ("InvalidTrees", false), ("InvalidWorld", true), ("Misfit", false), ("NotADesk", false), ("NotNow", false), ("NothingToUndo", false), ("TooMany", false)] "InvalidWorld"), .is (isOB [("Broken", false), ("DrawError", false), ("InvalidCell", false), ("InvalidCode", false), ("InvalidFraction", false), ("InvalidLine", false), ("InvalidNumber", true), ("InvalidPapers", false), ("InvalidPlan", false), ("InvalidPlay", false), ("InvalidRow", false), ("InvalidShape", false), ("InvalidText", false), ("InvalidTrees", false), ("InvalidWorld", false), ("Misfit", false), ("NotADesk", false), ("NotNow", false), ("NothingToUndo", false), ("TooMany", false)] "InvalidNumber"), .is (isOB [("Broken", false), ("DrawError", false), ("InvalidCell", false), ("InvalidCode", false), ("InvalidFraction", true), ("InvalidLine", false), ("InvalidNumber", false), ("InvalidPapers", false), ("InvalidPlan", false), ("InvalidPlay", false), ("InvalidRow", false), ("InvalidShape", false), ("InvalidText", false), ("InvalidTrees", false), ("InvalidWorld", false), ("Misfit", false), ("NotADesk", false), ("NotNow", false), ("NothingToUndo", false), ("TooMany", false)] "InvalidFraction"), .is (isOB [("Broken", false), ("DrawError", false), ("InvalidCell", false), ("InvalidCode", false), ("InvalidFraction", false), ("InvalidLine", false), ("InvalidNumber", false), ("InvalidPapers", false), ("InvalidPlan", false), ("InvalidPlay", false), ("InvalidRow", false), ("InvalidShape", false), ("InvalidText", false), ("InvalidTrees", true), ("InvalidWorld", false), ("Misfit", false), ("NotADesk", false), ("NotNow", false), ("NothingToUndo", false), ("TooMany", false)] "InvalidTrees"), .is (isOB [("Broken", false), ("DrawError", false), ("InvalidCell", true), ("InvalidCode", false), ("InvalidFraction", false), ("InvalidLine", false), ("InvalidNumber", false), ("InvalidPapers", false), ("InvalidPlan", false), ("InvalidPlay", false), ("InvalidRow", false), ("InvalidShape", false), ("InvalidText", false), ("InvalidTrees", false), ("InvalidWorld", false), ("Misfit", false), ("NotADesk", false), ("NotNow", false), ("NothingToUndo", false), ("TooMany", false)] "InvalidCell"), .is (isOB [("Broken", false), ("DrawError", false), ("InvalidCell", false), ("InvalidCode", false), ("InvalidFraction", false), ("InvalidLine", false), ("InvalidNumber", false), ("InvalidPapers", false), ("InvalidPlan", false), ("InvalidPlay", false), ("InvalidRow", false), ("InvalidShape", false), ("InvalidText", false), ("InvalidTrees", false), ("InvalidWorld", false), ("Misfit", false), ("NotADesk", false), ("NotNow", true), ("NothingToUndo", false), ("TooMany", false)] "NotNow"), .is (isOB [("Broken", false), ("DrawError", false), ("InvalidCell", false), ("InvalidCode", false), ("InvalidFraction", false), ("InvalidLine", false), ("InvalidNumber", false), ("InvalidPapers", false), ("InvalidPlan", false), ("InvalidPlay", false), ("InvalidRow", false), ("InvalidShape", false), ("InvalidText", false), ("InvalidTrees", false), ("InvalidWorld", false), ("Misfit", false), ("NotADesk", true), ("NotNow", false), ("NothingToUndo", false), ("TooMany", false)] "NotADesk"), .is (isOB [("Broken", false), ("DrawError", false), ("InvalidCell", false), ("InvalidCode", false), ("InvalidFraction", false), ("InvalidLine", true), ("InvalidNumber", false), ("InvalidPapers", false), ("InvalidPlan", false), ("InvalidPlay", false), ("InvalidRow", false), ("InvalidShape", false), ("InvalidText", false), ("InvalidTrees", false), ("InvalidWorld", false), ("Misfit", false), ("NotADesk", false), ("NotNow", false), ("NothingToUndo", false), ("TooMany", false)] "InvalidLine"), .is (isOB [("Broken", false), ("DrawError", false), ("InvalidCell", false), ("InvalidCode", false), ("InvalidFraction", false), ("InvalidLine", false), ("InvalidNumber", false), ("InvalidPapers", false), ("InvalidPlan", false), ("InvalidPlay", false), ("InvalidRow", false), ("InvalidShape", true), ("InvalidText", false), ("InvalidTrees", false), ("InvalidWorld", false), ("Misfit", false), ("NotADesk", false), ("NotNow", false), ("NothingToUndo", false), ("TooMany", false)] "InvalidShape"), .is (isOB [("Broken", false), ("DrawError", false), ("InvalidCell", false), ("InvalidCode", false), ("InvalidFraction", false), ("InvalidLine", false), ("InvalidNumber", false), ("InvalidPapers", false), ("InvalidPlan", false), ("InvalidPlay", true), ("InvalidRow", false), ("InvalidShape", false), ("InvalidText", false), ("InvalidTrees", false), ("InvalidWorld", false), ("Misfit", false), ("NotADesk", false), ("NotNow", false), ("NothingToUndo", false), ("TooMany", false)] "InvalidPlay"), .is (isOB [("Broken", false), ("DrawError", false), ("InvalidCell", false), ("InvalidCode", false), ("InvalidFraction", false), ("InvalidLine", false), ("InvalidNumber", false), ("InvalidPapers", false), ("InvalidPlan", true), ("InvalidPlay", false), ("InvalidRow", false), ("InvalidShape", false), ("InvalidText", false), ("InvalidTrees", false), ("InvalidWorld", false), ("Misfit", false), ("NotADesk", false), ("NotNow", false), ("NothingToUndo", false), ("TooMany", false)] "InvalidPlan"), .is (isOB [("Broken", false), ("DrawError", false), ("InvalidCell", false), ("InvalidCode", false), ("InvalidFraction", false), ("InvalidLine", false), ("InvalidNumber", false), ("InvalidPapers", false), ("InvalidPlan", false), ("InvalidPlay", false), ("InvalidRow", false), ("InvalidShape", false), ("InvalidText", true), ("InvalidTrees", false), ("InvalidWorld", false), ("Misfit", false), ("NotADesk", false), ("NotNow", false), ("NothingToUndo", false), ("TooMany", false)] "InvalidText"), .is (isOB [("Broken", true), ("DrawError", false), ("InvalidCell", false), ("InvalidCode", false), ("InvalidFraction", false), ("InvalidLine", false), ("InvalidNumber", false), ("InvalidPapers", false), ("InvalidPlan", false), ("InvalidPlay", false), ("InvalidRow", false), ("InvalidShape", false), ("InvalidText", false), ("InvalidTrees", false), ("InvalidWorld", false), ("Misfit", false), ("NotADesk", false), ("NotNow", false), ("NothingToUndo", false), ("TooMany", false)] "Broken"), .is (isOB [("Broken", false), ("DrawError", false), ("InvalidCell", false), ("InvalidCode", false), ("InvalidFraction", false), ("InvalidLine", false), ("InvalidNumber", false), ("InvalidPapers", true), ("InvalidPlan", false), ("InvalidPlay", false), ("InvalidRow", false), ("InvalidShape", false), ("InvalidText", false), ("InvalidTrees", false), ("InvalidWorld", false), ("Misfit", false), ("NotADesk", false), ("NotNow", false), ("NothingToUndo", false), ("TooMany", false)] "InvalidPapers"), .is (isOB [("Broken", false), ("DrawError", false), ("InvalidCell", false), ("InvalidCode", false), ("InvalidFraction", false), ("InvalidLine", false), ("InvalidNumber", false), ("InvalidPapers", false), ("InvalidPlan", false), ("InvalidPlay", false), ("InvalidRow", true), ("InvalidShape", false), ("InvalidText", false), ("InvalidTrees", false), ("InvalidWorld", false), ("Misfit", false), ("NotADesk", false), ("NotNow", false), ("NothingToUndo", false), ("TooMany", false)] "InvalidRow"), .is (isOB [("Broken", false), ("DrawError", false), ("InvalidCell", false), ("InvalidCode", true), ("InvalidFraction", false), ("InvalidLine", false), ("InvalidNumber", false), ("InvalidPapers", false), ("InvalidPlan", false), ("InvalidPlay", false), ("InvalidRow", false), ("InvalidShape", false), ("InvalidText", false), ("InvalidTrees", false), ("InvalidWorld", false), ("Misfit", false), ("NotADesk", false), ("NotNow", false), ("NothingToUndo", false), ("TooMany", false)] "InvalidCode"), .is (isOB [("Broken", false), ("DrawError", false), ("InvalidCell", false), ("InvalidCode", false), ("InvalidFraction", false), ("InvalidLine", false), ("InvalidNumber", false), ("InvalidPapers", false), ("InvalidPlan", false), ("InvalidPlay", false), ("InvalidRow", false), ("InvalidShape", false), ("InvalidText", false), ("InvalidTrees", false), ("InvalidWorld", false), ("Misfit", true), ("NotADesk", false), ("NotNow", false), ("NothingToUndo", false), ("TooMany", false)] "Misfit"), .is (isOB [("Broken", false), ("DrawError", false), ("InvalidCell", false), ("InvalidCode", false), ("InvalidFraction", false), ("InvalidLine", false), ("InvalidNumber", false), ("InvalidPapers", false), ("InvalidPlan", false), ("InvalidPlay", false), ("InvalidRow", false), ("InvalidShape", false), ("InvalidText", false), ("InvalidTrees", false), ("InvalidWorld", false), ("Misfit", false), ("NotADesk", false), ("NotNow", false), ("NothingToUndo", true), ("TooMany", false)] "NothingToUndo"), .is (isOB [("Broken", false), ("DrawError", false), ("InvalidCell", false), ("InvalidCode", false), ("InvalidFraction", false), ("InvalidLine", false), ("InvalidNumber", false), ("InvalidPapers", false), ("InvalidPlan", false), ("InvalidPlay", false), ("InvalidRow", false), ("InvalidShape", false), ("InvalidText", false), ("InvalidTrees", false), ("InvalidWorld", false), ("Misfit", false), ("NotADesk", false), ("NotNow", false), ("NothingToUndo", false), ("TooMany", true)] "TooMany"), .is (isOB [("Broken", true), ("DrawError", true), ("InvalidCell", true), ("InvalidCode", true), ("InvalidFraction", true), ("InvalidLine", true), ("InvalidNumber", true), ("InvalidPapers", true), ("InvalidPlan", true), ("InvalidPlay", true), ("InvalidRow", true), ("InvalidShape", true), ("InvalidText", true), ("InvalidTrees", true), ("InvalidWorld", true), ("Misfit", true), ("NotADesk", true), ("NotNow", true), ("NothingToUndo", true), ("TooMany", true)] "DrawError"), .is (isBB [("Broken", true), ("DrawError", true), ("InvalidCell", true), ("InvalidCode", true), ("InvalidFraction", true), ("InvalidLine", true), ("InvalidNumber", true), ("InvalidPapers", true), ("InvalidPlan", true), ("InvalidPlay", true), ("InvalidRow", true), ("InvalidShape", true), ("InvalidText", true), ("InvalidTrees", true), ("InvalidWorld", true), ("Misfit", true), ("NotADesk", true), ("NotNow", true), ("NothingToUndo", true), ("TooMany", true)] "ValueError"), .is (xfTB ["InvalidCell", "InvalidFraction", "InvalidLine", "InvalidNumber", "InvalidPlay", "InvalidShape", "InvalidTrees", "InvalidWorld", "NotADesk", "NotNow"] "given"), .is (xfTB ["Broken", "InvalidCode", "InvalidPapers", "InvalidPlan", "InvalidRow", "InvalidText", "Misfit"] "index"), .is (fun K => errB K (He.ga K "InvalidCell")), .is (fun K => errB K (He.ga K "InvalidTrees")), .is (fun K => errB K (He.ga K "InvalidFraction")), .is (fun K => errB K (He.ga K "InvalidNumber")), .is (fun K => errB K (He.ga K "InvalidWorld")), .is (fun K => errB K (He.ga K "InvalidPlay")), .is (fun K => errB K (He.ga K "InvalidShape")), .is (fun K => errB K (He.ga K "InvalidLine")), .is (fun K => errB K (He.ga K "NotADesk")), .is (fun K => errB K (He.ga K "NotNow")), .is (fun K => errB K (He.ga K "InvalidText")), .is (fun K => errB K (He.ga K "InvalidPlan")), .is (fun K => errB K (He.ga K "Misfit")), .is (fun K => errB K (He.ga K "InvalidCode")), .is (fun K => errB K (He.ga K "InvalidRow")), .is (fun K => errB K (He.ga K "InvalidPapers")), .is (fun K => errB K (He.ga K "Broken")), .is (err0B "NothingToUndo"), .is (err0B "TooMany"), .is (err0B "DrawError")]
theorem tx_of {K : PySem.W.Frag} {h : Heap} {mg : Str → Option Value} (X : K.In h) (G : h.Ns mainGlobals mg) (c : SaysZ fa fb fn K) : Tx K mg where
  z_divmod := He.free_ok X G (c.fact 10 (f := .free "divmod") rfl)
  z_int := He.free_ok X G (c.fact 11 (f := .free "int") rfl)
  z_len := He.free_ok X G (c.fact 12 (f := .free "len") rfl)
  z_isinstance := He.free_ok X G (c.fact 13 (f := .free "isinstance") rfl)
  z_enumerate := He.free_ok X G (c.fact 14 (f := .free "enumerate") rfl)
  z_list := He.free_ok X G (c.fact 15 (f := .free "list") rfl)
  z_tuple := He.free_ok X G (c.fact 16 (f := .free "tuple") rfl)
  z_range := He.free_ok X G (c.fact 17 (f := .free "range") rfl)
  z_bool := He.free_ok X G (c.fact 18 (f := .free "bool") rfl)
  z_str := He.free_ok X G (c.fact 19 (f := .free "str") rfl)
  z_ValueError := He.free_ok X G (c.fact 20 (f := .free "ValueError") rfl)
  z_abs := He.free_ok X G (c.fact 21 (f := .free "abs") rfl)
  z_min := He.free_ok X G (c.fact 22 (f := .free "min") rfl)
  z_max := He.free_ok X G (c.fact 23 (f := .free "max") rfl)
  gc_InvalidWorld := He.glo_ok X G (c.fact 24 (f := .glo "InvalidWorld") rfl)
  gc_InvalidNumber := He.glo_ok X G (c.fact 25 (f := .glo "InvalidNumber") rfl)
  gc_InvalidFraction := He.glo_ok X G (c.fact 26 (f := .glo "InvalidFraction") rfl)
  gc_InvalidTrees := He.glo_ok X G (c.fact 27 (f := .glo "InvalidTrees") rfl)
  gc_InvalidCell := He.glo_ok X G (c.fact 28 (f := .glo "InvalidCell") rfl)
  gc_NotNow := He.glo_ok X G (c.fact 29 (f := .glo "NotNow") rfl)
  gc_NotADesk := He.glo_ok X G (c.fact 30 (f := .glo "NotADesk") rfl)
  gc_InvalidLine := He.glo_ok X G (c.fact 31 (f := .glo "InvalidLine") rfl)
  gc_InvalidShape := He.glo_ok X G (c.fact 32 (f := .glo "InvalidShape") rfl)
  gc_InvalidPlay := He.glo_ok X G (c.fact 33 (f := .glo "InvalidPlay") rfl)
  gc_InvalidPlan := He.glo_ok X G (c.fact 34 (f := .glo "InvalidPlan") rfl)
  gc_InvalidText := He.glo_ok X G (c.fact 35 (f := .glo "InvalidText") rfl)
  gc_Broken := He.glo_ok X G (c.fact 36 (f := .glo "Broken") rfl)
  gc_InvalidPapers := He.glo_ok X G (c.fact 37 (f := .glo "InvalidPapers") rfl)
  gc_InvalidRow := He.glo_ok X G (c.fact 38 (f := .glo "InvalidRow") rfl)
  gc_InvalidCode := He.glo_ok X G (c.fact 39 (f := .glo "InvalidCode") rfl)
  gc_Misfit := He.glo_ok X G (c.fact 40 (f := .glo "Misfit") rfl)
  gc_NothingToUndo := He.glo_ok X G (c.fact 41 (f := .glo "NothingToUndo") rfl)
  gc_TooMany := He.glo_ok X G (c.fact 42 (f := .glo "TooMany") rfl)
  gc_DrawError := He.glo_ok X G (c.fact 43 (f := .glo "DrawError") rfl)
  nc_InvalidCell := He.eqO_ok (c.fact 44 (f := .noat "InvalidCell" "given") rfl)
  mc_InvalidCell := c.fact 61 (f := .meth "InvalidCell" "__init__") rfl
  dc_InvalidCell := c.1.def_ 10 (d := ddc_InvalidCell) rfl
  nc_InvalidTrees := He.eqO_ok (c.fact 45 (f := .noat "InvalidTrees" "given") rfl)
  mc_InvalidTrees := c.fact 62 (f := .meth "InvalidTrees" "__init__") rfl
  dc_InvalidTrees := c.1.def_ 11 (d := ddc_InvalidTrees) rfl
  nc_InvalidFraction := He.eqO_ok (c.fact 46 (f := .noat "InvalidFraction" "given") rfl)
  mc_InvalidFraction := c.fact 63 (f := .meth "InvalidFraction" "__init__") rfl
  dc_InvalidFraction := c.1.def_ 12 (d := ddc_InvalidFraction) rfl
  nc_InvalidNumber := He.eqO_ok (c.fact 47 (f := .noat "InvalidNumber" "given") rfl)
  mc_InvalidNumber := c.fact 64 (f := .meth "InvalidNumber" "__init__") rfl
  dc_InvalidNumber := c.1.def_ 13 (d := ddc_InvalidNumber) rfl
  nc_InvalidWorld := He.eqO_ok (c.fact 48 (f := .noat "InvalidWorld" "given") rfl)
  mc_InvalidWorld := c.fact 65 (f := .meth "InvalidWorld" "__init__") rfl
  dc_InvalidWorld := c.1.def_ 14 (d := ddc_InvalidWorld) rfl
  nc_InvalidPlay := He.eqO_ok (c.fact 49 (f := .noat "InvalidPlay" "given") rfl)
  mc_InvalidPlay := c.fact 66 (f := .meth "InvalidPlay" "__init__") rfl
  dc_InvalidPlay := c.1.def_ 15 (d := ddc_InvalidPlay) rfl
  nc_InvalidShape := He.eqO_ok (c.fact 50 (f := .noat "InvalidShape" "given") rfl)
  mc_InvalidShape := c.fact 67 (f := .meth "InvalidShape" "__init__") rfl
  dc_InvalidShape := c.1.def_ 16 (d := ddc_InvalidShape) rfl
  nc_InvalidLine := He.eqO_ok (c.fact 51 (f := .noat "InvalidLine" "given") rfl)
  mc_InvalidLine := c.fact 68 (f := .meth "InvalidLine" "__init__") rfl
  dc_InvalidLine := c.1.def_ 17 (d := ddc_InvalidLine) rfl
  nc_NotADesk := He.eqO_ok (c.fact 52 (f := .noat "NotADesk" "given") rfl)
  mc_NotADesk := c.fact 69 (f := .meth "NotADesk" "__init__") rfl
  dc_NotADesk := c.1.def_ 18 (d := ddc_NotADesk) rfl
  nc_NotNow := He.eqO_ok (c.fact 53 (f := .noat "NotNow" "given") rfl)
  mc_NotNow := c.fact 70 (f := .meth "NotNow" "__init__") rfl
  dc_NotNow := c.1.def_ 19 (d := ddc_NotNow) rfl
  nc_InvalidText := He.eqO_ok (c.fact 54 (f := .noat "InvalidText" "index") rfl)
  mc_InvalidText := c.fact 71 (f := .meth "InvalidText" "__init__") rfl
  dc_InvalidText := c.1.def_ 20 (d := ddc_InvalidText) rfl
  nc_InvalidPlan := He.eqO_ok (c.fact 55 (f := .noat "InvalidPlan" "index") rfl)
  mc_InvalidPlan := c.fact 72 (f := .meth "InvalidPlan" "__init__") rfl
  dc_InvalidPlan := c.1.def_ 21 (d := ddc_InvalidPlan) rfl
  nc_Misfit := He.eqO_ok (c.fact 56 (f := .noat "Misfit" "index") rfl)
  mc_Misfit := c.fact 73 (f := .meth "Misfit" "__init__") rfl
  dc_Misfit := c.1.def_ 22 (d := ddc_Misfit) rfl
  nc_InvalidCode := He.eqO_ok (c.fact 57 (f := .noat "InvalidCode" "index") rfl)
  mc_InvalidCode := c.fact 74 (f := .meth "InvalidCode" "__init__") rfl
  dc_InvalidCode := c.1.def_ 23 (d := ddc_InvalidCode) rfl
  nc_InvalidRow := He.eqO_ok (c.fact 58 (f := .noat "InvalidRow" "index") rfl)
  mc_InvalidRow := c.fact 75 (f := .meth "InvalidRow" "__init__") rfl
  dc_InvalidRow := c.1.def_ 24 (d := ddc_InvalidRow) rfl
  nc_InvalidPapers := He.eqO_ok (c.fact 59 (f := .noat "InvalidPapers" "index") rfl)
  mc_InvalidPapers := c.fact 76 (f := .meth "InvalidPapers" "__init__") rfl
  dc_InvalidPapers := c.1.def_ 25 (d := ddc_InvalidPapers) rfl
  nc_Broken := He.eqO_ok (c.fact 60 (f := .noat "Broken" "index") rfl)
  mc_Broken := c.fact 77 (f := .meth "Broken" "__init__") rfl
  dc_Broken := c.1.def_ 26 (d := ddc_Broken) rfl
  i_InvalidWorld := isOB_ok (c.more 0 (f := .is (isOB [("Broken", false), ("DrawError", false), ("InvalidCell", false), ("InvalidCode", false), ("InvalidFraction", false), ("InvalidLine", false), ("InvalidNumber", false), ("InvalidPapers", false), ("InvalidPlan", false), ("InvalidPlay", false), ("InvalidRow", false), ("InvalidShape", false), ("InvalidText", false), ("InvalidTrees", false), ("InvalidWorld", true), ("Misfit", false), ("NotADesk", false), ("NotNow", false), ("NothingToUndo", false), ("TooMany", false)] "InvalidWorld")) rfl)
  i_InvalidNumber := isOB_ok (c.more 1 (f := .is (isOB [("Broken", false), ("DrawError", false), ("InvalidCell", false), ("InvalidCode", false), ("InvalidFraction", false), ("InvalidLine", false), ("InvalidNumber", true), ("InvalidPapers", false), ("InvalidPlan", false), ("InvalidPlay", false), ("InvalidRow", false), ("InvalidShape", false), ("InvalidText", false), ("InvalidTrees", false), ("InvalidWorld", false), ("Misfit", false), ("NotADesk", false), ("NotNow", false), ("NothingToUndo", false), ("TooMany", false)] "InvalidNumber")) rfl)
  i_InvalidFraction := isOB_ok (c.more 2 (f := .is (isOB [("Broken", false), ("DrawError", false), ("InvalidCell", false), ("InvalidCode", false), ("InvalidFraction", true), ("InvalidLine", false), ("InvalidNumber", false), ("InvalidPapers", false), ("InvalidPlan", false), ("InvalidPlay", false), ("InvalidRow", false), ("InvalidShape", false), ("InvalidText", false), ("InvalidTrees", false), ("InvalidWorld", false), ("Misfit", false), ("NotADesk", false), ("NotNow", false), ("NothingToUndo", false), ("TooMany", false)] "InvalidFraction")) rfl)
  i_InvalidTrees := isOB_ok (c.more 3 (f := .is (isOB [("Broken", false), ("DrawError", false), ("InvalidCell", false), ("InvalidCode", false), ("InvalidFraction", false), ("InvalidLine", false), ("InvalidNumber", false), ("InvalidPapers", false), ("InvalidPlan", false), ("InvalidPlay", false), ("InvalidRow", false), ("InvalidShape", false), ("InvalidText", false), ("InvalidTrees", true), ("InvalidWorld", false), ("Misfit", false), ("NotADesk", false), ("NotNow", false), ("NothingToUndo", false), ("TooMany", false)] "InvalidTrees")) rfl)
  i_InvalidCell := isOB_ok (c.more 4 (f := .is (isOB [("Broken", false), ("DrawError", false), ("InvalidCell", true), ("InvalidCode", false), ("InvalidFraction", false), ("InvalidLine", false), ("InvalidNumber", false), ("InvalidPapers", false), ("InvalidPlan", false), ("InvalidPlay", false), ("InvalidRow", false), ("InvalidShape", false), ("InvalidText", false), ("InvalidTrees", false), ("InvalidWorld", false), ("Misfit", false), ("NotADesk", false), ("NotNow", false), ("NothingToUndo", false), ("TooMany", false)] "InvalidCell")) rfl)
  i_NotNow := isOB_ok (c.more 5 (f := .is (isOB [("Broken", false), ("DrawError", false), ("InvalidCell", false), ("InvalidCode", false), ("InvalidFraction", false), ("InvalidLine", false), ("InvalidNumber", false), ("InvalidPapers", false), ("InvalidPlan", false), ("InvalidPlay", false), ("InvalidRow", false), ("InvalidShape", false), ("InvalidText", false), ("InvalidTrees", false), ("InvalidWorld", false), ("Misfit", false), ("NotADesk", false), ("NotNow", true), ("NothingToUndo", false), ("TooMany", false)] "NotNow")) rfl)
  i_NotADesk := isOB_ok (c.more 6 (f := .is (isOB [("Broken", false), ("DrawError", false), ("InvalidCell", false), ("InvalidCode", false), ("InvalidFraction", false), ("InvalidLine", false), ("InvalidNumber", false), ("InvalidPapers", false), ("InvalidPlan", false), ("InvalidPlay", false), ("InvalidRow", false), ("InvalidShape", false), ("InvalidText", false), ("InvalidTrees", false), ("InvalidWorld", false), ("Misfit", false), ("NotADesk", true), ("NotNow", false), ("NothingToUndo", false), ("TooMany", false)] "NotADesk")) rfl)
  i_InvalidLine := isOB_ok (c.more 7 (f := .is (isOB [("Broken", false), ("DrawError", false), ("InvalidCell", false), ("InvalidCode", false), ("InvalidFraction", false), ("InvalidLine", true), ("InvalidNumber", false), ("InvalidPapers", false), ("InvalidPlan", false), ("InvalidPlay", false), ("InvalidRow", false), ("InvalidShape", false), ("InvalidText", false), ("InvalidTrees", false), ("InvalidWorld", false), ("Misfit", false), ("NotADesk", false), ("NotNow", false), ("NothingToUndo", false), ("TooMany", false)] "InvalidLine")) rfl)
  i_InvalidShape := isOB_ok (c.more 8 (f := .is (isOB [("Broken", false), ("DrawError", false), ("InvalidCell", false), ("InvalidCode", false), ("InvalidFraction", false), ("InvalidLine", false), ("InvalidNumber", false), ("InvalidPapers", false), ("InvalidPlan", false), ("InvalidPlay", false), ("InvalidRow", false), ("InvalidShape", true), ("InvalidText", false), ("InvalidTrees", false), ("InvalidWorld", false), ("Misfit", false), ("NotADesk", false), ("NotNow", false), ("NothingToUndo", false), ("TooMany", false)] "InvalidShape")) rfl)
  i_InvalidPlay := isOB_ok (c.more 9 (f := .is (isOB [("Broken", false), ("DrawError", false), ("InvalidCell", false), ("InvalidCode", false), ("InvalidFraction", false), ("InvalidLine", false), ("InvalidNumber", false), ("InvalidPapers", false), ("InvalidPlan", false), ("InvalidPlay", true), ("InvalidRow", false), ("InvalidShape", false), ("InvalidText", false), ("InvalidTrees", false), ("InvalidWorld", false), ("Misfit", false), ("NotADesk", false), ("NotNow", false), ("NothingToUndo", false), ("TooMany", false)] "InvalidPlay")) rfl)
  i_InvalidPlan := isOB_ok (c.more 10 (f := .is (isOB [("Broken", false), ("DrawError", false), ("InvalidCell", false), ("InvalidCode", false), ("InvalidFraction", false), ("InvalidLine", false), ("InvalidNumber", false), ("InvalidPapers", false), ("InvalidPlan", true), ("InvalidPlay", false), ("InvalidRow", false), ("InvalidShape", false), ("InvalidText", false), ("InvalidTrees", false), ("InvalidWorld", false), ("Misfit", false), ("NotADesk", false), ("NotNow", false), ("NothingToUndo", false), ("TooMany", false)] "InvalidPlan")) rfl)
  i_InvalidText := isOB_ok (c.more 11 (f := .is (isOB [("Broken", false), ("DrawError", false), ("InvalidCell", false), ("InvalidCode", false), ("InvalidFraction", false), ("InvalidLine", false), ("InvalidNumber", false), ("InvalidPapers", false), ("InvalidPlan", false), ("InvalidPlay", false), ("InvalidRow", false), ("InvalidShape", false), ("InvalidText", true), ("InvalidTrees", false), ("InvalidWorld", false), ("Misfit", false), ("NotADesk", false), ("NotNow", false), ("NothingToUndo", false), ("TooMany", false)] "InvalidText")) rfl)
  i_Broken := isOB_ok (c.more 12 (f := .is (isOB [("Broken", true), ("DrawError", false), ("InvalidCell", false), ("InvalidCode", false), ("InvalidFraction", false), ("InvalidLine", false), ("InvalidNumber", false), ("InvalidPapers", false), ("InvalidPlan", false), ("InvalidPlay", false), ("InvalidRow", false), ("InvalidShape", false), ("InvalidText", false), ("InvalidTrees", false), ("InvalidWorld", false), ("Misfit", false), ("NotADesk", false), ("NotNow", false), ("NothingToUndo", false), ("TooMany", false)] "Broken")) rfl)
  i_InvalidPapers := isOB_ok (c.more 13 (f := .is (isOB [("Broken", false), ("DrawError", false), ("InvalidCell", false), ("InvalidCode", false), ("InvalidFraction", false), ("InvalidLine", false), ("InvalidNumber", false), ("InvalidPapers", true), ("InvalidPlan", false), ("InvalidPlay", false), ("InvalidRow", false), ("InvalidShape", false), ("InvalidText", false), ("InvalidTrees", false), ("InvalidWorld", false), ("Misfit", false), ("NotADesk", false), ("NotNow", false), ("NothingToUndo", false), ("TooMany", false)] "InvalidPapers")) rfl)
  i_InvalidRow := isOB_ok (c.more 14 (f := .is (isOB [("Broken", false), ("DrawError", false), ("InvalidCell", false), ("InvalidCode", false), ("InvalidFraction", false), ("InvalidLine", false), ("InvalidNumber", false), ("InvalidPapers", false), ("InvalidPlan", false), ("InvalidPlay", false), ("InvalidRow", true), ("InvalidShape", false), ("InvalidText", false), ("InvalidTrees", false), ("InvalidWorld", false), ("Misfit", false), ("NotADesk", false), ("NotNow", false), ("NothingToUndo", false), ("TooMany", false)] "InvalidRow")) rfl)
  i_InvalidCode := isOB_ok (c.more 15 (f := .is (isOB [("Broken", false), ("DrawError", false), ("InvalidCell", false), ("InvalidCode", true), ("InvalidFraction", false), ("InvalidLine", false), ("InvalidNumber", false), ("InvalidPapers", false), ("InvalidPlan", false), ("InvalidPlay", false), ("InvalidRow", false), ("InvalidShape", false), ("InvalidText", false), ("InvalidTrees", false), ("InvalidWorld", false), ("Misfit", false), ("NotADesk", false), ("NotNow", false), ("NothingToUndo", false), ("TooMany", false)] "InvalidCode")) rfl)
  i_Misfit := isOB_ok (c.more 16 (f := .is (isOB [("Broken", false), ("DrawError", false), ("InvalidCell", false), ("InvalidCode", false), ("InvalidFraction", false), ("InvalidLine", false), ("InvalidNumber", false), ("InvalidPapers", false), ("InvalidPlan", false), ("InvalidPlay", false), ("InvalidRow", false), ("InvalidShape", false), ("InvalidText", false), ("InvalidTrees", false), ("InvalidWorld", false), ("Misfit", true), ("NotADesk", false), ("NotNow", false), ("NothingToUndo", false), ("TooMany", false)] "Misfit")) rfl)
  i_NothingToUndo := isOB_ok (c.more 17 (f := .is (isOB [("Broken", false), ("DrawError", false), ("InvalidCell", false), ("InvalidCode", false), ("InvalidFraction", false), ("InvalidLine", false), ("InvalidNumber", false), ("InvalidPapers", false), ("InvalidPlan", false), ("InvalidPlay", false), ("InvalidRow", false), ("InvalidShape", false), ("InvalidText", false), ("InvalidTrees", false), ("InvalidWorld", false), ("Misfit", false), ("NotADesk", false), ("NotNow", false), ("NothingToUndo", true), ("TooMany", false)] "NothingToUndo")) rfl)
  i_TooMany := isOB_ok (c.more 18 (f := .is (isOB [("Broken", false), ("DrawError", false), ("InvalidCell", false), ("InvalidCode", false), ("InvalidFraction", false), ("InvalidLine", false), ("InvalidNumber", false), ("InvalidPapers", false), ("InvalidPlan", false), ("InvalidPlay", false), ("InvalidRow", false), ("InvalidShape", false), ("InvalidText", false), ("InvalidTrees", false), ("InvalidWorld", false), ("Misfit", false), ("NotADesk", false), ("NotNow", false), ("NothingToUndo", false), ("TooMany", true)] "TooMany")) rfl)
  i_DrawError := isOB_ok (c.more 19 (f := .is (isOB [("Broken", true), ("DrawError", true), ("InvalidCell", true), ("InvalidCode", true), ("InvalidFraction", true), ("InvalidLine", true), ("InvalidNumber", true), ("InvalidPapers", true), ("InvalidPlan", true), ("InvalidPlay", true), ("InvalidRow", true), ("InvalidShape", true), ("InvalidText", true), ("InvalidTrees", true), ("InvalidWorld", true), ("Misfit", true), ("NotADesk", true), ("NotNow", true), ("NothingToUndo", true), ("TooMany", true)] "DrawError")) rfl)
  i_ValueError := isBB_ok (c.more 20 (f := .is (isBB [("Broken", true), ("DrawError", true), ("InvalidCell", true), ("InvalidCode", true), ("InvalidFraction", true), ("InvalidLine", true), ("InvalidNumber", true), ("InvalidPapers", true), ("InvalidPlan", true), ("InvalidPlay", true), ("InvalidRow", true), ("InvalidShape", true), ("InvalidText", true), ("InvalidTrees", true), ("InvalidWorld", true), ("Misfit", true), ("NotADesk", true), ("NotNow", true), ("NothingToUndo", true), ("TooMany", true)] "ValueError")) rfl)
  x_given := xfTB_ok (c.more 21 (f := .is (xfTB ["InvalidCell", "InvalidFraction", "InvalidLine", "InvalidNumber", "InvalidPlay", "InvalidShape", "InvalidTrees", "InvalidWorld", "NotADesk", "NotNow"] "given")) rfl)
  x_index := xfTB_ok (c.more 22 (f := .is (xfTB ["Broken", "InvalidCode", "InvalidPapers", "InvalidPlan", "InvalidRow", "InvalidText", "Misfit"] "index")) rfl)
  ec_InvalidCell := errB_ok (c.more 23 (f := .is (fun K => errB K (He.ga K "InvalidCell"))) rfl)
  ec_InvalidTrees := errB_ok (c.more 24 (f := .is (fun K => errB K (He.ga K "InvalidTrees"))) rfl)
  ec_InvalidFraction := errB_ok (c.more 25 (f := .is (fun K => errB K (He.ga K "InvalidFraction"))) rfl)
  ec_InvalidNumber := errB_ok (c.more 26 (f := .is (fun K => errB K (He.ga K "InvalidNumber"))) rfl)
  ec_InvalidWorld := errB_ok (c.more 27 (f := .is (fun K => errB K (He.ga K "InvalidWorld"))) rfl)
  ec_InvalidPlay := errB_ok (c.more 28 (f := .is (fun K => errB K (He.ga K "InvalidPlay"))) rfl)
  ec_InvalidShape := errB_ok (c.more 29 (f := .is (fun K => errB K (He.ga K "InvalidShape"))) rfl)
  ec_InvalidLine := errB_ok (c.more 30 (f := .is (fun K => errB K (He.ga K "InvalidLine"))) rfl)
  ec_NotADesk := errB_ok (c.more 31 (f := .is (fun K => errB K (He.ga K "NotADesk"))) rfl)
  ec_NotNow := errB_ok (c.more 32 (f := .is (fun K => errB K (He.ga K "NotNow"))) rfl)
  ec_InvalidText := errB_ok (c.more 33 (f := .is (fun K => errB K (He.ga K "InvalidText"))) rfl)
  ec_InvalidPlan := errB_ok (c.more 34 (f := .is (fun K => errB K (He.ga K "InvalidPlan"))) rfl)
  ec_Misfit := errB_ok (c.more 35 (f := .is (fun K => errB K (He.ga K "Misfit"))) rfl)
  ec_InvalidCode := errB_ok (c.more 36 (f := .is (fun K => errB K (He.ga K "InvalidCode"))) rfl)
  ec_InvalidRow := errB_ok (c.more 37 (f := .is (fun K => errB K (He.ga K "InvalidRow"))) rfl)
  ec_InvalidPapers := errB_ok (c.more 38 (f := .is (fun K => errB K (He.ga K "InvalidPapers"))) rfl)
  ec_Broken := errB_ok (c.more 39 (f := .is (fun K => errB K (He.ga K "Broken"))) rfl)
  e0_NothingToUndo := err0_ok (He.glo_ok X G (c.fact 41 (f := .glo "NothingToUndo") rfl)) (c.more 40 (f := .is (err0B "NothingToUndo")) rfl)
  e0_TooMany := err0_ok (He.glo_ok X G (c.fact 42 (f := .glo "TooMany") rfl)) (c.more 41 (f := .is (err0B "TooMany")) rfl)
  e0_DrawError := err0_ok (He.glo_ok X G (c.fact 43 (f := .glo "DrawError") rfl)) (c.more 42 (f := .is (err0B "DrawError")) rfl)
  g__law_draw := He.glo_ok X G (c.fact 0 (f := .glo "_law_draw") rfl)
  d__law_draw := c.1.def_ 0 (d := dd__law_draw) rfl
  g__law_pick := He.glo_ok X G (c.fact 1 (f := .glo "_law_pick") rfl)
  d__law_pick := c.1.def_ 1 (d := dd__law_pick) rfl
  g__law_held := He.glo_ok X G (c.fact 2 (f := .glo "_law_held") rfl)
  d__law_held := c.1.def_ 2 (d := dd__law_held) rfl
  g__law_placed := He.glo_ok X G (c.fact 3 (f := .glo "_law_placed") rfl)
  d__law_placed := c.1.def_ 3 (d := dd__law_placed) rfl
  g__law_made := He.glo_ok X G (c.fact 4 (f := .glo "_law_made") rfl)
  d__law_made := c.1.def_ 4 (d := dd__law_made) rfl
  g__law_kinds_of := He.glo_ok X G (c.fact 5 (f := .glo "_law_kinds_of") rfl)
  d__law_kinds_of := c.1.def_ 5 (d := dd__law_kinds_of) rfl
  g__law_same := He.glo_ok X G (c.fact 6 (f := .glo "_law_same") rfl)
  d__law_same := c.1.def_ 6 (d := dd__law_same) rfl
  g__law_right := He.glo_ok X G (c.fact 7 (f := .glo "_law_right") rfl)
  d__law_right := c.1.def_ 7 (d := dd__law_right) rfl
  g__law_pool := He.glo_ok X G (c.fact 8 (f := .glo "_law_pool") rfl)
  d__law_pool := c.1.def_ 8 (d := dd__law_pool) rfl
  g_law := He.glo_ok X G (c.fact 9 (f := .glo "law") rfl)
  d_law := c.1.def_ 9 (d := dd_law) rfl
def loose : List PySem.Str := (["__name__", "DrawError", "InvalidCell", "InvalidTrees", "InvalidFraction", "InvalidNumber", "InvalidWorld", "InvalidShape", "InvalidPlay", "InvalidLine", "NotADesk", "NotNow", "InvalidText", "InvalidPlan", "Misfit", "InvalidCode", "InvalidRow", "InvalidPapers", "Broken", "TooMany", "NothingToUndo", "_law_pool", "_law_draw", "_law_pick", "_law_same", "_law_made", "_law_held", "_law_placed", "_law_kinds_of", "_law_right"] : List PySem.Str)
abbrev R : PySem.W.OpenRow := PySem.W.OpenLaw.row PySem.Challenge.rw_evendraws_k00_errors_each_of_its_own
abbrev hk : PySem.W.Hook := hookZ 5 fa fb fn
def ob (s : PySem.W.SharedT) : He.AlD := obsZG 5 fa fb fn (HandSHeadRun.getT s)
theorem ob_eq (s : PySem.W.SharedT) : ob s = hk.obs s.abs := obsZG_eq (HandSHeadRun.getT_eq s)
theorem run (w : World) : HandSHeadRun.RunEq R (PySem.W.view R.prog [31]) hk ob 20000 loose w := by
  intro os
  kernel_rfl
end K00
open PySem PySem.W PySem.Calls PyProof.Rows
set_option maxRecDepth 100000 in
set_option maxHeartbeats 0 in
theorem PySem.Challenge.cw_evendraws_k00_errors_each_of_its_own_holds : PySem.Challenge.rw_evendraws_k00_errors_each_of_its_own.Holds := by
  w_on; o_law
  refine HandSHeadRun.head_any (r := OpenLaw.row PySem.Challenge.rw_evendraws_k00_errors_each_of_its_own) (q := view (OpenLaw.row PySem.Challenge.rw_evendraws_k00_errors_each_of_its_own).prog [31]) (H := K00.hk) (ob := K00.ob) (M := 20000) (loose := K00.loose) (d := HandSHeadRun.topDef (OpenLaw.row PySem.Challenge.rw_evendraws_k00_errors_each_of_its_own).prog 31) (kwd := []) K00.ob_eq
    (by kernel_rfl) (fun s => by kernel_rfl) K00.run (by kernel_rfl) (by kernel_rfl) (by kernel_rfl) (by rfl) (by first | assumption | decide +kernel) (by decide +kernel) ⟨rfl, rfl, rfl, rfl, rfl, by decide +kernel⟩ ?hw ?hc
  case hw => w_witness2
  case hc =>
    refine Z.walk_ofG (l := PySem.Challenge.rw_evendraws_k00_errors_each_of_its_own) (n := 63) (k := 7) (x := "script") rfl (by decide) (by kernel_rfl) ⟨rfl, by decide, by decide⟩ ?F
    intro w mg fa h Y G hmg0
    obtain ⟨K, KX, c⟩ := Y
    have T := K00.tx_of KX G c
    have hmg : mg ("law" : PySem.Str) = some (.ref fa) := by
      have e : (HandSHeadRun.topDef (OpenLaw.row PySem.Challenge.rw_evendraws_k00_errors_each_of_its_own).prog 31).name = ("law" : PySem.Str) := by kernel_rfl
      rw [← e]
      exact hmg0
    have efa : fa = He.ga K ("law" : PySem.Str) := Value.ref.inj (Option.some.inj (hmg.symm.trans T.g_law))
    subst efa
    obtain ⟨fd, F⟩ := T.d_law
    exact ⟨K, fd, K00.m_law, KX, fun s v => L2.FunD.bindsA (ps := ["script"]) F (fun _ _ _ _ _ _ us hl => match us, hl with | [_], _ => rfl) s [v] rfl, K00.plain_law, fun base _ _ => K00.fn_law T F⟩
