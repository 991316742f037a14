import PyProof.Rows.All
import Wide.All
import OpenK.AllK
import Wide.FinOn
import HandS.ForMost
import HandS.ForExc
import HandS.Wide
import HandS.Gcd
import HandS.IsInst
import HandS.Deep
import HandS.TupAny
import HandS.TupMul
import HandS.TupLe
import HandS.Walk
import HandS.Zip
import HandS.Style
import HandS.Flow
import HandS.HeadHook1
import HandS.WideBits
import KE.KMathG
import HandS.CallSlots
import HandS.ExcOwn
import HandS.TryOnly
import KE.GoesNew
import HandS.Defaults
import HandS.HeadHook2
import HandS.Star
import HandS.Head0
import HandS.Head1
import HandS.Head2
import HandS.HeadEnd
import PyProof.SumWalkG
import HandS.ExcValue
import HandS.CallLocal
import PyProof.ReprRoads
import HandS.EndBits
import HandS.ExcInit
import HandS.ExcIs
import HandS.ExcField
import HandS.Words
import KE.KExcIs
import HandS.Dict
import HandS.FStrTup
import PyProof.Rows.ReprOcc
import HandS.Head3
import PySem.Challenge.RW_evendraws_k60_corners_refused
set_option Elab.async false
set_option linter.all false
set_option maxRecDepth 100000
/-! Z: a functional layer. A Python expression or statement computes what a Lean function over plain data says. -/
namespace Z
open PySem PySem.Spec PyProof.Rows L2

abbrev D := PyData
abbrev Sg := L2.St
structure Exc where
  name : Str
  arg : Option (Str × D)
/-- what an expression hands on: data; a list that nobody else holds; an object of the store; what slot i holds -/
inductive W where
  | val (d : D) | own (ds : List D) | ref (n : Nat) | peek (i : Nat) | scr (ns : List Int) | fn (x : Str) | exc (x : Exc)
structure S where
  env : List (Option W)
  st : List (List D)
inductive Out (σ α : Type) where
  | fail | ok (a : α) (s : σ) | err (x : Exc) (s : σ)
abbrev M (α : Type) := S → Out S α
abbrev Store := List (List D)
abbrev Fn := List W → Store → Out Store W

def M.pure {α : Type} (a : α) : M α := fun s => .ok a s
def M.bind {α β : Type} (m : M α) (k : α → M β) : M β := fun s => match m s with
  | .fail => .fail
  | .err x s' => .err x s'
  | .ok a s' => k a s'
def M.fail {α : Type} : M α := fun _ => .fail
instance : Monad M where
  pure := M.pure
  bind := M.bind
def Run {α : Type} (m : M α) (s : S) (ok : α → S → Prop) (er : Exc → S → Prop) : Prop := match m s with
  | .fail => False
  | .ok a s' => ok a s'
  | .err x s' => er x s'
theorem Run.bind {α β : Type} {m : M α} {k : α → M β} {s : S} {ok : β → S → Prop} {er : Exc → S → Prop} (h : Run (m >>= k) s ok er) : Run m s (fun a s' => Run (k a) s' ok er) er := by
  show (match m s with | .fail => False | .ok a s' => Run (k a) s' ok er | .err x s' => er x s')
  have h' : (match M.bind m k s with | .fail => False | .ok a s' => ok a s' | .err x s' => er x s') := h
  unfold M.bind at h'
  cases e : m s with
  | fail => rw [e] at h'; exact h'
  | ok a s' => rw [e] at h'; exact h'
  | err x s' => rw [e] at h'; exact h'
theorem Run.mono {α : Type} {m : M α} {s : S} {ok ok' : α → S → Prop} {er er' : Exc → S → Prop} (h : Run m s ok er) (ho : ∀ a s', m s = .ok a s' → ok a s' → ok' a s') (he : ∀ x s', m s = .err x s' → er x s' → er' x s') : Run m s ok' er' := by
  unfold Run at h ⊢
  cases e : m s with
  | fail => rw [e] at h; exact h
  | ok a s' => rw [e] at h; exact ho a s' e h
  | err x s' => rw [e] at h; exact he x s' e h
theorem Run.pure {α : Type} {a : α} {s : S} {ok : α → S → Prop} {er : Exc → S → Prop} (h : Run (Pure.pure a : M α) s ok er) : ok a s := h

/-! ### data on the heap -/
abbrev Fz := Addr → Prop
def H0 : Hp := fun _ => none
/-- the script: frozen by the entry, or written by the module -/
def ScrAt (K : PySem.W.Frag) (H : Hp) (a : Addr) (ns : List Int) : Prop := (∃ o, H a = some (.frz o (.lst (ns.map V.int)))) ∨ SqL K H0 a (ns.map V.int)
theorem SqL.h0 {K : PySem.W.Frag} {H : Hp} {a : Addr} {xs : List V} (h : SqL K H0 a xs) : SqL K H a xs := by
  rcases h with (h | ⟨o, h⟩) | h
  · cases h
  · cases h
  · exact .inr h
theorem ScrAt.sq {K : PySem.W.Frag} {H : Hp} {a : Addr} {ns : List Int} (h : ScrAt K H a ns) : SqL K H a (ns.map V.int) := by
  rcases h with ⟨o, h⟩ | h
  · exact .inl (.inr ⟨o, h⟩)
  · exact SqL.h0 h
mutual
inductive Rp (K : PySem.W.Frag) (F : Fz) (H : Hp) : V → D → Prop
  | non : Rp K F H .non .none
  | bl (b : Bool) : Rp K F H (.bl b) (.bool b)
  | int (i : Int) : Rp K F H (.int i) (.int i)
  | str (x : Str) : Rp K F H (.str x) (.str x)
  | lst {a : Addr} {xs : List V} {ds : List D} : F a → H a = some (.lst xs) → RpAll K F H xs ds → Rp K F H (.ref a) (.list ds)
  | tup {a : Addr} {xs : List V} {ds : List D} : SqT K H a xs → RpAll K F H xs ds → Rp K F H (.ref a) (.tuple ds)
  | dct {a : Addr} : H a = some (.dK []) → Rp K F H (.ref a) (.dict [])
inductive RpAll (K : PySem.W.Frag) (F : Fz) (H : Hp) : List V → List D → Prop
  | nil : RpAll K F H [] []
  | cons {v : V} {vs : List V} {d : D} {ds : List D} : Rp K F H v d → RpAll K F H vs ds → RpAll K F H (v :: vs) (d :: ds)
end
def fixd : HO → Bool
  | .lst _ => false
  | _ => true
def Stay (F : Fz) (H H' : Hp) : Prop := ∀ a o, H a = some o → (F a ∨ fixd o = true) → H' a = some o
section
variable {K : PySem.W.Frag} {F F' : Fz} {H H' : Hp}
theorem ScrAt.mono {a : Addr} {ns : List Int} (st : Stay F H H') (h : ScrAt K H a ns) : ScrAt K H' a ns := by
  rcases h with ⟨o, h⟩ | h
  · exact .inl ⟨o, st _ _ h (.inr rfl)⟩
  · exact .inr h
theorem sqT_stay {a : Addr} {xs : List V} (st : Stay F H H') (h : SqT K H a xs) : SqT K H' a xs := by
  rcases h with (h | ⟨o, h⟩) | h
  · exact .inl (.inl (st _ _ h (.inr rfl)))
  · exact .inl (.inr ⟨o, st _ _ h (.inr rfl)⟩)
  · exact .inr h
mutual
theorem Rp.mono (st : Stay F H H') (sub : ∀ a, F a → F' a) : ∀ (d : D) (v : V), Rp K F H v d → Rp K F' H' v d
  | .none, _, h => by cases h; exact .non
  | .bool b, _, h => by cases h; exact .bl b
  | .int i, _, h => by cases h; exact .int i
  | .str x, _, h => by cases h; exact .str x
  | .list ds, _, h => by
    cases h with
    | lst f e b => exact .lst (sub _ f) (st _ _ e (.inl f)) (RpAll.mono st sub ds _ b)
  | .tuple ds, _, h => by
    cases h with
    | tup a b => exact .tup (sqT_stay st a) (RpAll.mono st sub ds _ b)
  | .dict _, _, h => by
    cases h with
    | dct e => exact .dct (st _ _ e (.inr rfl))
theorem RpAll.mono (st : Stay F H H') (sub : ∀ a, F a → F' a) : ∀ (ds : List D) (vs : List V), RpAll K F H vs ds → RpAll K F' H' vs ds
  | [], _, h => by cases h; exact .nil
  | d :: ds, _, h => by
    cases h with
    | cons a b => exact .cons (Rp.mono st sub d _ a) (RpAll.mono st sub ds _ b)
end
mutual
theorem Rp.dp : ∀ (d : D) (v : V), d.hasDict = false → Rp K F H v d → Dp K H v d
  | .none, _, _, h => by cases h; exact .non
  | .bool b, _, _, h => by cases h; exact .bl b
  | .int i, _, _, h => by cases h; exact .int i
  | .str x, _, _, h => by cases h; exact .str x
  | .list ds, _, n, h => by
    cases h with
    | lst f e b => exact .lst (SqL.of e) (RpAll.dp ds _ (by simpa [PyData.hasDict] using n) b)
  | .tuple ds, _, n, h => by
    cases h with
    | tup a b => exact .tup a (RpAll.dp ds _ (by simpa [PyData.hasDict] using n) b)
  | .dict _, _, n, h => by simp [PyData.hasDict] at n
theorem RpAll.dp : ∀ (ds : List D) (vs : List V), PyData.hasDictAll ds = false → RpAll K F H vs ds → DpAll K H vs ds
  | [], _, _, h => by cases h; exact .nil
  | d :: ds, _, n, h => by
    simp only [PyData.hasDictAll, Bool.or_eq_false_iff] at n
    cases h with
    | cons a b => exact .cons (Rp.dp d _ n.1 a) (RpAll.dp ds _ n.2 b)
end
theorem RpAll.length : ∀ {ds : List D} {vs : List V}, RpAll K F H vs ds → vs.length = ds.length
  | [], _, h => by cases h; rfl
  | d :: ds, _, h => by
    cases h with
    | cons a b => simp [RpAll.length b]
theorem RpAll.get : ∀ {ds : List D} {vs : List V} {i : Nat} {d : D}, RpAll K F H vs ds → ds[i]? = some d → ∃ v, vs[i]? = some v ∧ Rp K F H v d
  | [], _, i, d, h, e => by simp at e
  | d :: ds, _, 0, x, h, e => by
    cases h with
    | cons a b => simp at e; subst e; exact ⟨_, rfl, a⟩
  | d :: ds, _, i + 1, x, h, e => by
    cases h with
    | cons a b =>
      obtain ⟨v, h1, h2⟩ := RpAll.get b (i := i) (by simpa using e)
      exact ⟨v, by simpa using h1, h2⟩
theorem RpAll.getV : ∀ {ds : List D} {vs : List V} {i : Nat} {v : V}, RpAll K F H vs ds → vs[i]? = some v → ∃ d, ds[i]? = some d ∧ Rp K F H v d
  | [], _, i, v, h, e => by cases h; simp at e
  | d :: ds, _, 0, x, h, e => by
    cases h with
    | cons a b => simp at e; subst e; exact ⟨_, rfl, a⟩
  | d :: ds, _, i + 1, x, h, e => by
    cases h with
    | cons a b =>
      obtain ⟨v, h1, h2⟩ := RpAll.getV b (i := i) (by simpa using e)
      exact ⟨v, by simpa using h1, h2⟩
theorem RpAll.append : ∀ {ds es : List D} {vs ws : List V}, RpAll K F H vs ds → RpAll K F H ws es → RpAll K F H (vs ++ ws) (ds ++ es)
  | [], _, _, _, h, g => by cases h; exact g
  | d :: ds, _, _, _, h, g => by
    cases h with
    | cons a b => exact .cons a (RpAll.append b g)
theorem RpAll.take : ∀ {ds : List D} {vs : List V} (n : Nat), RpAll K F H vs ds → RpAll K F H (vs.take n) (ds.take n)
  | _, _, 0, _ => .nil
  | _, _, n + 1, .nil => .nil
  | _, _, n + 1, .cons a b => .cons a (RpAll.take n b)
theorem RpAll.drop : ∀ {ds : List D} {vs : List V} (n : Nat), RpAll K F H vs ds → RpAll K F H (vs.drop n) (ds.drop n)
  | _, _, 0, h => h
  | _, _, n + 1, .nil => .nil
  | _, _, n + 1, .cons a b => RpAll.drop n b
theorem RpAll.set : ∀ {ds : List D} {vs : List V} {v : V} {d : D} (n : Nat), RpAll K F H vs ds → Rp K F H v d → RpAll K F H (vs.set n v) (ds.set n d)
  | _, _, _, _, _, .nil, _ => .nil
  | _, _, _, _, 0, .cons a b, h => .cons h b
  | _, _, _, _, n + 1, .cons a b, h => .cons a (RpAll.set n b h)
theorem RpAll.reverse : ∀ {ds : List D} {vs : List V}, RpAll K F H vs ds → RpAll K F H vs.reverse ds.reverse
  | _, _, .nil => .nil
  | _, _, .cons a b => by
    simp only [List.reverse_cons]
    exact (RpAll.reverse b).append (.cons a .nil)
theorem RpAll.eraseIdx : ∀ {ds : List D} {vs : List V} (n : Nat), RpAll K F H vs ds → RpAll K F H (vs.eraseIdx n) (ds.eraseIdx n)
  | _, _, _, .nil => .nil
  | _, _, 0, .cons a b => b
  | _, _, n + 1, .cons a b => .cons a (RpAll.eraseIdx n b)
theorem RpAll.rep {ds : List D} {vs : List V} (h : RpAll K F H vs ds) : ∀ k : Nat, RpAll K F H (List.replicate k vs).flatten (List.replicate k ds).flatten
  | 0 => .nil
  | k + 1 => by
    simp only [List.replicate_succ, List.flatten_cons]
    exact h.append (RpAll.rep h k)
theorem stay_refl : Stay F H H := fun _ _ h _ => h
theorem stay_upd {p : Addr} {o : HO} (h : H p = none) : Stay F H (upd H p o) := fun a u e _ => by
  rw [upd_ne (ne_of_none e h)]; exact e
end

/-! ### errors as values: at a an error of the class cls, its dict d -/
def exT (a : Addr) (cls : Value) (d : Option Addr) : HO := .ext fun h => ∃ (oe : Obj) (vs : Array Value), h.get? a = some oe ∧ Zc cls d oe ∧ oe.data = .fields vs
def ExArg (K : PySem.W.Frag) (F : Fz) (H : Hp) (x : Exc) (d : Option Addr) : Prop := match x.arg with
  | none => d = none
  | some (f, dd) => ∃ b v, d = some b ∧ H b = some (.xd [(f, v)]) ∧ Rp K F H v dd
def ExV (K : PySem.W.Frag) (F : Fz) (H : Hp) (v : V) (x : Exc) : Prop := ∃ a d, v = .ref a ∧ H a = some (exT a (.ref (He.ga K x.name)) d) ∧ ExArg K F H x d
/-! ### the state -/
structure Base where
  F : Fz
  ρ : List Addr
  H : Hp
/-- from a call's entry on: what was tracked and is not of the store stays; what is frozen stays so -/
structure Fx (F : Fz) (ρ : List Addr) (H : Hp) (F' : Fz) (ρ' : List Addr) (H' : Hp) : Prop where
  sub : ∀ a, F a → F' a
  rho : ∃ m, ρ' = ρ ++ m
  new : ∀ a, a ∈ ρ' → a ∈ ρ ∨ H a = none
  keep : ∀ a o, H a = some o → a ∉ ρ → H' a = some o
  fz : ∀ a, F' a → F a ∨ H a = none
def OwnedBy (s : S) (σ : Sg) (a : Addr) : Prop := ∃ (i : Nat) (ds : List D), s.env[i]? = some (some (.own ds)) ∧ σ[i]? = some (some (.ref a))
structure Sto (K : PySem.W.Frag) (F : Fz) (ρ : List Addr) (st : Store) (H : Hp) : Prop where
  len : st.length = ρ.length
  nd : ρ.Nodup
  at_ : ∀ (n : Nat) (ds : List D), st[n]? = some ds → ∃ a vs, ρ[n]? = some a ∧ ¬ F a ∧ H a = some (.lst vs) ∧ RpAll K F H vs ds
/-- what a slot holds -/
def SOk (K : PySem.W.Frag) (B : Base) (F : Fz) (ρ : List Addr) (H : Hp) (v : V) : W → Prop
  | .val d => Rp K F H v d
  | .own ds => ∃ a vs, v = .ref a ∧ H a = some (.lst vs) ∧ RpAll K F H vs ds ∧ ¬ F a ∧ a ∉ ρ ∧ B.H a = none
  | .ref n => ∃ a, v = .ref a ∧ ρ[n]? = some a
  | .peek _ => False
  | .scr ns => ∃ a, v = .ref a ∧ ScrAt K H a ns
  | .fn x => v = .ref (He.ga K x)
  | .exc x => ExV K F H v x
structure Ok (K : PySem.W.Frag) (B : Base) (F : Fz) (ρ : List Addr) (s : S) (σ : Sg) (H : Hp) : Prop where
  len : s.env.length = σ.length
  base : Fx B.F B.ρ B.H F ρ H
  trk : ∀ a, F a → ∃ xs, H a = some (.lst xs)
  sto : Sto K F ρ s.st H
  env : ∀ (i : Nat) (w : W), s.env[i]? = some (some w) → ∃ v, σ[i]? = some (some v) ∧ SOk K B F ρ H v w
  sep : ∀ (i j : Nat) (ds es : List D) (a : Addr), s.env[i]? = some (some (.own ds)) → s.env[j]? = some (some (.own es)) → σ[i]? = some (some (.ref a)) → σ[j]? = some (some (.ref a)) → i = j
/-- a value in hand -/
def WOk (K : PySem.W.Frag) (B : Base) (F : Fz) (ρ : List Addr) (s : S) (σ : Sg) (H : Hp) (v : V) : W → Prop
  | .val d => Rp K F H v d
  | .own ds => ∃ a vs, v = .ref a ∧ H a = some (.lst vs) ∧ RpAll K F H vs ds ∧ ¬ F a ∧ a ∉ ρ ∧ ¬ OwnedBy s σ a ∧ B.H a = none
  | .ref n => ∃ a, v = .ref a ∧ ρ[n]? = some a
  | .peek i => σ[i]? = some (some v)
  | .scr ns => ∃ a, v = .ref a ∧ ScrAt K H a ns
  | .fn x => v = .ref (He.ga K x)
  | .exc x => ExV K F H v x
/-- within an expression -/
structure Ext (s : S) (σ : Sg) (F : Fz) (ρ : List Addr) (H : Hp) (s' : S) (F' : Fz) (ρ' : List Addr) (H' : Hp) : Prop where
  sub : ∀ a, F a → F' a
  rho : ∃ m, ρ' = ρ ++ m
  new : ∀ a, a ∈ ρ' → a ∈ ρ ∨ H a = none
  keep : ∀ a o, H a = some o → a ∉ ρ → ¬ OwnedBy s σ a → H' a = some o
  th : ∀ a, H' a = none → H a = none
  fz : ∀ a, F' a → F a ∨ H a = none ∨ OwnedBy s σ a
  ow : ∀ a, OwnedBy s' σ a → OwnedBy s σ a
/-- a fresh list is not one that stood -/
def Fresh (H : Hp) (v : V) : W → Prop
  | .own _ => ∀ a, v = .ref a → H a = none
  | _ => True
section
variable {K : PySem.W.Frag} {B : Base} {F F' F1 F2 : Fz} {ρ ρ' ρ1 ρ2 : List Addr} {s s' s1 s2 : S} {σ σ' : Sg} {H H' H1 H2 : Hp} {v : V} {w : W} {p : Addr} {o : HO}
theorem Sto.mem {st : Store} (h : Sto K F ρ st H) {a : Addr} (ha : a ∈ ρ) : ¬ F a ∧ ∃ vs, H a = some (.lst vs) := by
  obtain ⟨n, hn, e⟩ := List.mem_iff_getElem.mp ha
  have hn' : n < st.length := by rw [h.len]; exact hn
  obtain ⟨b, vs, e1, e2, e3, _⟩ := h.at_ n st[n] (List.getElem?_eq_getElem hn')
  rw [List.getElem?_eq_getElem hn] at e1
  have e4 : ρ[n] = b := Option.some.inj e1
  rw [e] at e4
  subst e4
  exact ⟨e2, vs, e3⟩
theorem Fx.stay {st : Store} (x : Fx F ρ H F' ρ' H') (h : Sto K F ρ st H) : Stay F H H' := fun a o e q => x.keep a o e fun ha => by
  obtain ⟨n1, vs, n2⟩ := h.mem ha
  rcases q with q | q
  · exact n1 q
  · rw [n2] at e; cases e; cases q
theorem Fx.refl : Fx F ρ H F ρ H := ⟨fun _ h => h, ⟨[], by simp⟩, fun _ h => .inl h, fun _ _ h _ => h, fun _ h => .inl h⟩
theorem Ext.refl : Ext s σ F ρ H s F ρ H := ⟨fun _ h => h, ⟨[], by simp⟩, fun _ h => .inl h, fun _ _ h _ _ => h, fun _ h => h, fun _ h => .inl h, fun _ h => h⟩
theorem Ext.there {st : Store} (x : Ext s σ F ρ H s' F' ρ' H') (h : Sto K F' ρ' st H') {a : Addr} (e : H' a = none) : H a = none := x.th a e
theorem Fx.there {st : Store} (x : Fx F ρ H F' ρ' H') (h : Sto K F' ρ' st H') {a : Addr} (e : H' a = none) : H a = none := by
  cases q : H a with
  | none => rfl
  | some o =>
    by_cases ha : a ∈ ρ
    · obtain ⟨m, em⟩ := x.rho
      obtain ⟨_, vs, e2⟩ := h.mem (a := a) (by rw [em]; exact List.mem_append_left _ ha)
      rw [e2] at e; cases e
    · rw [x.keep a o q ha] at e; cases e
theorem Ext.trans {st : Store} (x : Ext s σ F ρ H s1 F1 ρ1 H1) (y : Ext s1 σ F1 ρ1 H1 s2 F2 ρ2 H2) (h : Sto K F1 ρ1 st H1) : Ext s σ F ρ H s2 F2 ρ2 H2 where
  sub := fun a q => y.sub a (x.sub a q)
  rho := by
    obtain ⟨m, e⟩ := x.rho
    obtain ⟨m', e'⟩ := y.rho
    exact ⟨m ++ m', by rw [e', e, List.append_assoc]⟩
  new := fun a q => by
    rcases y.new a q with q | q
    · exact x.new a q
    · exact .inr (x.there h q)
  keep := fun a o q n no => y.keep a o (x.keep a o q n no) (fun z => by
    rcases x.new a z with z | z
    · exact n z
    · rw [q] at z; cases z) fun z => no (x.ow a z)
  th := fun a e => x.th a (y.th a e)
  fz := fun a q => by
    rcases y.fz a q with q | q | q
    · exact x.fz a q
    · exact .inr (.inl (x.there h q))
    · exact .inr (.inr (x.ow a q))
  ow := fun a q => x.ow a (y.ow a q)
theorem Fx.trans {st : Store} (x : Fx F ρ H F1 ρ1 H1) (y : Fx F1 ρ1 H1 F2 ρ2 H2) (h : Sto K F1 ρ1 st H1) : Fx F ρ H F2 ρ2 H2 where
  sub := fun a q => y.sub a (x.sub a q)
  rho := by
    obtain ⟨m, e⟩ := x.rho
    obtain ⟨m', e'⟩ := y.rho
    exact ⟨m ++ m', by rw [e', e, List.append_assoc]⟩
  new := fun a q => by
    rcases y.new a q with q | q
    · exact x.new a q
    · exact .inr (x.there h q)
  keep := fun a o q n => y.keep a o (x.keep a o q n) fun z => by
    rcases x.new a z with z | z
    · exact n z
    · rw [q] at z; cases z
  fz := fun a q => by
    rcases y.fz a q with q | q
    · exact x.fz a q
    · exact .inr (x.there h q)
theorem Ok.fresh (k : Ok K B F ρ s σ H) (h : H p = none) : B.H p = none := k.base.there k.sto h
theorem Ok.owned {a : Addr} (k : Ok K B F ρ s σ H) (h : OwnedBy s σ a) : ¬ F a ∧ a ∉ ρ ∧ B.H a = none ∧ ∃ vs, H a = some (.lst vs) := by
  obtain ⟨i, ds, e1, e2⟩ := h
  obtain ⟨v, e3, b, vs, e4, e5, _, e6, e7, e8⟩ := k.env i _ e1
  rw [e2] at e3
  cases e3
  cases e4
  exact ⟨e6, e7, e8, vs, e5⟩
theorem Ok.stay (k : Ok K B F ρ s σ H) (x : Ext s σ F ρ H s' F' ρ' H') : Stay F H H' := fun a o e q => x.keep a o e (fun ha => by
  obtain ⟨n1, vs, n2⟩ := k.sto.mem ha
  rcases q with q | q
  · exact n1 q
  · rw [n2] at e; cases e; cases q) fun ho => by
  obtain ⟨n1, _, _, vs, n2⟩ := k.owned ho
  rcases q with q | q
  · exact n1 q
  · rw [n2] at e; cases e; cases q
theorem Ok.nF (k : Ok K B F ρ s σ H) (h : H p = none) : ¬ F p := fun f => by
  obtain ⟨xs, e⟩ := k.trk p f
  rw [h] at e; cases e
theorem Ok.nρ (k : Ok K B F ρ s σ H) (h : H p = none) : p ∉ ρ := fun f => by
  obtain ⟨_, xs, e⟩ := k.sto.mem f
  rw [h] at e; cases e
theorem Ok.nO (k : Ok K B F ρ s σ H) (h : H p = none) : ¬ OwnedBy s σ p := fun ⟨i, ds, e1, e2⟩ => by
  obtain ⟨v, e3, a, vs, e4, e5, _⟩ := k.env i _ e1
  rw [e2] at e3
  cases e3
  cases e4
  rw [h] at e5; cases e5
theorem RpAll.st {ds : List D} {vs : List V} (h : RpAll K F H vs ds) (t : Stay F H H') (sub : ∀ a, F a → F' a) : RpAll K F' H' vs ds := RpAll.mono t sub _ _ h
theorem Rp.st {d : D} {v : V} (h : Rp K F H v d) (t : Stay F H H') (sub : ∀ a, F a → F' a) : Rp K F' H' v d := Rp.mono t sub _ _ h
theorem ExArg.st {K : PySem.W.Frag} {F F' : Fz} {H H' : Hp} {x : Exc} {d : Option Addr} (h : ExArg K F H x d) (st : Stay F H H') (sub : ∀ a, F a → F' a) : ExArg K F' H' x d := by
  unfold ExArg at h ⊢
  split at h
  · exact h
  · obtain ⟨b, v, e, q, r⟩ := h
    exact ⟨b, v, e, st b _ q (.inr rfl), Rp.st r st sub⟩
theorem ExV.st {K : PySem.W.Frag} {F F' : Fz} {H H' : Hp} {v : V} {x : Exc} (h : ExV K F H v x) (st : Stay F H H') (sub : ∀ a, F a → F' a) : ExV K F' H' v x := by
  obtain ⟨a, d, e, q, r⟩ := h
  exact ⟨a, d, e, st a _ q (.inr rfl), r.st st sub⟩
theorem WOk.mono (k : Ok K B F ρ s σ H) (x : Ext s σ F ρ H s' F' ρ' H') (h : WOk K B F ρ s σ H v w) : WOk K B F' ρ' s' σ H' v w := by
  cases w with
  | val d => exact Rp.st h (k.stay x) x.sub
  | own ds =>
    obtain ⟨a, vs, e1, e2, e3, e4, e5, e6, e7⟩ := h
    refine ⟨a, vs, e1, x.keep a _ e2 e5 e6, e3.st (k.stay x) x.sub, fun f => ?_, fun f => ?_, fun f => e6 (x.ow a f), e7⟩
    · rcases x.fz a f with f | f | f
      · exact e4 f
      · rw [e2] at f; cases f
      · exact e6 f
    · rcases x.new a f with f | f
      · exact e5 f
      · rw [e2] at f; cases f
  | ref n =>
    obtain ⟨a, e1, e2⟩ := h
    obtain ⟨m, em⟩ := x.rho
    refine ⟨a, e1, ?_⟩
    rw [em]
    obtain ⟨hn, e3⟩ := List.getElem?_eq_some_iff.mp e2
    rw [List.getElem?_append_left hn]; exact e2
  | peek i => exact h
  | scr ns =>
    obtain ⟨a, e, q⟩ := h
    exact ⟨a, e, q.mono (k.stay x)⟩
  | fn x => exact h
  | exc xx => exact ExV.st h (k.stay x) x.sub
theorem Fresh.back {st : Store} (x : Ext s σ F ρ H s' F' ρ' H') (h : Sto K F' ρ' st H') (f : Fresh H' v w) : Fresh H v w := by
  cases w with
  | own ds => exact fun a e => x.there h (f a e)
  | val d => trivial
  | ref n => trivial
  | peek i => trivial
  | scr ns => trivial
  | fn x => trivial
  | exc xx => trivial
/-- a new object -/
theorem Ok.new (k : Ok K B F ρ s σ H) (h : H p = none) : Ok K B F ρ s σ (upd H p o) where
  len := k.len
  base := k.base.trans ⟨fun _ h => h, ⟨[], by simp⟩, fun _ h => .inl h, fun a u e _ => by rw [upd_ne (ne_of_none e h)]; exact e, fun _ h => .inl h⟩ k.sto
  trk := fun a f => by
    obtain ⟨xs, e⟩ := k.trk a f
    exact ⟨xs, by rw [upd_ne (ne_of_none e h)]; exact e⟩
  sto := ⟨k.sto.len, k.sto.nd, fun n ds e => by
    obtain ⟨a, vs, e1, e2, e3, e4⟩ := k.sto.at_ n ds e
    exact ⟨a, vs, e1, e2, by rw [upd_ne (ne_of_none e3 h)]; exact e3, e4.st (stay_upd h) fun _ z => z⟩⟩
  env := fun i w e => by
    obtain ⟨v, e1, e2⟩ := k.env i w e
    refine ⟨v, e1, ?_⟩
    cases w with
    | val d => exact Rp.st e2 (stay_upd h) fun _ z => z
    | own ds =>
      obtain ⟨a, vs, q1, q2, q3, q4, q5, q6⟩ := e2
      exact ⟨a, vs, q1, by rw [upd_ne (ne_of_none q2 h)]; exact q2, q3.st (stay_upd h) fun _ z => z, q4, q5, q6⟩
    | ref n => exact e2
    | peek i => exact e2
    | scr ns =>
      obtain ⟨a, q1, q2⟩ := e2
      exact ⟨a, q1, q2.mono (F := F) (stay_upd h)⟩
    | fn x => exact e2
    | exc xx => exact ExV.st e2 (stay_upd h) fun _ z => z
  sep := k.sep
theorem upd_none {a p : Addr} (e : upd H p o a = none) : H a = none := by
  by_cases h : a = p
  · rw [h, upd_same] at e; cases e
  · rw [upd_ne h] at e; exact e
theorem Ext.new_ (h : H p = none) : Ext s σ F ρ H s F ρ (upd H p o) :=
  ⟨fun _ h => h, ⟨[], by simp⟩, fun _ h => .inl h, fun a u e _ _ => by rw [upd_ne (ne_of_none e h)]; exact e, fun a e => upd_none e, fun _ h => .inl h, fun _ h => h⟩
/-- a list of one's own is frozen -/
theorem Ok.freeze {a : Addr} {vs : List V} (k : Ok K B F ρ s σ H) (h1 : H a = some (.lst vs)) (h2 : a ∉ ρ) (h3 : ¬ OwnedBy s σ a) (h4 : B.H a = none) : Ok K B (fun b => F b ∨ b = a) ρ s σ H where
  len := k.len
  base := ⟨fun b f => .inl (k.base.sub b f), k.base.rho, k.base.new, k.base.keep, fun b f => by
    rcases f with f | f
    · exact k.base.fz b f
    · rw [f]; exact .inr h4⟩
  trk := fun b f => by
    rcases f with f | f
    · exact k.trk b f
    · rw [f]; exact ⟨vs, h1⟩
  sto := ⟨k.sto.len, k.sto.nd, fun n ds e => by
    obtain ⟨b, ws, e1, e2, e3, e4⟩ := k.sto.at_ n ds e
    refine ⟨b, ws, e1, fun f => ?_, e3, e4.st stay_refl fun _ z => .inl z⟩
    rcases f with f | f
    · exact e2 f
    · subst f; exact h2 (List.mem_of_getElem? e1)⟩
  env := fun i w e => by
    obtain ⟨v, e1, e2⟩ := k.env i w e
    refine ⟨v, e1, ?_⟩
    cases w with
    | val d => exact Rp.st e2 stay_refl fun _ z => .inl z
    | own ds =>
      obtain ⟨b, ws, q1, q2, q3, q4, q5, q6⟩ := e2
      refine ⟨b, ws, q1, q2, q3.st stay_refl (fun _ z => .inl z), fun f => ?_, q5, q6⟩
      rcases f with f | f
      · exact q4 f
      · subst f q1; exact h3 ⟨i, ds, e, e1⟩
    | ref n => exact e2
    | peek i => exact e2
    | scr ns => exact e2
    | fn x => exact e2
    | exc xx => exact ExV.st e2 stay_refl fun _ z => .inl z
  sep := k.sep
theorem Ext.freeze_ {a : Addr} (h : H a = none ∨ OwnedBy s σ a) (ow : ∀ a, OwnedBy s' σ a → OwnedBy s σ a) : Ext s σ F ρ H s' (fun b => F b ∨ b = a) ρ H :=
  ⟨fun _ h => .inl h, ⟨[], by simp⟩, fun _ h => .inl h, fun a u e _ _ => e, fun _ e => e, fun b f => by
    rcases f with f | f
    · exact .inl f
    · rw [f]; exact .inr h, ow⟩
end
end Z
/-! Z, part 2: the judgements, and expressions. -/
namespace Z
open PySem PySem.Spec PyProof.Rows L2

/-! ### contents -/
def contW (st : Store) : W → Option D
  | .val d => some d
  | .own ds => some (.list ds)
  | .ref n => (st[n]?).map .list
  | .peek _ => none
  | .scr ns => some (.list (ns.map .int))
  | .fn _ => none
  | .exc _ => none
def content (w : W) (s : S) : Option D := match w with
  | .peek i => (s.env[i]?).bind fun o => o.bind (contW s.st)
  | w => contW s.st w
def scrW : W → Bool
  | .scr _ => true
  | _ => false
def isScr (w : W) (s : S) : Bool := match w with
  | .peek i => ((s.env[i]?).bind fun o => o.map scrW).getD false
  | w => scrW w
def look (w : W) : M D := fun s => match content w s with
  | some d => .ok d s
  | none => .fail
/-- for what wants a list that is no script -/
def lookT (w : W) : M D := fun s => match content w s with
  | some d => if isScr w s then .fail else .ok d s
  | none => .fail
def ofO {α : Type} (o : Option α) : M α := fun s => match o with
  | some a => .ok a s
  | none => .fail
/-- what is to be read: data, or a list as it stands -/
inductive Lk (K : PySem.W.Frag) (F : Fz) (H : Hp) : V → D → Prop
  | of {v : V} {d : D} : Rp K F H v d → Lk K F H v d
  | lst {a : Addr} {vs : List V} {ds : List D} : SqL K H a vs → RpAll K F H vs ds → Lk K F H (.ref a) (.list ds)
inductive LkT (K : PySem.W.Frag) (F : Fz) (H : Hp) : V → D → Prop
  | of {v : V} {d : D} : Rp K F H v d → LkT K F H v d
  | lst {a : Addr} {vs : List V} {ds : List D} : H a = some (.lst vs) → RpAll K F H vs ds → LkT K F H (.ref a) (.list ds)
section
variable {K : PySem.W.Frag} {B : Base} {F F' F1 F2 : Fz} {ρ ρ' ρ1 ρ2 : List Addr} {s s' s1 s2 : S} {σ σ' : Sg} {H H' H1 H2 : Hp} {v : V} {w : W} {p : Addr} {o : HO} {d : D}
theorem rp_ints : ∀ ns : List Int, RpAll K F H (ns.map V.int) (ns.map PyData.int)
  | [] => .nil
  | n :: ns => .cons (.int n) (rp_ints ns)
theorem LkT.lk (h : LkT K F H v d) : Lk K F H v d := by
  cases h with
  | of r => exact .of r
  | lst e r => exact .lst (SqL.of e) r
theorem contW_ok (k : Ok K B F ρ s σ H) (o : SOk K B F ρ H v w) (e : contW s.st w = some d) : Lk K F H v d ∧ (scrW w = false → LkT K F H v d) := by
  cases w with
  | val d' => cases e; exact ⟨.of o, fun _ => .of o⟩
  | own ds =>
    cases e
    obtain ⟨a, vs, rfl, h1, h2, _⟩ := o
    exact ⟨.lst (SqL.of h1) h2, fun _ => .lst h1 h2⟩
  | ref n =>
    obtain ⟨a, rfl, h1⟩ := o
    have e' : (s.st[n]?).map PyData.list = some d := e
    cases q : s.st[n]? with
    | none => rw [q] at e'; cases e'
    | some ds =>
      rw [q] at e'
      cases e'
      obtain ⟨b, vs, q1, q2, q3, q4⟩ := k.sto.at_ n ds q
      rw [h1] at q1
      cases q1
      exact ⟨.lst (SqL.of q3) q4, fun _ => .lst q3 q4⟩
  | peek i => cases e
  | scr ns =>
    cases e
    obtain ⟨a, rfl, h1⟩ := o
    exact ⟨.lst h1.sq (rp_ints ns), fun z => by cases z⟩
  | fn x => cases e
  | exc xx => cases e
theorem content_ok (k : Ok K B F ρ s σ H) (o : WOk K B F ρ s σ H v w) (e : content w s = some d) : Lk K F H v d ∧ (isScr w s = false → LkT K F H v d) := by
  cases w with
  | val d' => cases e; exact ⟨.of o, fun _ => .of o⟩
  | own ds =>
    cases e
    obtain ⟨a, vs, rfl, h1, h2, _⟩ := o
    exact ⟨.lst (SqL.of h1) h2, fun _ => .lst h1 h2⟩
  | ref n => exact contW_ok (w := .ref n) k o e
  | scr ns => exact contW_ok (w := .scr ns) k o e
  | fn x => exact contW_ok (w := .fn x) k o e
  | exc xx => exact contW_ok (w := .exc xx) k o e
  | peek i =>
    have e' : (s.env[i]?).bind (fun o => o.bind (contW s.st)) = some d := e
    cases q : s.env[i]? with
    | none => rw [q] at e'; cases e'
    | some o' =>
      cases o' with
      | none => rw [q] at e'; cases e'
      | some w' =>
        rw [q] at e'
        obtain ⟨v', h1, h2⟩ := k.env i w' q
        have o' : σ[i]? = some (some v) := o
        rw [o'] at h1
        cases h1
        have h3 := contW_ok k h2 e'
        refine ⟨h3.1, fun z => h3.2 ?_⟩
        have z' : ((s.env[i]?).bind fun o => o.map scrW).getD false = false := z
        rw [q] at z'
        exact z'
theorem Run.look {β : Type} {w : W} {k : D → M β} {ok : β → S → Prop} {er : Exc → S → Prop} (h : Run (Z.look w >>= k) s ok er) : ∃ d, content w s = some d ∧ Run (k d) s ok er := by
  have h' := Run.bind h
  unfold Run Z.look at h'
  cases e : content w s with
  | none => rw [e] at h'; exact h'.elim
  | some d => rw [e] at h'; exact ⟨d, rfl, h'⟩
theorem Run.lookT {β : Type} {w : W} {k : D → M β} {ok : β → S → Prop} {er : Exc → S → Prop} (h : Run (Z.lookT w >>= k) s ok er) : ∃ d, content w s = some d ∧ isScr w s = false ∧ Run (k d) s ok er := by
  have h' := Run.bind h
  unfold Run Z.lookT at h'
  cases e : content w s with
  | none => rw [e] at h'; exact h'.elim
  | some d =>
    rw [e] at h'
    cases q : isScr w s with
    | true => rw [q] at h'; exact h'.elim
    | false => rw [q] at h'; exact ⟨d, rfl, rfl, h'⟩
theorem Run.ofO {α : Type} {o : Option α} {ok : α → S → Prop} {er : Exc → S → Prop} (h : Run (Z.ofO o) s ok er) : ∃ a, o = some a ∧ ok a s := by
  unfold Run Z.ofO at h
  cases o with
  | none => exact h.elim
  | some a => exact ⟨a, rfl, h⟩
theorem Run.ofOb {α β : Type} {o : Option α} {k : α → M β} {ok : β → S → Prop} {er : Exc → S → Prop} (h : Run (Z.ofO o >>= k) s ok er) : ∃ a, o = some a ∧ Run (k a) s ok er := Run.ofO (Run.bind h)
end

/-! ### the judgements -/
def XOk (K : PySem.W.Frag) (mg : Str → Option Value) (F : Fz) (H : Hp) (x : Exc) (cls : Value) (d : Option Addr) : Prop :=
  ∃ C, mg x.name = some (.ref C) ∧ cls = .ref C ∧ match x.arg with
    | none => d = none
    | some (f, dd) => ∃ a v, d = some a ∧ H a = some (.xd [(f, v)]) ∧ Rp K F H v dd
def Er (K : PySem.W.Frag) (mg : Str → Option Value) (Wx : WX) (B : Base) (σ : Sg) (x : Exc) (s' : S) : Prop :=
  ∀ F' ρ' H' cls d, Ok K B F' ρ' s' σ H' → XOk K mg F' H' x cls d → Wx cls d σ H'
/-- what is known of a value behind an expression that began at s, F, ρ, H -/
def Post (K : PySem.W.Frag) (B : Base) (σ : Sg) (s : S) (F : Fz) (ρ : List Addr) (H : Hp) (Q : VK) (w : W) (s' : S) : Prop :=
  ∀ F' ρ' H' v, Ext s σ F ρ H s' F' ρ' H' → Ok K B F' ρ' s' σ H' → WOk K B F' ρ' s' σ H' v w → Fresh H v w → Q v H'
def PostB (K : PySem.W.Frag) (B : Base) (σ : Sg) (s : S) (F : Fz) (ρ : List Addr) (H : Hp) (Q : Bool → Hp → Prop) (b : Bool) (s' : S) : Prop :=
  ∀ F' ρ' H', Ext s σ F ρ H s' F' ρ' H' → Ok K B F' ρ' s' σ H' → Q b H'
inductive WAll (K : PySem.W.Frag) (B : Base) (F : Fz) (ρ : List Addr) (s : S) (σ : Sg) (H : Hp) : List V → List W → Prop
  | nil : WAll K B F ρ s σ H [] []
  | cons {v : V} {vs : List V} {w : W} {ws : List W} : WOk K B F ρ s σ H v w → WAll K B F ρ s σ H vs ws → WAll K B F ρ s σ H (v :: vs) (w :: ws)
def PostA (K : PySem.W.Frag) (B : Base) (σ : Sg) (s : S) (F : Fz) (ρ : List Addr) (H : Hp) (Q : List V → Hp → Prop) (ws : List W) (s' : S) : Prop :=
  ∀ F' ρ' H' vs, Ext s σ F ρ H s' F' ρ' H' → Ok K B F' ρ' s' σ H' → WAll K B F' ρ' s' σ H' vs ws → Q vs H'
/-- an expression, a test, arguments -/
def EM (K : PySem.W.Frag) (mg : Str → Option Value) (Wx : WX) (m : M W) : TE := fun σ H Q => ∃ B F ρ s, Ok K B F ρ s σ H ∧ Run m s (Post K B σ s F ρ H Q) (Er K mg Wx B σ)
def CM (K : PySem.W.Frag) (mg : Str → Option Value) (Wx : WX) (m : M Bool) : TT := fun σ H Q => ∃ B F ρ s, Ok K B F ρ s σ H ∧ Run m s (PostB K B σ s F ρ H Q) (Er K mg Wx B σ)
def AM (K : PySem.W.Frag) (mg : Str → Option Value) (Wx : WX) (m : M (List W)) : TA := fun σ H Q => ∃ B F ρ s, Ok K B F ρ s σ H ∧ Run m s (PostA K B σ s F ρ H Q) (Er K mg Wx B σ)
abbrev DE (X : Cx) (Wx : WX) (e : Expr) (m : M W) : Prop := PE X e (EM X.K X.mg Wx m)
abbrev DC (X : Cx) (Wx : WX) (e : Expr) (m : M Bool) : Prop := PT X e (CM X.K X.mg Wx m)
abbrev DA (X : Cx) (Wx : WX) (es : List Expr) (m : M (List W)) : Prop := PA X es (AM X.K X.mg Wx m)
theorem pe_mono {X : Cx} {e : Expr} {t t' : TE} (h : PE X e t) (k : ∀ σ H Q, t' σ H Q → t σ H Q) : PE X e t' := ⟨fun pins s σ H Q I q => h.run pins s σ H Q I (k _ _ _ q)⟩
theorem pt_mono {X : Cx} {e : Expr} {t t' : TT} (h : PT X e t) (k : ∀ σ H Q, t' σ H Q → t σ H Q) : PT X e t' := ⟨fun pins s σ H Q I q => h.run pins s σ H Q I (k _ _ _ q)⟩
theorem pw_mono {X : Cx} {e : Expr} {t t' : TT} (h : PW X e t) (k : ∀ σ H Q, t' σ H Q → t σ H Q) : PW X e t' := ⟨fun wh pins s σ H Q I q => h.run wh pins s σ H Q I (k _ _ _ q)⟩
theorem pa_mono {X : Cx} {e : List Expr} {t t' : TA} (h : PA X e t) (k : ∀ σ H Q, t' σ H Q → t σ H Q) : PA X e t' := ⟨fun pos pins s σ H Q I q => h.run pos pins s σ H Q I (k _ _ _ q)⟩
theorem ps_mono {X : Cx} {e : Stmt} {t t' : TS} (h : PS X e t) (k : ∀ D σ H, t' D σ H → t D σ H) : PS X e t' := ⟨fun pins s σ H D I q => h.run pins s σ H D I (k _ _ _ q)⟩
theorem pss_mono {X : Cx} {e : List Stmt} {t t' : TS} (h : PSs X e t) (k : ∀ D σ H, t' D σ H → t D σ H) : PSs X e t' := ⟨fun pins s σ H D I q => h.run pins s σ H D I (k _ _ _ q)⟩

section
variable {K : PySem.W.Frag} {mg : Str → Option Value} {Wx : WX} {B : Base} {F F' F1 F2 : Fz} {ρ ρ' ρ1 ρ2 : List Addr} {s s' s1 s2 : S} {σ σ' : Sg} {H H' H1 H2 : Hp} {v : V} {w : W} {p : Addr} {o : HO} {d : D} {Q : VK}
theorem Post.step {st : Store} (e : Ext s σ F ρ H s1 F1 ρ1 H1) (k : Sto K F1 ρ1 st H1) (h : Post K B σ s F ρ H Q w s') : Post K B σ s1 F1 ρ1 H1 Q w s' := fun F' ρ' H' v e' k' o' f' =>
  h F' ρ' H' v (e.trans e' k) k' o' (Fresh.back e k f')
theorem PostB.step {st : Store} {Q : Bool → Hp → Prop} {b : Bool} (e : Ext s σ F ρ H s1 F1 ρ1 H1) (k : Sto K F1 ρ1 st H1) (h : PostB K B σ s F ρ H Q b s') : PostB K B σ s1 F1 ρ1 H1 Q b s' := fun F' ρ' H' e' k' =>
  h F' ρ' H' (e.trans e' k) k'
theorem PostA.step {st : Store} {Q : List V → Hp → Prop} {ws : List W} (e : Ext s σ F ρ H s1 F1 ρ1 H1) (k : Sto K F1 ρ1 st H1) (h : PostA K B σ s F ρ H Q ws s') : PostA K B σ s1 F1 ρ1 H1 Q ws s' := fun F' ρ' H' vs e' k' o' =>
  h F' ρ' H' vs (e.trans e' k) k' o'
theorem Post.val (h : Post K B σ s F ρ H Q (.val d) s) (k : Ok K B F ρ s σ H) (r : Rp K F H v d) : Q v H := h F ρ H v .refl k r trivial
theorem Post.new {ds : List D} (h : Post K B σ s F ρ H Q (.val d) s) (k : Ok K B F ρ s σ H) (hp : H p = none) (r : Rp K F (upd H p o) v d) : Q v (upd H p o) :=
  h F ρ _ _ (Ext.new_ hp) (k.new hp) r trivial
theorem Post.tup {ds : List D} {vs : List V} (h : Post K B σ s F ρ H Q (.val (.tuple ds)) s) (k : Ok K B F ρ s σ H) (r : RpAll K F H vs ds) (hp : H p = none) : Q (.ref p) (upd H p (.tup vs)) :=
  h F ρ _ _ (Ext.new_ hp) (k.new hp) (.tup (SqT.of upd_same) (r.st (stay_upd hp) fun _ z => z)) trivial
theorem wok_new {ds : List D} {vs : List V} (k : Ok K B F ρ s σ H) (r : RpAll K F H vs ds) (hp : H p = none) : WOk K B F ρ s σ (upd H p (.lst vs)) (.ref p) (.own ds) :=
  ⟨p, vs, rfl, upd_same, r.st (stay_upd hp) fun _ z => z, k.nF hp, k.nρ hp, k.nO hp, k.fresh hp⟩
theorem Post.own {ds : List D} {vs : List V} (h : Post K B σ s F ρ H Q (.own ds) s) (k : Ok K B F ρ s σ H) (r : RpAll K F H vs ds) (hp : H p = none) : Q (.ref p) (upd H p (.lst vs)) :=
  h F ρ _ _ (Ext.new_ hp) (k.new hp) (wok_new k r hp) fun a e => by cases e; exact hp
/-- one expression, then what is done with its value -/
theorem em_un {m1 : M W} {f : W → M W} {Q : VK} {P : VK}
    (hr : ∀ {B F ρ s H x w}, Ok K B F ρ s σ H → WOk K B F ρ s σ H x w → Run (f w) s (Post K B σ s F ρ H Q) (Er K mg Wx B σ) → P x H)
    (h : EM K mg Wx (m1 >>= f) σ H Q) : EM K mg Wx m1 σ H P := by
  obtain ⟨B, F, ρ, s, k, h⟩ := h
  exact ⟨B, F, ρ, s, k, (Run.bind h).mono (fun w1 s1 _ h1 F1 ρ1 H1 x e1 k1 o1 _ => hr k1 o1 (h1.mono (fun w s' _ p => p.step e1 k1.sto) fun _ _ _ e => e)) fun _ _ _ e => e⟩
theorem em_unB {m1 : M W} {f : W → M Bool} {Q : Bool → Hp → Prop} {P : VK}
    (hr : ∀ {B F ρ s H x w}, Ok K B F ρ s σ H → WOk K B F ρ s σ H x w → Run (f w) s (PostB K B σ s F ρ H Q) (Er K mg Wx B σ) → P x H)
    (h : CM K mg Wx (m1 >>= f) σ H Q) : EM K mg Wx m1 σ H P := by
  obtain ⟨B, F, ρ, s, k, h⟩ := h
  exact ⟨B, F, ρ, s, k, (Run.bind h).mono (fun w1 s1 _ h1 F1 ρ1 H1 x e1 k1 o1 _ => hr k1 o1 (h1.mono (fun w s' _ p => p.step e1 k1.sto) fun _ _ _ e => e)) fun _ _ _ e => e⟩
theorem em_bin {m1 m2 : M W} {f : W → W → M W} {Q : VK} {P : V → V → Hp → Prop}
    (hr : ∀ {B F ρ s H x y w1 w2}, Ok K B F ρ s σ H → WOk K B F ρ s σ H x w1 → WOk K B F ρ s σ H y w2 → Run (f w1 w2) s (Post K B σ s F ρ H Q) (Er K mg Wx B σ) → P x y H)
    (h : EM K mg Wx (m1 >>= fun a => m2 >>= fun b => f a b) σ H Q) : EM K mg Wx m1 σ H fun x H1 => EM K mg Wx m2 σ H1 fun y H2 => P x y H2 := by
  obtain ⟨B, F, ρ, s, k, h⟩ := h
  refine ⟨B, F, ρ, s, k, (Run.bind h).mono (fun w1 s1 _ h1 F1 ρ1 H1 x e1 k1 o1 _ => ⟨B, F1, ρ1, s1, k1, (Run.bind h1).mono (fun w2 s2 _ h2 F2 ρ2 H2 y e2 k2 o2 _ => ?_) fun _ _ _ e => e⟩) fun _ _ _ e => e⟩
  exact hr k2 (o1.mono k1 e2) o2 (h2.mono (fun w s' _ p => p.step (e1.trans e2 k1.sto) k2.sto) fun _ _ _ e => e)
theorem em_binB {m1 m2 : M W} {f : W → W → M Bool} {Q : Bool → Hp → Prop} {P : V → V → Hp → Prop}
    (hr : ∀ {B F ρ s H x y w1 w2}, Ok K B F ρ s σ H → WOk K B F ρ s σ H x w1 → WOk K B F ρ s σ H y w2 → Run (f w1 w2) s (PostB K B σ s F ρ H Q) (Er K mg Wx B σ) → P x y H)
    (h : CM K mg Wx (m1 >>= fun a => m2 >>= fun b => f a b) σ H Q) : EM K mg Wx m1 σ H fun x H1 => EM K mg Wx m2 σ H1 fun y H2 => P x y H2 := by
  obtain ⟨B, F, ρ, s, k, h⟩ := h
  refine ⟨B, F, ρ, s, k, (Run.bind h).mono (fun w1 s1 _ h1 F1 ρ1 H1 x e1 k1 o1 _ => ⟨B, F1, ρ1, s1, k1, (Run.bind h1).mono (fun w2 s2 _ h2 F2 ρ2 H2 y e2 k2 o2 _ => ?_) fun _ _ _ e => e⟩) fun _ _ _ e => e⟩
  exact hr k2 (o1.mono k1 e2) o2 (h2.mono (fun w s' _ p => p.step (e1.trans e2 k1.sto) k2.sto) fun _ _ _ e => e)
end

/-! ### names and constants -/
section
variable {X : Cx} {Wx : WX} {pos : Pos}
theorem Run.ret {α : Type} {a : α} {s : S} {ok : α → S → Prop} {er : Exc → S → Prop} (h : Run (Pure.pure a : M α) s ok er) : ok a s := h
def eC (d : D) : M W := Pure.pure (.val d)
def eVar (i : Nat) : M W := fun s => match s.env[i]? with
  | some (some _) => .ok (.peek i) s
  | _ => .fail
theorem i_int {i j} : DE X Wx (.Constant (.int i) j pos) (eC (.int i)) := pe_mono pe_int fun σ H Q ⟨B, F, ρ, s, k, h⟩ => Post.val (Run.ret h) k (.int i)
theorem i_bool {b j} : DE X Wx (.Constant (.bool b) j pos) (eC (.bool b)) := pe_mono pe_bl fun σ H Q ⟨B, F, ρ, s, k, h⟩ => Post.val (Run.ret h) k (.bl b)
theorem i_none {j} : DE X Wx (.Constant .none j pos) (eC .none) := pe_mono pe_non fun σ H Q ⟨B, F, ρ, s, k, h⟩ => Post.val (Run.ret h) k .non
theorem i_str {x j} : DE X Wx (.Constant (.str x) j pos) (eC (.str x)) := pe_mono pe_str fun σ H Q ⟨B, F, ρ, s, k, h⟩ => Post.val (Run.ret h) k (.str x)
theorem i_var (i : Nat) {x : Str} (hN : X.N[i]? = some x := by rfl) (hv : Vis X.env.scope x := by first | exact Or.inl rfl | exact Or.inr (Or.inl rfl) | exact Or.inr (Or.inr rfl)) (hd : (x == ("__debug__" : Str)) = false := by decide)
    (hcd : (x == ("__classdict__" : Str)) = false := by decide) : DE X Wx (.Name x pos) (eVar i) := pe_mono (pe_var hN hv hd hcd) fun σ H Q ⟨B, F, ρ, s, k, h⟩ => by
  unfold Run eVar at h
  cases e : s.env[i]? with
  | none => rw [e] at h; exact h.elim
  | some o =>
    cases o with
    | none => rw [e] at h; exact h.elim
    | some w =>
      rw [e] at h
      obtain ⟨v, h1, _⟩ := k.env i w e
      exact ⟨v, h1, h F ρ H v .refl k h1 trivial⟩
/-- a constant of the module -/
theorem i_glob {x : Str} {v : V} {u : Value} {d : D} (hg : Gl X x) (hm : X.mg x = some u) (r : RelV v u) (hd : ∀ F H, Rp X.K F H v d) (hdb : (x == ("__debug__" : Str)) = false := by decide) : DE X Wx (.Name x pos) (eC d) :=
  pe_mono (pe_glob hg hm r hdb) fun σ H Q ⟨B, F, ρ, s, k, h⟩ => Post.val (Run.ret h) k (hd F H)
end

/-! ### two operands -/
def opBin (f : D → D → Option W) (m1 m2 : M W) : M W := m1 >>= fun a => m2 >>= fun b => lookT a >>= fun x => lookT b >>= fun y => ofO (f x y)
def opCmp (f : D → D → Option Bool) (m1 m2 : M W) : M Bool := m1 >>= fun a => m2 >>= fun b => look a >>= fun x => look b >>= fun y => ofO (f x y)
def opCmpV (f : D → D → Option Bool) (m1 m2 : M W) : M W := m1 >>= fun a => m2 >>= fun b => look a >>= fun x => look b >>= fun y => ofO ((f x y).map fun b => .val (.bool b))
/-- the rule r does on values what f does on data -/
def BinR (K : PySem.W.Frag) (r : R2) (f : D → D → Option W) : Prop := ∀ {B F ρ s σ H x y d1 d2 w Q}, Ok K B F ρ s σ H → LkT K F H x d1 → LkT K F H y d2 → f d1 d2 = some w → Post K B σ s F ρ H Q w s → r x y H Q
def CmpR (K : PySem.W.Frag) (r : R2) (f : D → D → Option Bool) : Prop := ∀ {F H x y d1 d2 b Q}, Lk K F H x d1 → Lk K F H y d2 → f d1 d2 = some b → Q (.bl b) H → r x y H Q
section
variable {X : Cx} {Wx : WX} {pos : Pos} {a b c : Expr} {m1 m2 m3 : M W} {r r' : R2} {f f' : D → D → Option Bool}
theorem i_bin {op : Operator} {g : D → D → Option W} (ho : OpR X (binaryOp op) r) (hr : BinR X.K r g) (ha : DE X Wx a m1) (hb : DE X Wx b m2) : DE X Wx (.BinOp a op b pos) (opBin g m1 m2) :=
  pe_mono (pe_op ho ha hb) fun σ H Q h => em_bin (P := fun x y H2 => r x y H2 Q) (fun k o1 o2 h => by
    obtain ⟨d1, e1, t1, h⟩ := Run.lookT h
    obtain ⟨d2, e2, t2, h⟩ := Run.lookT h
    obtain ⟨w, e3, h⟩ := Run.ofO h
    exact hr k ((content_ok k o1 e1).2 t1) ((content_ok k o2 e2).2 t2) e3 h) h
theorem i_cmp {op : CmpOp} (ho : OpR X (compareOp op) r) (hr : CmpR X.K r f) (ha : DE X Wx a m1) (hb : DE X Wx b m2) (hm : behindInMarks op b = false) : DE X Wx (.Compare a [op] [b] pos) (opCmpV f m1 m2) :=
  pe_mono (pe_cmpR ho ha hb hm) fun σ H Q h => em_bin (P := fun x y H2 => r x y H2 Q) (fun k o1 o2 h => by
    obtain ⟨d1, e1, h⟩ := Run.look h
    obtain ⟨d2, e2, h⟩ := Run.look h
    obtain ⟨w, e3, h⟩ := Run.ofO h
    cases e4 : f d1 d2 with
    | none => rw [e4] at e3; cases e3
    | some b =>
      rw [e4] at e3
      cases e3
      exact hr (content_ok k o1 e1).1 (content_ok k o2 e2).1 e4 (Post.val h k (.bl b))) h
theorem i_cmpT {op : CmpOp} (ho : OpR X (compareOp op) r) (hr : CmpR X.K r f) (ha : DE X Wx a m1) (hb : DE X Wx b m2) (hm : behindInMarks op b = false) : DC X Wx (.Compare a [op] [b] pos) (opCmp f m1 m2) :=
  pt_mono (pt_cmpR ho ha hb hm) fun σ H Q h => em_binB (P := fun x y H2 => r x y H2 (fun x H' => ∃ k, x = .bl k ∧ Q k H')) (fun {B F ρ s H _ _ _ _} k o1 o2 h => by
    obtain ⟨d1, e1, h⟩ := Run.look h
    obtain ⟨d2, e2, h⟩ := Run.look h
    obtain ⟨b, e3, h⟩ := Run.ofO h
    exact hr (content_ok k o1 e1).1 (content_ok k o2 e2).1 e3 ⟨b, rfl, h F ρ H .refl k⟩) h
/-- a < b < c -/
def opChainV (f f' : D → D → Option Bool) (m1 m2 m3 : M W) : M W := m1 >>= fun a => m2 >>= fun b => look a >>= fun x => look b >>= fun y => ofO (f x y) >>= fun t =>
  if t = true then m3 >>= fun c => look b >>= fun y => look c >>= fun z => ofO ((f' y z).map fun b => .val (.bool b)) else Pure.pure (.val (.bool false))
def opChain (f f' : D → D → Option Bool) (m1 m2 m3 : M W) : M Bool := m1 >>= fun a => m2 >>= fun b => look a >>= fun x => look b >>= fun y => ofO (f x y) >>= fun t =>
  if t = true then m3 >>= fun c => look b >>= fun y => look c >>= fun z => ofO (f' y z) else Pure.pure false
theorem i_chain {op op' : CmpOp} (ho : OpR X (compareOp op) r) (ho' : OpR X (compareOp op') r') (hr : CmpR X.K r f) (hr' : CmpR X.K r' f') (ha : DE X Wx a m1) (hb : DE X Wx b m2) (hc : DE X Wx c m3)
    (hm : lastMarks [op, op'] [b, c] = false := by with_unfolding_all rfl) : DE X Wx (.Compare a [op, op'] [b, c] pos) (opChainV f f' m1 m2 m3) :=
  pe_mono (pe_chain ho ho' ha hb hc hm) fun σ H Q h => em_bin (P := fun x y H2 => r x y H2 fun z H3 => ∃ k, z = .bl k ∧ (if k = true then EM X.K X.mg Wx m3 σ H3 fun w' H4 => r' y w' H4 Q else Q (.bl false) H3)) (fun {B F ρ s H _ _ _ _} k o1 o2 h => by
    obtain ⟨d1, e1, h⟩ := Run.look h
    obtain ⟨d2, e2, h⟩ := Run.look h
    obtain ⟨t, e3, h⟩ := Run.ofOb h
    refine hr (content_ok k o1 e1).1 (content_ok k o2 e2).1 e3 ⟨t, rfl, ?_⟩
    cases t with
    | false => exact iteF (Post.val (Run.ret h) k (.bl false))
    | true =>
      refine iteT ⟨B, F, ρ, s, k, (Run.bind h).mono (fun w3 s3 _ h3 F3 ρ3 H3 z e3' k3 o3 _ => ?_) fun _ _ _ e => e⟩
      obtain ⟨d2', e2', h3⟩ := Run.look h3
      obtain ⟨d3, e3'', h3⟩ := Run.look h3
      obtain ⟨w, e4, h3⟩ := Run.ofO h3
      cases e5 : f' d2' d3 with
      | none => rw [e5] at e4; cases e4
      | some b =>
        rw [e5] at e4
        cases e4
        exact hr' (content_ok k3 (o2.mono k e3') e2').1 (content_ok k3 o3 e3'').1 e5 (Post.val (h3.step e3' k3.sto) k3 (.bl b))) h
theorem i_chainT {op op' : CmpOp} (ho : OpR X (compareOp op) r) (ho' : OpR X (compareOp op') r') (hr : CmpR X.K r f) (hr' : CmpR X.K r' f') (ha : DE X Wx a m1) (hb : DE X Wx b m2) (hc : DE X Wx c m3)
    (hm : lastMarks [op, op'] [b, c] = false := by with_unfolding_all rfl) : DC X Wx (.Compare a [op, op'] [b, c] pos) (opChain f f' m1 m2 m3) :=
  pt_mono (pt_chain ho ho' ha hb hc hm) fun σ H Q h => em_binB (P := fun x y H2 => r x y H2 fun z H3 => ∃ k, z = .bl k ∧ (if k = true then EM X.K X.mg Wx m3 σ H3 fun w' H4 => r' y w' H4 (fun x H' => ∃ k, x = .bl k ∧ Q k H') else ∃ k, (V.bl false) = .bl k ∧ Q k H3)) (fun {B F ρ s H _ _ _ _} k o1 o2 h => by
    obtain ⟨d1, e1, h⟩ := Run.look h
    obtain ⟨d2, e2, h⟩ := Run.look h
    obtain ⟨t, e3, h⟩ := Run.ofOb h
    refine hr (content_ok k o1 e1).1 (content_ok k o2 e2).1 e3 ⟨t, rfl, ?_⟩
    cases t with
    | false => exact iteF ⟨false, rfl, (Run.ret h) F ρ H .refl k⟩
    | true =>
      refine iteT ⟨B, F, ρ, s, k, (Run.bind h).mono (fun w3 s3 _ h3 F3 ρ3 H3 z e3' k3 o3 _ => ?_) fun _ _ _ e => e⟩
      obtain ⟨d2', e2', h3⟩ := Run.look h3
      obtain ⟨d3, e3'', h3⟩ := Run.look h3
      obtain ⟨b, e5, h3⟩ := Run.ofO h3
      exact hr' (content_ok k3 (o2.mono k e3') e2').1 (content_ok k3 o3 e3'').1 e5 ⟨b, rfl, h3 F3 ρ3 H3 e3' k3⟩) h
end
end Z
/-! Z, part 3: operators on data. -/
namespace Z
open PySem PySem.Spec PyProof.Rows L2

/-! ### tuple * n for n ≤ 1, or the empty tuple -/
section
variable {prog : Program} {w : World}
theorem tup_mul_same (l : Addr) (items : Array Value) (n : Nat) (dd : Option Addr) (sl : Array (Option Value)) (x : Int) (u : Tok) (c0 : (decide (x < -(2 ^ 63)) || decide (x ≥ 2 ^ 63)) = false) (c1 : (items.isEmpty || x == 1) = true) :
    Meets (Builtin.«tuple.__mul__» ⟨[.ref l, .int x u], []⟩) (fun _ R s => s.heap.get? l = some { cls := .type "tuple", dict := dd, data := .seq items n, slots := sl } ∧ R (.ok (.ret (Value.ref l))) s) :=
  .of_wp fun prog w A R s h => by
    obtain ⟨hp, g, d, tk, os⟩ := s
    obtain ⟨hl, h⟩ := h
    have f1 := AutoSeq1.idx_int
    wp_walk using wpAny_loadPart' hl
    repeat (first
      | (refine wpAny_ite_false (decide_eq_false (by rw [c0]; exact Bool.false_ne_true)) ?_; wp_walk using wpAny_loadPart' hl)
      | (refine wpAny_ite_true (decide_eq_true (by rw [c1])) ?_; wp_walk using wpAny_loadPart' hl))
    exact ⟨_, rfl, h⟩
theorem tup_mul_none (l : Addr) (items : Array Value) (n : Nat) (dd : Option Addr) (sl : Array (Option Value)) (x : Int) (u : Tok) (c0 : (decide (x < -(2 ^ 63)) || decide (x ≥ 2 ^ 63)) = false) (c1 : (items.isEmpty || x == 1) = false) (c2 : (decide (x ≤ 0) || items.isEmpty) = true) :
    Meets (Builtin.«tuple.__mul__» ⟨[.ref l, .int x u], []⟩) (fun _ R s => s.heap.get? l = some { cls := .type "tuple", dict := dd, data := .seq items n, slots := sl } ∧
      R (.ok (.ret (Value.ref s.heap.objs.size))) { s with heap := s.heap.push { cls := Value.type "tuple", data := Data.seq #[] }, toks := s.toks }) :=
  .of_wp fun prog w A R s h => by
    obtain ⟨hp, g, d, tk, os⟩ := s
    obtain ⟨hl, h⟩ := h
    have f1 := AutoSeq1.idx_int
    wp_walk using wpAny_loadPart' hl
    repeat (first
      | (refine wpAny_ite_false (decide_eq_false (by rw [c0]; exact Bool.false_ne_true)) ?_; wp_walk using wpAny_loadPart' hl)
      | (refine wpAny_ite_false (decide_eq_false (by rw [c1]; exact Bool.false_ne_true)) ?_; wp_walk using wpAny_loadPart' hl)
      | (refine wpAny_ite_true (decide_eq_true (by rw [c2])) ?_; wp_walk using wpAny_loadPart' hl))
    exact ⟨_, rfl, h⟩
end
def rRepA (K : PySem.W.Frag) : R2 := fun x y H Q => ∃ l k xs, x = .ref l ∧ y = .int k ∧ SqT K H l xs ∧ -1000 ≤ k ∧ k ≤ 1000 ∧ xs.length ≤ 1000 ∧ ((xs = [] ∨ k = 1) → Q (.ref l) H) ∧ (¬ (xs = [] ∨ k = 1) → ∀ p, H p = none → Q (.ref p) (upd H p (.tup (List.replicate k.toNat xs).flatten)))
theorem op_repA {X : Cx} : OpR X (binaryOp .Mult) (rRepA X.K) := by
  intro pins s σ H x y v u Q I rx ry h
  obtain ⟨l, k, xs, rfl, rfl, hT, h0, h1, hz, q1, q2⟩ := h
  by_cases h2 : 2 ≤ k ∧ xs ≠ []
  · exact op_repT pins s σ H _ _ v u Q I rx ry ⟨l, k, xs, rfl, rfl, hT, h2.2, h2.1, h1, hz, q2 fun z => z.elim h2.2 fun z => by have := h2.1; omega⟩
  cases rx
  obtain ⟨t, rfl⟩ := ry
  obtain ⟨its, r, ⟨⟨cls, dd, data, sl⟩, ho, hc, n, hd⟩, hs⟩ := I.tuple hT
  simp only at hc hd
  subst hc hd
  have c0 : (decide (k < -(2 ^ 63)) || decide (k ≥ 2 ^ 63)) = false := by
    rw [decide_eq_false (by omega), decide_eq_false (by omega)] <;> rfl
  have hem : its.toArray.isEmpty = decide (xs = []) := by
    cases r with
    | nil => rfl
    | cons a b => simp
  refine wpAny_binaryOp_repeat_ref (T := "tuple") (U := "int") (by decide) ⟨_, ho, rfl⟩ (fun s' => typeIs_int s' k t) noFill_tuple_mul F.fills_int_mul F.slot_int_rmul repeat_tuple F.slot_int_index.lookup
    (call_meets F.slot_int_rmul (typeIs_int s k t) F.entry_int_rmul (F.args_int_rmul_2 _ _) (int_rmul_tuple k t l its.toArray n dd sl) ⟨ho, rfl, ⟨_, ho, rfl⟩, ?_⟩)
  by_cases h3 : xs = [] ∨ k = 1
  · have c1 : (its.toArray.isEmpty || k == 1) = true := by
      rw [hem]
      rcases h3 with z | z
      · rw [decide_eq_true z]; rfl
      · subst z; simp
    refine call_meets F.slot_tuple_mul ⟨_, ho, rfl⟩ F.entry_tuple_mul (F.args_tuple_mul_2 _ _) (tup_mul_same l its.toArray n dd sl k t c0 c1) ⟨ho, ?_⟩
    exact ⟨.ref l, H, I, rfl, q1 h3⟩
  · have hk : k ≤ 0 := by
      by_cases z : 2 ≤ k
      · exact absurd ⟨z, fun e => h3 (.inl e)⟩ h2
      · have : k ≠ 1 := fun e => h3 (.inr e)
        omega
    have c1 : (its.toArray.isEmpty || k == 1) = false := by
      rw [hem, decide_eq_false (fun e => h3 (.inl e))]
      exact beq_eq_false_iff_ne.mpr (by omega)
    have c2 : (decide (k ≤ 0) || its.toArray.isEmpty) = true := by rw [decide_eq_true hk]; rfl
    refine call_meets F.slot_tuple_mul ⟨_, ho, rfl⟩ F.entry_tuple_mul (F.args_tuple_mul_2 _ _) (tup_mul_none l its.toArray n dd sl k t c0 c1 c2) ⟨ho, ?_⟩
    have e0 : k.toNat = 0 := by omega
    have q := q2 h3 _ (I.hok.fresh (Nat.le_refl _))
    rw [e0] at q
    exact ⟨.ref s.heap.objs.size, _, I.laid (t' := s.toks) (o := .tup []) (fun b ob q => Heap.get?_push_of_some _ q) (Nat.le_refl _) ⟨Nat.zero_le _, [], .nil, IsTup.new _ _⟩, rfl, q⟩
/-! ### // of any divisor that is not 0, below 2 ^ 9000 -/
def CDivA (_ j : Int) : Prop := j ≠ 0 ∧ j.natAbs.log2 < 9000
theorem op_fdivA {X : Cx} : OpR X (binaryOp .FloorDiv) (rI CDivA fun i j => .int (i.fdiv j)) := opI fun i j _ _ _ _ _ hc q => floordiv_int hc.1 q (.inl (PyProof.noPylong_of_log2 hc.2))
/-! ### in, of any data -/
def rInA (K : PySem.W.Frag) (neg : Bool) : R2 := fun x y H Q => ∃ d ds, Dp K H x d ∧ (Dp K H y (.list ds) ∨ Dp K H y (.tuple ds)) ∧ SeqAt.shaped d = true ∧ SeqAt.shaped (.list ds) = true ∧ Q (.bl (if neg then !ds.any fun z => PyData.eqv z d else ds.any fun z => PyData.eqv z d)) H
theorem room_in {A : Around} {d : PyData} {ds : List PyData} (h : SeqAt.shaped d = true) (hu : A.units + 65 < cLine) : A.units + 1 + min (PyData.depthAll ds) d.depth < cLine := by
  have h1 := SeqAt.depth_of_shaped h
  have h2 : min (PyData.depthAll ds) d.depth ≤ d.depth := Nat.min_le_right _ _
  omega
theorem op_inA {X : Cx} (hu : X.A.units + 65 < cLine) : OpR X (compareOp .In) (rInA X.K false) := by
  intro pins s σ H x y v u Q I rx ry h
  obtain ⟨d, ds, hd, he, sd, se, q⟩ := h
  obtain ⟨as, r1⟩ := Dp.reads I d x v hd rx
  rcases he with he | he
  · obtain ⟨bs, r2⟩ := Dp.reads I (.list ds) y u he ry
    exact SeqAt.in_list_reads r2 r1 (SeqAt.canLay_of_shaped se) (SeqAt.canLay_of_shaped sd) (room_in sd hu) ⟨.bl _, H, I, rfl, q⟩
  · obtain ⟨bs, r2⟩ := Dp.reads I (.tuple ds) y u he ry
    exact SeqAt.in_tuple_reads r2 r1 (SeqAt.canLay_of_shaped se) (SeqAt.canLay_of_shaped sd) (room_in sd hu) ⟨.bl _, H, I, rfl, q⟩
theorem op_ninA {X : Cx} (hu : X.A.units + 65 < cLine) : OpR X (compareOp .NotIn) (rInA X.K true) := by
  intro pins s σ H x y v u Q I rx ry h
  obtain ⟨d, ds, hd, he, sd, se, q⟩ := h
  obtain ⟨as, r1⟩ := Dp.reads I d x v hd rx
  rcases he with he | he
  · obtain ⟨bs, r2⟩ := Dp.reads I (.list ds) y u he ry
    exact SeqAt.notIn_list_reads r2 r1 (SeqAt.canLay_of_shaped se) (SeqAt.canLay_of_shaped sd) (room_in sd hu) ⟨.bl _, H, I, rfl, q⟩
  · obtain ⟨bs, r2⟩ := Dp.reads I (.tuple ds) y u he ry
    exact SeqAt.notIn_tuple_reads r2 r1 (SeqAt.canLay_of_shaped se) (SeqAt.canLay_of_shaped sd) (room_in sd hu) ⟨.bl _, H, I, rfl, q⟩

/-! ### what is read, taken apart -/
section
variable {K : PySem.W.Frag} {F : Fz} {H : Hp} {v : V}
theorem Lk.dp {d : D} (h : Lk K F H v d) (n : d.hasDict = false) : Dp K H v d := by
  cases h with
  | of r => exact Rp.dp _ _ n r
  | lst e r => exact .lst e (RpAll.dp _ _ (by simpa [PyData.hasDict] using n) r)
/-- what may be compared -/
def okD (d : D) : Bool := SeqAt.shaped d && !d.hasDict
theorem okD.sh {d : D} (h : okD d = true) : SeqAt.shaped d = true := (Bool.and_eq_true_iff.mp h).1
theorem okD.nd {d : D} (h : okD d = true) : d.hasDict = false := by
  have := (Bool.and_eq_true_iff.mp h).2
  simpa using this
theorem okD.of {d : D} (h : SeqAt.shaped d = true) (n : d.hasDict = false) : okD d = true := by
  unfold okD
  rw [h, n]; rfl
theorem nd_list {ds : List D} (h : (PyData.list ds).hasDict = false) : (PyData.tuple ds).hasDict = false := by simpa [PyData.hasDict] using h
theorem Lk.int {i : Int} (h : Lk K F H v (.int i)) : v = .int i := by cases h with | of r => cases r; rfl
theorem Lk.bool {i : Bool} (h : Lk K F H v (.bool i)) : v = .bl i := by cases h with | of r => cases r; rfl
theorem Lk.str {i : Str} (h : Lk K F H v (.str i)) : v = .str i := by cases h with | of r => cases r; rfl
theorem Lk.none (h : Lk K F H v .none) : v = .non := by cases h with | of r => cases r; rfl
theorem Lk.tup {ds : List D} (h : Lk K F H v (.tuple ds)) : ∃ a vs, v = .ref a ∧ SqT K H a vs ∧ RpAll K F H vs ds := by
  cases h with | of r => cases r with | tup a b => exact ⟨_, _, rfl, a, b⟩
theorem Lk.list {ds : List D} (h : Lk K F H v (.list ds)) : ∃ a vs, v = .ref a ∧ SqL K H a vs ∧ RpAll K F H vs ds := by
  cases h with
  | of r => cases r with | lst f a b => exact ⟨_, _, rfl, SqL.of a, b⟩
  | lst e r => exact ⟨_, _, rfl, e, r⟩
theorem LkT.list {ds : List D} (h : LkT K F H v (.list ds)) : ∃ a vs, v = .ref a ∧ H a = some (.lst vs) ∧ RpAll K F H vs ds := by
  cases h with
  | of r => cases r with | lst f a b => exact ⟨_, _, rfl, a, b⟩
  | lst e r => exact ⟨_, _, rfl, e, r⟩
theorem Lk.dict {l} (h : Lk K F H v (.dict l)) : ∃ a, v = .ref a ∧ H a = some (.dK []) := by cases h with | of r => cases r with | dct e => exact ⟨_, rfl, e⟩
end

/-! ### arithmetic -/
def addD : D → D → Option W
  | .int i, .int j => some (.val (.int (i + j)))
  | .str a, .str b => if a.length + b.length ≤ sizeLine then some (.val (.str (a ++ b))) else none
  | .tuple a, .tuple b => if a.length + b.length ≤ sizeLine then some (.val (.tuple (a ++ b))) else none
  | .list a, .list b => if a.length + b.length ≤ sizeLine then some (.own (a ++ b)) else none
  | _, _ => none
def subD : D → D → Option W
  | .int i, .int j => some (.val (.int (i - j)))
  | _, _ => none
def mulD : D → D → Option W
  | .int i, .int j => if (Builtin.Int.intBits i : Int) + (Builtin.Int.intBits j : Int) ≤ 134217728 then some (.val (.int (i * j))) else none
  | .tuple a, .int k => if -1000 ≤ k ∧ k ≤ 1000 ∧ a.length ≤ 1000 then some (.val (.tuple (List.replicate k.toNat a).flatten)) else none
  | .list a, .int k => if -1000 ≤ k ∧ k ≤ 1000 ∧ a.length ≤ 1000 then some (.own (List.replicate k.toNat a).flatten) else none
  | _, _ => none
def fdivD : D → D → Option W
  | .int i, .int j => if j ≠ 0 ∧ j.natAbs.log2 < 9000 then some (.val (.int (i.fdiv j))) else none
  | _, _ => none
def modD : D → D → Option W
  | .int i, .int j => if j ≠ 0 then some (.val (.int (i.fmod j))) else none
  | _, _ => none
def powD : D → D → Option W
  | .int i, .int j => if 0 ≤ j ∧ j ≤ 1000000 ∧ i.natAbs < 2 ^ 64 then some (.val (.int (i ^ j.toNat))) else none
  | _, _ => none
def rAdd_ (K : PySem.W.Frag) : R2 := fun x y H Q => rI0 (fun i j => .int (i + j)) x y H Q ∨ (∃ i j, x = .str i ∧ y = .str j ∧ i.length + j.length ≤ sizeLine ∧ Q (.str (i ++ j)) H) ∨ rCatA K x y H Q ∨ rCat x y H Q
def rMul_ (K : PySem.W.Frag) : R2 := fun x y H Q => rI CMulX (fun i j => .int (i * j)) x y H Q ∨ rRepA K x y H Q ∨ rRep x y H Q
theorem o_add {X : Cx} : OpR X (binaryOp .Add) (rAdd_ X.K) := op_add.or (op_add_str.or (op_catA.or op_cat))
theorem o_mul {X : Cx} : OpR X (binaryOp .Mult) (rMul_ X.K) := op_mulX.or (op_repA.or op_rep)
section
variable {K : PySem.W.Frag}
theorem b_add : BinR K (rAdd_ K) addD := by
  intro B F ρ s σ H x y d1 d2 w Q k h1 h2 e p
  unfold addD at e
  split at e
  · rename_i i j
    cases e
    exact .inl ⟨i, j, h1.lk.int, h2.lk.int, p.val k (.int _)⟩
  · rename_i a b
    split at e
    · rename_i hz
      cases e
      exact .inr (.inl ⟨a, b, h1.lk.str, h2.lk.str, hz, p.val k (.str _)⟩)
    · cases e
  · rename_i a b
    split at e
    · rename_i hz
      cases e
      obtain ⟨p1, vs, rfl, t1, r1⟩ := h1.lk.tup
      obtain ⟨p2, ws, rfl, t2, r2⟩ := h2.lk.tup
      refine .inr (.inr (.inl ⟨p1, p2, vs, ws, rfl, rfl, t1, t2, by rw [r1.length, r2.length]; exact hz, fun z => ?_, fun z1 z2 => ?_, fun z1 z2 q hq => ?_⟩))
      · subst z
        cases r1
        exact p.val k (.tup t2 r2)
      · subst z2
        cases r2
        rw [List.append_nil] at p
        exact p.val k (.tup t1 r1)
      · exact p.tup k (r1.append r2) hq
    · cases e
  · rename_i a b
    split at e
    · rename_i hz
      cases e
      obtain ⟨p1, vs, rfl, t1, r1⟩ := h1.list
      obtain ⟨p2, ws, rfl, t2, r2⟩ := h2.list
      exact .inr (.inr (.inr ⟨p1, p2, vs, ws, rfl, rfl, t1, t2, by rw [r1.length, r2.length]; exact hz, fun q hq => p.own k (r1.append r2) hq⟩))
    · cases e
  · cases e
theorem b_sub : BinR K (rI0 fun i j => .int (i - j)) subD := by
  intro B F ρ s σ H x y d1 d2 w Q k h1 h2 e p
  unfold subD at e
  split at e
  · rename_i i j
    cases e
    exact ⟨i, j, h1.lk.int, h2.lk.int, p.val k (.int _)⟩
  · cases e
theorem b_mul : BinR K (rMul_ K) mulD := by
  intro B F ρ s σ H x y d1 d2 w Q k h1 h2 e p
  unfold mulD at e
  split at e
  · rename_i i j
    split at e
    · rename_i hz
      cases e
      exact .inl ⟨i, j, h1.lk.int, h2.lk.int, hz, p.val k (.int _)⟩
    · cases e
  · rename_i a n
    split at e
    · rename_i hz
      cases e
      obtain ⟨p1, vs, rfl, t1, r1⟩ := h1.lk.tup
      obtain rfl := h2.lk.int
      refine .inr (.inl ⟨p1, n, vs, rfl, rfl, t1, hz.1, hz.2.1, by rw [r1.length]; exact hz.2.2, fun z => ?_, fun z q hq => p.tup k (r1.rep _) hq⟩)
      rcases z with z | z
      · subst z
        cases r1
        have e0 : (List.replicate n.toNat ([] : List D)).flatten = [] := by simp
        rw [e0] at p
        exact p.val k (.tup t1 .nil)
      · subst z
        have e0 : (List.replicate (1 : Int).toNat a).flatten = a := by simp
        rw [e0] at p
        exact p.val k (.tup t1 r1)
    · cases e
  · rename_i a n
    split at e
    · rename_i hz
      cases e
      obtain ⟨p1, vs, rfl, t1, r1⟩ := h1.list
      obtain rfl := h2.lk.int
      refine .inr (.inr ⟨p1, n, vs, rfl, rfl, t1, by omega, by omega, ?_, fun q hq => p.own k (r1.rep _) hq⟩)
      rw [r1.length, sizeLine_eq]
      have : a.length * n.toNat ≤ 1000 * 1000 := Nat.mul_le_mul hz.2.2 (by omega)
      omega
    · cases e
  · cases e
theorem b_fdiv : BinR K (rI CDivA fun i j => .int (i.fdiv j)) fdivD := by
  intro B F ρ s σ H x y d1 d2 w Q k h1 h2 e p
  unfold fdivD at e
  split at e
  · rename_i i j
    split at e
    · rename_i hz
      cases e
      exact ⟨i, j, h1.lk.int, h2.lk.int, hz, p.val k (.int _)⟩
    · cases e
  · cases e
theorem b_mod : BinR K (rI (fun _ j => j ≠ 0) fun i j => .int (i.fmod j)) modD := by
  intro B F ρ s σ H x y d1 d2 w Q k h1 h2 e p
  unfold modD at e
  split at e
  · rename_i i j
    split at e
    · rename_i hz
      cases e
      exact ⟨i, j, h1.lk.int, h2.lk.int, hz, p.val k (.int _)⟩
    · cases e
  · cases e
theorem b_pow : BinR K (rI CPow fun i j => .int (i ^ j.toNat)) powD := by
  intro B F ρ s σ H x y d1 d2 w Q k h1 h2 e p
  unfold powD at e
  split at e
  · rename_i i j
    split at e
    · rename_i hz
      cases e
      exact ⟨i, j, h1.lk.int, h2.lk.int, hz, p.val k (.int _)⟩
    · cases e
  · cases e
end

/-! ### comparisons -/
def eqD (d e : D) : Option Bool := if okD d && okD e then some (PyData.eqv d e) else none
def neD (d e : D) : Option Bool := if okD d && okD e then some (!PyData.eqv d e) else none
def ltD : D → D → Option Bool
  | .int i, .int j => some (decide (i < j))
  | _, _ => none
def leD : D → D → Option Bool
  | .int i, .int j => some (decide (i ≤ j))
  | _, _ => none
def gtD : D → D → Option Bool
  | .int i, .int j => some (decide (j < i))
  | _, _ => none
def geD : D → D → Option Bool
  | .int i, .int j => some (decide (j ≤ i))
  | _, _ => none
def isND : D → D → Option Bool
  | .none, .none => some true
  | _, .none => some false
  | _, _ => none
def notND : D → D → Option Bool
  | .none, .none => some false
  | _, .none => some true
  | _, _ => none
def isBD : D → D → Option Bool
  | .bool a, .bool b => some (decide (a = b))
  | _, _ => none
def notBD : D → D → Option Bool
  | .bool a, .bool b => some (!decide (a = b))
  | _, _ => none
def isD (d e : D) : Option Bool := (isND d e).or (isBD d e)
def isNotD (d e : D) : Option Bool := (notND d e).or (notBD d e)
def inD (d e : D) : Option Bool := match e with
  | .list ds => if okD d && okD (.list ds) then some (ds.any fun z => PyData.eqv z d) else none
  | .tuple ds => if okD d && okD (.list ds) then some (ds.any fun z => PyData.eqv z d) else none
  | _ => none
def ninD (d e : D) : Option Bool := (inD d e).map (!·)
def rIs_ : R2 := fun x y H Q => (y = .non ∧ Q (.bl (decide (x = .non))) H) ∨ rIsB x y H Q
def rIsNot_ : R2 := fun x y H Q => (y = .non ∧ Q (.bl (!decide (x = .non))) H) ∨ rNotB x y H Q
theorem o_is {X : Cx} : OpR X (compareOp .Is) rIs_ := op_isN.or op_isBl
theorem o_isnot {X : Cx} : OpR X (compareOp .IsNot) rIsNot_ := op_notN.or op_notBl
section
variable {K : PySem.W.Frag}
theorem c_eq : CmpR K (rEqD K) eqD := by
  intro F H x y d1 d2 b Q h1 h2 e q
  unfold eqD at e
  split at e
  · rename_i hz
    rw [Bool.and_eq_true] at hz
    cases e
    exact ⟨d1, d2, h1.dp (okD.nd hz.1), h2.dp (okD.nd hz.2), okD.sh hz.1, okD.sh hz.2, q⟩
  · cases e
theorem c_ne : CmpR K (rNeD K) neD := by
  intro F H x y d1 d2 b Q h1 h2 e q
  unfold neD at e
  split at e
  · rename_i hz
    rw [Bool.and_eq_true] at hz
    cases e
    exact ⟨d1, d2, h1.dp (okD.nd hz.1), h2.dp (okD.nd hz.2), okD.sh hz.1, okD.sh hz.2, q⟩
  · cases e
theorem c_lt : CmpR K (rI0 fun i j => .bl (decide (i < j))) ltD := by
  intro F H x y d1 d2 b Q h1 h2 e q
  unfold ltD at e
  split at e
  · cases e; exact ⟨_, _, h1.int, h2.int, q⟩
  · cases e
theorem c_le : CmpR K (rI0 fun i j => .bl (decide (i ≤ j))) leD := by
  intro F H x y d1 d2 b Q h1 h2 e q
  unfold leD at e
  split at e
  · cases e; exact ⟨_, _, h1.int, h2.int, q⟩
  · cases e
theorem c_gt : CmpR K (rI0 fun i j => .bl (decide (j < i))) gtD := by
  intro F H x y d1 d2 b Q h1 h2 e q
  unfold gtD at e
  split at e
  · cases e; exact ⟨_, _, h1.int, h2.int, q⟩
  · cases e
theorem c_ge : CmpR K (rI0 fun i j => .bl (decide (j ≤ i))) geD := by
  intro F H x y d1 d2 b Q h1 h2 e q
  unfold geD at e
  split at e
  · cases e; exact ⟨_, _, h1.int, h2.int, q⟩
  · cases e
theorem lk_notnon {F : Fz} {H : Hp} {x : V} {d : D} (h : Lk K F H x d) (n : d ≠ .none) : x ≠ .non := by
  intro e
  subst e
  cases h with | of r => cases r; exact n rfl
theorem c_is : CmpR K rIs_ isD := by
  intro F H x y d1 d2 b Q h1 h2 e q
  unfold isD isND isBD at e
  split at e
  · cases e
    obtain rfl := h1.none
    exact .inl ⟨h2.none, q⟩
  · rename_i hn
    cases e
    refine .inl ⟨h2.none, ?_⟩
    rw [decide_eq_false (lk_notnon h1 hn)]
    exact q
  · split at e
    · cases e
      exact .inr ⟨_, _, h1.bool, h2.bool, q⟩
    · cases e
theorem c_isnot : CmpR K rIsNot_ isNotD := by
  intro F H x y d1 d2 b Q h1 h2 e q
  unfold isNotD notND notBD at e
  split at e
  · cases e
    obtain rfl := h1.none
    exact .inl ⟨h2.none, q⟩
  · rename_i hn
    cases e
    refine .inl ⟨h2.none, ?_⟩
    rw [decide_eq_false (lk_notnon h1 hn)]
    exact q
  · split at e
    · cases e
      exact .inr ⟨_, _, h1.bool, h2.bool, q⟩
    · cases e
theorem c_in : CmpR K (rInA K false) inD := by
  intro F H x y d1 d2 b Q h1 h2 e q
  unfold inD at e
  split at e
  · split at e
    · rename_i hz
      rw [Bool.and_eq_true] at hz
      cases e
      exact ⟨d1, _, h1.dp (okD.nd hz.1), .inl (h2.dp (okD.nd hz.2)), okD.sh hz.1, okD.sh hz.2, q⟩
    · cases e
  · split at e
    · rename_i hz
      rw [Bool.and_eq_true] at hz
      cases e
      exact ⟨d1, _, h1.dp (okD.nd hz.1), .inr (h2.dp (nd_list (okD.nd hz.2))), okD.sh hz.1, okD.sh hz.2, q⟩
    · cases e
  · cases e
theorem c_nin : CmpR K (rInA K true) ninD := by
  intro F H x y d1 d2 b Q h1 h2 e q
  unfold ninD inD at e
  split at e
  · split at e
    · rename_i hz
      rw [Bool.and_eq_true] at hz
      cases e
      exact ⟨d1, _, h1.dp (okD.nd hz.1), .inl (h2.dp (okD.nd hz.2)), okD.sh hz.1, okD.sh hz.2, q⟩
    · cases e
  · split at e
    · rename_i hz
      rw [Bool.and_eq_true] at hz
      cases e
      exact ⟨d1, _, h1.dp (okD.nd hz.1), .inr (h2.dp (nd_list (okD.nd hz.2))), okD.sh hz.1, okD.sh hz.2, q⟩
    · cases e
  · cases e
end
end Z
/-! Z, part 4: tests, displays, subscripts, calls. -/
namespace Z
open PySem PySem.Spec PyProof.Rows L2

/-! ### truth, and, or, not, if -/
def truthD : D → Option Bool
  | .none => some false
  | .bool b => some b
  | .int i => some (i != 0)
  | .str x => if x.length ≤ sizeLine then some ((x.length : Int) != 0) else none
  | .list ds => some (!ds.isEmpty)
  | .tuple ds => some (!ds.isEmpty)
  | _ => none
theorem truth_ok {K : PySem.W.Frag} {F : Fz} {H : Hp} {v : V} {d : D} {b : Bool} (h : Lk K F H v d) (e : truthD d = some b) : TruV K v H b := by
  unfold truthD at e
  split at e
  · cases e; obtain rfl := h.none; rfl
  · cases e; obtain rfl := h.bool; rfl
  · cases e; obtain rfl := h.int; rfl
  · split at e
    · rename_i hz
      cases e; obtain rfl := h.str; exact ⟨hz, rfl⟩
    · cases e
  · cases e
    obtain ⟨a, vs, rfl, h1, h2⟩ := h.list
    refine .inl ⟨vs, h1, ?_⟩
    cases h2 <;> rfl
  · cases e
    obtain ⟨a, vs, rfl, h1, h2⟩ := h.tup
    refine .inr (.inl ⟨vs, h1, ?_⟩)
    cases h2 <;> rfl
  · cases e
def opTruth (m : M W) : M Bool := m >>= fun a => look a >>= fun d => ofO (truthD d)
def cAnd (m1 m2 : M Bool) : M Bool := m1 >>= fun b => if b = true then m2 else Pure.pure false
def cOr (m1 m2 : M Bool) : M Bool := m1 >>= fun b => if b = true then Pure.pure true else m2
def cNot (m : M Bool) : M Bool := m >>= fun b => Pure.pure (!b)
/-- what may be handed on as it is -/
def keepW : W → M W
  | .own _ => M.fail
  | w => Pure.pure w
def eAnd (m1 m2 : M W) : M W := m1 >>= fun a => look a >>= fun d => ofO (truthD d) >>= fun b => if b = true then m2 else keepW a
def eOr (m1 m2 : M W) : M W := m1 >>= fun a => look a >>= fun d => ofO (truthD d) >>= fun b => if b = true then keepW a else m2
def eNot (m : M W) : M W := m >>= fun a => look a >>= fun d => ofO ((truthD d).map fun b => .val (.bool !b))
def eIf (c : M Bool) (m1 m2 : M W) : M W := c >>= fun b => if b = true then m1 else m2
def eNeg (m : M W) : M W := m >>= fun a => look a >>= fun d => ofO (match d with | .int i => some (.val (.int (-i))) | _ => none)
section
variable {X : Cx} {Wx : WX} {pos : Pos} {a b c : Expr} {rest : List Expr} {m m1 m2 m3 : M W} {c1 c2 : M Bool}
theorem i_truth (ha : DE X Wx a m) (he : ∀ whole, isTrue a X.env whole = (do let v ← whole; standAt a.pos; holding [v] (truthy v)) := by intro _; rfl) : DC X Wx a (opTruth m) :=
  pt_mono (pt_truth ha he) fun σ H Q h => em_unB (P := fun x H' => ∃ k, TruV X.K x H' k ∧ Q k H') (fun {B F ρ s H _ _} k o h => by
    obtain ⟨d, e, h⟩ := Run.look h
    obtain ⟨b, e2, h⟩ := Run.ofO h
    exact ⟨b, truth_ok (content_ok k o e).1 e2, h F ρ H .refl k⟩) h
theorem cm_step {c1 : M Bool} {f : Bool → M Bool} {σ : Sg} {H : Hp} {Q : Bool → Hp → Prop} {P : Bool → Hp → Prop} {K : PySem.W.Frag} {mg : Str → Option Value}
    (hr : ∀ {B F ρ s H b}, Ok K B F ρ s σ H → Run (f b) s (PostB K B σ s F ρ H Q) (Er K mg Wx B σ) → P b H) (h : CM K mg Wx (c1 >>= f) σ H Q) : CM K mg Wx c1 σ H P := by
  obtain ⟨B, F, ρ, s, k, h⟩ := h
  exact ⟨B, F, ρ, s, k, (Run.bind h).mono (fun b s1 _ h1 F1 ρ1 H1 e1 k1 => hr k1 (h1.mono (fun b s' _ p => p.step e1 k1.sto) fun _ _ _ e => e)) fun _ _ _ e => e⟩
theorem cm_stepE {c1 : M Bool} {f : Bool → M W} {σ : Sg} {H : Hp} {Q : VK} {P : Bool → Hp → Prop} {K : PySem.W.Frag} {mg : Str → Option Value}
    (hr : ∀ {B F ρ s H b}, Ok K B F ρ s σ H → Run (f b) s (Post K B σ s F ρ H Q) (Er K mg Wx B σ) → P b H) (h : EM K mg Wx (c1 >>= f) σ H Q) : CM K mg Wx c1 σ H P := by
  obtain ⟨B, F, ρ, s, k, h⟩ := h
  exact ⟨B, F, ρ, s, k, (Run.bind h).mono (fun b s1 _ h1 F1 ρ1 H1 e1 k1 => hr k1 (h1.mono (fun b s' _ p => p.step e1 k1.sto) fun _ _ _ e => e)) fun _ _ _ e => e⟩
abbrev DW (X : Cx) (Wx : WX) (e : Expr) (m : M Bool) : Prop := PW X e (CM X.K X.mg Wx m)
theorem w_and1 (ha : DC X Wx a c1) : DW X Wx (.BoolOp .And [a] pos) c1 := pw_and1 ha
theorem w_or1 (ha : DC X Wx a c1) : DW X Wx (.BoolOp .Or [a] pos) c1 := pw_or1 ha
theorem w_and (ha : DC X Wx a c1) (hb : DW X Wx (.BoolOp .And (b :: rest) pos) c2) : DW X Wx (.BoolOp .And (a :: b :: rest) pos) (cAnd c1 c2) :=
  pw_mono (pw_and ha hb) fun σ H Q h => cm_step (P := fun c H1 => if c = true then CM X.K X.mg Wx c2 σ H1 Q else Q false H1) (fun {B F ρ s H b} k h => by
    cases b with
    | true => exact iteT ⟨B, F, ρ, s, k, h⟩
    | false => exact iteF ((Run.ret h) F ρ H .refl k)) h
theorem w_or (ha : DC X Wx a c1) (hb : DW X Wx (.BoolOp .Or (b :: rest) pos) c2) : DW X Wx (.BoolOp .Or (a :: b :: rest) pos) (cOr c1 c2) :=
  pw_mono (pw_or ha hb) fun σ H Q h => cm_step (P := fun c H1 => if c = true then Q true H1 else CM X.K X.mg Wx c2 σ H1 Q) (fun {B F ρ s H b} k h => by
    cases b with
    | true => exact iteT ((Run.ret h) F ρ H .refl k)
    | false => exact iteF ⟨B, F, ρ, s, k, h⟩) h
theorem i_bool_ (h : DW X Wx a c1) : DC X Wx a c1 := PW.pt h
theorem i_notT (ha : DC X Wx a c1) : DC X Wx (.UnaryOp .Not a pos) (cNot c1) :=
  pt_mono (pt_not ha) fun σ H Q h => cm_step (P := fun c H1 => Q (!c) H1) (fun {B F ρ s H b} k h => (Run.ret h) F ρ H .refl k) h
theorem i_not (ha : DE X Wx a m) : DE X Wx (.UnaryOp .Not a pos) (eNot m) :=
  pe_mono (pe_notT ha) fun σ H Q h => em_un (P := fun x H1 => ∃ k, TruV X.K x H1 k ∧ Q (.bl (!k)) H1) (fun {B F ρ s H _ _} k o h => by
    obtain ⟨d, e, h⟩ := Run.look h
    obtain ⟨w, e2, h⟩ := Run.ofO h
    cases e3 : truthD d with
    | none => rw [e3] at e2; cases e2
    | some b =>
      rw [e3] at e2
      cases e2
      exact ⟨b, truth_ok (content_ok k o e).1 e3, h.val k (.bl _)⟩) h
theorem keep_ok {K : PySem.W.Frag} {mg : Str → Option Value} {B : Base} {F : Fz} {ρ : List Addr} {s : S} {σ : Sg} {H : Hp} {x : V} {w : W} {Q : VK} (k : Ok K B F ρ s σ H) (o : WOk K B F ρ s σ H x w) (h : Run (keepW w) s (Post K B σ s F ρ H Q) (Er K mg Wx B σ)) : Q x H := by
  cases w with
  | own ds => exact h.elim
  | val d => exact (Run.ret h) F ρ H x .refl k o trivial
  | ref n => exact (Run.ret h) F ρ H x .refl k o trivial
  | peek i => exact (Run.ret h) F ρ H x .refl k o trivial
  | scr ns => exact (Run.ret h) F ρ H x .refl k o trivial
  | fn y => exact (Run.ret h) F ρ H x .refl k o trivial
  | exc xx => exact (Run.ret h) F ρ H x .refl k o trivial
theorem i_one {op} (ha : DE X Wx a m) : DE X Wx (.BoolOp op [a] pos) m := pe_one ha
theorem i_and (ha : DE X Wx a m1) (hb : DE X Wx (.BoolOp .And (b :: rest) pos) m2) : DE X Wx (.BoolOp .And (a :: b :: rest) pos) (eAnd m1 m2) :=
  pe_mono (pe_andT ha hb) fun σ H Q h => em_un (P := fun x H1 => ∃ k, TruV X.K x H1 k ∧ if k = true then EM X.K X.mg Wx m2 σ H1 Q else Q x H1) (fun {B F ρ s H _ _} k o h => by
    obtain ⟨d, e, h⟩ := Run.look h
    obtain ⟨b, e2, h⟩ := Run.ofOb h
    refine ⟨b, truth_ok (content_ok k o e).1 e2, ?_⟩
    cases b with
    | true => exact iteT ⟨B, F, ρ, s, k, h⟩
    | false => exact iteF (keep_ok k o h)) h
theorem i_or (ha : DE X Wx a m1) (hb : DE X Wx (.BoolOp .Or (b :: rest) pos) m2) : DE X Wx (.BoolOp .Or (a :: b :: rest) pos) (eOr m1 m2) :=
  pe_mono (pe_orT ha hb) fun σ H Q h => em_un (P := fun x H1 => ∃ k, TruV X.K x H1 k ∧ if k = true then Q x H1 else EM X.K X.mg Wx m2 σ H1 Q) (fun {B F ρ s H _ _} k o h => by
    obtain ⟨d, e, h⟩ := Run.look h
    obtain ⟨b, e2, h⟩ := Run.ofOb h
    refine ⟨b, truth_ok (content_ok k o e).1 e2, ?_⟩
    cases b with
    | true => exact iteT (keep_ok k o h)
    | false => exact iteF ⟨B, F, ρ, s, k, h⟩) h
theorem i_if (hc : DC X Wx c c1) (ha : DE X Wx a m1) (hb : DE X Wx b m2) : DE X Wx (.IfExp c a b pos) (eIf c1 m1 m2) :=
  pe_mono (pe_ifExp hc ha hb) fun σ H Q h => cm_stepE (P := fun c H1 => if c = true then EM X.K X.mg Wx m1 σ H1 Q else EM X.K X.mg Wx m2 σ H1 Q) (fun {B F ρ s H b} k h => by
    cases b with
    | true => exact iteT ⟨B, F, ρ, s, k, h⟩
    | false => exact iteF ⟨B, F, ρ, s, k, h⟩) h
theorem i_neg (ha : DE X Wx a m) : DE X Wx (.UnaryOp .USub a pos) (eNeg m) :=
  pe_mono (pe_un un_neg ha) fun σ H Q h => em_un (P := fun x H1 => rU (fun i => .int (-i)) x H1 Q) (fun {B F ρ s H _ _} k o h => by
    obtain ⟨d, e, h⟩ := Run.look h
    obtain ⟨w, e2, h⟩ := Run.ofO h
    cases d with
    | int i =>
      cases e2
      exact ⟨i, (content_ok k o e).1.int, h.val k (.int _)⟩
    | _ => cases e2) h
end

/-! ### arguments: what is handed over is frozen -/
def S.setEnv (s : S) (i : Nat) (o : Option W) : S := { s with env := s.env.set i o }
def escSlot (i : Nat) (s : S) : Option (Option W) → Out S W
  | some (some (.val d)) => .ok (.val d) s
  | some (some (.own ds)) => .ok (.val (.list ds)) (s.setEnv i (some (.val (.list ds))))
  | some (some (.ref n)) => .ok (.ref n) s
  | some (some (.scr ns)) => .ok (.scr ns) s
  | some (some (.fn x)) => .ok (.fn x) s
  | some (some (.exc x)) => .ok (.exc x) s
  | _ => .fail
def escW (w : W) : M W := fun s => match w with
  | .val d => .ok (.val d) s
  | .own ds => .ok (.val (.list ds)) s
  | .ref n => .ok (.ref n) s
  | .scr ns => .ok (.scr ns) s
  | .fn x => .ok (.fn x) s
  | .exc x => .ok (.exc x) s
  | .peek i => escSlot i s s.env[i]?
def aNil : M (List W) := Pure.pure []
def aCons (m : M W) (r : M (List W)) : M (List W) := m >>= fun a => escW a >>= fun w => r >>= fun ws => Pure.pure (w :: ws)
def stable : W → Bool
  | .val _ => true
  | .ref _ => true
  | .scr _ => true
  | .fn _ => true
  | .exc _ => true
  | _ => false
section
variable {K : PySem.W.Frag} {mg : Str → Option Value} {Wx : WX} {B : Base} {F F0 F' F1 F2 : Fz} {ρ ρ0 ρ' ρ1 ρ2 : List Addr} {s s0 s' s1 s2 : S} {σ σ' : Sg} {H Hs H' H1 H2 : Hp} {v : V} {w : W} {p : Addr} {o : HO} {d : D} {Q : VK}
/-- slot i, an own list, is frozen -/
theorem Ok.freezeSlot {i : Nat} {ds : List D} (k : Ok K B F ρ s σ H) (e : s.env[i]? = some (some (.own ds))) : ∃ a vs, σ[i]? = some (some (.ref a)) ∧ H a = some (.lst vs) ∧ RpAll K F H vs ds ∧ OwnedBy s σ a ∧
    Ok K B (fun b => F b ∨ b = a) ρ (s.setEnv i (some (.val (.list ds)))) σ H := by
  obtain ⟨v, e1, a, vs, e2, h1, h2, h3, h4, h5⟩ := k.env i _ e
  subst e2
  have hi : i < s.env.length := (List.getElem?_eq_some_iff.mp e).1
  refine ⟨a, vs, e1, h1, h2, ⟨i, ds, e, e1⟩, ?_⟩
  have env' : ∀ (j : Nat) (w : W), (s.env.set i (some (.val (.list ds))))[j]? = some (some w) → (j = i ∧ w = .val (.list ds)) ∨ (j ≠ i ∧ s.env[j]? = some (some w)) := fun j w e => by
    by_cases hj : j = i
    · subst hj
      rw [List.getElem?_set_self hi] at e
      cases e
      exact .inl ⟨rfl, rfl⟩
    · rw [List.getElem?_set_ne (Ne.symm hj)] at e
      exact .inr ⟨hj, e⟩
  exact {
    len := by rw [← k.len]; exact List.length_set
    base := ⟨fun b f => .inl (k.base.sub b f), k.base.rho, k.base.new, k.base.keep, fun b f => by
      rcases f with f | f
      · exact k.base.fz b f
      · rw [f]; exact .inr h5⟩
    trk := fun b f => by
      rcases f with f | f
      · exact k.trk b f
      · rw [f]; exact ⟨vs, h1⟩
    sto := ⟨k.sto.len, k.sto.nd, fun n ds' e' => by
      obtain ⟨b, ws, q1, q2, q3, q4⟩ := k.sto.at_ n ds' e'
      refine ⟨b, ws, q1, fun f => ?_, q3, q4.st stay_refl fun _ z => .inl z⟩
      rcases f with f | f
      · exact q2 f
      · subst f; exact h4 (List.mem_of_getElem? q1)⟩
    env := fun j w e' => by
      rcases env' j w e' with ⟨rfl, rfl⟩ | ⟨hj, e'⟩
      · exact ⟨.ref a, e1, .lst (.inr rfl) h1 (h2.st stay_refl fun _ z => .inl z)⟩
      · obtain ⟨v', q1, q2⟩ := k.env j w e'
        refine ⟨v', q1, ?_⟩
        cases w with
        | val d => exact Rp.st q2 stay_refl fun _ z => .inl z
        | own es =>
          obtain ⟨b, ws, p1, p2, p3, p4, p5, p6⟩ := q2
          refine ⟨b, ws, p1, p2, p3.st stay_refl (fun _ z => .inl z), fun f => ?_, p5, p6⟩
          rcases f with f | f
          · exact p4 f
          · subst f p1
            exact hj (k.sep j i es ds b e' e q1 e1)
        | ref n => exact q2
        | peek i => exact q2
        | scr ns => exact q2
        | fn x => exact q2
        | exc xx => exact ExV.st q2 stay_refl fun _ z => .inl z
    sep := fun j l ds' es' b q1 q2 q3 q4 => by
      rcases env' j _ q1 with ⟨_, q⟩ | ⟨_, q1⟩
      · cases q
      · rcases env' l _ q2 with ⟨_, q⟩ | ⟨_, q2⟩
        · cases q
        · exact k.sep j l ds' es' b q1 q2 q3 q4 }
theorem owned_set {i : Nat} {d : D} {a : Addr} (h : OwnedBy (s.setEnv i (some (.val d))) σ a) : OwnedBy s σ a := by
  obtain ⟨j, ds, e1, e2⟩ := h
  refine ⟨j, ds, ?_, e2⟩
  have e1' : (s.env.set i (some (.val d)))[j]? = some (some (.own ds)) := e1
  by_cases hj : i = j
  · subst hj
    by_cases hi : i < s.env.length
    · rw [List.getElem?_set_self hi] at e1'; cases e1'
    · rw [List.getElem?_eq_none (by rw [List.length_set]; omega)] at e1'; cases e1'
  · rw [List.getElem?_set_ne hj] at e1'; exact e1'
/-- behind an evaluation that began at s0 the value is frozen -/
theorem esc_ok {ok : W → S → Prop} {er : Exc → S → Prop} (k0 : Sto K F ρ s.st H) (e : Ext s0 σ F0 ρ0 Hs s F ρ H) (k : Ok K B F ρ s σ H) (o : WOk K B F ρ s σ H v w) (f : Fresh Hs v w) (h : Run (escW w) s ok er) :
    ∃ F' s' w', Ok K B F' ρ s' σ H ∧ Ext s0 σ F0 ρ0 Hs s' F' ρ H ∧ WOk K B F' ρ s' σ H v w' ∧ stable w' = true ∧ ok w' s' := by
  cases w with
  | val d => exact ⟨F, s, _, k, e, o, rfl, h⟩
  | ref n => exact ⟨F, s, _, k, e, o, rfl, h⟩
  | scr ns => exact ⟨F, s, _, k, e, o, rfl, h⟩
  | fn x => exact ⟨F, s, _, k, e, o, rfl, h⟩
  | exc xx => exact ⟨F, s, _, k, e, o, rfl, h⟩
  | own ds =>
    obtain ⟨a, vs, rfl, h1, h2, h3, h4, h5, h6⟩ := o
    refine ⟨_, s, .val (.list ds), k.freeze h1 h4 h5 h6, ⟨fun b z => .inl (e.sub b z), e.rho, e.new, e.keep, e.th, fun b z => ?_, e.ow⟩, .lst (.inr rfl) h1 (h2.st stay_refl fun _ z => .inl z), rfl, h⟩
    rcases z with z | z
    · exact e.fz b z
    · rw [z]; exact .inr (.inl (f a rfl))
  | peek i =>
    have o' : σ[i]? = some (some v) := o
    have h : Run (fun _ => escSlot i s s.env[i]?) s ok er := h
    cases q : s.env[i]? with
    | none => rw [q] at h; exact h.elim
    | some oo =>
      cases oo with
      | none => rw [q] at h; exact h.elim
      | some w' =>
        rw [q] at h
        cases w' with
        | val d =>
          obtain ⟨v', e1, e2⟩ := k.env i _ q
          rw [o'] at e1; cases e1
          exact ⟨F, s, .val d, k, e, e2, rfl, h⟩
        | ref n =>
          obtain ⟨v', e1, e2⟩ := k.env i _ q
          rw [o'] at e1; cases e1
          exact ⟨F, s, .ref n, k, e, e2, rfl, h⟩
        | scr ns =>
          obtain ⟨v', e1, e2⟩ := k.env i _ q
          rw [o'] at e1; cases e1
          exact ⟨F, s, .scr ns, k, e, e2, rfl, h⟩
        | fn x =>
          obtain ⟨v', e1, e2⟩ := k.env i _ q
          rw [o'] at e1; cases e1
          exact ⟨F, s, .fn x, k, e, e2, rfl, h⟩
        | exc xx =>
          obtain ⟨v', e1, e2⟩ := k.env i _ q
          rw [o'] at e1; cases e1
          exact ⟨F, s, .exc xx, k, e, e2, rfl, h⟩
        | peek j => exact h.elim
        | own ds =>
          obtain ⟨a, vs, e1, h1, h2, h3, h4⟩ := k.freezeSlot q
          rw [o'] at e1; cases e1
          refine ⟨_, _, .val (.list ds), h4, ⟨fun b z => .inl (e.sub b z), e.rho, e.new, e.keep, e.th, fun b z => ?_, fun b z => e.ow b (owned_set z)⟩, .lst (.inr rfl) h1 (h2.st stay_refl fun _ z => .inl z), rfl, h⟩
          rcases z with z | z
          · exact e.fz b z
          · rw [z]; exact .inr (.inr (e.ow a h3))
theorem fresh_stable (h : stable w = true) : Fresh H v w := by
  cases w with
  | own ds => cases h
  | _ => trivial
theorem WAll.mono {vs : List V} {ws : List W} (k : Ok K B F ρ s σ H) (x : Ext s σ F ρ H s' F' ρ' H') (h : WAll K B F ρ s σ H vs ws) : WAll K B F' ρ' s' σ H' vs ws := by
  induction h with
  | nil => exact .nil
  | cons a _ ih => exact .cons (a.mono k x) ih
end
section
variable {X : Cx} {Wx : WX} {pos : Pos} {e : Expr} {es : List Expr} {m m1 m2 : M W} {ma : M (List W)}
theorem a_nil : DA X Wx [] aNil := pa_mono pa_nil fun σ H Q ⟨B, F, ρ, s, k, h⟩ => (Run.ret h) F ρ H [] .refl k .nil
theorem cons_step {K : PySem.W.Frag} {mg : Str → Option Value} {σ : Sg} {H : Hp} {Q : List V → Hp → Prop} (h : AM K mg Wx (aCons m ma) σ H Q) : EM K mg Wx m σ H fun x H1 => AM K mg Wx ma σ H1 fun xs H2 => Q (x :: xs) H2 := by
  obtain ⟨B, F, ρ, s, k, h⟩ := h
  refine ⟨B, F, ρ, s, k, (Run.bind h).mono (fun w1 s1 _ h1 F1 ρ1 H1 x e1 k1 o1 f1 => ?_) fun _ _ _ e => e⟩
  obtain ⟨F2, s2, w2, k2, e2, o2, st2, h2⟩ := esc_ok k1.sto e1 k1 o1 f1 (Run.bind h1)
  refine ⟨B, F2, ρ1, s2, k2, (Run.bind h2).mono (fun ws s3 _ h3 F3 ρ3 H3 vs e3 k3 o3 => ?_) fun _ _ _ e => e⟩
  exact (Run.ret h3) F3 ρ3 H3 _ (e2.trans e3 k2.sto) k3 (.cons (o2.mono k2 e3) o3)
theorem a_cons (ha : DE X Wx e m) (hr : DA X Wx es ma) (hs : starEach (e :: es) X.env = (false, eval e X.env) :: starEach es X.env := by rfl) : DA X Wx (e :: es) (aCons m ma) :=
  pa_mono (pa_cons ha hr hs) fun σ H Q h => cons_step h
abbrev DK (X : Cx) (Wx : WX) (ks : List Keyword) (m : M (List W)) : Prop := PK X ks (AM X.K X.mg Wx m)
theorem k_nil : DK X Wx [] aNil := ⟨fun pos pins s σ H Q I ⟨B, F, ρ, s', k, h⟩ => pk_nil.run pos pins s σ H Q I ((Run.ret h) F ρ H [] .refl k .nil)⟩
theorem k_cons {nm : Option Str} {kpos : Pos} {kws : List Keyword} (ha : DE X Wx e m) (hr : DK X Wx kws ma) : DK X Wx (⟨nm, e, kpos⟩ :: kws) (aCons m ma) :=
  ⟨fun pos pins s σ H Q I h => (pk_cons ha hr).run pos pins s σ H Q I (cons_step h)⟩
/-! ### displays -/
def allVal : List W → Option (List D)
  | [] => some []
  | .val d :: r => (allVal r).map (d :: ·)
  | _ => none
theorem allVal_ok {K : PySem.W.Frag} {B : Base} {F : Fz} {ρ : List Addr} {s : S} {σ : Sg} {H : Hp} : ∀ {vs : List V} {ws : List W} {ds : List D}, WAll K B F ρ s σ H vs ws → allVal ws = some ds → RpAll K F H vs ds
  | _, _, _, .nil, e => by cases e; exact .nil
  | _, w :: ws, ds, .cons a b, e => by
    cases w with
    | val d =>
      have e' : (allVal ws).map (d :: ·) = some ds := e
      cases q : allVal ws with
      | none => rw [q] at e'; cases e'
      | some r =>
        rw [q] at e'
        cases e'
        exact .cons a (allVal_ok b q)
    | _ => cases e
def eTup (ma : M (List W)) : M W := ma >>= fun ws => ofO ((allVal ws).bind fun ds => if ds.length ≤ sizeLine then some (.val (.tuple ds)) else none)
def eLst (ma : M (List W)) : M W := ma >>= fun ws => ofO ((allVal ws).bind fun ds => if ds.length ≤ sizeLine then some (.own ds) else none)
/-- a list that goes into the store -/
def eNew (ma : M (List W)) : M W := ma >>= fun ws => ofO ((allVal ws).bind fun ds => if ds.length ≤ sizeLine then some ds else none) >>= fun ds s => .ok (.ref s.st.length) { s with st := s.st ++ [ds] }
theorem am_step {K : PySem.W.Frag} {mg : Str → Option Value} {σ : Sg} {H : Hp} {Q : VK} {P : List V → Hp → Prop} {f : List W → M W}
    (hr : ∀ {B F ρ s H vs ws}, Ok K B F ρ s σ H → WAll K B F ρ s σ H vs ws → Run (f ws) s (Post K B σ s F ρ H Q) (Er K mg Wx B σ) → P vs H) (h : EM K mg Wx (ma >>= f) σ H Q) : AM K mg Wx ma σ H P := by
  obtain ⟨B, F, ρ, s, k, h⟩ := h
  exact ⟨B, F, ρ, s, k, (Run.bind h).mono (fun ws s1 _ h1 F1 ρ1 H1 vs e1 k1 o1 => hr k1 o1 (h1.mono (fun w s' _ p => p.step e1 k1.sto) fun _ _ _ e => e)) fun _ _ _ e => e⟩
theorem i_tup {x1} (ha : DA X Wx es ma) : DE X Wx (.Tuple es x1 pos) (eTup ma) :=
  pe_mono (pe_tup ha) fun σ H Q h => am_step (P := fun xs H1 => xs.length ≤ sizeLine ∧ ∀ p, H1 p = none → Q (.ref p) (upd H1 p (.tup xs))) (fun {B F ρ s H vs ws} k o h => by
    obtain ⟨w, e, h⟩ := Run.ofO h
    cases q : allVal ws with
    | none => rw [q] at e; cases e
    | some ds =>
      rw [q] at e
      have e' : (if ds.length ≤ sizeLine then some (W.val (.tuple ds)) else none) = some w := e
      split at e'
      · rename_i hz
        cases e'
        have r := allVal_ok o q
        exact ⟨by rw [r.length]; exact hz, fun p hp => h.tup k r hp⟩
      · cases e') h
theorem i_lst (ha : DA X Wx es ma) : DE X Wx (.List es pos) (eLst ma) :=
  pe_mono (pe_lst ha) fun σ H Q h => am_step (P := fun xs H1 => xs.length ≤ sizeLine ∧ ∀ p, H1 p = none → Q (.ref p) (upd H1 p (.lst xs))) (fun {B F ρ s H vs ws} k o h => by
    obtain ⟨w, e, h⟩ := Run.ofO h
    cases q : allVal ws with
    | none => rw [q] at e; cases e
    | some ds =>
      rw [q] at e
      have e' : (if ds.length ≤ sizeLine then some (W.own ds) else none) = some w := e
      split at e'
      · rename_i hz
        cases e'
        have r := allVal_ok o q
        exact ⟨by rw [r.length]; exact hz, fun p hp => h.own k r hp⟩
      · cases e') h
/-- a new list joins the store -/
theorem Ok.push {K : PySem.W.Frag} {B : Base} {F : Fz} {ρ : List Addr} {s : S} {σ : Sg} {H : Hp} {p : Addr} {vs : List V} {ds : List D} (k : Ok K B F ρ s σ H) (hp : H p = none) (r : RpAll K F H vs ds) :
    Ok K B F (ρ ++ [p]) { s with st := s.st ++ [ds] } σ (upd H p (.lst vs)) := by
  have k' := k.new (o := .lst vs) hp
  have up : ∀ {b : Addr} {o : HO}, H b = some o → upd H p (.lst vs) b = some o := fun e => by rw [upd_ne (ne_of_none e hp)]; exact e
  exact {
    len := k.len
    base := ⟨k'.base.sub, by
        obtain ⟨m, e⟩ := k.base.rho
        exact ⟨m ++ [p], by rw [e, List.append_assoc]⟩, fun a h => by
        rcases List.mem_append.mp h with h | h
        · exact k.base.new a h
        · rw [List.mem_singleton.mp h]; exact .inr (k.fresh hp), k'.base.keep, k'.base.fz⟩
    trk := k'.trk
    sto := ⟨by rw [List.length_append, List.length_append, k.sto.len]; rfl, by
        refine List.nodup_append.mpr ⟨k.sto.nd, by simp, fun a ha b hb e => ?_⟩
        rw [List.mem_singleton.mp hb] at e
        exact k.nρ hp (e ▸ ha), fun n es e => by
        by_cases hn : n < s.st.length
        · rw [List.getElem?_append_left hn] at e
          obtain ⟨a, ws, e1, e2, e3, e4⟩ := k.sto.at_ n es e
          have hn' : n < ρ.length := by rw [← k.sto.len]; exact hn
          exact ⟨a, ws, by rw [List.getElem?_append_left hn']; exact e1, e2, up e3, e4.st (stay_upd hp) fun _ z => z⟩
        · have hn2 : s.st.length ≤ n := Nat.le_of_not_lt hn
          rw [List.getElem?_append_right hn2] at e
          cases hd : n - s.st.length with
          | zero =>
            rw [hd] at e
            cases e
            refine ⟨p, vs, ?_, k.nF hp, upd_same, r.st (stay_upd hp) fun _ z => z⟩
            rw [List.getElem?_append_right (by rw [← k.sto.len]; exact hn2), ← k.sto.len, hd]
            rfl
          | succ j => rw [hd] at e; cases e⟩
    env := fun i w e => by
      obtain ⟨v, e1, e2⟩ := k'.env i w e
      refine ⟨v, e1, ?_⟩
      cases w with
      | val d => exact e2
      | own es =>
        obtain ⟨a, ws, q1, q2, q3, q4, q5, q6⟩ := e2
        refine ⟨a, ws, q1, q2, q3, q4, fun h => ?_, q6⟩
        rcases List.mem_append.mp h with h | h
        · exact q5 h
        · rw [List.mem_singleton.mp h] at q1
          exact k.nO hp ⟨i, es, e, by rw [e1, q1]⟩
      | ref n =>
        obtain ⟨a, q1, q2⟩ := e2
        refine ⟨a, q1, ?_⟩
        obtain ⟨hn, _⟩ := List.getElem?_eq_some_iff.mp q2
        rw [List.getElem?_append_left hn]; exact q2
      | peek i => exact e2
      | scr ns => exact e2
      | fn x => exact e2
      | exc xx => exact e2
    sep := k.sep }
theorem i_new (ha : DA X Wx es ma) : DE X Wx (.List es pos) (eNew ma) :=
  pe_mono (pe_lst ha) fun σ H Q h => am_step (P := fun xs H1 => xs.length ≤ sizeLine ∧ ∀ p, H1 p = none → Q (.ref p) (upd H1 p (.lst xs))) (fun {B F ρ s H vs ws} k o h => by
    obtain ⟨ds, e, h⟩ := Run.ofOb h
    cases q : allVal ws with
    | none => rw [q] at e; cases e
    | some ds' =>
      rw [q] at e
      have e' : (if ds'.length ≤ sizeLine then some ds' else none) = some ds := e
      split at e'
      · rename_i hz
        cases e'
        have r := allVal_ok o q
        refine ⟨by rw [r.length]; exact hz, fun p hp => ?_⟩
        have k2 := k.push hp r
        refine h F (ρ ++ [p]) _ _ ⟨fun _ z => z, ⟨[p], rfl⟩, fun a z => ?_, fun a u e _ _ => by rw [upd_ne (ne_of_none e hp)]; exact e, fun a e => upd_none e, fun _ z => .inl z, fun _ z => z⟩ k2 ⟨p, rfl, ?_⟩ trivial
        · rcases List.mem_append.mp z with z | z
          · exact .inl z
          · rw [List.mem_singleton.mp z]; exact .inr hp
        · rw [List.getElem?_append_right (by rw [k.sto.len]; exact Nat.le_refl _), k.sto.len, Nat.sub_self]; rfl
      · cases e') h
end
end Z
/-! Z, part 5: defs, calls of defs, statements without loops. -/
namespace Z
open PySem PySem.Spec PyProof.Rows L2

/-! ### a def's promise -/
structure OkF (K : PySem.W.Frag) (F : Fz) (ρ : List Addr) (st : Store) (H : Hp) : Prop where
  trk : ∀ a, F a → ∃ xs, H a = some (.lst xs)
  sto : Sto K F ρ st H
def VOk (K : PySem.W.Frag) (F : Fz) (ρ : List Addr) (H : Hp) (v : V) : W → Prop
  | .val d => Rp K F H v d
  | .ref n => ∃ a, v = .ref a ∧ ρ[n]? = some a
  | .scr ns => ∃ a, v = .ref a ∧ ScrAt K H a ns
  | .fn x => v = .ref (He.ga K x)
  | .exc x => ExV K F H v x
  | _ => False
inductive VAll (K : PySem.W.Frag) (F : Fz) (ρ : List Addr) (H : Hp) : List V → List W → Prop
  | nil : VAll K F ρ H [] []
  | cons {v : V} {vs : List V} {w : W} {ws : List W} : VOk K F ρ H v w → VAll K F ρ H vs ws → VAll K F ρ H (v :: vs) (w :: ws)
theorem VAll.length {K : PySem.W.Frag} {F : Fz} {ρ : List Addr} {H : Hp} {vs : List V} {ws : List W} (h : VAll K F ρ H vs ws) : vs.length = ws.length := by
  induction h with
  | nil => rfl
  | cons _ _ ih => simp [ih]
theorem VAll.get {K : PySem.W.Frag} {F : Fz} {ρ : List Addr} {H : Hp} {vs : List V} {ws : List W} (h : VAll K F ρ H vs ws) : ∀ {i : Nat} {w : W}, ws[i]? = some w → ∃ v, vs[i]? = some v ∧ VOk K F ρ H v w := by
  induction h with
  | nil => intro i w e; simp at e
  | cons a _ ih =>
    intro i w e
    cases i with
    | zero => simp at e; subst e; exact ⟨_, rfl, a⟩
    | succ i =>
      obtain ⟨v, h1, h2⟩ := ih (i := i) (w := w) (by simpa using e)
      exact ⟨v, by simpa using h1, h2⟩
def ROk (K : PySem.W.Frag) (F : Fz) (ρ : List Addr) (Hs H : Hp) (v : V) : W → Prop
  | .val d => Rp K F H v d
  | .own ds => ∃ a vs, v = .ref a ∧ H a = some (.lst vs) ∧ RpAll K F H vs ds ∧ ¬ F a ∧ a ∉ ρ ∧ Hs a = none
  | .ref n => ∃ a, v = .ref a ∧ ρ[n]? = some a
  | .scr ns => ∃ a, v = .ref a ∧ ScrAt K H a ns
  | .fn x => v = .ref (He.ga K x)
  | .exc x => ExV K F H v x
  | .peek _ => False
def FRun (r : Out Store W) (ok : W → Store → Prop) (er : Exc → Store → Prop) : Prop := match r with
  | .fail => False
  | .ok w st => ok w st
  | .err x st => er x st
def spZ (K : PySem.W.Frag) (mg : Str → Option Value) (n : Nat) (f : Fn) : Sp := fun vs H Q E => ∃ F ρ st ws, vs.length = n ∧ OkF K F ρ st H ∧ VAll K F ρ H vs ws ∧
  FRun (f ws st) (fun w st' => ∀ F' ρ' v H', Fx F ρ H F' ρ' H' → OkF K F' ρ' st' H' → ROk K F' ρ' H H' v w → Q v H')
    (fun x st' => ∀ F' ρ' cls d H', Fx F ρ H F' ρ' H' → OkF K F' ρ' st' H' → XOk K mg F' H' x cls d → E cls d H')
/-! ### calls -/
def callF (n : Nat) (f : Fn) (ws : List W) : M W := fun s => if ws.length = n then (match f ws s.st with
  | .fail => .fail
  | .ok w st => .ok w { s with st := st }
  | .err x st => .err x { s with st := st }) else .fail
def eCall (n : Nat) (f : Fn) (ma : M (List W)) : M W := ma >>= callF n f
section
variable {K : PySem.W.Frag} {mg : Str → Option Value} {Wx : WX} {B : Base} {F F0 F' F1 F2 : Fz} {ρ ρ0 ρ' ρ1 ρ2 : List Addr} {s s0 s' s1 s2 : S} {σ σ' : Sg} {H Hs H' H1 H2 : Hp} {v : V} {w : W} {p : Addr} {o : HO} {d : D} {Q : VK} {st' : Store}
theorem Ok.okF (k : Ok K B F ρ s σ H) : OkF K F ρ s.st H := ⟨k.trk, k.sto⟩
theorem Ok.call (k : Ok K B F ρ s σ H) (x : Fx F ρ H F' ρ' H') (o : OkF K F' ρ' st' H') : Ok K B F' ρ' { s with st := st' } σ H' where
  len := k.len
  base := k.base.trans x k.sto
  trk := o.trk
  sto := o.sto
  env := fun i w e => by
    obtain ⟨v, e1, e2⟩ := k.env i w e
    have stay := x.stay k.sto
    refine ⟨v, e1, ?_⟩
    cases w with
    | val d => exact Rp.st e2 stay x.sub
    | own ds =>
      obtain ⟨a, vs, q1, q2, q3, q4, q5, q6⟩ := e2
      refine ⟨a, vs, q1, x.keep a _ q2 q5, q3.st stay x.sub, fun f => ?_, fun f => ?_, q6⟩
      · rcases x.fz a f with f | f
        · exact q4 f
        · rw [q2] at f; cases f
      · rcases x.new a f with f | f
        · exact q5 f
        · rw [q2] at f; cases f
    | ref n =>
      obtain ⟨a, q1, q2⟩ := e2
      obtain ⟨m, em⟩ := x.rho
      refine ⟨a, q1, ?_⟩
      rw [em]
      obtain ⟨hn, _⟩ := List.getElem?_eq_some_iff.mp q2
      rw [List.getElem?_append_left hn]; exact q2
    | peek i => exact e2
    | scr ns =>
      obtain ⟨a, q1, q2⟩ := e2
      exact ⟨a, q1, q2.mono stay⟩
    | fn x => exact e2
    | exc xx => exact ExV.st e2 stay x.sub
  sep := k.sep
theorem Fx.ext (x : Fx F ρ H F' ρ' H') (o : OkF K F' ρ' st' H') : Ext s σ F ρ H { s with st := st' } F' ρ' H' :=
  ⟨x.sub, x.rho, x.new, fun a o e n _ => x.keep a o e n, fun a e => x.there o.sto e, fun a f => (x.fz a f).elim .inl fun z => .inr (.inl z), fun _ h => h⟩
theorem ROk.wok (k : Ok K B F ρ s σ H) (x : Fx F ρ H F' ρ' H') (o : OkF K F' ρ' st' H') (r : ROk K F' ρ' H H' v w) : WOk K B F' ρ' { s with st := st' } σ H' v w ∧ Fresh H v w := by
  cases w with
  | val d => exact ⟨r, trivial⟩
  | own ds =>
    obtain ⟨a, vs, rfl, h1, h2, h3, h4, h5⟩ := r
    exact ⟨⟨a, vs, rfl, h1, h2, h3, h4, fun z => k.nO h5 z, k.fresh h5⟩, fun b e => by cases e; exact h5⟩
  | ref n => exact ⟨r, trivial⟩
  | peek i => exact r.elim
  | scr ns => exact ⟨r, trivial⟩
  | fn x => exact ⟨r, trivial⟩
  | exc xx => exact ⟨r, trivial⟩
theorem vok_of (h : WOk K B F ρ s σ H v w) (st : stable w = true) : VOk K F ρ H v w := by
  cases w with
  | val d => exact h
  | ref n => exact h
  | scr ns => exact h
  | fn x => exact h
  | exc xx => exact h
  | own ds => cases st
  | peek i => cases st
end
/-- stable arguments -/
inductive WSt : List W → Prop
  | nil : WSt []
  | cons {w : W} {ws : List W} : stable w = true → WSt ws → WSt (w :: ws)
theorem vall_of {K : PySem.W.Frag} {B : Base} {F : Fz} {ρ : List Addr} {s : S} {σ : Sg} {H : Hp} {vs : List V} {ws : List W} (h : WAll K B F ρ s σ H vs ws) (hs : WSt ws) : VAll K F ρ H vs ws := by
  induction h with
  | nil => exact .nil
  | cons a _ ih =>
    cases hs with
    | cons b c => exact .cons (vok_of a b) (ih c)
def stAll : List W → Bool
  | [] => true
  | w :: ws => stable w && stAll ws
theorem stAll_ok : ∀ {ws : List W}, stAll ws = true → WSt ws
  | [], _ => .nil
  | w :: ws, h => by
    have h' : (stable w && stAll ws) = true := h
    rw [Bool.and_eq_true] at h'
    exact .cons h'.1 (stAll_ok h'.2)
def callS (n : Nat) (f : Fn) (ws : List W) : M W := if stAll ws = true then callF n f ws else M.fail
def eCallS (n : Nat) (f : Fn) (ma : M (List W)) : M W := ma >>= callS n f
section
variable {X : Cx} {Wx : WX} {k : Nat} {f : Addr} {fd : FuncData} {ps : List Str} {fs : Fn} {x : Str} {p pos : Pos} {e : Expr} {es : List Expr} {ma mk : M (List W)} {n : Nat}
theorem call_step {B : Base} {F : Fz} {ρ : List Addr} {s : S} {σ : Sg} {H : Hp} {vs : List V} {ws : List W} {Q : VK} {K : PySem.W.Frag} {mg : Str → Option Value} (kk : Ok K B F ρ s σ H) (o : WAll K B F ρ s σ H vs ws)
    (h : Run (callS n fs ws) s (Post K B σ s F ρ H Q) (Er K mg Wx B σ)) : spZ K mg n fs vs H Q (WE Wx σ) := by
  unfold callS at h
  split at h
  · rename_i hst
    have va := vall_of o (stAll_ok hst)
    unfold Run callF at h
    by_cases hn : ws.length = n
    · rw [if_pos hn] at h
      refine ⟨F, ρ, s.st, ws, va.length.trans hn, kk.okF, va, ?_⟩
      unfold FRun
      cases q : fs ws s.st with
      | fail => rw [q] at h; exact h.elim
      | ok w st' =>
        rw [q] at h
        intro F' ρ' v H' fx okf ro
        obtain ⟨h1, h2⟩ := ROk.wok (st' := st') kk fx okf ro
        exact h F' ρ' H' v (fx.ext okf) (kk.call fx okf) h1 h2
      | err x st' =>
        rw [q] at h
        intro F' ρ' cls d H' fx okf xo
        exact h F' ρ' H' cls d (kk.call fx okf) xo
    · rw [if_neg hn] at h; exact h.elim
  · exact h.elim
theorem i_call (G : FnOk X.prog X.w X.K X.mg X.base (L2.CX X.prog X.w) k f fd ps (spZ X.K X.mg n fs)) (hr : Room k X.A) (hm : X.mg x = some (.ref f)) (hk : PySem.W.keepIn X.K (.ref f) = true) (hb : Binds X.K fd ps []) (tk : Takes X Wx)
    (ha : DA X Wx (e :: es) ma) (hg : Gl X x := by rfl) (hdb : (x == ("__debug__" : Str)) = false := by decide) (he : starEach (e :: es) X.env = (false, eval e X.env) :: starEach es X.env := by rfl) (hpl : (backTo pos (starEach es X.env)).any (·.1) = false := by rfl) :
    DE X Wx (.Call (.Name x p) (e :: es) [] pos) (eCallS n fs ma) :=
  pe_mono (pe_callS (E := WE Wx) G hr hg hm hk hb (fun σ => passAt tk σ) ha hdb he hpl) fun σ H Q h => am_step (P := fun vs H1 => spZ X.K X.mg n fs vs H1 Q (WE Wx σ)) (fun kk o h => call_step kk o h) h
end
/-! ### a def's body -/
inductive SR where
  | next | brk | cont | ret (w : W)
/-- from one state of a body to a later one: what is frozen or fixed stays -/
structure SX (F : Fz) (H : Hp) (F' : Fz) (H' : Hp) : Prop where
  sub : ∀ a, F a → F' a
  stay : Stay F H H'
theorem SX.refl {F : Fz} {H : Hp} : SX F H F H := ⟨fun _ h => h, stay_refl⟩
theorem SX.trans {F F1 F2 : Fz} {H H1 H2 : Hp} (a : SX F H F1 H1) (b : SX F1 H1 F2 H2) : SX F H F2 H2 :=
  ⟨fun x h => b.sub x (a.sub x h), fun x o e q => b.stay x o (a.stay x o e q) (q.elim (fun z => .inl (a.sub x z)) .inr)⟩
theorem SX.rp {K : PySem.W.Frag} {F F' : Fz} {H H' : Hp} {v : V} {d : D} (x : SX F H F' H') (h : Rp K F H v d) : Rp K F' H' v d := Rp.st h x.stay x.sub
theorem SX.rpAll {K : PySem.W.Frag} {F F' : Fz} {H H' : Hp} {vs : List V} {ds : List D} (x : SX F H F' H') (h : RpAll K F H vs ds) : RpAll K F' H' vs ds := h.st x.stay x.sub
theorem Ok.sx {K : PySem.W.Frag} {B : Base} {F F' : Fz} {ρ ρ' : List Addr} {s s' : S} {σ : Sg} {H H' : Hp} (k : Ok K B F ρ s σ H) (x : Ext s σ F ρ H s' F' ρ' H') : SX F H F' H' := ⟨x.sub, k.stay x⟩
def BEnd (K : PySem.W.Frag) (B : Base) (F : Fz) (H : Hp) (D : Ends) (r : SR) (s' : S) : Prop := ∀ F' ρ' H' σ', SX F H F' H' → Ok K B F' ρ' s' σ' H' → match r with
  | .next => D.nx σ' H'
  | .brk => D.bk σ' H'
  | .cont => D.ct σ' H'
  | .ret w => ∀ v, ROk K F' ρ' B.H H' v w → D.rt v H'
def BEr (K : PySem.W.Frag) (mg : Str → Option Value) (Wx : WX) (B : Base) (x : Exc) (s' : S) : Prop := ∀ F' ρ' H' σ' cls d, Ok K B F' ρ' s' σ' H' → XOk K mg F' H' x cls d → Wx cls d σ' H'
def BM (K : PySem.W.Frag) (mg : Str → Option Value) (Wx : WX) (m : M SR) : TS := fun D σ H => ∃ B F ρ s, Ok K B F ρ s σ H ∧ Run m s (BEnd K B F H D) (BEr K mg Wx B)
abbrev DS (X : Cx) (Wx : WX) (st : Stmt) (m : M SR) : Prop := PS X st (BM X.K X.mg Wx m)
abbrev DB (X : Cx) (Wx : WX) (st : List Stmt) (m : M SR) : Prop := PSs X st (BM X.K X.mg Wx m)
def fnOf (nN : Nat) (mb : M SR) : Fn := fun ws st => match mb ⟨ws.map some ++ List.replicate (nN - ws.length) none, st⟩ with
  | .fail => .fail
  | .ok r s' => (match r with
    | .next => .ok (.val .none) s'.st
    | .ret w => .ok w s'.st
    | _ => .fail)
  | .err x s' => .err x s'.st
theorem body_ok {K : PySem.W.Frag} {mg : Str → Option Value} {N : List Str} {n : Nat} {mb : M SR} {vs : List V} {H : Hp} {Q : VK} {E : XK} (hn : n ≤ N.length) (h : spZ K mg n (fnOf N.length mb) vs H Q E) :
    BM K mg (fun cls d _ H => E cls d H) mb { nx := fun _ H' => Q .non H', rt := Q } (L2.start N vs) H := by
  obtain ⟨F, ρ, st, ws, hl, okf, va, h⟩ := h
  have hvw := va.length
  refine ⟨⟨F, ρ, H⟩, F, ρ, ⟨ws.map some ++ List.replicate (N.length - ws.length) none, st⟩, ?_, ?_⟩
  · have envs : ∀ (i : Nat) (w : W), (ws.map some ++ List.replicate (N.length - ws.length) none)[i]? = some (some w) → ws[i]? = some w := fun i w e => by
      by_cases hi : i < ws.length
      · rw [List.getElem?_append_left (by simpa using hi), List.getElem?_map] at e
        cases q : ws[i]? with
        | none => rw [q] at e; cases e
        | some w' => rw [q] at e; cases e; rfl
      · rw [List.getElem?_append_right (by simpa using Nat.le_of_not_lt hi)] at e
        have := List.mem_of_getElem? e
        simp at this
    exact {
      len := by
        unfold L2.start
        simp only [List.length_append, List.length_map, List.length_replicate]
        omega
      base := .refl
      trk := okf.trk
      sto := okf.sto
      env := fun i w e => by
        obtain ⟨v, e1, e2⟩ := va.get (envs i w e)
        refine ⟨v, ?_, ?_⟩
        · unfold L2.start
          have hi : i < vs.length := (List.getElem?_eq_some_iff.mp e1).1
          rw [List.getElem?_append_left (by simpa using hi), List.getElem?_map, e1]
          rfl
        · cases w with
          | val d => exact e2
          | ref n => exact e2
          | scr ns => exact e2
          | fn x => exact e2
          | exc xx => exact e2
          | own ds => exact e2.elim
          | peek j => exact e2.elim
      sep := fun i j ds es a e1 _ _ _ => by
        obtain ⟨v, _, e2⟩ := va.get (envs i _ e1)
        exact e2.elim }
  · unfold FRun fnOf at h
    unfold Run
    cases q : mb ⟨ws.map some ++ List.replicate (N.length - ws.length) none, st⟩ with
    | fail => rw [q] at h; exact h.elim
    | err x s' =>
      rw [q] at h
      intro F' ρ' H' σ' cls d k xo
      exact h F' ρ' cls d H' k.base k.okF xo
    | ok r s' =>
      rw [q] at h
      cases r with
      | next =>
        intro F' ρ' H' σ' _ k
        exact h F' ρ' .non H' k.base k.okF .non
      | brk => exact h.elim
      | cont => exact h.elim
      | ret w =>
        intro F' ρ' H' σ' _ k v ro
        exact h F' ρ' v H' k.base k.okF ro
theorem fn_ok {P : Program} {w : World} {K : PySem.W.Frag} {mg : Str → Option Value} {base : Heap} {x qual : Str} {st : Stmt} {f : Addr} {fd : FuncData} {N ps : List Str} {k n : Nat} {mb : M SR} (G : Fun K x qual st f fd) (Sc : FnScope N ps (defScope st)) (hps : n = ps.length) (hn : n ≤ N.length)
    (hbody : ∀ (cdv : Value) (A : Around) (outer : List Env) (s : Shared) (H : Hp) (E : XK), Room k (A.deeper (envOfC qual (defScope st) s.heap.objs.size f cdv)) →
      Takes (cxOf (L2.CX P w) P w K mg base N qual (defScope st) f cdv A outer s H E) (fun cls d _ H => E cls d H) →
      DB (cxOf (L2.CX P w) P w K mg base N qual (defScope st) f cdv A outer s H E) (fun cls d _ H => E cls d H) (defBody st) mb) :
    FnOk P w K mg base (L2.CX P w) (k + 1) f fd ps (spZ K mg n (fnOf N.length mb)) :=
  G.okX Sc (fun vs H Q E h => by obtain ⟨_, _, _, _, e, _⟩ := h; rw [e, hps]) fun cdv A outer s H vs Q E hr h =>
    ⟨_, hbody cdv A outer s H E hr (takes_of rfl rfl rfl rfl), body_ok hn h⟩
/-! ### statements -/
def seq (m1 m2 : M SR) : M SR := m1 >>= fun r => match r with
  | .next => m2
  | r => Pure.pure r
def sNext : M SR := Pure.pure .next
def sBrk : M SR := Pure.pure .brk
def sCont : M SR := Pure.pure .cont
def sFail : M SR := M.fail
def sIf (c : M Bool) (m1 m2 : M SR) : M SR := c >>= fun b => if b = true then m1 else m2
def sExpr (m : M W) : M SR := m >>= fun _ => Pure.pure .next
def retSlot (i : Nat) (s : S) : Option (Option W) → Out S SR
  | some (some (.val d)) => .ok (.ret (.val d)) s
  | some (some (.own ds)) => .ok (.ret (.own ds)) (s.setEnv i none)
  | some (some (.ref n)) => .ok (.ret (.ref n)) s
  | some (some (.scr ns)) => .ok (.ret (.scr ns)) s
  | some (some (.fn x)) => .ok (.ret (.fn x)) s
  | some (some (.exc x)) => .ok (.ret (.exc x)) s
  | _ => .fail
def retW (w : W) : M SR := fun s => match w with
  | .peek i => retSlot i s s.env[i]?
  | w => .ok (.ret w) s
def sRet (m : M W) : M SR := m >>= retW
def sRetN : M SR := Pure.pure (.ret (.val .none))
/-- a slot is stored -/
def setW (i : Nat) (w : W) : M Unit := fun s => if i < s.env.length then .ok () (s.setEnv i (some w)) else .fail
def asgW (i : Nat) (w : W) : M Unit := match w with
  | .own ds => setW i (.own ds)
  | w => escW w >>= setW i
def sAsg (i : Nat) (m : M W) : M SR := m >>= fun w => asgW i w >>= fun _ => Pure.pure .next
section
variable {K : PySem.W.Frag} {mg : Str → Option Value} {Wx : WX} {B : Base} {F F0 F' F1 F2 : Fz} {ρ ρ0 ρ' ρ1 ρ2 : List Addr} {s s0 s' s1 s2 : S} {σ σ' : Sg} {H Hs H' H1 H2 : Hp} {v : V} {w : W} {p : Addr} {o : HO} {d : D} {Q : VK} {i : Nat}
theorem env_set {env : List (Option W)} {i j : Nat} {o : Option W} {w : W} (e : (env.set i o)[j]? = some (some w)) : (j = i ∧ o = some w) ∨ (j ≠ i ∧ env[j]? = some (some w)) := by
  by_cases hj : j = i
  · subst hj
    by_cases hl : j < env.length
    · rw [List.getElem?_set_self hl] at e
      cases e
      exact .inl ⟨rfl, rfl⟩
    · rw [List.getElem?_eq_none (by rw [List.length_set]; omega)] at e; cases e
  · rw [List.getElem?_set_ne (Ne.symm hj)] at e
    exact .inr ⟨hj, e⟩
/-- a slot forgotten -/
theorem Ok.clear (k : Ok K B F ρ s σ H) (i : Nat) : Ok K B F ρ (s.setEnv i none) σ H where
  len := by rw [← k.len]; exact List.length_set
  base := k.base
  trk := k.trk
  sto := k.sto
  env := fun j w e => by
    rcases env_set e with ⟨_, e⟩ | ⟨_, e⟩
    · cases e
    · exact k.env j w e
  sep := fun j l ds es a e1 e2 e3 e4 => by
    rcases env_set e1 with ⟨_, e⟩ | ⟨_, e1⟩
    · cases e
    · rcases env_set e2 with ⟨_, e⟩ | ⟨_, e2⟩
      · cases e
      · exact k.sep j l ds es a e1 e2 e3 e4
/-- a slot stored -/
theorem Ok.store (k : Ok K B F ρ s σ H) (hi : i < s.env.length) (so : SOk K B F ρ H v w) (no : ∀ ds a, w = .own ds → v = .ref a → ¬ OwnedBy s σ a) : Ok K B F ρ (s.setEnv i (some w)) (σ.set i (some v)) H where
  len := by
    show (s.env.set i (some w)).length = (σ.set i (some v)).length
    rw [List.length_set, List.length_set]
    exact k.len
  base := k.base
  trk := k.trk
  sto := k.sto
  env := fun j w' e => by
    rcases env_set e with ⟨hj, e⟩ | ⟨hj, e⟩
    · cases e
      subst hj
      exact ⟨v, List.getElem?_set_self (by rw [← k.len]; exact hi), so⟩
    · obtain ⟨v', e1, e2⟩ := k.env j w' e
      exact ⟨v', by rw [List.getElem?_set_ne (Ne.symm hj)]; exact e1, e2⟩
  sep := fun j l ds es a e1 e2 e3 e4 => by
    rcases env_set e1 with ⟨hj, g1⟩ | ⟨hj, g1⟩
    · rcases env_set e2 with ⟨hl, g2⟩ | ⟨hl, g2⟩
      · exact hj.trans hl.symm
      · cases g1
        subst hj
        rw [List.getElem?_set_self (by rw [← k.len]; exact hi)] at e3
        rw [List.getElem?_set_ne (Ne.symm hl)] at e4
        cases e3
        exact absurd ⟨l, es, g2, e4⟩ (no ds a rfl rfl)
    · rw [List.getElem?_set_ne (Ne.symm hj)] at e3
      rcases env_set e2 with ⟨hl, g2⟩ | ⟨hl, g2⟩
      · cases g2
        subst hl
        rw [List.getElem?_set_self (by rw [← k.len]; exact hi)] at e4
        cases e4
        exact absurd ⟨j, ds, g1, e3⟩ (no es a rfl rfl)
      · rw [List.getElem?_set_ne (Ne.symm hl)] at e4
        exact k.sep j l ds es a g1 g2 e3 e4
theorem sok_of (h : WOk K B F ρ s σ H v w) (st : stable w = true) : SOk K B F ρ H v w := by
  cases w with
  | val d => exact h
  | ref n => exact h
  | scr ns => exact h
  | fn x => exact h
  | exc xx => exact h
  | own ds => cases st
  | peek i => cases st
/-- x = value -/
theorem asg_ok {ok : Unit → S → Prop} {er : Exc → S → Prop} (e : Ext s0 σ F0 ρ0 Hs s F ρ H) (k : Ok K B F ρ s σ H) (o : WOk K B F ρ s σ H v w) (f : Fresh Hs v w) (h : Run (asgW i w) s ok er) : ∃ F' s', (∀ a, F0 a → F' a) ∧ Ok K B F' ρ s' (σ.set i (some v)) H ∧ ok () s' := by
  have setc : ∀ {F' : Fz} {s' : S} {w' : W}, (∀ a, F0 a → F' a) → Ok K B F' ρ s' σ H → SOk K B F' ρ H v w' → (∀ ds a, w' = .own ds → v = .ref a → ¬ OwnedBy s' σ a) → Run (setW i w') s' ok er → ∃ F'' s'', (∀ a, F0 a → F'' a) ∧ Ok K B F'' ρ s'' (σ.set i (some v)) H ∧ ok () s'' := by
    intro F' s' w' hs k' so no h'
    unfold Run setW at h'
    by_cases hi : i < s'.env.length
    · rw [if_pos hi] at h'
      exact ⟨F', _, hs, k'.store hi so no, h'⟩
    · rw [if_neg hi] at h'; exact h'.elim
  have other : stable w = true ∨ (∃ j, w = .peek j) → Run (escW w >>= setW i) s ok er → ∃ F' s', (∀ a, F0 a → F' a) ∧ Ok K B F' ρ s' (σ.set i (some v)) H ∧ ok () s' := fun _ h => by
    obtain ⟨F', s', w', k', e', o', st', h'⟩ := esc_ok k.sto e k o f (Run.bind h)
    exact setc e'.sub k' (sok_of o' st') (fun ds a e _ => by subst e; cases st') h'
  cases w with
  | own ds =>
    obtain ⟨a, vs, rfl, h1, h2, h3, h4, h5, h6⟩ := o
    exact setc (w' := .own ds) e.sub k ⟨a, vs, rfl, h1, h2, h3, h4, h6⟩ (fun ds' a' _ e => by cases e; exact h5) h
  | val d => exact other (.inl rfl) h
  | ref n => exact other (.inl rfl) h
  | scr ns => exact other (.inl rfl) h
  | fn x => exact other (.inl rfl) h
  | exc xx => exact other (.inl rfl) h
  | peek j => exact other (.inr ⟨j, rfl⟩) h
theorem ret_ok {D : Ends} {er : Exc → S → Prop} (x : SX F0 Hs F H) (k : Ok K B F ρ s σ H) (o : WOk K B F ρ s σ H v w) (h : Run (retW w) s (BEnd K B F0 Hs D) er) : D.rt v H := by
  cases w with
  | val d => exact h F ρ H σ x k v o
  | ref n => exact h F ρ H σ x k v o
  | scr ns => exact h F ρ H σ x k v o
  | fn y => exact h F ρ H σ x k v o
  | exc xx => exact h F ρ H σ x k v o
  | own ds =>
    obtain ⟨a, vs, rfl, h1, h2, h3, h4, h5, h6⟩ := o
    exact h F ρ H σ x k _ ⟨a, vs, rfl, h1, h2, h3, h4, h6⟩
  | peek i =>
    have o' : σ[i]? = some (some v) := o
    have h : Run (fun _ => retSlot i s s.env[i]?) s (BEnd K B F0 Hs D) er := h
    cases q : s.env[i]? with
    | none => rw [q] at h; exact h.elim
    | some oo =>
      cases oo with
      | none => rw [q] at h; exact h.elim
      | some w' =>
        rw [q] at h
        obtain ⟨v', e1, e2⟩ := k.env i _ q
        rw [o'] at e1; cases e1
        cases w' with
        | val d => exact h F ρ H σ x k v e2
        | ref n => exact h F ρ H σ x k v e2
        | scr ns => exact h F ρ H σ x k v e2
        | fn y => exact h F ρ H σ x k v e2
        | exc xx => exact h F ρ H σ x k v e2
        | peek j => exact h.elim
        | own ds => exact h F ρ H σ x (k.clear i) v e2
end
section
variable {X : Cx} {Wx : WX} {pos : Pos} {e : Expr} {es : List Expr} {m m1 m2 : M W} {ma : M (List W)} {st : Stmt} {rest a b : List Stmt} {b1 b2 : M SR} {c1 : M Bool}
theorem b_nil : DB X Wx [] sNext := pss_mono pss_nil fun D σ H ⟨B, F, ρ, s, k, h⟩ => (Run.ret h) F ρ H σ .refl k
theorem b_one (h : DS X Wx st b1) : DB X Wx [st] b1 := pss_mono (pss_one h) fun D σ H h => h
theorem b_cons (h1 : DS X Wx st b1) (h2 : DB X Wx rest b2) : DB X Wx (st :: rest) (seq b1 b2) :=
  pss_mono (pss_cons h1 h2) fun D σ H ⟨B, F, ρ, s, k, h⟩ => ⟨B, F, ρ, s, k, (Run.bind h).mono (fun r s1 _ h1 => by
    cases r with
    | next => exact fun F' ρ' H' σ' x k' => ⟨B, F', ρ', s1, k', h1.mono (fun r s' _ z F2 ρ2 H2 σ2 x2 k2 => z F2 ρ2 H2 σ2 (x.trans x2) k2) fun _ _ _ e => e⟩
    | brk => exact h1
    | cont => exact h1
    | ret w => exact h1) fun _ _ _ e => e⟩
theorem s_pass : DS X Wx (.Pass pos) sNext := ps_mono ps_pass fun D σ H ⟨B, F, ρ, s, k, h⟩ => (Run.ret h) F ρ H σ .refl k
theorem s_break : DS X Wx (.Break pos) sBrk := ps_mono ps_break fun D σ H ⟨B, F, ρ, s, k, h⟩ => (Run.ret h) F ρ H σ .refl k
theorem s_continue : DS X Wx (.Continue pos) sCont := ps_mono ps_continue fun D σ H ⟨B, F, ρ, s, k, h⟩ => (Run.ret h) F ρ H σ .refl k
theorem s_never : DS X Wx st sFail := ps_mono ps_never fun D σ H ⟨B, F, ρ, s, k, h⟩ => h
theorem s_if {c : Expr} (hc : DC X Wx c c1) (ha : DB X Wx a b1) (hb : DB X Wx b b2) : DS X Wx (.If c a b pos) (sIf c1 b1 b2) :=
  ps_mono (ps_if hc ha hb) fun D σ H ⟨B, F, ρ, s, k, h⟩ => ⟨B, F, ρ, s, k, (Run.bind h).mono (fun b s1 _ h1 F1 ρ1 H1 e1 k1 => by
    cases b with
    | true => exact iteT ⟨B, F1, ρ1, s1, k1, h1.mono (fun r s' _ z F2 ρ2 H2 σ2 x2 k2 => z F2 ρ2 H2 σ2 ((k.sx e1).trans x2) k2) fun _ _ _ e => e⟩
    | false => exact iteF ⟨B, F1, ρ1, s1, k1, h1.mono (fun r s' _ z F2 ρ2 H2 σ2 x2 k2 => z F2 ρ2 H2 σ2 ((k.sx e1).trans x2) k2) fun _ _ _ e => e⟩) fun x s1 _ z F' ρ' H' cls d k' xo => z F' ρ' H' σ cls d k' xo⟩
theorem s_expr (he : DE X Wx e m) (hs : swapsWith e none pos.line X.env = pure false := by rfl) : DS X Wx (.Expr e pos) (sExpr m) :=
  ps_mono (ps_expr he hs) fun D σ H ⟨B, F, ρ, s, k, h⟩ => ⟨B, F, ρ, s, k, (Run.bind h).mono (fun w s1 _ h1 F1 ρ1 H1 v e1 k1 _ _ => (Run.ret h1) F1 ρ1 H1 σ (k.sx e1) k1) fun x s1 _ z F' ρ' H' cls d k' xo => z F' ρ' H' σ cls d k' xo⟩
theorem s_ret (he : DE X Wx e m) : DS X Wx (.Return (some e) pos) (sRet m) :=
  ps_mono (ps_ret he) fun D σ H ⟨B, F, ρ, s, k, h⟩ => ⟨B, F, ρ, s, k, (Run.bind h).mono (fun w s1 _ h1 F1 ρ1 H1 v e1 k1 o1 _ => ret_ok (k.sx e1) k1 o1 h1) fun x s1 _ z F' ρ' H' cls d k' xo => z F' ρ' H' σ cls d k' xo⟩
theorem s_retN : DS X Wx (.Return none pos) sRetN := ps_mono ps_retN fun D σ H ⟨B, F, ρ, s, k, h⟩ => (Run.ret h) F ρ H σ .refl k .non .non
theorem asg_step {D : Ends} {σ : Sg} {H : Hp} {i : Nat} (h : BM X.K X.mg Wx (sAsg i m) D σ H) : EM X.K X.mg Wx m σ H fun x H1 => gName i x σ H1 D.nx := by
  obtain ⟨B, F, ρ, s, k, h⟩ := h
  refine ⟨B, F, ρ, s, k, (Run.bind h).mono (fun w s1 _ h1 F1 ρ1 H1 v e1 k1 o1 f1 => ?_) fun x s1 _ z F' ρ' H' cls d k' xo => z F' ρ' H' σ cls d k' xo⟩
  obtain ⟨F2, s2, hs, k2, h2⟩ := asg_ok e1 k1 o1 f1 (Run.bind h1)
  exact (Run.ret h2) F2 ρ1 H1 _ ⟨hs, k.stay e1⟩ k2
theorem s_asg (i : Nat) {x : Str} {pos' : Pos} (hN : X.N.Nodup) (he : DE X Wx e m) (hi : X.N[i]? = some x := by rfl) (hx : Loc X.env.scope x := by first | exact Or.inl rfl | exact Or.inr rfl) (hs : swapsWith e (some (.Name x pos')) pos.line X.env = pure false := by rfl)
    (hf : X.fn x = true ∨ X.env.scope.names.lookup x = some .local := by first | exact .inl rfl | exact .inr rfl | assumption) : DS X Wx (.Assign [.Name x pos'] e pos) (sAsg i m) :=
  ps_mono (ps_set hN hi hx he hs hf) fun D σ H h => asg_step h
end
end Z
/-! Z, part 6: targets, parallel stores, stores into lists, loops. -/
namespace Z
open PySem PySem.Spec PyProof.Rows L2

/-! ### targets that take data -/
def SO (is : List Nat) (σ σ' : Sg) : Prop := σ'.length = σ.length ∧ ∀ j, j ∉ is → σ'[j]? = σ[j]?
theorem SO.refl {is : List Nat} {σ : Sg} : SO is σ σ := ⟨rfl, fun _ _ => rfl⟩
theorem SO.trans {is js : List Nat} {σ σ1 σ2 : Sg} (a : SO is σ σ1) (b : SO js σ1 σ2) : SO (is ++ js) σ σ2 :=
  ⟨b.1.trans a.1, fun j h => (b.2 j fun z => h (List.mem_append_right _ z)).trans (a.2 j fun z => h (List.mem_append_left _ z))⟩
/-- as Ext, the slots may be others -/
structure GX (s : S) (σ : Sg) (F : Fz) (ρ : List Addr) (H : Hp) (s' : S) (σ' : Sg) (F' : Fz) (ρ' : List Addr) (H' : Hp) : Prop where
  sub : ∀ a, F a → F' a
  rho : ∃ m, ρ' = ρ ++ m
  new : ∀ a, a ∈ ρ' → a ∈ ρ ∨ H a = none
  keep : ∀ a o, H a = some o → a ∉ ρ → ¬ OwnedBy s σ a → H' a = some o
  th : ∀ a, H' a = none → H a = none
  fz : ∀ a, F' a → F a ∨ H a = none ∨ OwnedBy s σ a
  ow : ∀ a, OwnedBy s' σ' a → OwnedBy s σ a
section
variable {K : PySem.W.Frag} {B : Base} {F F' F1 F2 : Fz} {ρ ρ' ρ1 ρ2 : List Addr} {s s' s1 s2 : S} {σ σ' σ1 σ2 : Sg} {H H' H1 H2 : Hp}
theorem Ext.gx (x : Ext s σ F ρ H s' F' ρ' H') : GX s σ F ρ H s' σ F' ρ' H' := ⟨x.sub, x.rho, x.new, x.keep, x.th, x.fz, x.ow⟩
theorem GX.refl : GX s σ F ρ H s σ F ρ H := Ext.refl.gx
theorem GX.trans (x : GX s σ F ρ H s1 σ1 F1 ρ1 H1) (y : GX s1 σ1 F1 ρ1 H1 s2 σ2 F2 ρ2 H2) : GX s σ F ρ H s2 σ2 F2 ρ2 H2 where
  sub := fun a q => y.sub a (x.sub a q)
  rho := by
    obtain ⟨m, e⟩ := x.rho
    obtain ⟨m', e'⟩ := y.rho
    exact ⟨m ++ m', by rw [e', e, List.append_assoc]⟩
  new := fun a q => (y.new a q).elim (x.new a) fun q => .inr (x.th a q)
  keep := fun a o q n no => y.keep a o (x.keep a o q n no) (fun z => (x.new a z).elim n fun z => by rw [q] at z; cases z) fun z => no (x.ow a z)
  th := fun a q => x.th a (y.th a q)
  fz := fun a q => by
    rcases y.fz a q with q | q | q
    · exact x.fz a q
    · exact .inr (.inl (x.th a q))
    · exact .inr (.inr (x.ow a q))
  ow := fun a q => x.ow a (y.ow a q)
theorem Ok.gsx (k : Ok K B F ρ s σ H) (x : GX s σ F ρ H s' σ' F' ρ' H') : SX F H F' H' := ⟨x.sub, fun a o e q => x.keep a o e (fun ha => by
  obtain ⟨n1, vs, n2⟩ := k.sto.mem ha
  rcases q with q | q
  · exact n1 q
  · rw [n2] at e; cases e; cases q) fun ho => by
  obtain ⟨n1, _, _, vs, n2⟩ := k.owned ho
  rcases q with q | q
  · exact n1 q
  · rw [n2] at e; cases e; cases q⟩
end
def GEnd (K : PySem.W.Frag) (B : Base) (is : List Nat) (σ : Sg) (s : S) (F : Fz) (ρ : List Addr) (H : Hp) (Q : Sg → Hp → Prop) (s' : S) : Prop := ∀ F' ρ' H' σ', GX s σ F ρ H s' σ' F' ρ' H' → SO is σ σ' → Ok K B F' ρ' s' σ' H' → Q σ' H'
def GM (K : PySem.W.Frag) (mg : Str → Option Value) (Wx : WX) (is : List Nat) (g : D → M Unit) : TG := fun v σ H Q => ∃ B F ρ s d, Ok K B F ρ s σ H ∧ Rp K F H v d ∧ Run (g d) s (fun _ s' => GEnd K B is σ s F ρ H Q s') (BEr K mg Wx B)
def GsM (K : PySem.W.Frag) (mg : Str → Option Value) (Wx : WX) (is : List Nat) (g : List D → M Unit) : TGs := fun vs σ H Q => ∃ B F ρ s ds, Ok K B F ρ s σ H ∧ RpAll K F H vs ds ∧ Run (g ds) s (fun _ s' => GEnd K B is σ s F ρ H Q s') (BEr K mg Wx B)
abbrev DG (X : Cx) (Wx : WX) (is : List Nat) (t : Expr) (g : D → M Unit) : Prop := PG X t (GM X.K X.mg Wx is g)
abbrev DGs (X : Cx) (Wx : WX) (is : List Nat) (t : List Expr) (g : List D → M Unit) : Prop := PGs X t (GsM X.K X.mg Wx is g)
theorem pg_mono {X : Cx} {e : Expr} {t t' : TG} (h : PG X e t) (k : ∀ v σ H Q, t' v σ H Q → t v σ H Q) : PG X e t' := ⟨fun pins s σ H v u Q I r q => h.run pins s σ H v u Q I r (k _ _ _ _ q)⟩
theorem pgs_mono {X : Cx} {e : List Expr} {t t' : TGs} (h : PGs X e t) (k : ∀ v σ H Q, t' v σ H Q → t v σ H Q) : PGs X e t' := ⟨fun pins s σ H v u Q I r q => h.run pins s σ H v u Q I r (k _ _ _ _ q)⟩
def tName (i : Nat) (d : D) : M Unit := setW i (.val d)
def tNilG : List D → M Unit
  | [] => Pure.pure ()
  | _ => M.fail
def tConsG (g : D → M Unit) (r : List D → M Unit) : List D → M Unit
  | d :: ds => g d >>= fun _ => r ds
  | _ => M.fail
def tTupG (n : Nat) (r : List D → M Unit) : D → M Unit
  | .tuple ds => if ds.length = n then r ds else M.fail
  | .list ds => if ds.length = n then r ds else M.fail
  | _ => M.fail
section
variable {K : PySem.W.Frag} {mg : Str → Option Value} {Wx : WX} {B : Base} {F F0 F' F1 F2 : Fz} {ρ ρ0 ρ' ρ1 ρ2 : List Addr} {s s0 s' s1 s2 : S} {σ σ' σ1 : Sg} {H Hs H' H1 H2 : Hp} {v : V} {w : W} {p : Addr} {o : HO} {d : D} {i : Nat} {is js : List Nat}
theorem GEnd.step {Q : Sg → Hp → Prop} (x : GX s σ F ρ H s1 σ1 F1 ρ1 H1) (y : SO is σ σ1) (h : GEnd K B (is ++ js) σ s F ρ H Q s') : GEnd K B js σ1 s1 F1 ρ1 H1 Q s' := fun F' ρ' H' σ' x' y' k' => h F' ρ' H' σ' (x.trans x') (y.trans y') k'
theorem set_ok {ok : Unit → S → Prop} {er : Exc → S → Prop} (k : Ok K B F ρ s σ H) (so : SOk K B F ρ H v w) (no : ∀ ds a, w = .own ds → v = .ref a → ¬ OwnedBy s σ a) (h : Run (setW i w) s ok er) : i < s.env.length ∧ Ok K B F ρ (s.setEnv i (some w)) (σ.set i (some v)) H ∧ ok () (s.setEnv i (some w)) := by
  unfold Run setW at h
  by_cases hi : i < s.env.length
  · rw [if_pos hi] at h
    exact ⟨hi, k.store hi so no, h⟩
  · rw [if_neg hi] at h; exact h.elim
end
section
variable {X : Cx} {Wx : WX} {pos : Pos} {e : Expr} {es : List Expr} {m m1 m2 : M W} {ma : M (List W)} {st : Stmt} {rest a b : List Stmt} {b1 b2 : M SR} {c1 : M Bool} {is js : List Nat} {g : D → M Unit} {r : List D → M Unit}
theorem g_name (i : Nat) {x : Str} (hN : X.N.Nodup) (hi : X.N[i]? = some x := by rfl) (hx : Loc X.env.scope x := by first | exact Or.inl rfl | exact Or.inr rfl)
    (hf : X.fn x = true ∨ X.env.scope.names.lookup x = some .local := by first | exact .inl rfl | exact .inr rfl | assumption) : DG X Wx [i] (.Name x pos) (tName i) :=
  pg_mono (pg_name hN hi hx hf) fun v σ H Q ⟨B, F, ρ, s, d, k, rp, h⟩ => by
    obtain ⟨hi, k2, h2⟩ := set_ok (w := .val d) k rp (fun _ _ e => by cases e) h
    refine h2 F ρ H _ ⟨fun _ z => z, ⟨[], by simp⟩, fun _ z => .inl z, fun _ _ z _ _ => z, fun _ z => z, fun _ z => .inl z, fun a z => ?_⟩ ⟨List.length_set, fun j hj => List.getElem?_set_ne fun z => hj (by rw [z]; exact List.mem_singleton_self _)⟩ k2
    obtain ⟨j, ds, y1, y2⟩ := z
    rcases env_set y1 with ⟨hj, y1⟩ | ⟨hj, y1⟩
    · cases y1
    · rw [List.getElem?_set_ne (Ne.symm hj)] at y2
      exact ⟨j, ds, y1, y2⟩
theorem gs_nil : DGs X Wx [] [] tNilG := pgs_mono pgs_nil fun vs σ H Q ⟨B, F, ρ, s, ds, k, rp, h⟩ => by
  cases rp with
  | nil => exact ⟨rfl, h F ρ H σ .refl .refl k⟩
  | cons _ _ => exact h.elim
theorem gs_cons (h1 : DG X Wx is e g) (h2 : DGs X Wx js es r) (hs : (assignEach (e :: es) X.env).map (·.2) = assign e X.env :: (assignEach es X.env).map (·.2) := by rfl) : DGs X Wx (is ++ js) (e :: es) (tConsG g r) :=
  pgs_mono (pgs_cons h1 h2 hs) fun vs σ H Q ⟨B, F, ρ, s, ds, k, rp, h⟩ => by
    cases rp with
    | nil => exact h.elim
    | cons a b =>
      refine ⟨_, _, rfl, B, F, ρ, s, _, k, a, (Run.bind h).mono (fun _ s1 _ h1 F1 ρ1 H1 σ1 x y k1 => ?_) fun _ _ _ e => e⟩
      exact ⟨B, F1, ρ1, s1, _, k1, (k.gsx x).rpAll b, h1.mono (fun _ s2 _ z => z.step x y) fun _ _ _ e => e⟩
theorem pg_or {X : Cx} {e : Expr} {t1 t2 : TG} (h1 : PG X e t1) (h2 : PG X e t2) : PG X e fun v σ H Q => t1 v σ H Q ∨ t2 v σ H Q :=
  ⟨fun pins s σ H v u Q I r h => h.elim (fun z => h1.run pins s σ H v u Q I r z) fun z => h2.run pins s σ H v u Q I r z⟩
theorem g_tup {kk n : Nat} (hc : X.calm = true) (h : DGs X Wx is es r) (hn : (assignEach es X.env).length = n := by rfl) (hst : (assignEach es X.env).findIdx? (·.1) = none := by rfl) : DG X Wx is (.Tuple es kk pos) (tTupG n r) :=
  pg_mono (pg_or (pg_tup hc h hn hst) (pg_lst hc h hn hst)) fun v σ H Q ⟨B, F, ρ, s, d, k, rp, h⟩ => by
    unfold tTupG at h
    split at h
    · rename_i ds
      split at h
      · rename_i hl
        cases rp with
        | tup a b => exact .inl ⟨_, _, rfl, a, by rw [b.length]; exact hl, B, F, ρ, s, _, k, b, h⟩
      · exact h.elim
    · rename_i ds
      split at h
      · rename_i hl
        cases rp with
        | lst f a b => exact .inr ⟨_, _, rfl, SqL.of a, by rw [b.length]; exact hl, B, F, ρ, s, _, k, b, h⟩
      · exact h.elim
    · exact h.elim
/-! ### target = value, by data -/
def toVal (w : W) : M D := escW w >>= fun w => match w with
  | .val d => Pure.pure d
  | _ => M.fail
def sUnp (g : D → M Unit) (m : M W) : M SR := m >>= fun w => toVal w >>= fun d => g d >>= fun _ => Pure.pure .next
theorem val_ok {K : PySem.W.Frag} {B : Base} {F F0 : Fz} {ρ ρ0 : List Addr} {s s0 : S} {σ : Sg} {H Hs : Hp} {v : V} {w : W} {ok : D → S → Prop} {er : Exc → S → Prop} (e : Ext s0 σ F0 ρ0 Hs s F ρ H) (k : Ok K B F ρ s σ H) (o : WOk K B F ρ s σ H v w) (f : Fresh Hs v w) (h : Run (toVal w) s ok er) :
    ∃ F' s' d, Ok K B F' ρ s' σ H ∧ Ext s0 σ F0 ρ0 Hs s' F' ρ H ∧ Rp K F' H v d ∧ ok d s' := by
  obtain ⟨F', s', w', k', e', o', st', h'⟩ := esc_ok k.sto e k o f (Run.bind h)
  cases w' with
  | val d => exact ⟨F', s', d, k', e', o', h'⟩
  | _ => exact h'.elim
theorem s_unp {tg : Expr} (he : DE X Wx e m) (hg : DG X Wx is tg g) (hs : swapsWithSole [tg] e pos.line X.env = pure false := by rfl) (hw : swappedStores [tg] e X.env = pure none := by rfl) (h1 : List.map (fun x => x.snd) (assignEach [tg] X.env) = [assign tg X.env] := by rfl) : DS X Wx (.Assign [tg] e pos) (sUnp g m) :=
  ps_mono (ps_asg he hg hs hw h1) fun D σ H ⟨B, F, ρ, s, k, h⟩ => ⟨B, F, ρ, s, k, (Run.bind h).mono (fun w s1 _ h1 F1 ρ1 H1 v e1 k1 o1 f1 => by
    obtain ⟨F2, s2, d, k2, e2, rp, h2⟩ := val_ok e1 k1 o1 f1 (Run.bind h1)
    exact ⟨B, F2, ρ1, s2, d, k2, rp, (Run.bind h2).mono (fun _ s3 _ h3 F3 ρ3 H3 σ3 x3 y3 k3 => (Run.ret h3) F3 ρ3 H3 σ3 ((k.sx e2).trans (k2.gsx x3)) k3) fun _ _ _ e => e⟩) fun x s1 _ z F' ρ' H' cls d k' xo => z F' ρ' H' σ cls d k' xo⟩
/-! ### lists that are held while others are made -/
inductive WHeld (K : PySem.W.Frag) (B : Base) (F : Fz) (ρ : List Addr) (s : S) (σ : Sg) (H : Hp) : List V → List W → Prop
  | nil : WHeld K B F ρ s σ H [] []
  | cons {v : V} {vs : List V} {w : W} {ws : List W} : WOk K B F ρ s σ H v w → (∀ i, w ≠ .peek i) → (∀ (j : Nat) (ds es : List D) (a : Addr), w = .own ds → ws[j]? = some (.own es) → v = .ref a → vs[j]? ≠ some (.ref a)) → WHeld K B F ρ s σ H vs ws → WHeld K B F ρ s σ H (v :: vs) (w :: ws)
def FreshAll (H : Hp) (vs : List V) (ws : List W) : Prop := ∀ (j : Nat) (es : List D) (a : Addr), ws[j]? = some (.own es) → vs[j]? = some (.ref a) → H a = none
def PostH (K : PySem.W.Frag) (B : Base) (σ : Sg) (s : S) (F : Fz) (ρ : List Addr) (H : Hp) (Q : List V → Hp → Prop) (ws : List W) (s' : S) : Prop :=
  ∀ F' ρ' H' vs, Ext s σ F ρ H s' F' ρ' H' → Ok K B F' ρ' s' σ H' → WHeld K B F' ρ' s' σ H' vs ws → FreshAll H vs ws → Q vs H'
def HM (K : PySem.W.Frag) (mg : Str → Option Value) (Wx : WX) (m : M (List W)) : TA := fun σ H Q => ∃ B F ρ s, Ok K B F ρ s σ H ∧ Run m s (PostH K B σ s F ρ H Q) (Er K mg Wx B σ)
abbrev DH (X : Cx) (Wx : WX) (es : List Expr) (m : M (List W)) : Prop := PA X es (HM X.K X.mg Wx m)
def resW (w : W) : M W := match w with
  | .own ds => Pure.pure (.own ds)
  | w => escW w
def hCons (m : M W) (r : M (List W)) : M (List W) := m >>= fun a => resW a >>= fun w => r >>= fun ws => Pure.pure (w :: ws)
theorem res_ok {K : PySem.W.Frag} {B : Base} {F F0 : Fz} {ρ ρ0 : List Addr} {s s0 : S} {σ : Sg} {H Hs : Hp} {v : V} {w : W} {ok : W → S → Prop} {er : Exc → S → Prop} (e : Ext s0 σ F0 ρ0 Hs s F ρ H) (k : Ok K B F ρ s σ H) (o : WOk K B F ρ s σ H v w) (f : Fresh Hs v w) (h : Run (resW w) s ok er) :
    ∃ F' s' w', Ok K B F' ρ s' σ H ∧ Ext s0 σ F0 ρ0 Hs s' F' ρ H ∧ WOk K B F' ρ s' σ H v w' ∧ Fresh Hs v w' ∧ (∀ i, w' ≠ .peek i) ∧ ok w' s' := by
  have other : Run (escW w) s ok er → ∃ F' s' w', Ok K B F' ρ s' σ H ∧ Ext s0 σ F0 ρ0 Hs s' F' ρ H ∧ WOk K B F' ρ s' σ H v w' ∧ Fresh Hs v w' ∧ (∀ i, w' ≠ .peek i) ∧ ok w' s' := fun h => by
    obtain ⟨F', s', w', k', e', o', st', h'⟩ := esc_ok k.sto e k o f h
    exact ⟨F', s', w', k', e', o', fresh_stable st', (fun i z => by rw [z] at st'; cases st'), h'⟩
  cases w with
  | own ds => exact ⟨F, s, _, k, e, o, f, (fun i z => by cases z), Run.ret h⟩
  | val d => exact other h
  | ref n => exact other h
  | scr ns => exact other h
  | fn x => exact other h
  | exc xx => exact other h
  | peek j => exact other h
theorem WHeld.mono {K : PySem.W.Frag} {B : Base} {F F' : Fz} {ρ ρ' : List Addr} {s s' : S} {σ : Sg} {H H' : Hp} {vs : List V} {ws : List W} (k : Ok K B F ρ s σ H) (x : Ext s σ F ρ H s' F' ρ' H') (h : WHeld K B F ρ s σ H vs ws) : WHeld K B F' ρ' s' σ H' vs ws := by
  induction h with
  | nil => exact .nil
  | cons a b c _ ih => exact .cons (a.mono k x) b c ih
theorem h_nil : DH X Wx [] aNil := pa_mono pa_nil fun σ H Q ⟨B, F, ρ, s, k, h⟩ => (Run.ret h) F ρ H [] .refl k .nil (fun j es a e => by simp at e)
theorem h_cons (ha : DE X Wx e m) (hr : DH X Wx es ma) (hs : starEach (e :: es) X.env = (false, eval e X.env) :: starEach es X.env := by rfl) : DH X Wx (e :: es) (hCons m ma) :=
  pa_mono (pa_cons ha hr hs) fun σ H Q ⟨B, F, ρ, s, k, h⟩ => by
    refine ⟨B, F, ρ, s, k, (Run.bind h).mono (fun w1 s1 _ h1 F1 ρ1 H1 x e1 k1 o1 f1 => ?_) fun _ _ _ e => e⟩
    obtain ⟨F2, s2, w2, k2, e2, o2, f2, np, h2⟩ := res_ok e1 k1 o1 f1 (Run.bind h1)
    refine ⟨B, F2, ρ1, s2, k2, (Run.bind h2).mono (fun ws s3 _ h3 F3 ρ3 H3 vs e3 k3 o3 f3 => ?_) fun _ _ _ e => e⟩
    refine (Run.ret h3) F3 ρ3 H3 _ (e2.trans e3 k2.sto) k3 (.cons (o2.mono k2 e3) np (fun j ds es a q1 q2 q3 q4 => ?_) o3) fun j es a q1 q2 => ?_
    · subst q1
      obtain ⟨b, us, z1, z2, _⟩ := o2
      rw [q3] at z1
      cases z1
      have := f3 j es a q2 q4
      rw [z2] at this; cases this
    · cases j with
      | zero =>
        simp at q1 q2
        subst q1
        exact f2 a q2
      | succ j => exact e2.th a (f3 j es a (by simpa using q1) (by simpa using q2))
def setAll : List Nat → List W → M Unit
  | [], [] => Pure.pure ()
  | i :: is, w :: ws => setW i w >>= fun _ => setAll is ws
  | _, _ => M.fail
def setManyS : Sg → List Nat → List V → Sg
  | σ, i :: is, v :: vs => setManyS (σ.set i (some v)) is vs
  | σ, _, _ => σ
def sPar (is : List Nat) (ma : M (List W)) : M SR := ma >>= fun ws => setAll is ws >>= fun _ => Pure.pure .next
theorem setAll_ok {K : PySem.W.Frag} {B : Base} {F : Fz} {ρ : List Addr} {H : Hp} {ok : Unit → S → Prop} {er : Exc → S → Prop} : ∀ {is : List Nat} {ws : List W} {vs : List V} {s : S} {σ : Sg}, Ok K B F ρ s σ H → WHeld K B F ρ s σ H vs ws → Run (setAll is ws) s ok er → is.length = vs.length ∧ ∃ s', Ok K B F ρ s' (setManyS σ is vs) H ∧ ok () s'
  | [], [], vs, s, σ, k, o, h => by cases o; exact ⟨rfl, s, k, h⟩
  | [], w :: ws, vs, s, σ, k, o, h => h.elim
  | i :: is, [], vs, s, σ, k, o, h => h.elim
  | i :: is, w :: ws, vs, s, σ, k, o, h => by
    cases o with
    | @cons v vs _ _ a b c d =>
      have so : SOk K B F ρ H v w := by
        cases w with
        | val d => exact a
        | ref n => exact a
        | scr ns => exact a
        | fn x => exact a
        | exc xx => exact a
        | peek j => exact (b j rfl).elim
        | own ds =>
          obtain ⟨a, us, z1, z2, z3, z4, z5, z6, z7⟩ := a
          exact ⟨a, us, z1, z2, z3, z4, z5, z7⟩
      have no : ∀ ds a, w = .own ds → v = .ref a → ¬ OwnedBy s σ a := fun ds a' e1 e2 => by
        subst e1
        obtain ⟨a, us, z1, z2, z3, z4, z5, z6, z7⟩ := a
        rw [z1] at e2
        cases e2
        exact z6
      obtain ⟨hi, k2, h2⟩ := set_ok k so no (Run.bind h)
      have held : ∀ {vs' : List V} {ws' : List W}, WHeld K B F ρ s σ H vs' ws' → (∀ (j : Nat) (ds es : List D) (a : Addr), w = .own ds → ws'[j]? = some (.own es) → v = .ref a → vs'[j]? ≠ some (.ref a)) → WHeld K B F ρ (s.setEnv i (some w)) (σ.set i (some v)) H vs' ws' := by
        intro vs' ws' hh
        induction hh with
        | nil => intro _; exact .nil
        | @cons v' vs' w' ws' a' b' c' d' ih =>
          intro c''
          refine .cons ?_ b' c' (ih fun j ds es a q1 q2 q3 q4 => c'' (j + 1) ds es a q1 (by simpa using q2) q3 (by simpa using q4))
          cases w' with
          | val d => exact a'
          | ref n => exact a'
          | scr ns => exact a'
          | fn x => exact a'
          | exc xx => exact a'
          | peek j => exact (b' j rfl).elim
          | own es =>
            obtain ⟨a, us, z1, z2, z3, z4, z5, z6, z7⟩ := a'
            refine ⟨a, us, z1, z2, z3, z4, z5, fun z => ?_, z7⟩
            obtain ⟨j, fs, y1, y2⟩ := z
            rcases env_set y1 with ⟨hj, y1⟩ | ⟨hj, y1⟩
            · cases y1
              subst hj
              rw [List.getElem?_set_self (by rw [← k.len]; exact hi)] at y2
              refine c'' 0 fs es _ rfl rfl ?_ (by rw [z1]; rfl)
              exact Option.some.inj (Option.some.inj y2)
            · rw [List.getElem?_set_ne (Ne.symm hj)] at y2
              exact z6 ⟨j, fs, y1, y2⟩
      obtain ⟨hl, s', k3, h3⟩ := setAll_ok k2 (held d c) h2
      exact ⟨by simp [hl], s', k3, h3⟩
theorem par_step {D : Ends} {σ : Sg} {H : Hp} {is : List Nat} (h : BM X.K X.mg Wx (sPar is ma) D σ H) : HM X.K X.mg Wx ma σ H fun vs H1 => is.length = vs.length ∧ D.nx (setManyS σ is vs) H1 := by
  obtain ⟨B, F, ρ, s, k, h⟩ := h
  refine ⟨B, F, ρ, s, k, (Run.bind h).mono (fun ws s1 _ h1 F1 ρ1 H1 vs e1 k1 o1 f1 => ?_) fun x s1 _ z F' ρ' H' cls d k' xo => z F' ρ' H' σ cls d k' xo⟩
  obtain ⟨hl, s2, k2, h2⟩ := setAll_ok k1 o1 (Run.bind h1)
  exact ⟨hl, (Run.ret h2) F1 ρ1 H1 _ (k.sx e1) k2⟩
theorem s_par (i j : Nat) {x y : Str} {a b : Expr} {px py pt : Pos} {kt k2 pt2} (hc : X.calm = true) (hN : X.N.Nodup) (ha : DH X Wx [a, b] ma) (hw : swappedStores [.Tuple [.Name x px, .Name y py] kt pt] (.Tuple [a, b] k2 pt2) X.env = pure (some [x, y]) := by rfl) (hi : X.N[i]? = some x := by rfl) (hj : X.N[j]? = some y := by rfl) (hij : i ≠ j := by decide)
    (hx : X.env.scope.names.lookup x = some .local := by rfl) (hy : X.env.scope.names.lookup y = some .local := by rfl)
    (hs : swapsWithSole [.Tuple [.Name x px, .Name y py] kt pt] (.Tuple [a, b] k2 pt2) pos.line X.env = pure false := by rfl) : DS X Wx (.Assign [.Tuple [.Name x px, .Name y py] kt pt] (.Tuple [a, b] k2 pt2) pos) (sPar [i, j] ma) :=
  ps_mono (ps_par hc hN hi hj hij hx hy ha hw hs) fun D σ H h => by
    obtain ⟨B, F, ρ, s, k, h⟩ := par_step h
    refine ⟨B, F, ρ, s, k, h.mono (fun ws s1 _ h1 F1 ρ1 H1 vs e1 k1 o1 f1 => ?_) fun _ _ _ e => e⟩
    obtain ⟨hl, q⟩ := h1 F1 ρ1 H1 vs e1 k1 o1 f1
    match vs, hl with
    | [v, w], _ => exact ⟨v, w, rfl, q⟩
theorem s_par3 (i j l : Nat) {x y z : Str} {a b c : Expr} {px py pz pt : Pos} {kt k2 pt2} (hc : X.calm = true) (hN : X.N.Nodup) (ha : DH X Wx [a, b, c] ma)
    (hw : swappedStores [.Tuple [.Name x px, .Name y py, .Name z pz] kt pt] (.Tuple [a, b, c] k2 pt2) X.env = pure (some [x, y, z]) := by rfl) (hi : X.N[i]? = some x := by rfl) (hj : X.N[j]? = some y := by rfl) (hl : X.N[l]? = some z := by rfl) (hij : i ≠ j := by decide) (hil : i ≠ l := by decide) (hjl : j ≠ l := by decide)
    (hx : X.env.scope.names.lookup x = some .local := by rfl) (hy : X.env.scope.names.lookup y = some .local := by rfl) (hz : X.env.scope.names.lookup z = some .local := by rfl)
    (hs : swapsWithSole [.Tuple [.Name x px, .Name y py, .Name z pz] kt pt] (.Tuple [a, b, c] k2 pt2) pos.line X.env = pure false := by rfl) : DS X Wx (.Assign [.Tuple [.Name x px, .Name y py, .Name z pz] kt pt] (.Tuple [a, b, c] k2 pt2) pos) (sPar [i, j, l] ma) :=
  ps_mono (ps_par3 hc hN hi hj hl hij hil hjl hx hy hz ha hw hs) fun D σ H h => by
    obtain ⟨B, F, ρ, s, k, h⟩ := par_step h
    refine ⟨B, F, ρ, s, k, h.mono (fun ws s1 _ h1 F1 ρ1 H1 vs e1 k1 o1 f1 => ?_) fun _ _ _ e => e⟩
    obtain ⟨hl, q⟩ := h1 F1 ρ1 H1 vs e1 k1 o1 f1
    match vs, hl with
    | [u, v, w], _ => exact ⟨u, v, w, rfl, q⟩
/-- the names of a tuple target, stored one by one -/
inductive Names_ (X : Cx) : List Expr → List Nat → Prop
  | nil : Names_ X [] []
  | cons {x : Str} {p : Pos} {es : List Expr} {is : List Nat} (i : Nat) (hi : X.N[i]? = some x) (hx : Loc X.env.scope x) (hf : X.fn x = true ∨ X.env.scope.names.lookup x = some .local)
      (hs : (assignEach (.Name x p :: es) X.env).map (·.2) = assign (.Name x p) X.env :: (assignEach es X.env).map (·.2)) : Names_ X es is → Names_ X (.Name x p :: es) (i :: is)
def gMany : List Nat → TGs := fun is vs σ H Q => is.length = vs.length ∧ Q (setManyS σ is vs) H
theorem names_g (hN : X.N.Nodup) {es : List Expr} {is : List Nat} (h : Names_ X es is) : PGs X es (gMany is) := by
  induction h with
  | nil =>
    refine pgs_mono pgs_nil fun vs σ H Q h => ?_
    obtain ⟨hl, q⟩ := h
    match vs, hl with
    | [], _ => exact ⟨rfl, q⟩
  | cons i hi hx hf hs _ ih =>
    refine pgs_mono (pgs_cons (pg_name hN hi hx hf) ih hs) fun vs σ H Q h => ?_
    obtain ⟨hl, q⟩ := h
    match vs, hl with
    | v :: vs, hl => exact ⟨v, vs, rfl, by simpa using hl, q⟩
/-- a, b, .. = x, y, .. by way of a tuple -/
theorem s_parT {ts : List Expr} {is : List Nat} {x1 kt n : Nat} {pt p1 : Pos} (hc : X.calm = true) (hN : X.N.Nodup) (hts : Names_ X ts is) (ha : DH X Wx es ma) (hnn : n = is.length := by rfl) (hn : (assignEach ts X.env).length = n := by rfl) (hst : (assignEach ts X.env).findIdx? (·.1) = none := by rfl)
    (hz : is.length ≤ 1000 := by decide) (hs : swapsWithSole [.Tuple ts kt pt] (.Tuple es x1 p1) pos.line X.env = pure false := by rfl) (hw : swappedStores [.Tuple ts kt pt] (.Tuple es x1 p1) X.env = pure none := by rfl) : DS X Wx (.Assign [.Tuple ts kt pt] (.Tuple es x1 p1) pos) (sPar is ma) :=
  ps_mono (ps_asg (pe_tup ha) (pg_tup hc (names_g hN hts) hn hst) hs hw) fun D σ H h => by
    obtain ⟨B, F, ρ, s, k, h⟩ := h
    refine ⟨B, F, ρ, s, k, (Run.bind h).mono (fun ws s1 _ h1 F1 ρ1 H1 vs e1 k1 o1 f1 => ?_) fun x s1 _ z F' ρ' H' cls d k' xo => z F' ρ' H' σ cls d k' xo⟩
    have hl := (setAll_ok k1 o1 (Run.bind h1)).1
    refine ⟨by rw [← hl, sizeLine_eq]; omega, fun p hp => ⟨p, vs, rfl, SqT.of upd_same, by rw [← hl, hnn], hl, ?_⟩⟩
    obtain ⟨_, s2, k2, h2⟩ := setAll_ok (k1.new (o := .tup vs) hp) (o1.mono k1 (Ext.new_ hp)) (Run.bind h1)
    exact (Run.ret h2) F1 ρ1 _ _ ((k.sx e1).trans ⟨fun _ z => z, stay_upd hp⟩) k2
end
end Z
/-! Z, part 7: lists that are changed, loops. -/
namespace Z
open PySem PySem.Spec PyProof.Rows L2

/-! ### a list is changed where it stands -/
def modSt {α : Type} (n : Nat) (f : List D → Option (List D × α)) (s : S) : Out S α := match (s.st[n]?).bind f with
  | some (ds, b) => .ok b { s with st := s.st.set n ds }
  | none => .fail
def modSlot {α : Type} (i : Nat) (f : List D → Option (List D × α)) (s : S) : Option (Option W) → Out S α
  | some (some (.own ds)) => (match f ds with
    | some (ds', b) => .ok b (s.setEnv i (some (.own ds')))
    | none => .fail)
  | some (some (.ref n)) => modSt n f s
  | _ => .fail
def modL {α : Type} (w : W) (f : List D → Option (List D × α)) : M α := fun s => match w with
  | .ref n => modSt n f s
  | .peek i => modSlot i f s s.env[i]?
  | _ => .fail
section
variable {K : PySem.W.Frag} {mg : Str → Option Value} {Wx : WX} {B : Base} {F F0 F' F1 F2 : Fz} {ρ ρ0 ρ' ρ1 ρ2 : List Addr} {s s0 s' s1 s2 : S} {σ σ' σ1 : Sg} {H Hs H' H1 H2 : Hp} {v : V} {w : W} {p : Addr} {o : HO} {d : D} {i : Nat} {is js : List Nat}
theorem stay_write {a : Addr} {vs vs' : List V} (h : H a = some (.lst vs)) (f : ¬ F a) : Stay F H (upd H a (.lst vs')) := fun b o e q => by
  have : b ≠ a := fun z => by
    subst z
    rcases q with q | q
    · exact f q
    · rw [h] at e; cases e; cases q
  rw [upd_ne this]; exact e
theorem Ok.ownWrite {ds ds' : List D} {a : Addr} {vs' : List V} (k : Ok K B F ρ s σ H) (e : s.env[i]? = some (some (.own ds))) (e1 : σ[i]? = some (some (.ref a))) (r : RpAll K F H vs' ds') : Ok K B F ρ (s.setEnv i (some (.own ds'))) σ (upd H a (.lst vs')) := by
  obtain ⟨v, e2, b, vs, e3, h1, h2, h3, h4, h5⟩ := k.env i _ e
  rw [e1] at e2
  cases e2
  cases e3
  have st : Stay F H (upd H a (.lst vs')) := stay_write h1 h3
  exact {
    len := by rw [← k.len]; exact List.length_set
    base := ⟨k.base.sub, k.base.rho, k.base.new, fun b o q n => by
      have : b ≠ a := fun z => by rw [z, h5] at q; cases q
      rw [upd_ne this]; exact k.base.keep b o q n, k.base.fz⟩
    trk := fun b f => by
      have : b ≠ a := fun z => h3 (z ▸ f)
      rw [upd_ne this]; exact k.trk b f
    sto := ⟨k.sto.len, k.sto.nd, fun n es q => by
      obtain ⟨b, us, q1, q2, q3, q4⟩ := k.sto.at_ n es q
      have : b ≠ a := fun z => h4 (z ▸ List.mem_of_getElem? q1)
      exact ⟨b, us, q1, q2, by rw [upd_ne this]; exact q3, q4.st st fun _ z => z⟩⟩
    env := fun j w q => by
      rcases env_set q with ⟨hj, q⟩ | ⟨hj, q⟩
      · cases q
        subst hj
        exact ⟨.ref a, e1, a, vs', rfl, upd_same, r.st st fun _ z => z, h3, h4, h5⟩
      · obtain ⟨v', q1, q2⟩ := k.env j w q
        refine ⟨v', q1, ?_⟩
        cases w with
        | val d => exact Rp.st q2 st fun _ z => z
        | own es =>
          obtain ⟨b, us, z1, z2, z3, z4, z5, z6⟩ := q2
          have : b ≠ a := fun z => by
            subst z1 z
            exact hj (k.sep j i es ds b q e q1 e1)
          exact ⟨b, us, z1, by rw [upd_ne this]; exact z2, z3.st st fun _ z => z, z4, z5, z6⟩
        | ref n => exact q2
        | peek j => exact q2
        | scr ns =>
          obtain ⟨b, z1, z2⟩ := q2
          exact ⟨b, z1, z2.mono st⟩
        | fn x => exact q2
        | exc xx => exact ExV.st q2 st fun _ z => z
    sep := fun j l ds1 es b q1 q2 q3 q4 => by
      have old : ∀ {j : Nat} {ds1 : List D}, (s.setEnv i (some (.own ds'))).env[j]? = some (some (.own ds1)) → ∃ ds2, s.env[j]? = some (some (.own ds2)) := fun {j ds1} q => by
        rcases env_set q with ⟨hj, q⟩ | ⟨hj, q⟩
        · rw [hj]; exact ⟨ds, e⟩
        · exact ⟨ds1, q⟩
      obtain ⟨_, g1⟩ := old q1
      obtain ⟨_, g2⟩ := old q2
      exact k.sep j l _ _ b g1 g2 q3 q4 }
theorem Ok.stoWrite {ds' : List D} {a : Addr} {vs' : List V} {n : Nat} (k : Ok K B F ρ s σ H) (e1 : ρ[n]? = some a) (r : RpAll K F H vs' ds') : Ok K B F ρ { s with st := s.st.set n ds' } σ (upd H a (.lst vs')) := by
  have ha : a ∈ ρ := List.mem_of_getElem? e1
  obtain ⟨h3, vs, h1⟩ := k.sto.mem ha
  have st : Stay F H (upd H a (.lst vs')) := stay_write h1 h3
  have hb : ∀ {b o}, B.H b = some o → b ∉ B.ρ → b ≠ a := fun {b o} q nq z => by
    subst z
    rcases k.base.new b ha with z | z
    · exact nq z
    · rw [q] at z; cases z
  exact {
    len := k.len
    base := ⟨k.base.sub, k.base.rho, k.base.new, fun b o q nq => by rw [upd_ne (hb q nq)]; exact k.base.keep b o q nq, k.base.fz⟩
    trk := fun b f => by
      have : b ≠ a := fun z => h3 (z ▸ f)
      rw [upd_ne this]; exact k.trk b f
    sto := ⟨by rw [List.length_set]; exact k.sto.len, k.sto.nd, fun m es q => by
      by_cases hm : n = m
      · subst hm
        have hl : n < s.st.length := by
          by_cases hl : n < s.st.length
          · exact hl
          · rw [List.getElem?_eq_none (by rw [List.length_set]; omega)] at q; cases q
        rw [List.getElem?_set_self hl] at q
        cases q
        exact ⟨a, vs', e1, h3, upd_same, r.st st fun _ z => z⟩
      · rw [List.getElem?_set_ne hm] at q
        obtain ⟨b, us, q1, q2, q3, q4⟩ := k.sto.at_ m es q
        have : b ≠ a := fun z => by
          subst z
          exact hm (nodup_ix' k.sto.nd e1 q1)
        exact ⟨b, us, q1, q2, by rw [upd_ne this]; exact q3, q4.st st fun _ z => z⟩⟩
    env := fun j w q => by
      obtain ⟨v', q1, q2⟩ := k.env j w q
      refine ⟨v', q1, ?_⟩
      cases w with
      | val d => exact Rp.st q2 st fun _ z => z
      | own es =>
        obtain ⟨b, us, z1, z2, z3, z4, z5, z6⟩ := q2
        have : b ≠ a := fun z => z5 (z ▸ ha)
        exact ⟨b, us, z1, by rw [upd_ne this]; exact z2, z3.st st fun _ z => z, z4, z5, z6⟩
      | ref n => exact q2
      | peek j => exact q2
      | scr ns =>
        obtain ⟨b, z1, z2⟩ := q2
        exact ⟨b, z1, z2.mono st⟩
      | fn x => exact q2
      | exc xx => exact ExV.st q2 st fun _ z => z
    sep := k.sep }
where
  nodup_ix' {l : List Addr} (hN : l.Nodup) {i j : Nat} {x : Addr} (a : l[i]? = some x) (b : l[j]? = some x) : i = j := by
    obtain ⟨h1, e1⟩ := List.getElem?_eq_some_iff.mp a
    obtain ⟨h2, e2⟩ := List.getElem?_eq_some_iff.mp b
    exact (List.getElem_inj hN).mp (e1.trans e2.symm)
theorem ext_write {a : Addr} {vs vs' : List V} (h : H a = some (.lst vs)) (hm : a ∈ ρ ∨ OwnedBy s σ a) (ow : ∀ b, OwnedBy s' σ b → OwnedBy s σ b) : Ext s σ F ρ H s' F ρ (upd H a (.lst vs')) :=
  ⟨fun _ z => z, ⟨[], by simp⟩, fun _ z => .inl z, fun b o e n1 n2 => by
    have : b ≠ a := fun z => by
      subst z
      exact hm.elim n1 n2
    rw [upd_ne this]; exact e, fun b e => upd_none e, fun _ z => .inl z, ow⟩
theorem mod_ok {α : Type} {f : List D → Option (List D × α)} {ok : α → S → Prop} {er : Exc → S → Prop} (k : Ok K B F ρ s σ H) (o : WOk K B F ρ s σ H v w) (h : Run (modL w f) s ok er) :
    ∃ a vs ds ds' b, v = .ref a ∧ H a = some (.lst vs) ∧ RpAll K F H vs ds ∧ f ds = some (ds', b) ∧ ∀ vs', RpAll K F H vs' ds' → ∃ s', Ok K B F ρ s' σ (upd H a (.lst vs')) ∧ Ext s σ F ρ H s' F ρ (upd H a (.lst vs')) ∧ SX F H F (upd H a (.lst vs')) ∧ ok b s' := by
  have stc : ∀ {n : Nat} {a : Addr}, ρ[n]? = some a → v = .ref a → Run (modSt n f) s ok er → ∃ a vs ds ds' b, v = .ref a ∧ H a = some (.lst vs) ∧ RpAll K F H vs ds ∧ f ds = some (ds', b) ∧ ∀ vs', RpAll K F H vs' ds' → ∃ s', Ok K B F ρ s' σ (upd H a (.lst vs')) ∧ Ext s σ F ρ H s' F ρ (upd H a (.lst vs')) ∧ SX F H F (upd H a (.lst vs')) ∧ ok b s' := by
    intro n a e1 e2 h
    unfold Run modSt at h
    cases q : s.st[n]? with
    | none => simp only [q, Option.bind_none] at h
    | some ds =>
      simp only [q, Option.bind_some] at h
      obtain ⟨b, us, q1, q2, q3, q4⟩ := k.sto.at_ n ds q
      rw [e1] at q1
      cases q1
      cases q5 : f ds with
      | none => simp only [q5] at h
      | some r =>
        obtain ⟨ds', b'⟩ := r
        simp only [q5] at h
        have h' := h
        exact ⟨a, us, ds, ds', b', e2, q3, q4, q5, fun vs' r => ⟨_, k.stoWrite e1 r, ext_write q3 (.inl (List.mem_of_getElem? e1)) fun _ z => z, ⟨fun _ z => z, stay_write q3 q2⟩, h'⟩⟩
  cases w with
  | ref n =>
    obtain ⟨a, e1, e2⟩ := o
    exact stc e2 e1 h
  | peek i =>
    have o' : σ[i]? = some (some v) := o
    have h : Run (fun _ => modSlot i f s s.env[i]?) s ok er := h
    cases q : s.env[i]? with
    | none => rw [q] at h; exact h.elim
    | some oo =>
      cases oo with
      | none => rw [q] at h; exact h.elim
      | some w' =>
        rw [q] at h
        cases w' with
        | ref n =>
          obtain ⟨v', e1, a, e2, e3⟩ := k.env i _ q
          rw [o'] at e1; cases e1
          exact stc e3 e2 h
        | own ds =>
          obtain ⟨v', e1, a, vs, e2, h1, h2, h3, h4, h5⟩ := k.env i _ q
          rw [o'] at e1; cases e1
          subst e2
          have h' : Run (fun _ => modSlot i f s (some (some (.own ds)))) s ok er := h
          unfold Run modSlot at h'
          cases q5 : f ds with
          | none => simp only [q5] at h'
          | some r =>
            obtain ⟨ds', b'⟩ := r
            simp only [q5] at h'
            refine ⟨a, vs, ds, ds', b', rfl, h1, h2, q5, fun vs' r => ⟨_, k.ownWrite q o' r, ext_write h1 (.inr ⟨i, ds, q, o'⟩) (fun b z => ?_), ⟨fun _ z => z, stay_write h1 h3⟩, h'⟩⟩
            obtain ⟨j, es, z1, z2⟩ := z
            rcases env_set z1 with ⟨hj, z1⟩ | ⟨hj, z1⟩
            · subst hj; exact ⟨j, ds, q, z2⟩
            · exact ⟨j, es, z1, z2⟩
        | val d => exact h.elim
        | peek j => exact h.elim
        | scr ns => exact h.elim
        | fn x => exact h.elim
        | exc xx => exact h.elim
  | val d => exact h.elim
  | own ds => exact h.elim
  | scr ns => exact h.elim
  | fn x => exact h.elim
  | exc xx => exact h.elim
end
/-- what a method of lists asks of its object -/
def lookL (w : W) : M Unit := look w >>= fun d => match d with
  | .list _ => Pure.pure ()
  | _ => M.fail
def eAppend (mo me : M W) : M W := mo >>= fun w => lookL w >>= fun _ => me >>= fun x => toVal x >>= fun d => modL w (fun ds => if ds.length < sizeLine then some (ds ++ [d], ()) else none) >>= fun _ => Pure.pure (.val .none)
def ePopAt (mo me : M W) : M W := mo >>= fun w => lookL w >>= fun _ => me >>= fun x => look x >>= fun d => modL w (fun ds => match d with
  | .int i => if -(2 ^ 63) ≤ i ∧ i < 2 ^ 63 then (seqIndex? i ds.length).bind fun j => (ds[j]?).map fun e => (ds.eraseIdx j, e) else none
  | _ => none) >>= fun e => Pure.pure (.val e)
def tSubG (mo mi : M W) (d : D) : M Unit := mo >>= fun w => mi >>= fun x => look x >>= fun k => modL w (fun ds => match k with
  | .int k => (ixN ds.length k).map fun j => (ds.set j d, ())
  | _ => none)
section
variable {X : Cx} {Wx : WX} {pos apos cpos : Pos} {o e : Expr} {es : List Expr} {m mo me mi : M W}
theorem lookL_ok {K : PySem.W.Frag} {B : Base} {F : Fz} {ρ : List Addr} {s : S} {σ : Sg} {H : Hp} {v : V} {w : W} {β : Type} {g : Unit → M β} {ok : β → S → Prop} {er : Exc → S → Prop} (k : Ok K B F ρ s σ H) (o : WOk K B F ρ s σ H v w) (h : Run (lookL w >>= g) s ok er) : tyV K "list" v H ∧ Run (g ()) s ok er := by
  obtain ⟨d, e1, h⟩ := Run.look (Run.bind h)
  cases d with
  | list ds =>
    obtain ⟨a, vs, rfl, q, _⟩ := (content_ok k o e1).1.list
    exact ⟨.inl ⟨rfl, vs, q⟩, h⟩
  | _ => exact h.elim
theorem i_append (ho : DE X Wx o mo) (he : DE X Wx e me) (hbase : attributeBase o "append" X.env (eval o X.env) = eval o X.env := by rfl)
    (hfew : ((backTo cpos (starEach [e] X.env)).all (fun x => !x.1) && (backToKw cpos (keywordEach [] X.env)).all (fun x => x.1.isSome) && decide ([e].length + ([] : List Keyword).length + (if ([] : List Keyword).isEmpty then 0 else 1) < 30)) = true := by rfl)
    (hline : (apos.endLine == cpos.line) = true := by rfl) (hs : starEach [e] X.env = (false, eval e X.env) :: starEach [] X.env := by rfl) (hpl : (backTo cpos (starEach [] X.env)).any (·.1) = false := by rfl) :
    DE X Wx (.Call (.Attribute o "append" apos) [e] [] cpos) (eAppend mo me) :=
  pe_mono (pe_bm PySem.F.plainAttrs_list PySem.F.slot_list_append PySem.F.type_list_append mt_append ho (pa_cons he pa_nil hs) hbase hfew hline hs hpl) fun σ H Q ⟨B, F, ρ, s, k, h⟩ => by
    refine ⟨B, F, ρ, s, k, (Run.bind h).mono (fun w1 s1 _ h1 F1 ρ1 H1 x e1 k1 o1 _ => ?_) fun _ _ _ e => e⟩
    obtain ⟨ty, h1⟩ := lookL_ok k1 o1 h1
    refine ⟨ty, B, F1, ρ1, s1, k1, (Run.bind h1).mono (fun w2 s2 _ h2 F2 ρ2 H2 y e2 k2 o2 f2 => ?_) fun _ _ _ e => e⟩
    obtain ⟨F3, s3, d, k3, e3, rd, h3⟩ := val_ok e2 k2 o2 f2 (Run.bind h2)
    obtain ⟨a, vs, ds, ds', b, ea, h4, r4, q4, w4⟩ := mod_ok k3 (o1.mono k1 e3) (Run.bind h3)
    split at q4
    · rename_i hz
      cases q4
      refine ⟨a, vs, y, ea, rfl, h4, by rw [r4.length]; exact hz, ?_⟩
      obtain ⟨s5, k5, e5, _, h5⟩ := w4 _ (r4.append (.cons rd .nil))
      exact (Run.ret h5) F3 ρ2 _ .non ((e1.trans e3 k1.sto).trans e5 k3.sto) k5 .non trivial
    · cases q4
theorem i_popAt (ho : DE X Wx o mo) (he : DE X Wx e me) (hbase : attributeBase o "pop" X.env (eval o X.env) = eval o X.env := by rfl)
    (hfew : ((backTo cpos (starEach [e] X.env)).all (fun x => !x.1) && (backToKw cpos (keywordEach [] X.env)).all (fun x => x.1.isSome) && decide ([e].length + ([] : List Keyword).length + (if ([] : List Keyword).isEmpty then 0 else 1) < 30)) = true := by rfl)
    (hline : (apos.endLine == cpos.line) = true := by rfl) (hs : starEach [e] X.env = (false, eval e X.env) :: starEach [] X.env := by rfl) (hpl : (backTo cpos (starEach [] X.env)).any (·.1) = false := by rfl) :
    DE X Wx (.Call (.Attribute o "pop" apos) [e] [] cpos) (ePopAt mo me) :=
  pe_mono (pe_bm PySem.F.plainAttrs_list PySem.F.slot_list_pop PySem.F.type_list_pop mt_popAt ho (pa_cons he pa_nil hs) hbase hfew hline hs hpl) fun σ H Q ⟨B, F, ρ, s, k, h⟩ => by
    refine ⟨B, F, ρ, s, k, (Run.bind h).mono (fun w1 s1 _ h1 F1 ρ1 H1 x e1 k1 o1 _ => ?_) fun _ _ _ e => e⟩
    obtain ⟨ty, h1⟩ := lookL_ok k1 o1 h1
    refine ⟨ty, B, F1, ρ1, s1, k1, (Run.bind h1).mono (fun w2 s2 _ h2 F2 ρ2 H2 y e2 k2 o2 f2 => ?_) fun _ _ _ e => e⟩
    obtain ⟨d, ed, h2⟩ := Run.look h2
    obtain ⟨a, vs, ds, ds', b, ea, h4, r4, q4, w4⟩ := mod_ok k2 (o1.mono k1 e2) (Run.bind h2)
    split at q4
    · rename_i i
      split at q4
      · rename_i hz
        cases q5 : seqIndex? i ds.length with
        | none => rw [q5] at q4; cases q4
        | some j =>
          rw [q5] at q4
          have q4' : (ds[j]?).map (fun e => (ds.eraseIdx j, e)) = some (ds', b) := q4
          cases q6 : ds[j]? with
          | none => rw [q6] at q4'; cases q4'
          | some z =>
            rw [q6] at q4'
            cases q4'
            obtain ⟨u, hu, ru⟩ := r4.get q6
            have ey := (content_ok k2 o2 ed).1.int
            subst ey
            refine ⟨a, vs, i, j, u, ea, rfl, h4, hz.1, hz.2, by rw [r4.length]; exact q5, hu, ?_⟩
            obtain ⟨s5, k5, e5, x5, h5⟩ := w4 _ (r4.eraseIdx j)
            exact (Run.ret h5) F2 ρ2 _ u ((e1.trans e2 k1.sto).trans e5 k2.sto) k5 (x5.rp ru) trivial
      · cases q4
    · cases q4
theorem g_sub (ho : DE X Wx o mo) (hi : DE X Wx e mi) (ha : ∀ v, assign (.Subscript o e pos) X.env v = (do
      let ov ← holding [v] (eval o X.env)
      let iv ← holding [v, ov] (eval e X.env)
      standAt pos
      holding [v, ov, iv] (setItem ov iv v)
      release [v, ov, iv] []) := by intro _; rfl) : DG X Wx [] (.Subscript o e pos) (tSubG mo mi) :=
  pg_mono (pg_sub ho hi set_list ha) fun v σ H Q ⟨B, F, ρ, s, d, k, rp, h⟩ => by
    refine ⟨B, F, ρ, s, k, (Run.bind h).mono (fun w1 s1 _ h1 F1 ρ1 H1 x e1 k1 o1 _ => ?_) fun x s1 _ z F' ρ' H' cls d k' xo => z F' ρ' H' σ cls d k' xo⟩
    refine ⟨B, F1, ρ1, s1, k1, (Run.bind h1).mono (fun w2 s2 _ h2 F2 ρ2 H2 y e2 k2 o2 f2 => ?_) fun x s1 _ z F' ρ' H' cls d k' xo => z F' ρ' H' σ cls d k' xo⟩
    obtain ⟨kd, ek, h2⟩ := Run.look h2
    have x12 := (k.sx e1).trans (k1.sx e2)
    obtain ⟨a, vs, ds, ds', b, ea, h4, r4, q4, w4⟩ := mod_ok k2 (o1.mono k1 e2) h2
    split at q4
    · rename_i i
      cases q5 : ixN ds.length i with
      | none => rw [q5] at q4; cases q4
      | some j =>
        rw [q5] at q4
        cases q4
        have ey := (content_ok k2 o2 ek).1.int
        subst ey
        refine ⟨a, vs, i, j, ea, rfl, h4, by rw [r4.length]; exact q5, ?_⟩
        obtain ⟨s5, k5, e5, x5, h5⟩ := w4 _ (r4.set j (x12.rp rp))
        exact h5 F2 ρ2 _ σ (((e1.trans e2 k1.sto).trans e5 k2.sto).gx) .refl k5
    · cases q4
end
/-! ### what is gone through -/
def WalkD (K : PySem.W.Frag) (J : It) (ds : List D) (F1 : Fz) (H1 : Hp) : Prop := ∃ G Y, Walk J ds.length G Y ∧ (∀ F H, SX F1 H1 F H → G H) ∧
  ∀ i F H x H' d, SX F1 H1 F H → ds[i]? = some d → Y i H x H' → (H' = H ∨ ∃ p o, H p = none ∧ H' = upd H p o) ∧ Rp K F H' x d
def SI (K : PySem.W.Frag) (mg : Str → Option Value) (Wx : WX) (m : M (List D)) : TI := fun σ H R => ∃ B F ρ s, Ok K B F ρ s σ H ∧ Run m s (fun ds s' => ∀ F' ρ' H' J, Ext s σ F ρ H s' F' ρ' H' → Ok K B F' ρ' s' σ H' → WalkD K J ds F' H' → R J H') (Er K mg Wx B σ)
abbrev DI (X : Cx) (Wx : WX) (tg it : Expr) (m : M (List D)) : Prop := PI X tg it (SI X.K X.mg Wx m)
theorem pi_mono {X : Cx} {tg e : Expr} {t t' : TI} (h : PI X tg e t) (k : ∀ σ H R, t' σ H R → t σ H R) : PI X tg e t' := ⟨fun pins s σ H R I q => h.run pins s σ H R I (k _ _ _ q)⟩
theorem pi_or {X : Cx} {tg e : Expr} {t t' : TI} (h : PI X tg e t) (h' : PI X tg e t') : PI X tg e (fun σ H R => t σ H R ∨ t' σ H R) := ⟨fun pins s σ H R I q => q.elim (h.run pins s σ H R I) (h'.run pins s σ H R I)⟩
def itemsD : W → Option (List D)
  | .val (.list ds) => some ds
  | .val (.tuple ds) => some ds
  | .scr ns => some (ns.map .int)
  | _ => none
def srcV (m : M W) : M (List D) := m >>= fun w => escW w >>= fun w => ofO (itemsD w)
section
variable {K : PySem.W.Frag} {F F1 : Fz} {H H1 : Hp} {a : Addr} {vs : List V} {ds : List D}
theorem walkD_list (f : F1 a) (e : H1 a = some (.lst vs)) (r : RpAll K F1 H1 vs ds) : WalkD K (Itl K a) ds F1 H1 :=
  ⟨_, _, by rw [← r.length]; exact walk_list, fun F H x => SqL.of (x.stay a _ e (.inl f)), fun i F H x H' d sx ed y => by
    obtain ⟨v, h1, h2⟩ := r.get ed
    obtain ⟨y1, y2⟩ := y
    rw [h1] at y2
    cases y2
    subst y1
    exact ⟨.inl rfl, sx.rp h2⟩⟩
theorem walkD_tup (e : SqT K H1 a vs) (r : RpAll K F1 H1 vs ds) : WalkD K (Itt K a) ds F1 H1 :=
  ⟨_, _, by rw [← r.length]; exact walk_tup, fun F H x => sqT_stay x.stay e, fun i F H x H' d sx ed y => by
    obtain ⟨v, h1, h2⟩ := r.get ed
    obtain ⟨y1, y2⟩ := y
    rw [h1] at y2
    cases y2
    subst y1
    exact ⟨.inl rfl, sx.rp h2⟩⟩
theorem walkD_scr {ns : List Int} (e : ScrAt K H1 a ns) : WalkD K (Itl K a) (ns.map .int) F1 H1 := by
  refine ⟨fun H => SqL K H a (ns.map V.int), YAt (ns.map V.int), ?_, fun F H x => (e.mono x.stay).sq, fun i F H x H' d sx ed y => ?_⟩
  · have h := walk_list (K := K) (a := a) (xs := ns.map V.int)
    rw [List.length_map] at h ⊢
    exact h
  · obtain ⟨y1, y2⟩ := y
    subst y1
    rw [List.getElem?_map] at y2 ed
    cases q : ns[i]? with
    | none => rw [q] at ed; cases ed
    | some n =>
      rw [q] at y2 ed
      cases y2
      cases ed
      exact ⟨.inl rfl, .int n⟩
end
section
variable {X : Cx} {Wx : WX} {tg e : Expr} {m : M W}
theorem d_val (he : DE X Wx e m) : DI X Wx tg e (srcV m) := pi_mono (pi_or (pi_list he) (pi_tup he)) fun σ H R ⟨B, F, ρ, s, k, h⟩ => by
  have h1 := Run.bind h
  unfold Run at h1
  cases q : m s with
  | fail => rw [q] at h1; exact h1.elim
  | err x s1 =>
    rw [q] at h1
    refine .inl ⟨B, F, ρ, s, k, ?_⟩
    unfold Run
    rw [q]
    exact h1
  | ok w s1 =>
    rw [q] at h1
    have h2 : Run (escW w >>= fun w => ofO (itemsD w)) s1 _ _ := h1
    have h3 := Run.bind h2
    unfold Run at h3
    cases q2 : escW w s1 with
    | fail => rw [q2] at h3; exact h3.elim
    | err x s2 =>
      rw [q2] at h3
      exfalso
      cases w with
      | peek i =>
        have q2' : escSlot i s1 s1.env[i]? = .err x s2 := q2
        unfold escSlot at q2'
        split at q2' <;> cases q2'
      | _ => cases q2
    | ok w2 s2 =>
      rw [q2] at h3
      obtain ⟨ds, e3, h4⟩ := Run.ofO h3
      have step : ∀ {P : V → Hp → Prop}, (∀ F' ρ' H' x, Ok X.K B F' ρ' s2 σ H' → Ext s σ F ρ H s2 F' ρ' H' → WOk X.K B F' ρ' s2 σ H' x w2 → P x H') → EM X.K X.mg Wx m σ H P := fun {P} hp => by
        refine ⟨B, F, ρ, s, k, ?_⟩
        unfold Run
        rw [q]
        intro F1 ρ1 H1 x e1 k1 o1 f1
        obtain ⟨F', s', w', k', e', o', _, hq⟩ := esc_ok (ok := fun w s => w = w2 ∧ s = s2) (er := fun _ _ => False) k1.sto e1 k1 o1 f1 (by unfold Run; rw [q2]; exact ⟨rfl, rfl⟩)
        obtain ⟨rfl, rfl⟩ := hq
        exact hp F' ρ1 H1 x k' e' o'
      cases w2 with
      | val d =>
        cases d with
        | list ds' =>
          cases e3
          refine .inl (step fun F' ρ' H' x k' e' o' => ?_)
          cases o' with
          | lst f el r => exact ⟨_, rfl, ⟨_, SqL.of el⟩, h4 F' ρ' H' _ e' k' (walkD_list f el r)⟩
        | tuple ds' =>
          cases e3
          refine .inr (step fun F' ρ' H' x k' e' o' => ?_)
          cases o' with
          | tup el r => exact ⟨_, rfl, ⟨_, el⟩, h4 F' ρ' H' _ e' k' (walkD_tup el r)⟩
        | _ => cases e3
      | scr ns =>
        cases e3
        refine .inl (step fun F' ρ' H' x k' e' o' => ?_)
        obtain ⟨a, rfl, sc⟩ := o'
        exact ⟨_, rfl, ⟨_, sc.sq⟩, h4 F' ρ' H' _ e' k' (walkD_scr sc)⟩
      | _ => cases e3
/-! ### for, while -/
def loopF (g : D → M Unit) (b : M SR) : List D → M SR
  | [] => Pure.pure .next
  | d :: ds => g d >>= fun _ => b >>= fun r => match r with
    | .next => loopF g b ds
    | .cont => loopF g b ds
    | .brk => Pure.pure .next
    | .ret w => Pure.pure (.ret w)
def sFor (src : M (List D)) (g : D → M Unit) (b : M SR) : M SR := src >>= fun ds => loopF g b ds
def whileF (c : M Bool) (b : M SR) : Nat → M SR
  | 0 => M.fail
  | n + 1 => c >>= fun t => if t = true then b >>= fun r => (match r with
    | .next => whileF c b n
    | .cont => whileF c b n
    | .brk => Pure.pure .next
    | .ret w => Pure.pure (.ret w)) else Pure.pure .next
variable {pos : Pos} {body : List Stmt} {b : M SR} {src : M (List D)} {g : D → M Unit} {is : List Nat} {c : Expr} {c1 : M Bool}
theorem s_for {iter : Expr} (hp : PassesOwn (model X.prog X.w) X.A X.env X.xe) (hc : X.calm = true) (hi : DI X Wx tg iter src) (hg : DG X Wx is tg g) (hb : DB X Wx body b) (hs : ∀ x, foldedSetIterable iter X.env x = pure x := by intro _; rfl) : DS X Wx (.For tg iter body [] pos) (sFor src g b) :=
  ps_mono (ps_for hp hc hi hg hb hs) fun D σ H ⟨B, F, ρ, s, k, h⟩ => by
    refine ⟨B, F, ρ, s, k, (Run.bind h).mono (fun ds s1 _ h1 F1 ρ1 H1 J e1 k1 wd => ?_) fun x s1 _ z F' ρ' H' cls d k' xo => z F' ρ' H' σ cls d k' xo⟩
    obtain ⟨G, Y, wk, hG, hY⟩ := wd
    have x01 := k.sx e1
    refine for_it wk (fun i σ' H' => ∃ F' ρ' s', SX F1 H1 F' H' ∧ Ok X.K B F' ρ' s' σ' H' ∧ Run (loopF g b (ds.drop i)) s' (BEnd X.K B F H D) (BEr X.K X.mg Wx B)) ⟨F1, ρ1, s1, .refl, k1, h1⟩ (fun i σ' H' _ ⟨F', ρ', s', x', _⟩ => hG F' H' x') (fun i x σ' H' H2 hi ⟨F', ρ', s', x', k', h'⟩ y => ?_) fun σ' H' ⟨F', ρ', s', x', k', h'⟩ => ?_
    · have ed : ds[i]? = some ds[i] := List.getElem?_eq_getElem hi
      obtain ⟨hH, rp⟩ := hY i F' H' x H2 _ x' ed y
      rw [List.drop_eq_getElem_cons hi] at h'
      have kk : Ok X.K B F' ρ' s' σ' H2 ∧ SX F' H' F' H2 := by
        rcases hH with rfl | ⟨p, o, hn, rfl⟩
        · exact ⟨k', .refl⟩
        · exact ⟨k'.new hn, fun _ z => z, stay_upd hn⟩
      obtain ⟨k2, x2⟩ := kk
      refine ⟨B, F', ρ', s', ds[i], k2, rp, (Run.bind h').mono (fun _ s3 _ h3 F3 ρ3 H3 σ3 x3 y3 k3 => ?_) fun _ _ _ e => e⟩
      refine ⟨B, F3, ρ3, s3, k3, (Run.bind h3).mono (fun r s4 _ h4 F4 ρ4 H4 σ4 x4 k4 => ?_) fun _ _ _ e => e⟩
      have xx := ((x'.trans x2).trans (k2.gsx x3)).trans x4
      cases r with
      | next => exact ⟨F4, ρ4, s4, xx, k4, h4⟩
      | cont => exact ⟨F4, ρ4, s4, xx, k4, h4⟩
      | brk => exact h4 F4 ρ4 H4 σ4 (x01.trans xx) k4
      | ret w => exact h4 F4 ρ4 H4 σ4 (x01.trans xx) k4
    · rw [List.drop_length] at h'
      exact h' F' ρ' H' σ' (x01.trans x') k'
theorem s_while (n : Nat) (hp : PassesOwn (model X.prog X.w) X.A X.env X.xe) (hc : DC X Wx c c1) (hb : DB X Wx body b) : DS X Wx (.While c body [] pos) (whileF c1 b n) :=
  ps_mono (ps_while hp hc hb) fun D σ H ⟨B, F, ρ, s, k, h⟩ => by
    refine ⟨fun m σ' H' => ∃ F' ρ' s', SX F H F' H' ∧ Ok X.K B F' ρ' s' σ' H' ∧ Run (whileF c1 b m) s' (BEnd X.K B F H D) (BEr X.K X.mg Wx B), ⟨n, F, ρ, s, .refl, k, h⟩, fun m σ' H' ⟨F', ρ', s', x', k', h'⟩ => ?_⟩
    cases m with
    | zero => exact h'.elim
    | succ m =>
      refine ⟨B, F', ρ', s', k', (Run.bind h').mono (fun t s1 _ h1 F1 ρ1 H1 e1 k1 => ?_) fun x s1 _ z F' ρ' H' cls d k' xo => z F' ρ' H' σ' cls d k' xo⟩
      have x1 := x'.trans (k'.sx e1)
      cases t with
      | false => exact iteF ((Run.ret (er := BEr X.K X.mg Wx B) h1) F1 ρ1 H1 σ' x1 k1)
      | true =>
        refine iteT ⟨fun σ' H' => ∃ F' ρ' s', SX F H F' H' ∧ Ok X.K B F' ρ' s' σ' H' ∧ Run (whileF c1 b m) s' (BEnd X.K B F H D) (BEr X.K X.mg Wx B), fun σ2 H2 hh => ⟨m, Nat.lt_succ_self _, hh⟩, ?_⟩
        refine ⟨B, F1, ρ1, s1, k1, (Run.bind h1).mono (fun r s4 _ h4 F4 ρ4 H4 σ4 x4 k4 => ?_) fun _ _ _ e => e⟩
        cases r with
        | next => exact ⟨F4, ρ4, s4, x1.trans x4, k4, h4⟩
        | cont => exact ⟨F4, ρ4, s4, x1.trans x4, k4, h4⟩
        | brk => exact h4 F4 ρ4 H4 σ4 (x1.trans x4) k4
        | ret w => exact h4 F4 ρ4 H4 σ4 (x1.trans x4) k4
end
end Z
/-! Z, part 8: list comprehensions. -/
namespace Z
open PySem PySem.Spec PyProof.Rows L2

def wipeE : List (Option W) → List Nat → List (Option W)
  | env, [] => env
  | env, v :: vs => (wipeE env vs).set v none
def S.wipe (s : S) (vs : List Nat) : S := { s with env := wipeE s.env vs }
def restE : List (Option W) → List (Option W) → List Nat → List (Option W)
  | env, _, [] => env
  | env, o, v :: vs => (restE env o vs).set v ((o[v]?).getD none)
def S.rest (s o : S) (vs : List Nat) : S := { s with env := restE s.env o.env vs }
def ownFree (s : S) (vs : List Nat) : Bool := vs.all fun v => match s.env[v]? with
  | some (some (.own _)) => false
  | _ => true
def nE {α : Type} (m : M α) : M α := fun s => match m s with
  | .ok a s' => .ok a s'
  | _ => .fail
def wipeM (vs : List Nat) : M Unit := fun s => .ok () (s.wipe vs)
def compLoop (vs : List Nat) (g : D → M Unit) (c : M Bool) (e : M W) : List D → List D → M (List D)
  | [], acc => Pure.pure acc
  | d :: ds, acc => nE (g d) >>= fun _ => nE c >>= fun b => if b = true then nE e >>= fun w => toVal w >>= fun y => if acc.length < sizeLine then wipeM vs >>= fun _ => compLoop vs g c e ds (acc ++ [y]) else M.fail else wipeM vs >>= fun _ => compLoop vs g c e ds acc
/-- [e for target in source if c] -/
def lcM (vs : List Nat) (body : M (List D)) : M W := fun s => if ownFree s vs = true then (match body (s.wipe vs) with
  | .ok r s' => .ok (.own r) (s'.rest s vs)
  | _ => .fail) else .fail
def eLc (vs : List Nat) (src : M (List D)) (g : D → M Unit) (c : M Bool) (e : M W) : M W := src >>= fun ds => lcM vs (compLoop vs g c e ds [])
def cTrue : M Bool := Pure.pure true
section
variable {K : PySem.W.Frag} {mg : Str → Option Value} {Wx : WX} {B : Base} {F F0 F' F1 F2 : Fz} {ρ ρ0 ρ' ρ1 ρ2 : List Addr} {s s0 s' s1 s2 : S} {σ σ' σ1 σ2 : Sg} {H Hs H' H1 H2 : Hp} {v : V} {w : W} {p : Addr} {o : HO} {d : D} {i : Nat} {is js vs : List Nat}
theorem Run.nE {α : Type} {m : M α} {ok : α → S → Prop} {er er' : Exc → S → Prop} (h : Run (Z.nE m) s ok er) : Run m s ok er' := by
  unfold Run Z.nE at h
  unfold Run
  cases q : m s with
  | fail => rw [q] at h; exact h.elim
  | ok a s' => rw [q] at h; exact h
  | err x s' => rw [q] at h; exact h.elim
theorem wipeE_length (env : List (Option W)) : ∀ vs : List Nat, (wipeE env vs).length = env.length
  | [] => rfl
  | v :: vs => by unfold wipeE; rw [List.length_set, wipeE_length env vs]
theorem wipeE_get {env : List (Option W)} {w : W} : ∀ {vs : List Nat}, (wipeE env vs)[i]? = some (some w) → i ∉ vs ∧ env[i]? = some (some w)
  | [], h => ⟨by simp, h⟩
  | v :: vs, h => by
    have h : ((wipeE env vs).set v none)[i]? = some (some w) := h
    rcases env_set h with ⟨_, h⟩ | ⟨hi, h⟩
    · cases h
    · obtain ⟨h1, h2⟩ := wipeE_get h
      exact ⟨by simp [hi, h1], h2⟩
theorem wipeS_get : ∀ {vs : List Nat}, i ∉ vs → (L2.wipe σ vs)[i]? = σ[i]?
  | [], _ => rfl
  | v :: vs, h => by
    have hv : v ≠ i := fun z => h (by rw [z]; exact List.mem_cons_self)
    have hr : i ∉ vs := fun z => h (List.mem_cons_of_mem _ z)
    show ((L2.wipe σ vs).set v none)[i]? = σ[i]?
    rw [List.getElem?_set_ne hv]
    exact wipeS_get hr
theorem wipeS_in : ∀ {vs : List Nat}, i ∈ vs → i < σ.length → (L2.wipe σ vs)[i]? = some none
  | v :: vs, h, hl => by
    show ((L2.wipe σ vs).set v none)[i]? = some none
    by_cases hv : v = i
    · subst hv
      rw [List.getElem?_set_self (by rw [wipe_length]; exact hl)]
    · rw [List.getElem?_set_ne hv]
      rcases List.mem_cons.mp h with z | z
      · exact absurd z.symm hv
      · exact wipeS_in z hl
theorem wipe_eq (h : SO is (L2.wipe σ vs) σ2) (hs : ∀ j ∈ is, j ∈ vs) : L2.wipe σ2 vs = L2.wipe σ vs := by
  have hl : σ2.length = σ.length := h.1.trans (wipe_length σ vs)
  refine List.ext_getElem? fun j => ?_
  by_cases hj : j ∈ vs
  · by_cases hjl : j < σ.length
    · rw [wipeS_in hj (by rw [hl]; exact hjl), wipeS_in hj hjl]
    · rw [List.getElem?_eq_none (by rw [wipe_length]; omega), List.getElem?_eq_none (by rw [wipe_length]; omega)]
  · rw [wipeS_get hj, h.2 j (fun z => hj (hs j z)), wipeS_get hj]
theorem wipe_wipe : L2.wipe (L2.wipe σ vs) vs = L2.wipe σ vs := wipe_eq (is := vs) ⟨rfl, fun _ _ => rfl⟩ (fun _ z => z)
theorem owned_wipe {a : Addr} (h : OwnedBy (s.wipe vs) (L2.wipe σ vs) a) : OwnedBy s σ a := by
  obtain ⟨j, ds, e1, e2⟩ := h
  obtain ⟨h1, h2⟩ := wipeE_get e1
  exact ⟨j, ds, h2, by rw [← wipeS_get h1]; exact e2⟩
theorem Ok.wipe_ (k : Ok K B F ρ s σ H) (vs : List Nat) : Ok K B F ρ (s.wipe vs) (L2.wipe σ vs) H where
  len := by
    show (wipeE s.env vs).length = _
    rw [wipeE_length, wipe_length]; exact k.len
  base := k.base
  trk := k.trk
  sto := k.sto
  env := fun j w e => by
    obtain ⟨h1, h2⟩ := wipeE_get e
    obtain ⟨v, e1, e2⟩ := k.env j w h2
    exact ⟨v, by rw [wipeS_get h1]; exact e1, e2⟩
  sep := fun j l ds es a e1 e2 e3 e4 => by
    obtain ⟨h1, g1⟩ := wipeE_get e1
    obtain ⟨h2, g2⟩ := wipeE_get e2
    rw [wipeS_get h1] at e3
    rw [wipeS_get h2] at e4
    exact k.sep j l ds es a g1 g2 e3 e4
theorem gx_wipe : GX s σ F ρ H (s.wipe vs) (L2.wipe σ vs) F ρ H := ⟨fun _ z => z, ⟨[], by simp⟩, fun _ z => .inl z, fun _ _ z _ _ => z, fun _ z => z, fun _ z => .inl z, fun _ z => owned_wipe z⟩
theorem restE_length (env o : List (Option W)) : ∀ vs : List Nat, (restE env o vs).length = env.length
  | [] => rfl
  | v :: vs => by unfold restE; rw [List.length_set, restE_length env o vs]
theorem restE_get {env o : List (Option W)} {w : W} : ∀ {vs : List Nat}, (restE env o vs)[i]? = some (some w) → (i ∈ vs ∧ o[i]? = some (some w)) ∨ (i ∉ vs ∧ env[i]? = some (some w))
  | [], h => .inr ⟨by simp, h⟩
  | v :: vs, h => by
    have h : ((restE env o vs).set v ((o[v]?).getD none))[i]? = some (some w) := h
    rcases env_set h with ⟨hi, h⟩ | ⟨hi, h⟩
    · subst hi
      refine .inl ⟨List.mem_cons_self, ?_⟩
      cases q : o[i]? with
      | none => rw [q] at h; cases h
      | some x => rw [q] at h; exact congrArg some h
    · rcases restE_get h with ⟨h1, h2⟩ | ⟨h1, h2⟩
      · exact .inl ⟨List.mem_cons_of_mem _ h1, h2⟩
      · exact .inr ⟨by simp [hi, h1], h2⟩
theorem ownFree_ok (h : ownFree s vs = true) (hi : i ∈ vs) (ds : List D) : s.env[i]? ≠ some (some (.own ds)) := fun e => by
  have := List.all_eq_true.mp h i hi
  rw [e] at this
  cases this
theorem not_owned (k : Ok K B F ρ s σ H) {a : Addr} {vs' : List V} (h1 : H a = some (.lst vs')) : True := trivial
/-- behind the block -/
theorem Ok.restore (k : Ok K B F ρ s σ H) (hf : ownFree s vs = true) (x : GX (s.wipe vs) (L2.wipe σ vs) F ρ H s' (L2.wipe σ vs) F' ρ' H') (k' : Ok K B F' ρ' s' (L2.wipe σ vs) H') : Ok K B F' ρ' (s'.rest s vs) σ H' ∧ Ext s σ F ρ H (s'.rest s vs) F' ρ' H' := by
  have sx : SX F H F' H' := (k.wipe_ vs).gsx x
  have ow : ∀ a, OwnedBy (s'.rest s vs) σ a → OwnedBy s' (L2.wipe σ vs) a := fun a z => by
    obtain ⟨j, ds, e1, e2⟩ := z
    rcases restE_get e1 with ⟨h1, h2⟩ | ⟨h1, h2⟩
    · exact absurd h2 (ownFree_ok hf h1 ds)
    · exact ⟨j, ds, h2, by rw [wipeS_get h1]; exact e2⟩
  refine ⟨{
    len := by
      show (restE s'.env s.env vs).length = _
      rw [restE_length, k'.len, wipe_length]
    base := k'.base
    trk := k'.trk
    sto := k'.sto
    env := fun j w e => by
      rcases restE_get e with ⟨h1, h2⟩ | ⟨h1, h2⟩
      · obtain ⟨v, e1, e2⟩ := k.env j w h2
        refine ⟨v, e1, ?_⟩
        cases w with
        | val d => exact sx.rp e2
        | own ds => exact absurd h2 (ownFree_ok hf h1 ds)
        | ref n =>
          obtain ⟨a, q1, q2⟩ := e2
          obtain ⟨m, em⟩ := x.rho
          refine ⟨a, q1, ?_⟩
          rw [em]
          obtain ⟨hn, _⟩ := List.getElem?_eq_some_iff.mp q2
          rw [List.getElem?_append_left hn]; exact q2
        | peek j => exact e2
        | scr ns =>
          obtain ⟨a, q1, q2⟩ := e2
          exact ⟨a, q1, q2.mono sx.stay⟩
        | fn x => exact e2
        | exc xx => exact ExV.st e2 sx.stay sx.sub
      · obtain ⟨v, e1, e2⟩ := k'.env j w h2
        exact ⟨v, by rw [← wipeS_get h1]; exact e1, e2⟩
    sep := fun j l ds es a e1 e2 e3 e4 => by
      rcases restE_get e1 with ⟨h1, g1⟩ | ⟨h1, g1⟩
      · exact absurd g1 (ownFree_ok hf h1 ds)
      · rcases restE_get e2 with ⟨h2, g2⟩ | ⟨h2, g2⟩
        · exact absurd g2 (ownFree_ok hf h2 es)
        · exact k'.sep j l ds es a g1 g2 (by rw [wipeS_get h1]; exact e3) (by rw [wipeS_get h2]; exact e4) }, ⟨x.sub, x.rho, x.new, fun a o e n no => x.keep a o e n fun z => no (owned_wipe z), x.th, fun a z => ?_, fun a z => owned_wipe (x.ow a (ow a z))⟩⟩
  rcases x.fz a z with z | z | z
  · exact .inl z
  · exact .inr (.inl z)
  · exact .inr (.inr (owned_wipe z))
/-- the list that a comprehension fills, within its block -/
structure Acc (K : PySem.W.Frag) (F : Fz) (ρ : List Addr) (s : S) (σ : Sg) (H : Hp) (L : Addr) (acc : List D) : Prop where
  at_ : ∃ vs, H L = some (.lst vs) ∧ RpAll K F H vs acc
  nF : ¬ F L
  nρ : L ∉ ρ
  nO : ¬ OwnedBy s σ L
theorem Acc.mono {L : Addr} {acc : List D} (a : Acc K F ρ s σ H L acc) (k : Ok K B F ρ s σ H) (x : GX s σ F ρ H s' σ' F' ρ' H') : Acc K F' ρ' s' σ' H' L acc := by
  obtain ⟨vs, h1, h2⟩ := a.at_
  refine ⟨⟨vs, x.keep L _ h1 a.nρ a.nO, (k.gsx x).rpAll h2⟩, fun z => ?_, fun z => ?_, fun z => a.nO (x.ow L z)⟩
  · rcases x.fz L z with z | z | z
    · exact a.nF z
    · rw [h1] at z; cases z
    · exact a.nO z
  · rcases x.new L z with z | z
    · exact a.nρ z
    · rw [h1] at z; cases z
/-- an item joins it -/
theorem Acc.push {L : Addr} {acc : List D} {y : V} (a : Acc K F ρ s σ H L acc) (hB : B.H L = none) (k : Ok K B F ρ s σ H) (r : Rp K F H y d) : ∃ vs, H L = some (.lst vs) ∧ vs.length = acc.length ∧ Ok K B F ρ s σ (upd H L (.lst (vs ++ [y]))) ∧ Acc K F ρ s σ (upd H L (.lst (vs ++ [y]))) L (acc ++ [d]) := by
  obtain ⟨vs, h1, h2⟩ := a.at_
  have st : Stay F H (upd H L (.lst (vs ++ [y]))) := stay_write h1 a.nF
  have ne : ∀ {b}, OwnedBy s σ b → b ≠ L := fun z e => a.nO (e ▸ z)
  refine ⟨vs, h1, h2.length, {
    len := k.len
    base := ⟨k.base.sub, k.base.rho, k.base.new, fun b o q n => by
      have : b ≠ L := fun z => by rw [z, hB] at q; cases q
      rw [upd_ne this]; exact k.base.keep b o q n, k.base.fz⟩
    trk := fun b f => by
      have : b ≠ L := fun z => a.nF (z ▸ f)
      rw [upd_ne this]; exact k.trk b f
    sto := ⟨k.sto.len, k.sto.nd, fun n es q => by
      obtain ⟨b, us, q1, q2, q3, q4⟩ := k.sto.at_ n es q
      have : b ≠ L := fun z => a.nρ (z ▸ List.mem_of_getElem? q1)
      exact ⟨b, us, q1, q2, by rw [upd_ne this]; exact q3, q4.st st fun _ z => z⟩⟩
    env := fun j w q => by
      obtain ⟨v', q1, q2⟩ := k.env j w q
      refine ⟨v', q1, ?_⟩
      cases w with
      | val d => exact Rp.st q2 st fun _ z => z
      | own es =>
        obtain ⟨b, us, z1, z2, z3, z4, z5, z6⟩ := q2
        have : b ≠ L := ne ⟨j, es, q, by rw [q1, z1]⟩
        exact ⟨b, us, z1, by rw [upd_ne this]; exact z2, z3.st st fun _ z => z, z4, z5, z6⟩
      | ref n => exact q2
      | peek j => exact q2
      | scr ns =>
        obtain ⟨b, z1, z2⟩ := q2
        exact ⟨b, z1, z2.mono st⟩
      | fn x => exact q2
      | exc xx => exact ExV.st q2 st fun _ z => z
    sep := k.sep }, ⟨⟨_, upd_same, (h2.append (.cons r .nil)).st st fun _ z => z⟩, a.nF, a.nρ, a.nO⟩⟩
/-- the block's change as the outside sees it: L is new -/
theorem gx_push {L : Addr} {vs' : List V} (x : GX s σ F ρ H s' σ' F' ρ' H') (h : H L = none) : GX s σ F ρ H s' σ' F' ρ' (upd H' L (.lst vs')) :=
  ⟨x.sub, x.rho, x.new, fun a o e n no => by
    have : a ≠ L := fun z => by rw [z, h] at e; cases e
    rw [upd_ne this]; exact x.keep a o e n no, fun a e => x.th a (upd_none e), x.fz, x.ow⟩
end
section
variable {X : Cx} {Wx : WX} {tg e iter : Expr} {m : M W} {src : M (List D)} {g : D → M Unit} {c1 : M Bool} {is : List Nat} {ifs : List Expr} {scope : Scope} {own : List (Str × Nat)} {pos : Pos}
abbrev Wx0 : WX := fun _ _ _ _ => False
abbrev DTs (X : Cx) (ifs : List Expr) (m : M Bool) : Prop := PTs X ifs (CM X.K X.mg Wx0 m)
theorem t_nil : DTs X [] cTrue := ⟨fun pins s σ H Q I ⟨B, F, ρ, s', k, h⟩ => pts_nil.run pins s σ H Q I ((Run.ret h) F ρ H .refl k)⟩
theorem t_one {c : Expr} (h : DC X Wx0 c c1) : DTs X [c] c1 := pts_one h
/-- what a turn of the block asks, from its state -/
theorem turn_ok {K : PySem.W.Frag} {mg : Str → Option Value} {B : Base} {L : Addr} {vs : List Nat} {σ : Sg} {d : D} {ds acc : List D} {s0 s : S} {F0 F : Fz} {ρ0 ρ : List Addr} {Hs H : Hp} {x : V} {R : List D → S → Prop} {er : Exc → S → Prop} {Nx : Hp → Prop}
    (his : ∀ j ∈ is, j ∈ vs) (hL : Hs L = none) (hB : B.H L = none) (gx : GX s0 (L2.wipe σ vs) F0 ρ0 Hs s (L2.wipe σ vs) F ρ H) (k : Ok K B F ρ s (L2.wipe σ vs) H) (a : Acc K F ρ s (L2.wipe σ vs) H L acc) (rp : Rp K F H x d) (h : Run (compLoop vs g c1 m (d :: ds) acc) s R er)
    (hn : ∀ F' ρ' s' H' acc', GX s0 (L2.wipe σ vs) F0 ρ0 Hs s' (L2.wipe σ vs) F' ρ' H' → Ok K B F' ρ' s' (L2.wipe σ vs) H' → Acc K F' ρ' s' (L2.wipe σ vs) H' L acc' → Run (compLoop vs g c1 m ds acc') s' R er → Nx H') :
    GM K mg Wx0 is g x (L2.wipe σ vs) H fun σ2 H2 => L2.wipe σ2 vs = L2.wipe σ vs ∧ CM K mg Wx0 c1 σ2 H2 fun b H3 => if b = true then EM K mg Wx0 m σ2 H3 fun y H4 => ∃ acc, H4 L = some (.lst acc) ∧ acc.length < sizeLine ∧ Nx (upd H4 L (.lst (acc ++ [y]))) else Nx H3 := by
  refine ⟨B, F, ρ, s, d, k, rp, (Run.nE (Run.bind h)).mono (fun _ s1 _ h1 F1 ρ1 H1 σ1 g1 so k1 => ?_) fun _ _ _ z => z⟩
  have ew := wipe_eq so his
  refine ⟨ew, B, F1, ρ1, s1, k1, (Run.nE (Run.bind h1)).mono (fun b s2 _ h2 F2 ρ2 H2 e2 k2 => ?_) fun _ _ _ z => z⟩
  have a2 := (a.mono k g1).mono k1 e2.gx
  cases b with
  | false =>
    refine iteF ?_
    have h3 : Run (compLoop vs g c1 m ds acc) (s2.wipe vs) R er := Run.bind (m := wipeM vs) h2
    have k3 := k2.wipe_ vs
    rw [ew] at k3
    have gw : GX s2 σ1 F2 ρ2 H2 (s2.wipe vs) (L2.wipe σ vs) F2 ρ2 H2 := by rw [← ew]; exact gx_wipe
    exact hn F2 ρ2 _ H2 acc (((gx.trans g1).trans e2.gx).trans gw) k3 (a2.mono k2 gw) h3
  | true =>
    refine iteT ⟨B, F2, ρ2, s2, k2, (Run.nE (Run.bind h2)).mono (fun w s3 _ h3 F3 ρ3 H3 y e3 k3 o3 f3 => ?_) fun _ _ _ z => z⟩
    obtain ⟨F4, s4, dy, k4, e4, ry, h4⟩ := val_ok e3 k3 o3 f3 (Run.bind h3)
    have a4 := a2.mono k2 e4.gx
    by_cases hz : acc.length < sizeLine
    · have h5 : Run (if acc.length < sizeLine then wipeM vs >>= fun _ => compLoop vs g c1 m ds (acc ++ [dy]) else M.fail) s4 R er := h4
      rw [if_pos hz] at h5
      have h6 : Run (compLoop vs g c1 m ds (acc ++ [dy])) (s4.wipe vs) R er := Run.bind (m := wipeM vs) h5
      obtain ⟨us, q1, q2, k5, a5⟩ := a4.push hB k4 ry
      have k6 := k5.wipe_ vs
      rw [ew] at k6
      have gw : GX s4 σ1 F4 ρ3 (upd H3 L (.lst (us ++ [y]))) (s4.wipe vs) (L2.wipe σ vs) F4 ρ3 (upd H3 L (.lst (us ++ [y]))) := by rw [← ew]; exact gx_wipe
      have gall := (((gx.trans g1).trans e2.gx).trans e4.gx)
      exact ⟨us, q1, by rw [q2]; exact hz, hn F4 ρ3 _ _ _ ((gx_push gall hL).trans gw) k6 (a5.mono k5 gw) h6⟩
    · have h5 : Run (if acc.length < sizeLine then wipeM vs >>= fun _ => compLoop vs g c1 m ds (acc ++ [dy]) else M.fail) s4 R er := h4
      rw [if_neg hz] at h5
      exact h5.elim
theorem lc_step {K : PySem.W.Frag} {mg : Str → Option Value} {σ : Sg} {H : Hp} {Q : VK} {vs : List Nat} (his : ∀ j ∈ is, j ∈ vs) (h : EM K mg Wx (eLc vs src g c1 m) σ H Q) :
    tLc (SI K mg Wx src) (GM K mg Wx0 is g) (CM K mg Wx0 c1) (EM K mg Wx0 m) vs σ H Q := by
  obtain ⟨B, F, ρ, s, k, h⟩ := h
  refine ⟨B, F, ρ, s, k, (Run.bind h).mono (fun ds s1 _ h1 F1 ρ1 H1 J e1 k1 wd => ?_) fun _ _ _ z => z⟩
  intro L hL
  have h1' : Run (lcM vs (compLoop vs g c1 m ds [])) s1 (Post K B σ s F ρ H Q) (Er K mg Wx B σ) := h1
  by_cases hf : ownFree s1 vs = true
  · have hb : Run (compLoop vs g c1 m ds []) (s1.wipe vs) (fun r s' => Post K B σ s F ρ H Q (.own r) (s'.rest s1 vs)) (fun _ _ => False) := by
      unfold Run lcM at h1'
      rw [if_pos hf] at h1'
      unfold Run
      cases q : compLoop vs g c1 m ds [] (s1.wipe vs) with
      | fail => rw [q] at h1'; exact h1'.elim
      | err x s' => rw [q] at h1'; exact h1'.elim
      | ok r s' => rw [q] at h1'; exact h1'
    obtain ⟨G, Y, wk, hG, hY⟩ := wd
    have hB := k1.fresh hL
    have kw := k1.wipe_ vs
    have kw0 := kw.new (o := .lst []) hL
    have inv0 : GX (s1.wipe vs) (L2.wipe σ vs) F1 ρ1 H1 (s1.wipe vs) (L2.wipe σ vs) F1 ρ1 (upd H1 L (.lst [])) := (Ext.new_ hL).gx
    have acc0 : Acc K F1 ρ1 (s1.wipe vs) (L2.wipe σ vs) (upd H1 L (.lst [])) L [] := ⟨⟨[], upd_same, .nil⟩, kw.nF hL, kw.nρ hL, kw.nO hL⟩
    refine lc_it wk (fun i H' => ∃ F' ρ' s' acc, GX (s1.wipe vs) (L2.wipe σ vs) F1 ρ1 H1 s' (L2.wipe σ vs) F' ρ' H' ∧ Ok K B F' ρ' s' (L2.wipe σ vs) H' ∧ Acc K F' ρ' s' (L2.wipe σ vs) H' L acc ∧ Run (compLoop vs g c1 m (ds.drop i) acc) s' (fun r s' => Post K B σ s F ρ H Q (.own r) (s'.rest s1 vs)) (fun _ _ => False))
      ⟨F1, ρ1, s1.wipe vs, [], inv0, kw0, acc0, hb⟩ (fun i H' _ ⟨F', ρ', s', acc, x', _⟩ => hG F' H' (kw.gsx x')) (fun i x H' H2 hi ⟨F', ρ', s', acc, x', k', a', h'⟩ y => ?_) fun H' ⟨F', ρ', s', acc, x', k', a', h'⟩ => ?_
    · have ed : ds[i]? = some ds[i] := List.getElem?_eq_getElem hi
      obtain ⟨hH, rp⟩ := hY i F' H' x H2 _ (kw.gsx x') ed y
      rw [List.drop_eq_getElem_cons hi] at h'
      have kk : Ok K B F' ρ' s' (L2.wipe σ vs) H2 ∧ GX s' (L2.wipe σ vs) F' ρ' H' s' (L2.wipe σ vs) F' ρ' H2 := by
        rcases hH with rfl | ⟨p, o, hn, rfl⟩
        · exact ⟨k', .refl⟩
        · exact ⟨k'.new hn, (Ext.new_ hn).gx⟩
      obtain ⟨k2, x2⟩ := kk
      exact turn_ok his hL hB (x'.trans x2) k2 (a'.mono k' x2) rp h' fun F3 ρ3 s3 H3 acc3 g3 k3 a3 h3 => ⟨F3, ρ3, s3, acc3, g3, k3, a3, h3⟩
    · rw [List.drop_length] at h'
      obtain ⟨kr, er⟩ := Ok.restore k1 hf x' k'
      obtain ⟨us, q1, q2⟩ := a'.at_
      have ow : ¬ OwnedBy (s'.rest s1 vs) σ L := fun z => by
        have := er.ow L z
        exact k1.nO hL this
      exact (Run.ret (er := fun _ _ => False) h') F' ρ' H' _ (e1.trans er k1.sto) kr ⟨L, us, rfl, q1, q2, a'.nF, a'.nρ, ow, hB⟩ fun a e => by cases e; exact e1.th L hL
  · unfold Run lcM at h1'
    rw [if_neg hf] at h1'
    exact h1'.elim
theorem i_lc (hc : X.calm = true) (hN : X.N.Nodup) (hi : DI X Wx tg iter src) (ok : BlkOk X.N X.env.scope scope own)
    (hg : ∀ (s : Shared) (H : Hp) (C : Addr) (cl : List (Str × Addr)) (fp : List Addr), DG (X.blk s H scope (compEnvC scope cl C X.env) fp) Wx0 is tg g)
    (ht : ∀ (s : Shared) (H : Hp) (C : Addr) (cl : List (Str × Addr)) (fp : List Addr), DTs (X.blk s H scope (compEnvC scope cl C X.env) fp) ifs c1)
    (he : ∀ (s : Shared) (H : Hp) (C : Addr) (cl : List (Str × Addr)) (fp : List Addr), DE (X.blk s H scope (compEnvC scope cl C X.env) fp) Wx0 e m) (his : ∀ j ∈ is, j ∈ own.map (·.2)) (hs : ∀ x, foldedSetIterable iter X.env x = pure x := by intro _; rfl) :
    DE X Wx (.ListComp e [⟨tg, iter, ifs, 0⟩] scope pos) (eLc (own.map (·.2)) src g c1 m) :=
  pe_mono (pe_lc hc hN hi ok hg ht he hs) fun σ H Q h => lc_step his h
theorem s_setLc {i : Nat} {y : Str} {py spos : Pos} (hc : X.calm = true) (hN : X.N.Nodup) (hy : X.N[i]? = some y) (hyl : X.env.scope.names.lookup y = some .local)
    (hsw : swapsWith (.ListComp e [⟨tg, iter, ifs, 0⟩] scope pos) (some (.Name y py)) spos.line X.env = pure true) (hi : DI X Wx tg iter src) (ok : BlkOk X.N X.env.scope scope own)
    (hg : ∀ (s : Shared) (H : Hp) (C : Addr) (cl : List (Str × Addr)) (fp : List Addr), DG (X.blk s H scope (compEnvC scope cl C X.env) fp) Wx0 is tg g)
    (ht : ∀ (s : Shared) (H : Hp) (C : Addr) (cl : List (Str × Addr)) (fp : List Addr), DTs (X.blk s H scope (compEnvC scope cl C X.env) fp) ifs c1)
    (he : ∀ (s : Shared) (H : Hp) (C : Addr) (cl : List (Str × Addr)) (fp : List Addr), DE (X.blk s H scope (compEnvC scope cl C X.env) fp) Wx0 e m) (his : ∀ j ∈ is, j ∈ own.map (·.2)) (hs : ∀ x, foldedSetIterable iter X.env x = pure x := by intro _; rfl) :
    DS X Wx (.Assign [.Name y py] (.ListComp e [⟨tg, iter, ifs, 0⟩] scope pos) spos) (sAsg i (eLc (own.map (·.2)) src g c1 m)) :=
  ps_mono (ps_setLc hc hN hy hyl hsw hi ok hg ht he hs) fun D σ H h => lc_step his (asg_step h)
end
end Z
/-! Z, part 9: subscripts, slices, built-ins, what is gone through, calls with keywords. -/
namespace Z
open PySem PySem.Spec PyProof.Rows L2

/-! ### items and slices -/
def ixD : D → D → Option W
  | .list ds, .int i => (atI ds i).map .val
  | .tuple ds, .int i => (atI ds i).map .val
  | .str z, .int i => if z.length ≤ sizeLine then (atI z.cps.toList i).map fun c => .val (.str ⟨#[c]⟩) else none
  | _, _ => none
def opLk (f : D → D → Option W) (m1 m2 : M W) : M W := m1 >>= fun a => m2 >>= fun b => look a >>= fun x => look b >>= fun y => ofO (f x y)
def op1 (f : D → Option W) (m : M W) : M W := m >>= fun a => look a >>= fun x => ofO (f x)
def pNone : M (Option Int) := Pure.pure none
def pSome (m : M W) : M (Option Int) := m >>= fun a => look a >>= fun d => match d with
  | .int i => Pure.pure (some i)
  | _ => M.fail
def cutL {α : Type} (xs : List α) (lo hi : Option Int) : List α := (xs.drop (HT.sIx xs.length 0 lo)).take (HT.sIx xs.length xs.length hi - HT.sIx xs.length 0 lo)
def slD (d : D) (lo hi : Option Int) : Option W := match d with
  | .list ds => some (.own (cutL ds lo hi))
  | .tuple ds => some (.val (.tuple (cutL ds lo hi)))
  | .str z => if z.length ≤ sizeLine then some (.val (.str (cutS z lo hi))) else none
  | _ => none
def eSl (m : M W) (l h : M (Option Int)) : M W := m >>= fun a => l >>= fun lo => h >>= fun hi => look a >>= fun d => ofO (slD d lo hi)
section
variable {K : PySem.W.Frag} {mg : Str → Option Value} {Wx : WX} {B : Base} {F : Fz} {ρ : List Addr} {s : S} {σ : Sg} {H : Hp} {vs : List V} {ds : List D}
theorem RpAll.atI {i : Int} {d : D} (r : RpAll K F H vs ds) (e : L2.atI ds i = some d) : ∃ v, L2.atI vs i = some v ∧ Rp K F H v d := by
  unfold L2.atI at e ⊢
  rw [r.length]
  cases q : ixN ds.length i with
  | none => rw [q] at e; cases e
  | some j =>
    rw [q] at e
    exact r.get e
theorem RpAll.cut (lo hi : Option Int) (r : RpAll K F H vs ds) : RpAll K F H (cutV vs lo hi) (cutL ds lo hi) := by
  unfold cutV cutL
  rw [r.length]
  exact (r.drop _).take _
theorem cutL_length {α : Type} (xs : List α) (lo hi : Option Int) : (cutL xs lo hi).length ≤ xs.length := by
  unfold cutL
  rw [List.length_take, List.length_drop]
  omega
def PostO (K : PySem.W.Frag) (B : Base) (σ : Sg) (s : S) (F : Fz) (ρ : List Addr) (H : Hp) (Q : Option Int → Hp → Prop) (b : Option Int) (s' : S) : Prop :=
  ∀ F' ρ' H', Ext s σ F ρ H s' F' ρ' H' → Ok K B F' ρ' s' σ H' → Q b H'
def OM (K : PySem.W.Frag) (mg : Str → Option Value) (Wx : WX) (m : M (Option Int)) : TO := fun σ H Q => ∃ B F ρ s, Ok K B F ρ s σ H ∧ Run m s (PostO K B σ s F ρ H Q) (Er K mg Wx B σ)
end
section
variable {X : Cx} {Wx : WX} {pos p p2 : Pos} {a b e : Expr} {m m1 m2 : M W} {lo hi : Option Expr} {ml mh : M (Option Int)} {x : Str}
theorem i_ix (ha : DE X Wx a m1) (hb : DE X Wx b m2) (hs : PlainIx b := by intro _ _; rfl) : DE X Wx (.Subscript a b pos) (opLk ixD m1 m2) :=
  pe_mono (pe_ix ix_seq ha hb hs) fun σ H Q h => em_bin (P := fun x y H2 => rIx X.K x y H2 Q) (fun {B F ρ s H _ _ _ _} k o1 o2 h => by
    obtain ⟨d1, e1, h⟩ := Run.look h
    obtain ⟨d2, e2, h⟩ := Run.look h
    obtain ⟨w, e3, h⟩ := Run.ofO h
    have l1 := (content_ok k o1 e1).1
    have l2 := (content_ok k o2 e2).1
    unfold ixD at e3
    split at e3
    · rename_i ds i _
      cases q : atI ds i with
      | none => rw [q] at e3; cases e3
      | some d =>
        rw [q] at e3
        cases e3
        obtain ⟨p, vs, rfl, sq, r⟩ := l1.list
        obtain ⟨v, q1, q2⟩ := r.atI q
        exact .inl ⟨p, vs, i, v, rfl, l2.int, sq, q1, h.val k q2⟩
    · rename_i ds i _
      cases q : atI ds i with
      | none => rw [q] at e3; cases e3
      | some d =>
        rw [q] at e3
        cases e3
        obtain ⟨p, vs, rfl, sq, r⟩ := l1.tup
        obtain ⟨v, q1, q2⟩ := r.atI q
        exact .inr (.inl ⟨p, vs, i, v, rfl, l2.int, sq, q1, h.val k q2⟩)
    · rename_i z i _
      split at e3
      · rename_i hz
        cases q : atI z.cps.toList i with
        | none => rw [q] at e3; cases e3
        | some c =>
          rw [q] at e3
          cases e3
          exact .inr (.inr ⟨z, i, c, l1.str, l2.int, hz, q, h.val k (.str _)⟩)
      · cases e3
    · cases e3) h
theorem po_mono {e : Option Expr} {t t' : TO} (h : PO X e t) (k : ∀ σ H Q, t' σ H Q → t σ H Q) : PO X e t' := ⟨fun pins s σ H Q I q => h.run pins s σ H Q I (k _ _ _ q)⟩
abbrev DO (X : Cx) (Wx : WX) (e : Option Expr) (m : M (Option Int)) : Prop := PO X e (OM X.K X.mg Wx m)
theorem o_none : DO X Wx none pNone := po_mono po_none fun σ H Q ⟨B, F, ρ, s, k, h⟩ => (Run.ret h) F ρ H .refl k
theorem o_some (he : DE X Wx e m) : DO X Wx (some e) (pSome m) := po_mono (po_some he) fun σ H Q ⟨B, F, ρ, s, k, h⟩ => ⟨B, F, ρ, s, k, (Run.bind h).mono (fun w s1 _ h1 F1 ρ1 H1 v e1 k1 o1 _ => by
  obtain ⟨d, ed, h2⟩ := Run.look h1
  cases d with
  | int i =>
    have := (content_ok k1 o1 ed).1.int
    subst this
    exact ⟨i, rfl, (Run.ret h2) F1 ρ1 H1 e1 k1⟩
  | _ => exact h2.elim) fun _ _ _ z => z⟩
def rSl_ (K : PySem.W.Frag) : V → Option Int → Option Int → Hp → VK → Prop := fun x lo hi H Q => rSlL K x lo hi H Q ∨ rSlA K x lo hi H Q ∨ rSlS x lo hi H Q
theorem sl_any : SlR X (rSl_ X.K) := sl_list.or (sl_tupA.or sl_str)
theorem cut_whole {α : Type} {xs : List α} {lo hi : Option Int} (h : HT.sIx xs.length 0 lo = 0 ∧ HT.sIx xs.length xs.length hi = xs.length) : cutL xs lo hi = xs := by
  unfold cutL
  rw [h.1, h.2]
  simp
theorem i_sl (ha : DE X Wx a m) (hl : DO X Wx lo ml) (hh : DO X Wx hi mh) : DE X Wx (.Subscript a (.Slice lo hi none p2) pos) (eSl m ml mh) :=
  pe_mono (pe_slice sl_any ha hl hh) fun σ H Q ⟨B, F, ρ, s, k, h⟩ => by
    refine ⟨B, F, ρ, s, k, (Run.bind h).mono (fun w1 s1 _ h1 F1 ρ1 H1 x e1 k1 o1 _ => ?_) fun _ _ _ z => z⟩
    refine ⟨B, F1, ρ1, s1, k1, (Run.bind h1).mono (fun lo s2 _ h2 F2 ρ2 H2 e2 k2 => ?_) fun _ _ _ z => z⟩
    refine ⟨B, F2, ρ2, s2, k2, (Run.bind h2).mono (fun hi s3 _ h3 F3 ρ3 H3 e3 k3 => ?_) fun _ _ _ z => z⟩
    obtain ⟨d, ed, h4⟩ := Run.look h3
    obtain ⟨w, ew, h5⟩ := Run.ofO h4
    have l1 := (content_ok k3 ((o1.mono k1 e2).mono k2 e3) ed).1
    have h6 := h5.step ((e1.trans e2 k1.sto).trans e3 k2.sto) k3.sto
    unfold slD at ew
    split at ew
    · cases ew
      obtain ⟨p, vs, rfl, sq, r⟩ := l1.list
      exact .inl ⟨p, vs, rfl, sq, fun q hq => h6.own k3 (r.cut _ _) hq⟩
    · cases ew
      obtain ⟨p, vs, rfl, sq, r⟩ := l1.tup
      refine .inr (.inl ⟨p, vs, rfl, sq, fun hw => ?_, fun _ q hq => h6.tup k3 (r.cut _ _) hq⟩)
      rw [r.length] at hw
      rw [cut_whole hw] at h6
      exact h6.val k3 (.tup sq r)
    · split at ew
      · rename_i hz
        cases ew
        exact .inr (.inr ⟨_, l1.str, hz, h6.val k3 (.str _)⟩)
      · cases ew
    · cases ew
/-! ### built-ins of one and of two -/
def U1R (K : PySem.W.Frag) (r : List V → Hp → VK → Prop) (f : D → Option W) : Prop := ∀ {B F ρ s σ H x d w Q}, Ok K B F ρ s σ H → Lk K F H x d → f d = some w → Post K B σ s F ρ H Q w s → r [x] H Q
def U2R (K : PySem.W.Frag) (r : List V → Hp → VK → Prop) (f : D → D → Option W) : Prop := ∀ {B F ρ s σ H x y d e w Q}, Ok K B F ρ s σ H → Lk K F H x d → Lk K F H y e → f d e = some w → Post K B σ s F ρ H Q w s → r [x, y] H Q
theorem u1_step {K : PySem.W.Frag} {mg : Str → Option Value} {σ : Sg} {H : Hp} {Q : VK} {r : List V → Hp → VK → Prop} {f : D → Option W} (hr : U1R K r f) (h : EM K mg Wx (op1 f m) σ H Q) : EM K mg Wx m σ H fun x H1 => r [x] H1 Q :=
  em_un (P := fun x H1 => r [x] H1 Q) (fun {B F ρ s H _ _} k o h => by
    obtain ⟨d1, e1, h⟩ := Run.look h
    obtain ⟨w, e3, h⟩ := Run.ofO h
    exact hr k (content_ok k o e1).1 e3 h) h
theorem u2_step {K : PySem.W.Frag} {mg : Str → Option Value} {σ : Sg} {H : Hp} {Q : VK} {r : List V → Hp → VK → Prop} {f : D → D → Option W} (hr : U2R K r f) (h : EM K mg Wx (opLk f m1 m2) σ H Q) : EM K mg Wx m1 σ H fun x H1 => EM K mg Wx m2 σ H1 fun y H2 => r [x, y] H2 Q :=
  em_bin (P := fun x y H1 => r [x, y] H1 Q) (fun {B F ρ s H _ _ _ _} k o1 o2 h => by
    obtain ⟨d1, e1, h⟩ := Run.look h
    obtain ⟨d2, e2, h⟩ := Run.look h
    obtain ⟨w, e3, h⟩ := Run.ofO h
    exact hr k (content_ok k o1 e1).1 (content_ok k o2 e2).1 e3 h) h
theorem i_b1 {id : String} {r : List V → Hp → VK → Prop} {f : D → Option W} (hc : CallR X (.builtin id) r) (hr : U1R X.K r f) (hm : X.mg x = none) (ha : DE X Wx e m) (hv : bootBuiltins x = some (.builtin id) := by decide +kernel) (hg : Gl X x := by rfl) (hn : x ≠ "__name__" := by decide) (hdb : (x == ("__debug__" : Str)) = false := by decide)
    (hs : starEach [e] X.env = (false, eval e X.env) :: starEach [] X.env := by rfl) (hpl : (backTo pos (starEach [] X.env)).any (·.1) = false := by rfl) : DE X Wx (.Call (.Name x p) [e] [] pos) (op1 f m) :=
  pe_mono (pe_callB hc hg hm hv (pa_cons ha pa_nil hs) hn hdb hs hpl) fun σ H Q h => u1_step hr h
theorem i_ty1 {T : String} {r : List V → Hp → VK → Prop} {f : D → Option W} (hc : CallR X (.type T) r) (hr : U1R X.K r f) (hm : X.mg x = none) (ha : DE X Wx e m) (hv : bootBuiltins x = some (.type T) := by decide +kernel) (hg : Gl X x := by rfl) (hn : x ≠ "__name__" := by decide) (hdb : (x == ("__debug__" : Str)) = false := by decide)
    (hs : starEach [e] X.env = (false, eval e X.env) :: starEach [] X.env := by rfl) (hpl : (backTo pos (starEach [] X.env)).any (·.1) = false := by rfl) : DE X Wx (.Call (.Name x p) [e] [] pos) (op1 f m) :=
  pe_mono (pe_callTy hc hg hm hv (pa_cons ha pa_nil hs) hn hdb hs hpl) fun σ H Q h => u1_step hr h
theorem i_b2 {id : String} {r : List V → Hp → VK → Prop} {f : D → D → Option W} (hc : CallR X (.builtin id) r) (hr : U2R X.K r f) (hm : X.mg x = none) (ha : DE X Wx a m1) (hb : DE X Wx b m2) (hv : bootBuiltins x = some (.builtin id) := by decide +kernel) (hg : Gl X x := by rfl) (hn : x ≠ "__name__" := by decide) (hdb : (x == ("__debug__" : Str)) = false := by decide)
    (hs : starEach [a, b] X.env = (false, eval a X.env) :: starEach [b] X.env := by rfl) (hs2 : starEach [b] X.env = (false, eval b X.env) :: starEach [] X.env := by rfl) (hpl : (backTo pos (starEach [b] X.env)).any (·.1) = false := by rfl) : DE X Wx (.Call (.Name x p) [a, b] [] pos) (opLk f m1 m2) :=
  pe_mono (pe_callB hc hg hm hv (pa_cons ha (pa_cons hb pa_nil hs2) hs) hn hdb hs hpl) fun σ H Q h => u2_step hr h
/-- a module's name for a built-in function -/
theorem i_f2 {id : String} {r : List V → Hp → VK → Prop} {f : D → D → Option W} (hc : CallR X (.builtin id) r) (hr : U2R X.K r f) (hm : X.mg x = some (.builtin id)) (ha : DE X Wx a m1) (hb : DE X Wx b m2) (hg : Gl X x := by rfl) (hdb : (x == ("__debug__" : Str)) = false := by decide)
    (hs : starEach [a, b] X.env = (false, eval a X.env) :: starEach [b] X.env := by rfl) (hs2 : starEach [b] X.env = (false, eval b X.env) :: starEach [] X.env := by rfl) (hpl : (backTo pos (starEach [b] X.env)).any (·.1) = false := by rfl) : DE X Wx (.Call (.Name x p) [a, b] [] pos) (opLk f m1 m2) :=
  pe_mono (pe_callBfun hc hg hm (pa_cons ha (pa_cons hb pa_nil hs2) hs) hdb hs hpl) fun σ H Q h => u2_step hr h
end
def lenD : D → Option W
  | .list ds => some (.val (.int ds.length))
  | .tuple ds => some (.val (.int ds.length))
  | .str z => if z.length ≤ sizeLine then some (.val (.int z.length)) else none
  | _ => none
def absD : D → Option W
  | .int i => some (.val (.int (if i < 0 then -i else i)))
  | _ => none
def intD : D → Option W
  | .int i => some (.val (.int i))
  | .bool b => some (.val (.int (if b then 1 else 0)))
  | _ => none
def boolsOf : List D → Option (List Bool)
  | [] => some []
  | .bool b :: r => (boolsOf r).map (b :: ·)
  | _ => none
def intsOf : List D → Option (List Int)
  | [] => some []
  | .int b :: r => (intsOf r).map (b :: ·)
  | _ => none
def allD : D → Option W
  | .list ds => (boolsOf ds).map fun bs => .val (.bool (bs.all id))
  | _ => none
def anyD : D → Option W
  | .list ds => (boolsOf ds).map fun bs => .val (.bool (bs.any id))
  | _ => none
def sumD : D → Option W
  | .list ds => (intsOf ds).map fun ns => .val (.int ns.sum)
  | _ => none
def maxI : List Int → Option Int
  | [] => none
  | n :: ns => some (ns.foldl max n)
def minI : List Int → Option Int
  | [] => none
  | n :: ns => some (ns.foldl min n)
def max1D : D → Option W
  | .list ds => ((intsOf ds).bind maxI).map fun n => .val (.int n)
  | _ => none
def min1D : D → Option W
  | .list ds => ((intsOf ds).bind minI).map fun n => .val (.int n)
  | _ => none
def tupleD : D → Option W
  | .list ds => some (.val (.tuple ds))
  | .tuple ds => some (.val (.tuple ds))
  | _ => none
def listD : D → Option W
  | .list ds => some (.own ds)
  | .tuple ds => some (.own ds)
  | _ => none
def max2D : D → D → Option W
  | .int i, .int j => some (.val (.int (if j > i then j else i)))
  | _, _ => none
def min2D : D → D → Option W
  | .int i, .int j => some (.val (.int (if j < i then j else i)))
  | _, _ => none
def gcdD : D → D → Option W
  | .int i, .int j => some (.val (.int (Nat.gcd i.natAbs j.natAbs : Nat)))
  | _, _ => none
def divmodD : D → D → Option W
  | .int i, .int j => if 0 < j ∧ j < 1073741824 then some (.val (.tuple [.int (i / j), .int (i % j)])) else none
  | _, _ => none
section
variable {K : PySem.W.Frag} {F : Fz} {H : Hp}
theorem bools_ok : ∀ {ds : List D} {vs : List V} {bs : List Bool}, RpAll K F H vs ds → boolsOf ds = some bs → vs = bs.map V.bl
  | [], _, _, .nil, e => by cases e; rfl
  | d :: ds, _, bs, .cons a b, e => by
    cases d with
    | bool x =>
      have e' : (boolsOf ds).map (x :: ·) = some bs := e
      cases q : boolsOf ds with
      | none => rw [q] at e'; cases e'
      | some r =>
        rw [q] at e'
        cases e'
        cases a
        rw [bools_ok b q]
        rfl
    | _ => cases e
theorem ints_ok : ∀ {ds : List D} {vs : List V} {bs : List Int}, RpAll K F H vs ds → intsOf ds = some bs → vs = bs.map V.int
  | [], _, _, .nil, e => by cases e; rfl
  | d :: ds, _, bs, .cons a b, e => by
    cases d with
    | int x =>
      have e' : (intsOf ds).map (x :: ·) = some bs := e
      cases q : intsOf ds with
      | none => rw [q] at e'; cases e'
      | some r =>
        rw [q] at e'
        cases e'
        cases a
        rw [ints_ok b q]
        rfl
    | _ => cases e
theorem u_len : U1R K (fun xs H Q => ∃ x n, xs = [x] ∧ LenV K x H n ∧ Q (.int n) H) lenD := by
  intro B F ρ s σ H x d w Q k l e p
  unfold lenD at e
  split at e
  · cases e
    obtain ⟨a, vs, rfl, sq, r⟩ := l.list
    exact ⟨_, _, rfl, .inl ⟨vs, sq, r.length.symm⟩, p.val k (.int _)⟩
  · cases e
    obtain ⟨a, vs, rfl, sq, r⟩ := l.tup
    exact ⟨_, _, rfl, .inr ⟨vs, sq, r.length.symm⟩, p.val k (.int _)⟩
  · split at e
    · rename_i hz
      cases e
      obtain rfl := l.str
      exact ⟨_, _, rfl, ⟨hz, rfl⟩, p.val k (.int _)⟩
    · cases e
  · cases e
theorem u_abs : U1R K (fun xs H Q => ∃ i, xs = [.int i] ∧ Q (.int (if i < 0 then -i else i)) H) absD := by
  intro B F ρ s σ H x d w Q k l e p
  unfold absD at e
  split at e
  · cases e
    obtain rfl := l.int
    exact ⟨_, rfl, p.val k (.int _)⟩
  · cases e
theorem u_int : U1R K (fun xs H Q => (∃ i, xs = [.int i] ∧ Q (.int i) H) ∨ ∃ k, xs = [.bl k] ∧ Q (.int (if k then 1 else 0)) H) intD := by
  intro B F ρ s σ H x d w Q k l e p
  unfold intD at e
  split at e
  · cases e
    obtain rfl := l.int
    exact .inl ⟨_, rfl, p.val k (.int _)⟩
  · cases e
    obtain rfl := l.bool
    exact .inr ⟨_, rfl, p.val k (.int _)⟩
  · cases e
theorem u_all : U1R K (rAll K) allD := by
  intro B F ρ s σ H x d w Q k l e p
  unfold allD at e
  split at e
  · rename_i ds
    cases q : boolsOf ds with
    | none => rw [q] at e; cases e
    | some bs =>
      rw [q] at e
      cases e
      obtain ⟨a, vs, rfl, sq, r⟩ := l.list
      have := bools_ok r q
      subst this
      exact ⟨a, bs, rfl, sq, p.val k (.bl _)⟩
  · cases e
theorem u_any : U1R K (rAny K) anyD := by
  intro B F ρ s σ H x d w Q k l e p
  unfold anyD at e
  split at e
  · rename_i ds
    cases q : boolsOf ds with
    | none => rw [q] at e; cases e
    | some bs =>
      rw [q] at e
      cases e
      obtain ⟨a, vs, rfl, sq, r⟩ := l.list
      have := bools_ok r q
      subst this
      exact ⟨a, bs, rfl, sq, p.val k (.bl _)⟩
  · cases e
theorem u_sum : U1R K (rSum K) sumD := by
  intro B F ρ s σ H x d w Q k l e p
  unfold sumD at e
  split at e
  · rename_i ds
    cases q : intsOf ds with
    | none => rw [q] at e; cases e
    | some bs =>
      rw [q] at e
      cases e
      obtain ⟨a, vs, rfl, sq, r⟩ := l.list
      have := ints_ok r q
      subst this
      exact ⟨a, bs, rfl, sq, p.val k (.int _)⟩
  · cases e
theorem foldl_max_mem : ∀ (ns : List Int) (n : Int), ns.foldl max n ∈ n :: ns ∧ ∀ y ∈ n :: ns, y ≤ ns.foldl max n
  | [], n => by simp
  | m :: ns, n => by
    obtain ⟨h1, h2⟩ := foldl_max_mem ns (max n m)
    simp only [List.foldl_cons]
    refine ⟨?_, fun y hy => ?_⟩
    · rcases List.mem_cons.mp h1 with h | h
      · rw [h]
        by_cases q : n ≤ m
        · rw [Int.max_eq_right q]; simp
        · rw [Int.max_eq_left (by omega)]; simp
      · simp [h]
    · have h3 := h2 (max n m) List.mem_cons_self
      rcases List.mem_cons.mp hy with h | h
      · subst h; omega
      · rcases List.mem_cons.mp h with h | h
        · subst h; omega
        · exact h2 y (List.mem_cons_of_mem _ h)
theorem foldl_min_mem : ∀ (ns : List Int) (n : Int), ns.foldl min n ∈ n :: ns ∧ ∀ y ∈ n :: ns, ns.foldl min n ≤ y
  | [], n => by simp
  | m :: ns, n => by
    obtain ⟨h1, h2⟩ := foldl_min_mem ns (min n m)
    simp only [List.foldl_cons]
    refine ⟨?_, fun y hy => ?_⟩
    · rcases List.mem_cons.mp h1 with h | h
      · rw [h]
        by_cases q : n ≤ m
        · rw [Int.min_eq_left q]; simp
        · rw [Int.min_eq_right (by omega)]; simp
      · simp [h]
    · have h3 := h2 (min n m) List.mem_cons_self
      rcases List.mem_cons.mp hy with h | h
      · subst h; omega
      · rcases List.mem_cons.mp h with h | h
        · subst h; omega
        · exact h2 y (List.mem_cons_of_mem _ h)
theorem u_max1 : U1R K (rMax K) max1D := by
  intro B F ρ s σ H x d w Q k l e p
  unfold max1D at e
  split at e
  · rename_i ds
    cases q : intsOf ds with
    | none => rw [q] at e; cases e
    | some bs =>
      rw [q] at e
      cases bs with
      | nil => cases e
      | cons n ns =>
        cases e
        obtain ⟨a, vs, rfl, sq, r⟩ := l.list
        have := ints_ok r q
        subst this
        obtain ⟨h1, h2⟩ := foldl_max_mem ns n
        refine ⟨a, n :: ns, rfl, sq, by simp, fun m hm hle => ?_⟩
        have : m = ns.foldl max n := Int.le_antisymm (h2 m hm) (hle _ h1)
        rw [this]
        exact p.val k (.int _)
  · cases e
theorem u_min1 : U1R K (rMin K) min1D := by
  intro B F ρ s σ H x d w Q k l e p
  unfold min1D at e
  split at e
  · rename_i ds
    cases q : intsOf ds with
    | none => rw [q] at e; cases e
    | some bs =>
      rw [q] at e
      cases bs with
      | nil => cases e
      | cons n ns =>
        cases e
        obtain ⟨a, vs, rfl, sq, r⟩ := l.list
        have := ints_ok r q
        subst this
        obtain ⟨h1, h2⟩ := foldl_min_mem ns n
        refine ⟨a, n :: ns, rfl, sq, by simp, fun m hm hle => ?_⟩
        have : m = ns.foldl min n := Int.le_antisymm (hle _ h1) (h2 m hm)
        rw [this]
        exact p.val k (.int _)
  · cases e
theorem u_tuple : U1R K (fun xs H Q => ∃ p ys, xs = [.ref p] ∧ ((SqL K H p ys ∧ ∀ l, H l = none → Q (.ref l) (upd H l (.tup ys))) ∨ (SqT K H p ys ∧ Q (.ref p) H))) tupleD := by
  intro B F ρ s σ H x d w Q k l e p
  unfold tupleD at e
  split at e
  · cases e
    obtain ⟨a, vs, rfl, sq, r⟩ := l.list
    exact ⟨a, vs, rfl, .inl ⟨sq, fun q hq => p.tup k r hq⟩⟩
  · cases e
    obtain ⟨a, vs, rfl, sq, r⟩ := l.tup
    exact ⟨a, vs, rfl, .inr ⟨sq, p.val k (.tup sq r)⟩⟩
  · cases e
theorem u_list : U1R K (fun xs H Q => ∃ p ys, xs = [.ref p] ∧ (SqL K H p ys ∨ SqT K H p ys) ∧ ∀ l, H l = none → Q (.ref l) (upd H l (.lst ys))) listD := by
  intro B F ρ s σ H x d w Q k l e p
  unfold listD at e
  split at e
  · cases e
    obtain ⟨a, vs, rfl, sq, r⟩ := l.list
    exact ⟨a, vs, rfl, .inl sq, fun q hq => p.own k r hq⟩
  · cases e
    obtain ⟨a, vs, rfl, sq, r⟩ := l.tup
    exact ⟨a, vs, rfl, .inr sq, fun q hq => p.own k r hq⟩
  · cases e
theorem u_max2 : U2R K (fun xs H Q => ∃ i j, xs = [.int i, .int j] ∧ Q (.int (if j > i then j else i)) H) max2D := by
  intro B F ρ s σ H x y d e w Q k l l' e' p
  unfold max2D at e'
  split at e'
  · cases e'
    obtain rfl := l.int
    obtain rfl := l'.int
    exact ⟨_, _, rfl, p.val k (.int _)⟩
  · cases e'
theorem u_min2 : U2R K (fun xs H Q => ∃ i j, xs = [.int i, .int j] ∧ Q (.int (if j < i then j else i)) H) min2D := by
  intro B F ρ s σ H x y d e w Q k l l' e' p
  unfold min2D at e'
  split at e'
  · cases e'
    obtain rfl := l.int
    obtain rfl := l'.int
    exact ⟨_, _, rfl, p.val k (.int _)⟩
  · cases e'
theorem u_gcd : U2R K rGcd gcdD := by
  intro B F ρ s σ H x y d e w Q k l l' e' p
  unfold gcdD at e'
  split at e'
  · cases e'
    obtain rfl := l.int
    obtain rfl := l'.int
    exact ⟨_, _, rfl, p.val k (.int _)⟩
  · cases e'
theorem u_divmod : U2R K (fun xs H Q => ∃ i j, xs = [.int i, .int j] ∧ CDiv i j ∧ ∀ p, H p = none → Q (.ref p) (upd H p (.tup [.int (i / j), .int (i % j)]))) divmodD := by
  intro B F ρ s σ H x y d e w Q k l l' e' p
  unfold divmodD at e'
  split at e'
  · split at e'
    · rename_i hz
      cases e'
      obtain rfl := l.int
      obtain rfl := l'.int
      exact ⟨_, _, rfl, hz, fun q hq => p.tup k (.cons (.int _) (.cons (.int _) .nil)) hq⟩
    · cases e'
  · cases e'
end
/-! ### isinstance, of built-in types -/
def typeN : D → String
  | .none => "NoneType"
  | .bool _ => "bool"
  | .int _ => "int"
  | .str _ => "str"
  | .list _ => "list"
  | .tuple _ => "tuple"
  | .dict _ => "dict"
def isi1 (T : String) (d : D) : Option W := (kitB (typeN d) T).map fun b => .val (.bool b)
def isiAny (t : String) : List String → Option Bool
  | [] => some false
  | T :: r => (kitB t T).bind fun b => if b then some true else isiAny t r
def isiT (Ts : List String) (d : D) : Option W := (isiAny (typeN d) Ts).map fun b => .val (.bool b)
theorem tyx_ok {K : PySem.W.Frag} {F : Fz} {H : Hp} {v : V} {d : D} (l : Lk K F H v d) : TyX K H v (.type (typeN d)) := by
  cases d with
  | none => obtain rfl := l.none; exact .base .non
  | bool b => obtain rfl := l.bool; exact .base (.bl _)
  | int i => obtain rfl := l.int; exact .base (.int _)
  | str z => obtain rfl := l.str; exact .base (.str _)
  | list ds =>
    obtain ⟨a, vs, rfl, sq, r⟩ := l.list
    rcases sq with (h | ⟨o, h⟩) | ⟨o, its, n, h1, h2, _⟩
    · exact .base (.lst h)
    · exact .base (.frz h)
    · exact .kList h1 h2
  | tuple ds =>
    obtain ⟨a, vs, rfl, sq, r⟩ := l.tup
    rcases sq with (h | ⟨o, h⟩) | ⟨o, its, n, h1, h2, _⟩
    · exact .base (.tup h)
    · exact .fTuple h
    · exact .kTuple h1 h2
  | dict l' =>
    obtain ⟨a, rfl, h⟩ := l.dict
    exact .base (.dK h)
section
variable {X : Cx} {Wx : WX} {pos p p2 : Pos} {a b e : Expr} {m m1 m2 : M W} {x : Str}
theorem i_isi {T : String} {y : Str} (ha : DE X Wx e m) (hm : X.mg "isinstance" = none) (hm2 : X.mg y = none) (hv2 : bootBuiltins y = some (.type T) := by decide +kernel) (hg : Gl X "isinstance" := by rfl) (hg2 : Gl X y := by rfl) (hn2 : y ≠ "__name__" := by decide) (hdb2 : (y == ("__debug__" : Str)) = false := by decide)
    (hs : starEach [e, .Name y p2] X.env = (false, eval e X.env) :: starEach [.Name y p2] X.env := by rfl) (hs2 : starEach [.Name y p2] X.env = (false, eval (.Name y p2) X.env) :: starEach [] X.env := by rfl) (hpl : (backTo pos (starEach [.Name y p2] X.env)).any (·.1) = false := by rfl) :
    DE X Wx (.Call (.Name "isinstance" p) [e, .Name y p2] [] pos) (op1 (isi1 T) m) :=
  pe_mono (pe_callB call_isi hg hm (by decide +kernel) (pa_cons ha (pa_cons (pe_bltn (v := .ty T) hg2 hm2 hv2 rfl hn2 hdb2) pa_nil hs2) hs) (by decide) (by decide) hs hpl) fun σ H Q h =>
    em_un (P := fun x H1 => rIsi X.K [x, .ty T] H1 Q) (fun {B F ρ s H _ _} k o h => by
      obtain ⟨d1, e1, h⟩ := Run.look h
      obtain ⟨w, e3, h⟩ := Run.ofO h
      have l := (content_ok k o e1).1
      have e4 : (kitB (typeN d1) T).map (fun b => W.val (.bool b)) = some w := by
        unfold isi1 at e3
        exact e3
      cases q : kitB (typeN d1) T with
      | none => rw [q] at e4; cases e4
      | some b =>
        rw [q] at e4
        cases e4
        exact ⟨_, _, _, _, b, rfl, .ty T, tyx_ok l, kit_ty q, h.val k (.bl b)⟩) h
theorem isiAny_ok {K : PySem.W.Frag} {t : String} : ∀ {Ts : List String} {b : Bool}, isiAny t Ts = some b → PySem.W.kitAny K (.type t) (Ts.map Value.type) = some b
  | [], b, e => by cases e; exact kitAny_nil
  | T :: r, b, e => by
    have e' : (kitB t T).bind (fun b => if b then some true else isiAny t r) = some b := e
    cases q : kitB t T with
    | none => rw [q] at e'; cases e'
    | some c =>
      rw [q] at e'
      refine kitAny_cons (kit_ty q) (fun hc => ?_) (fun hc => ?_)
      · subst hc
        exact isiAny_ok e'
      · subst hc
        cases e'
        rfl
theorem clsv_all : ∀ Ts : List String, Paired ClsV (Ts.map V.ty) (Ts.map Value.type)
  | [] => .nil
  | T :: r => .cons (.ty T) (clsv_all r)
/-- the names of built-in types, one by one -/
inductive TyNames (X : Cx) : List Expr → List String → Prop
  | nil : TyNames X [] []
  | cons {y : Str} {p : Pos} {T : String} {es : List Expr} {Ts : List String} (hm : X.mg y = none) (hv : bootBuiltins y = some (.type T)) (hg : Gl X y) (hn : y ≠ "__name__") (hdb : (y == ("__debug__" : Str)) = false)
      (hs : starEach (.Name y p :: es) X.env = (false, eval (.Name y p) X.env) :: starEach es X.env) : TyNames X es Ts → TyNames X (.Name y p :: es) (T :: Ts)
theorem tyNames_pa {es : List Expr} {Ts : List String} (h : TyNames X es Ts) : PA X es (fun _ H Q => Q (Ts.map V.ty) H) := by
  induction h with
  | nil => exact pa_nil
  | cons hm hv hg hn hdb hs _ ih => exact pa_mono (pa_cons (pe_bltn (v := .ty _) hg hm hv rfl hn hdb) ih hs) fun σ H Q q => q
theorem i_isiT {es : List Expr} {Ts : List String} {x1 : Nat} (ha : DE X Wx e m) (hm : X.mg "isinstance" = none) (ht : TyNames X es Ts) (hz : Ts.length ≤ 1000 := by decide) (hg : Gl X "isinstance" := by rfl)
    (hs : starEach [e, .Tuple es x1 p2] X.env = (false, eval e X.env) :: starEach [.Tuple es x1 p2] X.env := by rfl) (hs2 : starEach [.Tuple es x1 p2] X.env = (false, eval (.Tuple es x1 p2) X.env) :: starEach [] X.env := by rfl) (hpl : (backTo pos (starEach [.Tuple es x1 p2] X.env)).any (·.1) = false := by rfl) :
    DE X Wx (.Call (.Name "isinstance" p) [e, .Tuple es x1 p2] [] pos) (op1 (isiT Ts) m) :=
  pe_mono (pe_callB call_isiT hg hm (by decide +kernel) (pa_cons ha (pa_cons (pe_tup (tyNames_pa ht)) pa_nil hs2) hs) (by decide) (by decide) hs hpl) fun σ H Q h =>
    em_un (P := fun x H1 => (Ts.map V.ty).length ≤ sizeLine ∧ ∀ q, H1 q = none → rIsiT X.K [x, .ref q] (upd H1 q (.tup (Ts.map V.ty))) Q) (fun {B F ρ s H x w} k o h => by
      obtain ⟨d1, e1, h⟩ := Run.look h
      obtain ⟨w, e3, h⟩ := Run.ofO h
      have l := (content_ok k o e1).1
      have e4 : (isiAny (typeN d1) Ts).map (fun b => W.val (.bool b)) = some w := by
        unfold isiT at e3
        exact e3
      refine ⟨by rw [List.length_map, sizeLine_eq]; omega, fun q hq => ?_⟩
      cases qa : isiAny (typeN d1) Ts with
      | none => rw [qa] at e4; cases e4
      | some b =>
        rw [qa] at e4
        cases e4
        have l2 := (content_ok (k.new (o := .tup (Ts.map V.ty)) hq) (o.mono k (Ext.new_ hq)) e1).1
        exact ⟨_, q, _, _, _, b, rfl, upd_same, clsv_all Ts, tyx_ok l2, isiAny_ok qa, h F ρ _ _ (Ext.new_ hq) (k.new hq) (.bl b) trivial⟩) h
end
end Z
/-! Z, part 10: what is gone through: range, enumerate, zip. -/
namespace Z
open PySem PySem.Spec PyProof.Rows L2

/-! ### lists and tuples alike -/
def SqB (K : PySem.W.Frag) (H : Hp) (t : Bool) (a : Addr) (xs : List V) : Prop := match t with
  | true => SqT K H a xs
  | false => SqL K H a xs
def ItB (h : Heap) (t : Bool) (it a : Addr) (i : Nat) : Prop := match t with
  | true => h.IsTupleIter it a i
  | false => h.IsListIter it a i
def HasB (h : Heap) (t : Bool) (a : Addr) (its : Array Value) : Prop := match t with
  | true => h.IsTuple a its
  | false => h.IsList a its
def objB (t : Bool) (a : Addr) : Obj := match t with
  | true => { cls := .type "tuple_iterator", data := .fields #[.ref a, .int 0 0] }
  | false => { cls := .type "list_iterator", data := .fields #[.ref a, .int 0 0] }
section
variable {X : Cx} {pins : List (Addr × Obj)} {σ : Sg} {H : Hp} {s : Shared} {t : Bool} {a it : Addr} {xs ys : List V} {h h' : Heap} {i : Nat} {its : Array Value}
theorem inv_seq (I : Inv X pins σ H s) (q : SqB X.K H t a xs) : ∃ its : List Value, Vals xs its ∧ HasB s.heap t a its.toArray := by
  cases t with
  | true => obtain ⟨its, rv, p, _⟩ := I.tuple q; exact ⟨its, rv, p⟩
  | false => obtain ⟨its, rv, p, _⟩ := I.list q; exact ⟨its, rv, p.isList⟩
theorem inv_inj (I : Inv X pins σ H s) (q : SqB X.K H t a xs) (q' : SqB X.K H t a ys) : xs = ys := by
  cases t with
  | true => exact I.tuple_inj q q'
  | false => exact I.list_inj q q'
theorem HasB.lt (q : HasB h t a its) : a < h.objs.size := by
  cases t with
  | true => obtain ⟨_, e, _⟩ := (show h.IsTuple a its from q); exact Heap.lt_size e
  | false => obtain ⟨_, e, _⟩ := (show h.IsList a its from q); exact Heap.lt_size e
theorem ItB.get (q : ItB h t it a i) : ∃ o, h.get? it = some o ∧ ∀ v, o.data ≠ .cell v := by
  cases t with
  | true => obtain ⟨o, e, _, d⟩ := (show h.IsTupleIter it a i from q); exact ⟨o, e, fun v z => by rw [d] at z; cases z⟩
  | false => obtain ⟨o, e, _, d⟩ := (show h.IsListIter it a i from q); exact ⟨o, e, fun v z => by rw [d] at z; cases z⟩
theorem ItB.at_ (q : ItB h t it a i) (k : ∀ o, h.get? it = some o → h'.get? it = some o) : ItB h' t it a i := by
  cases t with
  | true => obtain ⟨o, e, r⟩ := (show h.IsTupleIter it a i from q); exact ⟨o, k o e, r⟩
  | false => obtain ⟨o, e, r⟩ := (show h.IsListIter it a i from q); exact ⟨o, k o e, r⟩
theorem draws_b {prog : Program} {w : World} {A : Around} (hh : A.handled = none) (hne : a ≠ it) (items : Array Value) :
    Draws prog w A it [it, a] items.size (fun i v => items[i]? = some v) (fun i h => ItB h t it a i ∧ HasB h t a items) := by
  cases t with
  | true => exact Draws.tuple hh it a hne items
  | false => exact Draws.list hh it a hne items
theorem begins_b (items : Array Value) : Begins (.ref a) (objB t a) fun h => HasB h t a items := by
  cases t with
  | true => exact begins_tuple a items
  | false => exact begins_list a items
theorem itB_new (e : h.get? it = some (objB t a)) : ItB h t it a 0 := by
  cases t with
  | true => exact ⟨_, e, rfl, rfl⟩
  | false => exact ⟨_, e, rfl, rfl⟩
end

/-! ### zip -/
def ItzB (K : PySem.W.Frag) (t u : Bool) (a b : Addr) : It :=
  ⟨fun i H => ∃ (xs ys : List V) (x y : V), SqB K H t a xs ∧ SqB K H u b ys ∧ xs[i]? = some x ∧ ys[i]? = some y,
    fun i H v H' => ∃ T x y, v = .ref T ∧ H T = none ∧ H' = upd H T (.tup [x, y]) ∧ (∀ xs, SqB K H t a xs → xs[i]? = some x) ∧ ∀ ys, SqB K H u b ys → ys[i]? = some y,
    fun i H => ∃ xs ys : List V, SqB K H t a xs ∧ SqB K H u b ys ∧ i = min xs.length ys.length⟩
theorem turn_zipB {P : Program} {w : World} {K : PySem.W.Frag} {elts : List Expr} {kk : Nat} {tpos : Pos} {t u : Bool} {a b z TI TO i1 i2 : Addr} (D : ZipSep2 z TI TO i1 i2 [i1, a] [i2, b]) (ha : a ≠ i1) (hb : b ≠ i2) :
    Turn P w K (.Tuple elts kk tpos) (ItzB K t u a b) [z, TI, TO, i1, i2] z (fun i h => IsZip h z TI TO .none ∧ IsTupOf2 h TI (.ref i1) (.ref i2) ∧ (∃ x y, IsTupOf2 h TO x y) ∧ ItB h t i1 a i ∧ ItB h u i2 b i) where
  mem := by simp
  obj := fun i h st c hc => by
    obtain ⟨hz, hTI, ⟨x, y, hTO⟩, g1, g2⟩ := st
    have e' : c = z ∨ c = TI ∨ c = TO ∨ c = i1 ∨ c = i2 := by simpa using hc
    rcases e' with q | q | q | q | q
    · rw [q]; exact ⟨_, hz, fun v q => nomatch q⟩
    · rw [q]; exact ⟨_, hTI, fun v q => nomatch q⟩
    · rw [q]; exact ⟨_, hTO, fun v q => nomatch q⟩
    · rw [q]; exact g1.get
    · rw [q]; exact g2.get
  keep := fun i h h' st k => by
    obtain ⟨hz, hTI, ⟨x, y, hTO⟩, h1, h2⟩ := st
    exact ⟨k z (by simp) _ hz, k TI (by simp) _ hTI, ⟨x, y, k TO (by simp) _ hTO⟩, h1.at_ fun o q => k i1 (by simp) o q, h2.at_ fun o q => k i2 (by simp) o q⟩
  item := by
    intro X hP hw hK hc i pins s σ H E I hf st hg
    subst hP hw hK
    obtain ⟨hz, hTI, hTO, h1, h2⟩ := st
    obtain ⟨xs, ys, x, y, hqx, hqy, hx, hy⟩ := hg
    obtain ⟨its, rv, p⟩ := inv_seq I hqx
    obtain ⟨its2, rv2, p2⟩ := inv_seq I hqy
    obtain ⟨v1, hu, ru⟩ := rv.get hx
    obtain ⟨v2, hu2, ru2⟩ := rv2.get hy
    have l1 := rv.length
    have l2 := rv2.length
    have hi : i < min its.toArray.size its2.toArray.size := by
      have := (List.getElem?_eq_some_iff.mp hu).1
      have := (List.getElem?_eq_some_iff.mp hu2).1
      simp
      omega
    have G := GoesN.zip2 (prog := X.prog) (w := X.w) (A := X.A) (elts := elts) (x1 := kk) (pos := tpos) D (draws_b (t := t) (A := X.A.in1) (I.ok.hd hc) ha its.toArray) (draws_b (t := u) (A := X.A.in1) (I.ok.hd hc) hb its2.toArray)
    refine G.goes i s (fun u s2 => ∃ x H', Inv X pins σ H' s2 ∧ RelV x u ∧ (ItzB X.K t _ a b).yld i H x H' ∧ _ ∧ ∀ b ∈ [z, TI, TO, i1, i2], H' b = none) E hi ⟨hz, hTI, hTO, ⟨h1, p⟩, ⟨h2, p2⟩⟩ fun v h' tk hY st' hk htk => ?_
    obtain ⟨T, w1, w2, rfl, hnew, e1, e2, hT⟩ := hY
    obtain ⟨z', TI', TO', ⟨g1, _⟩, ⟨g2, _⟩⟩ := st'
    have q1 : w1 = v1 := Option.some.inj (e1.symm.trans (by simpa using hu))
    have q2 : w2 = v2 := Option.some.inj (e2.symm.trans (by simpa using hu2))
    subst q1 q2
    have new : ObjOk X.prog X.w (upd H T (.tup [x, y])) h' T (.tup [x, y]) := ⟨by show 2 ≤ sizeLine; decide, [w1, w2], .cons ru (.cons ru2 .nil), hT⟩
    have hsub : ∀ c, c ∈ [z, TO, i1, i2] → c ∈ [z, TI, TO, i1, i2] := fun c hc => by simp at hc ⊢; rcases hc with q | q | q | q <;> simp [q]
    have I1 : Inv X pins σ (upd H T (.tup [x, y])) { s with heap := h', toks := tk } :=
      I.turnedNew (ch := [z, TO, i1, i2]) (fun c o hb q => hk c o hb q) (fun c hc => hf c (hsub c hc)) hnew new
    have hlt : ∀ c ∈ [z, TI, TO, i1, i2], c < s.heap.objs.size := fun c hc => by
      have e' : c = z ∨ c = TI ∨ c = TO ∨ c = i1 ∨ c = i2 := by simpa using hc
      rcases e' with q | q | q | q | q
      · rw [q]; exact Heap.lt_size hz
      · rw [q]; exact Heap.lt_size hTI
      · rw [q]; obtain ⟨_, _, e⟩ := hTO; exact Heap.lt_size e
      · rw [q]; obtain ⟨_, e, _⟩ := h1.get; exact Heap.lt_size e
      · rw [q]; obtain ⟨_, e, _⟩ := h2.get; exact Heap.lt_size e
    refine ⟨.ref T, _, I1, rfl, ⟨T, x, y, rfl, I.hok.fresh hnew, rfl, fun l hl => by rw [inv_inj I hl hqx]; exact hx, fun l hl => by rw [inv_inj I hl hqy]; exact hy⟩, ⟨z', TI', TO', g1, g2⟩, fun c hcm => ?_⟩
    have : c ≠ T := fun q => absurd (hlt c hcm) (by rw [q]; exact Nat.not_lt.mpr hnew)
    rw [upd_ne this]
    exact (hf c hcm).1
  done := by
    intro X hP hw hK hc i pins s σ H E I hf st hg
    subst hP hw hK
    obtain ⟨hz, hTI, hTO, h1, h2⟩ := st
    obtain ⟨xs, ys, hqx, hqy, hend⟩ := hg
    obtain ⟨its, rv, p⟩ := inv_seq I hqx
    obtain ⟨its2, rv2, p2⟩ := inv_seq I hqy
    have l1 := rv.length
    have l2 := rv2.length
    have hi : i = min its.toArray.size its2.toArray.size := by
      simp
      omega
    have G := GoesN.zip2 (prog := X.prog) (w := X.w) (A := X.A) (elts := elts) (x1 := kk) (pos := tpos) D (draws_b (t := t) (A := X.A.in1) (I.ok.hd hc) ha its.toArray) (draws_b (t := u) (A := X.A.in1) (I.ok.hd hc) hb its2.toArray)
    have hsub : ∀ c, c ∈ [z, TO, i1, i2] → c ∈ [z, TI, TO, i1, i2] := fun c hc => by simp at hc ⊢; rcases hc with q | q | q | q <;> simp [q]
    refine G.stops s _ E ?_ fun h' tk hk htk => I.turnedL (t' := tk) (ch := [z, TO, i1, i2]) (fun c o hb q => hk c o hb q) fun c hc => hf c (hsub c hc)
    rw [← hi]
    exact ⟨hz, hTI, hTO, ⟨h1, p⟩, ⟨h2, p2⟩⟩
  self := fun A i s Q E st h => wpAny_pyIter_zip st.1 h
def iZipB (K : PySem.W.Frag) (ta : TA) : TI := fun σ H R => ta σ H fun vs H1 => ∃ a b t u xs ys, vs = [.ref a, .ref b] ∧ SqB K H1 t a xs ∧ SqB K H1 u b ys ∧ R (ItzB K t u a b) H1
theorem pi_zipB {X : Cx} {e e2 : Expr} {ta : TA} {p pos tpos : Pos} {elts : List Expr} {kk : Nat} (hg : Gl X "zip") (hm : X.mg "zip" = none) (ha : PA X [e, e2] ta)
    (hs : starEach [e, e2] X.env = (false, eval e X.env) :: starEach [e2] X.env := by rfl) (hpl : (backTo pos (starEach [e2] X.env)).any (·.1) = false := by rfl) :
    PI X (.Tuple elts kk tpos) (.Call (.Name "zip" p) [e, e2] [] pos) (iZipB X.K ta) := by
  refine ⟨fun pins s σ H R I h => ?_⟩
  refine Call_ (ld_blt I hg hm PyProof.Rows.boot_zip (PyProof.Rows.callWith_type1 (thn (ha.run pos pins s σ H _ I h) fun us s1 ⟨vs, H1, I1, r1, q1⟩ => ?_) hs hpl))
  obtain ⟨a, b, t, u, xs, ys, ex, hqx, hqy, q⟩ := q1
  subst ex
  cases r1 with
  | cons r rr =>
    cases rr with
    | cons r' rr =>
      cases rr
      cases r
      cases r'
      obtain ⟨its, rv, p1⟩ := inv_seq I1 hqx
      obtain ⟨its2, rv2, p2⟩ := inv_seq I1 hqy
      have la := p1.lt
      have lb := p2.lt
      refine zip_begins2 (begins_b its.toArray) (begins_b its2.toArray) p1 p2 fun h' hz hTI hTO g1 g2 hsz hk => wpAny_pyIter_zip hz ?_
      have I2 : Inv X pins σ H1 { s1 with heap := h' } := I1.kept (t' := s1.toks) hk
      have la' : a ≠ s1.heap.objs.size := Nat.ne_of_lt la
      have lb' : b ≠ s1.heap.objs.size + 1 := Nat.ne_of_lt (Nat.lt_succ_of_lt lb)
      refine ⟨s1.heap.objs.size + 4, [s1.heap.objs.size + 4, s1.heap.objs.size + 2, s1.heap.objs.size + 3, s1.heap.objs.size, s1.heap.objs.size + 1], _, _, H1, rfl, I2,
        turn_zipB (zip_sep2 (fun c hc => by simp at hc; rw [hc]; exact la) (fun c hc => by simp at hc; rw [hc]; exact lb)) la' lb', ⟨hz, hTI, ⟨_, _, hTO⟩, itB_new g1, itB_new g2⟩, fun c hcm => ?_, q⟩
      have e' : c = s1.heap.objs.size + 4 ∨ c = s1.heap.objs.size + 2 ∨ c = s1.heap.objs.size + 3 ∨ c = s1.heap.objs.size ∨ c = s1.heap.objs.size + 1 := by simpa using hcm
      have hle : s1.heap.objs.size ≤ c := by
        rcases e' with z | z | z | z | z
        · rw [z]; exact Nat.le_add_right _ _
        · rw [z]; exact Nat.le_add_right _ _
        · rw [z]; exact Nat.le_add_right _ _
        · rw [z]; exact Nat.le_refl _
        · rw [z]; exact Nat.le_add_right _ _
      exact I1.fpOk hle (I1.hok.fresh hle)
theorem walk_zipB {K : PySem.W.Frag} {t u : Bool} {a b : Addr} {xs ys : List V} {n : Nat} (hn : n = min xs.length ys.length) (hinj : ∀ H zs, SqB K H t a xs → SqB K H t a zs → True) :
    Walk (ItzB K t u a b) n (fun H => SqB K H t a xs ∧ SqB K H u b ys) (YPair (fun i => xs[i]?) (fun i => ys[i]?)) := by
  subst hn
  refine ⟨fun i _ hi q => ?_, fun _ q => ⟨xs, ys, q.1, q.2, rfl⟩, fun i H v H' _ q y => ?_⟩
  · have h1 : i < xs.length := by omega
    have h2 : i < ys.length := by omega
    exact ⟨xs, ys, xs[i], ys[i], q.1, q.2, by simp [h1], by simp [h2]⟩
  · obtain ⟨T, x, z, h1, h2, h3, h4, h5⟩ := y
    exact ⟨T, x, z, h1, h2, h3, h4 xs q.1, h5 ys q.2⟩
end Z
/-! Z, part 11: enumerate; the sources as readings. -/
namespace Z
open PySem PySem.Spec PyProof.Rows L2

/-! ### enumerate over a list or a tuple, from a start -/
def IteB (K : PySem.W.Frag) (t : Bool) (a : Addr) (k : Int) : It :=
  ⟨fun i H => ∃ (xs : List V) (x : V), SqB K H t a xs ∧ xs[i]? = some x, fun i H v H' => ∃ T x, v = .ref T ∧ H T = none ∧ H' = upd H T (.tup [.int (k + (i : Nat)), x]) ∧ ∀ xs, SqB K H t a xs → xs[i]? = some x,
    fun i H => ∃ xs : List V, SqB K H t a xs ∧ i = xs.length⟩
theorem turn_enumB {P : Program} {w : World} {K : PySem.W.Frag} {elts : List Expr} {kk : Nat} {tpos : Pos} {t : Bool} {k0 : Int} {a e it : Addr} (hne : e ≠ it) (ha : a ≠ it) (hea : e ≠ a) :
    Turn P w K (.Tuple elts kk tpos) (IteB K t a k0) [e, it] e (fun i h => (∃ old, IsEnum h e it (k0 + ((i : Nat) : Int)) old) ∧ ItB h t it a i) where
  mem := by simp
  obj := fun i h st b hb => by
    obtain ⟨⟨old, he⟩, g⟩ := st
    have e' : b = e ∨ b = it := by simpa using hb
    rcases e' with z | z
    · rw [z]; exact ⟨_, he, fun v q => nomatch q⟩
    · rw [z]; exact g.get
  keep := fun i h h' st k => let ⟨⟨old, he⟩, hi⟩ := st; ⟨⟨old, k e (by simp) _ he⟩, hi.at_ fun o q => k it (by simp) o q⟩
  item := by
    intro X hP hw hK hc i pins s σ H E I hf st hg
    subst hP hw hK
    obtain ⟨he, h1⟩ := st
    obtain ⟨xs, x, hqx, hx⟩ := hg
    obtain ⟨its, rv, p⟩ := inv_seq I hqx
    obtain ⟨v1, hu, ru⟩ := rv.get hx
    have l1 := rv.length
    have hi : i < its.toArray.size := by
      have := (List.getElem?_eq_some_iff.mp hu).1
      simpa using this
    have G := GoesN.enumFrom (prog := X.prog) (w := X.w) (A := X.A) (elts := elts) (x1 := kk) (pos := tpos) k0 (draws_b (t := t) (A := X.A.in1) (I.ok.hd hc) ha its.toArray) e hne (by simp [hne, hea]) (by simp)
    refine G.goes i s (fun u s2 => ∃ x H', Inv X pins σ H' s2 ∧ RelV x u ∧ (IteB X.K t a k0).yld i H x H' ∧ _ ∧ ∀ b ∈ [e, it], H' b = none) E hi ⟨he, ⟨h1, p⟩⟩ fun v h' tk hY st' hk htk => ?_
    obtain ⟨T, tt, w1, rfl, hnew, e1, hT⟩ := hY
    obtain ⟨z', ⟨g1, _⟩⟩ := st'
    have q1 : w1 = v1 := Option.some.inj (e1.symm.trans (by simpa using hu))
    subst q1
    have new : ObjOk X.prog X.w (upd H T (.tup [.int (k0 + (i : Nat)), x])) h' T (.tup [.int (k0 + (i : Nat)), x]) := ⟨by show 2 ≤ sizeLine; decide, [.int (k0 + (i : Int)) tt, w1], .cons ⟨_, rfl⟩ (.cons ru .nil), hT⟩
    have I1 : Inv X pins σ (upd H T (.tup [.int (k0 + (i : Nat)), x])) { s with heap := h', toks := tk } :=
      I.turnedNew (ch := [e, it]) (fun c o hb q => hk c o hb q) (fun c hc => hf c hc) hnew new
    have hlt : ∀ c ∈ [e, it], c < s.heap.objs.size := fun c hc => by
      have e' : c = e ∨ c = it := by simpa using hc
      rcases e' with q | q
      · rw [q]; obtain ⟨_, e⟩ := he; exact Heap.lt_size e
      · rw [q]; obtain ⟨_, e, _⟩ := h1.get; exact Heap.lt_size e
    refine ⟨.ref T, _, I1, rfl, ⟨T, x, rfl, I.hok.fresh hnew, rfl, fun l hl => by rw [inv_inj I hl hqx]; exact hx⟩, ⟨z', g1⟩, fun c hcm => ?_⟩
    have : c ≠ T := fun q => absurd (hlt c hcm) (by rw [q]; exact Nat.not_lt.mpr hnew)
    rw [upd_ne this]
    exact (hf c hcm).1
  done := by
    intro X hP hw hK hc i pins s σ H E I hf st hg
    subst hP hw hK
    obtain ⟨he, h1⟩ := st
    obtain ⟨xs, hqx, hend⟩ := hg
    obtain ⟨its, rv, p⟩ := inv_seq I hqx
    have l1 := rv.length
    have hi : i = its.toArray.size := by
      simp
      omega
    have G := GoesN.enumFrom (prog := X.prog) (w := X.w) (A := X.A) (elts := elts) (x1 := kk) (pos := tpos) k0 (draws_b (t := t) (A := X.A.in1) (I.ok.hd hc) ha its.toArray) e hne (by simp [hne, hea]) (by simp)
    refine G.stops s _ E ?_ fun h' tk hk htk => I.turnedL (t' := tk) (ch := [e, it]) (fun c o hb q => hk c o hb q) fun c hc => hf c hc
    rw [← hi]
    exact ⟨he, ⟨h1, p⟩⟩
  self := fun A i s Q E st h => let ⟨⟨_, he⟩, _⟩ := st; wpAny_pyIter_enum he h
set_option maxHeartbeats 1000000 in
theorem meets_enumerate_new1 {v : Value} {o : Obj} {H : Heap → Prop} (B : Begins v o H) :
    Meets (Builtin.«enumerate.__new__» ⟨[.type "enumerate", v], []⟩) (fun _ R s => H s.heap ∧
      R (.ok (.ret (.ref (s.heap.push o).objs.size))) { s with heap := (s.heap.push o).push { cls := .type "enumerate", data := .fields #[.none, .bool false, .ref s.heap.objs.size, rawInt 0, .none, .none] } }) :=
  .of_wp fun prog w A R s h => by
    obtain ⟨hp, g, d, tk, os⟩ := s; obtain ⟨h1, h⟩ := h
    have hsub := sub_enumerate
    have q1 : ∀ {A' : Around} {E : Value → Shared → Prop} {Q : Value → Shared → Prop}, Q (.ref hp.objs.size) ⟨hp.push o, g, d, tk, os⟩ → wpAny (model prog w) A' (pyIter v) Q E ⟨hp, g, d, tk, os⟩ :=
      fun q => B.iter prog w _ _ ⟨hp, g, d, tk, os⟩ _ h1 q
    wp_walk using q1
    refine wpAny_stack_any fun st => wpAny_pure ?_
    split
    · rename_i c _ _ _ _ _
      cases (c == Value.type "enumerate")
      · wp_walk using q1
        exact ⟨_, rfl, h⟩
      · wp_walk using q1
        exact ⟨_, rfl, h⟩
    · wp_walk using q1
      exact ⟨_, rfl, h⟩
theorem enum_begins1 {prog : Program} {w : World} {A : Around} {E : Value → Shared → Prop} {s : Shared} {v : Value} {o : Obj} {H : Heap → Prop} {Q : Value → Shared → Prop} (B : Begins v o H) (h1 : H s.heap)
    (h : ∀ h', IsEnum h' (s.heap.objs.size + 1) s.heap.objs.size 0 .none → h'.get? s.heap.objs.size = some o → h'.objs.size = s.heap.objs.size + 2 →
      (∀ b o, s.heap.get? b = some o → h'.get? b = some o) → Q (.ref (s.heap.objs.size + 1)) { s with heap := h' }) :
    wpAny (model prog w) A (call (.type "enumerate") [v]) Q E s := by
  refine callType_new F.called_enumerate (by decide) (F.typeCall_enumerate_1 _) (F.newCall_enumerate_1 _) (fun obj => F.args_object_init_2 obj _) F.entry_enumerate_new
    (meets_enumerate_new1 B) ⟨h1, ?_⟩
  have hz : (s.heap.push o).objs.size = s.heap.objs.size + 1 := Heap.size_push ..
  show _ ∧ _
  rw [hz]
  have he : IsEnum ((s.heap.push o).push { cls := .type "enumerate", data := .fields #[.none, .bool false, .ref s.heap.objs.size, rawInt 0, .none, .none] }) (s.heap.objs.size + 1) s.heap.objs.size 0 .none := by
    have := Heap.get?_push_size (s.heap.push o) (o := { cls := .type "enumerate", data := .fields #[.none, .bool false, .ref s.heap.objs.size, rawInt 0, .none, .none] }) rfl
    rw [hz] at this; exact this
  refine ⟨⟨_, he, rfl⟩, h _ he (Heap.get?_push_of_some _ (Heap.get?_push_size _ B.free)) (by rw [Heap.size_push, hz]) fun b o x => Heap.get?_push_of_some _ (Heap.get?_push_of_some _ x)⟩
def iEnumB (K : PySem.W.Frag) (ta : TA) : TI := fun σ H R => ta σ H fun vs H1 => ∃ a t xs, vs = [.ref a] ∧ SqB K H1 t a xs ∧ R (IteB K t a 0) H1
def iEnumB2 (K : PySem.W.Frag) (ta : TA) : TI := fun σ H R => ta σ H fun vs H1 => ∃ a t xs k, vs = [.ref a, .int k] ∧ SqB K H1 t a xs ∧ -(2 ^ 63) ≤ k ∧ k < 2 ^ 63 ∧ R (IteB K t a k) H1
section
variable {X : Cx} {e e2 : Expr} {ta : TA} {p pos tpos : Pos} {elts : List Expr} {kk : Nat}
theorem enum_pie {pins : List (Addr × Obj)} {σ : Sg} {H : Hp} {s : Shared} {R : It → Hp → Prop} {t : Bool} {a : Addr} {xs : List V} {k : Int} {E : Value → Shared → Prop} {h' : Heap} (I1 : Inv X pins σ H s) (hq : SqB X.K H t a xs) (q : R (IteB X.K t a k) H)
    (he : IsEnum h' (s.heap.objs.size + 1) s.heap.objs.size k .none) (g1 : h'.get? s.heap.objs.size = some (objB t a)) (hk : ∀ b o, s.heap.get? b = some o → h'.get? b = some o) (la : a < s.heap.objs.size) :
    wpAny (model X.prog X.w) X.A (pyIter (.ref (s.heap.objs.size + 1))) (PIE X pins σ (.Tuple elts kk tpos) R) E { s with heap := h' } := by
  refine wpAny_pyIter_enum he ?_
  have I2 : Inv X pins σ H { s with heap := h' } := I1.kept (t' := s.toks) hk
  refine ⟨s.heap.objs.size + 1, [s.heap.objs.size + 1, s.heap.objs.size], _, _, H, rfl, I2, turn_enumB (Nat.succ_ne_self _) (Nat.ne_of_lt la) (Nat.ne_of_gt (Nat.lt_succ_of_lt la)), ⟨⟨.none, ?_⟩, itB_new g1⟩, fun b hb => ?_, q⟩
  · have e1 : k + ((0 : Nat) : Int) = k := by simp
    rw [e1]; exact he
  · have e' : b = s.heap.objs.size + 1 ∨ b = s.heap.objs.size := by simpa using hb
    have hle : s.heap.objs.size ≤ b := by
      rcases e' with z | z
      · rw [z]; exact Nat.le_add_right _ _
      · rw [z]; exact Nat.le_refl _
    exact I1.fpOk hle (I1.hok.fresh hle)
theorem pi_enumB (hg : Gl X "enumerate") (hm : X.mg "enumerate" = none) (ha : PA X [e] ta) (hs : starEach [e] X.env = [(false, eval e X.env)] := by rfl) :
    PI X (.Tuple elts kk tpos) (.Call (.Name "enumerate" p) [e] [] pos) (iEnumB X.K ta) := by
  refine ⟨fun pins s σ H R I h => ?_⟩
  refine Call_ (ld_blt I hg hm boot_enumerate (PyProof.Rows.callWith_type1 (thn (ha.run pos pins s σ H _ I h) fun us s1 ⟨vs, H1, I1, r1, q1⟩ => ?_) hs rfl))
  obtain ⟨a, t, xs, ex, hq, q⟩ := q1
  subst ex
  cases r1 with
  | cons r rr =>
    cases rr
    cases r
    obtain ⟨its, rv, p'⟩ := inv_seq I1 hq
    exact enum_begins1 (begins_b its.toArray) p' fun h' he g1 hsz hk => enum_pie I1 hq q he g1 hk p'.lt
theorem pi_enumB2 (hg : Gl X "enumerate") (hm : X.mg "enumerate" = none) (ha : PA X [e, e2] ta) (hs : starEach [e, e2] X.env = (false, eval e X.env) :: starEach [e2] X.env := by rfl) (hpl : (backTo pos (starEach [e2] X.env)).any (·.1) = false := by rfl) :
    PI X (.Tuple elts kk tpos) (.Call (.Name "enumerate" p) [e, e2] [] pos) (iEnumB2 X.K ta) := by
  refine ⟨fun pins s σ H R I h => ?_⟩
  refine Call_ (ld_blt I hg hm boot_enumerate (PyProof.Rows.callWith_type1 (thn (ha.run pos pins s σ H _ I h) fun us s1 ⟨vs, H1, I1, r1, q1⟩ => ?_) hs hpl))
  obtain ⟨a, t, xs, k, ex, hq, hk0, hk1, q⟩ := q1
  subst ex
  cases r1 with
  | cons r rr =>
    cases rr with
    | cons r' rr =>
      cases rr
      cases r
      obtain ⟨tt, rfl⟩ := r'
      obtain ⟨its, rv, p'⟩ := inv_seq I1 hq
      exact enum_begins (begins_b its.toArray) p' hk0 hk1 fun h' he g1 hsz hk => enum_pie I1 hq q he g1 hk p'.lt
end
theorem walk_enumB {K : PySem.W.Frag} {t : Bool} {a : Addr} {k : Int} {xs : List V} : Walk (IteB K t a k) xs.length (fun H => SqB K H t a xs) (YPair (fun i => some (.int (k + (i : Nat)))) (fun i => xs[i]?)) := by
  refine ⟨fun i _ hi q => ⟨xs, xs[i], q, by simp [hi]⟩, fun _ q => ⟨xs, q, rfl⟩, fun i H v H' _ q y => ?_⟩
  obtain ⟨T, x, h1, h2, h3, h4⟩ := y
  exact ⟨T, .int (k + (i : Nat)), x, h1, h2, h3, rfl, h4 xs q⟩

/-! ### the readings -/
section
variable {K : PySem.W.Frag} {mg : Str → Option Value} {B : Base} {F : Fz} {ρ : List Addr} {s : S} {σ : Sg} {H : Hp} {v v2 : V} {w : W} {ds es : List D}
theorem seq_ok (k : Ok K B F ρ s σ H) (o : WOk K B F ρ s σ H v w) (e : itemsD w = some ds) : ∃ a t vs, v = .ref a ∧ RpAll K F H vs ds ∧ ∀ F2 H2, SX F H F2 H2 → SqB K H2 t a vs := by
  cases w with
  | val d =>
    have r : Rp K F H v d := o
    cases d with
    | list ys =>
      cases e
      cases r with
      | @lst a xs _ f e r => exact ⟨a, false, xs, rfl, r, fun F2 H2 x => SqL.of (x.stay a _ e (.inl f))⟩
    | tuple ys =>
      cases e
      cases r with
      | @tup a xs _ e r => exact ⟨a, true, xs, rfl, r, fun F2 H2 x => sqT_stay x.stay e⟩
    | _ => cases e
  | scr ns =>
    cases e
    obtain ⟨a, rfl, hs⟩ := o
    exact ⟨a, false, _, rfl, rp_ints ns, fun F2 H2 x => (hs.mono x.stay).sq⟩
  | fn x => cases e
  | exc xx => cases e
  | _ => cases e
def pairs : List D → List D → List D
  | x :: xs, y :: ys => .tuple [x, y] :: pairs xs ys
  | _, _ => []
theorem pairs_length : ∀ xs ys : List D, (pairs xs ys).length = min xs.length ys.length
  | [], ys => by simp [pairs]
  | x :: xs, [] => by simp [pairs]
  | x :: xs, y :: ys => by
    have := pairs_length xs ys
    simp only [pairs, List.length_cons, this]
    omega
theorem pairs_get : ∀ (xs ys : List D) (i : Nat) (d : D), (pairs xs ys)[i]? = some d → ∃ x y, xs[i]? = some x ∧ ys[i]? = some y ∧ d = .tuple [x, y]
  | [], ys, i, d, h => by simp [pairs] at h
  | x :: xs, [], i, d, h => by simp [pairs] at h
  | x :: xs, y :: ys, 0, d, h => by simp [pairs] at h; exact ⟨x, y, rfl, rfl, h.symm⟩
  | x :: xs, y :: ys, i + 1, d, h => by
    obtain ⟨x', y', e1, e2, e3⟩ := pairs_get xs ys i d (by simpa [pairs] using h)
    exact ⟨x', y', by simpa using e1, by simpa using e2, e3⟩
def numbered : Int → List D → List D
  | _, [] => []
  | k, x :: xs => .tuple [.int k, x] :: numbered (k + 1) xs
theorem numbered_length : ∀ (xs : List D) (k : Int), (numbered k xs).length = xs.length
  | [], k => rfl
  | x :: xs, k => by simp [numbered, numbered_length xs]
theorem numbered_get : ∀ (xs : List D) (k : Int) (i : Nat) (d : D), (numbered k xs)[i]? = some d → ∃ x, xs[i]? = some x ∧ d = .tuple [.int (k + (i : Nat)), x]
  | [], k, i, d, h => by simp [numbered] at h
  | x :: xs, k, 0, d, h => by simp [numbered] at h; exact ⟨x, rfl, by simp [h]⟩
  | x :: xs, k, i + 1, d, h => by
    obtain ⟨x', e1, e2⟩ := numbered_get xs (k + 1) i d (by simpa [numbered] using h)
    refine ⟨x', by simpa using e1, ?_⟩
    rw [e2]
    have : k + 1 + (i : Int) = k + ((i + 1 : Nat) : Int) := by omega
    rw [this]
theorem pair_rp {F1 : Fz} {H1 H' : Hp} {x y v : V} {d1 d2 : D} {T : Addr} (r1 : Rp K F1 H1 x d1) (r2 : Rp K F1 H1 y d2) (hT : H1 T = none) (e : H' = upd H1 T (.tup [x, y])) : Rp K F1 H' (.ref T) (.tuple [d1, d2]) := by
  subst e
  exact .tup (SqT.of upd_same) (.cons (r1.st (stay_upd hT) fun _ z => z) (.cons (r2.st (stay_upd hT) fun _ z => z) .nil))
theorem walkD_zip {t u : Bool} {a b : Addr} {xs ys : List V} {F1 : Fz} {H1 : Hp} (q1 : ∀ F2 H2, SX F1 H1 F2 H2 → SqB K H2 t a xs) (q2 : ∀ F2 H2, SX F1 H1 F2 H2 → SqB K H2 u b ys) (r1 : RpAll K F1 H1 xs ds) (r2 : RpAll K F1 H1 ys es) : WalkD K (ItzB K t u a b) (pairs ds es) F1 H1 := by
  refine ⟨_, _, walk_zipB (xs := xs) (ys := ys) (by rw [pairs_length, r1.length, r2.length]) fun _ _ _ _ => trivial, fun F H x => ⟨q1 F H x, q2 F H x⟩, fun i F H x H' d sx ed y => ?_⟩
  obtain ⟨T, v1, v2, rfl, hT, hH, e1, e2⟩ := y
  obtain ⟨d1, d2, g1, g2, rfl⟩ := pairs_get ds es i d ed
  obtain ⟨w1, f1, p1⟩ := r1.get g1
  obtain ⟨w2, f2, p2⟩ := r2.get g2
  have e1' : xs[i]? = some v1 := e1
  have e2' : ys[i]? = some v2 := e2
  rw [f1] at e1'; cases e1'
  rw [f2] at e2'; cases e2'
  exact ⟨.inr ⟨T, _, hT, hH⟩, pair_rp (v := .ref T) (sx.rp p1) (sx.rp p2) hT hH⟩
theorem walkD_enum {t : Bool} {a : Addr} {xs : List V} {F1 : Fz} {H1 : Hp} {k0 : Int} (q1 : ∀ F2 H2, SX F1 H1 F2 H2 → SqB K H2 t a xs) (r1 : RpAll K F1 H1 xs ds) : WalkD K (IteB K t a k0) (numbered k0 ds) F1 H1 := by
  refine ⟨_, _, by rw [numbered_length, ← r1.length]; exact walk_enumB (xs := xs), fun F H x => q1 F H x, fun i F H x H' d sx ed y => ?_⟩
  obtain ⟨T, v1, v2, rfl, hT, hH, e1, e2⟩ := y
  obtain ⟨d2, g2, rfl⟩ := numbered_get ds k0 i d ed
  obtain ⟨w2, f2, p2⟩ := r1.get g2
  have e1' : some (V.int (k0 + (i : Nat))) = some v1 := e1
  have e2' : xs[i]? = some v2 := e2
  cases e1'
  rw [f2] at e2'; cases e2'
  exact ⟨.inr ⟨T, _, hT, hH⟩, pair_rp (v := .ref T) (.int _) (sx.rp p2) hT hH⟩
def rangeD (lo : Int) (n : Nat) : List D := (List.range n).map fun i => .int (lo + (i : Nat))
theorem walkD_range {lo : Int} {n : Nat} {F1 : Fz} {H1 : Hp} : WalkD K (Itr lo n) (rangeD lo n) F1 H1 := by
  refine ⟨_, _, by rw [show (rangeD lo n).length = n by simp [rangeD]]; exact walk_range, fun F H x => trivial, fun i F H x H' d sx ed y => ?_⟩
  obtain ⟨e1, e2⟩ := y
  subst e1 e2
  refine ⟨.inl rfl, ?_⟩
  unfold rangeD at ed
  rw [List.getElem?_map] at ed
  cases q : (List.range n)[i]? with
  | none => rw [q] at ed; cases ed
  | some j =>
    rw [q] at ed
    obtain ⟨h1, h2⟩ := List.getElem?_eq_some_iff.mp q
    simp at h2
    subst h2
    cases ed
    exact .int _
end
def srcA (f : List W → Option (List D)) (ma : M (List W)) : M (List D) := ma >>= fun ws => ofO (f ws)
def zipW : List W → Option (List D)
  | [a, b] => (itemsD a).bind fun x => (itemsD b).map fun y => pairs x y
  | _ => none
def enumW : List W → Option (List D)
  | [a] => (itemsD a).map (numbered 0)
  | _ => none
def enumW2 : List W → Option (List D)
  | [a, .val (.int k)] => if -(2 ^ 63) ≤ k ∧ k < 2 ^ 63 then (itemsD a).map (numbered k) else none
  | _ => none
def rangeW : List W → Option (List D)
  | [.val (.int j)] => if -(2 ^ 62) ≤ j ∧ j < 2 ^ 62 then some (rangeD 0 j.toNat) else none
  | _ => none
def rangeW2 : List W → Option (List D)
  | [.val (.int i), .val (.int j)] => if -(2 ^ 62) ≤ i ∧ i < 2 ^ 62 ∧ -(2 ^ 62) ≤ j ∧ j < 2 ^ 62 then some (rangeD i (j - i).toNat) else none
  | _ => none
section
variable {X : Cx} {Wx : WX} {e e2 : Expr} {ma : M (List W)} {p pos tpos : Pos} {elts : List Expr} {kk : Nat} {tg : Expr}
theorem srcA_step {K : PySem.W.Frag} {mg : Str → Option Value} {σ : Sg} {H : Hp} {R : It → Hp → Prop} {P : List V → Hp → Prop} {f : List W → Option (List D)}
    (hr : ∀ {B F ρ s H vs ws ds}, Ok K B F ρ s σ H → WAll K B F ρ s σ H vs ws → f ws = some ds → (∀ J, WalkD K J ds F H → R J H) → P vs H) (h : SI K mg Wx (srcA f ma) σ H R) : AM K mg Wx ma σ H P := by
  obtain ⟨B, F, ρ, s, k, h⟩ := h
  exact ⟨B, F, ρ, s, k, (Run.bind h).mono (fun ws s1 _ h1 F1 ρ1 H1 vs e1 k1 o1 => by
    obtain ⟨ds, ed, h2⟩ := Run.ofO h1
    exact hr k1 o1 ed fun J wd => h2 F1 ρ1 H1 J e1 k1 wd) fun _ _ _ e => e⟩
theorem d_zip (hm : X.mg "zip" = none) (ha : DA X Wx [e, e2] ma) (hg : Gl X "zip" := by rfl)
    (hs : starEach [e, e2] X.env = (false, eval e X.env) :: starEach [e2] X.env := by rfl) (hpl : (backTo pos (starEach [e2] X.env)).any (·.1) = false := by rfl) :
    DI X Wx (.Tuple elts kk tpos) (.Call (.Name "zip" p) [e, e2] [] pos) (srcA zipW ma) := pi_mono (pi_zipB hg hm ha hs hpl) fun σ H R h => srcA_step (P := fun vs H1 => ∃ a b t u xs ys, vs = [.ref a, .ref b] ∧ SqB X.K H1 t a xs ∧ SqB X.K H1 u b ys ∧ R (ItzB X.K t u a b) H1) (fun {B F ρ s H vs ws ds} k o e hR => by
  cases o with
  | nil => cases e
  | @cons v vs w ws o1 o =>
    cases o with
    | nil => cases e
    | @cons v2 vs w2 ws o2 o =>
      cases o with
      | cons _ _ => cases e
      | nil =>
        have e' : ((itemsD w).bind fun x => (itemsD w2).map fun y => pairs x y) = some ds := e
        cases q1 : itemsD w with
        | none => rw [q1] at e'; cases e'
        | some x =>
          cases q2 : itemsD w2 with
          | none => rw [q1, q2] at e'; cases e'
          | some y =>
            rw [q1, q2] at e'
            cases e'
            obtain ⟨a, t, xs, rfl, r1, g1⟩ := seq_ok k o1 q1
            obtain ⟨b, u, ys, rfl, r2, g2⟩ := seq_ok k o2 q2
            exact ⟨a, b, t, u, xs, ys, rfl, g1 F H .refl, g2 F H .refl, hR _ (walkD_zip g1 g2 r1 r2)⟩) h
theorem d_enum (hm : X.mg "enumerate" = none) (ha : DA X Wx [e] ma) (hg : Gl X "enumerate" := by rfl) (hs : starEach [e] X.env = [(false, eval e X.env)] := by rfl) :
    DI X Wx (.Tuple elts kk tpos) (.Call (.Name "enumerate" p) [e] [] pos) (srcA enumW ma) := pi_mono (pi_enumB hg hm ha hs) fun σ H R h => srcA_step (P := fun vs H1 => ∃ a t xs, vs = [.ref a] ∧ SqB X.K H1 t a xs ∧ R (IteB X.K t a 0) H1) (fun {B F ρ s H vs ws ds} k o e hR => by
  cases o with
  | nil => cases e
  | @cons v vs w ws o1 o =>
    cases o with
    | cons _ _ => cases e
    | nil =>
      have e' : (itemsD w).map (numbered 0) = some ds := e
      cases q1 : itemsD w with
      | none => rw [q1] at e'; cases e'
      | some x =>
        rw [q1] at e'
        cases e'
        obtain ⟨a, t, xs, rfl, r1, g1⟩ := seq_ok k o1 q1
        exact ⟨a, t, xs, rfl, g1 F H .refl, hR _ (walkD_enum g1 r1)⟩) h
theorem d_enum2 (hm : X.mg "enumerate" = none) (ha : DA X Wx [e, e2] ma) (hg : Gl X "enumerate" := by rfl) (hs : starEach [e, e2] X.env = (false, eval e X.env) :: starEach [e2] X.env := by rfl) (hpl : (backTo pos (starEach [e2] X.env)).any (·.1) = false := by rfl) :
    DI X Wx (.Tuple elts kk tpos) (.Call (.Name "enumerate" p) [e, e2] [] pos) (srcA enumW2 ma) := pi_mono (pi_enumB2 hg hm ha hs hpl) fun σ H R h => srcA_step (P := fun vs H1 => ∃ a t xs k, vs = [.ref a, .int k] ∧ SqB X.K H1 t a xs ∧ -(2 ^ 63) ≤ k ∧ k < 2 ^ 63 ∧ R (IteB X.K t a k) H1) (fun {B F ρ s H vs ws ds} k o e hR => by
  cases o with
  | nil => cases e
  | @cons v vs w ws o1 o =>
    cases o with
    | nil => cases e
    | @cons v2 vs w2 ws o2 o =>
      cases o with
      | cons _ _ =>
        unfold enumW2 at e
        split at e
        · rename_i z; cases z
        · cases e
      | nil =>
        unfold enumW2 at e
        split at e
        · rename_i a k0 z
          cases z
          split at e
          · rename_i hk
            cases q1 : itemsD w with
            | none => rw [q1] at e; cases e
            | some x =>
              rw [q1] at e
              cases e
              obtain ⟨a', t, xs, rfl, r1, g1⟩ := seq_ok k o1 q1
              have o2' : Rp X.K F H v2 (.int k0) := o2
              cases o2'
              exact ⟨a', t, xs, k0, rfl, g1 F H .refl, hk.1, hk.2, hR _ (walkD_enum g1 r1)⟩
          · cases e
        · cases e) h
theorem d_range (hm : X.mg "range" = none) (ha : DA X Wx [e] ma) (hg : Gl X "range" := by rfl) (hs : starEach [e] X.env = [(false, eval e X.env)] := by rfl) :
    DI X Wx tg (.Call (.Name "range" p) [e] [] pos) (srcA rangeW ma) := pi_mono (pi_range1 hg hm ha hs) fun σ H R h => srcA_step (P := fun vs H1 => ∃ j : Int, vs = [.int j] ∧ -(2 ^ 62) ≤ j ∧ j < 2 ^ 62 ∧ R (Itr 0 j.toNat) H1) (fun {B F ρ s H vs ws ds} k o e hR => by
  cases o with
  | nil => cases e
  | @cons v vs w ws o1 o =>
    unfold rangeW at e
    split at e
    · rename_i j z
      cases z
      cases o
      split at e
      · rename_i hk
        cases e
        have o1' : Rp X.K F H v (.int j) := o1
        cases o1'
        exact ⟨j, rfl, hk.1, hk.2, hR _ walkD_range⟩
      · cases e
    · cases e) h
theorem d_range2 (hm : X.mg "range" = none) (ha : DA X Wx [e, e2] ma) (hg : Gl X "range" := by rfl) (hs : starEach [e, e2] X.env = [(false, eval e X.env), (false, eval e2 X.env)] := by rfl) (hs2 : starEach [e2] X.env = [(false, eval e2 X.env)] := by rfl) :
    DI X Wx tg (.Call (.Name "range" p) [e, e2] [] pos) (srcA rangeW2 ma) := pi_mono (pi_range2 hg hm ha hs hs2) fun σ H R h => srcA_step (P := fun vs H1 => ∃ i j : Int, vs = [.int i, .int j] ∧ (-(2 ^ 62) ≤ i ∧ i < 2 ^ 62 ∧ -(2 ^ 62) ≤ j ∧ j < 2 ^ 62) ∧ R (Itr i (j - i).toNat) H1) (fun {B F ρ s H vs ws ds} k o e hR => by
  cases o with
  | nil => cases e
  | @cons v vs w ws o1 o =>
    cases o with
    | nil =>
      unfold rangeW2 at e
      split at e
      · rename_i z; cases z
      · cases e
    | @cons v2 vs w2 ws o2 o =>
      unfold rangeW2 at e
      split at e
      · rename_i i j z
        cases z
        cases o
        split at e
        · rename_i hk
          cases e
          have o1' : Rp X.K F H v (.int i) := o1
          have o2' : Rp X.K F H v2 (.int j) := o2
          cases o1'
          cases o2'
          exact ⟨i, j, rfl, hk, hR _ walkD_range⟩
        · cases e
      · cases e) h
end
end Z
/-! Z, part 12: a def by its facts; who is called; calls with keywords. -/
namespace Z
open PySem PySem.Spec PyProof.Rows L2

theorem fn_okD {P : Program} {w : World} {K : PySem.W.Frag} {mg : Str → Option Value} {base : Heap} {x qual : Str} {params : Arguments} {body : List Stmt} {scope : Scope} {dvs : List V} {kws : List (Str × V)} {f : Addr} {fd : FuncData} {N ps : List Str} {k n : Nat} {mb : M SR}
    (G : FunD K x qual params body scope dvs kws f fd) (Sc : FnScope N ps scope) (hps : n = ps.length) (hn : n ≤ N.length)
    (hbody : ∀ (cdv : Value) (A : Around) (outer : List Env) (s : Shared) (H : Hp) (E : XK), Room k (A.deeper (envOfC qual scope s.heap.objs.size f cdv)) →
      PassesOwn (model P w) (A.deeper (envOfC qual scope s.heap.objs.size f cdv)) (envOfC qual scope s.heap.objs.size f cdv) (cxOf (L2.CX P w) P w K mg base N qual scope f cdv A outer s H E).xe →
      Takes (cxOf (L2.CX P w) P w K mg base N qual scope f cdv A outer s H E) (fun cls d _ H => E cls d H) →
      DB (cxOf (L2.CX P w) P w K mg base N qual scope f cdv A outer s H E) (fun cls d _ H => E cls d H) body mb) :
    FnOk P w K mg base (L2.CX P w) (k + 1) f fd ps (spZ K mg n (fnOf N.length mb)) :=
  G.ok Sc (fun vs H Q E h => by obtain ⟨_, _, _, _, e, _⟩ := h; rw [e, hps]) fun cdv A outer s H vs Q E hr h =>
    ⟨_, (hbody cdv A outer s H E hr (passes_of (X := cxOf (L2.CX P w) P w K mg base N qual scope f cdv A outer s H E) rfl) (takes_of rfl rfl rfl rfl)).run |> fun z => ⟨z⟩, body_ok hn h⟩

/-- who is called by the name x: level k, n parameters ps, the mirror fs -/
structure Callee (P : Program) (w : World) (K : PySem.W.Frag) (mg : Str → Option Value) (base : Heap) (x : Str) (k n : Nat) (ps : List Str) (fs : Fn) : Prop where
  ex : ∃ f fd, FnOk P w K mg base (L2.CX P w) k f fd ps (spZ K mg n fs) ∧ mg x = some (.ref f) ∧ PySem.W.keepIn K (.ref f) = true ∧
    ∃ (y q : Str) (params : Arguments) (body : List Stmt) (scope : Scope), FunD K y q params body scope [] [] f fd ∧ True
/-- how it takes what is given -/
structure Takes_ (P : Program) (w : World) (K : PySem.W.Frag) (mg : Str → Option Value) (base : Heap) (x : Str) (k n : Nat) (ps : List Str) (fs : Fn) : Prop where
  ex : ∃ f fd, FnOk P w K mg base (L2.CX P w) k f fd ps (spZ K mg n fs) ∧ mg x = some (.ref f) ∧ PySem.W.keepIn K (.ref f) = true ∧ Binds K fd ps []
structure TakesK (P : Program) (w : World) (K : PySem.W.Frag) (mg : Str → Option Value) (base : Heap) (x : Str) (k n : Nat) (ps : List Str) (fs : Fn) (np : Nat) (ks : List Str) (is : List Nat) : Prop where
  ex : ∃ f fd, FnOk P w K mg base (L2.CX P w) k f fd ps (spZ K mg n fs) ∧ mg x = some (.ref f) ∧ PySem.W.keepIn K (.ref f) = true ∧ ∃ g gV, KBn K fd ps np ks g gV ∧ ∀ vs zs, gV vs zs = is.filterMap fun i => (vs ++ zs)[i]?
section
variable {X : Cx} {Wx : WX} {k n np : Nat} {ps ks : List Str} {is : List Nat} {fs : Fn} {x : Str} {p pos : Pos} {e : Expr} {es : List Expr} {kws : List Keyword} {ma mk : M (List W)}
theorem i_callC (C : Takes_ X.prog X.w X.K X.mg X.base x k n ps fs) (hr : Room k X.A) (tk : Takes X Wx)
    (ha : DA X Wx (e :: es) ma) (hg : Gl X x := by rfl) (hdb : (x == ("__debug__" : Str)) = false := by decide) (he : starEach (e :: es) X.env = (false, eval e X.env) :: starEach es X.env := by rfl) (hpl : (backTo pos (starEach es X.env)).any (·.1) = false := by rfl) :
    DE X Wx (.Call (.Name x p) (e :: es) [] pos) (eCallS n fs ma) := by
  obtain ⟨f, fd, G, hm, hk, hb⟩ := C.ex
  exact i_call G hr hm hk hb tk ha hg hdb he hpl
theorem run_fnSN {CX : CXT} {f : Addr} {fd : FuncData} {sp : Sp} {E : Sg → XK} {g : List Value → List Value → List Value} {gV : List V → List V → List V} {pins : List (Addr × Obj)} {σ : Sg} {H : Hp} {s : Shared} {Q : VK} {us ws : List Value} {vs zs : List V}
    (F : FnOk X.prog X.w X.K X.mg X.base CX k f fd ps sp) (hr : Room k X.A) (hb : KBn X.K fd ps n ks g gV) (hx : PassesAt CX X σ (E σ))
    (I : Inv X pins σ H s) (r : Vals vs us) (rz : Vals zs ws) (l1 : vs.length = n) (l2 : zs.length = ks.length) (h : sp (gV vs zs) H Q (E σ)) : wpAny (model X.prog X.w) X.A (call (.ref f) us (ks.zip ws)) (EP X pins σ Q) X.xe s := by
  have r2 := hb.rel r rz
  refine wpAny_call (codeAny_mono (F.run X.A X.stack s H ⟨us, ks.zip ws⟩ (g us ws) (gV vs zs) Q (E σ) hr I.env0 (hb.to s us ws I.kIn (r.length.symm.trans l1) (rz.length.symm.trans l2)) r2 h) fun r s' hq => ?_)
  cases r with
  | error e => exact hx pins H s e s' I hq
  | ok fl =>
    cases fl with
    | ret u => exact I.after hq
    | next => exact False.elim hq
    | brk => exact False.elim hq
    | cont => exact False.elim hq
/-- the keywords alone -/
theorem pe_callSK0 {CX : CXT} {f : Addr} {fd : FuncData} {sp : Sp} {E : Sg → XK} {g : List Value → List Value → List Value} {gV : List V → List V → List V} {tk : TA} (F : FnOk X.prog X.w X.K X.mg X.base CX k f fd ps sp) (hr : Room k X.A) (hg : Gl X x) (hm : X.mg x = some (.ref f)) (hk : PySem.W.keepIn X.K (.ref f) = true) (hb : KBn X.K fd ps 0 ks g gV) (hx : ∀ σ, PassesAt CX X σ (E σ))
    (hkw : PK X kws tk) (hall : (backToKw pos (keywordEach kws X.env)).all (·.1.isSome) = true := by rfl) (hks : (backToKw pos (keywordEach kws X.env)).filterMap (·.1) = ks := by rfl)
    (hdb : (x == ("__debug__" : Str)) = false := by decide) (hpl : ((backTo pos (starEach [] X.env)).any (·.1) || (backToKw pos (keywordEach kws X.env)).any (·.1.isNone)) = false := by rfl) :
    PE X (.Call (.Name x p) [] kws pos) (fun σ H Q => tk σ H fun zs H2 => zs.length = ks.length ∧ sp (gV [] zs) H2 Q (E σ)) := by
  refine ⟨fun pins s σ H Q I h => ?_⟩
  refine wpAny_Call_Name_kw (ld_glob I hg hm ?_ hdb)
  refine PySem.W.callWith_KW0 (h₀ := X.base) I.ok.mod.kin hk hall ?_ hpl
  refine thn (hkw.run pos pins s σ H _ I h) fun ws s2 ⟨zs, H2, I2, rz, l2, q2⟩ => ⟨I2.kIn, ?_⟩
  rw [hks]
  exact run_fnSN (us := []) (vs := []) F hr hb (hx σ) I2 .nil rz rfl l2 q2
theorem pe_callSK {CX : CXT} {f : Addr} {fd : FuncData} {sp : Sp} {E : Sg → XK} {g : List Value → List Value → List Value} {gV : List V → List V → List V} {t tk : TA} (F : FnOk X.prog X.w X.K X.mg X.base CX k f fd ps sp) (hr : Room k X.A) (hg : Gl X x) (hm : X.mg x = some (.ref f)) (hk : PySem.W.keepIn X.K (.ref f) = true) (hb : KBn X.K fd ps np ks g gV) (hx : ∀ σ, PassesAt CX X σ (E σ))
    (ha : PA X (e :: es) t) (hkw : PK X kws tk) (hall : (backToKw pos (keywordEach kws X.env)).all (·.1.isSome) = true := by rfl) (hks : (backToKw pos (keywordEach kws X.env)).filterMap (·.1) = ks := by rfl)
    (hdb : (x == ("__debug__" : Str)) = false := by decide) (he : starEach (e :: es) X.env = (false, eval e X.env) :: starEach es X.env := by rfl)
    (hpl : ((backTo pos (starEach (e :: es) X.env)).any (·.1) || (backToKw pos (keywordEach kws X.env)).any (·.1.isNone)) = false := by rfl) :
    PE X (.Call (.Name x p) (e :: es) kws pos) (fun σ H Q => t σ H fun vs H1 => tk σ H1 fun zs H2 => vs.length = np ∧ zs.length = ks.length ∧ sp (gV vs zs) H2 Q (E σ)) := by
  refine ⟨fun pins s σ H Q I h => ?_⟩
  refine wpAny_Call_Name_kw (ld_glob I hg hm ?_ hdb)
  refine PySem.W.callWith_KW (h₀ := X.base) I.ok.mod.kin hk hall (thn (ha.run pos pins s σ H _ I h) fun us s1 ⟨vs, H1, I1, r, q⟩ => ?_) hpl he
  refine thn (hkw.run pos pins s1 σ H1 _ I1 q) fun ws s2 ⟨zs, H2, I2, rz, l1, l2, q2⟩ => ⟨I2.kIn, ?_⟩
  rw [hks]
  exact run_fnSN F hr hb (hx σ) I2 r rz l1 l2 q2
def permW (is : List Nat) (ws : List W) : List W := is.filterMap fun i => ws[i]?
def eCallK (n : Nat) (f : Fn) (np nk : Nat) (is : List Nat) (ma mk : M (List W)) : M W := ma >>= fun ws => mk >>= fun zs => if ws.length = np ∧ zs.length = nk then callS n f (permW is (ws ++ zs)) else M.fail
theorem WAll.length {K : PySem.W.Frag} {B : Base} {F : Fz} {ρ : List Addr} {s : S} {σ : Sg} {H : Hp} {vs : List V} {ws : List W} (h : WAll K B F ρ s σ H vs ws) : vs.length = ws.length := by
  induction h with
  | nil => rfl
  | cons _ _ ih => simp [ih]
theorem WAll.app {K : PySem.W.Frag} {B : Base} {F : Fz} {ρ : List Addr} {s : S} {σ : Sg} {H : Hp} {vs vs' : List V} {ws ws' : List W} (h : WAll K B F ρ s σ H vs ws) (h' : WAll K B F ρ s σ H vs' ws') : WAll K B F ρ s σ H (vs ++ vs') (ws ++ ws') := by
  induction h with
  | nil => exact h'
  | cons a _ ih => exact .cons a ih
theorem WAll.get {K : PySem.W.Frag} {B : Base} {F : Fz} {ρ : List Addr} {s : S} {σ : Sg} {H : Hp} {vs : List V} {ws : List W} (h : WAll K B F ρ s σ H vs ws) : ∀ i : Nat, (vs[i]? = none ∧ ws[i]? = none) ∨ ∃ v w, vs[i]? = some v ∧ ws[i]? = some w ∧ WOk K B F ρ s σ H v w := by
  induction h with
  | nil => exact fun i => .inl ⟨by simp, by simp⟩
  | @cons v vs w ws a _ ih =>
    intro i
    cases i with
    | zero => exact .inr ⟨v, w, by simp, by simp, a⟩
    | succ i => simpa using ih i
theorem WAll.perm {K : PySem.W.Frag} {B : Base} {F : Fz} {ρ : List Addr} {s : S} {σ : Sg} {H : Hp} {vs : List V} {ws : List W} (h : WAll K B F ρ s σ H vs ws) : ∀ is : List Nat, WAll K B F ρ s σ H (is.filterMap fun i => vs[i]?) (permW is ws)
  | [] => .nil
  | i :: is => by
    unfold permW
    rcases h.get i with ⟨e1, e2⟩ | ⟨v, w, e1, e2, o⟩
    · rw [List.filterMap_cons, List.filterMap_cons, e1, e2]
      exact WAll.perm h is
    · rw [List.filterMap_cons, List.filterMap_cons, e1, e2]
      exact .cons o (WAll.perm h is)
theorem i_callK0 (C : TakesK X.prog X.w X.K X.mg X.base x k n ps fs 0 ks is) (hr : Room k X.A) (tk : Takes X Wx) (hkw : DK X Wx kws mk) (hks : (backToKw pos (keywordEach kws X.env)).filterMap (·.1) = ks := by rfl) (hg : Gl X x := by rfl)
    (hall : (backToKw pos (keywordEach kws X.env)).all (·.1.isSome) = true := by rfl) (hdb : (x == ("__debug__" : Str)) = false := by decide) (hpl : ((backTo pos (starEach [] X.env)).any (·.1) || (backToKw pos (keywordEach kws X.env)).any (·.1.isNone)) = false := by rfl) :
    DE X Wx (.Call (.Name x p) [] kws pos) (eCallK n fs 0 ks.length is aNil mk) := by
  obtain ⟨f, fd, G, hm, hk, g, gV, hb, hgv⟩ := C.ex
  refine pe_mono (pe_callSK0 (E := WE Wx) G hr hg hm hk hb (fun σ => passAt tk σ) hkw hall hks hdb hpl) fun σ H Q h => ?_
  refine am_step (ma := mk) (f := fun zs => if ([] : List W).length = 0 ∧ zs.length = ks.length then callS n fs (permW is ([] ++ zs)) else M.fail) (P := fun zs H2 => zs.length = ks.length ∧ spZ X.K X.mg n fs (gV [] zs) H2 Q (WE Wx σ)) (fun {B F ρ s H vs ws} kk o h => ?_) h
  by_cases hl : ([] : List W).length = 0 ∧ ws.length = ks.length
  · rw [if_pos hl] at h
    refine ⟨o.length.trans hl.2, ?_⟩
    rw [hgv]
    exact call_step kk (o.perm is) h
  · rw [if_neg hl] at h; exact h.elim
theorem i_callK (C : TakesK X.prog X.w X.K X.mg X.base x k n ps fs np ks is) (hr : Room k X.A) (tk : Takes X Wx) (ha : DA X Wx (e :: es) ma) (hkw : DK X Wx kws mk) (hks : (backToKw pos (keywordEach kws X.env)).filterMap (·.1) = ks := by rfl) (hg : Gl X x := by rfl)
    (hall : (backToKw pos (keywordEach kws X.env)).all (·.1.isSome) = true := by rfl) (hdb : (x == ("__debug__" : Str)) = false := by decide) (he : starEach (e :: es) X.env = (false, eval e X.env) :: starEach es X.env := by rfl)
    (hpl : ((backTo pos (starEach (e :: es) X.env)).any (·.1) || (backToKw pos (keywordEach kws X.env)).any (·.1.isNone)) = false := by rfl) :
    DE X Wx (.Call (.Name x p) (e :: es) kws pos) (eCallK n fs np ks.length is ma mk) := by
  obtain ⟨f, fd, G, hm, hk, g, gV, hb, hgv⟩ := C.ex
  refine pe_mono (pe_callSK (E := WE Wx) G hr hg hm hk hb (fun σ => passAt tk σ) ha hkw hall hks hdb he hpl) fun σ H Q h => ?_
  obtain ⟨B, F, ρ, s, kk, h⟩ := h
  refine ⟨B, F, ρ, s, kk, (Run.bind h).mono (fun ws s1 _ h1 F1 ρ1 H1 vs e1 k1 o1 => ?_) fun _ _ _ e => e⟩
  refine ⟨B, F1, ρ1, s1, k1, (Run.bind h1).mono (fun zs s2 _ h2 F2 ρ2 H2 us e2 k2 o2 => ?_) fun _ _ _ e => e⟩
  by_cases hl : ws.length = np ∧ zs.length = ks.length
  · rw [if_pos hl] at h2
    have o := (o1.mono k1 e2).app o2
    refine ⟨o1.length.trans hl.1, o2.length.trans hl.2, ?_⟩
    rw [hgv]
    exact call_step k2 (o.perm is) (h2.mono (fun w s' _ p => p.step (e1.trans e2 k1.sto) k2.sto) fun _ _ _ e => e)
  · rw [if_neg hl] at h2; exact h2.elim
end
/-- a def of no default takes keywords -/
theorem Vals.perm {vs : List V} {us : List Value} (h : Vals vs us) : ∀ is : List Nat, Vals (is.filterMap fun i => vs[i]?) (is.filterMap fun i => us[i]?)
  | [] => .nil
  | i :: is => by
    rw [List.filterMap_cons, List.filterMap_cons]
    cases q : vs[i]? with
    | none =>
      have : us[i]? = none := by
        rw [List.getElem?_eq_none_iff] at q ⊢
        rw [← h.length]; exact q
      rw [this]
      exact Vals.perm h is
    | some v =>
      obtain ⟨u, hu, ru⟩ := h.get q
      rw [hu]
      exact .cons ru (Vals.perm h is)
theorem funD_kbn {K : PySem.W.Frag} {x qual : Str} {params : Arguments} {body : List Stmt} {scope : Scope} {f : Addr} {fd : FuncData} {ps ks : List Str} {n : Nat} {is : List Nat} (F : FunD K x qual params body scope [] [] f fd)
    (h : ∀ (kV doc pm : Value) (an : Option Addr) (cdv ct : Value) (us ws : List Value), us.length = n → ws.length = ks.length → bindArgs (PySem.W.fnOf x qual params body scope .none kV doc pm an cdv ct) ⟨us, ks.zip ws⟩ = pure (ps.zip (is.filterMap fun i => (us ++ ws)[i]?))) :
    ∃ g gV, KBn K fd ps n ks g gV ∧ ∀ vs zs, gV vs zs = is.filterMap fun i => (vs ++ zs)[i]? := by
  refine ⟨fun us ws => is.filterMap fun i => (us ++ ws)[i]?, fun vs zs => is.filterMap fun i => (vs ++ zs)[i]?, ⟨?_, fun r1 r2 => Vals.perm (r1.append r2) is⟩, fun _ _ => rfl⟩
  obtain ⟨oc, od, dV, kV, doc, pm, an, cdv, ct, osl, rfl, lk, hcd, hD, hK⟩ := F.ex
  rcases hD with ⟨_, rfl⟩ | ⟨e, _⟩
  · exact fun s us ws _ l1 l2 => .of_eq (h kV doc pm an cdv ct us ws l1 l2)
  · exact absurd rfl e
end Z
/-! Z, part 13: comprehensions of two clauses; starred displays. -/
namespace Z
open PySem PySem.Spec PyProof.Rows L2

def compLoop2 (vs vs1 : List Nat) (g : D → M Unit) (c : M Bool) (src1 : M (List D)) (g1 : D → M Unit) (c1 : M Bool) (e : M W) : List D → List D → M (List D)
  | [], acc => Pure.pure acc
  | d :: ds, acc => nE (g d) >>= fun _ => nE c >>= fun b => if b = true then nE src1 >>= fun ds1 => wipeM vs1 >>= fun _ => compLoop vs1 g1 c1 e ds1 acc >>= fun acc' => wipeM vs >>= fun _ => compLoop2 vs vs1 g c src1 g1 c1 e ds acc'
      else wipeM vs >>= fun _ => compLoop2 vs vs1 g c src1 g1 c1 e ds acc
def eLc2 (vs vs1 : List Nat) (src : M (List D)) (g : D → M Unit) (c : M Bool) (src1 : M (List D)) (g1 : D → M Unit) (c1 : M Bool) (e : M W) : M W := src >>= fun ds => lcM vs (compLoop2 vs vs1 g c src1 g1 c1 e ds [])
section
variable {X : Cx} {Wx : WX} {tg e iter : Expr} {m : M W} {src : M (List D)} {g : D → M Unit} {c1 : M Bool} {is : List Nat} {ifs : List Expr} {scope : Scope} {own : List (Str × Nat)} {pos : Pos}
theorem turn_okG {K : PySem.W.Frag} {mg : Str → Option Value} {B : Base} {L : Addr} {vs : List Nat} {σ σ0 : Sg} {d : D} {ds acc : List D} {s0 s : S} {F0 F : Fz} {ρ0 ρ : List Addr} {Hs H : Hp} {x : V} {R : List D → S → Prop} {er : Exc → S → Prop} {Nx : Hp → Prop}
    (his : ∀ j ∈ is, j ∈ vs) (hL : Hs L = none) (hB : B.H L = none) (gx : GX s0 σ0 F0 ρ0 Hs s (L2.wipe σ vs) F ρ H) (k : Ok K B F ρ s (L2.wipe σ vs) H) (a : Acc K F ρ s (L2.wipe σ vs) H L acc) (rp : Rp K F H x d) (h : Run (compLoop vs g c1 m (d :: ds) acc) s R er)
    (hn : ∀ F' ρ' s' H' acc', GX s0 σ0 F0 ρ0 Hs s' (L2.wipe σ vs) F' ρ' H' → Ok K B F' ρ' s' (L2.wipe σ vs) H' → Acc K F' ρ' s' (L2.wipe σ vs) H' L acc' → SX F H F' H' → Run (compLoop vs g c1 m ds acc') s' R er → Nx H') :
    GM K mg Wx0 is g x (L2.wipe σ vs) H fun σ2 H2 => L2.wipe σ2 vs = L2.wipe σ vs ∧ CM K mg Wx0 c1 σ2 H2 fun b H3 => if b = true then EM K mg Wx0 m σ2 H3 fun y H4 => ∃ acc, H4 L = some (.lst acc) ∧ acc.length < sizeLine ∧ Nx (upd H4 L (.lst (acc ++ [y]))) else Nx H3 := by
  refine ⟨B, F, ρ, s, d, k, rp, (Run.nE (Run.bind h)).mono (fun _ s1 _ h1 F1 ρ1 H1 σ1 g1 so k1 => ?_) fun _ _ _ z => z⟩
  have ew := wipe_eq so his
  refine ⟨ew, B, F1, ρ1, s1, k1, (Run.nE (Run.bind h1)).mono (fun b s2 _ h2 F2 ρ2 H2 e2 k2 => ?_) fun _ _ _ z => z⟩
  have a2 := (a.mono k g1).mono k1 e2.gx
  cases b with
  | false =>
    refine iteF ?_
    have h3 : Run (compLoop vs g c1 m ds acc) (s2.wipe vs) R er := Run.bind (m := wipeM vs) h2
    have k3 := k2.wipe_ vs
    rw [ew] at k3
    have gw : GX s2 σ1 F2 ρ2 H2 (s2.wipe vs) (L2.wipe σ vs) F2 ρ2 H2 := by rw [← ew]; exact gx_wipe
    exact hn F2 ρ2 _ H2 acc (((gx.trans g1).trans e2.gx).trans gw) k3 (a2.mono k2 gw) (k.gsx ((g1.trans e2.gx).trans gw)) h3
  | true =>
    refine iteT ⟨B, F2, ρ2, s2, k2, (Run.nE (Run.bind h2)).mono (fun w s3 _ h3 F3 ρ3 H3 y e3 k3 o3 f3 => ?_) fun _ _ _ z => z⟩
    obtain ⟨F4, s4, dy, k4, e4, ry, h4⟩ := val_ok e3 k3 o3 f3 (Run.bind h3)
    have a4 := a2.mono k2 e4.gx
    by_cases hz : acc.length < sizeLine
    · have h5 : Run (if acc.length < sizeLine then wipeM vs >>= fun _ => compLoop vs g c1 m ds (acc ++ [dy]) else M.fail) s4 R er := h4
      rw [if_pos hz] at h5
      have h6 : Run (compLoop vs g c1 m ds (acc ++ [dy])) (s4.wipe vs) R er := Run.bind (m := wipeM vs) h5
      obtain ⟨us, q1, q2, k5, a5⟩ := a4.push hB k4 ry
      have k6 := k5.wipe_ vs
      rw [ew] at k6
      have gw : GX s4 σ1 F4 ρ3 (upd H3 L (.lst (us ++ [y]))) (s4.wipe vs) (L2.wipe σ vs) F4 ρ3 (upd H3 L (.lst (us ++ [y]))) := by rw [← ew]; exact gx_wipe
      have gall := (((gx.trans g1).trans e2.gx).trans e4.gx)
      have sx : SX F H F4 H3 := k.gsx ((g1.trans e2.gx).trans e4.gx)
      exact ⟨us, q1, by rw [q2]; exact hz, hn F4 ρ3 _ _ _ ((gx_push gall hL).trans gw) k6 (a5.mono k5 gw) (sx.trans ⟨fun _ z => z, stay_write q1 a4.nF⟩) h6⟩
    · have h5 : Run (if acc.length < sizeLine then wipeM vs >>= fun _ => compLoop vs g c1 m ds (acc ++ [dy]) else M.fail) s4 R er := h4
      rw [if_neg hz] at h5
      exact h5.elim
/-- the loop of a second clause -/
theorem lc_it1 {J : It} {n : Nat} {G : Hp → Prop} {Y : Nat → Hp → V → Hp → Prop} (w : Walk J n G Y) {g : TG} {tt : TT} {te : TE} {vs : List Nat} {σ : Sg} {H1 : Hp} {D : Addr} {Qd : Hp → Prop} (Pv : Nat → Hp → Prop) (h0 : Pv 0 H1) (hG : ∀ i H, i ≤ n → Pv i H → G H)
    (hs : ∀ i x H H', i < n → Pv i H → Y i H x H' → g x (L2.wipe σ vs) H' fun σ2 H2 => L2.wipe σ2 vs = L2.wipe σ vs ∧ tt σ2 H2 fun b H3 =>
      if b = true then te σ2 H3 fun y H4 => ∃ acc, H4 D = some (.lst acc) ∧ acc.length < sizeLine ∧ Pv (i + 1) (upd H4 D (.lst (acc ++ [y]))) else Pv (i + 1) H3) (hd : ∀ H, Pv n H → Qd H) :
    ∃ W : Nat → Nat → Hp → Prop, (∃ m, W 0 m H1) ∧ ∀ i m H, W i m H →
      (J.stop i H ∧ Qd H) ∨ (J.go i H ∧ ∃ Nx : Hp → Prop, (∀ H', Nx H' → ∃ m', m' < m ∧ W (i + 1) m' H') ∧ ∀ x H', J.yld i H x H' → g x (L2.wipe σ vs) H' fun σ2 H2 => L2.wipe σ2 vs = L2.wipe σ vs ∧ tt σ2 H2 fun b H3 =>
        if b = true then te σ2 H3 fun y H4 => ∃ acc, H4 D = some (.lst acc) ∧ acc.length < sizeLine ∧ Nx (upd H4 D (.lst (acc ++ [y]))) else Nx H3) := by
  refine ⟨fun i m H => m = n - i ∧ i ≤ n ∧ Pv i H, ⟨n, by simp, Nat.zero_le _, h0⟩, ?_⟩
  rintro i m H ⟨rfl, hi, p⟩
  have q := hG i H hi p
  by_cases hlt : i < n
  · refine .inr ⟨w.goes i H hlt q, Pv (i + 1), fun H' p' => ⟨n - (i + 1), by omega, rfl, hlt, p'⟩, fun x H' y => hs i x H H' hlt p (w.yields i H x H' hlt q y)⟩
  · have e : i = n := by omega
    subst e
    exact .inl ⟨w.stops H q, hd H p⟩
theorem so_wipe {σ : Sg} {vs : List Nat} : SO vs σ (L2.wipe σ vs) := ⟨L2.wipe_length _ _, fun j h => wipeS_get h⟩
variable {src1 : M (List D)} {g1 : D → M Unit} {c2 : M Bool} {is1 : List Nat} {vs1 : List Nat} {tg1 iter1 : Expr} {ifs1 : List Expr}
theorem lc2_step {K : PySem.W.Frag} {mg : Str → Option Value} {σ : Sg} {H : Hp} {Q : VK} {vs : List Nat} (his : ∀ j ∈ is, j ∈ vs) (his1 : ∀ j ∈ is1, j ∈ vs1) (hv : ∀ j ∈ vs1, j ∈ vs) (h : EM K mg Wx (eLc2 vs vs1 src g c1 src1 g1 c2 m) σ H Q) :
    tLc2 (SI K mg Wx src) (GM K mg Wx0 is g) (CM K mg Wx0 c1) (SI K mg Wx0 src1) (GM K mg Wx0 is1 g1) (CM K mg Wx0 c2) (EM K mg Wx0 m) vs vs1 σ H Q := by
  obtain ⟨B, F, ρ, s, k, h⟩ := h
  refine ⟨B, F, ρ, s, k, (Run.bind h).mono (fun ds s1 _ h1 F1 ρ1 H1 J e1 k1 wd => ?_) fun _ _ _ z => z⟩
  intro L hL
  have h1' : Run (lcM vs (compLoop2 vs vs1 g c1 src1 g1 c2 m ds [])) s1 (Post K B σ s F ρ H Q) (Er K mg Wx B σ) := h1
  by_cases hf : ownFree s1 vs = true
  · have hb : Run (compLoop2 vs vs1 g c1 src1 g1 c2 m ds []) (s1.wipe vs) (fun r s' => Post K B σ s F ρ H Q (.own r) (s'.rest s1 vs)) (fun _ _ => False) := by
      unfold Run lcM at h1'
      rw [if_pos hf] at h1'
      unfold Run
      cases q : compLoop2 vs vs1 g c1 src1 g1 c2 m ds [] (s1.wipe vs) with
      | fail => rw [q] at h1'; exact h1'.elim
      | err x s' => rw [q] at h1'; exact h1'.elim
      | ok r s' => rw [q] at h1'; exact h1'
    obtain ⟨G, Y, wk, hG, hY⟩ := wd
    have hB := k1.fresh hL
    have kw := k1.wipe_ vs
    have kw0 := kw.new (o := .lst []) hL
    have inv0 : GX (s1.wipe vs) (L2.wipe σ vs) F1 ρ1 H1 (s1.wipe vs) (L2.wipe σ vs) F1 ρ1 (upd H1 L (.lst [])) := (Ext.new_ hL).gx
    have acc0 : Acc K F1 ρ1 (s1.wipe vs) (L2.wipe σ vs) (upd H1 L (.lst [])) L [] := ⟨⟨[], upd_same, .nil⟩, kw.nF hL, kw.nρ hL, kw.nO hL⟩
    let R : List D → S → Prop := fun r s' => Post K B σ s F ρ H Q (.own r) (s'.rest s1 vs)
    let er : Exc → S → Prop := fun _ _ => False
    let Pv : Nat → Hp → Prop := fun i H' => ∃ F' ρ' s' acc, GX (s1.wipe vs) (L2.wipe σ vs) F1 ρ1 H1 s' (L2.wipe σ vs) F' ρ' H' ∧ Ok K B F' ρ' s' (L2.wipe σ vs) H' ∧ Acc K F' ρ' s' (L2.wipe σ vs) H' L acc ∧ Run (compLoop2 vs vs1 g c1 src1 g1 c2 m (ds.drop i) acc) s' R er
    refine ⟨fun i mm H => mm = ds.length - i ∧ i ≤ ds.length ∧ Pv i H, ⟨ds.length, by simp, Nat.zero_le _, F1, ρ1, s1.wipe vs, [], inv0, kw0, acc0, hb⟩, ?_⟩
    rintro i mm H' ⟨rfl, hi, F', ρ', s', acc, x', k', a', h'⟩
    have q := hG F' H' (kw.gsx x')
    by_cases hlt : i < ds.length
    · refine .inr ⟨wk.goes i H' hlt q, Pv (i + 1), fun H' p' => ⟨ds.length - (i + 1), by omega, rfl, hlt, p'⟩, fun x H2 y => ?_⟩
      have y' := wk.yields i H' x H2 hlt q y
      have ed : ds[i]? = some ds[i] := List.getElem?_eq_getElem hlt
      obtain ⟨hH, rp⟩ := hY i F' H' x H2 _ (kw.gsx x') ed y'
      rw [List.drop_eq_getElem_cons hlt] at h'
      have kk : Ok K B F' ρ' s' (L2.wipe σ vs) H2 ∧ GX s' (L2.wipe σ vs) F' ρ' H' s' (L2.wipe σ vs) F' ρ' H2 := by
        rcases hH with rfl | ⟨p, o, hn, rfl⟩
        · exact ⟨k', .refl⟩
        · exact ⟨k'.new hn, (Ext.new_ hn).gx⟩
      obtain ⟨k2, x2⟩ := kk
      have gx := x'.trans x2
      have a2 := a'.mono k' x2
      refine ⟨B, F', ρ', s', ds[i], k2, rp, (Run.nE (Run.bind h')).mono (fun _ s3 _ h3 F3 ρ3 H3 σ3 g3 so k3 => ?_) fun _ _ _ z => z⟩
      have ew := wipe_eq so his
      refine ⟨ew, B, F3, ρ3, s3, k3, (Run.nE (Run.bind h3)).mono (fun b s4 _ h4 F4 ρ4 H4 e4 k4 => ?_) fun _ _ _ z => z⟩
      have a4 := (a2.mono k2 g3).mono k3 e4.gx
      cases b with
      | false =>
        refine iteF ?_
        have h5 : Run (compLoop2 vs vs1 g c1 src1 g1 c2 m (ds.drop (i + 1)) acc) (s4.wipe vs) R er := Run.bind (m := wipeM vs) h4
        have k5 := k4.wipe_ vs
        rw [ew] at k5
        have gw : GX s4 σ3 F4 ρ4 H4 (s4.wipe vs) (L2.wipe σ vs) F4 ρ4 H4 := by rw [← ew]; exact gx_wipe
        exact ⟨F4, ρ4, _, acc, (((gx.trans g3).trans e4.gx).trans gw), k5, a4.mono k4 gw, h5⟩
      | true =>
        refine iteT ⟨B, F4, ρ4, s4, k4, (Run.nE (Run.bind h4)).mono (fun ds1 s5 _ h5 F5 ρ5 H5 J1 e5 k5 wd1 => ?_) fun _ _ _ z => z⟩
        have h6 : Run (compLoop vs1 g1 c2 m ds1 acc >>= fun acc' => wipeM vs >>= fun _ => compLoop2 vs vs1 g c1 src1 g1 c2 m (ds.drop (i + 1)) acc') (s5.wipe vs1) R er := Run.bind (m := wipeM vs1) h5
        have h7 := Run.bind h6
        have k6 := k5.wipe_ vs1
        have gw : GX s5 σ3 F5 ρ5 H5 (s5.wipe vs1) (L2.wipe σ3 vs1) F5 ρ5 H5 := gx_wipe
        have gall := (((gx.trans g3).trans e4.gx).trans e5.gx).trans gw
        have a6 := (a4.mono k4 e5.gx).mono k5 gw
        obtain ⟨G1, Y1, wk1, hG1, hY1⟩ := wd1
        let R1 : List D → S → Prop := fun acc' s' => Run (wipeM vs >>= fun _ => compLoop2 vs vs1 g c1 src1 g1 c2 m (ds.drop (i + 1)) acc') s' R er
        have ew2 : L2.wipe (L2.wipe σ3 vs1) vs = L2.wipe σ vs := wipe_eq (so.trans so_wipe) fun j hj => by
          rcases List.mem_append.mp hj with z | z
          · exact his j z
          · exact hv j z
        refine lc_it1 wk1 (fun j H7 => ∃ F7 ρ7 s7 acc7, (GX (s1.wipe vs) (L2.wipe σ vs) F1 ρ1 H1 s7 (L2.wipe σ3 vs1) F7 ρ7 H7 ∧ SX F5 H5 F7 H7) ∧ Ok K B F7 ρ7 s7 (L2.wipe σ3 vs1) H7 ∧ Acc K F7 ρ7 s7 (L2.wipe σ3 vs1) H7 L acc7 ∧ Run (compLoop vs1 g1 c2 m (ds1.drop j) acc7) s7 R1 er)
          ⟨F5, ρ5, s5.wipe vs1, acc, ⟨gall, .refl⟩, k6, a6, h7⟩ (fun j H7 _ ⟨F7, ρ7, s7, acc7, x7, _⟩ => hG1 F7 H7 x7.2) (fun j x H7 H8 hj ⟨F7, ρ7, s7, acc7, ⟨x7, sx7⟩, k7, a7, h7'⟩ y => ?_) fun H7 ⟨F7, ρ7, s7, acc7, ⟨x7, sx7⟩, k7, a7, h7'⟩ => ?_
        · have ed : ds1[j]? = some ds1[j] := List.getElem?_eq_getElem hj
          obtain ⟨hH, rp⟩ := hY1 j F7 H7 x H8 _ sx7 ed y
          rw [List.drop_eq_getElem_cons hj] at h7'
          have kk : Ok K B F7 ρ7 s7 (L2.wipe σ3 vs1) H8 ∧ GX s7 (L2.wipe σ3 vs1) F7 ρ7 H7 s7 (L2.wipe σ3 vs1) F7 ρ7 H8 := by
            rcases hH with rfl | ⟨p, o, hn, rfl⟩
            · exact ⟨k7, .refl⟩
            · exact ⟨k7.new hn, (Ext.new_ hn).gx⟩
          obtain ⟨k8, x8⟩ := kk
          exact turn_okG his1 hL hB (x7.trans x8) k8 (a7.mono k7 x8) rp h7' fun F9 ρ9 s9 H9 acc9 g9 k9 a9 sx9 h9 => ⟨F9, ρ9, s9, acc9, ⟨g9, (sx7.trans (k7.gsx x8)).trans sx9⟩, k9, a9, h9⟩
        · rw [List.drop_length] at h7'
          have h8 : Run (compLoop2 vs vs1 g c1 src1 g1 c2 m (ds.drop (i + 1)) acc7) (s7.wipe vs) R er := Run.bind (m := wipeM vs) (Run.ret (er := er) h7')
          have k8 := k7.wipe_ vs
          rw [ew2] at k8
          have gw8 : GX s7 (L2.wipe σ3 vs1) F7 ρ7 H7 (s7.wipe vs) (L2.wipe σ vs) F7 ρ7 H7 := by rw [← ew2]; exact gx_wipe
          exact ⟨F7, ρ7, _, acc7, x7.trans gw8, k8, a7.mono k7 gw8, h8⟩
    · have e : i = ds.length := by omega
      subst e
      rw [List.drop_length] at h'
      obtain ⟨kr, er'⟩ := Ok.restore k1 hf x' k'
      obtain ⟨us, q1, q2⟩ := a'.at_
      have ow : ¬ OwnedBy (s'.rest s1 vs) σ L := fun z => by
        have := er'.ow L z
        exact k1.nO hL this
      exact .inl ⟨wk.stops H' q, (Run.ret (er := fun _ _ => False) h') F' ρ' H' _ (e1.trans er' k1.sto) kr ⟨L, us, rfl, q1, q2, a'.nF, a'.nρ, ow, hB⟩ fun a e => by cases e; exact e1.th L hL⟩
  · unfold Run lcM at h1'
    rw [if_neg hf] at h1'
    exact h1'.elim
theorem i_lc2 (hc : X.calm = true) (hN : X.N.Nodup) (hi : DI X Wx tg iter src) (ok : BlkOk X.N X.env.scope scope own) (hv : ∀ j ∈ vs1, j ∈ own.map (·.2))
    (hg : ∀ (s : Shared) (H : Hp) (C : Addr) (cl : List (Str × Addr)) (fp : List Addr), DG (X.blk s H scope (compEnvC scope cl C X.env) fp) Wx0 is tg g)
    (ht : ∀ (s : Shared) (H : Hp) (C : Addr) (cl : List (Str × Addr)) (fp : List Addr), DTs (X.blk s H scope (compEnvC scope cl C X.env) fp) ifs c1)
    (hi1 : ∀ (s : Shared) (H : Hp) (C : Addr) (cl : List (Str × Addr)) (fp : List Addr), DI (X.blk s H scope (compEnvC scope cl C X.env) fp) Wx0 tg1 iter1 src1)
    (hg1 : ∀ (s : Shared) (H : Hp) (C : Addr) (cl : List (Str × Addr)) (fp : List Addr), DG (X.blk s H scope (compEnvC scope cl C X.env) fp) Wx0 is1 tg1 g1)
    (ht1 : ∀ (s : Shared) (H : Hp) (C : Addr) (cl : List (Str × Addr)) (fp : List Addr), DTs (X.blk s H scope (compEnvC scope cl C X.env) fp) ifs1 c2)
    (he : ∀ (s : Shared) (H : Hp) (C : Addr) (cl : List (Str × Addr)) (fp : List Addr), DE (X.blk s H scope (compEnvC scope cl C X.env) fp) Wx0 e m) (his : ∀ j ∈ is, j ∈ own.map (·.2)) (his1 : ∀ j ∈ is1, j ∈ vs1)
    (hs : ∀ x, foldedSetIterable iter X.env x = pure x := by intro _; rfl) (hs1 : ∀ env x, foldedSetIterable iter1 env x = pure x := by intro _ _; rfl) :
    DE X Wx (.ListComp e [⟨tg, iter, ifs, 0⟩, ⟨tg1, iter1, ifs1, 0⟩] scope pos) (eLc2 (own.map (·.2)) vs1 src g c1 src1 g1 c2 m) :=
  pe_mono (pe_lc2 hc hN hi ok hv hg ht hi1 hg1 ht1 he hs hs1) fun σ H Q h => lc2_step his his1 hv h
theorem s_setLc2 {i : Nat} {y : Str} {py spos : Pos} (hc : X.calm = true) (hN : X.N.Nodup) (hy : X.N[i]? = some y) (hyl : X.env.scope.names.lookup y = some .local)
    (hsw : swapsWith (.ListComp e [⟨tg, iter, ifs, 0⟩, ⟨tg1, iter1, ifs1, 0⟩] scope pos) (some (.Name y py)) spos.line X.env = pure true) (hi : DI X Wx tg iter src) (ok : BlkOk X.N X.env.scope scope own) (hv : ∀ j ∈ vs1, j ∈ own.map (·.2))
    (hg : ∀ (s : Shared) (H : Hp) (C : Addr) (cl : List (Str × Addr)) (fp : List Addr), DG (X.blk s H scope (compEnvC scope cl C X.env) fp) Wx0 is tg g)
    (ht : ∀ (s : Shared) (H : Hp) (C : Addr) (cl : List (Str × Addr)) (fp : List Addr), DTs (X.blk s H scope (compEnvC scope cl C X.env) fp) ifs c1)
    (hi1 : ∀ (s : Shared) (H : Hp) (C : Addr) (cl : List (Str × Addr)) (fp : List Addr), DI (X.blk s H scope (compEnvC scope cl C X.env) fp) Wx0 tg1 iter1 src1)
    (hg1 : ∀ (s : Shared) (H : Hp) (C : Addr) (cl : List (Str × Addr)) (fp : List Addr), DG (X.blk s H scope (compEnvC scope cl C X.env) fp) Wx0 is1 tg1 g1)
    (ht1 : ∀ (s : Shared) (H : Hp) (C : Addr) (cl : List (Str × Addr)) (fp : List Addr), DTs (X.blk s H scope (compEnvC scope cl C X.env) fp) ifs1 c2)
    (he : ∀ (s : Shared) (H : Hp) (C : Addr) (cl : List (Str × Addr)) (fp : List Addr), DE (X.blk s H scope (compEnvC scope cl C X.env) fp) Wx0 e m) (his : ∀ j ∈ is, j ∈ own.map (·.2)) (his1 : ∀ j ∈ is1, j ∈ vs1)
    (hs : ∀ x, foldedSetIterable iter X.env x = pure x := by intro _; rfl) (hs1 : ∀ env x, foldedSetIterable iter1 env x = pure x := by intro _ _; rfl) :
    DS X Wx (.Assign [.Name y py] (.ListComp e [⟨tg, iter, ifs, 0⟩, ⟨tg1, iter1, ifs1, 0⟩] scope pos) spos) (sAsg i (eLc2 (own.map (·.2)) vs1 src g c1 src1 g1 c2 m)) :=
  ps_mono (ps_setLc2 hc hN hy hyl hsw hi ok hv hg ht hi1 hg1 ht1 he hs hs1) fun D σ H h => lc2_step his his1 hv (asg_step h)
/-! ### starred displays -/
def valsD : List D → List W := List.map .val
def aStar (m : M W) (r : M (List W)) : M (List W) := m >>= fun a => escW a >>= fun w => ofO (itemsD w) >>= fun ds => r >>= fun ws => Pure.pure (valsD ds ++ ws)
theorem wall_vals {K : PySem.W.Frag} {B : Base} {F : Fz} {ρ : List Addr} {s : S} {σ : Sg} {H : Hp} : ∀ {vs : List V} {ds : List D}, RpAll K F H vs ds → WAll K B F ρ s σ H vs (valsD ds)
  | _, _, .nil => .nil
  | _, _, .cons a b => .cons a (wall_vals b)
theorem a_star {es : List Expr} {ma : M (List W)} {p : Pos} (ha : DE X Wx e m) (hr : DA X Wx es ma) (hs : starEach (.Starred e p :: es) X.env = (true, eval e X.env) :: starEach es X.env := by rfl) : DA X Wx (.Starred e p :: es) (aStar m ma) :=
  pa_mono (StX.pa_star ha hr hs) fun σ H Q ⟨B, F, ρ, s, k, h⟩ => by
    refine ⟨B, F, ρ, s, k, (Run.bind h).mono (fun w1 s1 _ h1 F1 ρ1 H1 x e1 k1 o1 f1 => ?_) fun _ _ _ e => e⟩
    obtain ⟨F2, s2, w2, k2, e2, o2, st2, h2⟩ := esc_ok k1.sto e1 k1 o1 f1 (Run.bind h1)
    obtain ⟨ds, ed, h3⟩ := Run.ofOb h2
    obtain ⟨a, t, vs, rfl, r, sq⟩ := seq_ok k2 o2 ed
    have sq0 := sq F2 H1 .refl
    have sq1 : SqT X.K H1 a vs ∨ SqL X.K H1 a vs := match t, sq0 with
      | true, z => .inl z
      | false, z => .inr z
    refine ⟨a, vs, rfl, sq1, B, F2, ρ1, s2, k2, (Run.bind h3).mono (fun ws s3 _ h3 F3 ρ3 H3 us e3 k3 o3 => ?_) fun _ _ _ e => e⟩
    have x3 := k2.sx e3
    exact (Run.ret h3) F3 ρ3 H3 _ (e2.trans e3 k2.sto) k3 ((wall_vals (x3.rpAll r)).app o3)
end
end Z
/-! Z, part 14: the module's names as facts; the law's end. -/
namespace Z
open PySem PySem.Spec PyProof.Rows L2

/-! ### constants of the module -/
mutual
def conB (K : PySem.W.Frag) : D → Value → Bool
  | .none, .none => true
  | .bool b, .bool c => b == c
  | .int i, .int j _ => decide (i = j)
  | .str x, .str y _ => decide (x = y)
  | .tuple ds, .ref a => (match K.lookup a with
    | some ⟨.type c, _, .seq its _, _⟩ => decide (c = "tuple") && (decide (its.size ≤ sizeLine) && conAll K ds its.toList)
    | _ => false)
  | _, _ => false
def conAll (K : PySem.W.Frag) : List D → List Value → Bool
  | [], [] => true
  | d :: ds, u :: us => conB K d u && conAll K ds us
  | _, _ => false
end
mutual
theorem conB_ok {K : PySem.W.Frag} : ∀ (d : D) (u : Value), conB K d u = true → ∃ v, RelV v u ∧ ∀ F H, Rp K F H v d
  | .none, u, h => by
    cases u with
    | none => exact ⟨.non, rfl, fun _ _ => .non⟩
    | _ => cases h
  | .bool b, u, h => by
    cases u with
    | bool c =>
      have : b = c := eq_of_beq h
      subst this
      exact ⟨.bl b, rfl, fun _ _ => .bl b⟩
    | _ => cases h
  | .int i, u, h => by
    cases u with
    | int j t =>
      have : i = j := of_decide_eq_true h
      subst this
      exact ⟨.int i, ⟨t, rfl⟩, fun _ _ => .int i⟩
    | _ => cases h
  | .str i, u, h => by
    cases u with
    | str j t =>
      have : i = j := of_decide_eq_true h
      subst this
      exact ⟨.str i, ⟨t, rfl⟩, fun _ _ => .str i⟩
    | _ => cases h
  | .tuple ds, u, h => by
    cases u with
    | ref a =>
      have h1 : (match K.lookup a with
        | some ⟨.type c, _, .seq its _, _⟩ => decide (c = "tuple") && (decide (its.size ≤ sizeLine) && conAll K ds its.toList)
        | _ => false) = true := h
      cases q : K.lookup a with
      | none => rw [q] at h1; cases h1
      | some o =>
        obtain ⟨oc, od, dt, osl⟩ := o
        rw [q] at h1
        cases oc with
        | type c =>
          cases dt with
          | seq its n =>
            obtain ⟨h2, h3⟩ := He.ba (show (decide (c = "tuple") && (decide (its.size ≤ sizeLine) && conAll K ds its.toList)) = true from h1)
            obtain ⟨h4, h5⟩ := He.ba h3
            obtain ⟨vs, rv, rp⟩ := conAll_ok ds its.toList h5
            exact ⟨.ref a, rfl, fun F H => .tup (.inr ⟨_, its, n, q, congrArg Value.type (of_decide_eq_true h2), rfl, of_decide_eq_true h4, rv⟩) (rp F H)⟩
          | _ => cases h1
        | _ => cases dt <;> cases h1
    | _ => cases h
  | .list ds, u, h => by cases u <;> cases h
  | .dict ds, u, h => by cases u <;> cases h
theorem conAll_ok {K : PySem.W.Frag} : ∀ (ds : List D) (us : List Value), conAll K ds us = true → ∃ vs, Vals vs us ∧ ∀ F H, RpAll K F H vs ds
  | [], [], _ => ⟨[], .nil, fun _ _ => .nil⟩
  | [], _ :: _, h => by cases h
  | _ :: _, [], h => by cases h
  | d :: ds, u :: us, h => by
    obtain ⟨h1, h2⟩ := He.ba (show (conB K d u && conAll K ds us) = true from h)
    obtain ⟨v, r1, p1⟩ := conB_ok d u h1
    obtain ⟨vs, r2, p2⟩ := conAll_ok ds us h2
    exact ⟨v :: vs, .cons r1 r2, fun F H => .cons (p1 F H) (p2 F H)⟩
end
def Con (K : PySem.W.Frag) (mg : Str → Option Value) (x : Str) (d : D) : Prop := ∃ u v, mg x = some u ∧ RelV v u ∧ ∀ F H, Rp K F H v d
theorem i_con {X : Cx} {Wx : WX} {x : Str} {d : D} {pos : Pos} (C : Con X.K X.mg x d) (hg : Gl X x := by rfl) (hdb : (x == ("__debug__" : Str)) = false := by decide) : DE X Wx (.Name x pos) (eC d) := by
  obtain ⟨u, v, hm, r, hd⟩ := C
  exact i_glob hg hm r hd hdb
/-! ### more facts -/
inductive Fb where
  | con (x : Str) (d : D)
  | blt (x : Str) (id : String)
  | is (f : PySem.W.Frag → Bool)
def isBlt (id : String) : Option (Option Value) → Bool
  | some (some (.builtin i)) => decide (i = id)
  | _ => false
def Fb.ok (K : PySem.W.Frag) : Fb → Bool
  | .con x d => (match PySem.W.nsIn K mainGlobals x with
    | some (some u) => conB K d u
    | _ => false)
  | .blt x id => (match PySem.W.nsIn K mainGlobals x with
    | some (some (.builtin i)) => decide (i = id)
    | _ => false)
  | .is f => f K
section
variable {K : PySem.W.Frag} {h : Heap} {mg : Str → Option Value}
theorem con_ok (X : K.In h) (G : h.Ns mainGlobals mg) {x : Str} {d : D} (c : (Fb.con x d).ok K = true) : Con K mg x d := by
  have c1 : (match PySem.W.nsIn K mainGlobals x with
    | some (some u) => conB K d u
    | _ => false) = true := c
  cases e : PySem.W.nsIn K mainGlobals x with
  | none => rw [e] at c1; cases c1
  | some o =>
    rw [e] at c1
    cases o with
    | none => cases c1
    | some u =>
      obtain ⟨v, r, p⟩ := conB_ok d u c1
      exact ⟨u, v, PySem.W.mg_of X G e, r, p⟩
theorem blt_ok (X : K.In h) (G : h.Ns mainGlobals mg) {x : Str} {id : String} (c : (Fb.blt x id).ok K = true) : mg x = some (.builtin id) := by
  have c1 : (match PySem.W.nsIn K mainGlobals x with
    | some (some (.builtin i)) => decide (i = id)
    | _ => false) = true := c
  cases e : PySem.W.nsIn K mainGlobals x with
  | none => rw [e] at c1; cases c1
  | some o =>
    rw [e] at c1
    cases o with
    | none => cases c1
    | some u =>
      cases u with
      | builtin i =>
        have : i = id := of_decide_eq_true c1
        subst this
        exact PySem.W.mg_of X G e
      | _ => cases c1
end
def obsZ (fa : List He.Fa) (fb : List Fb) (fn : List He.DefD) (K : PySem.W.Frag) : He.AlD := ((He.obsD fa fn K).1 && fb.all fun f => f.ok K, (He.obsD fa fn K).2)
def SaysZ (fa : List He.Fa) (fb : List Fb) (fn : List He.DefD) (K : PySem.W.Frag) : Prop := He.SaysD fa fn K ∧ (fb.all fun f => f.ok K) = true
theorem says_of {fa : List He.Fa} {fb : List Fb} {fn : List He.DefD} {K : PySem.W.Frag} (e : obsZ fa fb fn K = He.valD fn) : SaysZ fa fb fn K := by
  have g1 : (obsZ fa fb fn K).1 = (He.valD fn).1 := congrArg (fun z : He.AlD => z.1) e
  have g2 : (obsZ fa fb fn K).2 = (He.valD fn).2 := congrArg (fun z : He.AlD => z.2) e
  have h1 : ((He.obsD fa fn K).1 && fb.all fun f => f.ok K) = true := g1
  have h2 : (He.obsD fa fn K).2 = (He.valD fn).2 := g2
  obtain ⟨h3, h4⟩ := He.ba h1
  exact ⟨Prod.ext h3 h2, h4⟩
def obsZG (n : Nat) (fa : List He.Fa) (fb : List Fb) (fn : List He.DefD) (g : Addr → Option Obj) : He.AlD := obsZ fa fb fn (He.frG g (He.asD g n))
def hookZ (n : Nat) (fa : List He.Fa) (fb : List Fb) (fn : List He.DefD) : PySem.W.Hook where
  α := He.AlD
  obs := fun s => obsZG n fa fb fn s.heap.get?
  val := fun _ => He.valD fn
  says := fun _ h => ∃ K : PySem.W.Frag, K.In h ∧ SaysZ fa fb fn K
  of := fun _ _ e => ⟨_, He.frG_in, says_of e⟩
  keeps := fun _ _ _ ⟨K, hK, c⟩ k => ⟨K, PySem.W.Frag.In.keeps hK k, c⟩
theorem obsZG_eq {n : Nat} {fa : List He.Fa} {fb : List Fb} {fn : List He.DefD} {g : Addr → Option Obj} {s : Shared} (h : ∀ a, g a = s.heap.get? a) : obsZG n fa fb fn g = (hookZ n fa fb fn).obs s := by
  have e : g = s.heap.get? := funext h
  rw [e] <;> rfl
section
variable {fa : List He.Fa} {fb : List Fb} {fn : List He.DefD} {K : PySem.W.Frag}
theorem SaysZ.fact (c : SaysZ fa fb fn K) (i : Nat) {f : He.Fa} (h : fa[i]? = some f := by rfl) : f.ok K = true := c.1.fact i h
theorem SaysZ.more (c : SaysZ fa fb fn K) (i : Nat) {f : Fb} (h : fb[i]? = some f := by rfl) : f.ok K = true := List.all_eq_true.mp c.2 f (List.mem_of_getElem? h)
end
/-! ### nothing goes out of a comprehension; nothing is asked of what is never reached -/
theorem takes0 {X : Cx} : Takes X Wx0 := fun u s' ⟨_, _, _, _, _, _, _, _, _, _, _, _, _, _, _, _, w⟩ => w.elim
theorem b_never {X : Cx} {Wx : WX} {st : List Stmt} : DB X Wx st sFail := ⟨fun pins s σ H D I ⟨B, F, ρ, s', k, h⟩ => h.elim⟩
theorem e_never {X : Cx} {Wx : WX} {e : Expr} : DE X Wx e M.fail := ⟨fun pins s σ H D I ⟨B, F, ρ, s', k, h⟩ => h.elim⟩
theorem c_never {X : Cx} {Wx : WX} {e : Expr} : DC X Wx e M.fail := ⟨fun pins s σ H D I ⟨B, F, ρ, s', k, h⟩ => h.elim⟩
theorem hu64 {k : Nat} {A : Around} (r : Room k A) : A.units + 64 < cLine := r.units
theorem hu65 {k : Nat} {A : Around} (r : Room k A) : A.units + 65 < cLine := by have := r.un; omega
/-! ### the law's own call -/
theorem law_end {K : PySem.W.Frag} {mg : Str → Option Value} {f : Fn} {H : Hp} {a : Addr} {ns : List Int} (hO : Only H) (hS : SqL K H a (ns.map V.int)) (h : ∃ st, f [.scr ns] [] = .ok (.val (.bool true)) st) :
    spZ K mg 1 f [.ref a] H (fun v _ => v = .bl true) fun _ _ _ => False := by
  obtain ⟨st, e⟩ := h
  have hs : ScrAt K H a ns := by
    rcases hS with h | h
    · rcases h with h | ⟨o, h⟩
      · rcases hO a with z | ⟨o, xs, z⟩
        · rw [h] at z; cases z
        · rw [h] at z; cases z
      · exact .inl ⟨o, h⟩
    · exact .inr (.inr h)
  refine ⟨fun _ => False, [], [], [.scr ns], rfl, ⟨fun _ z => z.elim, ⟨rfl, List.nodup_nil, fun n ds e => by simp at e⟩⟩, .cons ⟨a, rfl, hs⟩ .nil, ?_⟩
  unfold FRun
  rw [e]
  exact fun F' ρ' v H' _ _ r => by
    have r' : Rp K F' H' v (.bool true) := r
    cases r'
    rfl
/-- a law over the world's own readings of what is let out -/
theorem walk_ofZ {l : PySem.W.OpenLaw} {n k : Nat} {q : Program} {loose : List Str} {XP : (Str → Option Value) → Heap → Prop} {YP : World → Heap → Prop} {d : DefRec} {x : Str} (hn : l.most = some n) (hn2 : n ≤ sizeLine) (hdf : d.params.defaults = []) (hr : Room k callerA)
    (F : ∀ (w : World) (mg : Str → Option Value) (fa : Addr) (h : Heap), YP w h → h.Ns mainGlobals mg → mg d.name = some (.ref fa) → ∃ (K : PySem.W.Frag) (fd : FuncData) (f : Fn), K.In h ∧
      (∀ (s : Shared) (u : Value), BindsTo s fd ⟨[u], []⟩ [(x, u)]) ∧ (∀ ns : List Int, ns.length ≤ n → ∃ st, f [.scr ns] [] = .ok (.val (.bool true)) st) ∧ ∀ base : Heap, K.In base → base.Ns mainGlobals mg → FnOk l.prog w K mg base (L2.CX l.prog w) k fa fd [x] (spZ K mg 1 f)) :
    PySem.W.WalkO q loose XP YP l.row.toRowW d [] (fun f vs => PySem.call f vs) := by
  refine Att.attach_call hn hdf fun w s₀ s₁ mg mb fa o pm cd doc a vs ns G Y ho hd hcd hmg hobj hints hlen hg => ?_
  obtain ⟨K, fd, f, KX, hb, hlaw, hF⟩ := F w mg fa _ Y G.T.g hmg
  exact law_call KX G.T.g G.T.b G.T.builtins G.T.nolimit hg hobj hints (Nat.le_trans hlen hn2) hr hF hb (fun H hO hS => law_end hO hS (hlaw ns hlen)) fun H e s' h => by
    obtain ⟨_, _, _, _, _, _, _, _, _, _, _, _, z⟩ := h
    exact z
end Z
/-! Z, part 15: sum of lists, from a list. -/
namespace Z
open PySem PySem.Spec PyProof.Rows L2

/-- what stands in the lists from the i-th on -/
def restL (ls : Nat → List Value) (i : Nat) : Nat → List Value
  | 0 => []
  | k + 1 => ls i ++ restL ls (i + 1) k
section
variable {prog : Program} {w : World} {A : Around} {R : Result → Shared → Prop} {I : Addr} {fp wr : List Addr} {n : Nat} {P : Nat → Value → Prop} {St : Nat → Heap → Prop}
theorem fresh_size {h : Heap} {b : Addr} {o : Obj} (e : h.get? b = some o) : h.objs.size ≠ b := Nat.ne_of_gt (Heap.lt_size e)
theorem sum_lists_loop (W : Walks prog w A.in1 I fp wr n P St) (hfl : ∀ i h, St i h → ∀ b ∈ fp, ∃ o, h.get? b = some o) (ad : Nat → Addr) (ls : Nat → List Value) (cp : Nat → Nat) (hval : ∀ i v, P i v → v = .ref (ad i)) (S : Addr) (hSf : S ∉ fp) (hSa : ∀ i, i < n → ad i ≠ S) (hwa : ∀ i, i < n → ad i ∉ wr) :
    ∀ (k i : Nat) (s : Shared) (T : Addr) (acc : List Value) (ct c : Nat), n - i = k → i ≤ n → St i s.heap → IsL s.heap S #[.ref T] c → T ≠ S → T ∉ wr → IsL s.heap T acc.toArray ct → (∀ j, j < n → IsL s.heap (ad j) (ls j).toArray (cp j)) → (acc ++ restL ls i k).length ≤ sizeLine →
    (∀ h' tk T' ct', IsL h' T' (acc ++ restL ls i k).toArray ct' → (k = 0 → T' = T) → (k ≠ 0 → s.heap.get? T' = none) → (∀ b o, b ∉ wr → b ≠ S → s.heap.get? b = some o → h'.get? b = some o) → R (.ok (.ret (.ref T'))) { s with heap := h', toks := tk }) →
    codeAny (model prog w) A (.builtin "sum.loop" ⟨[.ref I, .ref S, rawInt 2, rawInt 0], []⟩) R s := by
  have hSw : S ∉ wr := fun h => hSf (W.sub _ h)
  intro k
  induction k with
  | zero =>
    intro i s T acc ct c hk hi hst hS hTS hTw hT hL hz hR
    have hin : i = n := by omega
    subst hin
    refine codeAny_builtin F.entry_sum_loop ?_
    rw [Around.under_plainId F.plain_sum_loop _]
    show wpAny _ A.in1 (seqItems? (.ref S) >>= _) _ _ s
    refine wpAny_bind (wpAny_seqItems hS rfl ?_)
    show wpAny _ A.in1 (tryCatch (pyNext (.ref I)) _ >>= _) _ _ s
    refine wpAny_bind (wpAny_tryCatch (W.done s _ _ hst fun h' tk hk' => ?_))
    refine wpAny_pure (hR h' tk T ct ?_ (fun _ => rfl) (fun h => absurd rfl h) fun b o hbw _ e => hk' b o hbw e)
    show IsL h' T (acc ++ []).toArray ct
    rw [List.append_nil]
    exact hk' T _ hTw hT
  | succ k ih =>
    intro i s T acc ct c hk hi hst hS hTS hTw hT hL hz hR
    have hlt : i < n := by omega
    have hz' : (acc ++ (ls i ++ restL ls (i + 1) k)).length ≤ sizeLine := hz
    have hlen : acc.length + ((ls i).length + (restL ls (i + 1) k).length) ≤ sizeLine := by simpa using hz'
    refine codeAny_builtin F.entry_sum_loop ?_
    rw [Around.under_plainId F.plain_sum_loop _]
    show wpAny _ A.in1 (seqItems? (.ref S) >>= _) _ _ s
    refine wpAny_bind (wpAny_seqItems hS rfl ?_)
    show wpAny _ A.in1 (tryCatch (pyNext (.ref I)) _ >>= _) _ _ s
    refine wpAny_bind (wpAny_tryCatch (W.item i s _ _ hlt hst fun v h' tk hP hst' hk' => ?_))
    obtain rfl := hval i v hP
    have hS' := hk' S _ hSw hS
    have hT' := hk' T _ hTw hT
    have hL' := hk' (ad i) _ (hwa i hlt) (hL i hlt)
    show wpAny _ A.in1 ((holding [Value.ref (ad i)] (binaryOp .Add (.ref T) (.ref (ad i)))).attempt >>= _) _ _ _
    refine wpAny_bind (wpAny_attempt (wpAny_holding (PySem.P.add_list hT' hL' ?_ (by rw [List.size_toArray, List.size_toArray]; omega))))
    have ea : acc.toArray ++ (ls i).toArray = (acc ++ ls i).toArray := by simp
    rw [ea]
    generalize hp : h'.objs.size = p
    have push : ∀ b o, h'.get? b = some o → (h'.push { cls := .type "list", data := .seq (acc ++ ls i).toArray }).get? b = some o := fun b o e => Heap.get?_push_of_some _ e
    have hp2 : (h'.push { cls := .type "list", data := .seq (acc ++ ls i).toArray }).get? p = some { cls := .type "list", data := .seq (acc ++ ls i).toArray } := by rw [← hp]; exact Heap.get?_push_size _ rfl
    have np : ∀ b o, h'.get? b = some o → p ≠ b := fun b o e => by rw [← hp]; exact fresh_size e
    have pS : p ≠ S := np S _ hS'
    have pf : p ∉ fp := fun hb => by
      obtain ⟨o, e⟩ := hfl _ _ hst' p hb
      exact np p o e rfl
    have pw : p ∉ wr := fun hb => pf (W.sub _ hb)
    have pn : s.heap.get? p = none := by
      cases q : s.heap.get? p with
      | none => rfl
      | some o => exact absurd rfl (np p o (hk' p o pw q))
    show wpAny _ A.in1 (updateSeq S (fun _ => #[.ref p]) >>= _) _ _ _
    refine wpAny_bind ?_
    have hS1 := push S _ hS'
    refine wpAny_updateSeq hS1 rfl ?_
    have hS2 := Heap.get?_update_self (Obj.mapSeq fun _ => #[Value.ref p]) hS1 rfl
    refine wpAny_bind (wpAny_letGo ?_)
    refine wpAny_bind ?_
    refine wpAny_updateSeq hS2 rfl ?_
    have hS3 := Heap.get?_update_self (Obj.mapSeq fun _ => #[Value.ref p]) hS2 rfl
    have up : ∀ b o, b ≠ S → h'.get? b = some o → (((h'.push { cls := .type "list", data := .seq (acc ++ ls i).toArray }).update S (Obj.mapSeq fun _ => #[Value.ref p])).update S (Obj.mapSeq fun _ => #[Value.ref p])).get? b = some o := fun b o hb e =>
      (Heap.get?_update_other _ _ (Ne.symm hb)).trans ((Heap.get?_update_other _ _ (Ne.symm hb)).trans (push b o e))
    have up2 : ∀ b o, b ≠ S → (h'.push { cls := .type "list", data := .seq (acc ++ ls i).toArray }).get? b = some o → (((h'.push { cls := .type "list", data := .seq (acc ++ ls i).toArray }).update S (Obj.mapSeq fun _ => #[Value.ref p])).update S (Obj.mapSeq fun _ => #[Value.ref p])).get? b = some o := fun b o hb e =>
      (Heap.get?_update_other _ _ (Ne.symm hb)).trans ((Heap.get?_update_other _ _ (Ne.symm hb)).trans e)
    refine wpAny_pure ⟨plainId_quiet F.plain_sum_loop _, ih (i + 1) _ p (acc ++ ls i) 0 _ (by omega) hlt (W.frame _ _ _ hst' fun b hb o e => up b o (fun q => hSf (q ▸ hb)) e) hS3 pS pw (up2 p _ pS hp2) (fun j hj => up _ _ (hSa j hj) (hk' _ _ (hwa j hj) (hL j hj))) (by rw [List.append_assoc]; exact hz') fun h'' tk'' T' ct' g1 g2 g3 g4 => ?_⟩
    refine hR h'' tk'' T' ct' (by rw [List.append_assoc] at g1; exact g1) (fun h => absurd h (Nat.succ_ne_zero k)) (fun _ => ?_) fun b o hbw hbS e => g4 b o hbw hbS (up b o hbS (hk' b o hbw e))
    by_cases h0 : k = 0
    · subst h0
      rw [g2 rfl]
      exact pn
    · have q1 := g3 h0
      cases q : s.heap.get? T' with
      | none => rfl
      | some o =>
        exfalso
        by_cases c1 : T' ∈ wr
        · obtain ⟨o2, e2⟩ := hfl _ _ hst' T' (W.sub _ c1)
          rw [up T' o2 (fun z => hSw (z ▸ c1)) e2] at q1
          cases q1
        · by_cases c2 : T' = S
          · rw [c2, hS3] at q1
            cases q1
          · rw [up T' o c2 (hk' T' o c1 q)] at q1
            cases q1
end
section
variable {prog : Program} {w : World} {A : Around} {E : Value → Shared → Prop} {s : Shared}
theorem args_sum2 (a b : Value) : argsOk "sum" ⟨[a, b], []⟩ := by unfold argsOk; kernel_rfl
theorem call_sum_lists (hh : A.handled = none) {l T : Addr} {items : Array Value} {acc : List Value} {ct : Nat} {Q : Value → Shared → Prop} (hl : s.heap.IsList l items) (ad : Nat → Addr) (ls : Nat → List Value) (cp : Nat → Nat) (hval : ∀ (i : Nat) (v : Value), items[i]? = some v → v = .ref (ad i))
    (hT : IsL s.heap T acc.toArray ct) (hL : ∀ j, j < items.size → IsL s.heap (ad j) (ls j).toArray (cp j)) (hz : (acc ++ restL ls 0 items.size).length ≤ sizeLine)
    (h : ∀ h' tk T' ct', IsL h' T' (acc ++ restL ls 0 items.size).toArray ct' → (items.size = 0 → T' = T) → (items.size ≠ 0 → s.heap.get? T' = none) → (∀ b o, s.heap.get? b = some o → h'.get? b = some o) → Q (.ref T') { s with heap := h', toks := tk }) :
    wpAny (model prog w) A (call (.builtin "sum") [.ref l, .ref T]) Q E s := by
  have hlt : ∀ {b o}, s.heap.get? b = some o → b < s.heap.objs.size := fun e => Heap.lt_size e
  obtain ⟨ol, hol, hlc, nl, hld⟩ := id hl
  refine call_function_tree F.kind_sum F.plain_sum F.entry_sum (args_sum2 _ _) ?_
  unfold Builtin.«sum»
  simp only [List.length_cons, List.length_nil]
  rw [if_neg (by decide)]
  refine wpAny_bind (wpAny_of_eq (show Builtin.Builtins.bindParams "sum" ["start"] 0 ⟨[Value.ref T], []⟩ = pure [some (Value.ref T)] from rfl) ?_)
  refine wpAny_bind (wpAny_pyIter_list hl ?_)
  refine wpAny_bind (wpAny_pure ?_)
  have k1 : ∀ b o, s.heap.get? b = some o → (s.heap.push { cls := .type "list_iterator", data := .fields #[.ref l, .int 0 0] }).get? b = some o := fun b o e => Heap.get?_push_of_some _ e
  have hTy : Shared.TypeIs { s with heap := s.heap.push { cls := .type "list_iterator", data := .fields #[.ref l, .int 0 0] } } (.ref T) "list" := ⟨_, k1 T _ hT, rfl⟩
  simp only [List.forIn_cons, List.forIn_nil]
  refine wpAny_bind (wpAny_bind (wpAny_bind (wpAny_isInstance (T := "list") (b := false) hTy F.sub_list_str ?_)))
  simp only [Bool.false_eq_true, if_false]
  refine wpAny_pure (wpAny_bind (wpAny_bind (wpAny_isInstance (T := "list") (b := false) hTy F.sub_list_bytes ?_)))
  simp only [Bool.false_eq_true, if_false]
  refine wpAny_pure (wpAny_bind (wpAny_bind (wpAny_isInstance (T := "list") (b := false) hTy F.sub_list_bytearray ?_)))
  simp only [Bool.false_eq_true, if_false]
  refine wpAny_pure (wpAny_pure ?_)
  refine wpAny_bind (wpAny_newObj_type ?_)
  generalize hI : s.heap.objs.size = I at *
  have hit : (s.heap.push { cls := .type "list_iterator", data := .fields #[.ref l, .int 0 0] }).get? I = some { cls := .type "list_iterator", data := .fields #[.ref l, .int 0 0] } := by rw [← hI]; exact Heap.get?_push_size _ rfl
  generalize s.heap.push { cls := .type "list_iterator", data := .fields #[.ref l, .int 0 0] } = h1 at *
  have hlI : l ≠ I := Nat.ne_of_lt (hlt hol)
  have hTI : T ≠ I := Nat.ne_of_lt (hlt hT)
  generalize hS : h1.objs.size = S
  have k2 : ∀ b o, h1.get? b = some o → (h1.push { cls := .type "list", data := .seq #[Value.ref T] }).get? b = some o := fun b o e => Heap.get?_push_of_some _ e
  have hS2 : (h1.push { cls := .type "list", data := .seq #[Value.ref T] }).get? S = some { cls := .type "list", data := .seq #[Value.ref T] } := by rw [← hS]; exact Heap.get?_push_size _ rfl
  have ne : ∀ b o, h1.get? b = some o → b ≠ S := fun b o e => by rw [← hS]; exact Nat.ne_of_lt (Heap.lt_size e)
  have W := Walks.list (prog := prog) (w := w) (A := A.in1) hh I l hlI items
  refine wpAny_pure ⟨plainId_quiet F.plain_sum_loop _, sum_lists_loop W (fun i h st b hb => ?_) ad ls cp hval S ?_ (fun i hi => ne _ _ (k1 _ _ (hL i hi))) (fun i hi hm => ?_) items.size 0 _ T acc ct _ (Nat.sub_zero _) (Nat.zero_le _) ⟨⟨_, k2 _ _ hit, rfl, rfl⟩, ⟨ol, k2 _ _ (k1 _ _ hol), hlc, nl, hld⟩⟩ hS2 (ne _ _ (k1 _ _ hT)) ?_ (k2 _ _ (k1 _ _ hT)) (fun j hj => k2 _ _ (k1 _ _ (hL j hj))) hz fun h' tk T' ct' g1 g2 g3 g4 => ?_⟩
  · obtain ⟨⟨o1, e1, _⟩, ⟨o2, e2, _⟩⟩ := st
    have hb' : b = I ∨ b = l := by simpa using hb
    rcases hb' with rfl | rfl
    · exact ⟨o1, e1⟩
    · exact ⟨o2, e2⟩
  · intro hm
    have hm' : S = I ∨ S = l := by simpa using hm
    rcases hm' with q | q
    · exact ne I _ hit q.symm
    · exact ne l _ (k1 _ _ hol) q.symm
  · have q : ad i = I := by simpa using hm
    exact Nat.ne_of_lt (hlt (hL i hi)) q
  · intro hm
    exact hTI (by simpa using hm)
  · refine h h' tk T' ct' g1 g2 (fun h0 => ?_) fun b o e => g4 b o (fun hm => ?_) (ne _ _ (k1 _ _ e)) (k2 _ _ (k1 _ _ e))
    · have q := g3 h0
      cases q2 : s.heap.get? T' with
      | none => rfl
      | some o => rw [k2 _ _ (k1 _ _ q2)] at q; cases q
    · have q : b = I := by simpa using hm
      exact Nat.ne_of_lt (hlt e) q
end
/-! ### the reading -/
def flatD : List D → Option (List D)
  | [] => some []
  | .list ds :: r => (flatD r).map (ds ++ ·)
  | _ => none
def sum2F (w1 w2 : W) : M W := match w1, w2 with
  | .own (x :: xs), .own zs => ofO ((flatD (x :: xs)).bind fun ys => if zs.length + ys.length ≤ sizeLine then some (.own (zs ++ ys)) else none)
  | _, _ => M.fail
def eSum2 (m1 m2 : M W) : M W := m1 >>= fun a => m2 >>= fun b => sum2F a b
inductive FlatV (H : Hp) : List V → List V → Prop
  | nil : FlatV H [] []
  | cons {a : Addr} {xs vs ys : List V} : H a = some (.lst xs) → FlatV H vs ys → FlatV H (.ref a :: vs) (xs ++ ys)
theorem rest_flat (us : List (Addr × List Value × Nat)) : ∀ (i : Nat) (ls : Nat → List Value), (∀ j u, us[j]? = some u → ls (i + j) = u.2.1) → restL ls i us.length = us.flatMap (·.2.1) := by
  induction us with
  | nil => exact fun _ _ _ => rfl
  | cons u us ih =>
    intro i ls h
    have h0 : ls i = u.2.1 := h 0 u rfl
    rw [List.flatMap_cons, ← ih (i + 1) ls fun j v e => by
      have := h (j + 1) v (by simpa using e)
      rw [← this]
      congr 1
      omega]
    show ls i ++ restL ls (i + 1) us.length = _
    rw [h0]
section
variable {X : Cx}
theorem flat_heap {pins : List (Addr × Obj)} {σ : Sg} {H : Hp} {s : Shared} (I : Inv X pins σ H s) {vs ys : List V} (f : FlatV H vs ys) : ∀ {its : List Value}, Vals vs its → ∃ us : List (Addr × List Value × Nat), its = us.map (fun u => Value.ref u.1) ∧ (∀ u ∈ us, IsL s.heap u.1 u.2.1.toArray u.2.2) ∧ Vals ys (us.flatMap (·.2.1)) := by
  induction f with
  | nil =>
    intro its r
    cases r
    exact ⟨[], rfl, (fun _ h => by cases h), Paired.nil⟩
  | @cons a xs vs ys hH _ ih =>
    intro its r
    cases r with
    | cons r rr =>
      cases r
      obtain ⟨us, e1, e2, e3⟩ := ih rr
      obtain ⟨z, it2, n, rv, hl, e⟩ := I.lstM hH
      refine ⟨(a, it2, n) :: us, by rw [e1]; rfl, fun u hu => ?_, ?_⟩
      · rcases List.mem_cons.mp hu with rfl | hu
        · exact e
        · exact e2 u hu
      · rw [List.flatMap_cons]
        exact rv.append e3
def rSum2 (K : PySem.W.Frag) : List V → Hp → VK → Prop := fun vs H Q => ∃ l b xs zs ys, vs = [.ref l, .ref b] ∧ SqL K H l xs ∧ H b = some (.lst zs) ∧ FlatV H xs ys ∧ zs.length + ys.length ≤ sizeLine ∧ (xs = [] → Q (.ref b) H) ∧ (xs ≠ [] → ∀ p, H p = none → Q (.ref p) (upd H p (.lst (zs ++ ys))))
theorem cr_sum2 (hc : X.calm = true) : CallR X (.builtin "sum") (rSum2 X.K) := by
  intro pins s σ H vs us Q I r h
  obtain ⟨l, b, xs, zs, ys, rfl, hl, hb, hf, hz, q0, q1⟩ := h
  cases r with
  | cons r rr =>
    cases rr with
    | cons r' rr =>
      cases rr
      cases r
      cases r'
      obtain ⟨its, rv, pl, _⟩ := I.list hl
      obtain ⟨us, rfl, e2, e3⟩ := flat_heap I hf rv
      obtain ⟨z, itz, nz, rz, hlz, ez⟩ := I.lstM hb
      have hsz : (us.map (fun u => Value.ref u.1)).toArray.size = us.length := by simp
      have hlen := rv.length
      have hy := e3.length
      have hfl : ∀ g, restL (fun i => ((us[i]?).getD (0, [], 0)).2.1) 0 (us.map (fun u => Value.ref u.1)).toArray.size = g ↔ us.flatMap (·.2.1) = g := fun g => by
        rw [hsz, rest_flat us 0 _ fun j u e => by rw [Nat.zero_add, e]; rfl]
      have hfe : restL (fun i => ((us[i]?).getD (0, [], 0)).2.1) 0 (us.map (fun u => Value.ref u.1)).toArray.size = us.flatMap (·.2.1) := (hfl _).mpr rfl
      refine call_sum_lists (I.ok.hd hc) pl.isList (fun i => ((us[i]?).getD (0, [], 0)).1) (fun i => ((us[i]?).getD (0, [], 0)).2.1) (fun i => ((us[i]?).getD (0, [], 0)).2.2) (fun i v e => ?_) ez (fun j hj => ?_) (by rw [hfe, List.length_append]; omega) fun h' tk T' ct' g1 g2 g3 g4 => ?_
      · rw [List.getElem?_toArray, List.getElem?_map] at e
        cases q : us[i]? with
        | none => rw [q] at e; cases e
        | some u => rw [q] at e; exact (Option.some.inj e).symm
      · rw [hsz] at hj
        have := e2 us[j] (List.getElem_mem hj)
        simpa [List.getElem?_eq_getElem hj] using this
      · rw [hfe] at g1
        rw [hsz] at g2 g3
        by_cases h0 : us = []
        · subst h0
          have hx : xs = [] := List.length_eq_zero_iff.mp (by rw [hlen]; rfl)
          rw [g2 rfl]
          exact ⟨.ref b, H, I.kept (t' := tk) g4, rfl, q0 hx⟩
        · have hx : xs ≠ [] := fun z => by
            subst z
            exact h0 (List.length_eq_zero_iff.mp (by simpa using hlen.symm))
          have gn := g3 (fun z => h0 (List.length_eq_zero_iff.mp z))
          have hn : H T' = none := I.hok.gone gn
          exact ⟨.ref T', _, I.laidN (o := .lst (zs ++ ys)) (t' := tk) g4 gn hn ⟨by rw [List.length_append]; exact hz, _, ct', rz.append e3, g1⟩, rfl, q1 hx T' hn⟩
end
theorem flat_rp {K : PySem.W.Frag} {F : Fz} {H : Hp} : ∀ {xs ys : List D} {vs : List V}, flatD xs = some ys → RpAll K F H vs xs → ∃ us, FlatV H vs us ∧ RpAll K F H us ys
  | [], _, _, e, .nil => by cases e; exact ⟨[], .nil, .nil⟩
  | x :: xs, ys, _, e, .cons a b => by
    cases x with
    | list ds =>
      have e' : (flatD xs).map (ds ++ ·) = some ys := e
      cases q : flatD xs with
      | none => rw [q] at e'; cases e'
      | some zs =>
        rw [q] at e'
        cases e'
        obtain ⟨us, f, r⟩ := flat_rp q b
        cases a with
        | lst h1 h2 h3 => exact ⟨_, .cons h2 f, h3.append r⟩
    | _ => cases e
theorem i_sum2 {X : Cx} {Wx : WX} {p pos : Pos} {a b : Expr} {m1 m2 : M W} (hm : X.mg "sum" = none) (ha : DE X Wx a m1) (hb : DE X Wx b m2) (hc : X.calm = true := by rfl) (hg : Gl X "sum" := by rfl)
    (hs : starEach [a, b] X.env = (false, eval a X.env) :: starEach [b] X.env := by rfl) (hs2 : starEach [b] X.env = (false, eval b X.env) :: starEach [] X.env := by rfl) (hpl : (backTo pos (starEach [b] X.env)).any (·.1) = false := by rfl) :
    DE X Wx (.Call (.Name "sum" p) [a, b] [] pos) (eSum2 m1 m2) :=
  pe_mono (pe_callB (cr_sum2 hc) hg hm (by decide +kernel) (pa_cons ha (pa_cons hb pa_nil hs2) hs) (by decide) (by decide) hs hpl) fun σ H Q h =>
    em_bin (P := fun x y H1 => rSum2 X.K [x, y] H1 Q) (fun {B F ρ s H x y w1 w2} k o1 o2 h => by
      cases w1 with
      | own xs =>
        cases w2 with
        | own zs =>
          cases xs with
          | nil => exact h.elim
          | cons d xs =>
            obtain ⟨w, e, h⟩ := Run.ofO h
            cases q : flatD (d :: xs) with
            | none => rw [q] at e; cases e
            | some ys =>
              rw [q] at e
              have e' : (if zs.length + ys.length ≤ sizeLine then some (W.own (zs ++ ys)) else none) = some w := e
              split at e'
              · rename_i hz
                cases e'
                obtain ⟨a1, vs, rfl, h1, r1, _⟩ := o1
                obtain ⟨a2, us, rfl, h2, r2, _⟩ := o2
                obtain ⟨ts, f, rt⟩ := flat_rp q r1
                refine ⟨a1, a2, vs, us, ts, rfl, SqL.of h1, h2, f, by rw [r2.length, rt.length]; exact hz, fun z => ?_, fun _ p hp => ?_⟩
                · subst z; cases r1
                · exact h F ρ _ _ (Ext.new_ hp) (k.new hp) (wok_new k (r2.append rt) hp) fun a e => by cases e; exact hp
              · cases e'
        | _ => cases xs <;> exact h.elim
      | _ => exact h.elim) h
end Z
/-! Z, part 16: promises where nothing is being shown (guards: none at work); functions as values; repr of data. -/
namespace Z
open PySem PySem.Spec PyProof.Rows L2

/-- a def's promise, asked only where no repr is under way -/
structure FnG (P : Program) (w : World) (K : PySem.W.Frag) (mg : Str → Option Value) (base : Heap) (W : CXT) (k : Nat) (f : Addr) (fd : FuncData) (ps : List Str) (sp : Sp) : Prop where
  size : ∀ vs H Q E, sp vs H Q E → vs.length = ps.length
  go : ∀ (A : Around) (ov : List Env) (s : Shared) (H : Hp) (args : Args) (us : List Value) (vs : List V) (Q : VK) (E : XK), A.guards = some [] → Room k A → Env0 P w K mg base A ov s H →
    BindsTo s fd args (ps.zip us) → Vals vs us → sp vs H Q E → codeAny (model P w) A (.call (.ref f) args) (CR W ov P w H s Q E) s
theorem fnG_of {W : CXT} {P : Program} {w : World} {K : PySem.W.Frag} {mg : Str → Option Value} {base : Heap} {k : Nat} {f : Addr} {x qual : Str} {pr : Arguments} {bd : List Stmt} {sc : Scope} {dV kV dc pm cv ct oc : Value} {an od : Option Addr}
    {ol : Array (Option Value)} {N ps : List Str} {sp : Sp} (lk : K.lookup f = some ⟨oc, od, .func (PySem.W.fnOf x qual pr bd sc dV kV dc pm an cv ct), ol⟩) (hq : PySem.W.codeIn K cv qual = true) (T : FnScope N ps sc)
    (sz : ∀ vs H Q E, sp vs H Q E → vs.length = ps.length)
    (hb : ∀ (A : Around) (ov : List Env) (s : Shared) (H : Hp) (vs : List V) (Q : VK) (E : XK), A.guards = some [] → Room k (A.deeper (envOfC qual sc s.heap.objs.size f cv)) → sp vs H Q E →
      ∃ t, PSs (cxOf W P w K mg base N qual sc f cv A ov s H E) bd t ∧ t { nx := fun _ H' => Q .non H', rt := Q } (start N vs) H) :
    FnG P w K mg base W (k + 1) f (PySem.W.fnOf x qual pr bd sc dV kV dc pm an cv ct) ps sp := by
  refine ⟨sz, fun A ov s H as us vs Q E gd rm ev bt rv hs => ?_⟩
  have ez := sz _ _ _ _ hs
  have KX : K.In s.heap := ev.mod.kin.keeps fun a o z => (ev.bs a o z).1
  have nl : s.heap.NoLimit := ev.mod.nolimit.keeps fun a o z => (ev.bs a o z).1
  have kinds : ∀ y ∈ ps.zip us, sc.names.lookup y.1 = some .local ∨ (sc.names.lookup y.1 = some .cell ∧ ((cellsFrom (s.heap.objs.size + 1) sc.names []).lookup y.1).isSome = true) := fun ⟨m, v⟩ hy =>
    (T.par m (List.of_mem_zip hy).1).elim .inl fun z => .inr ⟨z, PySem.W.cellsFrom_some _ _ _ (.inl z)⟩
  refine codeAny_call_function rm.depth (KX _ _ lk) rfl T.co T.gen rfl (PySem.W.codeRec_of KX hq) (bt _ _ _ _ (wpAny_newFunctionEnv_cells T.kind kinds fun env he s1 y => ?_))
  subst he
  refine ⟨nl.keeps y.toInCall.keep, codeAny_func ?_⟩
  obtain ⟨t, ht, hz⟩ := hb A ov s H vs Q E gd (rm.deeper _) hs
  have J : Inv (cxOf W P w K mg base N qual sc f cv A ov s H E) [] (start N vs) H s1 := inv_start T rm.hd ev ez rv y
  have ends : ∀ {σ' : Sg} {H' : Hp} {v : V} {u : Value} {s' : Shared}, Inv (cxOf W P w K mg base N qual sc f cv A ov s H E) [] σ' H' s' → RelV v u → Q v H' → CE ov P w H s Q u s' :=
    fun {_ H' v _ _} I r z => ⟨v, H', I.os, I.bare, I.base, I.hok, r, z⟩
  refine wpAny_mono (ht.run [] s1 (start N vs) H _ J hz) (fun fl s' h => ?_) fun _ _ h => h
  match fl, h with
  | .ret u, ⟨v, σ', H', I, r, z⟩ => exact ends I r z
  | .next, ⟨σ', H', I, z⟩ => exact ends (v := V.non) (u := Value.none) I rfl z
  | .brk, ⟨_, _, _, z⟩ => exact z.elim
  | .cont, ⟨_, _, _, z⟩ => exact z.elim
theorem fn_okG {P : Program} {w : World} {K : PySem.W.Frag} {mg : Str → Option Value} {base : Heap} {x qual : Str} {params : Arguments} {body : List Stmt} {scope : Scope} {dvs : List V} {kws : List (Str × V)} {f : Addr} {fd : FuncData} {N ps : List Str} {k n : Nat} {mb : M SR}
    (G : FunD K x qual params body scope dvs kws f fd) (Sc : FnScope N ps scope) (hps : n = ps.length) (hn : n ≤ N.length)
    (hbody : ∀ (cdv : Value) (A : Around) (outer : List Env) (s : Shared) (H : Hp) (E : XK), Room k (A.deeper (envOfC qual scope s.heap.objs.size f cdv)) → (A.deeper (envOfC qual scope s.heap.objs.size f cdv)).guards = some [] →
      PassesOwn (model P w) (A.deeper (envOfC qual scope s.heap.objs.size f cdv)) (envOfC qual scope s.heap.objs.size f cdv) (cxOf (L2.CX P w) P w K mg base N qual scope f cdv A outer s H E).xe →
      Takes (cxOf (L2.CX P w) P w K mg base N qual scope f cdv A outer s H E) (fun cls d _ H => E cls d H) →
      DB (cxOf (L2.CX P w) P w K mg base N qual scope f cdv A outer s H E) (fun cls d _ H => E cls d H) body mb) :
    FnG P w K mg base (L2.CX P w) (k + 1) f fd ps (spZ K mg n (fnOf N.length mb)) := by
  obtain ⟨oc, od, dV, kV, doc, pm, an, cdv, ct, osl, rfl, lk, hcd, _, _⟩ := G.ex
  exact fnG_of lk hcd Sc (fun vs H Q E h => by obtain ⟨_, _, _, _, e, _⟩ := h; rw [e, hps]) fun A outer s H vs Q E gd hr h =>
    ⟨_, ⟨(hbody cdv A outer s H E hr gd (passes_of (X := cxOf (L2.CX P w) P w K mg base N qual scope f cdv A outer s H E) rfl) (takes_of rfl rfl rfl rfl)).run⟩, body_ok hn h⟩

/-! ### calls -/
structure TakesG (P : Program) (w : World) (K : PySem.W.Frag) (mg : Str → Option Value) (base : Heap) (x : Str) (k n : Nat) (ps : List Str) (fs : Fn) : Prop where
  ex : ∃ f fd, FnG P w K mg base (L2.CX P w) k f fd ps (spZ K mg n fs) ∧ mg x = some (.ref f) ∧ PySem.W.keepIn K (.ref f) = true ∧ Binds K fd ps []
structure TakesGK (P : Program) (w : World) (K : PySem.W.Frag) (mg : Str → Option Value) (base : Heap) (x : Str) (k n : Nat) (ps : List Str) (fs : Fn) (np : Nat) (ks : List Str) (is : List Nat) : Prop where
  ex : ∃ f fd, FnG P w K mg base (L2.CX P w) k f fd ps (spZ K mg n fs) ∧ mg x = some (.ref f) ∧ PySem.W.keepIn K (.ref f) = true ∧ ∃ g gV, KBn K fd ps np ks g gV ∧ ∀ vs zs, gV vs zs = is.filterMap fun i => (vs ++ zs)[i]?
section
variable {X : Cx} {Wx : WX} {k n np i : Nat} {ps ks : List Str} {is : List Nat} {fs : Fn} {f : Addr} {fd : FuncData} {sp : Sp} {x : Str} {p pos : Pos} {e : Expr} {es : List Expr} {kws : List Keyword} {ma mk : M (List W)}
theorem after_run {W : CXT} {E : Sg → XK} {pins : List (Addr × Obj)} {σ : Sg} {H : Hp} {s : Shared} {Q : VK} {args : Args} {us : List Value} {vs : List V} (F : FnG X.prog X.w X.K X.mg X.base W k f fd ps sp) (hr : Room k X.A) (gd : X.A.guards = some []) (hx : PassesAt W X σ (E σ))
    (I : Inv X pins σ H s) (b : BindsTo s fd args (ps.zip us)) (r : Vals vs us) (h : sp vs H Q (E σ)) : wpAny (model X.prog X.w) X.A (call (.ref f) args.pos args.kw) (EP X pins σ Q) X.xe s := by
  refine wpAny_call (codeAny_mono (F.go X.A X.stack s H args us vs Q (E σ) gd hr I.env0 b r h) fun r s' z => ?_)
  match r, z with
  | .error e, z => exact hx pins H s e s' I z
  | .ok (.ret u), z => exact I.after z
  | .ok .next, z => exact z.elim
  | .ok .brk, z => exact z.elim
  | .ok .cont, z => exact z.elim
theorem run_fnG {W : CXT} {E : Sg → XK} {pins : List (Addr × Obj)} {σ : Sg} {H : Hp} {s : Shared} {Q : VK} {us : List Value} {vs : List V} (F : FnG X.prog X.w X.K X.mg X.base W k f fd ps sp) (hr : Room k X.A) (gd : X.A.guards = some []) (hb : Binds X.K fd ps []) (hx : PassesAt W X σ (E σ))
    (I : Inv X pins σ H s) (r : Vals vs us) (h : sp vs H Q (E σ)) : wpAny (model X.prog X.w) X.A (call (.ref f) us) (EP X pins σ Q) X.xe s := by
  have b := hb s us I.kIn (by rw [List.append_nil, ← r.length]; exact F.size _ _ _ _ h)
  rw [List.append_nil] at b
  exact after_run (args := ⟨us, []⟩) F hr gd hx I b r h
theorem run_fnGN {W : CXT} {E : Sg → XK} {g : List Value → List Value → List Value} {gV : List V → List V → List V} {pins : List (Addr × Obj)} {σ : Sg} {H : Hp} {s : Shared} {Q : VK} {us ws : List Value} {vs zs : List V}
    (F : FnG X.prog X.w X.K X.mg X.base W k f fd ps sp) (hr : Room k X.A) (gd : X.A.guards = some []) (hb : KBn X.K fd ps n ks g gV) (hx : PassesAt W X σ (E σ))
    (I : Inv X pins σ H s) (r : Vals vs us) (rz : Vals zs ws) (l1 : vs.length = n) (l2 : zs.length = ks.length) (h : sp (gV vs zs) H Q (E σ)) : wpAny (model X.prog X.w) X.A (call (.ref f) us (ks.zip ws)) (EP X pins σ Q) X.xe s :=
  after_run (args := ⟨us, ks.zip ws⟩) F hr gd hx I (hb.to s us ws I.kIn (r.length.symm.trans l1) (rz.length.symm.trans l2)) (hb.rel r rz) h
theorem i_callG (C : TakesG X.prog X.w X.K X.mg X.base x k n ps fs) (hr : Room k X.A) (gd : X.A.guards = some []) (tk : Takes X Wx)
    (ha : DA X Wx (e :: es) ma) (hg : Gl X x := by rfl) (hdb : (x == ("__debug__" : Str)) = false := by decide) (he : starEach (e :: es) X.env = (false, eval e X.env) :: starEach es X.env := by rfl) (hpl : (backTo pos (starEach es X.env)).any (·.1) = false := by rfl) :
    DE X Wx (.Call (.Name x p) (e :: es) [] pos) (eCallS n fs ma) := by
  obtain ⟨f, fd, G, hm, hk, hb⟩ := C.ex
  have base : PE X (.Call (.Name x p) (e :: es) [] pos) (tCallS (spZ X.K X.mg n fs) (WE Wx) fun σ H Q => AM X.K X.mg Wx ma σ H Q) := by
    refine ⟨fun pins s σ H Q I h => wpAny_Call_Name_kw (ld_glob I hg hm ?_ hdb)⟩
    exact PySem.W.callWith_K (h₀ := X.base) I.ok.mod.kin hk (thn (ha.run pos pins s σ H _ I h) fun us s1 ⟨vs, H1, J, r, q⟩ => ⟨J.kIn, run_fnG G hr gd hb (passAt tk σ) J r q⟩) he hpl
  exact pe_mono base fun σ H Q h => am_step (P := fun vs H1 => spZ X.K X.mg n fs vs H1 Q (WE Wx σ)) (fun kk o h => call_step kk o h) h
theorem i_callG0 (C : TakesG X.prog X.w X.K X.mg X.base x k 0 ps fs) (hr : Room k X.A) (gd : X.A.guards = some []) (tk : Takes X Wx)
    (hg : Gl X x := by rfl) (hdb : (x == ("__debug__" : Str)) = false := by decide) : DE X Wx (.Call (.Name x p) [] [] pos) (eCallS 0 fs aNil) := by
  obtain ⟨f, fd, G, hm, hk, hb⟩ := C.ex
  have base : PE X (.Call (.Name x p) [] [] pos) fun σ H Q => spZ X.K X.mg 0 fs [] H Q (WE Wx σ) := by
    refine ⟨fun pins s σ H Q I h => wpAny_Call_Name_kw (ld_glob I hg hm ?_ hdb)⟩
    exact PySem.W.callWith_K0 I.kIn hk (run_fnG (us := []) G hr gd hb (passAt tk σ) I .nil h)
  refine pe_mono base fun σ H Q h => ?_
  obtain ⟨B, F, ρ, s, kk, h⟩ := h
  have h2 : Run (callS 0 fs []) s (Post X.K B σ s F ρ H Q) (Er X.K X.mg Wx B σ) := Run.bind (m := aNil) (k := fun ws => callS 0 fs ws) h
  exact call_step kk .nil h2
theorem i_callGK0 (C : TakesGK X.prog X.w X.K X.mg X.base x k n ps fs 0 ks is) (hr : Room k X.A) (gd : X.A.guards = some []) (tk : Takes X Wx) (hkw : DK X Wx kws mk) (hks : (backToKw pos (keywordEach kws X.env)).filterMap (·.1) = ks := by rfl) (hg : Gl X x := by rfl)
    (hall : (backToKw pos (keywordEach kws X.env)).all (·.1.isSome) = true := by rfl) (hdb : (x == ("__debug__" : Str)) = false := by decide) (hpl : ((backTo pos (starEach [] X.env)).any (·.1) || (backToKw pos (keywordEach kws X.env)).any (·.1.isNone)) = false := by rfl) :
    DE X Wx (.Call (.Name x p) [] kws pos) (eCallK n fs 0 ks.length is aNil mk) := by
  obtain ⟨f, fd, G, hm, hk, g, gV, hb, hgv⟩ := C.ex
  have base : PE X (.Call (.Name x p) [] kws pos) (fun σ H Q => AM X.K X.mg Wx mk σ H fun zs H2 => zs.length = ks.length ∧ spZ X.K X.mg n fs (gV [] zs) H2 Q (WE Wx σ)) := by
    refine ⟨fun pins s σ H Q I h => wpAny_Call_Name_kw (ld_glob I hg hm ?_ hdb)⟩
    refine PySem.W.callWith_KW0 (h₀ := X.base) I.ok.mod.kin hk hall (thn (hkw.run pos pins s σ H _ I h) fun ws s2 ⟨zs, H2, J, rz, l2, q2⟩ => ⟨J.kIn, ?_⟩) hpl
    rw [hks]
    exact run_fnGN (us := []) (vs := []) G hr gd hb (passAt tk σ) J .nil rz rfl l2 q2
  refine pe_mono base fun σ H Q h => ?_
  refine am_step (ma := mk) (f := fun zs => if ([] : List W).length = 0 ∧ zs.length = ks.length then callS n fs (permW is ([] ++ zs)) else M.fail) (P := fun zs H2 => zs.length = ks.length ∧ spZ X.K X.mg n fs (gV [] zs) H2 Q (WE Wx σ)) (fun {B F ρ s H vs ws} kk o h => ?_) h
  by_cases hl : ([] : List W).length = 0 ∧ ws.length = ks.length
  · rw [if_pos hl] at h
    refine ⟨o.length.trans hl.2, ?_⟩
    rw [hgv]
    exact call_step kk (o.perm is) h
  · rw [if_neg hl] at h; exact h.elim
theorem i_callGK (C : TakesGK X.prog X.w X.K X.mg X.base x k n ps fs np ks is) (hr : Room k X.A) (gd : X.A.guards = some []) (tk : Takes X Wx) (ha : DA X Wx (e :: es) ma) (hkw : DK X Wx kws mk) (hks : (backToKw pos (keywordEach kws X.env)).filterMap (·.1) = ks := by rfl) (hg : Gl X x := by rfl)
    (hall : (backToKw pos (keywordEach kws X.env)).all (·.1.isSome) = true := by rfl) (hdb : (x == ("__debug__" : Str)) = false := by decide) (he : starEach (e :: es) X.env = (false, eval e X.env) :: starEach es X.env := by rfl)
    (hpl : ((backTo pos (starEach (e :: es) X.env)).any (·.1) || (backToKw pos (keywordEach kws X.env)).any (·.1.isNone)) = false := by rfl) :
    DE X Wx (.Call (.Name x p) (e :: es) kws pos) (eCallK n fs np ks.length is ma mk) := by
  obtain ⟨f, fd, G, hm, hk, g, gV, hb, hgv⟩ := C.ex
  have base : PE X (.Call (.Name x p) (e :: es) kws pos) (fun σ H Q => AM X.K X.mg Wx ma σ H fun vs H1 => AM X.K X.mg Wx mk σ H1 fun zs H2 => vs.length = np ∧ zs.length = ks.length ∧ spZ X.K X.mg n fs (gV vs zs) H2 Q (WE Wx σ)) := by
    refine ⟨fun pins s σ H Q I h => wpAny_Call_Name_kw (ld_glob I hg hm ?_ hdb)⟩
    refine PySem.W.callWith_KW (h₀ := X.base) I.ok.mod.kin hk hall (thn (ha.run pos pins s σ H _ I h) fun us s1 ⟨vs, H1, J, r, q⟩ => ?_) hpl he
    refine thn (hkw.run pos pins s1 σ H1 _ J q) fun ws s2 ⟨zs, H2, J2, rz, l1, l2, q2⟩ => ⟨J2.kIn, ?_⟩
    rw [hks]
    exact run_fnGN G hr gd hb (passAt tk σ) J2 r rz l1 l2 q2
  refine pe_mono base fun σ H Q h => ?_
  obtain ⟨B, F, ρ, s, kk, h⟩ := h
  refine ⟨B, F, ρ, s, kk, (Run.bind h).mono (fun ws s1 _ h1 F1 ρ1 H1 vs e1 k1 o1 => ?_) fun _ _ _ e => e⟩
  refine ⟨B, F1, ρ1, s1, k1, (Run.bind h1).mono (fun zs s2 _ h2 F2 ρ2 H2 us e2 k2 o2 => ?_) fun _ _ _ e => e⟩
  by_cases hl : ws.length = np ∧ zs.length = ks.length
  · rw [if_pos hl] at h2
    have o := (o1.mono k1 e2).app o2
    refine ⟨o1.length.trans hl.1, o2.length.trans hl.2, ?_⟩
    rw [hgv]
    exact call_step k2 (o.perm is) (h2.mono (fun w s' _ p => p.step (e1.trans e2 k1.sto) k2.sto) fun _ _ _ e => e)
  · rw [if_neg hl] at h2; exact h2.elim
end
end Z
/-! Z, part 17: the law's own call where nothing is shown; functions as values; repr of data. -/
namespace Z
open PySem PySem.Spec PyProof.Rows L2

abbrev LawEnd (s₁ : Shared) (r : Result) (t : Shared) : Prop := r = .ok (.ret (.bool true)) ∧ OldK s₁.heap t.heap ∧ t.os = s₁.os ∧ AllBare t.gens
section
variable {P : Program} {w : World} {K : PySem.W.Frag} {mg mb : Str → Option Value} {W : CXT} {k : Nat} {fa a : Addr} {fd : FuncData} {x : Str} {sp : Sp} {s₁ : Shared} {vs : List Value} {ns : List Int}
abbrev scrO (vs : List Value) : Obj := { cls := .type "list", data := .seq vs.toArray }
theorem law_from (KX : K.In s₁.heap) (g1 : s₁.heap.Ns mainGlobals mg) (g2 : s₁.heap.Ns builtinsNs mb) (g3 : ∀ y : Str, y ≠ "__name__" → mb y = bootBuiltins y) (g4 : s₁.heap.NoLimit) (g5 : s₁.gens = #[])
    (oa : s₁.heap.get? a = some (scrO vs)) (hr : Room k callerA) (F : ∀ b : Heap, K.In b → b.Ns mainGlobals mg → FnG P w K mg b W k fa fd [x] sp) (bnd : ∀ (s : Shared) (u : Value), BindsTo s fd ⟨[u], []⟩ [(x, u)])
    (out : ∀ H e t, W [] H s₁ (fun _ _ _ => False) e t → False) {H : Hp} (oh : Only H) (prom : sp [.ref a] H (fun v _ => v = .bl true) fun _ _ _ => False) (ok : HOk P w H s₁.heap) (hA : ∀ b, H b ≠ none → b = a) (hK : H a ≠ none → K.lookup a = none) :
    codeAny (model P w) callerA (.call (.ref fa) ⟨[.ref a], []⟩) (LawEnd s₁) s₁ := by
  have there : ∀ {b : Addr} {o : Obj}, s₁.heap.get? b = some o → H b = none → (hidT s₁.heap H).get? b = some o := fun z n => hidT_get z n
  have self : ∀ {b : Addr}, ¬ H b = none → b = a := fun {b} z => hA b z
  have dicts : ∀ {b : Addr} {o : Obj} {es : Array DictEntry} {ep : Nat}, s₁.heap.get? b = some o → o.data = .dict es ep → H b = none := fun {b o es ep} z d =>
    Decidable.byContradiction fun n => by
      obtain rfl := self n
      rw [oa] at z
      obtain rfl := Option.some.inj z
      have d' : Data.seq vs.toArray _ = Data.dict es ep := d
      exact Data.noConfusion d'
  have names : ∀ {b : Addr} {m : Str → Option Value}, s₁.heap.Ns b m → (hidT s₁.heap H).Ns b m := fun ⟨o, es, ep, z, d, r⟩ => ⟨o, es, ep, there z (dicts z d), d, r⟩
  have KB : K.In (hidT s₁.heap H) := fun b o z => there (KX b o z) (Decidable.byContradiction fun n => by
    obtain rfl := self n
    rw [hK n] at z
    cases z)
  obtain ⟨mc, l1, l2⟩ := g4
  have ev : Env0 P w K mg (hidT s₁.heap H) callerA [] s₁ H := ⟨rfl, ⟨KB, names g1, ⟨mb, names g2, g3⟩, ⟨mc, names l1, l2⟩⟩, fun b o z => of_hidT z, Nat.le_of_eq (hidT_size _ _), trivial, (fun b z => nomatch (show b ∈ ([] : List Addr) from z)), ok, .of_eq g5⟩
  have run := (F _ KB (names g1)).go callerA [] s₁ H ⟨[.ref a], []⟩ [.ref a] [.ref a] _ _ rfl hr ev (bnd s₁ (.ref a)) (.cons rfl .nil) prom
  refine codeAny_mono run fun r t z => ?_
  match r, z with
  | .error e, z => exact (out H e t z).elim
  | .ok .next, z => exact z.elim
  | .ok .brk, z => exact z.elim
  | .ok .cont, z => exact z.elim
  | .ok (.ret u), ⟨v, H', o1, o2, un, ok', rel, q⟩ =>
    have q' : v = .bl true := q
    subst q'
    have rel' : u = Value.bool true := rel
    subst rel'
    refine ⟨rfl, OldK.of_keep fun b o z => ?_, o1, o2⟩
    rcases oh b with n | ⟨ob, xs, n⟩
    · exact un.keep b o z n (fun y => by cases y) (by simp)
    · obtain ⟨p1, _⟩ := ok b _ n
      obtain ⟨p2, _⟩ := ok' b _ (un.frzs b ob _ n)
      rw [z] at p1
      obtain rfl := Option.some.inj p1
      exact p2
theorem law_callG (KX : K.In s₁.heap) (g1 : s₁.heap.Ns mainGlobals mg) (g2 : s₁.heap.Ns builtinsNs mb) (g3 : ∀ y : Str, y ≠ "__name__" → mb y = bootBuiltins y) (g4 : s₁.heap.NoLimit) (g5 : s₁.gens = #[])
    (oa : s₁.heap.get? a = some (scrO vs)) (iv : IntsAre vs ns) (hl : ns.length ≤ sizeLine) (hr : Room k callerA) (F : ∀ b : Heap, K.In b → b.Ns mainGlobals mg → FnG P w K mg b W k fa fd [x] sp) (bnd : ∀ (s : Shared) (u : Value), BindsTo s fd ⟨[u], []⟩ [(x, u)])
    (prom : ∀ H : Hp, Only H → SqL K H a (ns.map V.int) → sp [.ref a] H (fun v _ => v = .bl true) fun _ _ _ => False) (out : ∀ H e t, W [] H s₁ (fun _ _ _ => False) e t → False) :
    codeAny (model P w) callerA (.call (.ref fa) ⟨[.ref a], []⟩) (LawEnd s₁) s₁ := by
  have rel := vals_ints iv
  have len := iv.length
  cases own : K.lookup a with
  | some o =>
    have z := KX a o own
    rw [oa] at z
    obtain rfl := Option.some.inj z
    have none_ : Only fun _ => none := fun _ => .inl rfl
    refine law_from KX g1 g2 g3 g4 g5 oa hr F bnd out none_ (prom _ none_ (.inr ⟨_, vs.toArray, _, own, rfl, rfl, rfl, ?_, ?_⟩)) (fun b u y => ?_) (fun b y => absurd rfl y) fun y => absurd rfl y
    · rw [List.size_toArray, len]; exact hl
    · simpa using rel
    · have y' : (none : Option HO) = some u := y
      cases y'
  | none =>
    let h0 : Hp := fun b => if b = a then some (.frz (scrO vs) (.lst (ns.map V.int))) else none
    have at_ : h0 a = some (.frz (scrO vs) (.lst (ns.map V.int))) := if_pos rfl
    have off : ∀ {b : Addr}, b ≠ a → h0 b = none := fun n => if_neg n
    have only : Only h0 := fun b => by
      by_cases n : b = a
      · rw [n]; exact .inr ⟨_, _, at_⟩
      · exact .inl (off n)
    refine law_from KX g1 g2 g3 g4 g5 oa hr F bnd out only (prom h0 only (.inl (.inr ⟨_, at_⟩))) (fun b u y => ?_) (fun b y => Decidable.byContradiction fun n => y (off n)) fun _ => own
    by_cases n : b = a
    · subst n
      rw [at_] at y
      obtain rfl := Option.some.inj y
      exact ⟨oa, by rw [List.length_map]; exact hl, vs, _, rel, oa⟩
    · rw [off n] at y; cases y
end
theorem walk_ofG {l : PySem.W.OpenLaw} {n k : Nat} {q : Program} {loose : List Str} {XP : (Str → Option Value) → Heap → Prop} {YP : World → Heap → Prop} {d : DefRec} {x : Str} (hn : l.most = some n) (hn2 : n ≤ sizeLine) (hdf : d.params.defaults = []) (hr : Room k callerA)
    (F : ∀ (w : World) (mg : Str → Option Value) (fa : Addr) (h : Heap), YP w h → h.Ns mainGlobals mg → mg d.name = some (.ref fa) → ∃ (K : PySem.W.Frag) (fd : FuncData) (f : Fn), K.In h ∧
      (∀ (s : Shared) (u : Value), BindsTo s fd ⟨[u], []⟩ [(x, u)]) ∧ (∀ ns : List Int, ns.length ≤ n → (∀ z ∈ ns, Builtin.Int.intBits z ≤ 1048576) → ∃ st, f [.scr ns] [] = .ok (.val (.bool true)) st) ∧ ∀ base : Heap, K.In base → base.Ns mainGlobals mg → FnG l.prog w K mg base (L2.CX l.prog w) k fa fd [x] (spZ K mg 1 f)) :
    PySem.W.WalkO q loose XP YP l.row.toRowW d [] (fun f vs => PySem.call f vs) := by
  refine Att.attach_callB hn hdf fun w s₀ s₁ mg mb fa o pm cd doc a vs ns G Y ho hd hcd hmg hobj hints hlen hbits hg => ?_
  obtain ⟨K, fd, f, KX, hb, hlaw, hF⟩ := F w mg fa _ Y G.T.g hmg
  exact law_callG KX G.T.g G.T.b G.T.builtins G.T.nolimit hg hobj hints (Nat.le_trans hlen hn2) hr hF hb (fun H hO hS => law_end hO hS (hlaw ns hlen hbits)) fun H e s' h => by
    obtain ⟨_, _, _, _, _, _, _, _, _, _, _, _, z⟩ := h
    exact z

/-! ### functions as values -/
def eFn (x : Str) : M W := Pure.pure (.fn x)
def fnAt (i : Nat) (s : S) : Option Str := match s.env[i]? with
  | some (some (.fn g)) => some g
  | _ => none
def eCallV (n i : Nat) (tab : List (Str × Fn)) (ma : M (List W)) : M W := fun s => match fnAt i s with
  | some g => (match tab.lookup g with
    | some f => (ma >>= callS n f) s
    | none => .fail)
  | none => .fail
section
variable {X : Cx} {Wx : WX} {n i : Nat} {x : Str} {p pos : Pos} {e : Expr} {es : List Expr} {ma : M (List W)} {tab : List (Str × Fn)} {k : Nat}
theorem i_fn (hm : X.mg x = some (.ref (He.ga X.K x))) (hg : Gl X x := by rfl) (hdb : (x == ("__debug__" : Str)) = false := by decide) : DE X Wx (.Name x pos) (eFn x) :=
  pe_mono (pe_glob hg hm (v := .ref (He.ga X.K x)) rfl hdb) fun σ H Q ⟨B, F, ρ, s, k, h⟩ => (Run.ret h) F ρ H _ .refl k rfl trivial
/-- those that a slot may hold -/
inductive TabOk (X : Cx) (k n : Nat) : List (Str × Fn) → Prop
  | nil : TabOk X k n []
  | cons {y : Str} {ps : List Str} {fs : Fn} {l : List (Str × Fn)} (hm : X.mg y = some (.ref (He.ga X.K y))) (C : TakesG X.prog X.w X.K X.mg X.base y k n ps fs) : TabOk X k n l → TabOk X k n ((y, fs) :: l)
theorem TabOk.get (T : TabOk X k n tab) {g : Str} {fs : Fn} (h : tab.lookup g = some fs) : ∃ (fd : FuncData) (ps : List Str), FnG X.prog X.w X.K X.mg X.base (L2.CX X.prog X.w) k (He.ga X.K g) fd ps (spZ X.K X.mg n fs) ∧ PySem.W.keepIn X.K (.ref (He.ga X.K g)) = true ∧ Binds X.K fd ps [] := by
  induction T with
  | nil => cases h
  | @cons y ps fs' l hm C _ ih =>
    rw [List.lookup_cons] at h
    by_cases q : g == y
    · rw [q] at h
      have e : fs' = fs := by simpa using h
      subst e
      obtain ⟨f, fd, G, hm2, hk, hb⟩ := C.ex
      rw [hm] at hm2
      have ef := Value.ref.inj (Option.some.inj hm2)
      subst ef
      rw [eq_of_beq q]
      exact ⟨fd, ps, G, hk, hb⟩
    · have q' : (g == y) = false := by simpa using q
      rw [q'] at h
      exact ih h
theorem i_callV (i : Nat) (T : TabOk X k n tab) (hr : Room k X.A) (gd : X.A.guards = some []) (tk : Takes X Wx) (ha : DA X Wx (e :: es) ma) (hN : X.N[i]? = some x := by rfl)
    (hv : Vis X.env.scope x := by first | exact Or.inl rfl | exact Or.inr (Or.inl rfl) | exact Or.inr (Or.inr rfl)) (hdb : (x == ("__debug__" : Str)) = false := by decide) (hcd : (x == ("__classdict__" : Str)) = false := by decide)
    (he : starEach (e :: es) X.env = (false, eval e X.env) :: starEach es X.env := by rfl) (hpl : (backTo pos (starEach es X.env)).any (·.1) = false := by rfl) :
    DE X Wx (.Call (.Name x p) (e :: es) [] pos) (eCallV n i tab ma) := by
  refine ⟨fun pins s0 σ H Q I ⟨B, F, ρ, s, kk, h⟩ => ?_⟩
  unfold Run eCallV fnAt at h
  cases q : s.env[i]? with
  | none => rw [q] at h; exact h.elim
  | some o =>
    cases o with
    | none => rw [q] at h; exact h.elim
    | some w =>
      cases w with
      | fn g =>
        rw [q] at h
        obtain ⟨v, e1, e2⟩ := kk.env i _ q
        have e2 : v = .ref (He.ga X.K g) := e2
        subst e2
        cases ql : tab.lookup g with
        | none => simp only [ql] at h
        | some fs =>
          simp only [ql] at h
          have h : Run (ma >>= callS n fs) s (Post X.K B σ s F ρ H Q) (Er X.K X.mg Wx B σ) := h
          obtain ⟨fd, ps, G, hk, hb⟩ := T.get ql
          refine wpAny_Call_Name_kw (thn ((pe_var (pos := p) hN hv hdb hcd).run pins s0 σ H (fun v H1 => v = .ref (He.ga X.K g) ∧ H1 = H) I ⟨_, e1, rfl, rfl⟩) fun u s1 ⟨v, H1, I1, r1, q1⟩ => ?_)
          obtain ⟨rfl, rfl⟩ := q1
          cases r1
          have am : AM X.K X.mg Wx ma σ H1 fun vs H2 => spZ X.K X.mg n fs vs H2 Q (WE Wx σ) := am_step (P := fun vs H1 => spZ X.K X.mg n fs vs H1 Q (WE Wx σ)) (fun kk o h => call_step kk o h) ⟨B, F, ρ, s, kk, h⟩
          exact PySem.W.callWith_K (h₀ := X.base) I1.ok.mod.kin hk (thn (ha.run pos pins s1 σ H1 _ I1 am) fun us s2 ⟨vs, H2, J, r, z⟩ => ⟨J.kIn, run_fnG G hr gd hb (passAt tk σ) J r z⟩) he hpl
      | _ => rw [q] at h; exact h.elim
end
/-! ### repr -/
def isSeqD : D → Bool
  | .list _ => true
  | .tuple _ => true
  | _ => false
def reprD (d : D) : Option W := if isSeqD d = true ∧ d.showable = true ∧ d.hasDict = false ∧ d.depth ≤ 60 ∧ d.shown.length ≤ sizeLine then some (.val (.str d.shown)) else none
section
variable {X : Cx} {Wx : WX} {p pos p2 : Pos} {a : Expr} {m : M W}
theorem call_repr (hu : X.A.units + 65 < cLine) (gd : X.A.guards = some []) : CallR X (.builtin "repr") fun xs H Q => ∃ a d, xs = [.ref a] ∧ Dp X.K H (.ref a) d ∧ d.showable = true ∧ d.hasDict = false ∧ d.depth ≤ 60 ∧ d.shown.length ≤ sizeLine ∧ Q (.str d.shown) H := by
  intro pins s σ H xs us Q I r h
  obtain ⟨a, d, rfl, dp, h1, h2, h3, h4, q⟩ := h
  obtain ⟨u, rfl, ru⟩ := vals1 r
  have ru' : u = .ref a := ru
  subst ru'
  obtain ⟨as, rd⟩ := Dp.reads I d (.ref a) (.ref a) dp rfl
  exact repr_of_reads' rd h1 (fun z => by rw [h2] at z; cases z) gd (by omega) (fun b o z => z) (fun h' u tk keep => ⟨.str d.shown, H, I.kept keep, ⟨u, rfl⟩, q⟩) h4
theorem u_repr {K : PySem.W.Frag} : U1R K (fun xs H Q => ∃ a d, xs = [.ref a] ∧ Dp K H (.ref a) d ∧ d.showable = true ∧ d.hasDict = false ∧ d.depth ≤ 60 ∧ d.shown.length ≤ sizeLine ∧ Q (.str d.shown) H) reprD := by
  intro B F ρ s σ H x d w Q k l e p
  unfold reprD at e
  split at e
  · rename_i h
    obtain ⟨h0, h1, h2, h3, h4⟩ := h
    cases e
    have q := p.val k (.str d.shown)
    cases d with
    | list ds =>
      obtain ⟨a, vs, rfl, _, _⟩ := l.list
      exact ⟨a, _, rfl, l.dp h2, h1, h2, h3, h4, q⟩
    | tuple ds =>
      obtain ⟨a, vs, rfl, _, _⟩ := l.tup
      exact ⟨a, _, rfl, l.dp h2, h1, h2, h3, h4, q⟩
    | _ => cases h0
  · cases e
end
end Z
/-! Z, part 18: what is read from the end, [::-1]. -/
namespace Z
open PySem PySem.Spec PyProof.Rows L2
section
variable {prog : Program} {w : World} {A : Around} {E : Value → Shared → Prop} {s : Shared}
theorem back_adjust (n : Nat) : Builtin.Slice.sliceAdjust none none (-1) (n : Int) = ((n : Int) - 1, -1) := rfl
theorem back_places (n : Nat) : Builtin.Slice.slicePlaces ((n : Int) - 1) (-1) (-1) = n := by
  unfold Builtin.Slice.slicePlaces
  rw [if_neg (by decide)]
  by_cases h : (n : Int) - 1 > -1
  · rw [if_pos h]
    have : ((n : Int) - 1 - -1 - 1) / (- -1) + 1 = n := by
      have e : (- -1 : Int) = 1 := rfl
      rw [e, Int.ediv_one]; omega
    rw [this]; rfl
  · rw [if_neg h]; omega
theorem back_pick (xs : Array Value) : ((List.range xs.size).filterMap fun (m : Nat) => xs[(((xs.size : Int) - 1) + (m : Int) * (-1)).toNat]?).toArray = xs.toList.reverse.toArray := by
  congr 1
  have e : ((List.range xs.size).filterMap fun (m : Nat) => xs[(((xs.size : Int) - 1) + (m : Int) * (-1)).toNat]?) = ((List.range xs.size).map fun m => xs.size - 1 - m).filterMap (xs[·]?) := by
    rw [List.filterMap_map]
    congr 1
    funext m
    show xs[(((xs.size : Int) - 1) + (m : Int) * (-1)).toNat]? = xs[xs.size - 1 - m]?
    congr 1
    omega
  rw [e, PySem.W.krv_range, List.filterMap_reverse, PySem.W.krv_all]
theorem back_applied {sl : Addr} {vs : Value} {n : Nat} {Q : Int × Int × Nat → Shared → Prop} (hs : s.heap.IsSliceOf sl .none .none vs) (ps : IsPart vs (some (-1))) (h : Q ((n : Int) - 1, -1, n) s) :
    wpAny (model prog w) A (Builtin.Slice.sliceApplied (.ref sl) (pure (n : Int))) Q E s := by
  obtain ⟨o, ho, _, hd⟩ := id hs
  unfold Builtin.Slice.sliceApplied Builtin.Slice.sliceFields
  refine wpAny_bind (wpAny_bind (wpAny_field ho hd (x := .none) rfl (wpAny_bind (wpAny_field ho hd (x := .none) rfl (wpAny_bind (wpAny_field ho hd (x := vs) rfl (wpAny_pure (wpAny_bind ?_))))))))
  refine HT.slicePart_ ps ?_
  show wpAny _ _ (if ((-1 : Int) == 0) = true then _ else _) _ _ s
  rw [if_neg (by decide)]
  refine wpAny_bind (HT.slicePart_ .none (wpAny_bind (HT.slicePart_ .none (wpAny_bind (wpAny_pure ?_)))))
  show wpAny _ _ (match Builtin.Slice.sliceAdjust none none (-1) (n : Int) with | (l, u) => pure (l, (-1 : Int), Builtin.Slice.slicePlaces l u (-1))) _ _ s
  rw [back_adjust]
  show wpAny _ _ (pure ((n : Int) - 1, (-1 : Int), Builtin.Slice.slicePlaces ((n : Int) - 1) (-1) (-1))) _ _ s
  rw [back_places]
  exact wpAny_pure h
theorem getItem_tuple_back {tp sl : Addr} {xs : Array Value} {vs : Value} {Q : Value → Shared → Prop} (ht : IsTup s.heap tp xs) (hs : s.heap.IsSliceOf sl .none .none vs) (ps : IsPart vs (some (-1))) (hz : xs.size ≤ sizeLine)
    (h : Q (.ref s.heap.objs.size) { s with heap := s.heap.push { cls := .type "tuple", data := .seq xs.toList.reverse.toArray } }) : wpAny (model prog w) A (getItem (.ref tp) (.ref sl)) Q E s := by
  have fits : sizeOk (.seq xs.toList.reverse.toArray) := by
    show xs.toList.reverse.toArray.size ≤ sizeLine
    simpa using hz
  obtain ⟨o, ho, hc, _⟩ := id hs
  have isS : s.TypeIs (.ref sl) "slice" := ⟨o, ho, hc⟩
  unfold getItem
  with_reducible first | refine wpAny_holding ?_ | skip
  try refine wpAny_bind (wpAny_pure ?_)
  refine wpAny_bind (wpAny_sequenceKey ht.typeIs (by decide) (wpAny_bind (wpAny_callSpecial?_slot (name := Str.ofString "__getitem__") ht.typeIs PyProof.Rows.slot_tuple_getitem ?_)))
  refine wpAny_call_entry PyProof.Rows.slot_tuple_getitem ht.typeIs entry_tuple_getitem ?_ (args_tuple_getitem _ _)
  show wpAny _ _ (Builtin.Tuple.tupleItemsOf (.ref tp) >>= _) _ _ s
  refine wpAny_bind (tupleItemsOf_ ht (wpAny_bind (wpAny_typeOf isS ?_)))
  rw [if_pos (by decide)]
  refine wpAny_bind (back_applied hs ps ?_)
  have step : ¬ ((((xs.size : Int) - 1) == 0 && (-1 : Int) == 1 && xs.size == xs.size) = true) := by simp
  show wpAny _ _ (if (((xs.size : Int) - 1) == 0 && (-1 : Int) == 1 && xs.size == xs.size) = true then _ else _) _ _ s
  rw [if_neg step, back_pick]
  first
    | exact wpAny_bind (m := Builtin.Tuple.tupleExact _) (wpAny_newObj_type (wpAny_pure ⟨_, rfl, wpAny_pure h⟩) fits)
    | exact wpAny_bind (m := Builtin.Tuple.tupleExact _) (wpAny_newObj_type (wpAny_bind (wpAny_pure (wpAny_pure ⟨_, rfl, wpAny_pure h⟩))) fits)
    | exact wpAny_bind (wpAny_bind (m := Builtin.Tuple.tupleExact _) (wpAny_newObj_type (wpAny_pure (wpAny_pure ⟨_, rfl, wpAny_pure h⟩)) fits))
    | exact wpAny_bind (wpAny_bind (m := Builtin.Tuple.tupleExact _) (wpAny_newObj_type (wpAny_pure ⟨_, rfl, wpAny_pure h⟩) fits))
end
def revD : D → Option W
  | .list ds => some (.own ds.reverse)
  | .tuple ds => some (.val (.tuple ds.reverse))
  | _ => none
section
variable {X : Cx} {Wx : WX} {pos p1 p2 p3 : Pos} {a : Expr} {m : M W} {k : Nat}
def tBack (K : PySem.W.Frag) (te : TE) : TE := fun σ H Q => te σ H fun x H1 => (∃ a xs, x = .ref a ∧ SqL K H1 a xs ∧ ∀ p, H1 p = none → Q (.ref p) (upd H1 p (.lst xs.reverse))) ∨
  (∃ a xs, x = .ref a ∧ SqT K H1 a xs ∧ ∀ p, H1 p = none → Q (.ref p) (upd H1 p (.tup xs.reverse)))
theorem pe_back {te : TE} (he : PE X a te) : PE X (.Subscript a (.Slice none none (some (.UnaryOp .USub (.Constant (.int 1) k p1) p2)) p3) pos) (tBack X.K te) := by
  refine ⟨fun pins s σ H Q I h => Subscript_ (thn (he.run pins s σ H _ I h) fun v s1 ⟨x, H1, I1, r1, q1⟩ => ?_)⟩
  have part : PO X (some (.UnaryOp .USub (.Constant (.int 1) k p1) p2)) (tPart (tUn (rU fun j => .int (-j)) (tC (.int 1)))) := po_some (pe_un un_neg pe_int)
  refine wpAny_Slice (thn (po_none.run pins s1 σ H1 (fun o G => o = none ∧ G = H1) I1 ⟨rfl, rfl⟩) fun vl s2 ⟨_, _, I2, pl, z1, z2⟩ => ?_)
  subst z1 z2
  cases pl
  refine thn (po_none.run pins s2 σ _ (fun o G => o = none ∧ G = _) I2 ⟨rfl, rfl⟩) fun vu s3 ⟨_, _, I3, pu, z1, z2⟩ => ?_
  subst z1 z2
  cases pu
  refine thn (part.run pins s3 σ _ (fun o G => o = some (-1) ∧ G = _) I3 ⟨1, rfl, -1, rfl, rfl, rfl⟩) fun vs s4 ⟨_, G, I4, ps, z1, z2⟩ => ?_
  subst z1 z2
  have I5 : Inv X pins σ G { s4 with heap := s4.heap.push { cls := .type "slice", data := .fields #[.none, .none, vs] } } := I4.kept (t' := s4.toks) fun b ob q => Heap.get?_push_of_some _ q
  show wpAny _ X.A (subscriptTail a (.Slice none none (some (.UnaryOp .USub (.Constant (.int 1) k p1) p2)) p3) v (.ref s4.heap.objs.size)) (EP X pins σ Q) X.xe _
  rcases q1 with ⟨b, xs, rfl, hx, q⟩ | ⟨b, xs, rfl, hx, q⟩
  · cases r1
    obtain ⟨its, r, ht, hz⟩ := I5.list hx
    have len := r.length
    refine tail_any (ops := [.ref b, .ref s4.heap.objs.size]) ht.isList.typeIs (PySem.slot_list_getitem.lookup) ?_ (by with_unfolding_all rfl)
    refine wpAny_getItem_list_slice ht.isList (Heap.IsSliceOf.new _ .none .none vs) .none .none ps (by decide) ?_ (by rw [List.size_toArray]; omega)
    rw [PySem.W.krv_pick]
    exact ⟨.ref _, _, I5.laid (t' := s4.toks) (o := .lst xs.reverse) (fun b ob q => Heap.get?_push_of_some _ q) (Nat.le_refl _) ⟨by rw [List.length_reverse]; exact hz, _, 0, r.reverse, Heap.get?_push_size _ rfl⟩, rfl, q _ (I5.hok.fresh (Nat.le_refl _))⟩
  · cases r1
    obtain ⟨its, r, ht, hz⟩ := I5.tuple hx
    have len := r.length
    refine tail_any (ops := [.ref b, .ref s4.heap.objs.size]) ht.typeIs PyProof.Rows.slot_tuple_getitem.lookup ?_ (by with_unfolding_all rfl)
    refine getItem_tuple_back ht (Heap.IsSliceOf.new _ .none .none vs) ps (by rw [List.size_toArray]; omega) ?_
    exact ⟨.ref _, _, I5.laid (t' := s4.toks) (o := .tup xs.reverse) (fun b ob q => Heap.get?_push_of_some _ q) (Nat.le_refl _) ⟨by rw [List.length_reverse]; exact hz, _, r.reverse, IsTup.new _ _⟩, rfl, q _ (I5.hok.fresh (Nat.le_refl _))⟩
theorem i_back (ha : DE X Wx a m) : DE X Wx (.Subscript a (.Slice none none (some (.UnaryOp .USub (.Constant (.int 1) k p1) p2)) p3) pos) (op1 revD m) :=
  pe_mono (pe_back ha) fun σ H Q ⟨B, F, ρ, s, k, h⟩ => ⟨B, F, ρ, s, k, (Run.bind h).mono (fun w1 s1 _ h1 F1 ρ1 H1 x e1 k1 o1 _ => by
    obtain ⟨d, ed, h4⟩ := Run.look h1
    obtain ⟨w, ew, h5⟩ := Run.ofO h4
    have l1 := (content_ok k1 o1 ed).1
    have h6 := h5.step e1 k1.sto
    unfold revD at ew
    split at ew
    · cases ew
      obtain ⟨p, vs, rfl, sq, r⟩ := l1.list
      exact .inl ⟨p, vs, rfl, sq, fun q hq => h6.own k1 r.reverse hq⟩
    · cases ew
      obtain ⟨p, vs, rfl, sq, r⟩ := l1.tup
      exact .inr ⟨p, vs, rfl, sq, fun q hq => h6.tup k1 r.reverse hq⟩
    · cases ew) fun _ _ _ z => z⟩
end
end Z
namespace Z
open PySem PySem.Spec PyProof.Rows L2
theorem FnG.mono {P : Program} {w : World} {K : PySem.W.Frag} {mg : Str → Option Value} {base : Heap} {W : CXT} {j k : Nat} {f : Addr} {fd : FuncData} {ps : List Str} {sp : Sp} (F : FnG P w K mg base W j f fd ps sp) (h : j ≤ k) : FnG P w K mg base W k f fd ps sp :=
  ⟨F.size, fun A ov s H as us vs Q E gd rm => F.go A ov s H as us vs Q E gd (rm.mono h)⟩
theorem TakesG.mono {P : Program} {w : World} {K : PySem.W.Frag} {mg : Str → Option Value} {base : Heap} {x : Str} {j k n : Nat} {ps : List Str} {fs : Fn} (C : TakesG P w K mg base x j n ps fs) (h : j ≤ k) : TakesG P w K mg base x k n ps fs :=
  let ⟨f, fd, G, a, b, c⟩ := C.ex
  ⟨f, fd, G.mono h, a, b, c⟩
end Z
/-! Z, part 19: try with clauses; the error that is caught is tracked like any other object (exT), so that it may be handed on. -/
namespace Z
open PySem PySem.Spec PyProof.Rows L2

/-- a clause: the class it names, the slot it binds, what its suite does -/
structure Cl where
  c : Value
  i : Option Nat
  ts : TS
def Cl.ends (q : Cl) (D : Ends) : Ends := match q.i with
  | none => D
  | some i => { nx := fun σ H => D.nx (σ.set i none) H, rt := D.rt, bk := fun σ H => D.bk (σ.set i none) H, ct := fun σ H => D.ct (σ.set i none) H }
def Cl.slots (q : Cl) (σ : Sg) (a : Addr) : Sg := match q.i with
  | none => σ
  | some i => σ.set i (some (.ref a))
/-- what a try wishes of an error of its body -/
def wCls (K : PySem.W.Frag) (D : Ends) (Wout : WX) : List Cl → WX
  | [] => Wout
  | q :: qs => fun cls d σ H => ∃ b, PySem.W.exmOne K cls q.c = some b ∧ (b = true → ∀ a, H a = none → q.ts (q.ends D) (q.slots σ a) (upd H a (exT a cls d))) ∧ (b = false → wCls K D Wout qs cls d σ H)
inductive ClsOk (X : Cx) : List ExceptHandler → List Cl → Prop
  | nil : ClsOk X [] []
  | as {x n : Str} {np pos : Pos} {c : Value} {i : Nat} {b₀ : Stmt} {suite : List Stmt} {ts : TS} {hs : List ExceptHandler} {qs : List Cl} : Names X x c → X.N.Nodup → X.N[i]? = some n → X.env.kindOf n = some .local →
      (∀ (a : Addr) (pn : List (Addr × Obj)), PSs (X.suite a pn) (b₀ :: suite) ts) → ClsOk X hs qs → ClsOk X (.ExceptHandler (some (.Name x np)) (some n) (b₀ :: suite) pos :: hs) (⟨c, some i, ts⟩ :: qs)
  | only {x : Str} {np pos : Pos} {c : Value} {b₀ : Stmt} {suite : List Stmt} {ts : TS} {hs : List ExceptHandler} {qs : List Cl} : Names X x c →
      (∀ (a : Addr) (pn : List (Addr × Obj)), PSs (X.suite a pn) (b₀ :: suite) ts) → ClsOk X hs qs → ClsOk X (.ExceptHandler (some (.Name x np)) none (b₀ :: suite) pos :: hs) (⟨c, none, ts⟩ :: qs)
theorem exT_ok {P : Program} {w : World} {H : Hp} {h : Heap} {a : Addr} {cls : Value} {d : Option Addr} {oe : Obj} {vs : Array Value} (e : h.get? a = some oe) (z : Zc cls d oe) (dd : oe.data = .fields vs) : ObjOk P w H h a (exT a cls d) :=
  ⟨⟨oe, vs, e, z, dd⟩, ⟨oe, e⟩, fun _ _ ⟨o, v, q, r⟩ k => ⟨o, v, k o q, r⟩⟩
section
variable {X : Cx} {pins : List (Addr × Obj)} {σ : Sg} {H : Hp} {s : Shared} {a : Addr} {cls : Value} {d : Option Addr} {D : Ends} {Wout : WX}
/-- the error in sight of its suite -/
theorem Inv.seen {oe : Obj} {vs : Array Value} (I : Inv X pins σ H s) (ha : s.heap.get? a = some oe) (hz : Zc cls d oe) (hd : oe.data = .fields vs) (na : H a = none) (n0 : X.s_0.heap.get? a = none) (np : ∀ p ∈ X.pn ++ pins, p.1 ≠ a) (nL : a ≠ X.env.locals) :
    Inv (X.suite a (X.pn ++ pins)) [] σ (upd H a (exT a cls d)) s where
  ok := I.ok.suite _ _
  os := I.os
  bare := I.bare
  base := {
    keep := I.base.keep
    slot := I.base.slot
    free := fun b o e n q => by
      have hb : b ≠ a := fun z => by
        have e' : X.s_0.heap.get? b = some o := e
        rw [z, n0] at e'; cases e'
      rw [upd_ne hb]
      exact I.base.free b o e n q
    there := I.base.there
    tups := fun b xs e => by rw [upd_ne (ne_of_none (I.base.tups b xs e) na)]; exact I.base.tups b xs e
    frzs := fun b o u e => by rw [upd_ne (ne_of_none (I.base.frzs b o u e) na)]; exact I.base.frzs b o u e
    tbls := fun b ps e => by
      obtain ⟨m, q⟩ := I.base.tbls b ps e
      exact ⟨m, by rw [upd_ne (ne_of_none q na)]; exact q⟩ }
  loc := I.loc
  cell := I.cell
  free := by rw [upd_ne (Ne.symm nL)]; exact I.free
  freeC := fun x c e => by
    obtain ⟨v, o, ho, hc⟩ := I.cell x c e
    have hb : c ≠ a := fun z => by
      rw [z, ha] at ho
      cases ho
      rw [hd] at hc; cases hc
    rw [upd_ne hb]; exact I.freeC x c e
  pin := fun p hp => by
    have hp' : p ∈ X.pn ++ pins := by simpa using hp
    obtain ⟨e, n, r⟩ := I.pin p hp'
    exact ⟨e, by rw [upd_ne (np p hp')]; exact n, r⟩
  hok := I.hok.laidN (fun _ _ q => q) na (show ObjOk X.prog X.w _ s.heap a (exT a cls d) from exT_ok ha hz hd)
  len := I.len
theorem Inv.unseen {pn' : List (Addr × Obj)} (I : Inv (X.suite a (X.pn ++ pins)) pn' σ H s) (ok : X.Ok) : Inv X pins σ H s :=
  ⟨ok, I.os, I.bare, I.base, I.loc, I.cell, I.free, I.freeC, fun p hp => I.pin p (List.mem_append_left _ hp), I.hok, I.len⟩
/-- the clauses are tried -/
theorem handle {B : Heap} {sI : Shared} (hs : X.stack = X.env :: X.outer) (hf : X.env.frame = some X.env.locals) (hex : X.ex = []) (tk : Takes X Wout) (J : Inv X pins σ H sI) (nb : ∀ b o, sI.heap.get? b = some o → b ∉ frs X.stack → B.get? b = some o) (na : H a = none) :
    ∀ {cs : List ExceptHandler} {qs : List Cl}, ClsOk X cs qs → ∀ (s' : Shared), s'.os = sI.os → AllBare s'.gens → sI.heap.UpToSlots s'.heap → HandSPX.FlyingZ B (X.env :: X.outer) a (Zc cls d) s'.heap → wCls X.K D Wout qs cls d σ H →
      wpAny (model X.prog X.w) X.A (handleBy (.ref a) X.env cs) (SP X pins D) X.xe s' := by
  have ok := J.ok
  intro cs qs hq
  have main : ∀ (s' : Shared), s'.os = sI.os → AllBare s'.gens → sI.heap.UpToSlots s'.heap → HandSPX.FlyingZ B (X.env :: X.outer) a (Zc cls d) s'.heap →
      a ∉ frs (X.env :: X.outer) ∧ a ≠ X.env.locals ∧ Inv X pins σ H s' ∧ Inv (X.suite a (X.pn ++ pins)) [] σ (upd H a (exT a cls d)) s' := fun s' os ag up fl => by
    have J3 : Inv X pins σ H s' := J.landed nb fl.1 up os ag
    obtain ⟨oe, vs, he, hz, hd⟩ := fl.there
    have nfr : a ∉ frs (X.env :: X.outer) := fun hm => by
      obtain ⟨_, o', e', hnf⟩ := fl.2.2.1.mem hm
      rw [he] at e'; cases e'
      exact hnf _ hd
    have nL : a ≠ X.env.locals := fun z => nfr (List.mem_filterMap.mpr ⟨X.env, List.mem_cons_self, by rw [hf, z]⟩)
    have nI : sI.heap.get? a = none := by
      cases q : sI.heap.get? a with
      | none => rfl
      | some o =>
        have z := nb a o q (by rw [hs]; exact nfr)
        rw [fl.2.1] at z; cases z
    have n0 : X.s_0.heap.get? a = none := by
      cases q : X.s_0.heap.get? a with
      | none => rfl
      | some o =>
        obtain ⟨o', z⟩ := J.base.there a o q (by rw [hex]; exact fun z => nomatch z)
        rw [nI] at z; cases z
    have np : ∀ p ∈ X.pn ++ pins, p.1 ≠ a := fun p hp z => by
      obtain ⟨e, _⟩ := J.pin p hp
      rw [z, nI] at e; cases e
    exact ⟨nfr, nL, J3, Inv.seen J3 he hz hd na n0 np nL⟩
  have pick : ∀ (s' : Shared) (x : Str) (np : Pos) (c : Value) (b : Bool), Names X x c → PySem.W.exmOne X.K cls c = some b → s'.os = sI.os → AllBare s'.gens → sI.heap.UpToSlots s'.heap → HandSPX.FlyingZ B (X.env :: X.outer) a (Zc cls d) s'.heap →
      ∀ {Q : Bool → Shared → Prop} {E : Value → Shared → Prop}, Q b s' → wpAny (model X.prog X.w) (X.A.mark (some (.ref a))) (eval (.Name x np) X.env) (fun c s₁ => wpAny (model X.prog X.w) (X.A.mark (some (.ref a))) (excMatches (.ref a) c) Q E s₁) E s' :=
    fun s' x np c b hc hb os ag up fl Q E q => by
      obtain ⟨_, _, J3, S3⟩ := main s' os ag up fl
      obtain ⟨oe, vs, he, hz, hd⟩ := fl.there
      have LT : PySem.W.Looks (model X.prog X.w) s'.heap (typeOf (.ref a)) cls := fun A Q E s k q => wpAny_typeOf_ref (k _ _ he) (by rw [hz.1]; exact q)
      have LM := PySem.W.exm_one (M := model X.prog X.w) J3.kIn LT hb
      obtain ⟨hg, hdbg, hm | ⟨hm, hv, hnn⟩⟩ := hc
      · exact ld_glob (X := X.suite a (X.pn ++ pins)) S3 hg hm (LM.here q) hdbg
      · exact ld_blt (X := X.suite a (X.pn ++ pins)) S3 hg hm hv (LM.here q) hnn hdbg
  induction hq with
  | nil =>
    intro s' os ag up fl w
    refine wpAny_handleBy_nil ?_
    obtain ⟨_, _, _, oe, vs, T, oT, ts', he, hz, hd, h1, hr⟩ := id fl
    unfold PySem.passOn
    refine wpAny_bind (wpAny_field he hd h1 ?_)
    rw [if_neg (show ¬ ((Value.ref T == Value.none) = true) from by simp)]
    have fin : wpAny (model X.prog X.w) X.A (setFlight (.ref a) X.env.frame) (fun _ s4 => wpAny (model X.prog X.w) X.A (throw (.ref a) : Sem Flow) (SP X pins D) X.xe s4) X.xe s' := by
      rw [hf]
      refine HandSPX.setFlight_upZ fl fun h4 hh4 up4 => wpAny_throw (tk _ _ ?_)
      exact ⟨a, B, sI, pins, σ, H, cls, d, rfl, J, nb, up.trans up4, .inr (.inr (by rw [hs]; exact hh4)), na, os, ag, w⟩
    first
      | exact wpAny_bind (wpAny_pure (wpAny_bind fin))
      | exact wpAny_bind fin
  | @as x n np pos c i b₀ suite ts cs qs hc hN hi hl hsu _ ih =>
    intro s' os ag up fl w
    obtain ⟨b, hb, hy, hn⟩ := w
    refine wpAny_handleBy_cons (codeAny_handlers_test (pick s' x np c b hc hb os ag up fl ?_)) (by intro q; cases q)
    cases b with
    | false => exact ih s' os ag up fl (hn rfl)
    | true =>
      refine codeAny_handlers_suite_as (HandSPX.lands_againZ fl fun h4 fl4 up4 => ?_)
      obtain ⟨_, _, _, S4⟩ := main { s' with heap := h4 } os ag (up.trans up4) fl4
      refine store_ok (X := X.suite a (X.pn ++ pins)) (v := .ref a) S4 hN hi (.inl hl) rfl (fun s5 S5 => ?_) (.inr hl)
      refine wpAny_mono ((hsu a (X.pn ++ pins)).run [] s5 _ _ _ S5 (hy rfl a na)) (fun f s6 hsp => ?_) (fun _ _ z => False.elim z)
      have end_ : ∀ {σ6 : Sg} {H6 : Hp} {Q : Shared → Prop}, Inv (X.suite a (X.pn ++ pins)) [] σ6 H6 s6 → (∀ s7, Inv X pins (σ6.set i none) H6 s7 → Q s7) →
          wpAny (model X.prog X.w) X.A (do bindName X.env n .none; unbindBehindTheSuite X.env n pos) (fun _ s7 => Q s7) X.xe s6 := fun S6 hq => gone_ok (Inv.unseen S6 ok) hN hi hl hq
      cases f with
      | next =>
        obtain ⟨σ6, H6, S6, q6⟩ := hsp
        exact end_ S6 fun s7 J7 => ⟨_, _, J7, q6⟩
      | brk =>
        obtain ⟨σ6, H6, S6, q6⟩ := hsp
        exact end_ S6 fun s7 J7 => ⟨_, _, J7, q6⟩
      | cont =>
        obtain ⟨σ6, H6, S6, q6⟩ := hsp
        exact end_ S6 fun s7 J7 => ⟨_, _, J7, q6⟩
      | ret u =>
        obtain ⟨v6, σ6, H6, S6, r6, q6⟩ := hsp
        exact end_ S6 fun s7 J7 => ⟨_, _, _, J7, r6, q6⟩
  | @only x np pos c b₀ suite ts cs qs hc hsu _ ih =>
    intro s' os ag up fl w
    obtain ⟨b, hb, hy, hn⟩ := w
    refine wpAny_handleBy_cons (codeAny_handlers_test (pick s' x np c b hc hb os ag up fl ?_)) (by intro q; cases q)
    cases b with
    | false => exact ih s' os ag up fl (hn rfl)
    | true =>
      refine codeAny_handlers_suite (HandSPX.lands_againZ fl fun h4 fl4 up4 => ?_)
      obtain ⟨_, _, _, S4⟩ := main { s' with heap := h4 } os ag (up.trans up4) fl4
      refine wpAny_mono ((hsu a (X.pn ++ pins)).run [] _ _ _ _ S4 (hy rfl a na)) (fun f s6 hsp => ?_) (fun _ _ z => False.elim z)
      cases f with
      | next =>
        obtain ⟨σ6, H6, S6, q6⟩ := hsp
        exact ⟨_, _, Inv.unseen S6 ok, q6⟩
      | brk =>
        obtain ⟨σ6, H6, S6, q6⟩ := hsp
        exact ⟨_, _, Inv.unseen S6 ok, q6⟩
      | cont =>
        obtain ⟨σ6, H6, S6, q6⟩ := hsp
        exact ⟨_, _, Inv.unseen S6 ok, q6⟩
      | ret u =>
        obtain ⟨v6, σ6, H6, S6, r6, q6⟩ := hsp
        exact ⟨_, _, _, Inv.unseen S6 ok, r6, q6⟩
/-- try: body, clauses -/
theorem ps_tryV {body : List Stmt} {h₀ : ExceptHandler} {hr : List ExceptHandler} {qs : List Cl} {tb : WX → TS} {pos : Pos} (hs : X.stack = X.env :: X.outer) (hf : X.env.frame = some X.env.locals) (hex : X.ex = []) (tk : Takes X Wout)
    (hb : ∀ (W : WX) (pn : List (Addr × Obj)) (xe : Value → Shared → Prop), Takes (X.tr pn xe) W → PassesOwn (model X.prog X.w) X.A X.env xe → PSs (X.tr pn xe) body (tb W)) (hc : ClsOk X (h₀ :: hr) qs) :
    PS X (.Try body (h₀ :: hr) [] [] pos) (fun D σ H => tb (wCls X.K D Wout qs) D σ H) := by
  refine ⟨fun pins s σ H D I h => ?_⟩
  have ok := I.ok
  have hfr : X.A.frames = some (X.env :: X.outer) := by rw [ok.frames, hs]
  refine wpAny_Try_except (wpAny_mono ((hb (wCls X.K D Wout qs) (X.pn ++ pins) (fun e s₁ => wpAny (model X.prog X.w) X.A (noteFrame e X.env) (fun _ s₂ => wpAny (model X.prog X.w) X.A (setFlight e none) (fun _ s₃ =>
    wpAny (model X.prog X.w) X.A (handleBy e X.env (h₀ :: hr)) (SP X pins D) X.xe s₃) X.xe s₂) X.xe s₁) (fun u s' xx => ?_) PassesOwn.looking).run [] s σ H D (I.toTry _) h) (fun f s1 hsp => ?_) (fun e s1 he => he))
  · obtain ⟨a, B, sI, pins', σ', H', cls, d, rfl, J', nb, up, sky, na, os, ag, w⟩ := xx
    have J : Inv X pins σ' H' sI := J'.ofTry ok
    have sky' : Sky B (X.env :: X.outer) a (Zc cls d) X.env.locals s'.heap := by rw [← hs]; exact sky
    show wpAny (model X.prog X.w) X.A (noteFrame (.ref a) X.env) _ _ _
    exact Sky.land Zc.steady hfr hf sky' fun h3 fl3 up3 => handle hs hf hex tk J nb na hc { s' with heap := h3 } os ag (up.trans up3) fl3 w
  · cases f with
    | next =>
      obtain ⟨σ', H', J', q⟩ := hsp
      exact wpAny_execs_nil ⟨σ', H', J'.ofTry ok, q⟩
    | brk =>
      obtain ⟨σ', H', J', q⟩ := hsp
      exact ⟨σ', H', J'.ofTry ok, q⟩
    | cont =>
      obtain ⟨σ', H', J', q⟩ := hsp
      exact ⟨σ', H', J'.ofTry ok, q⟩
    | ret u =>
      obtain ⟨v, σ', H', J', r, q⟩ := hsp
      exact ⟨v, σ', H', J'.ofTry ok, r, q⟩
end
end Z
/-! Z, part 20: try, in the layer. -/
namespace Z
open PySem PySem.Spec PyProof.Rows L2

/-- what stands when a try begins: all but the lists that slots own -/
noncomputable def baseAt (F : Fz) (ρ : List Addr) (H : Hp) (s : S) (σ : Sg) : Base := ⟨F, ρ, fun a => @ite _ (OwnedBy s σ a) (Classical.propDecidable _) none (H a)⟩
section
variable {K : PySem.W.Frag} {mg : Str → Option Value} {Wx : WX} {B : Base} {F F' F1 F2 : Fz} {ρ ρ' ρ1 ρ2 : List Addr} {s s' s1 s2 : S} {σ σ' : Sg} {H H' H1 H2 : Hp} {v : V} {w : W} {a : Addr} {o : HO} {x : Exc}
theorem baseAt_own (h : OwnedBy s σ a) : (baseAt F ρ H s σ).H a = none := if_pos h
theorem baseAt_ne (h : ¬ OwnedBy s σ a) : (baseAt F ρ H s σ).H a = H a := if_neg h
theorem baseAt_some (h : (baseAt F ρ H s σ).H a = some o) : H a = some o ∧ ¬ OwnedBy s σ a := by
  by_cases q : OwnedBy s σ a
  · rw [baseAt_own q] at h; cases h
  · rw [baseAt_ne q] at h; exact ⟨h, q⟩
theorem Ok.none_ (k : Ok K B F ρ s σ H) (h : (baseAt F ρ H s σ).H a = none) : B.H a = none := by
  by_cases q : OwnedBy s σ a
  · exact (k.owned q).2.2.1
  · rw [baseAt_ne q] at h
    exact k.base.there k.sto h
theorem Ok.rebase (k : Ok K B F ρ s σ H) : Ok K (baseAt F ρ H s σ) F ρ s σ H where
  len := k.len
  base := ⟨fun _ h => h, ⟨[], (List.append_nil _).symm⟩, fun _ h => .inl h, fun b o e _ => (baseAt_some e).1, fun _ h => .inl h⟩
  trk := k.trk
  sto := k.sto
  env := fun i w e => by
    obtain ⟨v, e1, e2⟩ := k.env i w e
    refine ⟨v, e1, ?_⟩
    cases w with
    | own ds =>
      obtain ⟨b, vs, rfl, q2, q3, q4, q5, q6⟩ := e2
      exact ⟨b, vs, rfl, q2, q3, q4, q5, baseAt_own ⟨i, ds, e, e1⟩⟩
    | val d => exact e2
    | ref n => exact e2
    | peek j => exact e2
    | scr ns => exact e2
    | fn y => exact e2
    | exc y => exact e2
  sep := k.sep
theorem Ok.sx_base (k : Ok K B F ρ s σ H) (k' : Ok K (baseAt F ρ H s σ) F' ρ' s' σ' H') : SX F H F' H' :=
  ⟨k'.base.sub, fun b o e q => by
    have nρ : b ∉ ρ := fun m => by
      obtain ⟨n, hn⟩ := List.getElem?_of_mem m
      have hl : n < s.st.length := by
        rw [k.sto.len]
        exact (List.getElem?_eq_some_iff.mp hn).1
      obtain ⟨c, vs, e1, e2, e3, _⟩ := k.sto.at_ n _ (List.getElem?_eq_getElem hl)
      rw [hn] at e1; cases e1
      rcases q with q | q
      · exact e2 q
      · rw [e] at e3; cases e3; cases q
    have no : ¬ OwnedBy s σ b := fun m => by
      obtain ⟨nf, _, _, vs, e3⟩ := k.owned m
      rcases q with q | q
      · exact nf q
      · rw [e] at e3; cases e3; cases q
    exact k'.base.keep b o (by rw [baseAt_ne no]; exact e) nρ⟩
theorem Ok.unbase (k : Ok K B F ρ s σ H) (k' : Ok K (baseAt F ρ H s σ) F' ρ' s' σ' H') : Ok K B F' ρ' s' σ' H' where
  len := k'.len
  base := {
    sub := fun b f => k'.base.sub b (k.base.sub b f)
    rho := by
      obtain ⟨m, e⟩ := k.base.rho
      obtain ⟨n, e'⟩ := k'.base.rho
      have e'' : ρ' = ρ ++ n := e'
      exact ⟨m ++ n, by rw [e'', e, List.append_assoc]⟩
    new := fun b m => by
      rcases k'.base.new b m with h | h
      · exact k.base.new b h
      · exact .inr (k.none_ h)
    keep := fun b o e nb => by
      have e1 := k.base.keep b o e nb
      have no : ¬ OwnedBy s σ b := fun m => by rw [(k.owned m).2.2.1] at e; cases e
      refine k'.base.keep b o (by rw [baseAt_ne no]; exact e1) fun m => ?_
      rcases k.base.new b m with h | h
      · exact nb h
      · rw [e] at h; cases h
    fz := fun b f => by
      rcases k'.base.fz b f with h | h
      · exact k.base.fz b h
      · exact .inr (k.none_ h) }
  trk := k'.trk
  sto := k'.sto
  env := fun i w e => by
    obtain ⟨v, e1, e2⟩ := k'.env i w e
    refine ⟨v, e1, ?_⟩
    cases w with
    | own ds =>
      obtain ⟨b, vs, rfl, q2, q3, q4, q5, q6⟩ := e2
      exact ⟨b, vs, rfl, q2, q3, q4, q5, k.none_ q6⟩
    | val d => exact e2
    | ref n => exact e2
    | peek j => exact e2
    | scr ns => exact e2
    | fn y => exact e2
    | exc y => exact e2
  sep := k'.sep
theorem ROk.unbase (k : Ok K B F ρ s σ H) (r : ROk K F' ρ' (baseAt F ρ H s σ).H H' v w) : ROk K F' ρ' B.H H' v w := by
  cases w with
  | own ds =>
    obtain ⟨b, vs, e, q2, q3, q4, q5, q6⟩ := r
    exact ⟨b, vs, e, q2, q3, q4, q5, k.none_ q6⟩
  | val d => exact r
  | ref n => exact r
  | peek j => exact r
  | scr ns => exact r
  | fn y => exact r
  | exc y => exact r
/-- a slot forgotten, above and below -/
theorem Ok.gone (k : Ok K B F ρ s σ H) (i : Nat) : Ok K B F ρ (s.setEnv i none) (σ.set i none) H where
  len := by
    show (s.env.set i none).length = (σ.set i none).length
    rw [List.length_set, List.length_set]
    exact k.len
  base := k.base
  trk := k.trk
  sto := k.sto
  env := fun j w e => by
    rcases env_set e with ⟨_, e⟩ | ⟨hj, e⟩
    · cases e
    · obtain ⟨v, e1, e2⟩ := k.env j w e
      exact ⟨v, by rw [List.getElem?_set_ne (Ne.symm hj)]; exact e1, e2⟩
  sep := fun j l ds es a e1 e2 e3 e4 => by
    rcases env_set e1 with ⟨_, e⟩ | ⟨hj, e1⟩
    · cases e
    · rcases env_set e2 with ⟨_, e⟩ | ⟨hl, e2⟩
      · cases e
      · rw [List.getElem?_set_ne (Ne.symm hj)] at e3
        rw [List.getElem?_set_ne (Ne.symm hl)] at e4
        exact k.sep j l ds es a e1 e2 e3 e4
end
/-! ### the mirror -/
/-- a clause: of which classes it takes (each that may come), the slot, the suite -/
structure Cm where
  tab : List (Str × Bool)
  i : Option Nat
  mh : M SR
def noErr (r : Out S SR) : Out S SR := match r with
  | .err _ _ => .fail
  | r => r
def freeR (i : Nat) (r : Out S SR) : Out S SR := match r with
  | .ok a s => .ok a (s.setEnv i none)
  | r => r
def takeC (q : Cm) (x : Exc) : M SR := fun s => match q.i with
  | none => noErr (q.mh s)
  | some i => if i < s.env.length then freeR i (noErr (q.mh (s.setEnv i (some (.exc x))))) else .fail
def tryC : List Cm → Exc → M SR
  | [], x => fun s => .err x s
  | q :: qs, x => match q.tab.lookup x.name with
    | some true => takeC q x
    | some false => tryC qs x
    | none => M.fail
def sTry (qs : List Cm) (mb : M SR) : M SR := fun s => match mb s with
  | .err x s' => tryC qs x s'
  | r => r
/-- what a clause takes is what it names -/
def TabE (K : PySem.W.Frag) (mg : Str → Option Value) (tab : List (Str × Bool)) (c : Value) : Prop := ∀ (y : Str) (b : Bool) (C : Addr), tab.lookup y = some b → mg y = some (.ref C) → PySem.W.exmOne K (.ref C) c = some b ∧ C = He.ga K y
inductive CmOk (X : Cx) : List ExceptHandler → List Cm → Prop
  | nil : CmOk X [] []
  | as {x n : Str} {np pos : Pos} {c : Value} {i : Nat} {tab : List (Str × Bool)} {b₀ : Stmt} {suite : List Stmt} {mh : M SR} {hs : List ExceptHandler} {qs : List Cm} : Names X x c → X.N.Nodup → X.N[i]? = some n → X.env.kindOf n = some .local → TabE X.K X.mg tab c →
      (∀ (a : Addr) (pn : List (Addr × Obj)), DB (X.suite a pn) Wx0 (b₀ :: suite) mh) → CmOk X hs qs → CmOk X (.ExceptHandler (some (.Name x np)) (some n) (b₀ :: suite) pos :: hs) (⟨tab, some i, mh⟩ :: qs)
  | only {x : Str} {np pos : Pos} {c : Value} {tab : List (Str × Bool)} {b₀ : Stmt} {suite : List Stmt} {mh : M SR} {hs : List ExceptHandler} {qs : List Cm} : Names X x c → TabE X.K X.mg tab c →
      (∀ (a : Addr) (pn : List (Addr × Obj)), DB (X.suite a pn) Wx0 (b₀ :: suite) mh) → CmOk X hs qs → CmOk X (.ExceptHandler (some (.Name x np)) none (b₀ :: suite) pos :: hs) (⟨tab, none, mh⟩ :: qs)
section
variable {X : Cx} {Wx : WX} {pos : Pos}
theorem xok_arg {K : PySem.W.Frag} {mg : Str → Option Value} {F : Fz} {H : Hp} {x : Exc} {cls : Value} {d : Option Addr} (h : XOk K mg F H x cls d) : ExArg K F H x d := by
  obtain ⟨C, _, _, h⟩ := h
  unfold ExArg
  cases q : x.arg with
  | none => rw [q] at h; exact h
  | some p => rw [q] at h; exact h
theorem noErr_ok {o : Out S SR} {ok : SR → S → Prop} {er : Exc → S → Prop} (h : Run (fun _ : S => noErr o) ⟨[], []⟩ ok er) : ∃ r s, o = .ok r s ∧ ok r s := by
  cases o with
  | fail => exact h.elim
  | ok r s => exact ⟨r, s, rfl, h⟩
  | err x s => exact h.elim
theorem cls_of {hs : List ExceptHandler} {qs : List Cm} (h : CmOk X hs qs) : ∃ cs : List Cl, ClsOk X hs cs ∧
    ∀ {B : Base} {F F1 : Fz} {ρ1 : List Addr} {H H1 : Hp} {s1 : S} {σ1 : Sg} {x : Exc} {cls : Value} {d : Option Addr} {D : Ends}, Ok X.K B F1 ρ1 s1 σ1 H1 → SX F H F1 H1 → XOk X.K X.mg F1 H1 x cls d → Run (tryC qs x) s1 (BEnd X.K B F H D) (BEr X.K X.mg Wx B) → wCls X.K D Wx cs cls d σ1 H1 := by
  induction h with
  | nil => exact ⟨[], .nil, fun {B F F1 ρ1 H H1 s1 σ1 x cls d D} k sx xo r => (show BEr X.K X.mg Wx B x s1 from r) F1 ρ1 H1 σ1 cls d k xo⟩
  | @as x n np pos c i tab b₀ suite mh hs qs hc hN hi hl ht hsu _ ih =>
    obtain ⟨cs, h1, h2⟩ := ih
    refine ⟨⟨c, some i, BM X.K X.mg Wx0 mh⟩ :: cs, .as hc hN hi hl (fun a pn => hsu a pn) h1, fun {B F F1 ρ1 H H1 s1 σ1 x cls d D} k sx xo r => ?_⟩
    have xa := xok_arg xo
    obtain ⟨C, hm, rfl, _⟩ := id xo
    have r' : Run (match tab.lookup x.name with | some true => takeC ⟨tab, some i, mh⟩ x | some false => tryC qs x | none => M.fail) s1 (BEnd X.K B F H D) (BEr X.K X.mg Wx B) := r
    cases q : tab.lookup x.name with
    | none => rw [q] at r'; exact r'.elim
    | some b =>
      obtain ⟨hx, hC⟩ := ht x.name b C q hm
      rw [q] at r'
      refine ⟨b, hx, fun hb a na => ?_, fun hb => ?_⟩
      · subst hb
        have r2 : Run (fun _ : S => if i < s1.env.length then freeR i (noErr (mh (s1.setEnv i (some (.exc x))))) else .fail) s1 (BEnd X.K B F H D) (BEr X.K X.mg Wx B) := r'
        by_cases hi' : i < s1.env.length
        · rw [if_pos hi'] at r2
          have k1 := k.new (o := exT a (.ref C) d) na
          have ev : ExV X.K F1 (upd H1 a (exT a (.ref C) d)) (.ref a) x := ⟨a, d, rfl, by rw [hC]; exact upd_same, xa.st (stay_upd na) fun _ z => z⟩
          have k2 := k1.store (v := .ref a) (w := .exc x) hi' ev fun ds b e => by cases e
          refine ⟨B, F1, ρ1, s1.setEnv i (some (.exc x)), k2, ?_⟩
          have sx1 : SX F H F1 (upd H1 a (exT a (.ref C) d)) := sx.trans ⟨fun _ z => z, stay_upd na⟩
          unfold Run at r2 ⊢
          cases o : mh (s1.setEnv i (some (.exc x))) with
          | fail => rw [o] at r2; exact r2.elim
          | err y s2 => rw [o] at r2; exact r2.elim
          | ok rr s2 =>
            rw [o] at r2
            have r3 : BEnd X.K B F H D rr (s2.setEnv i none) := r2
            intro F2 ρ2 H2 σ2 sx2 k3
            have z := r3 F2 ρ2 H2 (σ2.set i none) (sx1.trans sx2) (k3.gone i)
            cases rr with
            | next => exact z
            | brk => exact z
            | cont => exact z
            | ret w => exact z
        · rw [if_neg hi'] at r2; exact r2.elim
      · subst hb
        exact h2 k sx xo r'
  | @only x np pos c tab b₀ suite mh hs qs hc ht hsu _ ih =>
    obtain ⟨cs, h1, h2⟩ := ih
    refine ⟨⟨c, none, BM X.K X.mg Wx0 mh⟩ :: cs, .only hc (fun a pn => hsu a pn) h1, fun {B F F1 ρ1 H H1 s1 σ1 x cls d D} k sx xo r => ?_⟩
    obtain ⟨C, hm, rfl, _⟩ := id xo
    have r' : Run (match tab.lookup x.name with | some true => takeC ⟨tab, none, mh⟩ x | some false => tryC qs x | none => M.fail) s1 (BEnd X.K B F H D) (BEr X.K X.mg Wx B) := r
    cases q : tab.lookup x.name with
    | none => rw [q] at r'; exact r'.elim
    | some b =>
      obtain ⟨hx, hC⟩ := ht x.name b C q hm
      rw [q] at r'
      refine ⟨b, hx, fun hb a na => ?_, fun hb => ?_⟩
      · subst hb
        have r2 : Run (fun _ : S => noErr (mh s1)) s1 (BEnd X.K B F H D) (BEr X.K X.mg Wx B) := r'
        have k1 := k.new (o := exT a (.ref C) d) na
        refine ⟨B, F1, ρ1, s1, k1, ?_⟩
        have sx1 : SX F H F1 (upd H1 a (exT a (.ref C) d)) := sx.trans ⟨fun _ z => z, stay_upd na⟩
        unfold Run at r2 ⊢
        cases o : mh s1 with
        | fail => rw [o] at r2; exact r2.elim
        | err y s2 => rw [o] at r2; exact r2.elim
        | ok rr s2 =>
          rw [o] at r2
          have r3 : BEnd X.K B F H D rr s2 := r2
          intro F2 ρ2 H2 σ2 sx2 k3
          have z := r3 F2 ρ2 H2 σ2 (sx1.trans sx2) k3
          cases rr with
          | next => exact z
          | brk => exact z
          | cont => exact z
          | ret w => exact z
      · subst hb
        exact h2 k sx xo r'
/-- try: body, clauses -/
theorem s_try {body : List Stmt} {h₀ : ExceptHandler} {hr : List ExceptHandler} {qs : List Cm} {mb : M SR} (tk : Takes X Wx)
    (hb : ∀ (W : WX) (pn : List (Addr × Obj)) (xe : Value → Shared → Prop), Takes (X.tr pn xe) W → PassesOwn (model X.prog X.w) X.A X.env xe → DB (X.tr pn xe) W body mb) (hc : CmOk X (h₀ :: hr) qs)
    (hs : X.stack = X.env :: X.outer := by rfl) (hf : X.env.frame = some X.env.locals := by rfl) (hex : X.ex = [] := by rfl) : DS X Wx (.Try body (h₀ :: hr) [] [] pos) (sTry qs mb) := by
  obtain ⟨cs, h1, h2⟩ := cls_of (Wx := Wx) hc
  refine ps_mono (ps_tryV (tb := fun W => BM X.K X.mg W mb) hs hf hex tk (fun W pn xe t p => hb W pn xe t p) h1) fun D σ H ⟨B, F, ρ, s, k, h⟩ => ?_
  refine ⟨baseAt F ρ H s σ, F, ρ, s, k.rebase, ?_⟩
  unfold Run sTry at h
  unfold Run
  cases o : mb s with
  | fail => rw [o] at h; exact h.elim
  | ok r s1 =>
    rw [o] at h
    have h : BEnd X.K B F H D r s1 := h
    intro F1 ρ1 H1 σ1 sx k1
    have z := h F1 ρ1 H1 σ1 sx (k.unbase k1)
    cases r with
    | next => exact z
    | brk => exact z
    | cont => exact z
    | ret w => exact fun v rv => z v (ROk.unbase k rv)
  | err x s1 =>
    rw [o] at h
    intro F1 ρ1 H1 σ1 cls d k1 xo
    exact h2 (k.unbase k1) (k.sx_base k1) xo h
end
end Z
/-! Z, part 21: own classes of errors: raise C(e), e.f, isinstance(e, C). -/
namespace Z
open PySem PySem.Spec PyProof.Rows L2

/-! ### the error that a value is -/
def excOf (w : W) (s : S) : Option Exc := match w with
  | .exc x => some x
  | .peek i => (match s.env[i]? with
    | some (some (.exc x)) => some x
    | _ => none)
  | _ => none
def lookE (w : W) : M Exc := fun s => match excOf w s with
  | some x => .ok x s
  | none => .fail
section
variable {K : PySem.W.Frag} {B : Base} {F : Fz} {ρ : List Addr} {s : S} {σ : Sg} {H : Hp} {v : V} {w : W} {x : Exc}
theorem excOf_ok (k : Ok K B F ρ s σ H) (o : WOk K B F ρ s σ H v w) (e : excOf w s = some x) : ExV K F H v x := by
  cases w with
  | exc y => cases e; exact o
  | peek i =>
    have e' : (match s.env[i]? with
      | some (some (.exc x)) => some x
      | _ => none) = some x := e
    have o' : σ[i]? = some (some v) := o
    split at e'
    · rename_i y q
      cases e'
      obtain ⟨u, e1, e2⟩ := k.env i _ q
      rw [o'] at e1; cases e1
      exact e2
    · cases e'
  | val d => cases e
  | own ds => cases e
  | ref n => cases e
  | scr ns => cases e
  | fn y => cases e
theorem Run.lookE {β : Type} {k : Exc → M β} {ok : β → S → Prop} {er : Exc → S → Prop} (h : Run (Z.lookE w >>= k) s ok er) : ∃ x, excOf w s = some x ∧ Run (k x) s ok er := by
  have h' := Run.bind h
  unfold Run Z.lookE at h'
  cases e : excOf w s with
  | none => rw [e] at h'; exact h'.elim
  | some x => rw [e] at h'; exact ⟨x, rfl, h'⟩
end
section
variable {X : Cx} {pins : List (Addr × Obj)} {σ : Sg} {H : Hp} {s : Shared} {a C : Addr} {d : Option Addr}
/-- an error with a dict, in the heap -/
theorem inst_d {b : Addr} {fs : List (Str × V)} (I : Inv X pins σ H s) (ha : H a = some (exT a (.ref C) (some b))) (hb : H b = some (.xd fs)) :
    ∃ (oe od : Obj) (mA : Str → Option Value), PySem.W.InstAt s.heap a oe C (some od) ∧ (∀ n, PySem.W.lookIn n od = some (mA n)) ∧ ∀ n, RelO (fs.lookup n) (mA n) := by
  obtain ⟨⟨oe, vs, he, hz, hd⟩, _⟩ := I.hok a _ ha
  obtain ⟨mA, hns, hr⟩ := I.hok b _ hb
  obtain ⟨od, ho, hl⟩ := lookIn_ns hns
  exact ⟨oe, od, mA, ⟨he, hz.1, by unfold PySem.W.notCls; rw [hd] <;> rfl, by rw [hz.2]; exact ho⟩, hl, hr⟩
theorem inst_n (I : Inv X pins σ H s) (ha : H a = some (exT a (.ref C) none)) : ∃ oe, PySem.W.InstAt s.heap a oe C none := by
  obtain ⟨⟨oe, vs, he, hz, hd⟩, _⟩ := I.hok a _ ha
  refine ⟨oe, ?_⟩
  obtain ⟨oc, od, oda, osl⟩ := oe
  obtain ⟨h1, h2⟩ := hz
  dsimp only at h1 h2 hd
  subst h1 h2 hd
  exact ⟨he, rfl, rfl, trivial⟩
/-- e.f -/
theorem pe_exf {e : Expr} {te : TE} {pos : Pos} {n : Str} (he : PE X e te) (hb : attributeBase e n X.env (eval e X.env) = eval e X.env := by rfl) :
    PE X (.Attribute e n pos) (fun σ H Q => te σ H fun x H1 => ∃ a C b fs v, x = .ref a ∧ XfC X.K C ∧ PySem.W.findIn X.K (.ref C) n = some none ∧ H1 a = some (exT a (.ref C) (some b)) ∧ H1 b = some (.xd fs) ∧ fs.lookup n = some v ∧ Q v H1) := by
  refine ⟨fun pins s σ H Q I h => attr_of hb (thn (he.run pins s σ H _ I h) fun u s1 hh => ?_)⟩
  obtain ⟨x, H1, I1, rx, a, C, b, fs, v, rfl, T, hno, ha, hb2, l, q⟩ := hh
  obtain rfl : u = Value.ref a := rx
  obtain ⟨oe, od, mA, J, hl, hr⟩ := inst_d I1 ha hb2
  obtain ⟨u, hu, ru⟩ := RelO.some_of (v := v) (o := mA n) (by rw [← l]; exact hr n)
  exact HandSPX.exc_get I1.kIn J T.ga T.gg T.exC (PySem.W.findObj_own T.hdC hno rfl (by rw [hl, hu])) (handed_of ru) ⟨v, H1, I1.tok _, ru, q⟩
/-- isinstance(e, c) -/
def rIsV (K : PySem.W.Frag) : List V → Hp → VK → Prop := fun xs H Q => ∃ (a C : Addr) (d : Option Addr) (c : V) (cv : Value) (b : Bool), xs = [.ref a, c] ∧ ExcC K C ∧ H a = some (exT a (.ref C) d) ∧ (d = none ∨ ∃ b fs, d = some b ∧ H b = some (.xd fs)) ∧
  (∀ u, RelV c u → u = cv) ∧ PySem.W.kitOne K (.ref C) cv = some b ∧ Q (.bl b) H
theorem call_isV : CallR X (.builtin "isinstance") (rIsV X.K) := by
  intro pins s σ H xs us Q I r h
  obtain ⟨a, C, d, c, cv, b, rfl, T, ha, hd, hcv, e, q⟩ := h
  cases r with
  | cons rx rr =>
    cases rr with
    | cons rt rr =>
      cases rr
      cases rx
      have ec := hcv _ rt
      subst ec
      have hcl : (PySem.W.clsIn X.K C).isSome = true := by
        obtain ⟨cd, hc, _⟩ := PySem.W.any_some T.hd
        rw [hc]; rfl
      rcases hd with rfl | ⟨bd, fs, rfl, hb⟩
      · obtain ⟨oe, J⟩ := inst_n I ha
        exact PySem.W.kia_one (PySem.W.kitx_exc hcl T.hg T.hk T.hs T.ha T.hn T.ht T.hm) I.kIn J e (fun z => nomatch z) fun tk => ⟨.bl b, H, I.kept (t' := tk) fun _ _ z => z, rfl, q⟩
      · obtain ⟨oe, od, mA, J, _, _⟩ := inst_d I ha hb
        exact PySem.W.kia_one (PySem.W.kitx_exc hcl T.hg T.hk T.hs T.ha T.hn T.ht T.hm) I.kIn J e (fun z => nomatch z) fun tk => ⟨.bl b, H, I.kept (t' := tk) fun _ _ z => z, rfl, q⟩
end
/-! ### in the layer -/
def eXf (cs : List Str) (f : Str) (m : M W) : M W := m >>= fun w => lookE w >>= fun x => ofO (if x.name ∈ cs then (match x.arg with
  | some (g, d) => if g = f then some (.val d) else none
  | none => none) else none)
def eIsE (tab : List (Str × Bool)) (m : M W) : M W := m >>= fun w => lookE w >>= fun x => ofO ((tab.lookup x.name).map fun b => .val (.bool b))
def XfT (K : PySem.W.Frag) (cs : List Str) (f : Str) : Prop := ∀ y ∈ cs, XfC K (He.ga K y) ∧ PySem.W.findIn K (.ref (He.ga K y)) f = some none
def IsT (K : PySem.W.Frag) (tab : List (Str × Bool)) (cv : Value) : Prop := ∀ y b, tab.lookup y = some b → ExcC K (He.ga K y) ∧ PySem.W.kitOne K (.ref (He.ga K y)) cv = some b
section
variable {X : Cx} {Wx : WX} {pos p p2 : Pos} {e : Expr} {m : M W} {cs : List Str} {f : Str} {tab : List (Str × Bool)}
theorem i_xf (T : XfT X.K cs f) (he : DE X Wx e m) (hb : attributeBase e f X.env (eval e X.env) = eval e X.env := by rfl) : DE X Wx (.Attribute e f pos) (eXf cs f m) :=
  pe_mono (pe_exf he hb) fun σ H Q h => em_un (P := fun x H1 => ∃ a C b fs v, x = .ref a ∧ XfC X.K C ∧ PySem.W.findIn X.K (.ref C) f = some none ∧ H1 a = some (exT a (.ref C) (some b)) ∧ H1 b = some (.xd fs) ∧ fs.lookup f = some v ∧ Q v H1) (fun {B F ρ s H _ _} k o h => by
    obtain ⟨x, e1, h1⟩ := Run.lookE h
    obtain ⟨w, e2, post⟩ := Run.ofO h1
    clear h h1
    obtain ⟨a, d, rfl, ha, xa⟩ := excOf_ok k o e1
    split at e2
    · rename_i hm
      obtain ⟨T1, T2⟩ := T _ hm
      unfold ExArg at xa
      cases q : x.arg with
      | none => rw [q] at e2; cases e2
      | some p =>
        obtain ⟨g, dd⟩ := p
        rw [q] at e2 xa
        obtain ⟨b, v, rfl, hb2, r⟩ := xa
        have e3 : (if g = f then some (W.val dd) else none) = some w := e2
        by_cases hg : g = f
        · rw [if_pos hg] at e3
          cases e3
          subst hg
          exact ⟨a, _, b, _, v, rfl, T1, T2, ha, hb2, by simp [List.lookup], post.val k r⟩
        · rw [if_neg hg] at e3; cases e3
    · cases e2) h
/-- what is known of an error before isinstance is asked -/
theorem exv_parts {K : PySem.W.Frag} {F : Fz} {H : Hp} {v : V} {x : Exc} (h : ExV K F H v x) : ∃ a d, v = .ref a ∧ H a = some (exT a (.ref (He.ga K x.name)) d) ∧ (d = none ∨ ∃ b fs, d = some b ∧ H b = some (.xd fs)) := by
  obtain ⟨a, d, rfl, ha, xa⟩ := h
  refine ⟨a, d, rfl, ha, ?_⟩
  unfold ExArg at xa
  cases q : x.arg with
  | none => rw [q] at xa; exact .inl xa
  | some p =>
    rw [q] at xa
    obtain ⟨b, v, e, hb, _⟩ := xa
    exact .inr ⟨b, _, e, hb⟩
theorem isE_step {c : V} {cv : Value} {σ : Sg} {H : Hp} {Q : VK} (T : IsT X.K tab cv) (hc : ∀ u, RelV c u → u = cv) (h : EM X.K X.mg Wx (eIsE tab m) σ H Q) : EM X.K X.mg Wx m σ H fun x H1 => rIsV X.K [x, c] H1 Q :=
  em_un (P := fun x H1 => rIsV X.K [x, c] H1 Q) (fun {B F ρ s H _ _} k o h => by
    obtain ⟨x, e1, h⟩ := Run.lookE h
    obtain ⟨w, e2, h⟩ := Run.ofO h
    obtain ⟨a, d, rfl, ha, xa⟩ := exv_parts (excOf_ok k o e1)
    cases q : tab.lookup x.name with
    | none => rw [q] at e2; cases e2
    | some b =>
      rw [q] at e2
      cases e2
      obtain ⟨T1, T2⟩ := T _ _ q
      exact ⟨a, _, d, c, cv, b, rfl, T1, ha, xa, hc, T2, h.val k (.bl b)⟩) h
/-- of an own class -/
theorem i_isE {y : Str} {C : Addr} (hm : X.mg "isinstance" = none) (hy : X.mg y = some (.ref C)) (T : IsT X.K tab (.ref C)) (he : DE X Wx e m) (hg : Gl X "isinstance" := by rfl) (hg2 : Gl X y := by rfl) (hdb2 : (y == ("__debug__" : Str)) = false := by decide)
    (hs : starEach [e, .Name y p2] X.env = (false, eval e X.env) :: starEach [.Name y p2] X.env := by rfl) (hs2 : starEach [.Name y p2] X.env = (false, eval (.Name y p2) X.env) :: starEach [] X.env := by rfl) (hpl : (backTo pos (starEach [.Name y p2] X.env)).any (·.1) = false := by rfl) :
    DE X Wx (.Call (.Name "isinstance" p) [e, .Name y p2] [] pos) (eIsE tab m) :=
  pe_mono (pe_callB call_isV hg hm (by decide +kernel) (pa_cons he (pa_cons (pe_glob (v := .ref C) hg2 hy rfl hdb2) pa_nil hs2) hs) (by decide) (by decide) hs hpl) fun σ H Q h => isE_step T (fun u r => r) h
/-- of a built-in class -/
theorem i_isB {y : Str} {T' : String} (hm : X.mg "isinstance" = none) (hm2 : X.mg y = none) (T : IsT X.K tab (.type T')) (he : DE X Wx e m) (hv2 : bootBuiltins y = some (.type T') := by decide +kernel) (hg : Gl X "isinstance" := by rfl) (hg2 : Gl X y := by rfl) (hn2 : y ≠ "__name__" := by decide) (hdb2 : (y == ("__debug__" : Str)) = false := by decide)
    (hs : starEach [e, .Name y p2] X.env = (false, eval e X.env) :: starEach [.Name y p2] X.env := by rfl) (hs2 : starEach [.Name y p2] X.env = (false, eval (.Name y p2) X.env) :: starEach [] X.env := by rfl) (hpl : (backTo pos (starEach [.Name y p2] X.env)).any (·.1) = false := by rfl) :
    DE X Wx (.Call (.Name "isinstance" p) [e, .Name y p2] [] pos) (eIsE tab m) :=
  pe_mono (pe_callB call_isV hg hm (by decide +kernel) (pa_cons he (pa_cons (pe_bltn (v := .ty T') hg2 hm2 hv2 rfl hn2 hdb2) pa_nil hs2) hs) (by decide) (by decide) hs hpl) fun σ H Q h => isE_step T (fun u r => r) h
end
end Z
/-! Z, part 22: raise C(e), C an own class of errors whose __init__ keeps e in a field; the facts of such classes. -/
namespace Z
open PySem PySem.Spec PyProof.Rows L2

/-! ### __init__(self, y): self.f = y -/
def spInit (K : PySem.W.Frag) (f : Str) : Sp := fun vs H Q _ => ∃ (a C : Addr) (v : V), vs = [.ref a, v] ∧ OexC K C ∧ PySem.W.findIn K (.ref C) f = some none ∧ H a = some (exo a C none) ∧
  ∀ dx, H dx = none → dx ≠ a → Q .non (upd (upd H dx (exd dx [(f, v)])) a (exo a C (some dx)))
theorem init_ok {P : Program} {w : World} {K : PySem.W.Frag} {mg : Str → Option Value} {base : Heap} {CX : CXT} {qual f y : Str} {params : Arguments} {p1 p2 p3 p4 : Pos} {scope : Scope} {fI : Addr} {fd : FuncData} {k : Nat}
    (G : FunD K "__init__" qual params [.Assign [.Attribute (.Name "self" p1) f p2] (.Name y p3) p4] scope [] [] fI fd) (Sc : FnScope ["self", y] ["self", y] scope) (hy : (y == ("__debug__" : Str)) = false) (hy2 : (y == ("__classdict__" : Str)) = false)
    (v0 : Vis scope "self") (v1 : Vis scope y) : FnOk P w K mg base CX (k + 1) fI fd ["self", y] (spInit K f) :=
  G.ok Sc (fun vs H Q E h => by obtain ⟨a, C, v, rfl, _⟩ := h; rfl) fun cdv A outer s H vs Q E hr h =>
    ⟨tOst K f (tVar 0) (tVar 1), pss_one (ps_ost (pv 0 rfl v0 (by decide) (by decide)) (pv 1 rfl v1 hy hy2) (by rfl)), by
      obtain ⟨a, C, v, rfl, T, hno, ha, q⟩ := h
      exact ⟨v, rfl, .ref a, rfl, a, C, rfl, T, hno, .inl ⟨ha, fun dx n ne => q dx n ne⟩⟩⟩
/-! ### raise C(e) -/
def sRaise (x f : Str) (ma : M (List W)) : M SR := ma >>= fun ws => match ws with
  | [.val d] => fun s => .err ⟨x, some (f, d)⟩ s
  | _ => M.fail
/-- what is known of an own class of errors with one field -/
structure ErrF (P : Program) (w : World) (K : PySem.W.Frag) (mg : Str → Option Value) (base : Heap) (x f : Str) (k : Nat) : Prop where
  ex : ∃ (fI : Addr) (fd : FuncData) (y : Str), mg x = some (.ref (He.ga K x)) ∧ OexC K (He.ga K x) ∧ PySem.W.findIn K (.ref (He.ga K x)) f = some none ∧ PySem.W.findIn K (.ref (He.ga K x)) "__init__" = some (some (.ref fI)) ∧
    PySem.W.typeIn K (.ref fI) = some (.type "function") ∧ FnOk P w K mg base (L2.CX P w) k fI fd ["self", y] (spInit K f) ∧ Binds K fd ["self", y] []
section
variable {X : Cx} {Wx : WX} {p pos pos2 : Pos} {e : Expr} {ma : M (List W)} {x f : Str} {k : Nat}
theorem passes_none : Passes (L2.CX X.prog X.w) X (fun _ _ _ => False) := fun _ _ _ _ _ _ _ c => by
  obtain ⟨_, _, _, _, _, _, _, _, _, _, _, _, z⟩ := c
  exact z.elim
theorem del_upd2 {H : Hp} {a dx : Addr} {o1 o2 o3 o4 : HO} (ha : H a = none) (hne : dx ≠ a) : upd (del (upd (upd (upd H a o1) dx o2) a o3) a) dx o4 = upd H dx o4 := by
  funext b
  by_cases hb : b = dx
  · rw [hb, upd_same, upd_same]
  · rw [upd_ne hb, upd_ne hb]
    by_cases hc : b = a
    · rw [hc, del_same, ha]
    · rw [del_ne hc, upd_ne hc, upd_ne hb, upd_ne hc]
theorem s_raise (T : ErrF X.prog X.w X.K X.mg X.base x f k) (hr : Room (k + 1) X.A) (tk : Takes X Wx) (ha : DA X Wx [e] ma) (hc : X.calm = true := by rfl) (hg : Gl X x := by rfl) (hdb : (x == ("__debug__" : Str)) = false := by decide)
    (he : starEach [e] X.env = (false, eval e X.env) :: starEach [] X.env := by rfl) (hpl : (backTo pos (starEach [] X.env)).any (·.1) = false := by rfl) :
    DS X Wx (.Raise (some (.Call (.Name x p) [e] [] pos)) none pos2) (sRaise x f ma) := by
  obtain ⟨fI, fd, y, hm, T1, hno, hI, tI, G, hb⟩ := T.ex
  refine ps_mono (ps_raise hc tk (pmk_oex (dvs := []) T1 hI tI G hr hb .nil passes_none hg hm ha hdb he hpl)) fun D σ H ⟨B, F, ρ, s, kk, h⟩ => ?_
  refine ⟨B, F, ρ, s, kk, (Run.bind h).mono (fun ws s1 _ h1 F1 ρ1 H1 vs e1 k1 o1 => ?_) fun x s1 _ z F' ρ' H' cls d k' xo => z F' ρ' H' σ cls d k' xo⟩
  cases o1 with
  | nil => exact h1.elim
  | @cons v vs w ws ow o2 =>
    cases o2 with
    | cons _ _ => cases w <;> exact h1.elim
    | nil =>
      cases w with
      | val d =>
        refine ⟨(by decide : 1 ≤ 1000), fun a na => ⟨a, He.ga X.K x, v, rfl, T1, hno, upd_same, fun dx hdx hne => ⟨rfl, dx, [(f, v)], upd_same, by rw [upd_ne hne]; exact upd_same, ?_, ?_⟩⟩⟩
        · rw [upd_ne hne] at hdx; exact hdx
        · rw [upd_ne hne] at hdx
          rw [del_upd2 na hne]
          have h2 : BEr X.K X.mg Wx B ⟨x, some (f, d)⟩ s1 := h1
          exact h2 F1 ρ1 _ σ (.ref (He.ga X.K x)) (some dx) (k1.new hdx) ⟨_, hm, rfl, dx, v, rfl, upd_same, Rp.st ow (stay_upd hdx) fun _ z => z⟩
      | _ => exact h1.elim
end
/-! ### facts -/
def exlB (K : PySem.W.Frag) (C : Addr) : Bool := match K.lookup C with
  | some ⟨.type "type", _, .cls cd, sl⟩ => (match cd.mro, sl.toList with
    | .ref C' :: bm, [_, _, _, _, some (.builtin n), _] => C' == C && n == "ValueError.__new__" && !cd.hasDel && cd.hasDict && PySem.HandSPX.refsVE bm
    | _, _ => false)
  | _ => false
theorem exl_ok {K : PySem.W.Frag} {C : Addr} (h : exlB K C = true) : ∃ nm q N bs bm sn sub ab col dd k0 k1 k2 k3 k5, K.lookup C = some (excClassObj nm q C N bs bm true sn sub ab col dd k0 k1 k2 k3 k5 "ValueError.__new__") ∧ PySem.HandSPX.refsVE bm = true := by
  unfold exlB at h
  split at h
  · rename_i dd cd sl ho
    split at h
    · rename_i C' bm k0 k1 k2 k3 n k5 hm hs
      simp only [Bool.and_eq_true, beq_iff_eq, Bool.not_eq_true'] at h
      obtain ⟨⟨⟨⟨e1, e2⟩, e3⟩, e4⟩, e5⟩ := h
      obtain ⟨l⟩ := sl
      have hs' : l = [k0, k1, k2, k3, some (.builtin n), k5] := hs
      obtain ⟨nm, bs, mro, ns, qn, hd, sn, sub, ab, col, hdel⟩ := cd
      dsimp only at hm e3 e4
      subst hs' hm e1 e2 e3 e4
      exact ⟨_, _, _, _, bm, _, _, _, _, _, _, _, _, _, _, ho, e5⟩
    · cases h
  · cases h
/-- a class of errors: what must be known of it -/
def errB (K : PySem.W.Frag) (C : Addr) : Bool := exlB K C && (PySem.W.keepIn K (.ref C) && (PySem.W.hasDictIn K C && (He.eqO (PySem.W.findIn K (.ref C) "__setattr__") (some (some (.builtin "object.__setattr__"))) &&
  (He.eqO (PySem.W.findIn K (.ref C) "__getattribute__") (some (some (.builtin "BaseException.__getattribute__"))) && (He.eqO (PySem.W.findIn K (.ref C) "__getattr__") (some none) &&
  (He.eqO (PySem.W.findIn K (.ref C) "__class__") (some (some (.builtin "object.__class__"))) && (decide (PySem.W.subIn K (.ref C) (.type "BaseException") = some true) && (decide (PySem.W.typeIn K (.ref C) = some (.type "type")) &&
  (decide (PySem.W.mroIn K C (.type "object") = some true) && (He.eqO (PySem.W.specialIn K (.builtin "object.__class__") "__get__") (some (some (.builtin "getset_descriptor.__get__"))) && decide (PySem.W.takesIn K (.builtin "object.__class__") = some true)))))))))))
structure ErrC (K : PySem.W.Frag) (C : Addr) : Prop where
  oex : OexC K C
  xf : XfC K C
  is : ExcC K C
theorem errB_ok {K : PySem.W.Frag} {C : Addr} (h : errB K C = true) : ErrC K C := by
  obtain ⟨a1, h⟩ := He.ba h
  obtain ⟨a2, h⟩ := He.ba h
  obtain ⟨a3, h⟩ := He.ba h
  obtain ⟨a4, h⟩ := He.ba h
  obtain ⟨a5, h⟩ := He.ba h
  obtain ⟨a6, h⟩ := He.ba h
  obtain ⟨a7, h⟩ := He.ba h
  obtain ⟨a8, h⟩ := He.ba h
  obtain ⟨a9, h⟩ := He.ba h
  obtain ⟨a10, h⟩ := He.ba h
  obtain ⟨a11, a12⟩ := He.ba h
  exact ⟨⟨exl_ok a1, He.eqO_ok a4, of_decide_eq_true a8, of_decide_eq_true a9, a2⟩, ⟨He.eqO_ok a5, He.eqO_ok a6, of_decide_eq_true a8, a3⟩,
    ⟨He.eqO_ok a5, He.eqO_ok a6, of_decide_eq_true a8, a3, He.eqO_ok a7, He.eqO_ok a11, of_decide_eq_true a12, of_decide_eq_true a10⟩⟩
end Z
/-! Z, part 23: the facts of classes of errors, by tables; the empty dict. -/
namespace Z
open PySem PySem.Spec PyProof.Rows L2

def tabB (tab : List (Str × Bool)) (z : Str) (K : PySem.W.Frag) : Bool := tab.all fun q => decide (PySem.W.exmOne K (.ref (He.ga K q.1)) (.ref (He.ga K z)) = some q.2)
def isOB (tab : List (Str × Bool)) (z : Str) (K : PySem.W.Frag) : Bool := tab.all fun q => errB K (He.ga K q.1) && decide (PySem.W.kitOne K (.ref (He.ga K q.1)) (.ref (He.ga K z)) = some q.2)
def isBB (tab : List (Str × Bool)) (t : String) (K : PySem.W.Frag) : Bool := tab.all fun q => errB K (He.ga K q.1) && decide (PySem.W.kitOne K (.ref (He.ga K q.1)) (.type t) = some q.2)
def xfTB (cs : List Str) (f : Str) (K : PySem.W.Frag) : Bool := cs.all fun y => errB K (He.ga K y) && He.eqO (PySem.W.findIn K (.ref (He.ga K y)) f) (some none)
def AllGlo (K : PySem.W.Frag) (mg : Str → Option Value) : List (Str × Bool) → Prop
  | [] => True
  | q :: qs => mg q.1 = some (.ref (He.ga K q.1)) ∧ AllGlo K mg qs
section
variable {K : PySem.W.Frag} {mg : Str → Option Value} {tab : List (Str × Bool)} {z f : Str} {t : String} {cs : List Str}
theorem lookup_mem' {y : Str} {b : Bool} : ∀ {tab : List (Str × Bool)}, tab.lookup y = some b → (y, b) ∈ tab
  | [], h => by cases h
  | (u, v) :: tab, h => by
    rw [List.lookup_cons] at h
    by_cases e : y = u
    · subst e
      simp at h
      subst h
      exact List.mem_cons_self ..
    · have e' : (y == u) = false := by simpa using e
      rw [e'] at h
      exact List.mem_cons_of_mem _ (lookup_mem' h)
theorem AllGlo.at_ : ∀ {tab : List (Str × Bool)}, AllGlo K mg tab → ∀ q ∈ tab, mg q.1 = some (.ref (He.ga K q.1))
  | _ :: _, h, q, hq => by
    rcases List.mem_cons.mp hq with rfl | hq
    · exact h.1
    · exact AllGlo.at_ h.2 q hq
theorem tabB_ok (h : tabB tab z K = true) (g : AllGlo K mg tab) : TabE K mg tab (.ref (He.ga K z)) := fun y b C hl hm => by
  have m := lookup_mem' hl
  have e := of_decide_eq_true (List.all_eq_true.mp h _ m)
  have hg := g.at_ _ m
  have hC : C = He.ga K y := Value.ref.inj (Option.some.inj (hm.symm.trans hg))
  subst hC
  exact ⟨e, rfl⟩
theorem isOB_ok (h : isOB tab z K = true) : IsT K tab (.ref (He.ga K z)) := fun y b hl => by
  obtain ⟨a, e⟩ := He.ba (List.all_eq_true.mp h _ (lookup_mem' hl))
  exact ⟨(errB_ok a).is, of_decide_eq_true e⟩
theorem isBB_ok (h : isBB tab t K = true) : IsT K tab (.type t) := fun y b hl => by
  obtain ⟨a, e⟩ := He.ba (List.all_eq_true.mp h _ (lookup_mem' hl))
  exact ⟨(errB_ok a).is, of_decide_eq_true e⟩
theorem xfTB_ok (h : xfTB cs f K = true) : XfT K cs f := fun y hy => by
  obtain ⟨a, e⟩ := He.ba (List.all_eq_true.mp h _ hy)
  exact ⟨(errB_ok a).xf, He.eqO_ok e⟩
end
/-! ### a def within a class -/
def clsDef (s : Stmt) (j : Nat) : Stmt := match s with
  | .ClassDef _ _ _ body _ _ _ _ _ _ _ => body.getD j (.Pass ⟨0, 0, 0, 0⟩)
  | _ => .Pass ⟨0, 0, 0, 0⟩
/-! ### {} -/
def eDct0 : M W := Pure.pure (.val (.dict []))
theorem i_dict0 {X : Cx} {Wx : WX} {pos : Pos} : DE X Wx (.Dict [] [] pos) eDct0 :=
  pe_mono pe_dnewK fun σ H Q ⟨B, F, ρ, s, k, h⟩ p hp => (Run.ret h) F ρ _ (.ref p) (Ext.new_ hp) (k.new hp) (.dct upd_same) trivial
end Z
/-! P, part 0: the mirrors run by simp. -/
namespace Z
open PySem PySem.Spec PyProof.Rows L2

/-- what comes behind, as an instance: it is looked at when the first is known -/
class Kont (α β : Type) where
  go : α → M β
def runK {α β : Type} (o : Out S α) [k : Kont α β] : Out S β := match o with
  | .fail => .fail
  | .err x s' => .err x s'
  | .ok a s' => k.go a s'
@[simp] theorem runK_ok {α β : Type} {a : α} {s : S} {k : α → M β} : runK (Out.ok a s) (k := ⟨k⟩) = k a s := (rfl)
@[simp] theorem runK_err {α β : Type} {x : Exc} {s : S} {k : α → M β} : runK (Out.err x s : Out S α) (k := ⟨k⟩) = .err x s := (rfl)
@[simp] theorem runK_fail {α β : Type} {k : α → M β} : runK (Out.fail : Out S α) (k := ⟨k⟩) = (.fail : Out S β) := (rfl)
@[simp] theorem bind_app {α β : Type} {m : M α} {k : α → M β} {s : S} : (m >>= k) s = runK (m s) (k := ⟨k⟩) := (rfl)
@[simp] theorem pure_app {α : Type} {a : α} {s : S} : (Pure.pure a : M α) s = .ok a s := (rfl)
@[simp] theorem fail_app {α : Type} {s : S} : (M.fail : M α) s = .fail := (rfl)
@[simp] theorem ofO_some {α : Type} {a : α} {s : S} : ofO (some a) s = .ok a s := (rfl)
@[simp] theorem ofO_none {α : Type} {s : S} : (ofO (none : Option α)) s = .fail := (rfl)
@[simp] theorem eC_app {d : D} {s : S} : eC d s = .ok (.val d) s := (rfl)
/-- a slot that holds something -/
def evO (i : Nat) (s : S) : Option (Option W) → Out S W
  | some (some _) => .ok (.peek i) s
  | _ => .fail
@[simp] theorem evO_some {i : Nat} {s : S} {w : W} : evO i s (some (some w)) = .ok (.peek i) s := (rfl)
@[simp] theorem eVar_mk {i : Nat} {env : List (Option W)} {st : Store} : eVar i ⟨env, st⟩ = evO i ⟨env, st⟩ env[i]? := (rfl)
theorem eVar_app {i : Nat} {s : S} {w : W} (h : s.env[i]? = some (some w)) : eVar i s = .ok (.peek i) s := by
  unfold eVar
  rw [h]
/-- contents -/
@[simp] theorem content_val {d : D} {s : S} : content (.val d) s = some d := (rfl)
@[simp] theorem content_own {ds : List D} {s : S} : content (.own ds) s = some (.list ds) := (rfl)
@[simp] theorem content_scr {ns : List Int} {s : S} : content (.scr ns) s = some (.list (ns.map .int)) := (rfl)
@[simp] theorem content_ref {n : Nat} {s : S} : content (.ref n) s = (s.st[n]?).map .list := (rfl)
@[simp] theorem contW_val {d : D} {st : Store} : contW st (.val d) = some d := (rfl)
@[simp] theorem contW_own {ds : List D} {st : Store} : contW st (.own ds) = some (.list ds) := (rfl)
@[simp] theorem contW_scr {ns : List Int} {st : Store} : contW st (.scr ns) = some (.list (ns.map .int)) := (rfl)
@[simp] theorem contW_fn {x : Str} {st : Store} : contW st (.fn x) = none := (rfl)
@[simp] theorem contW_exc {x : Exc} {st : Store} : contW st (.exc x) = none := (rfl)
@[simp] theorem content_fn {x : Str} {s : S} : content (.fn x) s = none := (rfl)
@[simp] theorem content_exc {x : Exc} {s : S} : content (.exc x) s = none := (rfl)
@[simp] theorem contW_ref {n : Nat} {st : Store} : contW st (.ref n) = (st[n]?).map .list := (rfl)
@[simp] theorem content_peek {i : Nat} {env : List (Option W)} {st : Store} : content (.peek i) ⟨env, st⟩ = (env[i]?).bind fun o => o.bind (contW st) := (rfl)
@[simp] theorem isScr_peek {i : Nat} {env : List (Option W)} {st : Store} : isScr (.peek i) ⟨env, st⟩ = ((env[i]?).bind fun o => o.map scrW).getD false := (rfl)
@[simp] theorem isScr_val {d : D} {s : S} : isScr (.val d) s = false := (rfl)
@[simp] theorem isScr_own {d : List D} {s : S} : isScr (.own d) s = false := (rfl)
@[simp] theorem isScr_ref {d : Nat} {s : S} : isScr (.ref d) s = false := (rfl)
@[simp] theorem isScr_scr {d : List Int} {s : S} : isScr (.scr d) s = true := (rfl)
@[simp] theorem scrW_val {d : D} : scrW (.val d) = false := (rfl)
@[simp] theorem scrW_own {d : List D} : scrW (.own d) = false := (rfl)
@[simp] theorem scrW_ref {d : Nat} : scrW (.ref d) = false := (rfl)
@[simp] theorem scrW_scr {d : List Int} : scrW (.scr d) = true := (rfl)
def outO {α : Type} (o : Option α) (s : S) : Out S α := match o with
  | some a => .ok a s
  | none => .fail
@[simp] theorem outO_some {α : Type} {a : α} {s : S} : outO (some a) s = .ok a s := (rfl)
@[simp] theorem outO_none {α : Type} {s : S} : outO (none : Option α) s = .fail := (rfl)
@[simp] theorem look_app {w : W} {s : S} : look w s = outO (content w s) s := by
  unfold look outO
  cases content w s <;> rfl
@[simp] theorem lookT_app {w : W} {s : S} : lookT w s = if isScr w s = true then (match content w s with | some _ => .fail | none => .fail) else outO (content w s) s := by
  unfold lookT outO
  cases content w s with
  | none => simp
  | some d => rfl
@[simp] theorem opBin_app {f : D → D → Option W} {m1 m2 : M W} {s : S} : opBin f m1 m2 s = runK (m1 s) (k := ⟨fun a => m2 >>= fun b => lookT a >>= fun x => lookT b >>= fun y => ofO (f x y)⟩) := (rfl)
@[simp] theorem opCmp_app {f : D → D → Option Bool} {m1 m2 : M W} {s : S} : opCmp f m1 m2 s = runK (m1 s) (k := ⟨fun a => m2 >>= fun b => look a >>= fun x => look b >>= fun y => ofO (f x y)⟩) := (rfl)
@[simp] theorem opCmpV_app {f : D → D → Option Bool} {m1 m2 : M W} {s : S} : opCmpV f m1 m2 s = runK (m1 s) (k := ⟨fun a => m2 >>= fun b => look a >>= fun x => look b >>= fun y => ofO ((f x y).map fun b => .val (.bool b))⟩) := (rfl)
@[simp] theorem opLk_app {f : D → D → Option W} {m1 m2 : M W} {s : S} : opLk f m1 m2 s = runK (m1 s) (k := ⟨fun a => m2 >>= fun b => look a >>= fun x => look b >>= fun y => ofO (f x y)⟩) := (rfl)
@[simp] theorem op1_app {f : D → Option W} {m : M W} {s : S} : op1 f m s = runK (m s) (k := ⟨fun a => look a >>= fun x => ofO (f x)⟩) := (rfl)
@[simp] theorem opChainV_app {f f' : D → D → Option Bool} {m1 m2 m3 : M W} {s : S} : opChainV f f' m1 m2 m3 s = runK (m1 s) (k := ⟨fun a => m2 >>= fun b => look a >>= fun x => look b >>= fun y => ofO (f x y) >>= fun t => if t = true then m3 >>= fun c => look b >>= fun y => look c >>= fun z => ofO ((f' y z).map fun b => .val (.bool b)) else Pure.pure (.val (.bool false))⟩) := (rfl)
@[simp] theorem opChain_app {f f' : D → D → Option Bool} {m1 m2 m3 : M W} {s : S} : opChain f f' m1 m2 m3 s = runK (m1 s) (k := ⟨fun a => m2 >>= fun b => look a >>= fun x => look b >>= fun y => ofO (f x y) >>= fun t => if t = true then m3 >>= fun c => look b >>= fun y => look c >>= fun z => ofO (f' y z) else Pure.pure false⟩) := (rfl)
@[simp] theorem opTruth_app {m : M W} {s : S} : opTruth m s = runK (m s) (k := ⟨fun a => look a >>= fun d => ofO (truthD d)⟩) := (rfl)
@[simp] theorem cAnd_app {m1 m2 : M Bool} {s : S} : cAnd m1 m2 s = runK (m1 s) (k := ⟨fun b => if b = true then m2 else Pure.pure false⟩) := (rfl)
@[simp] theorem cOr_app {m1 m2 : M Bool} {s : S} : cOr m1 m2 s = runK (m1 s) (k := ⟨fun b => if b = true then Pure.pure true else m2⟩) := (rfl)
@[simp] theorem cNot_app {m1 : M Bool} {s : S} : cNot m1 s = runK (m1 s) (k := ⟨fun b => Pure.pure (!b)⟩) := (rfl)
@[simp] theorem eAnd_app {m1 m2 : M W} {s : S} : eAnd m1 m2 s = runK (m1 s) (k := ⟨fun a => look a >>= fun d => ofO (truthD d) >>= fun b => if b = true then m2 else keepW a⟩) := (rfl)
@[simp] theorem eOr_app {m1 m2 : M W} {s : S} : eOr m1 m2 s = runK (m1 s) (k := ⟨fun a => look a >>= fun d => ofO (truthD d) >>= fun b => if b = true then keepW a else m2⟩) := (rfl)
@[simp] theorem eNot_app {m1 : M W} {s : S} : eNot m1 s = runK (m1 s) (k := ⟨fun a => look a >>= fun d => ofO ((truthD d).map fun b => .val (.bool !b))⟩) := (rfl)
@[simp] theorem eIf_app {c : M Bool} {m1 m2 : M W} {s : S} : eIf c m1 m2 s = runK (c s) (k := ⟨fun b => if b = true then m1 else m2⟩) := (rfl)
@[simp] theorem eNeg_app {m1 : M W} {s : S} : eNeg m1 s = runK (m1 s) (k := ⟨fun a => look a >>= fun d => ofO (match d with | .int i => some (.val (.int (-i))) | _ => none)⟩) := (rfl)
@[simp] theorem keepW_val {d : D} : keepW (.val d) = Pure.pure (.val d) := (rfl)
@[simp] theorem keepW_peek {d : Nat} : keepW (.peek d) = Pure.pure (.peek d) := (rfl)
@[simp] theorem keepW_ref {d : Nat} : keepW (.ref d) = Pure.pure (.ref d) := (rfl)
@[simp] theorem keepW_fn {d : Str} : keepW (.fn d) = Pure.pure (.fn d) := (rfl)
@[simp] theorem keepW_exc {d : Exc} : keepW (.exc d) = Pure.pure (.exc d) := (rfl)
@[simp] theorem keepW_scr {d : List Int} : keepW (.scr d) = Pure.pure (.scr d) := (rfl)
@[simp] theorem setEnv_mk {env : List (Option W)} {st : Store} {i : Nat} {o : Option W} : S.setEnv ⟨env, st⟩ i o = ⟨env.set i o, st⟩ := (rfl)
@[simp] theorem escW_val {d : D} {s : S} : escW (.val d) s = .ok (.val d) s := (rfl)
@[simp] theorem escW_own {d : List D} {s : S} : escW (.own d) s = .ok (.val (.list d)) s := (rfl)
@[simp] theorem escW_ref {d : Nat} {s : S} : escW (.ref d) s = .ok (.ref d) s := (rfl)
@[simp] theorem escW_fn {d : Str} {s : S} : escW (.fn d) s = .ok (.fn d) s := (rfl)
@[simp] theorem escW_exc {d : Exc} {s : S} : escW (.exc d) s = .ok (.exc d) s := (rfl)
@[simp] theorem escW_scr {d : List Int} {s : S} : escW (.scr d) s = .ok (.scr d) s := (rfl)
@[simp] theorem escW_peek {i : Nat} {env : List (Option W)} {st : Store} : escW (.peek i) ⟨env, st⟩ = escSlot i ⟨env, st⟩ env[i]? := (rfl)
@[simp] theorem escSlot_val {i : Nat} {s : S} {d : D} : escSlot i s (some (some (.val d))) = .ok (.val d) s := (rfl)
@[simp] theorem escSlot_own {i : Nat} {s : S} {d : List D} : escSlot i s (some (some (.own d))) = .ok (.val (.list d)) (s.setEnv i (some (.val (.list d)))) := (rfl)
@[simp] theorem escSlot_ref {i : Nat} {s : S} {d : Nat} : escSlot i s (some (some (.ref d))) = .ok (.ref d) s := (rfl)
@[simp] theorem escSlot_fn {i : Nat} {s : S} {d : Str} : escSlot i s (some (some (.fn d))) = .ok (.fn d) s := (rfl)
@[simp] theorem escSlot_exc {i : Nat} {s : S} {d : Exc} : escSlot i s (some (some (.exc d))) = .ok (.exc d) s := (rfl)
@[simp] theorem escSlot_scr {i : Nat} {s : S} {d : List Int} : escSlot i s (some (some (.scr d))) = .ok (.scr d) s := (rfl)
@[simp] theorem aNil_app {s : S} : aNil s = .ok [] s := (rfl)
@[simp] theorem aCons_app {m : M W} {r : M (List W)} {s : S} : aCons m r s = runK (m s) (k := ⟨fun a => escW a >>= fun w => r >>= fun ws => Pure.pure (w :: ws)⟩) := (rfl)
@[simp] theorem aStar_app {m : M W} {r : M (List W)} {s : S} : aStar m r s = runK (m s) (k := ⟨fun a => escW a >>= fun w => ofO (itemsD w) >>= fun ds => r >>= fun ws => Pure.pure (valsD ds ++ ws)⟩) := (rfl)
@[simp] theorem allVal_nil : allVal [] = some [] := (rfl)
@[simp] theorem allVal_cons {d : D} {r : List W} : allVal (.val d :: r) = (allVal r).map (d :: ·) := (rfl)
@[simp] theorem allVal_vals {ds : List D} : allVal (valsD ds) = some ds := by
  induction ds with
  | nil => rfl
  | cons d ds ih =>
    show (allVal (valsD ds)).map (d :: ·) = _
    rw [ih]
    rfl
@[simp] theorem allVal_app {ds : List D} {r : List W} : allVal (valsD ds ++ r) = (allVal r).map (ds ++ ·) := by
  induction ds with
  | nil =>
    show allVal r = _
    cases allVal r <;> rfl
  | cons d ds ih =>
    show (allVal (valsD ds ++ r)).map (d :: ·) = _
    rw [ih]
    cases allVal r <;> rfl
@[simp] theorem eTup_app {ma : M (List W)} {s : S} : eTup ma s = runK (ma s) (k := ⟨fun ws => ofO ((allVal ws).bind fun ds => if ds.length ≤ sizeLine then some (.val (.tuple ds)) else none)⟩) := (rfl)
@[simp] theorem eLst_app {ma : M (List W)} {s : S} : eLst ma s = runK (ma s) (k := ⟨fun ws => ofO ((allVal ws).bind fun ds => if ds.length ≤ sizeLine then some (.own ds) else none)⟩) := (rfl)
@[simp] theorem eNew_app {ma : M (List W)} {s : S} : eNew ma s = runK (ma s) (k := ⟨fun ws => ofO ((allVal ws).bind fun ds => if ds.length ≤ sizeLine then some ds else none) >>= fun ds s => .ok (.ref s.st.length) { s with st := s.st ++ [ds] }⟩) := (rfl)
/-- calls -/
def outF (n : Nat) (s : S) (o : Out Store W) : Out S W := match o with
  | .fail => .fail
  | .ok w st => .ok w { s with st := st }
  | .err x st => .err x { s with st := st }
@[simp] theorem outF_ok {n : Nat} {env : List (Option W)} {st st' : Store} {w : W} : outF n ⟨env, st⟩ (.ok w st') = .ok w ⟨env, st'⟩ := (rfl)
@[simp] theorem outF_err {n : Nat} {env : List (Option W)} {st st' : Store} {x : Exc} : outF n ⟨env, st⟩ (.err x st') = .err x ⟨env, st'⟩ := (rfl)
@[simp] theorem eCallS_app {n : Nat} {f : Fn} {ma : M (List W)} {s : S} : eCallS n f ma s = runK (ma s) (k := ⟨fun ws => callS n f ws⟩) := (rfl)
@[simp] theorem callS_app {n : Nat} {f : Fn} {ws : List W} {env : List (Option W)} {st : Store} : callS n f ws ⟨env, st⟩ = if stAll ws = true then (if ws.length = n then outF n ⟨env, st⟩ (f ws st) else .fail) else .fail := by
  unfold callS callF outF
  split
  · rfl
  · rfl
@[simp] theorem stAll_nil : stAll [] = true := (rfl)
@[simp] theorem stAll_cons {w : W} {ws : List W} : stAll (w :: ws) = (stable w && stAll ws) := (rfl)
@[simp] theorem stable_val {d : D} : stable (.val d) = true := (rfl)
@[simp] theorem stable_ref {d : Nat} : stable (.ref d) = true := (rfl)
@[simp] theorem stable_fn {d : Str} : stable (.fn d) = true := (rfl)
@[simp] theorem stable_exc {d : Exc} : stable (.exc d) = true := (rfl)
@[simp] theorem stable_scr {d : List Int} : stable (.scr d) = true := (rfl)
@[simp] theorem eCallK_app {n : Nat} {f : Fn} {np nk : Nat} {is : List Nat} {ma mk : M (List W)} {s : S} : eCallK n f np nk is ma mk s = runK (ma s) (k := ⟨fun ws => mk >>= fun zs => if ws.length = np ∧ zs.length = nk then callS n f (permW is (ws ++ zs)) else M.fail⟩) := (rfl)
@[simp] theorem permW_nil {ws : List W} : permW [] ws = [] := (rfl)
theorem permW_cons {i : Nat} {is : List Nat} {ws : List W} {w : W} (h : ws[i]? = some w) : permW (i :: is) ws = w :: permW is ws := by
  unfold permW
  rw [List.filterMap_cons, h]
/-- the ends of a def -/
def outR (o : Out S SR) : Out Store W := match o with
  | .fail => .fail
  | .ok r s' => (match r with
    | .next => .ok (.val .none) s'.st
    | .ret w => .ok w s'.st
    | _ => .fail)
  | .err x s' => .err x s'.st
theorem fnOf_app {nN : Nat} {mb : M SR} {ws : List W} {st : Store} : fnOf nN mb ws st = outR (mb ⟨ws.map some ++ List.replicate (nN - ws.length) none, st⟩) := (rfl)
@[simp] theorem outR_ret {w : W} {env : List (Option W)} {st : Store} : outR (.ok (.ret w) ⟨env, st⟩) = .ok w st := (rfl)
@[simp] theorem outR_next {env : List (Option W)} {st : Store} : outR (.ok .next ⟨env, st⟩) = .ok (.val .none) st := (rfl)
@[simp] theorem outR_err {x : Exc} {env : List (Option W)} {st : Store} : outR (.err x ⟨env, st⟩) = .err x st := (rfl)
@[simp] theorem seq_app {m1 m2 : M SR} {s : S} : seq m1 m2 s = runK (m1 s) (k := ⟨fun r => match r with | .next => m2 | r => Pure.pure r⟩) := (rfl)
@[simp] theorem sNext_app {s : S} : sNext s = .ok .next s := (rfl)
@[simp] theorem sBrk_app {s : S} : sBrk s = .ok .brk s := (rfl)
@[simp] theorem sCont_app {s : S} : sCont s = .ok .cont s := (rfl)
@[simp] theorem sIf_app {c : M Bool} {m1 m2 : M SR} {s : S} : sIf c m1 m2 s = runK (c s) (k := ⟨fun b => if b = true then m1 else m2⟩) := (rfl)
@[simp] theorem sExpr_app {m : M W} {s : S} : sExpr m s = runK (m s) (k := ⟨fun _ => Pure.pure .next⟩) := (rfl)
@[simp] theorem sRet_app {m : M W} {s : S} : sRet m s = runK (m s) (k := ⟨retW⟩) := (rfl)
@[simp] theorem sRetN_app {s : S} : sRetN s = .ok (.ret (.val .none)) s := (rfl)
@[simp] theorem retW_val {d : D} {s : S} : retW (.val d) s = .ok (.ret (.val d)) s := (rfl)
@[simp] theorem retW_own {d : List D} {s : S} : retW (.own d) s = .ok (.ret (.own d)) s := (rfl)
@[simp] theorem retW_ref {d : Nat} {s : S} : retW (.ref d) s = .ok (.ret (.ref d)) s := (rfl)
@[simp] theorem retW_scr {d : List Int} {s : S} : retW (.scr d) s = .ok (.ret (.scr d)) s := (rfl)
@[simp] theorem retW_peek {i : Nat} {env : List (Option W)} {st : Store} : retW (.peek i) ⟨env, st⟩ = retSlot i ⟨env, st⟩ env[i]? := (rfl)
@[simp] theorem retSlot_val {i : Nat} {s : S} {d : D} : retSlot i s (some (some (.val d))) = .ok (.ret (.val d)) s := (rfl)
@[simp] theorem retSlot_own {i : Nat} {s : S} {d : List D} : retSlot i s (some (some (.own d))) = .ok (.ret (.own d)) (s.setEnv i none) := (rfl)
@[simp] theorem retSlot_ref {i : Nat} {s : S} {d : Nat} : retSlot i s (some (some (.ref d))) = .ok (.ret (.ref d)) s := (rfl)
@[simp] theorem retSlot_scr {i : Nat} {s : S} {d : List Int} : retSlot i s (some (some (.scr d))) = .ok (.ret (.scr d)) s := (rfl)
@[simp] theorem setW_app {i : Nat} {w : W} {env : List (Option W)} {st : Store} : setW i w ⟨env, st⟩ = if i < env.length then .ok () ⟨env.set i (some w), st⟩ else .fail := (rfl)
@[simp] theorem asgW_own {i : Nat} {ds : List D} : asgW i (.own ds) = setW i (.own ds) := (rfl)
@[simp] theorem asgW_val {i : Nat} {d : D} : asgW i (.val d) = (escW (.val d) >>= setW i) := (rfl)
@[simp] theorem asgW_ref {i : Nat} {d : Nat} : asgW i (.ref d) = (escW (.ref d) >>= setW i) := (rfl)
@[simp] theorem asgW_scr {i : Nat} {d : List Int} : asgW i (.scr d) = (escW (.scr d) >>= setW i) := (rfl)
@[simp] theorem asgW_peek {i : Nat} {d : Nat} : asgW i (.peek d) = (escW (.peek d) >>= setW i) := (rfl)
@[simp] theorem sAsg_app {i : Nat} {m : M W} {s : S} : sAsg i m s = runK (m s) (k := ⟨fun w => asgW i w >>= fun _ => Pure.pure .next⟩) := (rfl)
@[simp] theorem tName_app {i : Nat} {d : D} {env : List (Option W)} {st : Store} : tName i d ⟨env, st⟩ = if i < env.length then .ok () ⟨env.set i (some (.val d)), st⟩ else .fail := (rfl)
@[simp] theorem tNilG_nil : tNilG [] = Pure.pure () := (rfl)
@[simp] theorem tConsG_cons {g : D → M Unit} {r : List D → M Unit} {d : D} {ds : List D} : tConsG g r (d :: ds) = (g d >>= fun _ => r ds) := (rfl)
@[simp] theorem tTupG_tup {n : Nat} {r : List D → M Unit} {ds : List D} : tTupG n r (.tuple ds) = if ds.length = n then r ds else M.fail := (rfl)
@[simp] theorem tTupG_list {n : Nat} {r : List D → M Unit} {ds : List D} : tTupG n r (.list ds) = if ds.length = n then r ds else M.fail := (rfl)
@[simp] theorem toVal_val {d : D} {s : S} : toVal (.val d) s = .ok d s := (rfl)
@[simp] theorem toVal_own {d : List D} {s : S} : toVal (.own d) s = .ok (.list d) s := (rfl)
@[simp] theorem toVal_peek {i : Nat} {env : List (Option W)} {st : Store} : toVal (.peek i) ⟨env, st⟩ = runK (escSlot i ⟨env, st⟩ env[i]?) (k := ⟨fun w => match w with | .val d => Pure.pure d | _ => M.fail⟩) := (rfl)
@[simp] theorem sUnp_app {g : D → M Unit} {m : M W} {s : S} : sUnp g m s = runK (m s) (k := ⟨fun w => toVal w >>= fun d => g d >>= fun _ => Pure.pure .next⟩) := (rfl)
@[simp] theorem resW_own {d : List D} : resW (.own d) = Pure.pure (.own d) := (rfl)
@[simp] theorem resW_val {d : D} : resW (.val d) = escW (.val d) := (rfl)
@[simp] theorem resW_peek {d : Nat} : resW (.peek d) = escW (.peek d) := (rfl)
@[simp] theorem resW_ref {d : Nat} : resW (.ref d) = escW (.ref d) := (rfl)
@[simp] theorem hCons_app {m : M W} {r : M (List W)} {s : S} : hCons m r s = runK (m s) (k := ⟨fun a => resW a >>= fun w => r >>= fun ws => Pure.pure (w :: ws)⟩) := (rfl)
@[simp] theorem setAll_nil : setAll [] [] = Pure.pure () := (rfl)
@[simp] theorem setAll_cons {i : Nat} {is : List Nat} {w : W} {ws : List W} : setAll (i :: is) (w :: ws) = (setW i w >>= fun _ => setAll is ws) := (rfl)
@[simp] theorem sPar_app {is : List Nat} {ma : M (List W)} {s : S} : sPar is ma s = runK (ma s) (k := ⟨fun ws => setAll is ws >>= fun _ => Pure.pure .next⟩) := (rfl)
@[simp] theorem modL_ref {α : Type} {n : Nat} {f : List D → Option (List D × α)} {s : S} : modL (.ref n) f s = modSt n f s := (rfl)
@[simp] theorem modL_peek {α : Type} {i : Nat} {f : List D → Option (List D × α)} {env : List (Option W)} {st : Store} : modL (.peek i) f ⟨env, st⟩ = modSlot i f ⟨env, st⟩ env[i]? := (rfl)
@[simp] theorem modSlot_ref {α : Type} {i n : Nat} {f : List D → Option (List D × α)} {s : S} : modSlot i f s (some (some (.ref n))) = modSt n f s := (rfl)
def modOut {α : Type} (i : Nat) (s : S) : Option (List D × α) → Out S α
  | some (ds', b) => .ok b (s.setEnv i (some (.own ds')))
  | none => .fail
@[simp] theorem modOut_some {α : Type} {i : Nat} {s : S} {ds : List D} {b : α} : modOut i s (some (ds, b)) = .ok b (s.setEnv i (some (.own ds))) := (rfl)
@[simp] theorem modSlot_own {α : Type} {i : Nat} {f : List D → Option (List D × α)} {s : S} {ds : List D} : modSlot i f s (some (some (.own ds))) = modOut i s (f ds) := by
  show (match f ds with | some (ds', b) => Out.ok b (s.setEnv i (some (.own ds'))) | none => .fail) = modOut i s (f ds)
  cases f ds <;> rfl
theorem modSt_of {α : Type} {n : Nat} {f : List D → Option (List D × α)} {env : List (Option W)} {st : Store} {ds ds' : List D} {b : α} (h : st[n]? = some ds) (e : f ds = some (ds', b)) : modSt n f ⟨env, st⟩ = .ok b ⟨env, st.set n ds'⟩ := by
  unfold modSt
  show (match (st[n]?).bind f with | some (ds, b) => _ | none => _) = _
  rw [h]
  show (match f ds with | some (ds, b) => _ | none => _) = _
  rw [e]
@[simp] theorem lookL_app {w : W} {s : S} : lookL w s = runK (look w s) (k := ⟨fun d => match d with | .list _ => Pure.pure () | _ => M.fail⟩) := (rfl)
@[simp] theorem eAppend_app {mo me : M W} {s : S} : eAppend mo me s = runK (mo s) (k := ⟨fun w => lookL w >>= fun _ => me >>= fun x => toVal x >>= fun d => modL w (fun ds => if ds.length < sizeLine then some (ds ++ [d], ()) else none) >>= fun _ => Pure.pure (.val .none)⟩) := (rfl)
@[simp] theorem tSubG_app {mo mi : M W} {d : D} {s : S} : tSubG mo mi d s = runK (mo s) (k := ⟨fun w => mi >>= fun x => look x >>= fun k => modL w (fun ds => match k with | .int k => (ixN ds.length k).map fun j => (ds.set j d, ()) | _ => none)⟩) := (rfl)
/-- slices -/
@[simp] theorem pNone_app {s : S} : pNone s = .ok none s := (rfl)
@[simp] theorem pSome_app {m : M W} {s : S} : pSome m s = runK (m s) (k := ⟨fun a => look a >>= fun d => match d with | .int i => Pure.pure (some i) | _ => M.fail⟩) := (rfl)
@[simp] theorem eSl_app {m : M W} {l h : M (Option Int)} {s : S} : eSl m l h s = runK (m s) (k := ⟨fun a => l >>= fun lo => h >>= fun hi => look a >>= fun d => ofO (slD d lo hi)⟩) := (rfl)
/-- sources, loops -/
@[simp] theorem srcV_app {m : M W} {s : S} : srcV m s = runK (m s) (k := ⟨fun w => escW w >>= fun w => ofO (itemsD w)⟩) := (rfl)
@[simp] theorem srcA_app {f : List W → Option (List D)} {ma : M (List W)} {s : S} : srcA f ma s = runK (ma s) (k := ⟨fun ws => ofO (f ws)⟩) := (rfl)
@[simp] theorem itemsD_list {ds : List D} : itemsD (.val (.list ds)) = some ds := (rfl)
@[simp] theorem itemsD_tuple {ds : List D} : itemsD (.val (.tuple ds)) = some ds := (rfl)
@[simp] theorem itemsD_scr {ds : List Int} : itemsD (.scr ds) = some (ds.map .int) := (rfl)
@[simp] theorem sFor_app {src : M (List D)} {g : D → M Unit} {b : M SR} {s : S} : sFor src g b s = runK (src s) (k := ⟨(loopF g b)⟩) := (rfl)
def okO {α : Type} : Out S α → Out S α
  | .ok a s' => .ok a s'
  | _ => .fail
@[simp] theorem okO_ok {α : Type} {s : S} {a : α} : okO (.ok a s) = .ok a s := (rfl)
@[simp] theorem nE_app {α : Type} {m : M α} {s : S} : nE m s = okO (m s) := by
  unfold nE okO
  cases m s <;> rfl
@[simp] theorem wipeM_app {vs : List Nat} {env : List (Option W)} {st : Store} : wipeM vs ⟨env, st⟩ = .ok () ⟨wipeE env vs, st⟩ := (rfl)
@[simp] theorem wipeE_nil {env : List (Option W)} : wipeE env [] = env := (rfl)
@[simp] theorem wipeE_cons {env : List (Option W)} {v : Nat} {vs : List Nat} : wipeE env (v :: vs) = (wipeE env vs).set v none := (rfl)
@[simp] theorem cTrue_app {s : S} : cTrue s = .ok true s := (rfl)
@[simp] theorem wipe_mk {vs : List Nat} {env : List (Option W)} {st : Store} : S.wipe ⟨env, st⟩ vs = ⟨wipeE env vs, st⟩ := (rfl)
@[simp] theorem restE_nil {env o : List (Option W)} : restE env o [] = env := (rfl)
@[simp] theorem restE_cons {env o : List (Option W)} {v : Nat} {vs : List Nat} : restE env o (v :: vs) = (restE env o vs).set v ((o[v]?).getD none) := (rfl)
def notOwn : Option (Option W) → Bool
  | some (some (.own _)) => false
  | _ => true
@[simp] theorem notOwn_none : notOwn (some none) = true := (rfl)
@[simp] theorem notOwn_val {d : D} : notOwn (some (some (.val d))) = true := (rfl)
@[simp] theorem notOwn_ref {d : Nat} : notOwn (some (some (.ref d))) = true := (rfl)
@[simp] theorem notOwn_fn {d : Str} : notOwn (some (some (.fn d))) = true := (rfl)
@[simp] theorem notOwn_exc {d : Exc} : notOwn (some (some (.exc d))) = true := (rfl)
@[simp] theorem notOwn_scr {d : List Int} : notOwn (some (some (.scr d))) = true := (rfl)
@[simp] theorem ownFree_nil {s : S} : ownFree s [] = true := (rfl)
@[simp] theorem ownFree_cons {env : List (Option W)} {st : Store} {v : Nat} {vs : List Nat} : ownFree ⟨env, st⟩ (v :: vs) = (notOwn env[v]? && ownFree ⟨env, st⟩ vs) := by
  unfold ownFree notOwn
  rw [List.all_cons] <;> first | rfl | congr 1
def lcO (old : List (Option W)) (vs : List Nat) : Out S (List D) → Out S W
  | .ok r s' => .ok (.own r) ⟨restE s'.env old vs, s'.st⟩
  | _ => .fail
@[simp] theorem lcO_ok {old env : List (Option W)} {vs : List Nat} {r : List D} {st : Store} : lcO old vs (.ok r ⟨env, st⟩) = .ok (.own r) ⟨restE env old vs, st⟩ := (rfl)
@[simp] theorem lcM_app {vs : List Nat} {body : M (List D)} {env : List (Option W)} {st : Store} : lcM vs body ⟨env, st⟩ = if ownFree ⟨env, st⟩ vs = true then lcO env vs (body ⟨wipeE env vs, st⟩) else .fail := by
  unfold lcM lcO
  split
  · show (match body ⟨wipeE env vs, st⟩ with | .ok r s' => _ | _ => _) = _
    cases body ⟨wipeE env vs, st⟩ <;> rfl
  · rfl
@[simp] theorem eLc_app {vs : List Nat} {src : M (List D)} {g : D → M Unit} {c : M Bool} {e : M W} {s : S} : eLc vs src g c e s = runK (src s) (k := ⟨fun ds => lcM vs (compLoop vs g c e ds [])⟩) := (rfl)
@[simp] theorem eLc2_app {vs vs1 : List Nat} {src src1 : M (List D)} {g g1 : D → M Unit} {c c1 : M Bool} {e : M W} {s : S} : eLc2 vs vs1 src g c src1 g1 c1 e s = runK (src s) (k := ⟨fun ds => lcM vs (compLoop2 vs vs1 g c src1 g1 c1 e ds [])⟩) := (rfl)
theorem bind_inv {α β : Type} {m : M α} {k : α → M β} {s s2 : S} {b : β} (h : (m >>= k) s = .ok b s2) : ∃ a s1, m s = .ok a s1 ∧ k a s1 = .ok b s2 := by
  have h : runK (m s) (k := ⟨k⟩) = .ok b s2 := h
  cases q : m s with
  | fail => rw [q] at h; cases h
  | err x s1 => rw [q] at h; cases h
  | ok a s1 => rw [q] at h; exact ⟨a, s1, rfl, h⟩
theorem bind_of {α β : Type} {m : M α} {k : α → M β} {s s1 : S} {a : α} (h : m s = .ok a s1) : (m >>= k) s = k a s1 := by
  show runK (m s) (k := ⟨k⟩) = _
  rw [h]
  rfl
/-- one turn of a comprehension without a test -/
def turnF (vs : List Nat) (g : D → M Unit) (e : M W) (d : D) : M D := nE (g d) >>= fun _ => nE e >>= fun w => toVal w >>= fun y => wipeM vs >>= fun _ => Pure.pure y
@[simp] theorem turnF_app {vs : List Nat} {g : D → M Unit} {e : M W} {d : D} {s : S} : turnF vs g e d s = runK (okO (g d s)) (k := ⟨fun _ => nE e >>= fun w => toVal w >>= fun y => wipeM vs >>= fun _ => Pure.pure y⟩) := by
  show runK (nE (g d) s) (k := ⟨_⟩) = _
  rw [nE_app]
theorem compLoop_step {vs : List Nat} {g : D → M Unit} {e : M W} {d y : D} {ds acc : List D} {s s' : S} (h : turnF vs g e d s = .ok y s') (hl : acc.length < sizeLine) : compLoop vs g cTrue e (d :: ds) acc s = compLoop vs g cTrue e ds (acc ++ [y]) s' := by
  obtain ⟨_, s1, h1, h⟩ := bind_inv h
  obtain ⟨w, s2, h2, h⟩ := bind_inv h
  obtain ⟨y', s3, h3, h⟩ := bind_inv h
  obtain ⟨_, s4, h4, h⟩ := bind_inv h
  cases h
  show (nE (g d) >>= _) s = _
  rw [bind_of h1]
  show (nE cTrue >>= _) s1 = _
  rw [bind_of (m := nE cTrue) (a := true) (s1 := s1) rfl]
  show (ite (true = true) _ _ : M (List D)) s1 = _
  rw [if_pos rfl, bind_of h2, bind_of h3, if_pos hl, bind_of h4]
theorem compLoop_nil {vs : List Nat} {g : D → M Unit} {c : M Bool} {e : M W} {acc : List D} {s : S} : compLoop vs g c e [] acc s = .ok acc s := rfl
/-- nothing but the list comes of it -/
theorem compLoop_map {vs : List Nat} {g : D → M Unit} {e : M W} {s : S} (f : D → D) : ∀ (ds acc : List D), acc.length + ds.length ≤ sizeLine → (∀ d ∈ ds, turnF vs g e d s = .ok (f d) s) → compLoop vs g cTrue e ds acc s = .ok (acc ++ ds.map f) s
  | [], acc, _, _ => by rw [compLoop_nil]; simp
  | d :: ds, acc, hl, h => by
    have hl' : acc.length + (ds.length + 1) ≤ sizeLine := hl
    rw [compLoop_step (h d (List.mem_cons_self ..)) (by omega), compLoop_map f ds _ (by rw [List.length_append, List.length_singleton]; omega) fun x hx => h x (List.mem_cons_of_mem _ hx)]
    simp
/-- the state moves; each item that comes has a property -/
theorem compLoop_inv {vs : List Nat} {g : D → M Unit} {e : M W} {I : Nat → S → Prop} {R : D → Prop} : ∀ (ds acc : List D) (i : Nat) (s : S), acc.length + ds.length ≤ sizeLine → I i s → (∀ d ∈ ds, ∀ j s, j < i + ds.length → I j s → ∃ y s', turnF vs g e d s = .ok y s' ∧ I (j + 1) s' ∧ R y) →
    ∃ ys s', compLoop vs g cTrue e ds acc s = .ok (acc ++ ys) s' ∧ I (i + ds.length) s' ∧ ys.length = ds.length ∧ ∀ y ∈ ys, R y
  | [], acc, i, s, _, hi, _ => ⟨[], s, by rw [compLoop_nil]; simp, hi, rfl, by simp⟩
  | d :: ds, acc, i, s, hl, hi, h => by
    have hl' : acc.length + (ds.length + 1) ≤ sizeLine := hl
    have hlen : (d :: ds).length = ds.length + 1 := rfl
    obtain ⟨y, s1, e1, hi1, r⟩ := h d (List.mem_cons_self ..) i s (by omega) hi
    obtain ⟨ys, s', e2, hi2, e3, r2⟩ := compLoop_inv ds (acc ++ [y]) (i + 1) s1 (by rw [List.length_append, List.length_singleton]; omega) hi1 fun x hx j s hj => h x (List.mem_cons_of_mem _ hx) j s (by omega)
    refine ⟨y :: ys, s', ?_, ?_, ?_, ?_⟩
    · rw [compLoop_step e1 (by omega), e2]
      simp
    · have : i + 1 + ds.length = i + (ds.length + 1) := by omega
      rw [this] at hi2
      exact hi2
    · simp [e3]
    · intro z hz
      rcases List.mem_cons.mp hz with rfl | hz
      · exact r
      · exact r2 z hz
theorem loopF_nil {g : D → M Unit} {b : M SR} {s : S} : loopF g b [] s = .ok .next s := rfl
theorem loopF_step {g : D → M Unit} {b : M SR} {d : D} {ds : List D} {s s' : S} (h : (g d >>= fun _ => b) s = .ok .next s') : loopF g b (d :: ds) s = loopF g b ds s' := by
  obtain ⟨_, s1, h1, h2⟩ := bind_inv h
  show (g d >>= _) s = _
  rw [bind_of h1, bind_of h2]
theorem loopF_ret {g : D → M Unit} {b : M SR} {d : D} {ds : List D} {s s' : S} {w : W} (h : (g d >>= fun _ => b) s = .ok (.ret w) s') : loopF g b (d :: ds) s = .ok (.ret w) s' := by
  obtain ⟨_, s1, h1, h2⟩ := bind_inv h
  show (g d >>= _) s = _
  rw [bind_of h1, bind_of h2]
  rfl
/-- a loop with its invariant, no way out of it -/
theorem loopF_inv {g : D → M Unit} {b : M SR} {I : List D → S → Prop} : ∀ (ds : List D) (s : S), I ds s → (∀ d ds s, I (d :: ds) s → ∃ s', (g d >>= fun _ => b) s = .ok .next s' ∧ I ds s') → ∃ s', loopF g b ds s = .ok .next s' ∧ I [] s'
  | [], s, hi, _ => ⟨s, rfl, hi⟩
  | d :: ds, s, hi, h => by
    obtain ⟨s1, e1, hi1⟩ := h d ds s hi
    obtain ⟨s', e2, hi2⟩ := loopF_inv ds s1 hi1 h
    exact ⟨s', by rw [loopF_step e1, e2], hi2⟩
theorem compLoop_via {α : Type} {vs : List Nat} {g : D → M Unit} {e : M W} {s : S} (i j : α → D) : ∀ (xs : List α) (acc : List D), acc.length + xs.length ≤ sizeLine → (∀ x ∈ xs, turnF vs g e (i x) s = .ok (j x) s) → compLoop vs g cTrue e (xs.map i) acc s = .ok (acc ++ xs.map j) s
  | [], acc, _, _ => by rw [List.map_nil, compLoop_nil]; simp
  | d :: ds, acc, hl, h => by
    have hl' : acc.length + (ds.length + 1) ≤ sizeLine := hl
    rw [List.map_cons, compLoop_step (h d (List.mem_cons_self ..)) (by omega), compLoop_via i j ds _ (by rw [List.length_append, List.length_singleton]; omega) fun x hx => h x (List.mem_cons_of_mem _ hx)]
    simp
theorem pairs_map {α β : Type} (i : α → D) (j : β → D) : ∀ (xs : List α) (ys : List β), pairs (xs.map i) (ys.map j) = (xs.zip ys).map fun p => .tuple [i p.1, j p.2]
  | [], ys => by simp [pairs]
  | x :: xs, [] => by simp [pairs]
  | x :: xs, y :: ys => by simp [pairs, pairs_map i j xs ys]
theorem pairs_same {α : Type} (i j : α → D) : ∀ xs : List α, pairs (xs.map i) (xs.map j) = xs.map fun x => .tuple [i x, j x]
  | [] => rfl
  | x :: xs => by simp [pairs, pairs_same i j xs]
theorem compLoop_stepC {vs : List Nat} {g : D → M Unit} {c : M Bool} {e : M W} {d : D} {b : Bool} {ds acc : List D} {s s1 s2 : S} (h1 : g d s = .ok () s1) (h2 : c s1 = .ok b s2) :
    compLoop vs g c e (d :: ds) acc s = (if b = true then nE e >>= fun w => toVal w >>= fun y => if acc.length < sizeLine then wipeM vs >>= fun _ => compLoop vs g c e ds (acc ++ [y]) else M.fail else wipeM vs >>= fun _ => compLoop vs g c e ds acc) s2 := by
  show (nE (g d) >>= _) s = _
  have q1 : nE (g d) s = .ok () s1 := by rw [nE_app, h1]; rfl
  have q2 : nE c s1 = .ok b s2 := by rw [nE_app, h2]; rfl
  rw [bind_of q1, bind_of q2]
/-- with a test: those that pass it -/
theorem compLoop_filter {α : Type} {vs : List Nat} {g : D → M Unit} {c : M Bool} {e : M W} {s : S} (i j : α → D) (t : α → Bool) : ∀ (xs : List α) (acc : List D), acc.length + xs.length ≤ sizeLine →
    (∀ x ∈ xs, ∃ s1 s2, g (i x) s = .ok () s1 ∧ c s1 = .ok (t x) s2 ∧ s2.wipe vs = s ∧ (t x = true → (nE e >>= fun w => toVal w >>= fun y => wipeM vs >>= fun _ => Pure.pure y) s2 = .ok (j x) s)) →
    compLoop vs g c e (xs.map i) acc s = .ok (acc ++ (xs.filter t).map j) s
  | [], acc, _, _ => by rw [List.map_nil, compLoop_nil]; simp
  | x :: xs, acc, hl, h => by
    have hl' : acc.length + (xs.length + 1) ≤ sizeLine := hl
    obtain ⟨s1, s2, h1, h2, h3, h4⟩ := h x (List.mem_cons_self ..)
    rw [List.map_cons, compLoop_stepC h1 h2]
    cases q : t x with
    | false =>
      show (wipeM vs >>= _) s2 = _
      have q3 : wipeM vs s2 = .ok () s := by rw [← h3]; rfl
      rw [bind_of q3, compLoop_filter i j t xs acc (by omega) fun y hy => h y (List.mem_cons_of_mem _ hy), List.filter_cons_of_neg (by rw [q]; decide)]
    | true =>
      obtain ⟨w, s3, g1, g⟩ := bind_inv (h4 q)
      obtain ⟨y, s4, g2, g⟩ := bind_inv g
      obtain ⟨_, s5, g3, g⟩ := bind_inv g
      cases g
      show (nE e >>= _) s2 = _
      rw [bind_of g1, bind_of g2]
      show (ite (acc.length < sizeLine) _ _ : M (List D)) s4 = _
      rw [if_pos (by omega), bind_of g3, compLoop_filter i j t xs _ (by rw [List.length_append, List.length_singleton]; omega) fun y hy => h y (List.mem_cons_of_mem _ hy), List.filter_cons_of_pos (by rw [q])]
      simp
/-- each with its number -/
def idx {α : Type} : Nat → List α → List (Nat × α)
  | _, [] => []
  | k, x :: xs => (k, x) :: idx (k + 1) xs
theorem numbered_map {α : Type} (f : α → D) : ∀ (xs : List α) (k : Nat), numbered (k : Int) (xs.map f) = (idx k xs).map fun p => .tuple [.int (p.1 : Int), f p.2]
  | [], k => rfl
  | x :: xs, k => by
    have := numbered_map f xs (k + 1)
    rw [Int.natCast_add] at this
    simp only [List.map_cons, numbered, idx]
    rw [← this]
    rfl
theorem idx_length {α : Type} : ∀ (xs : List α) (k : Nat), (idx k xs).length = xs.length
  | [], _ => rfl
  | x :: xs, k => by simp [idx, idx_length xs]
theorem idx_mem {α : Type} {p : Nat × α} : ∀ {xs : List α} {k : Nat}, p ∈ idx k xs → ∃ i, p.1 = k + i ∧ xs[i]? = some p.2
  | [], k, h => by cases h
  | x :: xs, k, h => by
    rcases List.mem_cons.mp (show p ∈ (k, x) :: idx (k + 1) xs from h) with rfl | h
    · exact ⟨0, rfl, rfl⟩
    · obtain ⟨i, h1, h2⟩ := idx_mem h
      exact ⟨i + 1, by omega, by simpa using h2⟩
theorem idx_drop {α : Type} (i : Nat) : ∀ (xs : List α) (k : Nat), ((idx k xs).filter fun p => decide (p.1 ≠ k + i)).map (·.2) = xs.eraseIdx i
  | [], k => by simp [idx]
  | x :: xs, k => by
    have all : ∀ (xs : List α) (m : Nat), k < m → ((idx m xs).filter fun p => decide (p.1 ≠ k)).map (·.2) = xs := fun xs => by
      induction xs with
      | nil => intro m _; rfl
      | cons y ys ih =>
        intro m hm
        simp only [idx]
        rw [List.filter_cons_of_pos (by simp; omega), List.map_cons, ih (m + 1) (by omega)]
    cases i with
    | zero =>
      simp only [idx, Nat.add_zero]
      rw [List.filter_cons_of_neg (by simp), all xs (k + 1) (by omega)]
      rfl
    | succ i =>
      simp only [idx]
      rw [List.filter_cons_of_pos (by simp), List.map_cons]
      have := idx_drop i xs (k + 1)
      rw [show k + 1 + i = k + (i + 1) by omega] at this
      rw [this]
      rfl
end Z
/-! P, part 1: the built-ins on data of known kind. -/
namespace Z
open PySem PySem.Spec PyProof.Rows L2
theorem isi_of {T : String} {d : D} {b : Bool} (h : kitB (typeN d) T = some b) (hd : ∀ l, d ≠ .dict l) : isi1 T d = some (.val (.bool b)) := by
  cases d with
  | dict l => exact absurd rfl (hd l)
  | _ => simp only [isi1, h, Option.map_some]
theorem isiT_of {Ts : List String} {d : D} {b : Bool} (h : isiAny (typeN d) Ts = some b) (hd : ∀ l, d ≠ .dict l) : isiT Ts d = some (.val (.bool b)) := by
  cases d with
  | dict l => exact absurd rfl (hd l)
  | _ => simp only [isiT, h, Option.map_some]
@[simp] theorem isi_int_int {i : Int} : isi1 "int" (.int i) = some (.val (.bool true)) := isi_of (show kitB "int" "int" = some true from by decide +kernel) (by intro l h; cases h)
@[simp] theorem isi_int_bool {b : Bool} : isi1 "int" (.bool b) = some (.val (.bool true)) := isi_of (show kitB "bool" "int" = some true from by decide +kernel) (by intro l h; cases h)
@[simp] theorem isi_int_tuple {ds : List D} : isi1 "int" (.tuple ds) = some (.val (.bool false)) := isi_of (show kitB "tuple" "int" = some false from by decide +kernel) (by intro l h; cases h)
@[simp] theorem isi_int_list {ds : List D} : isi1 "int" (.list ds) = some (.val (.bool false)) := isi_of (show kitB "list" "int" = some false from by decide +kernel) (by intro l h; cases h)
@[simp] theorem isi_int_str {x : Str} : isi1 "int" (.str x) = some (.val (.bool false)) := isi_of (show kitB "str" "int" = some false from by decide +kernel) (by intro l h; cases h)
@[simp] theorem isi_int_NoneType  : isi1 "int" .none = some (.val (.bool false)) := isi_of (show kitB "NoneType" "int" = some false from by decide +kernel) (by intro l h; cases h)
@[simp] theorem isi_bool_int {i : Int} : isi1 "bool" (.int i) = some (.val (.bool false)) := isi_of (show kitB "int" "bool" = some false from by decide +kernel) (by intro l h; cases h)
@[simp] theorem isi_bool_bool {b : Bool} : isi1 "bool" (.bool b) = some (.val (.bool true)) := isi_of (show kitB "bool" "bool" = some true from by decide +kernel) (by intro l h; cases h)
@[simp] theorem isi_bool_tuple {ds : List D} : isi1 "bool" (.tuple ds) = some (.val (.bool false)) := isi_of (show kitB "tuple" "bool" = some false from by decide +kernel) (by intro l h; cases h)
@[simp] theorem isi_bool_list {ds : List D} : isi1 "bool" (.list ds) = some (.val (.bool false)) := isi_of (show kitB "list" "bool" = some false from by decide +kernel) (by intro l h; cases h)
@[simp] theorem isi_bool_str {x : Str} : isi1 "bool" (.str x) = some (.val (.bool false)) := isi_of (show kitB "str" "bool" = some false from by decide +kernel) (by intro l h; cases h)
@[simp] theorem isi_bool_NoneType  : isi1 "bool" .none = some (.val (.bool false)) := isi_of (show kitB "NoneType" "bool" = some false from by decide +kernel) (by intro l h; cases h)
@[simp] theorem isi_tuple_int {i : Int} : isi1 "tuple" (.int i) = some (.val (.bool false)) := isi_of (show kitB "int" "tuple" = some false from by decide +kernel) (by intro l h; cases h)
@[simp] theorem isi_tuple_bool {b : Bool} : isi1 "tuple" (.bool b) = some (.val (.bool false)) := isi_of (show kitB "bool" "tuple" = some false from by decide +kernel) (by intro l h; cases h)
@[simp] theorem isi_tuple_tuple {ds : List D} : isi1 "tuple" (.tuple ds) = some (.val (.bool true)) := isi_of (show kitB "tuple" "tuple" = some true from by decide +kernel) (by intro l h; cases h)
@[simp] theorem isi_tuple_list {ds : List D} : isi1 "tuple" (.list ds) = some (.val (.bool false)) := isi_of (show kitB "list" "tuple" = some false from by decide +kernel) (by intro l h; cases h)
@[simp] theorem isi_tuple_str {x : Str} : isi1 "tuple" (.str x) = some (.val (.bool false)) := isi_of (show kitB "str" "tuple" = some false from by decide +kernel) (by intro l h; cases h)
@[simp] theorem isi_tuple_NoneType  : isi1 "tuple" .none = some (.val (.bool false)) := isi_of (show kitB "NoneType" "tuple" = some false from by decide +kernel) (by intro l h; cases h)
@[simp] theorem isi_list_int {i : Int} : isi1 "list" (.int i) = some (.val (.bool false)) := isi_of (show kitB "int" "list" = some false from by decide +kernel) (by intro l h; cases h)
@[simp] theorem isi_list_bool {b : Bool} : isi1 "list" (.bool b) = some (.val (.bool false)) := isi_of (show kitB "bool" "list" = some false from by decide +kernel) (by intro l h; cases h)
@[simp] theorem isi_list_tuple {ds : List D} : isi1 "list" (.tuple ds) = some (.val (.bool false)) := isi_of (show kitB "tuple" "list" = some false from by decide +kernel) (by intro l h; cases h)
@[simp] theorem isi_list_list {ds : List D} : isi1 "list" (.list ds) = some (.val (.bool true)) := isi_of (show kitB "list" "list" = some true from by decide +kernel) (by intro l h; cases h)
@[simp] theorem isi_list_str {x : Str} : isi1 "list" (.str x) = some (.val (.bool false)) := isi_of (show kitB "str" "list" = some false from by decide +kernel) (by intro l h; cases h)
@[simp] theorem isi_list_NoneType  : isi1 "list" .none = some (.val (.bool false)) := isi_of (show kitB "NoneType" "list" = some false from by decide +kernel) (by intro l h; cases h)
@[simp] theorem isi_str_int {i : Int} : isi1 "str" (.int i) = some (.val (.bool false)) := isi_of (show kitB "int" "str" = some false from by decide +kernel) (by intro l h; cases h)
@[simp] theorem isi_str_bool {b : Bool} : isi1 "str" (.bool b) = some (.val (.bool false)) := isi_of (show kitB "bool" "str" = some false from by decide +kernel) (by intro l h; cases h)
@[simp] theorem isi_str_tuple {ds : List D} : isi1 "str" (.tuple ds) = some (.val (.bool false)) := isi_of (show kitB "tuple" "str" = some false from by decide +kernel) (by intro l h; cases h)
@[simp] theorem isi_str_list {ds : List D} : isi1 "str" (.list ds) = some (.val (.bool false)) := isi_of (show kitB "list" "str" = some false from by decide +kernel) (by intro l h; cases h)
@[simp] theorem isi_str_str {x : Str} : isi1 "str" (.str x) = some (.val (.bool true)) := isi_of (show kitB "str" "str" = some true from by decide +kernel) (by intro l h; cases h)
@[simp] theorem isi_str_NoneType  : isi1 "str" .none = some (.val (.bool false)) := isi_of (show kitB "NoneType" "str" = some false from by decide +kernel) (by intro l h; cases h)
@[simp] theorem isi_dict_int {i : Int} : isi1 "dict" (.int i) = some (.val (.bool false)) := isi_of (show kitB "int" "dict" = some false from by decide +kernel) (by intro l h; cases h)
@[simp] theorem isi_dict_bool {b : Bool} : isi1 "dict" (.bool b) = some (.val (.bool false)) := isi_of (show kitB "bool" "dict" = some false from by decide +kernel) (by intro l h; cases h)
@[simp] theorem isi_dict_tuple {ds : List D} : isi1 "dict" (.tuple ds) = some (.val (.bool false)) := isi_of (show kitB "tuple" "dict" = some false from by decide +kernel) (by intro l h; cases h)
@[simp] theorem isi_dict_list {ds : List D} : isi1 "dict" (.list ds) = some (.val (.bool false)) := isi_of (show kitB "list" "dict" = some false from by decide +kernel) (by intro l h; cases h)
@[simp] theorem isi_dict_str {x : Str} : isi1 "dict" (.str x) = some (.val (.bool false)) := isi_of (show kitB "str" "dict" = some false from by decide +kernel) (by intro l h; cases h)
@[simp] theorem isi_dict_NoneType  : isi1 "dict" .none = some (.val (.bool false)) := isi_of (show kitB "NoneType" "dict" = some false from by decide +kernel) (by intro l h; cases h)
@[simp] theorem isiT_tl_int {i : Int} : isiT ["tuple", "list"] (.int i) = some (.val (.bool false)) := isiT_of (show isiAny "int" ["tuple", "list"] = some false from by decide +kernel) (by intro l h; cases h)
@[simp] theorem isiT_tl_bool {b : Bool} : isiT ["tuple", "list"] (.bool b) = some (.val (.bool false)) := isiT_of (show isiAny "bool" ["tuple", "list"] = some false from by decide +kernel) (by intro l h; cases h)
@[simp] theorem isiT_tl_tuple {ds : List D} : isiT ["tuple", "list"] (.tuple ds) = some (.val (.bool true)) := isiT_of (show isiAny "tuple" ["tuple", "list"] = some true from by decide +kernel) (by intro l h; cases h)
@[simp] theorem isiT_tl_list {ds : List D} : isiT ["tuple", "list"] (.list ds) = some (.val (.bool true)) := isiT_of (show isiAny "list" ["tuple", "list"] = some true from by decide +kernel) (by intro l h; cases h)
@[simp] theorem isiT_tl_str {x : Str} : isiT ["tuple", "list"] (.str x) = some (.val (.bool false)) := isiT_of (show isiAny "str" ["tuple", "list"] = some false from by decide +kernel) (by intro l h; cases h)
@[simp] theorem isiT_tl_NoneType  : isiT ["tuple", "list"] .none = some (.val (.bool false)) := isiT_of (show isiAny "NoneType" ["tuple", "list"] = some false from by decide +kernel) (by intro l h; cases h)
@[simp] theorem truthD_bool {b : Bool} : truthD (.bool b) = some b := (rfl)
@[simp] theorem truthD_none : truthD .none = some false := (rfl)
@[simp] theorem truthD_int {b : Int} : truthD (.int b) = some (b != 0) := (rfl)
@[simp] theorem truthD_list {b : List D} : truthD (.list b) = some (!b.isEmpty) := (rfl)
@[simp] theorem truthD_tuple {b : List D} : truthD (.tuple b) = some (!b.isEmpty) := (rfl)
@[simp] theorem ltD_int {i j : Int} : ltD (.int i) (.int j) = some (decide (i < j)) := (rfl)
@[simp] theorem leD_int {i j : Int} : leD (.int i) (.int j) = some (decide (i ≤ j)) := (rfl)
@[simp] theorem gtD_int {i j : Int} : gtD (.int i) (.int j) = some (decide (j < i)) := (rfl)
@[simp] theorem geD_int {i j : Int} : geD (.int i) (.int j) = some (decide (j ≤ i)) := (rfl)
@[simp] theorem shaped_int {i : Int} : okD (.int i) = true := by simp [okD, SeqAt.shaped, PyData.canLay0, PyData.depth, PyData.hasDict]
@[simp] theorem shaped_none : okD .none = true := by simp [okD, SeqAt.shaped, PyData.canLay0, PyData.depth, PyData.hasDict]
@[simp] theorem shaped_bool {i : Bool} : okD (.bool i) = true := by simp [okD, SeqAt.shaped, PyData.canLay0, PyData.depth, PyData.hasDict]
@[simp] theorem eqv_int {i j : Int} : PyData.eqv (.int i) (.int j) = decide (i = j) := by
  simp only [PyData.eqv]
  exact Bool.eq_iff_iff.mpr (by simp)
@[simp] theorem eqD_int {i j : Int} : eqD (.int i) (.int j) = some (decide (i = j)) := by
  simp [eqD]
@[simp] theorem neD_int {i j : Int} : neD (.int i) (.int j) = some (!decide (i = j)) := by
  simp [neD]
@[simp] theorem isD_none {d : D} : isD d .none = some (match d with | .none => true | _ => false) := by
  cases d <;> rfl
@[simp] theorem isNotD_none {d : D} : isNotD d .none = some (match d with | .none => false | _ => true) := by
  cases d <;> rfl
@[simp] theorem addD_int {i j : Int} : addD (.int i) (.int j) = some (.val (.int (i + j))) := (rfl)
@[simp] theorem subD_int {i j : Int} : subD (.int i) (.int j) = some (.val (.int (i - j))) := (rfl)
@[simp] theorem addD_tup {a b : List D} : addD (.tuple a) (.tuple b) = if a.length + b.length ≤ sizeLine then some (.val (.tuple (a ++ b))) else none := (rfl)
@[simp] theorem addD_list {a b : List D} : addD (.list a) (.list b) = if a.length + b.length ≤ sizeLine then some (.own (a ++ b)) else none := (rfl)
/-- a whole number of not too many bits -/
def Sz (i : Int) : Prop := i.natAbs < 2 ^ 8000
theorem Sz.log (h : Sz i) : i.natAbs.log2 < 8001 := by
  by_cases h0 : i.natAbs = 0
  · rw [h0]; decide
  · exact Nat.lt_succ_of_lt ((Nat.log2_lt h0).mpr h)
theorem mulD_bits {i j : Int} {a b : Nat} (h : i.natAbs < 2 ^ a) (g : j.natAbs < 2 ^ b) (l : a + b ≤ 134217728) : mulD (.int i) (.int j) = some (.val (.int (i * j))) :=
  if_pos (mulx_ok h g l)
theorem mulD_sz {i j : Int} (h : Sz i) (g : Sz j) : mulD (.int i) (.int j) = some (.val (.int (i * j))) := mulD_bits h g (by decide)
theorem fdivD_sz {i j : Int} (h : j ≠ 0) (g : Sz j) : fdivD (.int i) (.int j) = some (.val (.int (i.fdiv j))) := by
  have h2 := g.log
  exact if_pos ⟨h, by omega⟩
@[simp] theorem modD_int {i j : Int} : modD (.int i) (.int j) = if j ≠ 0 then some (.val (.int (i.fmod j))) else none := (rfl)
@[simp] theorem lenD_list {ds : List D} : lenD (.list ds) = some (.val (.int ds.length)) := (rfl)
@[simp] theorem lenD_tuple {ds : List D} : lenD (.tuple ds) = some (.val (.int ds.length)) := (rfl)
@[simp] theorem absD_int {i : Int} : absD (.int i) = some (.val (.int (if i < 0 then -i else i))) := (rfl)
@[simp] theorem intD_int {i : Int} : intD (.int i) = some (.val (.int i)) := (rfl)
@[simp] theorem intD_bool {i : Bool} : intD (.bool i) = some (.val (.int (if i then 1 else 0))) := (rfl)
@[simp] theorem gcdD_int {i j : Int} : gcdD (.int i) (.int j) = some (.val (.int (Nat.gcd i.natAbs j.natAbs : Nat))) := (rfl)
@[simp] theorem tupleD_list {ds : List D} : tupleD (.list ds) = some (.val (.tuple ds)) := (rfl)
@[simp] theorem tupleD_tuple {ds : List D} : tupleD (.tuple ds) = some (.val (.tuple ds)) := (rfl)
@[simp] theorem listD_list {ds : List D} : listD (.list ds) = some (.own ds) := (rfl)
@[simp] theorem listD_tuple {ds : List D} : listD (.tuple ds) = some (.own ds) := (rfl)
@[simp] theorem max2D_int {i j : Int} : max2D (.int i) (.int j) = some (.val (.int (if j > i then j else i))) := (rfl)
@[simp] theorem min2D_int {i j : Int} : min2D (.int i) (.int j) = some (.val (.int (if j < i then j else i))) := (rfl)
theorem ixD_tup {ds : List D} {i : Int} {d : D} (h : atI ds i = some d) : ixD (.tuple ds) (.int i) = some (.val d) := by
  show (atI ds i).map W.val = _
  rw [h]
  rfl
theorem ixD_list {ds : List D} {i : Int} {d : D} (h : atI ds i = some d) : ixD (.list ds) (.int i) = some (.val d) := by
  show (atI ds i).map W.val = _
  rw [h]
  rfl
theorem atI_of {α : Type} {ds : List α} {n : Nat} {d : α} (h : ds[n]? = some d) : atI ds (n : Int) = some d := atI_nat h
@[simp] theorem ixD_0 {d : D} {ds : List D} : ixD (.tuple (d :: ds)) (.int 0) = some (.val d) := ixD_tup (atI_nat (j := 0) rfl)
@[simp] theorem ixD_1 {d e : D} {ds : List D} : ixD (.tuple (e :: d :: ds)) (.int 1) = some (.val d) := ixD_tup (atI_nat (j := 1) rfl)
@[simp] theorem ixD_2 {a d e : D} {ds : List D} : ixD (.tuple (a :: e :: d :: ds)) (.int 2) = some (.val d) := ixD_tup (atI_nat (j := 2) rfl)
@[simp] theorem ixL_0 {d : D} {ds : List D} : ixD (.list (d :: ds)) (.int 0) = some (.val d) := ixD_list (atI_nat (j := 0) rfl)
@[simp] theorem ixL_1 {d e : D} {ds : List D} : ixD (.list (e :: d :: ds)) (.int 1) = some (.val d) := ixD_list (atI_nat (j := 1) rfl)
@[simp] theorem ixL_2 {a d e : D} {ds : List D} : ixD (.list (a :: e :: d :: ds)) (.int 2) = some (.val d) := ixD_list (atI_nat (j := 2) rfl)
theorem sizeLine_big : 1000000 ≤ sizeLine := by rw [sizeLine_eq]; decide
theorem divmodD_int {i j : Int} (h : 0 < j) (g : j < 1073741824) : divmodD (.int i) (.int j) = some (.val (.tuple [.int (i / j), .int (i % j)])) := if_pos ⟨h, g⟩
end Z
/-! P, part 2: fractions as pairs of whole numbers. -/
namespace Z
open PySem PySem.Spec PyProof.Rows L2

def frac (q : Rat) : D := .tuple [.int q.num, .int q.den]
/-- of at most L bits above and below -/
structure Ht (L : Nat) (q : Rat) : Prop where
  num : q.num.natAbs < 2 ^ L
  den : q.den < 2 ^ L
theorem Ht.mono {L M : Nat} {q : Rat} (h : Ht L q) (l : L ≤ M) : Ht M q :=
  ⟨Nat.lt_of_lt_of_le h.num (Nat.pow_le_pow_right (by decide) l), Nat.lt_of_lt_of_le h.den (Nat.pow_le_pow_right (by decide) l)⟩
theorem divInt_pos {a : Int} {b : Nat} (hb : b ≠ 0) : (Rat.divInt a b).num = a / (Nat.gcd a.natAbs b : Nat) ∧ (Rat.divInt a b).den = b / Nat.gcd a.natAbs b := by
  rw [Rat.divInt_ofNat, Rat.mkRat_def, dif_neg hb, Rat.normalize_eq]
  exact ⟨rfl, rfl⟩
theorem Ht.divInt {L : Nat} {a : Int} {b : Nat} (hb : b ≠ 0) (h1 : a.natAbs < 2 ^ L) (h2 : b < 2 ^ L) : Ht L (Rat.divInt a b) := by
  obtain ⟨e1, e2⟩ := divInt_pos (a := a) hb
  refine ⟨?_, ?_⟩
  · rw [e1]
    refine Nat.lt_of_le_of_lt ?_ h1
    exact Int.natAbs_ediv_le_natAbs _ _
  · rw [e2]
    exact Nat.lt_of_le_of_lt (Nat.div_le_self _ _) h2
theorem pow_mul_lt {a b L M : Nat} (h1 : a < 2 ^ L) (h2 : b < 2 ^ M) : a * b < 2 ^ (L + M) := by
  rw [Nat.pow_add]
  exact Nat.mul_lt_mul'' h1 h2
theorem add_eq (p q : Rat) : p + q = Rat.divInt (p.num * q.den + q.num * p.den) ((p.den * q.den : Nat) : Int) := by
  conv => lhs; rw [← Rat.num_divInt_den p, ← Rat.num_divInt_den q]
  rw [Rat.divInt_add_divInt _ _ (by exact_mod_cast p.den_nz) (by exact_mod_cast q.den_nz)]
  congr 1
theorem sub_eq (p q : Rat) : p - q = Rat.divInt (p.num * q.den - q.num * p.den) ((p.den * q.den : Nat) : Int) := by
  conv => lhs; rw [← Rat.num_divInt_den p, ← Rat.num_divInt_den q]
  rw [Rat.divInt_sub_divInt _ _ (by exact_mod_cast p.den_nz) (by exact_mod_cast q.den_nz)]
  congr 1
theorem mul_eq (p q : Rat) : p * q = Rat.divInt (p.num * q.num) ((p.den * q.den : Nat) : Int) := by
  conv => lhs; rw [← Rat.num_divInt_den p, ← Rat.num_divInt_den q]
  rw [Rat.divInt_mul_divInt]
  congr 1
theorem div_eq (p q : Rat) : p / q = Rat.divInt (p.num * q.den) (p.den * q.num) := by
  conv => lhs; rw [← Rat.num_divInt_den p, ← Rat.num_divInt_den q]
  rw [Rat.div_def, Rat.inv_divInt, Rat.divInt_mul_divInt]
theorem mul_nz (p q : Rat) : p.den * q.den ≠ 0 := Nat.mul_ne_zero p.den_nz q.den_nz
theorem ht_add {L M : Nat} {p q : Rat} (h : Ht L p) (g : Ht M q) : Ht (L + M + 1) (p + q) := by
  rw [add_eq]
  have h1 := pow_mul_lt h.num g.den
  have h2 := pow_mul_lt g.num h.den
  have h3 := pow_mul_lt h.den g.den
  rw [Nat.add_comm M L] at h2
  refine Ht.divInt (mul_nz p q) ?_ ?_
  · refine Nat.lt_of_le_of_lt (Int.natAbs_add_le _ _) ?_
    rw [Int.natAbs_mul, Int.natAbs_mul, Int.natAbs_natCast, Int.natAbs_natCast, Nat.pow_succ]
    omega
  · rw [Nat.pow_succ]; omega
theorem ht_sub {L M : Nat} {p q : Rat} (h : Ht L p) (g : Ht M q) : Ht (L + M + 1) (p - q) := by
  rw [sub_eq]
  have h1 := pow_mul_lt h.num g.den
  have h2 := pow_mul_lt g.num h.den
  have h3 := pow_mul_lt h.den g.den
  rw [Nat.add_comm M L] at h2
  refine Ht.divInt (mul_nz p q) ?_ ?_
  · refine Nat.lt_of_le_of_lt (Int.natAbs_sub_le _ _) ?_
    rw [Int.natAbs_mul, Int.natAbs_mul, Int.natAbs_natCast, Int.natAbs_natCast, Nat.pow_succ]
    omega
  · rw [Nat.pow_succ]; omega
theorem ht_mul {L M : Nat} {p q : Rat} (h : Ht L p) (g : Ht M q) : Ht (L + M) (p * q) := by
  rw [mul_eq]
  refine Ht.divInt (mul_nz p q) ?_ (pow_mul_lt h.den g.den)
  rw [Int.natAbs_mul]
  exact pow_mul_lt h.num g.num
theorem divInt_sign {a b : Int} (hb : b ≠ 0) : Rat.divInt a b = Rat.divInt (a * b.sign) (b.natAbs : Nat) := by
  rcases Int.lt_or_lt_of_ne hb with h | h
  · rw [Int.sign_eq_neg_one_of_neg h]
    have : ((b.natAbs : Nat) : Int) = -b := by omega
    rw [this, Int.mul_neg_one, Rat.neg_divInt_neg]
  · rw [Int.sign_eq_one_of_pos h]
    have : ((b.natAbs : Nat) : Int) = b := by omega
    rw [this, Int.mul_one]
theorem Ht.divInt' {L : Nat} {a b : Int} (hb : b ≠ 0) (h1 : a.natAbs < 2 ^ L) (h2 : b.natAbs < 2 ^ L) : Ht L (Rat.divInt a b) := by
  rw [divInt_sign hb]
  refine Ht.divInt (by omega) ?_ h2
  rw [Int.natAbs_mul, Int.natAbs_sign_of_ne_zero hb, Nat.mul_one]
  exact h1
theorem num_nz {q : Rat} (h : q ≠ 0) : q.num ≠ 0 := fun z => h (Rat.num_eq_zero.mp z)
theorem ht_div {L M : Nat} {p q : Rat} (h : Ht L p) (g : Ht M q) (nz : q ≠ 0) : Ht (L + M) (p / q) := by
  rw [div_eq]
  refine Ht.divInt' (Int.mul_ne_zero (by exact_mod_cast p.den_nz) (num_nz nz)) ?_ ?_
  · rw [Int.natAbs_mul, Int.natAbs_natCast]; exact pow_mul_lt h.num g.den
  · rw [Int.natAbs_mul, Int.natAbs_natCast]; exact pow_mul_lt h.den g.num
theorem sz_of {L : Nat} {i : Int} (h : i.natAbs < 2 ^ L) (l : L ≤ 8000) : Sz i := Nat.lt_of_lt_of_le h (Nat.pow_le_pow_right (by decide) l)
theorem Ht.szn {L : Nat} {q : Rat} (h : Ht L q) (l : L ≤ 8000 := by omega) : Sz q.num := sz_of h.num l
theorem Ht.szd {L : Nat} {q : Rat} (h : Ht L q) (l : L ≤ 8000 := by omega) : Sz (q.den : Int) := by
  have := h.den
  exact sz_of (L := L) (by rw [Int.natAbs_natCast]; exact this) l
theorem frac_inj {p q : Rat} (h : frac p = frac q) : p = q := by
  unfold frac at h
  injection h with h
  injection h with h1 h2
  injection h1 with h1
  injection h2 with h2 _
  injection h2 with h2
  exact Rat.ext h1 (by exact_mod_cast h2)
@[simp] theorem ix_num {q : Rat} : ixD (frac q) (.int 0) = some (.val (.int q.num)) := ixD_0
@[simp] theorem ix_den {q : Rat} : ixD (frac q) (.int 1) = some (.val (.int q.den)) := ixD_1
theorem den_pos' {q : Rat} : (0 : Int) < q.den := by exact_mod_cast q.den_pos
theorem den_nz' {q : Rat} : (q.den : Int) ≠ 0 := by exact_mod_cast q.den_nz
@[simp] theorem shaped_frac {q : Rat} : okD (frac q) = true := by simp [frac, okD, SeqAt.shaped, PyData.canLay0, PyData.canLayAll0, PyData.depth, PyData.depthAll, PyData.hasDict, PyData.hasDictAll]
@[simp] theorem eqv_frac {p q : Rat} : PyData.eqv (frac p) (frac q) = decide (p = q) := by
  show PyData.eqv (.tuple [.int p.num, .int p.den]) (.tuple [.int q.num, .int q.den]) = _
  simp only [PyData.eqv, PyData.eqvAll]
  refine Bool.eq_iff_iff.mpr ?_
  simp only [Bool.and_eq_true, beq_iff_eq, decide_eq_true_eq, Bool.true_eq, and_true]
  constructor
  · rintro ⟨h1, h2⟩
    exact Rat.ext h1 (by exact_mod_cast h2)
  · rintro rfl
    exact ⟨rfl, rfl⟩
@[simp] theorem eqD_frac {p q : Rat} : eqD (frac p) (frac q) = some (decide (p = q)) := by simp [eqD]
@[simp] theorem neD_frac {p q : Rat} : neD (frac p) (frac q) = some (!decide (p = q)) := by simp [neD]
theorem gcd_red (q : Rat) : Nat.gcd q.num.natAbs q.den = 1 := q.reduced
/-- normalising by the greatest common part -/
theorem frac_gcd {a : Int} {b : Nat} (hb : b ≠ 0) : PyData.tuple [.int (a.fdiv (Nat.gcd a.natAbs b : Nat)), .int ((b : Int).fdiv (Nat.gcd a.natAbs b : Nat))] = frac (Rat.divInt a b) := by
  obtain ⟨e1, e2⟩ := divInt_pos (a := a) hb
  unfold frac
  rw [e1, e2, Int.fdiv_eq_ediv_of_nonneg _ (by omega), Int.fdiv_eq_ediv_of_nonneg _ (by omega)]
  rfl
theorem le_of_num {p q : Rat} : (q.num * p.den < p.num * q.den) = (q < p) := propext (Rat.lt_iff q p).symm
end Z
/-! P, part 3: of all laws. -/
namespace Z
open PySem PySem.Spec PyProof.Rows L2
theorem whileF_succ {c : M Bool} {b : M SR} {n : Nat} {s : S} : whileF c b (n + 1) s = runK (c s) (k := ⟨fun t => if t = true then b >>= fun r => (match r with
    | .next => whileF c b n
    | .cont => whileF c b n
    | .brk => Pure.pure .next
    | .ret w => Pure.pure (.ret w)) else Pure.pure .next⟩) := rfl
def HtA (H : Nat) (rs : List Rat) : Prop := ∀ r ∈ rs, Ht H r
def tot (rs : List Rat) : Rat := rs.foldl (· + ·) 0
theorem foldl_add (rs : List Rat) (z : Rat) : rs.foldl (· + ·) z = z + tot rs := by
  induction rs generalizing z with
  | nil => simp [tot, Rat.add_zero]
  | cons r rs ih =>
    have e1 : (r :: rs).foldl (· + ·) z = rs.foldl (· + ·) (z + r) := rfl
    have e2 : tot (r :: rs) = rs.foldl (· + ·) (0 + r) := rfl
    rw [e1, e2, ih, ih]
    grind
@[simp] theorem tot_nil : tot [] = 0 := rfl
@[simp] theorem tot_cons {r : Rat} {rs : List Rat} : tot (r :: rs) = r + tot rs := by
  show rs.foldl (· + ·) (0 + r) = _
  rw [foldl_add]
  grind
theorem ht_zero : Ht 1 0 := ⟨by decide, by decide⟩
theorem ht_one : Ht 1 1 := ⟨by decide, by decide⟩
theorem bools_true {α : Type} (xs : List α) : boolsOf (xs.map fun _ => PyData.bool true) = some (xs.map fun _ => true) := by
  induction xs with
  | nil => rfl
  | cons x xs ih =>
    show (boolsOf (xs.map fun _ => PyData.bool true)).map (true :: ·) = _
    rw [ih]
    rfl
theorem all_true {α : Type} (xs : List α) : allD (.list (xs.map fun _ => PyData.bool true)) = some (.val (.bool true)) := by
  show (boolsOf (xs.map fun _ => PyData.bool true)).map _ = _
  rw [bools_true]
  simp
theorem frac_nat (n : Nat) : frac (n : Rat) = .tuple [.int n, .int 1] := rfl
theorem ht_nat {L n : Nat} (h : n < 2 ^ L) (hL : 1 ≤ L) : Ht L (n : Rat) := ⟨h, by
  have : (2 : Nat) ^ 1 ≤ 2 ^ L := Nat.pow_le_pow_right (by decide) hL
  show 1 < 2 ^ L
  omega⟩
theorem nat_nz {n : Nat} (h : n ≠ 0) : (n : Rat) ≠ 0 := fun z => h (by exact_mod_cast z)
theorem cut_to {α : Type} (xs : List α) {k : Nat} (h : k ≤ xs.length) : cutL xs none (some (k : Int)) = xs.take k := by
  unfold cutL
  rw [HT.sIx_none, HT.sIx_nat]
  simp [Nat.min_eq_left h]
theorem cut_from {α : Type} (xs : List α) {k : Nat} (h : k ≤ xs.length) : cutL xs (some (k : Int)) none = xs.drop k := by
  unfold cutL
  rw [HT.sIx_none, HT.sIx_nat, Nat.min_eq_left h]
  exact List.take_of_length_le (by simp)
@[simp] theorem slD_tup {ds : List D} {lo hi : Option Int} : slD (.tuple ds) lo hi = some (.val (.tuple (cutL ds lo hi))) := rfl
@[simp] theorem slD_list {ds : List D} {lo hi : Option Int} : slD (.list ds) lo hi = some (.own (cutL ds lo hi)) := rfl
theorem set_eq {α : Type} {xs : List α} {i : Nat} {p : α} (h : i < xs.length) : xs.take i ++ p :: xs.drop (i + 1) = xs.set i p := by
  rw [List.set_eq_take_append_cons_drop, if_pos h]
theorem ix_map {α : Type} (f : α → D) {xs : List α} {i : Nat} {x : α} (h : xs[i]? = some x) : ixD (.tuple (xs.map f)) (.int (i : Int)) = some (.val (f x)) := ixD_tup (atI_nat (by rw [List.getElem?_map, h]; rfl))
theorem ixl_map {α : Type} (f : α → D) {xs : List α} {i : Nat} {x : α} (h : xs[i]? = some x) : ixD (.list (xs.map f)) (.int (i : Int)) = some (.val (f x)) := ixD_list (atI_nat (by rw [List.getElem?_map, h]; rfl))
theorem tup_over {n : Nat} (h : n ≠ 0) : PyData.tuple [.int 1, .int n] = frac (1 / (n : Rat)) := by
  have e1 : (1 : Rat) / (n : Rat) = Rat.divInt 1 (n : Int) := by
    rw [div_eq]
    show Rat.divInt (1 * 1) (1 * (n : Int)) = _
    rw [Int.one_mul, Int.one_mul]
  obtain ⟨h1, h2⟩ := divInt_pos (a := 1) h
  unfold frac
  rw [e1, h1, h2]
  simp
theorem ht_over {L n : Nat} (h : n ≠ 0) (g : n < 2 ^ L) (hL : 1 ≤ L) : Ht (1 + L) (1 / (n : Rat)) := ht_div ht_one (ht_nat g hL) (nat_nz h)
theorem over_eq (a b : Rat) : a * (1 / b) = a / b := by rw [Rat.div_def, Rat.div_def]; grind
def Nice : Nat → D → Prop
  | 0, _ => False
  | _ + 1, .int _ => True
  | n + 1, .tuple ds => ds.length ≤ 1000 ∧ ∀ d ∈ ds, Nice n d
  | n + 1, .list ds => ds.length ≤ 1000 ∧ ∀ d ∈ ds, Nice n d
  | _ + 1, _ => False
theorem range_row {n : Nat} (h : n ≤ 1000) : rangeW [.val (.int n)] = some (rangeD 0 n) := by
  have h1 : -(2 ^ 62) ≤ (n : Int) ∧ (n : Int) < 2 ^ 62 := ⟨by omega, by omega⟩
  simp only [rangeW]
  rw [if_pos h1, Int.toNat_natCast]
theorem range_row' {n : Nat} {z : Int} (e : z = (n : Int)) (h : n ≤ 1000) : rangeW [.val (.int z)] = some (rangeD 0 n) := by
  rw [e]
  exact range_row h
theorem nice_frac {n : Nat} {q : Rat} : Nice (n + 2) (frac q) := ⟨by show 2 ≤ 1000; decide, fun d hd => by
  have : d = .int q.num ∨ d = .int q.den := by simpa [frac] using hd
  rcases this with rfl | rfl <;> trivial⟩
theorem ixn_1 : ixN 3 1 = some 1 := by decide
theorem ixn_2 : ixN 3 2 = some 2 := by decide
theorem ixn_00 : ixN 3 0 = some 0 := by decide
theorem all_frac {L : Nat} : ∀ {ys : List D}, (∀ y ∈ ys, ∃ q, y = frac q ∧ Ht L q) → ∃ rs : List Rat, ys = rs.map frac ∧ HtA L rs
  | [], _ => ⟨[], rfl, fun _ h => by cases h⟩
  | y :: ys, h => by
    obtain ⟨q, e, hq⟩ := h y (List.mem_cons_self ..)
    obtain ⟨rs, e2, h2⟩ := all_frac fun z hz => h z (List.mem_cons_of_mem _ hz)
    refine ⟨q :: rs, by rw [e, e2]; rfl, fun x hx => ?_⟩
    rcases List.mem_cons.mp hx with rfl | hx
    · exact hq
    · exact h2 x hx
theorem all_ex {P : D → Prop} {α : Type} {Q : α → Prop} {f : α → D} : ∀ {ds : List D}, (∀ d ∈ ds, ∃ a, d = f a ∧ Q a) → ∃ xs : List α, ds = xs.map f ∧ ∀ a ∈ xs, Q a
  | [], _ => ⟨[], rfl, fun _ h => by cases h⟩
  | y :: ys, h => by
    obtain ⟨q, e, hq⟩ := h y (List.mem_cons_self ..)
    obtain ⟨rs, e2, h2⟩ := all_ex (P := P) fun z hz => h z (List.mem_cons_of_mem _ hz)
    refine ⟨q :: rs, by rw [e, e2]; rfl, fun x hx => ?_⟩
    rcases List.mem_cons.mp hx with rfl | hx
    · exact hq
    · exact h2 x hx
theorem over_parts {m : Nat} (hm : m ≠ 0) : (1 / (m : Rat)).num = 1 ∧ (1 / (m : Rat)).den = m := by
  have h := tup_over hm
  unfold frac at h
  injection h with h
  injection h with h1 h2
  injection h1 with h1
  injection h2 with h2 _
  injection h2 with h2
  exact ⟨h1.symm, by exact_mod_cast h2.symm⟩
theorem cut_map {α β : Type} (f : α → β) (xs : List α) (lo hi : Option Int) : cutL (xs.map f) lo hi = (cutL xs lo hi).map f := by
  unfold cutL
  simp [List.map_take, List.map_drop]
@[simp] theorem powD_int {i j : Int} : powD (.int i) (.int j) = if 0 ≤ j ∧ j ≤ 1000000 ∧ i.natAbs < 2 ^ 64 then some (.val (.int (i ^ j.toNat))) else none := (rfl)
theorem nice_plain (n : Nat) : ∀ d : D, Nice n d → d.canLay0 = true ∧ d.depth ≤ n := by
  induction n with
  | zero => exact fun _ h => h.elim
  | succ n ih =>
    have all : ∀ ds : List D, (∀ d ∈ ds, Nice n d) → PyData.canLayAll0 ds = true ∧ PyData.depthAll ds ≤ n := fun ds => by
      induction ds with
      | nil => exact fun _ => ⟨by simp [PyData.canLayAll0], by simp [PyData.depthAll]⟩
      | cons d ds ihl =>
        intro h
        obtain ⟨a1, a2⟩ := ih d (h d (List.mem_cons_self ..))
        obtain ⟨b1, b2⟩ := ihl fun x hx => h x (List.mem_cons_of_mem _ hx)
        exact ⟨by simp [PyData.canLayAll0, a1, b1], by simp only [PyData.depthAll]; omega⟩
    intro d h
    cases d with
    | int i => exact ⟨by simp [PyData.canLay0], by simp [PyData.depth]⟩
    | tuple ds =>
      obtain ⟨a, b⟩ := all ds h.2
      exact ⟨by simpa [PyData.canLay0] using a, by simp only [PyData.depth]; omega⟩
    | list ds =>
      obtain ⟨a, b⟩ := all ds h.2
      exact ⟨by simpa [PyData.canLay0] using a, by simp only [PyData.depth]; omega⟩
    | _ => exact h.elim
theorem nice_nd (n : Nat) : ∀ d : D, Nice n d → d.hasDict = false := by
  induction n with
  | zero => exact fun _ h => h.elim
  | succ n ih =>
    have all : ∀ ds : List D, (∀ d ∈ ds, Nice n d) → PyData.hasDictAll ds = false := fun ds => by
      induction ds with
      | nil => exact fun _ => by simp [PyData.hasDictAll]
      | cons d ds ihl =>
        intro h
        simp [PyData.hasDictAll, ih d (h d (List.mem_cons_self ..)), ihl fun x hx => h x (List.mem_cons_of_mem _ hx)]
    intro d h
    cases d with
    | int i => simp [PyData.hasDict]
    | tuple ds => simpa [PyData.hasDict] using all ds h.2
    | list ds => simpa [PyData.hasDict] using all ds h.2
    | _ => exact h.elim
theorem nice_shaped {n : Nat} (hn : n ≤ 64) {d : D} (h : Nice n d) : okD d = true := by
  obtain ⟨a, b⟩ := nice_plain n d h
  refine okD.of ?_ (nice_nd n d h)
  unfold SeqAt.shaped
  rw [a, Bool.true_and]
  exact decide_eq_true (by omega)
theorem ne_nil {ds : List D} (h : okD (.list ds) = true) : neD (.list ds) (.list []) = some (!ds.isEmpty) := by
  have k : okD (.list []) = true := by decide
  unfold neD
  rw [h, k]
  cases ds <;> simp [PyData.eqv, PyData.eqvAll]
theorem eq_nil {ds : List D} (h : okD (.list ds) = true) : eqD (.list ds) (.list []) = some ds.isEmpty := by
  have k : okD (.list []) = true := by decide
  unfold eqD
  rw [h, k]
  cases ds <;> simp [PyData.eqv, PyData.eqvAll]
theorem shaped_ints {ns : List Nat} (h : ns.length ≤ 1000) : okD (.list (ns.map fun (k : Nat) => PyData.int (k : Int))) = true := nice_shaped (n := 2) (by decide) ⟨by simpa using h, fun d hd => by
  obtain ⟨q, _, rfl⟩ := List.mem_map.mp hd
  trivial⟩
theorem idx_get {α : Type} {x : α} : ∀ {xs : List α} {k i : Nat}, xs[i]? = some x → (k + i, x) ∈ idx k xs
  | [], k, i, h => by simp at h
  | y :: ys, k, 0, h => by
    have : y = x := by simpa using h
    subst this
    exact List.mem_cons_self ..
  | y :: ys, k, i + 1, h => by
    have := idx_get (k := k + 1) (i := i) (x := x) (xs := ys) (by simpa using h)
    rw [show k + 1 + i = k + (i + 1) by omega] at this
    exact List.mem_cons_of_mem _ this
theorem while_next {c : M Bool} {b : M SR} {m : Nat} {s s1 s2 : S} (h1 : c s = .ok true s1) (h2 : b s1 = .ok .next s2) : whileF c b (m + 1) s = whileF c b m s2 := by
  rw [whileF_succ, h1, runK_ok, if_pos rfl, bind_of h2]
theorem while_ret {c : M Bool} {b : M SR} {m : Nat} {s s1 s2 : S} {w : W} (h1 : c s = .ok true s1) (h2 : b s1 = .ok (.ret w) s2) : whileF c b (m + 1) s = .ok (.ret w) s2 := by
  rw [whileF_succ, h1, runK_ok, if_pos rfl, bind_of h2]
  rfl
theorem bind_congr {α β : Type} {m m' : M α} {k : α → M β} {s s' : S} (h : m s = m' s') : (m >>= k) s = (m' >>= k) s' := by
  rw [bind_app, bind_app, h]
theorem rangeD_succ {lo : Int} {n : Nat} : rangeD lo (n + 1) = .int lo :: rangeD (lo + 1) n := by
  unfold rangeD
  rw [List.range_succ_eq_map, List.map_cons, List.map_map]
  congr 1
  · simp
  · exact List.map_congr_left fun i _ => by
      show PyData.int _ = PyData.int _
      congr 1
      show lo + ((i + 1 : Nat) : Int) = _
      omega
theorem rangeD_zero {lo : Int} : rangeD lo 0 = [] := rfl
theorem range_2 {i j : Nat} (h : j ≤ 1000) (h2 : i ≤ 1000) : rangeW2 [.val (.int i), .val (.int j)] = some (rangeD i (j - i)) := by
  unfold rangeW2
  simp only
  rw [if_pos (by omega), show ((j : Int) - i).toNat = j - i by omega]
theorem ixN_of {n k : Nat} (h : k < n) : ixN n (k : Int) = some k := by
  unfold ixN
  simp [h]
theorem atI_mid {α : Type} {pre post : List α} {x : α} : (pre ++ x :: post)[pre.length]? = some x := by simp
theorem range_idx {α : Type} : ∀ (xs : List α) (k : Nat), rangeD (k : Int) xs.length = (idx k xs).map fun q => PyData.int (q.1 : Int)
  | [], k => rfl
  | x :: xs, k => by
    rw [List.length_cons, rangeD_succ]
    have := range_idx xs (k + 1)
    rw [show ((k + 1 : Nat) : Int) = (k : Int) + 1 by omega] at this
    rw [this]
    rfl
theorem ht_neg {L : Nat} {q : Rat} (h : Ht L q) : Ht L (-q) := ⟨by rw [Rat.neg_num, Int.natAbs_neg]; exact h.num, by rw [Rat.neg_den]; exact h.den⟩
def absR (q : Rat) : Rat := if q < 0 then -q else q
theorem absR_nn (q : Rat) : 0 ≤ absR q := by unfold absR; split <;> grind
theorem absR_mul (a b : Rat) : absR (a * b) = absR a * absR b := by
  unfold absR
  by_cases ha : a < 0 <;> by_cases hb : b < 0
  · have := Rat.mul_pos (a := -a) (b := -b) (by grind) (by grind)
    have h : ¬ a * b < 0 := by grind
    simp only [ha, hb, h, if_true, if_false]; grind
  · by_cases h0 : b = 0
    · subst h0; simp only [ha, hb, if_true, if_false]; grind
    · have := Rat.mul_pos (a := -a) (b := b) (by grind) (by grind)
      have h : a * b < 0 := by grind
      simp only [ha, hb, h, if_true, if_false]; grind
  · by_cases h0 : a = 0
    · subst h0; simp only [ha, hb, if_true, if_false]; grind
    · have := Rat.mul_pos (a := a) (b := -b) (by grind) (by grind)
      have h : a * b < 0 := by grind
      simp only [ha, hb, h, if_true, if_false]; grind
  · have := Rat.mul_nonneg (a := a) (b := b) (by grind) (by grind)
    have h : ¬ a * b < 0 := by grind
    simp only [ha, hb, h, if_false]
theorem absR_neg (a : Rat) : absR (-a) = absR a := by unfold absR; split <;> split <;> grind
theorem absR_of {a : Rat} (h : 0 ≤ a) : absR a = a := by unfold absR; rw [if_neg (by grind)]
theorem zip_turn {α β γ : Type} (f : α → β → γ) : ∀ (a : List α) (b : List β), (a.zip b).map (fun x => f x.1 x.2) = (b.zip a).map fun x => f x.2 x.1
  | [], b => by simp
  | x :: a, [] => by simp
  | x :: a, y :: b => by simp [zip_turn f a b]
theorem absFrac (q : Rat) : PyData.tuple [.int (if q.num < 0 then -q.num else q.num), .int (q.den : Int)] = frac (absR q) := by
  have n : (q.num < 0) = (q < 0) := by
    have := Rat.num_nonneg (q := q)
    have h2 : (0 ≤ q) = ¬ (q < 0) := propext Rat.not_lt.symm
    rw [h2] at this
    exact propext ⟨fun z => Decidable.byContradiction fun w => by have := this.mpr w; omega, fun z => Decidable.byContradiction fun w => (this.mp (by omega)) z⟩
  unfold absR frac
  by_cases h : q < 0
  · rw [if_pos h, if_pos (by rw [n]; exact h), Rat.neg_num, Rat.neg_den]
  · rw [if_neg h, if_neg (by rw [n]; exact h)]
theorem ht_absR {L : Nat} {q : Rat} (h : Ht L q) : Ht L (absR q) := by
  unfold absR
  split
  · exact ht_neg h
  · exact h
theorem all_of : ∀ {ys : List D}, (∀ y ∈ ys, y = .bool true) → allD (.list ys) = some (.val (.bool true)) := fun {ys} h => by
  have : ys = ys.map fun _ => .bool true := by
    conv => lhs; rw [← List.map_id ys]
    exact List.map_congr_left fun y hy => h y hy
  rw [this]
  exact all_true ys
theorem flatten_one {α : Type} (n : Nat) (x : α) : (List.replicate n [x]).flatten = List.replicate n x := by
  induction n with
  | zero => rfl
  | succ n ih => rw [List.replicate_succ, List.flatten_cons, ih]; rfl
theorem tot_rep (m : Nat) (q : Rat) : tot (List.replicate m q) = (m : Rat) * q := by
  induction m with
  | zero => simp [Rat.zero_mul]
  | succ m ih =>
    rw [List.replicate_succ, tot_cons, ih]
    have : ((m + 1 : Nat) : Rat) = (m : Rat) + 1 := by exact_mod_cast rfl
    rw [this]; grind
theorem quot_eq (m k : Nat) : (m : Rat) / (k : Rat) = Rat.divInt (m : Int) (k : Int) := by
  rw [div_eq]
  show Rat.divInt ((m : Int) * 1) (1 * (k : Int)) = _
  rw [Int.mul_one, Int.one_mul]
theorem map_id_of {α : Type} {f : α → α} : ∀ {l : List α}, (∀ x ∈ l, x = f x) → l = l.map f
  | [], _ => rfl
  | x :: l, h => by
    rw [List.map_cons, ← h x (List.mem_cons_self ..), ← map_id_of fun y hy => h y (List.mem_cons_of_mem _ hy)]
theorem HtA.mono {L M : Nat} {rs : List Rat} (h : HtA L rs) (l : L ≤ M) : HtA M rs := fun r hr => (h r hr).mono l
theorem mulD_rep {ds : List D} {k : Int} : mulD (.tuple ds) (.int k) = if -1000 ≤ k ∧ k ≤ 1000 ∧ ds.length ≤ 1000 then some (.val (.tuple (List.replicate k.toNat ds).flatten)) else none := rfl
end Z
/-! P, part 4: fractions over a known denominator, of a known size. -/
namespace Z
open PySem PySem.Spec PyProof.Rows L2
def Fr (D B : Nat) (q : Rat) : Prop := ∃ m : Int, q * (D : Rat) = (m : Rat) ∧ m.natAbs ≤ B * D
theorem natR_nz {n : Nat} (h : n ≠ 0) : (n : Rat) ≠ 0 := nat_nz h
theorem ratOfInt_add (a b : Int) : ((a + b : Int) : Rat) = (a : Rat) + (b : Rat) := Rat.intCast_add a b
theorem ratOfInt_mul (a b : Int) : ((a * b : Int) : Rat) = (a : Rat) * (b : Rat) := Rat.intCast_mul a b
theorem ratOfInt_neg (a : Int) : ((-a : Int) : Rat) = -(a : Rat) := Rat.intCast_neg a
theorem ratOfInt_sub (a b : Int) : ((a - b : Int) : Rat) = (a : Rat) - (b : Rat) := Rat.intCast_sub a b
theorem natR_mul (a b : Nat) : ((a * b : Nat) : Rat) = (a : Rat) * (b : Rat) := Rat.natCast_mul a b
theorem Fr.add {D B C : Nat} {p q : Rat} (h : Fr D B p) (g : Fr D C q) : Fr D (B + C) (p + q) := by
  obtain ⟨m, h1, h2⟩ := h
  obtain ⟨n, g1, g2⟩ := g
  refine ⟨m + n, ?_, ?_⟩
  · rw [ratOfInt_add, ← h1, ← g1]; grind
  · rw [Nat.add_mul]
    exact Nat.le_trans (Int.natAbs_add_le _ _) (by omega)
theorem Fr.sub {D B C : Nat} {p q : Rat} (h : Fr D B p) (g : Fr D C q) : Fr D (B + C) (p - q) := by
  obtain ⟨m, h1, h2⟩ := h
  obtain ⟨n, g1, g2⟩ := g
  refine ⟨m - n, ?_, ?_⟩
  · rw [ratOfInt_sub, ← h1, ← g1]; grind
  · rw [Nat.add_mul]
    exact Nat.le_trans (Int.natAbs_sub_le _ _) (by omega)
theorem Fr.neg {D B : Nat} {p : Rat} (h : Fr D B p) : Fr D B (-p) := by
  obtain ⟨m, h1, h2⟩ := h
  exact ⟨-m, by rw [ratOfInt_neg, ← h1]; grind, by rw [Int.natAbs_neg]; exact h2⟩
theorem Fr.abs {D B : Nat} {p : Rat} (h : Fr D B p) : Fr D B (absR p) := by
  unfold absR
  split
  · exact h.neg
  · exact h
theorem Fr.mul {D E B C : Nat} {p q : Rat} (h : Fr D B p) (g : Fr E C q) : Fr (D * E) (B * C) (p * q) := by
  obtain ⟨m, h1, h2⟩ := h
  obtain ⟨n, g1, g2⟩ := g
  refine ⟨m * n, ?_, ?_⟩
  · rw [ratOfInt_mul, ← h1, ← g1, natR_mul]; grind
  · rw [Int.natAbs_mul]
    have e : B * C * (D * E) = (B * D) * (C * E) := by
      rw [Nat.mul_assoc, Nat.mul_assoc, Nat.mul_left_comm C D E]
    rw [e]
    exact Nat.mul_le_mul h2 g2
theorem Fr.mono {D B C : Nat} {p : Rat} (h : Fr D B p) (l : B ≤ C) : Fr D C p := by
  obtain ⟨m, h1, h2⟩ := h
  exact ⟨m, h1, Nat.le_trans h2 (Nat.mul_le_mul_right _ l)⟩
theorem Fr.up {D B : Nat} {p : Rat} (h : Fr D B p) (k : Nat) : Fr (D * k) B p := by
  obtain ⟨m, h1, h2⟩ := h
  refine ⟨m * k, ?_, ?_⟩
  · rw [natR_mul, ratOfInt_mul, ← h1]
    have : ((k : Int) : Rat) = (k : Rat) := rfl
    rw [this]; grind
  · rw [Int.natAbs_mul, Int.natAbs_natCast, ← Nat.mul_assoc]
    exact Nat.mul_le_mul_right _ h2
theorem Fr.dvd {D E B : Nat} {p : Rat} (h : Fr D B p) (l : D ∣ E) : Fr E B p := by
  obtain ⟨k, rfl⟩ := l
  exact h.up k
theorem Fr.eq {D B : Nat} {p : Rat} (hD : D ≠ 0) (h : Fr D B p) : ∃ m : Int, p = Rat.divInt m (D : Int) ∧ m.natAbs ≤ B * D := by
  obtain ⟨m, h1, h2⟩ := h
  refine ⟨m, ?_, h2⟩
  have e : Rat.divInt m (D : Int) = (m : Rat) / (D : Rat) := by
    rw [div_eq]
    show _ = Rat.divInt (m * 1) (1 * (D : Int))
    rw [Int.mul_one, Int.one_mul]
  have := natR_nz hD
  rw [e]; grind
theorem Fr.ht {D B L : Nat} {p : Rat} (hD : D ≠ 0) (h : Fr D B p) (h1 : B * D < 2 ^ L) (h2 : D < 2 ^ L) : Ht L p := by
  obtain ⟨m, e, hm⟩ := h.eq hD
  rw [e]
  exact Ht.divInt hD (Nat.lt_of_le_of_lt hm h1) h2
theorem Fr.int {D B : Nat} {i : Int} (h : i.natAbs ≤ B) : Fr D B (i : Rat) := by
  refine ⟨i * D, ?_, ?_⟩
  · rw [ratOfInt_mul]; rfl
  · rw [Int.natAbs_mul, Int.natAbs_natCast]
    exact Nat.mul_le_mul_right _ h
theorem Fr.nat {D B : Nat} {i : Nat} (h : i ≤ B) : Fr D B (i : Rat) := Fr.int (i := (i : Int)) (by rw [Int.natAbs_natCast]; exact h)
theorem Fr.zero {D B : Nat} : Fr D B 0 := Fr.int (i := 0) (Nat.zero_le _)
theorem Fr.one {D B : Nat} (h : 1 ≤ B) : Fr D B 1 := Fr.int (i := 1) h
theorem Fr.divInt {a : Int} {b : Nat} (hb : b ≠ 0) {B : Nat} (h : a.natAbs ≤ B * b) : Fr b B (Rat.divInt a b) := by
  refine ⟨a, ?_, h⟩
  have e : Rat.divInt a (b : Int) = (a : Rat) / (b : Rat) := by
    rw [div_eq]
    show _ = Rat.divInt (a * 1) (1 * (b : Int))
    rw [Int.mul_one, Int.one_mul]
  have := natR_nz hb
  rw [e]; grind
theorem Fr.pow {D B : Nat} {p : Rat} (h : Fr D B p) : ∀ n : Nat, Fr (D ^ n) (B ^ n) (p ^ n)
  | 0 => by
    rw [Rat.pow_zero, Nat.pow_zero, Nat.pow_zero]
    exact Fr.one (Nat.le_refl _)
  | n + 1 => by
    rw [Rat.pow_succ, Nat.pow_succ, Nat.pow_succ]
    exact (h.pow n).mul h
theorem tot_fr {D B : Nat} : ∀ {rs : List Rat}, (∀ r ∈ rs, Fr D B r) → Fr D (rs.length * B) (tot rs)
  | [], _ => by simpa using Fr.zero
  | r :: rs, h => by
    rw [tot_cons, List.length_cons, Nat.add_mul, Nat.one_mul, Nat.add_comm]
    exact (h r (List.mem_cons_self ..)).add (tot_fr fun x hx => h x (List.mem_cons_of_mem _ hx))
end Z
/-! P, part 5: repr of nested whole numbers. -/
namespace Z
open PySem PySem.Spec PyProof.Rows L2
/-- nested tuples and lists of whole numbers of few bits, n deep, at most m parts each -/
def ShB (m : Nat) : Nat → D → Prop
  | 0, _ => False
  | _ + 1, .int i => i.natAbs.log2 < 1920
  | n + 1, .tuple ds => ds.length ≤ m ∧ ∀ d ∈ ds, ShB m n d
  | n + 1, .list ds => ds.length ≤ m ∧ ∀ d ∈ ds, ShB m n d
  | _ + 1, _ => False
def shL (m : Nat) : Nat → Nat
  | 0 => 0
  | n + 1 => 1921 + m * (shL m n + 2) + 2
theorem sh_all {ds : List D} (f : ∀ d ∈ ds, d.showable = true) : PyData.showableAll ds = true := by
  induction ds with
  | nil => simp [PyData.showableAll]
  | cons d ds ih => simp [PyData.showableAll, f d (List.mem_cons_self ..), ih fun x hx => f x (List.mem_cons_of_mem _ hx)]
theorem nd_all {ds : List D} (f : ∀ d ∈ ds, d.hasDict = false) : PyData.hasDictAll ds = false := by
  induction ds with
  | nil => simp [PyData.hasDictAll]
  | cons d ds ih => simp [PyData.hasDictAll, f d (List.mem_cons_self ..), ih fun x hx => f x (List.mem_cons_of_mem _ hx)]
theorem dp_all {ds : List D} {n : Nat} (f : ∀ d ∈ ds, d.depth ≤ n) : PyData.depthAll ds ≤ n := by
  induction ds with
  | nil => simp [PyData.depthAll]
  | cons d ds ih =>
    have h1 := f d (List.mem_cons_self ..)
    have h2 := ih fun x hx => f x (List.mem_cons_of_mem _ hx)
    simp only [PyData.depthAll]; omega
theorem piled_all {ds : List D} {n : Nat} (f : ∀ d ∈ ds, d.shown.length ≤ n) : piled (PyData.shownAll ds) ≤ ds.length * (n + 2) := by
  induction ds with
  | nil => simp [PyData.shownAll, piled]
  | cons d ds ih =>
    have h1 := f d (List.mem_cons_self ..)
    have h2 := ih fun x hx => f x (List.mem_cons_of_mem _ hx)
    simp only [PyData.shownAll]
    rw [piled_cons, List.length_cons, Nat.add_mul]; omega
theorem list_len (ts : List Str) : (listText ts).length ≤ piled ts + 2 := by
  unfold listText
  have ap : ∀ a b : Str, (a ++ b).length = a.length + b.length := fun a b => PySem.Str.length_append a b
  rw [ap]
  have e1 : (("]" : String) : Str).length = 1 := rfl
  have e0 : (("[" : String) : Str).length = 1 := rfl
  cases ts with
  | nil =>
    show (("[" : String) : Str).length + (("]" : String) : Str).length ≤ _
    rw [e0, e1]; omega
  | cons t ts =>
    have h := textFrom_length_pos ts 1 ((("[" : String) : Str) ++ (("" : String) : Str) ++ t) (by decide)
    show (textFrom 1 ((("[" : String) : Str) ++ (("" : String) : Str) ++ t) ts).length + (("]" : String) : Str).length ≤ _
    have e2 : (("" : String) : Str).length = 0 := rfl
    rw [h, ap, ap, e0, e1, e2, piled_cons]; omega
theorem ShB.facts {m : Nat} : ∀ (n : Nat) (d : D), ShB m n d → d.showable = true ∧ d.hasDict = false ∧ d.depth ≤ n ∧ d.shown.length ≤ shL m n
  | 0, _, h => h.elim
  | n + 1, .int i, h => by
    have h' : i.natAbs.log2 < 1920 := h
    refine ⟨by simp [PyData.showable, h'], by simp [PyData.hasDict], by simp [PyData.depth], ?_⟩
    have := int_text_len_1921 h'
    simp only [PyData.shown]
    unfold shL
    omega
  | n + 1, .tuple ds, h => by
    have h' : ds.length ≤ m ∧ ∀ d ∈ ds, ShB m n d := h
    have ih := fun d hd => ShB.facts n d (h'.2 d hd)
    refine ⟨by simp [PyData.showable, sh_all fun d hd => (ih d hd).1], by simp [PyData.hasDict, nd_all fun d hd => (ih d hd).2.1], ?_, ?_⟩
    · have := dp_all fun d hd => (ih d hd).2.2.1
      simp only [PyData.depth]; omega
    · have p := piled_all fun d hd => (ih d hd).2.2.2
      have t := fmt_text (PyData.shownAll ds)
      have l : ds.length * (shL m n + 2) ≤ m * (shL m n + 2) := Nat.mul_le_mul_right _ h'.1
      simp only [PyData.shown]
      have e : shL m (n + 1) = 1921 + m * (shL m n + 2) + 2 := rfl
      omega
  | n + 1, .list ds, h => by
    have h' : ds.length ≤ m ∧ ∀ d ∈ ds, ShB m n d := h
    have ih := fun d hd => ShB.facts n d (h'.2 d hd)
    refine ⟨by simp [PyData.showable, sh_all fun d hd => (ih d hd).1], by simp [PyData.hasDict, nd_all fun d hd => (ih d hd).2.1], ?_, ?_⟩
    · have := dp_all fun d hd => (ih d hd).2.2.1
      simp only [PyData.depth]; omega
    · have p := piled_all fun d hd => (ih d hd).2.2.2
      have t := list_len (PyData.shownAll ds)
      have l : ds.length * (shL m n + 2) ≤ m * (shL m n + 2) := Nat.mul_le_mul_right _ h'.1
      simp only [PyData.shown]
      have e : shL m (n + 1) = 1921 + m * (shL m n + 2) + 2 := rfl
      omega
  | _ + 1, .none, h => h.elim
  | _ + 1, .bool _, h => h.elim
  | _ + 1, .str _, h => h.elim
  | _ + 1, .dict _, h => h.elim
theorem repr_sh {m n : Nat} {d : D} (h : ShB m n d) (sq : isSeqD d = true) (hn : n ≤ 60) (hl : shL m n ≤ 1000000) : reprD d = some (.val (.str d.shown)) := by
  obtain ⟨h1, h2, h3, h4⟩ := h.facts n d
  have := sizeLine_big
  exact if_pos ⟨sq, h1, h2, by omega, by omega⟩
theorem sh_frac {m n L : Nat} {q : Rat} (h : Ht L q) (hL : L ≤ 1900) (hm : 2 ≤ m) : ShB m (n + 2) (frac q) := ⟨hm, fun d hd => by
  have small : ∀ k : Nat, k < 2 ^ L → k.log2 < 1920 := fun k hk => by
    by_cases h0 : k = 0
    · rw [h0]; decide
    · have := (Nat.log2_lt h0).mpr hk
      omega
  have : d = .int q.num ∨ d = .int q.den := by simpa [frac] using hd
  rcases this with rfl | rfl
  · exact small _ h.num
  · show ((q.den : Int)).natAbs.log2 < 1920
    rw [Int.natAbs_natCast]
    exact small _ h.den⟩
end Z
/-! P, part 6: the text of nested whole numbers can be compared. -/
namespace Z
open PySem PySem.Spec PyProof.Rows L2
def Okc (t : Str) : Prop := ∀ c ∈ t.cps.toList, c < 0x110000
theorem okc_app {a b : Str} (h : Okc a) (g : Okc b) : Okc (a ++ b) := fun c hc => by
  rcases mem_cps_append.mp hc with q | q
  · exact h c q
  · exact g c q
theorem okc_int (i : Int) : Okc (Str.ofString (toString i)) := fun c hc => by
  by_cases h : c ≠ 45 ∧ (c < 48 ∨ 57 < c)
  · exact absurd hc (int_text_free' c h i)
  · omega
instance (t : Str) : Decidable (Okc t) := by unfold Okc; infer_instance
theorem okc_sep : Okc (Str.ofString ", ") := by decide +kernel
theorem okc_none : Okc (Str.ofString "") := by decide +kernel
theorem okc_from : ∀ (ts : List Str) (k : Nat) (acc : Str), Okc acc → (∀ t ∈ ts, Okc t) → Okc (textFrom k acc ts)
  | [], _, _, h, _ => h
  | t :: ts, k, acc, h, g => okc_from ts (k + 1) _ (okc_app (okc_app h (by split; exact okc_sep; exact okc_none)) (g t (List.mem_cons_self ..))) fun x hx => g x (List.mem_cons_of_mem _ hx)
theorem okc_list {ts : List Str} (g : ∀ t ∈ ts, Okc t) : Okc (listText ts) := okc_app (okc_from ts 0 _ (show Okc (Str.ofString "[") by decide +kernel) g) (show Okc (Str.ofString "]") by decide +kernel)
theorem okc_join : ∀ {ts : List Str}, (∀ t ∈ ts, Okc t) → Okc (Str.join ", " ts)
  | [], _ => show Okc (Str.ofString "") by decide +kernel
  | [t], g => g t (List.mem_cons_self ..)
  | t :: u :: ts, g => okc_app (okc_app (g t (List.mem_cons_self ..)) okc_sep) (okc_join fun x hx => g x (List.mem_cons_of_mem _ hx))
theorem okc_tup {ts : List Str} (g : ∀ t ∈ ts, Okc t) : Okc (tupleText ts) := by
  unfold tupleText
  refine okc_app (okc_app (show Okc (Str.ofString "(") by decide +kernel) (okc_join g)) ?_
  split
  · exact (show Okc (Str.ofString ",)") by decide +kernel)
  · exact (show Okc (Str.ofString ")") by decide +kernel)
theorem okc_all {ds : List D} (f : ∀ d ∈ ds, Okc d.shown) : ∀ t ∈ PyData.shownAll ds, Okc t := by
  induction ds with
  | nil => intro t ht; simp [PyData.shownAll] at ht
  | cons d ds ih =>
    intro t ht
    simp only [PyData.shownAll, List.mem_cons] at ht
    rcases ht with rfl | ht
    · exact f d (List.mem_cons_self ..)
    · exact ih (fun x hx => f x (List.mem_cons_of_mem _ hx)) t ht
theorem ShB.okc {m : Nat} : ∀ (n : Nat) (d : D), ShB m n d → Okc d.shown
  | 0, _, h => h.elim
  | n + 1, .int i, h => by
    simp only [PyData.shown]
    exact okc_int i
  | n + 1, .tuple ds, h => by
    have h' : ds.length ≤ m ∧ ∀ d ∈ ds, ShB m n d := h
    simp only [PyData.shown]
    exact okc_tup (okc_all fun d hd => ShB.okc n d (h'.2 d hd))
  | n + 1, .list ds, h => by
    have h' : ds.length ≤ m ∧ ∀ d ∈ ds, ShB m n d := h
    simp only [PyData.shown]
    exact okc_list (okc_all fun d hd => ShB.okc n d (h'.2 d hd))
  | _ + 1, .none, h => h.elim
  | _ + 1, .bool _, h => h.elim
  | _ + 1, .str _, h => h.elim
  | _ + 1, .dict _, h => h.elim
theorem okc_shaped {t : Str} (h : Okc t) : okD (.str t) = true := by
  have : t.cps.all (· < 0x110000) = true := by
    rw [Array.all_eq_true_iff_forall_mem]
    intro c hc
    exact decide_eq_true (h c (by simpa using hc))
  simp [okD, SeqAt.shaped, PyData.canLay0, PyData.depth, PyData.strOk, PyData.hasDict, this]
theorem neD_self {d : D} (h : okD d = true) : neD d d = some (!PyData.eqv d d) := by
  unfold neD
  rw [h]; rfl
/-- a text is not unlike itself -/
theorem ne_same {t : Str} (h : Okc t) : neD (.str t) (.str t) = some false := by
  rw [neD_self (okc_shaped h)]
  simp [PyData.eqv]
theorem eq_same {t : Str} (h : Okc t) : eqD (.str t) (.str t) = some true := by
  unfold eqD
  rw [okc_shaped h]
  simp [PyData.eqv]
end Z
/-! P, part 7: raise, try, fields of errors, run by simp. -/
namespace Z
open PySem PySem.Spec PyProof.Rows L2
def raiseK (x f : Str) (ws : List W) : M SR := match ws with
  | [.val d] => fun s => .err ⟨x, some (f, d)⟩ s
  | _ => M.fail
@[simp] theorem raiseK_val {x f : Str} {d : D} {s : S} : raiseK x f [.val d] s = .err ⟨x, some (f, d)⟩ s := (rfl)
@[simp] theorem sRaise_app {x f : Str} {ma : M (List W)} {s : S} : sRaise x f ma s = runK (ma s) (k := ⟨raiseK x f⟩) := (rfl)
def tryO (qs : List Cm) (o : Out S SR) : Out S SR := match o with
  | .err x s' => tryC qs x s'
  | r => r
@[simp] theorem tryO_ok {qs : List Cm} {r : SR} {s : S} : tryO qs (.ok r s) = .ok r s := (rfl)
@[simp] theorem tryO_err {qs : List Cm} {x : Exc} {s : S} : tryO qs (.err x s) = tryC qs x s := (rfl)
@[simp] theorem sTry_app {qs : List Cm} {mb : M SR} {s : S} : sTry qs mb s = tryO qs (mb s) := (rfl)
def tryL (q : Cm) (qs : List Cm) (x : Exc) (s : S) (o : Option Bool) : Out S SR := match o with
  | some true => takeC q x s
  | some false => tryC qs x s
  | none => .fail
@[simp] theorem tryL_t {q : Cm} {qs : List Cm} {x : Exc} {s : S} : tryL q qs x s (some true) = takeC q x s := (rfl)
@[simp] theorem tryL_f {q : Cm} {qs : List Cm} {x : Exc} {s : S} : tryL q qs x s (some false) = tryC qs x s := (rfl)
@[simp] theorem tryC_nil {x : Exc} {s : S} : tryC [] x s = .err x s := (rfl)
@[simp] theorem tryC_cons {tab : List (Str × Bool)} {i : Option Nat} {mh : M SR} {qs : List Cm} {x : Exc} {s : S} : tryC (⟨tab, i, mh⟩ :: qs) x s = tryL ⟨tab, i, mh⟩ qs x s (tab.lookup x.name) := by
  show (match tab.lookup x.name with | some true => takeC ⟨tab, i, mh⟩ x | some false => tryC qs x | none => M.fail) s = _
  cases tab.lookup x.name with
  | none => rfl
  | some b => cases b <;> rfl
@[simp] theorem takeC_some {tab : List (Str × Bool)} {i : Nat} {mh : M SR} {x : Exc} {env : List (Option W)} {st : Store} : takeC ⟨tab, some i, mh⟩ x ⟨env, st⟩ = if i < env.length then freeR i (noErr (mh ⟨env.set i (some (.exc x)), st⟩)) else .fail := (rfl)
@[simp] theorem takeC_none {tab : List (Str × Bool)} {mh : M SR} {x : Exc} {s : S} : takeC ⟨tab, none, mh⟩ x s = noErr (mh s) := (rfl)
@[simp] theorem noErr_o {r : SR} {s : S} : noErr (.ok r s) = .ok r s := (rfl)
@[simp] theorem freeR_o {i : Nat} {r : SR} {env : List (Option W)} {st : Store} : freeR i (.ok r ⟨env, st⟩) = .ok r ⟨env.set i none, st⟩ := (rfl)
def lkE (s : S) : Option (Option W) → Out S Exc
  | some (some (.exc x)) => .ok x s
  | _ => .fail
@[simp] theorem lkE_exc {s : S} {x : Exc} : lkE s (some (some (.exc x))) = .ok x s := (rfl)
@[simp] theorem lookE_peek {i : Nat} {env : List (Option W)} {st : Store} : lookE (.peek i) ⟨env, st⟩ = lkE ⟨env, st⟩ env[i]? := by
  unfold lookE excOf
  simp only
  generalize env[i]? = o
  cases o with
  | none => rfl
  | some o =>
    cases o with
    | none => rfl
    | some w => cases w <;> rfl
@[simp] theorem lookE_exc {x : Exc} {s : S} : lookE (.exc x) s = .ok x s := (rfl)
def xfO (cs : List Str) (f : Str) (x : Exc) : Option W := if x.name ∈ cs then (match x.arg with
  | some (g, d) => if g = f then some (.val d) else none
  | none => none) else none
@[simp] theorem eXf_app {cs : List Str} {f : Str} {m : M W} {s : S} : eXf cs f m s = runK (m s) (k := ⟨fun w => lookE w >>= fun x => ofO (xfO cs f x)⟩) := (rfl)
@[simp] theorem eIsE_app {tab : List (Str × Bool)} {m : M W} {s : S} : eIsE tab m s = runK (m s) (k := ⟨fun w => lookE w >>= fun x => ofO ((tab.lookup x.name).map fun b => .val (.bool b))⟩) := (rfl)
@[simp] theorem eDct0_app {s : S} : eDct0 s = .ok (.val (.dict [])) s := (rfl)
/-- what can be shown and compared -/
def okShow (d : D) : Bool := isSeqD d && (d.showable && (!d.hasDict && (decide (d.depth ≤ 60) && (decide (d.shown.length ≤ 1000000) && decide (Okc d.shown)))))
theorem show_same {d : D} (h : okShow d = true) : reprD d = some (.val (.str d.shown)) ∧ neD (.str d.shown) (.str d.shown) = some false := by
  unfold okShow at h
  simp only [Bool.and_eq_true, decide_eq_true_eq, Bool.not_eq_true'] at h
  obtain ⟨h1, h2, h3, h4, h5, h6⟩ := h
  have := sizeLine_big
  exact ⟨if_pos ⟨h1, h2, h3, h4, by omega⟩, ne_same h6⟩
end Z
namespace EV0
open PySem PySem.Spec PyProof.Rows L2 Z
def con_ROW_SIZE : D := .int 3
def con_ZERO : D := .tuple [.int 0, .int 1]
def con_ONE : D := .tuple [.int 1, .int 1]
def con_MOST_DRAWS : D := .int 6
def con_MOST_ROWS : D := .int 8
def con_SQUARE : D := .tuple [.tuple [.tuple [.int 0, .int 1], .tuple [.int 0, .int 1]], .tuple [.tuple [.int 1, .int 1], .tuple [.int 0, .int 1]], .tuple [.tuple [.int 1, .int 1], .tuple [.int 1, .int 1]], .tuple [.tuple [.int 0, .int 1], .tuple [.int 1, .int 1]]]
def con_HALF : D := .tuple [.int 1, .int 2]
def b_check_tuple : M SR := (sIf (cOr (cNot (opTruth (op1 (isi1 "tuple") (eVar 0)))) (opCmp gtD (op1 lenD (eVar 0)) (eVar 1))) sFail sNext)
def m_check_tuple : Fn := fnOf 2 b_check_tuple
def b_is_tuple_of : M SR := (sRet (eAnd (op1 (isi1 "tuple") (eVar 0)) (opCmpV eqD (op1 lenD (eVar 0)) (eVar 1))))
def m_is_tuple_of : Fn := fnOf 2 b_is_tuple_of
def b_is_whole : M SR := (sRet (eAnd (op1 (isi1 "int") (eVar 0)) (eNot (op1 (isi1 "bool") (eVar 0)))))
def m_is_whole : Fn := fnOf 1 b_is_whole
def b_is_fraction : M SR := (seq (sIf (cOr (cNot (opTruth (eCallS 2 m_is_tuple_of (aCons (eVar 0) (aCons (eC (.int 2)) aNil))))) (cOr (cNot (opTruth (eCallS 1 m_is_whole (aCons (opLk ixD (eVar 0) (eC (.int 0))) aNil)))) (cNot (opTruth (eCallS 1 m_is_whole (aCons (opLk ixD (eVar 0) (eC (.int 1))) aNil)))))) (sRet (eC (.bool false))) sNext)
      (sRet (eAnd (opCmpV gtD (opLk ixD (eVar 0) (eC (.int 1))) (eC (.int 0))) (opCmpV eqD (opLk gcdD (opLk ixD (eVar 0) (eC (.int 0))) (opLk ixD (eVar 0) (eC (.int 1)))) (eC (.int 1))))))
def m_is_fraction : Fn := fnOf 1 b_is_fraction
def b_is_unlike_nought : M SR := (sRet (eAnd (eCallS 1 m_is_fraction (aCons (eVar 0) aNil)) (opCmpV neD (opLk ixD (eVar 0) (eC (.int 0))) (eC (.int 0)))))
def m_is_unlike_nought : Fn := fnOf 1 b_is_unlike_nought
def el_is_condition_1 : M W := (eCallS 1 m_is_fraction (aCons (eVar 1) aNil))
def b_is_condition : M SR := (sRet (eAnd (eCallS 2 m_is_tuple_of (aCons (eVar 0) (aCons (eC con_ROW_SIZE) aNil))) (op1 allD (eLc [1] (srcV (eVar 0)) (tName 1) cTrue el_is_condition_1))))
def m_is_condition : Fn := fnOf 2 b_is_condition
def lp_check_each_1 : M SR := (sIf (cNot (opTruth (eCallV 1 1 [("is_unlike_nought", m_is_unlike_nought), ("is_condition", m_is_condition)] (aCons (eVar 3) aNil)))) sFail sNext)
def b_check_each : M SR := (sFor (srcA enumW (aCons (eVar 0) aNil)) (tTupG 2 (tConsG (tName 2) (tConsG (tName 3) tNilG))) lp_check_each_1)
def m_check_each : Fn := fnOf 4 b_check_each
def b_sign_of : M SR := (sRet (opBin subD (op1 intD (opCmpV gtD (eVar 0) (eC (.int 0)))) (op1 intD (opCmpV ltD (eVar 0) (eC (.int 0))))))
def m_sign_of : Fn := fnOf 1 b_sign_of
def b_fraction : M SR := (seq (sAsg 2 (opLk gcdD (eVar 0) (eVar 1)))
      (sRet (eTup (aCons (opBin fdivD (eVar 0) (eVar 2)) (aCons (opBin fdivD (eVar 1) (eVar 2)) aNil)))))
def m_fraction : Fn := fnOf 3 b_fraction
def b_fraction_over : M SR := (seq (sAsg 2 (eCallS 1 m_sign_of (aCons (opLk ixD (eVar 1) (eC (.int 0))) aNil)))
      (sRet (eCallS 2 m_fraction (aCons (opBin mulD (opBin mulD (eVar 2) (opLk ixD (eVar 0) (eC (.int 0)))) (opLk ixD (eVar 1) (eC (.int 1)))) (aCons (opBin mulD (opBin mulD (eVar 2) (opLk ixD (eVar 0) (eC (.int 1)))) (opLk ixD (eVar 1) (eC (.int 0)))) aNil)))))
def m_fraction_over : Fn := fnOf 3 b_fraction_over
def b_fraction_sum : M SR := (sRet (eCallS 2 m_fraction (aCons (opBin addD (opBin mulD (opLk ixD (eVar 0) (eC (.int 0))) (opLk ixD (eVar 1) (eC (.int 1)))) (opBin mulD (opLk ixD (eVar 1) (eC (.int 0))) (opLk ixD (eVar 0) (eC (.int 1))))) (aCons (opBin mulD (opLk ixD (eVar 0) (eC (.int 1))) (opLk ixD (eVar 1) (eC (.int 1)))) aNil))))
def m_fraction_sum : Fn := fnOf 2 b_fraction_sum
def el_lots_of_1 : M W := (eTup (aCons (eCallS 2 m_fraction_sum (aCons (eVar 3) (aCons (eVar 2) aNil))) (aCons (eNeg (eVar 4)) aNil)))
def lp_lots_of_1 : M SR := (sAsg 1 (opBin addD (eVar 1) (eLc [3, 4] (srcV (eVar 1)) (tTupG 2 (tConsG (tName 3) (tConsG (tName 4) tNilG))) cTrue el_lots_of_1)))
def b_lots_of : M SR := (seq (sAsg 1 (eLst (aCons (eTup (aCons (eC con_ZERO) (aCons (eC (.int 1)) aNil))) aNil)))
      (seq (sFor (srcV (eVar 0)) (tName 2) lp_lots_of_1)
      (sRet (eVar 1))))
def m_lots_of : Fn := fnOf 5 b_lots_of
def b_fraction_less : M SR := (sRet (eCallS 2 m_fraction (aCons (opBin subD (opBin mulD (opLk ixD (eVar 0) (eC (.int 0))) (opLk ixD (eVar 1) (eC (.int 1)))) (opBin mulD (opLk ixD (eVar 1) (eC (.int 0))) (opLk ixD (eVar 0) (eC (.int 1))))) (aCons (opBin mulD (opLk ixD (eVar 0) (eC (.int 1))) (opLk ixD (eVar 1) (eC (.int 1)))) aNil))))
def m_fraction_less : Fn := fnOf 2 b_fraction_less
def b_fraction_times : M SR := (sRet (eCallS 2 m_fraction (aCons (opBin mulD (opLk ixD (eVar 0) (eC (.int 0))) (opLk ixD (eVar 1) (eC (.int 0)))) (aCons (opBin mulD (opLk ixD (eVar 0) (eC (.int 1))) (opLk ixD (eVar 1) (eC (.int 1)))) aNil))))
def m_fraction_times : Fn := fnOf 2 b_fraction_times
def lp_power_by_1 : M SR := (sAsg 2 (eCallS 2 m_fraction_times (aCons (eVar 2) (aCons (eVar 0) aNil))))
def b_power_by : M SR := (seq (sAsg 2 (eC con_ONE))
      (seq (sFor (srcA rangeW (aCons (eVar 1) aNil)) (tName 3) lp_power_by_1)
      (sRet (eVar 2))))
def m_power_by : Fn := fnOf 4 b_power_by
def lp_signed_sum_1 : M SR := (seq (sAsg 5 (eCallS 2 m_fraction_less (aCons (eVar 1) (aCons (eVar 3) aNil))))
      (sIf (opCmp gtD (opLk ixD (eVar 5) (eC (.int 0))) (eC (.int 0))) (sAsg 2 (eCallS 2 m_fraction_sum (aCons (eVar 2) (aCons (eCallS 2 m_fraction_times (aCons (eTup (aCons (eVar 4) (aCons (eC (.int 1)) aNil))) (aCons (eCallS 2 m_power_by (aCons (eVar 5) (aCons (op1 lenD (eVar 0)) aNil))) aNil))) aNil)))) sNext))
def b_signed_sum : M SR := (seq (sAsg 2 (eC con_ZERO))
      (seq (sFor (srcV (eCallS 1 m_lots_of (aCons (eVar 0) aNil))) (tTupG 2 (tConsG (tName 3) (tConsG (tName 4) tNilG))) lp_signed_sum_1)
      (sRet (eVar 2))))
def m_signed_sum : Fn := fnOf 6 b_signed_sum
def lp_orders_times_1 : M SR := (sAsg 1 (eCallS 2 m_fraction_times (aCons (eVar 1) (aCons (eCallS 2 m_fraction_times (aCons (eTup (aCons (eVar 2) (aCons (eC (.int 1)) aNil))) (aCons (eVar 3) aNil))) aNil))))
def b_orders_times : M SR := (seq (sAsg 1 (eC con_ONE))
      (seq (sFor (srcA enumW2 (aCons (eVar 0) (aCons (eC (.int 1)) aNil))) (tTupG 2 (tConsG (tName 2) (tConsG (tName 3) tNilG))) lp_orders_times_1)
      (sRet (eVar 1))))
def m_orders_times : Fn := fnOf 4 b_orders_times
def lp_part_of_box_1 : M SR := (seq (sExpr (eAppend (eVar 2) (eTup (aCons (op1 absD (eVar 4)) (aCons (eVar 5) aNil)))))
      (sAsg 3 (eIf (opCmp ltD (eVar 4) (eC (.int 0))) (eCallS 2 m_fraction_less (aCons (eVar 3) (aCons (eTup (aCons (eVar 4) (aCons (eVar 5) aNil))) aNil))) (eVar 3))))
def b_part_of_box : M SR := (seq (sPar [2, 3] (hCons (eLst aNil) (hCons (eVar 1) aNil)))
      (seq (sFor (srcV (eVar 0)) (tTupG 2 (tConsG (tName 4) (tConsG (tName 5) tNilG))) lp_part_of_box_1)
      (sRet (eCallS 2 m_fraction_over (aCons (eCallS 2 m_signed_sum (aCons (eVar 2) (aCons (eVar 3) aNil))) (aCons (eCallS 1 m_orders_times (aCons (eVar 2) aNil)) aNil))))))
def m_part_of_box : Fn := fnOf 6 b_part_of_box
def b_part_below : M SR := (seq (sExpr (eCallS 2 m_check_tuple (aCons (eVar 0) (aCons (eC con_MOST_DRAWS) aNil))))
      (seq (sExpr (eCallS 2 m_check_each (aCons (eVar 0) (aCons (eFn "is_unlike_nought") aNil))))
      (seq (sIf (cNot (opTruth (eCallS 1 m_is_fraction (aCons (eVar 1) aNil)))) sFail sNext)
      (sRet (eCallS 2 m_part_of_box (aCons (eVar 0) (aCons (eVar 1) aNil)))))))
def m_part_below : Fn := fnOf 2 b_part_below
def b__law_f : M SR := (seq (sPar [2, 3] (hCons (op1 absD (eVar 0)) (hCons (op1 absD (eVar 1)) aNil)))
      (seq (whileF (opCmp gtD (eVar 3) (eC (.int 0))) (sPar [2, 3] (hCons (eVar 3) (hCons (opBin modD (op1 intD (eVar 2)) (eVar 3)) aNil))) 100000)
      (seq (sAsg 2 (eIf (opCmp gtD (eVar 1) (eC (.int 0))) (eVar 2) (opBin subD (eC (.int 0)) (eVar 2))))
      (sRet (eTup (aCons (opBin fdivD (eVar 0) (eVar 2)) (aCons (opBin fdivD (eVar 1) (eVar 2)) aNil)))))))
def m__law_f : Fn := fnOf 4 b__law_f
def b__law_plus : M SR := (sRet (eCallS 2 m__law_f (aCons (opBin addD (opBin mulD (opLk ixD (eVar 0) (eC (.int 0))) (opLk ixD (eVar 1) (eC (.int 1)))) (opBin mulD (opLk ixD (eVar 1) (eC (.int 0))) (opLk ixD (eVar 0) (eC (.int 1))))) (aCons (opBin mulD (opLk ixD (eVar 0) (eC (.int 1))) (opLk ixD (eVar 1) (eC (.int 1)))) aNil))))
def m__law_plus : Fn := fnOf 2 b__law_plus
def lp__law_sum_1 : M SR := (sAsg 1 (eCallS 2 m__law_plus (aCons (eVar 1) (aCons (eVar 2) aNil))))
def b__law_sum : M SR := (seq (sAsg 1 (eTup (aCons (eC (.int 0)) (aCons (eC (.int 1)) aNil))))
      (seq (sFor (srcV (eVar 0)) (tName 2) lp__law_sum_1)
      (sRet (eVar 1))))
def m__law_sum : Fn := fnOf 3 b__law_sum
def b__law_less : M SR := (sRet (eCallS 2 m__law_f (aCons (opBin subD (opBin mulD (opLk ixD (eVar 0) (eC (.int 0))) (opLk ixD (eVar 1) (eC (.int 1)))) (opBin mulD (opLk ixD (eVar 1) (eC (.int 0))) (opLk ixD (eVar 0) (eC (.int 1))))) (aCons (opBin mulD (opLk ixD (eVar 0) (eC (.int 1))) (opLk ixD (eVar 1) (eC (.int 1)))) aNil))))
def m__law_less : Fn := fnOf 2 b__law_less
def b__law_over : M SR := (sRet (eCallS 2 m__law_f (aCons (opBin mulD (opLk ixD (eVar 0) (eC (.int 0))) (opLk ixD (eVar 1) (eC (.int 1)))) (aCons (opBin mulD (opLk ixD (eVar 0) (eC (.int 1))) (opLk ixD (eVar 1) (eC (.int 0)))) aNil))))
def m__law_over : Fn := fnOf 2 b__law_over
def b__law_times : M SR := (sRet (eCallS 2 m__law_f (aCons (opBin mulD (opLk ixD (eVar 0) (eC (.int 0))) (opLk ixD (eVar 1) (eC (.int 0)))) (aCons (opBin mulD (opLk ixD (eVar 0) (eC (.int 1))) (opLk ixD (eVar 1) (eC (.int 1)))) aNil))))
def m__law_times : Fn := fnOf 2 b__law_times
def lp__law_part_below_1 : M SR := (seq (sAsg 2 (eIf (opCmp ltD (opLk ixD (eVar 4) (eC (.int 0))) (eC (.int 0))) (eCallS 2 m__law_less (aCons (eVar 2) (aCons (eVar 4) aNil))) (eVar 2)))
      (sExpr (eAppend (eVar 3) (eTup (aCons (op1 absD (opLk ixD (eVar 4) (eC (.int 0)))) (aCons (opLk ixD (eVar 4) (eC (.int 1))) aNil))))))
def el__law_part_below_1 : M W := (eTup (aCons (eCallS 2 m__law_plus (aCons (eVar 9) (aCons (opLk ixD (eVar 3) (eVar 7)) aNil))) (aCons (opBin subD (eC (.int 0)) (eVar 10)) aNil)))
def lp__law_part_below_2 : M SR := (seq (sAsg 5 (opBin addD (eVar 5) (eLc [9, 10] (srcV (eVar 5)) (tTupG 2 (tConsG (tName 9) (tConsG (tName 10) tNilG))) cTrue el__law_part_below_1)))
      (sAsg 6 (eCallS 2 m__law_times (aCons (eVar 6) (aCons (eCallS 2 m__law_times (aCons (opLk ixD (eVar 3) (eVar 7)) (aCons (eTup (aCons (opBin addD (eVar 7) (eC (.int 1))) (aCons (eC (.int 1)) aNil))) aNil))) aNil)))))
def lp__law_part_below_3 : M SR := (sAsg 12 (eCallS 2 m__law_times (aCons (eVar 12) (aCons (eVar 11) aNil))))
def lp__law_part_below_4 : M SR := (seq (sPar [11, 12] (hCons (eCallS 2 m__law_less (aCons (eVar 2) (aCons (eVar 9) aNil))) (hCons (eTup (aCons (eC (.int 1)) (aCons (eC (.int 1)) aNil))) aNil)))
      (sIf (opCmp gtD (opLk ixD (eVar 11) (eC (.int 0))) (eC (.int 0))) (seq (sFor (srcA rangeW (aCons (op1 lenD (eVar 3)) aNil)) (tName 7) lp__law_part_below_3)
      (sAsg 8 (eCallS 2 m__law_plus (aCons (eVar 8) (aCons (eTup (aCons (opBin mulD (eVar 10) (opLk ixD (eVar 12) (eC (.int 0)))) (aCons (opLk ixD (eVar 12) (eC (.int 1))) aNil))) aNil))))) sNext))
def b__law_part_below : M SR := (seq (sPar [2, 3] (hCons (eVar 1) (hCons (eLst aNil) aNil)))
      (seq (sFor (srcV (eVar 0)) (tName 4) lp__law_part_below_1)
      (seq (sPar [5, 6] (hCons (eLst (aCons (eTup (aCons (eTup (aCons (eC (.int 0)) (aCons (eC (.int 1)) aNil))) (aCons (eC (.int 1)) aNil))) aNil)) (hCons (eTup (aCons (eC (.int 1)) (aCons (eC (.int 1)) aNil))) aNil)))
      (seq (sFor (srcA rangeW (aCons (op1 lenD (eVar 3)) aNil)) (tName 7) lp__law_part_below_2)
      (seq (sAsg 8 (eTup (aCons (eC (.int 0)) (aCons (eC (.int 1)) aNil))))
      (seq (sFor (srcV (eVar 5)) (tTupG 2 (tConsG (tName 9) (tConsG (tName 10) tNilG))) lp__law_part_below_4)
      (sRet (eCallS 2 m__law_over (aCons (eVar 8) (aCons (eVar 6) aNil))))))))))
def m__law_part_below : Fn := fnOf 13 b__law_part_below
def b__law_sign : M SR := (sRet (eIf (opCmp gtD (opLk ixD (eVar 0) (eC (.int 0))) (eC (.int 0))) (eC (.int 1)) (eIf (opCmp ltD (opLk ixD (eVar 0) (eC (.int 0))) (eC (.int 0))) (eNeg (eC (.int 1))) (eC (.int 0)))))
def m__law_sign : Fn := fnOf 1 b__law_sign
def el__law_clipped_1 : M W := (eCallS 2 m__law_less (aCons (eCallS 2 m__law_plus (aCons (eCallS 2 m__law_times (aCons (eVar 2) (aCons (opLk ixD (eVar 11) (eC (.int 0))) aNil))) (aCons (eCallS 2 m__law_times (aCons (eVar 3) (aCons (opLk ixD (eVar 11) (eC (.int 1))) aNil))) aNil))) (aCons (eVar 4) aNil)))
def el__law_clipped_2 : M W := (eCallS 2 m__law_plus (aCons (opLk ixD (eVar 9) (eVar 12)) (aCons (eCallS 2 m__law_times (aCons (eVar 10) (aCons (eCallS 2 m__law_less (aCons (opLk ixD (eVar 8) (eVar 12)) (aCons (opLk ixD (eVar 9) (eVar 12)) aNil))) aNil))) aNil)))
def lp__law_clipped_1 : M SR := (seq (sPar [8, 9] (hCons (opLk ixD (eVar 1) (eVar 7)) (hCons (opLk ixD (eVar 1) (opBin subD (eVar 7) (eC (.int 1)))) aNil)))
      (seq (sIf (opCmp ltD (opBin mulD (eCallS 1 m__law_sign (aCons (opLk ixD (eVar 5) (eVar 7)) aNil)) (eCallS 1 m__law_sign (aCons (opLk ixD (eVar 5) (opBin subD (eVar 7) (eC (.int 1)))) aNil))) (eC (.int 0))) (seq (sAsg 10 (eCallS 2 m__law_over (aCons (opLk ixD (eVar 5) (opBin subD (eVar 7) (eC (.int 1)))) (aCons (eCallS 2 m__law_less (aCons (opLk ixD (eVar 5) (opBin subD (eVar 7) (eC (.int 1)))) (aCons (opLk ixD (eVar 5) (eVar 7)) aNil))) aNil))))
      (sExpr (eAppend (eVar 6) (op1 tupleD (eLc [12] (srcA rangeW (aCons (eC (.int 2)) aNil)) (tName 12) cTrue el__law_clipped_2))))) sNext)
      (sIf (opCmp leD (opLk ixD (opLk ixD (eVar 5) (eVar 7)) (eC (.int 0))) (eC (.int 0))) (sExpr (eAppend (eVar 6) (eVar 8))) sNext)))
def el__law_clipped_3 : M W := (opLk ixD (eVar 6) (eVar 7))
def lp__law_clipped_2 : M SR := (seq (sAsg 5 (eLc [11] (srcV (eVar 1)) (tName 11) cTrue el__law_clipped_1))
      (seq (sAsg 6 (eLst aNil))
      (seq (sFor (srcA rangeW (aCons (op1 lenD (eVar 1)) aNil)) (tName 7) lp__law_clipped_1)
      (sAsg 1 (eLc [7] (srcA rangeW (aCons (op1 lenD (eVar 6)) aNil)) (tName 7) (opCmp ninD (opLk ixD (eVar 6) (eVar 7)) (eSl (eVar 6) pNone (pSome (eVar 7)))) el__law_clipped_3)))))
def b__law_clipped : M SR := (seq (sAsg 1 (eLst (aCons (eTup (aCons (eTup (aCons (eC (.int 0)) (aCons (eC (.int 1)) aNil))) (aCons (eTup (aCons (eC (.int 0)) (aCons (eC (.int 1)) aNil))) aNil))) (aCons (eTup (aCons (eTup (aCons (eC (.int 1)) (aCons (eC (.int 1)) aNil))) (aCons (eTup (aCons (eC (.int 0)) (aCons (eC (.int 1)) aNil))) aNil))) (aCons (eTup (aCons (eTup (aCons (eC (.int 1)) (aCons (eC (.int 1)) aNil))) (aCons (eTup (aCons (eC (.int 1)) (aCons (eC (.int 1)) aNil))) aNil))) (aCons (eTup (aCons (eTup (aCons (eC (.int 0)) (aCons (eC (.int 1)) aNil))) (aCons (eTup (aCons (eC (.int 1)) (aCons (eC (.int 1)) aNil))) aNil))) aNil))))))
      (seq (sFor (srcV (eVar 0)) (tTupG 3 (tConsG (tName 2) (tConsG (tName 3) (tConsG (tName 4) tNilG)))) lp__law_clipped_2)
      (sRet (eVar 1))))
def m__law_clipped : Fn := fnOf 13 b__law_clipped
def b_check_rows : M SR := (seq (sExpr (eCallS 2 m_check_tuple (aCons (eVar 0) (aCons (eC con_MOST_ROWS) aNil))))
      (sExpr (eCallS 2 m_check_each (aCons (eVar 0) (aCons (eFn "is_condition") aNil)))))
def m_check_rows : Fn := fnOf 1 b_check_rows
def b_turn_at : M SR := (seq (sAsg 3 (eCallS 2 m_fraction_times (aCons (eCallS 2 m_fraction_less (aCons (opLk ixD (eVar 1) (eC (.int 0))) (aCons (opLk ixD (eVar 0) (eC (.int 0))) aNil))) (aCons (eCallS 2 m_fraction_less (aCons (opLk ixD (eVar 2) (eC (.int 1))) (aCons (opLk ixD (eVar 0) (eC (.int 1))) aNil))) aNil))))
      (sRet (eCallS 2 m_fraction_less (aCons (eVar 3) (aCons (eCallS 2 m_fraction_times (aCons (eCallS 2 m_fraction_less (aCons (opLk ixD (eVar 2) (eC (.int 0))) (aCons (opLk ixD (eVar 0) (eC (.int 0))) aNil))) (aCons (eCallS 2 m_fraction_less (aCons (opLk ixD (eVar 1) (eC (.int 1))) (aCons (opLk ixD (eVar 0) (eC (.int 1))) aNil))) aNil))) aNil)))))
def m_turn_at : Fn := fnOf 4 b_turn_at
def lp_turning_points_1 : M SR := (sIf (opCmp neD (opLk ixD (eCallS 3 m_turn_at (aCons (opLk ixD (eVar 0) (opBin subD (eVar 2) (eC (.int 1)))) (aCons (eVar 3) (aCons (opLk ixD (eVar 0) (opBin modD (opBin addD (eVar 2) (eC (.int 1))) (op1 lenD (eVar 0)))) aNil)))) (eC (.int 0))) (eC (.int 0))) (sExpr (eAppend (eVar 1) (eVar 3))) sNext)
def b_turning_points : M SR := (seq (sAsg 1 (eLst aNil))
      (seq (sFor (srcA enumW (aCons (eVar 0) aNil)) (tTupG 2 (tConsG (tName 2) (tConsG (tName 3) tNilG))) lp_turning_points_1)
      (sRet (eVar 1))))
def m_turning_points : Fn := fnOf 4 b_turning_points
def b_excess_at : M SR := (seq (sAsg 2 (eCallS 2 m_fraction_sum (aCons (eCallS 2 m_fraction_times (aCons (opLk ixD (eVar 0) (eC (.int 0))) (aCons (opLk ixD (eVar 1) (eC (.int 0))) aNil))) (aCons (eCallS 2 m_fraction_times (aCons (opLk ixD (eVar 0) (eC (.int 1))) (aCons (opLk ixD (eVar 1) (eC (.int 1))) aNil))) aNil))))
      (sRet (eCallS 2 m_fraction_less (aCons (eVar 2) (aCons (opLk ixD (eVar 0) (eC (.int 2))) aNil)))))
def m_excess_at : Fn := fnOf 3 b_excess_at
def el_between_1 : M W := (eCallS 2 m_fraction_times (aCons (eVar 2) (aCons (eCallS 2 m_fraction_less (aCons (eVar 5) (aCons (eVar 4) aNil))) aNil)))
def b_between : M SR := (seq (sAsg 3 (eLc [4, 5] (srcA zipW (aCons (eVar 0) (aCons (eVar 1) aNil))) (tTupG 2 (tConsG (tName 4) (tConsG (tName 5) tNilG))) cTrue el_between_1))
      (sRet (eTup (aCons (eCallS 2 m_fraction_sum (aCons (opLk ixD (eVar 0) (eC (.int 0))) (aCons (opLk ixD (eVar 3) (eC (.int 0))) aNil))) (aCons (eCallS 2 m_fraction_sum (aCons (opLk ixD (eVar 0) (eC (.int 1))) (aCons (opLk ixD (eVar 3) (eC (.int 1))) aNil))) aNil)))))
def m_between : Fn := fnOf 6 b_between
def b_crossing : M SR := (sRet (eCallS 3 m_between (aCons (eVar 0) (aCons (eVar 1) (aCons (eCallS 2 m_fraction_over (aCons (eVar 2) (aCons (eCallS 2 m_fraction_less (aCons (eVar 2) (aCons (eVar 3) aNil))) aNil))) aNil)))))
def m_crossing : Fn := fnOf 4 b_crossing
def el_clipped_1 : M W := (eCallS 2 m_excess_at (aCons (eVar 1) (aCons (eVar 9) aNil)))
def lp_clipped_1 : M SR := (seq (sAsg 6 (opBin modD (opBin addD (eVar 4) (eC (.int 1))) (op1 lenD (eVar 0))))
      (seq (sPar [7, 8] (hCons (opLk ixD (eVar 3) (eVar 4)) (hCons (opLk ixD (eVar 3) (eVar 6)) aNil)))
      (seq (sIf (opCmp leD (opLk ixD (eVar 7) (eC (.int 0))) (eC (.int 0))) (sExpr (eAppend (eVar 2) (eVar 5))) sNext)
      (sIf (cOr (opChain ltD ltD (opLk ixD (eVar 7) (eC (.int 0))) (eC (.int 0)) (opLk ixD (eVar 8) (eC (.int 0)))) (opChain ltD ltD (opLk ixD (eVar 8) (eC (.int 0))) (eC (.int 0)) (opLk ixD (eVar 7) (eC (.int 0))))) (sExpr (eAppend (eVar 2) (eCallS 4 m_crossing (aCons (eVar 5) (aCons (opLk ixD (eVar 0) (eVar 6)) (aCons (eVar 7) (aCons (eVar 8) aNil))))))) sNext))))
def b_clipped : M SR := (seq (sPar [2, 3] (hCons (eLst aNil) (hCons (eLc [9] (srcV (eVar 0)) (tName 9) cTrue el_clipped_1) aNil)))
      (seq (sFor (srcA enumW (aCons (eVar 0) aNil)) (tTupG 2 (tConsG (tName 4) (tConsG (tName 5) tNilG))) lp_clipped_1)
      (sRet (eVar 2))))
def m_clipped : Fn := fnOf 10 b_clipped
def el_unlike_points_1 : M W := (eVar 2)
def b_unlike_points : M SR := (sRet (eLc [1, 2] (srcA enumW (aCons (eVar 0) aNil)) (tTupG 2 (tConsG (tName 1) (tConsG (tName 2) tNilG))) (opCmp ninD (eVar 2) (eSl (eVar 0) pNone (pSome (eVar 1)))) el_unlike_points_1))
def m_unlike_points : Fn := fnOf 3 b_unlike_points
def b_is_above : M SR := (sRet (opCmpV gtD (opBin mulD (opLk ixD (eVar 0) (eC (.int 0))) (opLk ixD (eVar 1) (eC (.int 1)))) (opBin mulD (opLk ixD (eVar 1) (eC (.int 0))) (opLk ixD (eVar 0) (eC (.int 1))))))
def m_is_above : Fn := fnOf 2 b_is_above
def b_is_less_point : M SR := (seq (sIf (opCmp neD (opLk ixD (eVar 0) (eC (.int 0))) (opLk ixD (eVar 1) (eC (.int 0)))) (sRet (eCallS 2 m_is_above (aCons (opLk ixD (eVar 1) (eC (.int 0))) (aCons (opLk ixD (eVar 0) (eC (.int 0))) aNil)))) sNext)
      (sRet (eCallS 2 m_is_above (aCons (opLk ixD (eVar 1) (eC (.int 1))) (aCons (opLk ixD (eVar 0) (eC (.int 1))) aNil)))))
def m_is_less_point : Fn := fnOf 2 b_is_less_point
def lp_least_first_1 : M SR := (sAsg 1 (eIf (opTruth (eCallS 2 m_is_less_point (aCons (eVar 3) (aCons (opLk ixD (eVar 0) (eVar 1)) aNil)))) (eVar 2) (eVar 1)))
def b_least_first : M SR := (seq (sAsg 1 (eC (.int 0)))
      (seq (sFor (srcA enumW (aCons (eVar 0) aNil)) (tTupG 2 (tConsG (tName 2) (tConsG (tName 3) tNilG))) lp_least_first_1)
      (sRet (op1 tupleD (opBin addD (eSl (eVar 0) (pSome (eVar 1)) pNone) (eSl (eVar 0) pNone (pSome (eVar 1))))))))
def m_least_first : Fn := fnOf 4 b_least_first
def lp_polygon_by_1 : M SR := (sAsg 1 (eCallS 2 m_clipped (aCons (eVar 1) (aCons (eVar 2) aNil))))
def b_polygon_by : M SR := (seq (sAsg 1 (op1 listD (eC con_SQUARE)))
      (seq (sFor (srcV (eVar 0)) (tName 2) lp_polygon_by_1)
      (seq (sAsg 3 (eCallS 1 m_turning_points (aCons (eCallS 1 m_unlike_points (aCons (eVar 1) aNil)) aNil)))
      (sRet (eIf (opCmp gtD (op1 lenD (eVar 3)) (eC (.int 2))) (eCallS 1 m_least_first (aCons (eVar 3) aNil)) (eTup aNil))))))
def m_polygon_by : Fn := fnOf 4 b_polygon_by
def lp_area_by_1 : M SR := (sAsg 2 (eCallS 2 m_fraction_sum (aCons (eVar 2) (aCons (eCallS 3 m_turn_at (aCons (opLk ixD (eVar 1) (eC (.int 0))) (aCons (eVar 3) (aCons (eVar 4) aNil)))) aNil))))
def b_area_by : M SR := (seq (sPar [1, 2] (hCons (eCallS 1 m_polygon_by (aCons (eVar 0) aNil)) (hCons (eC con_ZERO) aNil)))
      (seq (sFor (srcA zipW (aCons (eSl (eVar 1) (pSome (eC (.int 1))) pNone) (aCons (eSl (eVar 1) (pSome (eC (.int 2))) pNone) aNil))) (tTupG 2 (tConsG (tName 3) (tConsG (tName 4) tNilG))) lp_area_by_1)
      (sRet (eCallS 2 m_fraction_times (aCons (eC con_HALF) (aCons (eVar 2) aNil))))))
def m_area_by : Fn := fnOf 5 b_area_by
def b_area : M SR := (seq (sExpr (eCallS 1 m_check_rows (aCons (eVar 0) aNil)))
      (sRet (eCallS 1 m_area_by (aCons (eVar 0) aNil))))
def m_area : Fn := fnOf 1 b_area
def el__law_cross_1 : M W := (eCallS 2 m__law_less (aCons (opLk ixD (eVar 2) (eVar 5)) (aCons (opLk ixD (eVar 0) (eVar 5)) aNil)))
def el__law_cross_2 : M W := (eCallS 2 m__law_less (aCons (opLk ixD (eVar 1) (eVar 5)) (aCons (opLk ixD (eVar 0) (eVar 5)) aNil)))
def b__law_cross : M SR := (seq (sPar [3, 4] (hCons (eLc [5] (srcA rangeW (aCons (eC (.int 2)) aNil)) (tName 5) cTrue el__law_cross_2) (hCons (eLc [5] (srcA rangeW (aCons (eC (.int 2)) aNil)) (tName 5) cTrue el__law_cross_1) aNil)))
      (sRet (eCallS 2 m__law_less (aCons (eCallS 2 m__law_times (aCons (opLk ixD (eVar 3) (eC (.int 0))) (aCons (opLk ixD (eVar 4) (eC (.int 1))) aNil))) (aCons (eCallS 2 m__law_times (aCons (opLk ixD (eVar 3) (eC (.int 1))) (aCons (opLk ixD (eVar 4) (eC (.int 0))) aNil))) aNil)))))
def m__law_cross : Fn := fnOf 6 b__law_cross
def el__law_area_1 : M W := (eCallS 3 m__law_cross (aCons (opLk ixD (eVar 0) (eC (.int 0))) (aCons (opLk ixD (eVar 0) (eVar 2)) (aCons (opLk ixD (eVar 0) (opBin addD (eVar 2) (eC (.int 1)))) aNil))))
def b__law_area : M SR := (seq (sAsg 1 (eLc [2] (srcA rangeW2 (aCons (eC (.int 1)) (aCons (opBin subD (op1 lenD (eVar 0)) (eC (.int 1))) aNil))) (tName 2) cTrue el__law_area_1))
      (sRet (eCallS 2 m__law_times (aCons (eCallS 1 m__law_sum (aCons (eVar 1) aNil)) (aCons (eTup (aCons (eC (.int 1)) (aCons (eC (.int 2)) aNil))) aNil)))))
def m__law_area : Fn := fnOf 3 b__law_area
end EV0
namespace SC
/-! ### signed corners: plain -/
def sumR (l : List Rat) : Rat := l.foldr (· + ·) 0
def prodR (l : List Rat) : Rat := l.foldr (· * ·) 1
@[simp] theorem sumR_nil : sumR [] = 0 := rfl
@[simp] theorem sumR_cons (a : Rat) (l : List Rat) : sumR (a :: l) = a + sumR l := rfl
@[simp] theorem prodR_nil : prodR [] = 1 := rfl
@[simp] theorem prodR_cons (a : Rat) (l : List Rat) : prodR (a :: l) = a * prodR l := rfl
/-- differences -/
def dif : List Rat → (Rat → Rat) → Rat → Rat
  | [], f, t => f t
  | w :: ws, f, t => dif ws f t - dif ws f (t - w)
theorem dif_perm {a b : List Rat} (h : a.Perm b) : ∀ f t, dif a f t = dif b f t := by
  induction h with
  | nil => intro f t; rfl
  | cons x _ ih => intro f t; simp only [dif, ih]
  | swap x y l =>
    intro f t
    simp only [dif]
    have : t - y - x = t - x - y := by grind
    rw [this]; grind
  | trans _ _ h1 h2 => intro f t; rw [h1, h2]
def splits : List Rat → List (Rat × List Rat)
  | [] => []
  | w :: ws => (w, ws) :: (splits ws).map fun p => (p.1, w :: p.2)
theorem splits_perm : ∀ {ws : List Rat} {p : Rat × List Rat}, p ∈ splits ws → (p.1 :: p.2).Perm ws
  | [], p, h => by cases h
  | w :: ws, p, h => by
    rcases List.mem_cons.mp h with rfl | h
    · exact List.Perm.refl _
    · obtain ⟨q, hq, rfl⟩ := List.mem_map.mp h
      exact (List.Perm.swap _ _ _).trans ((splits_perm hq).cons w)
theorem splits_length : ∀ ws : List Rat, (splits ws).length = ws.length
  | [] => rfl
  | w :: ws => by simp [splits, splits_length ws]
theorem splits_sum : ∀ ws : List Rat, sumR ((splits ws).map (·.1)) = sumR ws
  | [] => rfl
  | w :: ws => by
    have := splits_sum ws
    simp only [splits, List.map_cons, List.map_map, sumR_cons]
    rw [← this]
    rfl
theorem sumR_map_add {α : Type} (f g : α → Rat) : ∀ l : List α, sumR (l.map fun x => f x + g x) = sumR (l.map f) + sumR (l.map g)
  | [] => by simp [Rat.add_zero]
  | x :: l => by simp only [List.map_cons, sumR_cons, sumR_map_add f g l]; grind
theorem sumR_map_mul {α : Type} (c : Rat) (f : α → Rat) : ∀ l : List α, sumR (l.map fun x => c * f x) = c * sumR (l.map f)
  | [] => by simp [Rat.mul_zero]
  | x :: l => by simp only [List.map_cons, sumR_cons, sumR_map_mul c f l]; grind
theorem sumR_congr {α : Type} {f g : α → Rat} {l : List α} (h : ∀ x ∈ l, f x = g x) : sumR (l.map f) = sumR (l.map g) := by rw [List.map_congr_left h]
theorem dif_x (f : Rat → Rat) : ∀ (ws : List Rat) (t : Rat), dif ws (fun x => x * f x) t = t * dif ws f t + sumR ((splits ws).map fun p => p.1 * dif p.2 f (t - p.1))
  | [], t => by simp [dif, splits, Rat.add_zero]
  | w :: ws, t => by
    have h1 := dif_x f ws t
    have h2 := dif_x f ws (t - w)
    simp only [dif, splits, List.map_cons, List.map_map, sumR_cons, h1, h2]
    have h3 : sumR ((splits ws).map ((fun p => p.1 * dif p.2 f (t - p.1)) ∘ fun p => (p.1, w :: p.2))) = sumR ((splits ws).map fun p => p.1 * dif p.2 f (t - p.1)) + sumR ((splits ws).map fun p => (-1) * (p.1 * dif p.2 f (t - w - p.1))) := by
      rw [← sumR_map_add]
      refine sumR_congr fun p _ => ?_
      show p.1 * (dif p.2 f (t - p.1) - dif p.2 f (t - p.1 - w)) = _
      have : t - p.1 - w = t - w - p.1 := by grind
      rw [this]; grind
    rw [h3, sumR_map_mul]
    grind
def factR : Nat → Rat
  | 0 => 1
  | n + 1 => (n + 1 : Nat) * factR n
theorem prodR_perm {a b : List Rat} (h : a.Perm b) : prodR a = prodR b := by
  induction h with
  | nil => rfl
  | cons x _ ih => simp [ih]
  | swap x y l => simp only [prodR_cons]; grind
  | trans _ _ h1 h2 => rw [h1, h2]
theorem sumR_perm {a b : List Rat} (h : a.Perm b) : sumR a = sumR b := by
  induction h with
  | nil => rfl
  | cons x _ ih => simp [ih]
  | swap x y l => simp only [sumR_cons]; grind
  | trans _ _ h1 h2 => rw [h1, h2]
theorem sumR_const {α : Type} (c : Rat) : ∀ l : List α, sumR (l.map fun _ => c) = (l.length : Nat) * c
  | [] => by simp [Rat.zero_mul]
  | x :: l => by
    simp only [List.map_cons, sumR_cons, sumR_const c l, List.length_cons]
    have : (((l.length + 1 : Nat)) : Rat) = (l.length : Nat) + 1 := by exact_mod_cast rfl
    rw [this]; grind
/-- the plain powers -/
theorem dif_pow : ∀ (n : Nat) (ws : List Rat), ws.length = n → ∀ t, dif ws (fun x => x ^ n) t = factR n * prodR ws
  | 0, ws, h, t => by
    obtain rfl := List.length_eq_zero_iff.mp h
    simp [dif, factR, Rat.mul_one]
  | n + 1, ws, h, t => by
    have e : dif ws (fun x => x ^ (n + 1)) t = dif ws (fun x => x * x ^ n) t := by
      congr 1
      funext x
      rw [Rat.pow_succ]; grind
    rw [e, dif_x]
    have z : dif ws (fun x => x ^ n) t = 0 := by
      cases ws with
      | nil => simp at h
      | cons w ws =>
        have hl : ws.length = n := by simpa using h
        simp only [dif, dif_pow n ws hl]
        grind
    have s : sumR ((splits ws).map fun p => p.1 * dif p.2 (fun x => x ^ n) (t - p.1)) = sumR ((splits ws).map fun _ => factR n * prodR ws) := by
      refine sumR_congr fun p hp => ?_
      have hpm := splits_perm hp
      have hl : p.2.length = n := by
        have := hpm.length_eq
        simp at this; omega
      rw [dif_pow n p.2 hl, ← prodR_perm hpm, prodR_cons]
      grind
    rw [z, s, sumR_const, splits_length, h]
    simp only [factR]
    grind
/-- cut off below 0 -/
def pp (n : Nat) (t : Rat) : Rat := if 0 < t then t ^ n else 0
theorem pp_succ (n : Nat) (t : Rat) : pp (n + 1) t = t * pp n t := by
  unfold pp
  split
  · rw [Rat.pow_succ]; grind
  · grind
def PosL (ws : List Rat) : Prop := ∀ w ∈ ws, 0 < w
theorem prodR_pos : ∀ {ws : List Rat}, PosL ws → 0 < prodR ws
  | [], _ => by decide
  | w :: ws, h => Rat.mul_pos (h w (List.mem_cons_self ..)) (prodR_pos fun x hx => h x (List.mem_cons_of_mem _ hx))
theorem sumR_nonneg : ∀ {ws : List Rat}, (∀ w ∈ ws, 0 ≤ w) → 0 ≤ sumR ws
  | [], _ => by decide
  | w :: ws, h => by
    have h1 := h w (List.mem_cons_self ..)
    have h2 := sumR_nonneg (ws := ws) fun x hx => h x (List.mem_cons_of_mem _ hx)
    simp only [sumR_cons]; grind
theorem sumR_le {α : Type} {f g : α → Rat} : ∀ {l : List α}, (∀ x ∈ l, f x ≤ g x) → sumR (l.map f) ≤ sumR (l.map g)
  | [], _ => by simp
  | x :: l, h => by
    have h1 := h x (List.mem_cons_self ..)
    have h2 := sumR_le (l := l) fun y hy => h y (List.mem_cons_of_mem _ hy)
    simp only [List.map_cons, sumR_cons]; grind
theorem factR_pos : ∀ n, 0 < factR n
  | 0 => by decide
  | n + 1 => Rat.mul_pos (by have : (0 : Int) < ((n + 1 : Nat) : Int) := by omega
                             exact_mod_cast this) (factR_pos n)
theorem dif_low {n : Nat} : ∀ {ws : List Rat}, PosL ws → ∀ {t : Rat}, t ≤ 0 → dif ws (pp n) t = 0
  | [], _, t, h => by simp [dif, pp]; grind
  | w :: ws, hp, t, h => by
    have hw := hp w (List.mem_cons_self ..)
    have hs : PosL ws := fun x hx => hp x (List.mem_cons_of_mem _ hx)
    simp only [dif, dif_low hs h, dif_low hs (t := t - w) (by grind)]
    grind
/-- turned round -/
theorem dif_turn {f : Rat → Rat} : ∀ (ws : List Rat) (t : Rat), dif ws (fun x => f (-x)) t = (-1) ^ ws.length * dif ws f (sumR ws - t)
  | [], t => by
    simp only [dif, sumR_nil, List.length_nil, Rat.pow_zero]
    rw [show (0 : Rat) - t = -t by grind, Rat.one_mul]
  | w :: ws, t => by
    simp only [dif, dif_turn ws, sumR_cons, List.length_cons, Rat.pow_succ]
    have h1 : sumR ws - (t - w) = w + sumR ws - t := by grind
    have h2 : w + sumR ws - t - w = sumR ws - t := by grind
    rw [h1, h2]; grind
theorem dif_add (f g : Rat → Rat) (c : Rat) : ∀ (ws : List Rat) (t : Rat), dif ws (fun x => f x + c * g x) t = dif ws f t + c * dif ws g t
  | [], t => rfl
  | w :: ws, t => by simp only [dif, dif_add f g c ws]; grind
theorem neg_one_sq (n : Nat) : ((-1 : Rat) ^ n) * ((-1) ^ n) = 1 := by
  induction n with
  | zero => simp [Rat.pow_zero, Rat.mul_one]
  | succ n ih => rw [Rat.pow_succ]; grind
theorem mulpow (a b : Rat) (n : Nat) : (a * b) ^ n = a ^ n * b ^ n := by
  induction n with
  | zero => simp [Rat.pow_zero, Rat.mul_one]
  | succ n ih => rw [Rat.pow_succ, ih, Rat.pow_succ, Rat.pow_succ]; grind
theorem neg_pow (n : Nat) (t : Rat) : (-t) ^ n = (-1) ^ n * t ^ n := by
  induction n with
  | zero => simp [Rat.pow_zero, Rat.mul_one]
  | succ n ih => rw [Rat.pow_succ, ih, Rat.pow_succ, Rat.pow_succ]; grind
theorem dif_whole {n : Nat} {ws : List Rat} (hl : ws.length = n + 1) (t : Rat) : dif ws (pp (n + 1)) t + dif ws (pp (n + 1)) (sumR ws - t) = factR (n + 1) * prodR ws := by
  have h1 := dif_pow (n + 1) ws hl t
  have h2 : (fun x : Rat => x ^ (n + 1)) = fun x => pp (n + 1) x + (-1) ^ (n + 1) * pp (n + 1) (-x) := by
    funext x
    unfold pp
    by_cases hx : 0 < x
    · have : ¬ 0 < -x := by grind
      simp only [hx, this, if_true, if_false]; grind
    · by_cases hx2 : 0 < -x
      · simp only [hx, hx2, if_true, if_false]
        have e1 := neg_pow (n + 1) x
        have e2 := neg_one_sq (n + 1)
        rw [e1]
        generalize (-1 : Rat) ^ (n + 1) = E at *
        generalize x ^ (n + 1) = Y at *
        grind
      · have : x = 0 := by grind
        subst this
        simp only [hx, hx2, if_false]
        rw [Rat.pow_succ]; grind
  rw [h2, dif_add, dif_turn (f := pp (n + 1)), ← Rat.mul_assoc, hl, neg_one_sq] at h1
  grind
theorem dif_bound : ∀ (n : Nat) (ws : List Rat), ws.length = n → PosL ws → ∀ t, 0 ≤ dif ws (pp n) t ∧ dif ws (pp n) t ≤ factR n * prodR ws
  | 0, ws, h, hp, t => by
    obtain rfl := List.length_eq_zero_iff.mp h
    simp only [dif, factR, prodR_nil, pp, Rat.pow_zero]
    rw [Rat.mul_one]
    split <;> constructor <;> decide
  | n + 1, ws, h, hp, t => by
    have hpr := prodR_pos hp
    have hf := factR_pos (n + 1)
    have hfp := Rat.mul_pos hf hpr
    by_cases h0 : t ≤ 0
    · rw [dif_low hp h0]; exact ⟨by decide, by grind⟩
    by_cases h1 : sumR ws ≤ t
    · have e := dif_whole h t
      rw [dif_low hp (t := sumR ws - t) (by grind)] at e
      rw [show dif ws (pp (n + 1)) t = factR (n + 1) * prodR ws by grind]
      exact ⟨by grind, by grind⟩
    have hW : 0 < sumR ws := by grind
    obtain ⟨θ, hθ⟩ : ∃ θ : Rat, θ = t / sumR ws := ⟨_, rfl⟩
    have e1 : t = θ * sumR ws := by rw [hθ]; grind
    have θ0 : 0 ≤ θ := by
      have h3 : 0 ≤ t * (sumR ws)⁻¹ := Rat.mul_nonneg (by grind) (by have := Rat.inv_pos.mpr hW; grind)
      rw [hθ, Rat.div_def]; exact h3
    have θ1 : θ ≤ 1 := by
      apply Decidable.byContradiction
      intro hc
      have h3 := Rat.mul_pos (a := θ - 1) (b := sumR ws) (by grind) hW
      grind
    have ef : (pp (n + 1)) = fun x => x * pp n x := by funext x; exact pp_succ n x
    have key : dif ws (pp (n + 1)) t = sumR ((splits ws).map fun p => p.1 * (θ * dif p.2 (pp n) t + (1 - θ) * dif p.2 (pp n) (t - p.1))) := by
      rw [ef, dif_x]
      have e2 : t * dif ws (pp n) t = sumR ((splits ws).map fun p => p.1 * (θ * dif p.2 (pp n) t + (- θ) * dif p.2 (pp n) (t - p.1))) := by
        have e3 : sumR ((splits ws).map fun p => p.1 * (θ * dif p.2 (pp n) t + (- θ) * dif p.2 (pp n) (t - p.1))) = sumR ((splits ws).map fun p => (θ * dif ws (pp n) t) * p.1) := by
          refine sumR_congr fun p hp => ?_
          rw [← dif_perm (splits_perm hp)]
          simp only [dif]; grind
        rw [e3, sumR_map_mul, splits_sum]
        conv => lhs; rw [e1]
        rw [← e1]
        grind
      rw [e2, ← sumR_map_add]
      exact sumR_congr fun p _ => by grind
    have each : ∀ p ∈ splits ws, 0 ≤ p.1 * (θ * dif p.2 (pp n) t + (1 - θ) * dif p.2 (pp n) (t - p.1)) ∧ p.1 * (θ * dif p.2 (pp n) t + (1 - θ) * dif p.2 (pp n) (t - p.1)) ≤ factR n * prodR ws := fun p hpm => by
      have pm := splits_perm hpm
      have hl : p.2.length = n := by
        have := pm.length_eq
        simp at this; omega
      have hx : 0 < p.1 := hp _ (pm.mem_iff.mp (List.mem_cons_self ..))
      have hps : PosL p.2 := fun x hx => hp _ (pm.mem_iff.mp (List.mem_cons_of_mem _ hx))
      obtain ⟨a1, a2⟩ := dif_bound n p.2 hl hps t
      obtain ⟨b1, b2⟩ := dif_bound n p.2 hl hps (t - p.1)
      rw [← prodR_perm pm, prodR_cons, show factR n * (p.1 * prodR p.2) = p.1 * (factR n * prodR p.2) by grind]
      generalize dif p.2 (pp n) t = A at *
      generalize dif p.2 (pp n) (t - p.1) = B at *
      generalize factR n * prodR p.2 = C at *
      have c1 := Rat.mul_nonneg θ0 a1
      have c2 := Rat.mul_nonneg (a := 1 - θ) (b := B) (by grind) b1
      have c3 := Rat.mul_nonneg (a := θ) (b := C - A) θ0 (by grind)
      have c4 := Rat.mul_nonneg (a := 1 - θ) (b := C - B) (by grind) (by grind)
      have d1 := Rat.mul_nonneg (a := p.1) (b := θ * A + (1 - θ) * B) (by grind) (by grind)
      have d2 := Rat.mul_nonneg (a := p.1) (b := C - (θ * A + (1 - θ) * B)) (by grind) (by grind)
      exact ⟨d1, by grind⟩
    rw [key]
    refine ⟨sumR_nonneg fun x hx => ?_, ?_⟩
    · obtain ⟨p, hpm, rfl⟩ := List.mem_map.mp hx
      exact (each p hpm).1
    · have := sumR_le (l := splits ws) fun p hpm => (each p hpm).2
      rw [sumR_const, splits_length, h] at this
      simp only [factR]
      grind
theorem dif_scale {n : Nat} {c : Rat} (hc : 0 < c) : ∀ (ws : List Rat) (t : Rat), dif (ws.map fun w => w * c) (pp n) (t * c) = c ^ n * dif ws (pp n) t
  | [], t => by
    simp only [List.map_nil, dif, pp]
    by_cases h : 0 < t
    · have := Rat.mul_pos h hc
      simp only [h, this, if_true]
      rw [mulpow]; grind
    · have : ¬ 0 < t * c := by
        intro hh
        have h3 := Rat.mul_nonneg (a := -t) (b := c) (by grind) (by grind)
        grind
      simp only [h, this, if_false]; grind
  | w :: ws, t => by
    simp only [List.map_cons, dif, dif_scale hc ws t]
    have : t * c - w * c = (t - w) * c := by grind
    rw [this, dif_scale hc ws]; grind
theorem prodR_scale {c : Rat} : ∀ ws : List Rat, prodR (ws.map fun w => w * c) = c ^ ws.length * prodR ws
  | [] => by simp [Rat.pow_zero, Rat.mul_one]
  | w :: ws => by simp only [List.map_cons, prodR_cons, prodR_scale ws, List.length_cons, Rat.pow_succ]; grind
/-- the part of the box -/
def part (ws : List Rat) (t : Rat) : Rat := dif ws (pp ws.length) t / (factR ws.length * prodR ws)
theorem part_perm {a b : List Rat} (h : a.Perm b) (t : Rat) : part a t = part b t := by
  unfold part
  rw [h.length_eq, dif_perm h, prodR_perm h]
theorem part_pos {ws : List Rat} (hp : PosL ws) : 0 < factR ws.length * prodR ws := Rat.mul_pos (factR_pos _) (prodR_pos hp)
theorem part_bound {ws : List Rat} (hp : PosL ws) (t : Rat) : 0 ≤ part ws t ∧ part ws t ≤ 1 := by
  obtain ⟨h1, h2⟩ := dif_bound _ ws rfl hp t
  have h3 := part_pos hp
  unfold part
  generalize dif ws (pp ws.length) t = A at *
  generalize factR ws.length * prodR ws = C at *
  have i := Rat.inv_pos.mpr h3
  rw [Rat.div_def]
  have := Rat.mul_nonneg h1 (b := C⁻¹) (by grind)
  have h4 := Rat.mul_nonneg (a := C - A) (b := C⁻¹) (by grind) (by grind)
  have h5 : C * C⁻¹ = 1 := Rat.mul_inv_cancel _ (by grind)
  exact ⟨this, by grind⟩
theorem part_whole {ws : List Rat} (hp : PosL ws) (hn : ws ≠ []) (t : Rat) : part ws t + part ws (sumR ws - t) = 1 := by
  obtain ⟨n, hn⟩ : ∃ n, ws.length = n + 1 := by
    cases ws with
    | nil => exact absurd rfl hn
    | cons w ws => exact ⟨ws.length, rfl⟩
  have h := dif_whole hn t
  have h3 := part_pos hp
  unfold part
  rw [hn] at h3 ⊢
  generalize factR (n + 1) * prodR ws = C at *
  grind
theorem part_low {ws : List Rat} (hp : PosL ws) {t : Rat} (h : t ≤ 0) : part ws t = 0 := by
  unfold part
  rw [dif_low hp h]; grind
theorem part_high {ws : List Rat} (hp : PosL ws) (hn : ws ≠ []) {t : Rat} (h : sumR ws ≤ t) : part ws t = 1 := by
  have h1 := part_whole hp hn t
  rw [part_low hp (t := sumR ws - t) (by grind)] at h1
  grind
theorem part_scale {ws : List Rat} (hp : PosL ws) {c : Rat} (hc : 0 < c) (t : Rat) : part (ws.map fun w => w * c) (t * c) = part ws t := by
  unfold part
  rw [List.length_map, dif_scale hc, prodR_scale]
  have h3 := part_pos hp
  have h4 : (0 : Rat) < c ^ ws.length := Rat.pow_pos hc
  generalize dif ws (pp ws.length) t = A at *
  generalize factR ws.length = C at *
  generalize prodR ws = D at *
  generalize c ^ ws.length = E at *
  have h5 : C * D ≠ 0 := by grind
  have h6 : C * (E * D) = E * (C * D) := by grind
  rw [h6]
  generalize C * D = G at *
  grind
/-! ### the lots -/
def lotsF (acc : List (Rat × Int)) : List Rat → List (Rat × Int)
  | [] => acc
  | w :: ws => lotsF (acc ++ acc.map fun p => (p.1 + w, -p.2)) ws
def sgn (n : Nat) (t : Rat) (l : List (Rat × Int)) : Rat := sumR (l.map fun p => if 0 < t - p.1 then (p.2 : Rat) * (t - p.1) ^ n else 0)
theorem sumR_append (a b : List Rat) : sumR (a ++ b) = sumR a + sumR b := by
  induction a with
  | nil => simp [Rat.zero_add]
  | cons x a ih => simp only [List.cons_append, sumR_cons, ih]; grind
theorem lots_dif (n : Nat) (t : Rat) : ∀ (ws : List Rat) (acc : List (Rat × Int)), sgn n t (lotsF acc ws) = sumR (acc.map fun p => (p.2 : Rat) * dif ws (pp n) (t - p.1))
  | [], acc => by
    unfold sgn lotsF
    refine sumR_congr fun p _ => ?_
    simp only [dif, pp]
    split <;> grind
  | w :: ws, acc => by
    have h := lots_dif n t ws (acc ++ acc.map fun p => (p.1 + w, -p.2))
    show sgn n t (lotsF _ ws) = _
    rw [h, List.map_append, sumR_append, List.map_map, ← sumR_map_add]
    refine sumR_congr fun p _ => ?_
    show (p.2 : Rat) * dif ws (pp n) (t - p.1) + ((-p.2 : Int) : Rat) * dif ws (pp n) (t - (p.1 + w)) = (p.2 : Rat) * (dif ws (pp n) (t - p.1) - dif ws (pp n) (t - p.1 - w))
    have e1 : t - (p.1 + w) = t - p.1 - w := by grind
    have e2 : ((-p.2 : Int) : Rat) = -(p.2 : Rat) := by exact_mod_cast rfl
    rw [e1, e2]; grind
theorem lots_part (ws : List Rat) (t : Rat) : sgn ws.length t (lotsF [(0, 1)] ws) / (factR ws.length * prodR ws) = part ws t := by
  rw [lots_dif]
  unfold part
  simp only [List.map_cons, List.map_nil, sumR_cons, sumR_nil]
  have e1 : t - 0 = t := by grind
  have e2 : ((1 : Int) : Rat) = 1 := rfl
  rw [e1, e2]
  congr 1
  grind
end SC
namespace SC
/-! ### the unit square clipped once -/
abbrev Pt2 := Rat × Rat
def sq4 : List Pt2 := [(0, 0), (1, 0), (1, 1), (0, 1)]
def ev (a b c : Rat) (p : Pt2) : Rat := a * p.1 + b * p.2 - c
def at2 (pts : List Pt2) (k : Nat) : Pt2 := pts.getD k (0, 0)
def cr2 (A H : Pt2) (oa oh : Rat) : Pt2 := (A.1 + oa / (oa - oh) * (H.1 - A.1), A.2 + oa / (oa - oh) * (H.2 - A.2))
def opp (x y : Rat) : Bool := (decide (x < 0) && decide (0 < y)) || (decide (0 < x) && decide (y < 0))
def lawStep (a b c : Rat) (pts : List Pt2) (k : Nat) : List Pt2 :=
  let H := at2 pts k
  let A := at2 pts (if k = 0 then pts.length - 1 else k - 1)
  (if opp (ev a b c H) (ev a b c A) = true then [cr2 A H (ev a b c A) (ev a b c H)] else []) ++ (if ev a b c H ≤ 0 then [H] else [])
def lawRaw (a b c : Rat) (pts : List Pt2) : List Pt2 := (List.range pts.length).flatMap (lawStep a b c pts)
def proStep (a b c : Rat) (pts : List Pt2) (k : Nat) : List Pt2 :=
  let O := at2 pts k
  let B := at2 pts ((k + 1) % pts.length)
  (if ev a b c O ≤ 0 then [O] else []) ++ (if opp (ev a b c O) (ev a b c B) = true then [cr2 O B (ev a b c O) (ev a b c B)] else [])
def proRaw (a b c : Rat) (pts : List Pt2) : List Pt2 := (List.range pts.length).flatMap (proStep a b c pts)
/-- each once -/
def once : List Pt2 → List Pt2 → List Pt2
  | _, [] => []
  | pre, x :: l => (if x ∈ pre then [] else [x]) ++ once (pre ++ [x]) l
def turn (A B C : Pt2) : Rat := (B.1 - A.1) * (C.2 - A.2) - (C.1 - A.1) * (B.2 - A.2)
def fanF (P : Pt2) : List Pt2 → Rat
  | Q :: R :: l => turn P Q R + fanF P (R :: l)
  | _ => 0
def fan : List Pt2 → Rat
  | P :: l => fanF P l
  | [] => 0
def turnAt (pts : List Pt2) (k : Nat) : Rat := turn (at2 pts (if k = 0 then pts.length - 1 else k - 1)) (at2 pts k) (at2 pts ((k + 1) % pts.length))
def turning (pts : List Pt2) : List Pt2 := ((List.range pts.length).filter fun k => decide (turnAt pts k ≠ 0)).map (at2 pts)
/-- the shoelace -/
def cr (P Q : Pt2) : Rat := P.1 * Q.2 - Q.1 * P.2
def path : List Pt2 → Rat
  | P :: Q :: l => cr P Q + path (Q :: l)
  | _ => 0
def lace : List Pt2 → Rat
  | [] => 0
  | P :: l => path (P :: l ++ [P])
theorem fan_lace : ∀ (P : Pt2) (l : List Pt2), fan (P :: l) = lace (P :: l)
  | P, [] => by simp [fan, fanF, lace, path, cr]; grind
  | P, Q :: l => by
    have key : ∀ (l : List Pt2) (Q : Pt2), fanF P (Q :: l) = path (Q :: l ++ [P]) + cr P Q := by
      intro l
      induction l with
      | nil => intro Q; simp only [fanF, List.cons_append, List.nil_append, path, cr]; grind
      | cons R l ih =>
        intro Q
        have := ih R
        simp only [List.cons_append] at this ⊢
        simp only [fanF, path, this, turn, cr]
        grind
    show fanF P (Q :: l) = path (P :: Q :: (l ++ [P]))
    rw [key l Q]
    simp only [path, List.cons_append]
    grind
theorem path_app : ∀ (l : List Pt2) (P Q : Pt2), path (l ++ [P, Q]) = path (l ++ [P]) + cr P Q
  | [], P, Q => by simp only [List.nil_append, path]; grind
  | [A], P, Q => by simp only [List.cons_append, List.nil_append, path]; grind
  | A :: B :: l, P, Q => by
    have := path_app (B :: l) P Q
    simp only [List.cons_append] at this ⊢
    simp only [path, this]; grind
theorem lace_rot1 (P : Pt2) (l : List Pt2) : lace (l ++ [P]) = lace (P :: l) := by
  cases l with
  | nil => rfl
  | cons Q l =>
    show path (Q :: (l ++ [P]) ++ [Q]) = path (P :: Q :: l ++ [P])
    have := path_app (Q :: l) P Q
    simp only [List.cons_append, List.append_assoc, List.nil_append] at this ⊢
    rw [this]
    simp only [path]
    grind
theorem lace_rot : ∀ (a b : List Pt2), lace (b ++ a) = lace (a ++ b)
  | [], b => by simp
  | P :: a, b => by
    have h1 := lace_rot a (b ++ [P])
    have h2 := lace_rot1 P (a ++ b)
    simp only [List.append_assoc, List.cons_append, List.nil_append] at h1 h2 ⊢
    rw [h1, h2]
theorem fan_eq (l : List Pt2) : fan l = lace l := by
  cases l with
  | nil => rfl
  | cons P l => exact fan_lace P l
theorem fan_rot (a b : List Pt2) : fan (b ++ a) = fan (a ++ b) := by rw [fan_eq, fan_eq, lace_rot]
/-! ### the one cut, sign by sign -/
def absQ (q : Rat) : Rat := if q < 0 then -q else q
def negQ (q : Rat) : Rat := if q < 0 then q else 0
def fanArea (l : List Pt2) : Rat := if l.length > 2 then fan l / 2 else 0
def sq_ (e : Rat) : Rat := if e < 0 then e * e else 0
theorem pp2 (t : Rat) : pp 2 t = sq_ (-t) := by
  unfold pp sq_
  have : (0 < t) = (-t < 0) := propext ⟨fun _ => by grind, fun _ => by grind⟩
  simp only [this]
  split
  · rw [Rat.pow_succ, Rat.pow_succ, Rat.pow_zero]; grind
  · rfl
theorem part2 {a b c : Rat} (ha : a ≠ 0) (hb : b ≠ 0) : part [absQ a, absQ b] (c - negQ a - negQ b) = (sq_ (-c) - sq_ (a - c) - sq_ (b - c) + sq_ (a + b - c)) / (2 * (a * b)) := by
  have f2 : factR 2 = 2 := by decide +kernel
  show dif [absQ a, absQ b] (pp 2) (c - negQ a - negQ b) / (factR 2 * prodR [absQ a, absQ b]) = _
  rw [f2]
  simp only [dif, pp2, prodR_cons, prodR_nil]
  unfold absQ negQ
  by_cases h1 : a < 0 <;> by_cases h2 : b < 0 <;> simp only [h1, h2, if_true, if_false]
  · rw [show -(c - a - b) = a + b - c by grind, show -(c - a - b - -b) = a - c by grind, show -(c - a - b - -a) = b - c by grind, show -(c - a - b - -a - -b) = -c by grind]
    rw [show 2 * (-a * (-b * 1)) = 2 * (a * b) by grind]
    congr 1
    grind
  · rw [show -(c - a - 0) = a - c by grind, show -(c - a - 0 - b) = a + b - c by grind, show -(c - a - 0 - -a) = -c by grind, show -(c - a - 0 - -a - b) = b - c by grind]
    rw [show 2 * (-a * (b * 1)) = -(2 * (a * b)) by grind]
    grind
  · rw [show -(c - 0 - b) = b - c by grind, show -(c - 0 - b - -b) = -c by grind, show -(c - 0 - b - a) = a + b - c by grind, show -(c - 0 - b - a - -b) = a - c by grind]
    rw [show 2 * (a * (-b * 1)) = -(2 * (a * b)) by grind]
    grind
  · rw [show -(c - 0 - 0) = -c by grind, show -(c - 0 - 0 - b) = b - c by grind, show -(c - 0 - 0 - a) = a - c by grind, show -(c - 0 - 0 - a - b) = a + b - c by grind]
    rw [show 2 * (a * (b * 1)) = 2 * (a * b) by grind]
    congr 1
    grind
structure Cx (a b c u0 u1 v0 v1 e0 e1 e2 e3 : Rat) : Prop where
  ha : a ≠ 0
  hb : b ≠ 0
  hu0 : a * u0 = c
  hu1 : a * u1 = c - b
  hv0 : b * v0 = c
  hv1 : b * v1 = c - a
  he0 : e0 = -c
  he1 : e1 = a - c
  he2 : e2 = a + b - c
  he3 : e3 = b - c
theorem Cx.of {a b : Rat} (c : Rat) (ha : a ≠ 0) (hb : b ≠ 0) : Cx a b c (c / a) ((c - b) / a) (c / b) ((c - a) / b) (-c) (a - c) (a + b - c) (b - c) :=
  ⟨ha, hb, by grind, by grind, by grind, by grind, rfl, rfl, rfl, rfl⟩
theorem mul_can {a x y : Rat} (ha : a ≠ 0) (h : a * x = a * y) : x = y := by
  have h2 : a⁻¹ * (a * x) = a⁻¹ * (a * y) := by rw [h]
  rw [← Rat.mul_assoc, ← Rat.mul_assoc, Rat.inv_mul_cancel _ ha, Rat.one_mul, Rat.one_mul] at h2
  exact h2
section
variable {a b c u0 u1 v0 v1 e0 e1 e2 e3 : Rat}
theorem Cx.u0z (x : Cx a b c u0 u1 v0 v1 e0 e1 e2 e3) : (u0 = 0) = (e0 = 0) := by
  obtain ⟨ha, hb, h1, h2, h3, h4, rfl, rfl, rfl, rfl⟩ := x
  exact propext ⟨fun h => by grind, fun h => mul_can ha (by grind)⟩
theorem Cx.u0o (x : Cx a b c u0 u1 v0 v1 e0 e1 e2 e3) : (u0 = 1) = (e1 = 0) := by
  obtain ⟨ha, hb, h1, h2, h3, h4, rfl, rfl, rfl, rfl⟩ := x
  exact propext ⟨fun h => by grind, fun h => mul_can ha (by grind)⟩
theorem Cx.u1z (x : Cx a b c u0 u1 v0 v1 e0 e1 e2 e3) : (u1 = 0) = (e3 = 0) := by
  obtain ⟨ha, hb, h1, h2, h3, h4, rfl, rfl, rfl, rfl⟩ := x
  exact propext ⟨fun h => by grind, fun h => mul_can ha (by grind)⟩
theorem Cx.u1o (x : Cx a b c u0 u1 v0 v1 e0 e1 e2 e3) : (u1 = 1) = (e2 = 0) := by
  obtain ⟨ha, hb, h1, h2, h3, h4, rfl, rfl, rfl, rfl⟩ := x
  exact propext ⟨fun h => by grind, fun h => mul_can ha (by grind)⟩
theorem Cx.v0z (x : Cx a b c u0 u1 v0 v1 e0 e1 e2 e3) : (v0 = 0) = (e0 = 0) := by
  obtain ⟨ha, hb, h1, h2, h3, h4, rfl, rfl, rfl, rfl⟩ := x
  exact propext ⟨fun h => by grind, fun h => mul_can hb (by grind)⟩
theorem Cx.v0o (x : Cx a b c u0 u1 v0 v1 e0 e1 e2 e3) : (v0 = 1) = (e3 = 0) := by
  obtain ⟨ha, hb, h1, h2, h3, h4, rfl, rfl, rfl, rfl⟩ := x
  exact propext ⟨fun h => by grind, fun h => mul_can hb (by grind)⟩
theorem Cx.v1z (x : Cx a b c u0 u1 v0 v1 e0 e1 e2 e3) : (v1 = 0) = (e1 = 0) := by
  obtain ⟨ha, hb, h1, h2, h3, h4, rfl, rfl, rfl, rfl⟩ := x
  exact propext ⟨fun h => by grind, fun h => mul_can hb (by grind)⟩
theorem Cx.v1o (x : Cx a b c u0 u1 v0 v1 e0 e1 e2 e3) : (v1 = 1) = (e2 = 0) := by
  obtain ⟨ha, hb, h1, h2, h3, h4, rfl, rfl, rfl, rfl⟩ := x
  exact propext ⟨fun h => by grind, fun h => mul_can hb (by grind)⟩
theorem div_is {x y z : Rat} (hy : y ≠ 0) (h : y * z = x) : x / y = z := mul_can hy (by grind)
theorem Cx.raw (x : Cx a b c u0 u1 v0 v1 e0 e1 e2 e3) : lawRaw a b c sq4 =
    ((if opp e0 e3 = true then [(0, v0)] else []) ++ (if e0 ≤ 0 then [(0, 0)] else [])) ++ (((if opp e1 e0 = true then [(u0, 0)] else []) ++ (if e1 ≤ 0 then [(1, 0)] else [])) ++ (((if opp e2 e1 = true then [(1, v1)] else []) ++ (if e2 ≤ 0 then [(1, 1)] else [])) ++ ((if opp e3 e2 = true then [(u1, 1)] else []) ++ (if e3 ≤ 0 then [(0, 1)] else [])))) ∧
    proRaw a b c sq4 =
    ((if e0 ≤ 0 then [(0, 0)] else []) ++ (if opp e0 e1 = true then [(u0, 0)] else [])) ++ (((if e1 ≤ 0 then [(1, 0)] else []) ++ (if opp e1 e2 = true then [(1, v1)] else [])) ++ (((if e2 ≤ 0 then [(1, 1)] else []) ++ (if opp e2 e3 = true then [(u1, 1)] else [])) ++ ((if e3 ≤ 0 then [(0, 1)] else []) ++ (if opp e3 e0 = true then [(0, v0)] else [])))) := by
  obtain ⟨ha, hb, h1, h2, h3, h4, rfl, rfl, rfl, rfl⟩ := x
  have q0 : ev a b c (0, 0) = -c := by unfold ev; grind
  have q1 : ev a b c (1, 0) = a - c := by unfold ev; grind
  have q2 : ev a b c (1, 1) = a + b - c := by unfold ev; grind
  have q3 : ev a b c (0, 1) = b - c := by unfold ev; grind
  have na : a - c - -c ≠ 0 := by grind
  have na' : -c - (a - c) ≠ 0 := by grind
  have nb : b - c - -c ≠ 0 := by grind
  have nb' : -c - (b - c) ≠ 0 := by grind
  have nb2 : (a + b - c) - (a - c) ≠ 0 := by grind
  have nb2' : (a - c) - (a + b - c) ≠ 0 := by grind
  have na2 : (b - c) - (a + b - c) ≠ 0 := by grind
  have na2' : (a + b - c) - (b - c) ≠ 0 := by grind
  have c1 : cr2 (0, 1) (0, 0) (b - c) (-c) = (0, v0) := by
    unfold cr2
    rw [div_is (z := 1 - v0) nb (by grind)]
    refine Prod.ext ?_ ?_ <;> simp only <;> grind
  have c1' : cr2 (0, 1) (0, 0) (b - c) (-c) = cr2 (0, 1) (0, 0) (b - c) (-c) := rfl
  have c2 : cr2 (0, 0) (1, 0) (-c) (a - c) = (u0, 0) := by
    unfold cr2
    rw [div_is (z := u0) na' (by grind)]
    refine Prod.ext ?_ ?_ <;> simp only <;> grind
  have c3 : cr2 (1, 0) (1, 1) (a - c) (a + b - c) = (1, v1) := by
    unfold cr2
    rw [div_is (z := v1) nb2' (by grind)]
    refine Prod.ext ?_ ?_ <;> simp only <;> grind
  have c4 : cr2 (1, 1) (0, 1) (a + b - c) (b - c) = (u1, 1) := by
    unfold cr2
    rw [div_is (z := 1 - u1) na2' (by grind)]
    refine Prod.ext ?_ ?_ <;> simp only <;> grind
  refine ⟨?_, ?_⟩
  · show (lawStep a b c sq4 0 ++ (lawStep a b c sq4 1 ++ (lawStep a b c sq4 2 ++ (lawStep a b c sq4 3 ++ [])))) = _
    have s0 : lawStep a b c sq4 0 = (if opp (ev a b c (0, 0)) (ev a b c (0, 1)) = true then [cr2 (0, 1) (0, 0) (ev a b c (0, 1)) (ev a b c (0, 0))] else []) ++ (if ev a b c (0, 0) ≤ 0 then [(0, 0)] else []) := rfl
    have s1 : lawStep a b c sq4 1 = (if opp (ev a b c (1, 0)) (ev a b c (0, 0)) = true then [cr2 (0, 0) (1, 0) (ev a b c (0, 0)) (ev a b c (1, 0))] else []) ++ (if ev a b c (1, 0) ≤ 0 then [(1, 0)] else []) := rfl
    have s2 : lawStep a b c sq4 2 = (if opp (ev a b c (1, 1)) (ev a b c (1, 0)) = true then [cr2 (1, 0) (1, 1) (ev a b c (1, 0)) (ev a b c (1, 1))] else []) ++ (if ev a b c (1, 1) ≤ 0 then [(1, 1)] else []) := rfl
    have s3 : lawStep a b c sq4 3 = (if opp (ev a b c (0, 1)) (ev a b c (1, 1)) = true then [cr2 (1, 1) (0, 1) (ev a b c (1, 1)) (ev a b c (0, 1))] else []) ++ (if ev a b c (0, 1) ≤ 0 then [(0, 1)] else []) := rfl
    rw [s0, s1, s2, s3, q0, q1, q2, q3, c1, c2, c3, c4, List.append_nil]
  · show (proStep a b c sq4 0 ++ (proStep a b c sq4 1 ++ (proStep a b c sq4 2 ++ (proStep a b c sq4 3 ++ [])))) = _
    have s0 : proStep a b c sq4 0 = (if ev a b c (0, 0) ≤ 0 then [(0, 0)] else []) ++ (if opp (ev a b c (0, 0)) (ev a b c (1, 0)) = true then [cr2 (0, 0) (1, 0) (ev a b c (0, 0)) (ev a b c (1, 0))] else []) := rfl
    have s1 : proStep a b c sq4 1 = (if ev a b c (1, 0) ≤ 0 then [(1, 0)] else []) ++ (if opp (ev a b c (1, 0)) (ev a b c (1, 1)) = true then [cr2 (1, 0) (1, 1) (ev a b c (1, 0)) (ev a b c (1, 1))] else []) := rfl
    have s2 : proStep a b c sq4 2 = (if ev a b c (1, 1) ≤ 0 then [(1, 1)] else []) ++ (if opp (ev a b c (1, 1)) (ev a b c (0, 1)) = true then [cr2 (1, 1) (0, 1) (ev a b c (1, 1)) (ev a b c (0, 1))] else []) := rfl
    have s3 : proStep a b c sq4 3 = (if ev a b c (0, 1) ≤ 0 then [(0, 1)] else []) ++ (if opp (ev a b c (0, 1)) (ev a b c (0, 0)) = true then [cr2 (0, 1) (0, 0) (ev a b c (0, 1)) (ev a b c (0, 0))] else []) := rfl
    rw [s0, s1, s2, s3, q0, q1, q2, q3, c1, c2, c3, c4, List.append_nil]
end
theorem sg_neg {e : Rat} (h : e < 0) : (e < 0) = True ∧ (0 < e) = False ∧ (e ≤ 0) = True ∧ (e = 0) = False := ⟨eq_true h, eq_false (by grind), eq_true (by grind), eq_false (by grind)⟩
theorem sg_pos {e : Rat} (h : 0 < e) : (e < 0) = False ∧ (0 < e) = True ∧ (e ≤ 0) = False ∧ (e = 0) = False := ⟨eq_false (by grind), eq_true h, eq_false (by grind), eq_false (by grind)⟩
theorem sg_zero {e : Rat} (h : e = 0) : (e < 0) = False ∧ (0 < e) = False ∧ (e ≤ 0) = True ∧ (e = 0) = True := ⟨eq_false (by grind), eq_false (by grind), eq_true (by grind), eq_true h⟩
theorem ratio_in {x y : Rat} (h : (x < 0 ∧ 0 < y) ∨ (0 < x ∧ y < 0)) {z : Rat} (e : (x - y) * z = x) : 0 < z ∧ z < 1 := by
  rcases h with ⟨h1, h2⟩ | ⟨h1, h2⟩
  · constructor
    · apply Decidable.byContradiction
      intro hc
      have := Rat.mul_nonneg (a := -(x - y)) (b := -z) (by grind) (by grind)
      grind
    · apply Decidable.byContradiction
      intro hc
      have := Rat.mul_nonneg (a := -(x - y)) (b := z - 1) (by grind) (by grind)
      grind
  · constructor
    · apply Decidable.byContradiction
      intro hc
      have := Rat.mul_nonneg (a := x - y) (b := -z) (by grind) (by grind)
      grind
    · apply Decidable.byContradiction
      intro hc
      have := Rat.mul_nonneg (a := x - y) (b := z - 1) (by grind) (by grind)
      grind
section
variable {a b c u0 u1 v0 v1 e0 e1 e2 e3 : Rat}
theorem Cx.in_u0 (x : Cx a b c u0 u1 v0 v1 e0 e1 e2 e3) (h : (e0 < 0 ∧ 0 < e1) ∨ (0 < e0 ∧ e1 < 0)) : 0 < u0 ∧ u0 < 1 := by
  obtain ⟨ha, hb, h1, h2, h3, h4, rfl, rfl, rfl, rfl⟩ := x
  exact ratio_in h (by grind)
theorem Cx.in_v1 (x : Cx a b c u0 u1 v0 v1 e0 e1 e2 e3) (h : (e1 < 0 ∧ 0 < e2) ∨ (0 < e1 ∧ e2 < 0)) : 0 < v1 ∧ v1 < 1 := by
  obtain ⟨ha, hb, h1, h2, h3, h4, rfl, rfl, rfl, rfl⟩ := x
  exact ratio_in h (by grind)
theorem Cx.in_u1 (x : Cx a b c u0 u1 v0 v1 e0 e1 e2 e3) (h : (e2 < 0 ∧ 0 < e3) ∨ (0 < e2 ∧ e3 < 0)) : 0 < u1 ∧ u1 < 1 := by
  obtain ⟨ha, hb, h1, h2, h3, h4, rfl, rfl, rfl, rfl⟩ := x
  have := ratio_in (z := 1 - u1) h (by grind)
  exact ⟨by grind, by grind⟩
theorem Cx.in_v0 (x : Cx a b c u0 u1 v0 v1 e0 e1 e2 e3) (h : (e3 < 0 ∧ 0 < e0) ∨ (0 < e3 ∧ e0 < 0)) : 0 < v0 ∧ v0 < 1 := by
  obtain ⟨ha, hb, h1, h2, h3, h4, rfl, rfl, rfl, rfl⟩ := x
  have := ratio_in (z := 1 - v0) h (by grind)
  exact ⟨by grind, by grind⟩
end
theorem tri (e : Rat) : e < 0 ∨ e = 0 ∨ 0 < e := by grind
theorem Cx.lin {a b c u0 u1 v0 v1 e0 e1 e2 e3 : Rat} (x : Cx a b c u0 u1 v0 v1 e0 e1 e2 e3) : e0 + e2 = e1 + e3 ∧ e0 ≠ e1 ∧ e0 ≠ e3 ∧ e1 ≠ e2 ∧ e2 ≠ e3 := by
  obtain ⟨ha, hb, h1, h2, h3, h4, rfl, rfl, rfl, rfl⟩ := x
  exact ⟨by grind, by grind, by grind, by grind, by grind⟩
end SC
/-! Q, part 1: specs of EV0: fractions. -/
namespace EV0
open PySem PySem.Spec PyProof.Rows L2 Z
@[simp] theorem s_is_whole {i : Int} {st : Store} : m_is_whole [.val (.int i)] st = .ok (.val (.bool true)) st := by
  simp [m_is_whole, b_is_whole, fnOf_app]
@[simp] theorem s_is_tuple_of {ds : List D} {n : Int} {st : Store} : m_is_tuple_of [.val (.tuple ds), .val (.int n)] st = .ok (.val (.bool (decide ((ds.length : Int) = n)))) st := by
  simp [m_is_tuple_of, b_is_tuple_of, fnOf_app]
@[simp] theorem s_is_fraction {q : Rat} {st : Store} : m_is_fraction [.val (frac q)] st = .ok (.val (.bool true)) st := by
  have h1 : decide ((0 : Int) < q.den) = true := decide_eq_true den_pos'
  have h2 := gcd_red q
  show m_is_fraction [.val (.tuple [.int q.num, .int q.den])] st = _
  simp [m_is_fraction, b_is_fraction, fnOf_app, h2, q.den_pos]
theorem s_fraction {a : Int} {b : Nat} (hb : b ≠ 0) (hz : Sz (b : Int)) {st : Store} : m_fraction [.val (.int a), .val (.int b)] st = .ok (.val (frac (Rat.divInt a b))) st := by
  have hg : Nat.gcd a.natAbs b ≠ 0 := Nat.gcd_ne_zero_right hb
  have hg' : ((Nat.gcd a.natAbs b : Nat) : Int) ≠ 0 := by exact_mod_cast hg
  have sg : Sz (Nat.gcd a.natAbs b : Nat) := Nat.lt_of_le_of_lt (Nat.gcd_le_right _ (Nat.pos_of_ne_zero hb)) hz
  have e1 := fdivD_sz (i := a) hg' sg
  have e2 := fdivD_sz (i := b) hg' sg
  have hs := sizeLine_big
  have h2 : 2 ≤ sizeLine := by omega
  simp [m_fraction, b_fraction, fnOf_app, e1, e2, h2, frac_gcd hb]
theorem s_fraction_sum {L M : Nat} {p q : Rat} (h : Ht L p) (g : Ht M q) (l : L + M ≤ 8000 := by omega) {st : Store} : m_fraction_sum [.val (frac p), .val (frac q)] st = .ok (.val (frac (p + q))) st := by
  have e1 := mulD_sz (h.szn) (g.szd)
  have e2 := mulD_sz (g.szn) (h.szd)
  have e3 := mulD_sz (h.szd) (g.szd)
  have sz : Sz ((p.den * q.den : Nat) : Int) := sz_of (L := L + M) (pow_mul_lt h.den g.den) l
  have := s_fraction (a := p.num * q.den + q.num * p.den) (mul_nz p q) sz (st := st)
  rw [← add_eq, Int.natCast_mul] at this
  simp [m_fraction_sum, b_fraction_sum, fnOf_app, e1, e2, e3, this]
theorem s_fraction_less {L M : Nat} {p q : Rat} (h : Ht L p) (g : Ht M q) (l : L + M ≤ 8000 := by omega) {st : Store} : m_fraction_less [.val (frac p), .val (frac q)] st = .ok (.val (frac (p - q))) st := by
  have e1 := mulD_sz (h.szn) (g.szd)
  have e2 := mulD_sz (g.szn) (h.szd)
  have e3 := mulD_sz (h.szd) (g.szd)
  have sz : Sz ((p.den * q.den : Nat) : Int) := sz_of (L := L + M) (pow_mul_lt h.den g.den) l
  have := s_fraction (a := p.num * q.den - q.num * p.den) (mul_nz p q) sz (st := st)
  rw [← sub_eq, Int.natCast_mul] at this
  simp [m_fraction_less, b_fraction_less, fnOf_app, e1, e2, e3, this]
theorem s_fraction_times {L M : Nat} {p q : Rat} (h : Ht L p) (g : Ht M q) (l : L + M ≤ 8000 := by omega) {st : Store} : m_fraction_times [.val (frac p), .val (frac q)] st = .ok (.val (frac (p * q))) st := by
  have e1 := mulD_sz (h.szn) (g.szn)
  have e3 := mulD_sz (h.szd) (g.szd)
  have sz : Sz ((p.den * q.den : Nat) : Int) := sz_of (L := L + M) (pow_mul_lt h.den g.den) l
  have := s_fraction (a := p.num * q.num) (mul_nz p q) sz (st := st)
  rw [← mul_eq, Int.natCast_mul] at this
  simp [m_fraction_times, b_fraction_times, fnOf_app, e1, e3, this]
@[simp] theorem s_sign_of {i : Int} {st : Store} : m_sign_of [.val (.int i)] st = .ok (.val (.int i.sign)) st := by
  rcases Int.lt_trichotomy i 0 with h | h | h
  · have h2 : ¬ 0 < i := by omega
    simp [m_sign_of, b_sign_of, fnOf_app, h, h2, Int.sign_eq_neg_one_of_neg h]
  · subst h
    simp [m_sign_of, b_sign_of, fnOf_app]
  · have h2 : ¬ i < 0 := by omega
    simp [m_sign_of, b_sign_of, fnOf_app, h, h2, Int.sign_eq_one_of_pos h]
theorem s_is_above {L M : Nat} {p q : Rat} (h : Ht L p) (g : Ht M q) (l : L + M ≤ 8000 := by omega) {st : Store} : m_is_above [.val (frac p), .val (frac q)] st = .ok (.val (.bool (decide (q < p)))) st := by
  have e1 := mulD_sz (h.szn) (g.szd)
  have e2 := mulD_sz (g.szn) (h.szd)
  simp [m_is_above, b_is_above, fnOf_app, e1, e2, Rat.lt_iff]
theorem s_fraction_over {L M : Nat} {p q : Rat} (h : Ht L p) (g : Ht M q) (nz : q ≠ 0) (l : L + M ≤ 8000 := by omega) {st : Store} : m_fraction_over [.val (frac p), .val (frac q)] st = .ok (.val (frac (p / q))) st := by
  have s1 : Sz q.num.sign := sz_of (L := 1) (by rw [Int.natAbs_sign_of_ne_zero (num_nz nz)]; decide) (by decide)
  have e1 := mulD_sz s1 h.szn
  have e2 := mulD_sz s1 h.szd
  have z1 : Sz (q.num.sign * p.num) := sz_of (L := L) (by rw [Int.natAbs_mul, Int.natAbs_sign_of_ne_zero (num_nz nz), Nat.one_mul]; exact h.num) (by omega)
  have z2 : Sz (q.num.sign * p.den) := sz_of (L := L) (by rw [Int.natAbs_mul, Int.natAbs_sign_of_ne_zero (num_nz nz), Nat.one_mul, Int.natAbs_natCast]; exact h.den) (by omega)
  have e3 := mulD_sz z1 g.szd
  have e4 := mulD_sz z2 g.szn
  have nn : p.den * q.num.natAbs ≠ 0 := Nat.mul_ne_zero p.den_nz (Int.natAbs_ne_zero.mpr (num_nz nz))
  have sz : Sz ((p.den * q.num.natAbs : Nat) : Int) := sz_of (L := L + M) (by rw [Int.natAbs_natCast]; exact pow_mul_lt h.den g.num) l
  have := s_fraction (a := q.num.sign * p.num * q.den) nn sz (st := st)
  have r1 : Rat.divInt (q.num.sign * p.num * q.den) ((p.den * q.num.natAbs : Nat) : Int) = p / q := by
    rw [div_eq, divInt_sign (Int.mul_ne_zero (by exact_mod_cast p.den_nz) (num_nz nz)), Int.natAbs_mul, Int.natAbs_natCast, Int.sign_mul, Int.sign_eq_one_of_pos den_pos', Int.one_mul]
    congr 1
    grind
  have r2 : ((p.den * q.num.natAbs : Nat) : Int) = q.num.sign * p.den * q.num := by
    have : (q.num.natAbs : Int) = q.num.sign * q.num := by
      rcases Int.lt_or_lt_of_ne (num_nz nz) with h | h
      · rw [Int.sign_eq_neg_one_of_neg h]; omega
      · rw [Int.sign_eq_one_of_pos h]; omega
    rw [Int.natCast_mul, this]
    grind
  rw [r1, r2] at this
  simp [m_fraction_over, b_fraction_over, fnOf_app, e1, e2, e3, e4, this]
def eucB : M SR := sPar [2, 3] (hCons (eVar 3) (hCons (opBin modD (op1 intD (eVar 2)) (eVar 3)) aNil))
def eucC : M Bool := opCmp gtD (eVar 3) (eC (.int 0))
def eucS (x y : W) (a b : Nat) (st : Store) : S := ⟨[some x, some y, some (.val (.int a)), some (.val (.int b))], st⟩
theorem euc_zero {x y : W} {a n : Nat} {st : Store} (hn : 0 < n) : whileF eucC eucB n (eucS x y a 0 st) = .ok .next (eucS x y a 0 st) := by
  obtain ⟨m, rfl⟩ : ∃ m, n = m + 1 := ⟨n - 1, by omega⟩
  rw [whileF_succ]
  simp [eucC, eucS]
theorem euc_step {x y : W} {a b n : Nat} {st : Store} (hb : b ≠ 0) : whileF eucC eucB (n + 1) (eucS x y a b st) = whileF eucC eucB n (eucS x y b (a % b) st) := by
  rw [whileF_succ]
  have h1 : (0 : Int) < b := by omega
  have h2 : ((a : Int).fmod b) = ((a % b : Nat) : Int) := by
    rw [Int.fmod_eq_emod_of_nonneg _ (by omega)]
    rfl
  simp [eucC, eucB, eucS, h1, h2, hb, Nat.pos_of_ne_zero hb]
theorem euc {x y : W} {st : Store} : ∀ (k a b n : Nat), b < 2 ^ k → 2 * k < n → whileF eucC eucB n (eucS x y a b st) = .ok .next (eucS x y (Nat.gcd a b) 0 st)
  | 0, a, b, n, hb, hn => by
    have : b = 0 := by simpa using hb
    subst this
    rw [Nat.gcd_zero_right]
    exact euc_zero (by omega)
  | k + 1, a, b, n, hb, hn => by
    by_cases h0 : b = 0
    · subst h0
      rw [Nat.gcd_zero_right]
      exact euc_zero (by omega)
    · obtain ⟨m, rfl⟩ : ∃ m, n = m + 1 + 1 := ⟨n - 2, by omega⟩
      rw [euc_step h0]
      by_cases h1 : a % b = 0
      · rw [h1, euc_zero (by omega)]
        rw [Nat.gcd_eq_right (Nat.dvd_of_mod_eq_zero h1)]
      · rw [euc_step h1, euc k (a % b) (b % (a % b)) m ?_ (by omega)]
        · have e1 : Nat.gcd a b = Nat.gcd (a % b) b := by rw [Nat.gcd_comm a b, Nat.gcd_rec b a]
          have e2 : Nat.gcd (a % b) b = Nat.gcd (b % (a % b)) (a % b) := Nat.gcd_rec _ _
          rw [e1, e2, Nat.gcd_comm]
        · have hr : a % b < b := Nat.mod_lt _ (Nat.pos_of_ne_zero h0)
          have h3 : b % (a % b) < a % b := Nat.mod_lt _ (Nat.pos_of_ne_zero h1)
          have h4 : b % (a % b) + (a % b) ≤ b := by
            have := Nat.div_add_mod b (a % b)
            have h5 : 1 ≤ b / (a % b) := (Nat.le_div_iff_mul_le (Nat.pos_of_ne_zero h1)).mpr (by omega)
            have h6 : a % b ≤ (a % b) * (b / (a % b)) := Nat.le_mul_of_pos_right _ h5
            omega
          rw [Nat.pow_succ] at hb
          omega
theorem con0 : con_ZERO = frac 0 := rfl
theorem con1 : con_ONE = frac 1 := rfl
theorem fdiv_neg2 (a g : Int) : a.fdiv (-g) = (-a).fdiv g := by
  have := Int.neg_fdiv_neg (-a) g
  rw [Int.neg_neg] at this
  exact this
theorem s__law_f {L : Nat} {a b : Int} (hb : b ≠ 0) (h1 : b.natAbs < 2 ^ L) (l : L ≤ 8000 := by omega) {st : Store} : m__law_f [.val (.int a), .val (.int b)] st = .ok (.val (frac (Rat.divInt a b))) st := by
  have habs : ∀ i : Int, (if i < 0 then -i else i) = (i.natAbs : Int) := fun i => by split <;> omega
  have hs := sizeLine_big
  have h2 : 2 ≤ sizeLine := by omega
  have hn : b.natAbs ≠ 0 := by omega
  have hg : Nat.gcd a.natAbs b.natAbs ≠ 0 := Nat.gcd_ne_zero_right hn
  have hz : Sz (b.natAbs : Int) := sz_of (L := L) (by rw [Int.natAbs_natCast]; exact h1) l
  have sg : Sz (Nat.gcd a.natAbs b.natAbs : Nat) := Nat.lt_of_le_of_lt (Nat.gcd_le_right _ (Nat.pos_of_ne_zero hn)) hz
  have loop := euc (x := .val (.int a)) (y := .val (.int b)) (st := st) L a.natAbs b.natAbs 100000 h1 (by omega)
  simp only [eucC, eucB, eucS] at loop
  rcases Int.lt_or_lt_of_ne hb with h | h
  · have sg' : Sz (-(Nat.gcd a.natAbs b.natAbs : Nat) : Int) := by unfold Sz at *; rw [Int.natAbs_neg]; exact sg
    have e1 := fdivD_sz (i := a) (j := -((Nat.gcd a.natAbs b.natAbs : Nat) : Int)) (by omega) sg'
    have e2 := fdivD_sz (i := b) (j := -((Nat.gcd a.natAbs b.natAbs : Nat) : Int)) (by omega) sg'
    have fr := frac_gcd (a := -a) hn
    have eb : ((b.natAbs : Nat) : Int) = -b := by omega
    rw [Int.natAbs_neg, eb, Rat.neg_divInt_neg, ← fdiv_neg2, ← fdiv_neg2] at fr
    have nb : ¬ 0 < b := by omega
    simp [m__law_f, b__law_f, fnOf_app, habs]
    rw [loop]
    simp [nb, e1, e2, h2]
    exact fr
  · have e1 := fdivD_sz (i := a) (j := ((Nat.gcd a.natAbs b.natAbs : Nat) : Int)) (by omega) sg
    have e2 := fdivD_sz (i := b) (j := ((Nat.gcd a.natAbs b.natAbs : Nat) : Int)) (by omega) sg
    have fr := frac_gcd (a := a) hn
    have eb : ((b.natAbs : Nat) : Int) = b := by omega
    rw [eb] at fr
    simp [m__law_f, b__law_f, fnOf_app, habs]
    rw [loop]
    simp [h, e1, e2, h2]
    exact fr
theorem s__law_plus {L M : Nat} {p q : Rat} (h : Ht L p) (g : Ht M q) (l : L + M ≤ 8000 := by omega) {st : Store} : m__law_plus [.val (frac p), .val (frac q)] st = .ok (.val (frac (p + q))) st := by
  have e1 := mulD_sz (h.szn) (g.szd)
  have e2 := mulD_sz (g.szn) (h.szd)
  have e3 := mulD_sz (h.szd) (g.szd)
  have := s__law_f (a := p.num * q.den + q.num * p.den) (b := ((p.den * q.den : Nat) : Int)) (by exact_mod_cast mul_nz p q) (by rw [Int.natAbs_natCast]; exact pow_mul_lt h.den g.den) l (st := st)
  rw [← add_eq, Int.natCast_mul] at this
  simp [m__law_plus, b__law_plus, fnOf_app, e1, e2, e3, this]
theorem s__law_less {L M : Nat} {p q : Rat} (h : Ht L p) (g : Ht M q) (l : L + M ≤ 8000 := by omega) {st : Store} : m__law_less [.val (frac p), .val (frac q)] st = .ok (.val (frac (p - q))) st := by
  have e1 := mulD_sz (h.szn) (g.szd)
  have e2 := mulD_sz (g.szn) (h.szd)
  have e3 := mulD_sz (h.szd) (g.szd)
  have := s__law_f (a := p.num * q.den - q.num * p.den) (b := ((p.den * q.den : Nat) : Int)) (by exact_mod_cast mul_nz p q) (by rw [Int.natAbs_natCast]; exact pow_mul_lt h.den g.den) l (st := st)
  rw [← sub_eq, Int.natCast_mul] at this
  simp [m__law_less, b__law_less, fnOf_app, e1, e2, e3, this]
theorem s__law_times {L M : Nat} {p q : Rat} (h : Ht L p) (g : Ht M q) (l : L + M ≤ 8000 := by omega) {st : Store} : m__law_times [.val (frac p), .val (frac q)] st = .ok (.val (frac (p * q))) st := by
  have e1 := mulD_sz (h.szn) (g.szn)
  have e3 := mulD_sz (h.szd) (g.szd)
  have := s__law_f (a := p.num * q.num) (b := ((p.den * q.den : Nat) : Int)) (by exact_mod_cast mul_nz p q) (by rw [Int.natAbs_natCast]; exact pow_mul_lt h.den g.den) l (st := st)
  rw [← mul_eq, Int.natCast_mul] at this
  simp [m__law_times, b__law_times, fnOf_app, e1, e3, this]
theorem s__law_over {L M : Nat} {p q : Rat} (h : Ht L p) (g : Ht M q) (nz : q ≠ 0) (l : L + M ≤ 8000 := by omega) {st : Store} : m__law_over [.val (frac p), .val (frac q)] st = .ok (.val (frac (p / q))) st := by
  have z1 := mulD_sz (h.szn (by omega)) (g.szd (by omega))
  have z2 := mulD_sz (h.szd (by omega)) (g.szn (by omega))
  have e := s__law_f (L := L + M) (a := p.num * q.den) (b := p.den * q.num) (Int.mul_ne_zero (by exact_mod_cast p.den_nz) (num_nz nz)) (by rw [Int.natAbs_mul, Int.natAbs_natCast]; exact pow_mul_lt h.den g.num) l (st := st)
  rw [← div_eq] at e
  simp [m__law_over, b__law_over, fnOf_app, z1, z2, e]
theorem num_lt {q : Rat} : (q.num < 0) = (q < 0) := by
  have := Rat.num_nonneg (q := q)
  have h2 : (0 ≤ q) = ¬ (q < 0) := propext Rat.not_lt.symm
  rw [h2] at this
  exact propext ⟨fun z => Decidable.byContradiction fun w => by have := this.mpr w; omega, fun z => Decidable.byContradiction fun w => (this.mp (by omega)) z⟩
theorem num_gt {q : Rat} : (0 < q.num) = (0 < q) := by
  have h := Rat.num_nonneg (q := q)
  have h3 := Rat.num_eq_zero (q := q)
  exact propext ⟨fun z => Decidable.byContradiction fun w => by
    have : q < 0 ∨ q = 0 := by grind
    rcases this with w | w
    · rw [← num_lt] at w; omega
    · rw [h3.mpr w] at z; exact absurd z (by decide), fun z => Decidable.byContradiction fun w => by
    by_cases e : q.num = 0
    · have := h3.mp e; grind
    · have : q.num < 0 := by omega
      rw [num_lt] at this; grind⟩
def sgR (q : Rat) : Int := if 0 < q then 1 else if q < 0 then -1 else 0
theorem s__law_sign {q : Rat} {st : Store} : m__law_sign [.val (frac q)] st = .ok (.val (.int (sgR q))) st := by
  unfold sgR
  by_cases h : 0 < q
  · have h' : 0 < q.num := by rw [num_gt]; exact h
    simp [m__law_sign, b__law_sign, fnOf_app, h, h']
  · have h' : ¬ 0 < q.num := by rw [num_gt]; exact h
    by_cases h2 : q < 0
    · have h3 : q.num < 0 := by rw [num_lt]; exact h2
      simp [m__law_sign, b__law_sign, fnOf_app, h, h', h2, h3]
    · have h3 : ¬ q.num < 0 := by rw [num_lt]; exact h2
      simp [m__law_sign, b__law_sign, fnOf_app, h, h', h2, h3]
theorem law_sum_loop {w : W} {st : Store} {H : Nat} : ∀ (rs : List Rat) (z : Rat) (k : Nat) (e : Option W), Ht k z → HtA H rs → k + (H + 1) * rs.length ≤ 7000 →
    ∃ e', loopF (tName 2) lp__law_sum_1 (rs.map frac) ⟨[some w, some (.val (frac z)), e], st⟩ = .ok .next ⟨[some w, some (.val (frac (z + tot rs))), e'], st⟩ ∧ Ht (k + (H + 1) * rs.length) (z + tot rs)
  | [], z, k, e, hz, _, _ => by
    have e1 : z + tot [] = z := Rat.add_zero z
    exact ⟨e, by rw [e1]; rfl, by rw [e1]; exact hz.mono (by omega)⟩
  | r :: rs, z, k, e, hz, hr, hl => by
    have hl' : k + ((H + 1) * rs.length + (H + 1)) ≤ 7000 := hl
    have h1 := hr r (List.mem_cons_self ..)
    have e1 := s__law_plus hz h1 (by omega) (st := st)
    have st1 : (tName 2 (frac r) >>= fun _ => lp__law_sum_1) ⟨[some w, some (.val (frac z)), e], st⟩ = .ok .next ⟨[some w, some (.val (frac (z + r))), some (.val (frac r))], st⟩ := by
      simp [lp__law_sum_1, e1]
    obtain ⟨e', q1, q2⟩ := law_sum_loop rs (z + r) (k + H + 1) (some (.val (frac r))) ((ht_add hz h1).mono (by omega)) (fun x hx => hr x (List.mem_cons_of_mem _ hx)) (by omega)
    have e2 : z + r + tot rs = z + tot (r :: rs) := by rw [tot_cons]; grind
    rw [e2] at q1 q2
    refine ⟨e', ?_, q2.mono ?_⟩
    · rw [List.map_cons, loopF_step st1, q1]
    · rw [List.length_cons, Nat.mul_add]; omega
theorem s__law_sum {rs : List Rat} {H : Nat} (h : HtA H rs) (hl : 1 + (H + 1) * rs.length ≤ 7000) {st : Store} :
    m__law_sum [.val (.list (rs.map frac))] st = .ok (.val (frac (tot rs))) st ∧ Ht (1 + (H + 1) * rs.length) (tot rs) := by
  have hs := sizeLine_big
  have h2 : 2 ≤ sizeLine := by omega
  obtain ⟨e', q1, q2⟩ := law_sum_loop (w := .val (.list (rs.map frac))) (st := st) rs 0 1 none ht_zero h hl
  have e0 : (0 : Rat) + tot rs = tot rs := Rat.zero_add _
  rw [e0] at q1 q2
  refine ⟨?_, q2⟩
  have e1 : PyData.tuple [.int 0, .int 1] = frac 0 := rfl
  simp [m__law_sum, b__law_sum, fnOf_app, h2, e1, q1]
end EV0
/-! Q, part 2: signed corners, the package's and the law's. -/
namespace EV0
open PySem PySem.Spec PyProof.Rows L2 Z
open SC (lotsF sgn factR prodR pp dif part PosL)
def lotD (p : Rat × Int) : D := .tuple [frac p.1, .int p.2]
structure LotsOk (D k : Nat) (acc : List (Rat × Int)) : Prop where
  len : acc.length ≤ 2 ^ k
  each : ∀ p ∈ acc, Fr D (k * 1024) p.1 ∧ (p.2 = 1 ∨ p.2 = -1)
/-- a row of numbers over D -/
structure Rw6 (D : Nat) (ws : List Rat) : Prop where
  pos : 0 < D
  hi : D ≤ 1024
  len : ws.length ≤ 6
  each : ∀ w ∈ ws, Fr D 1024 w
theorem fr_ht24 {D B : Nat} {q : Rat} (h0 : 0 < D) (h1 : D ≤ 1024) (h : Fr D B q) (hB : B ≤ 65536) : Ht 27 q := by
  refine h.ht (by omega) ?_ (by omega)
  have : B * D ≤ 65536 * 1024 := Nat.mul_le_mul hB h1
  omega
theorem lots_grow {D k : Nat} {acc : List (Rat × Int)} {w : Rat} (h : LotsOk D k acc) (hw : Fr D 1024 w) : LotsOk D (k + 1) (acc ++ acc.map fun p => (p.1 + w, -p.2)) := by
  refine ⟨?_, fun p hp => ?_⟩
  · rw [List.length_append, List.length_map, Nat.pow_succ]
    have := h.len
    omega
  · rcases List.mem_append.mp hp with hp | hp
    · obtain ⟨a, b⟩ := h.each p hp
      exact ⟨a.mono (by omega), b⟩
    · obtain ⟨q, hq, rfl⟩ := List.mem_map.mp hp
      obtain ⟨a, b⟩ := h.each q hq
      refine ⟨(a.add hw).mono (by omega), ?_⟩
      rcases b with b | b <;> simp [b]
theorem pow64 {k : Nat} (h : k ≤ 6) : 2 ^ k ≤ 64 := by
  have : 2 ^ k ≤ 2 ^ 6 := Nat.pow_le_pow_right (by decide) h
  omega
theorem lots_loop {D : Nat} {v0 : Option W} {st : Store} (h0 : 0 < D) (h1 : D ≤ 1024) : ∀ (ws : List Rat) (acc : List (Rat × Int)) (k : Nat) (e : Option W), k + ws.length ≤ 6 → LotsOk D k acc → (∀ w ∈ ws, Fr D 1024 w) →
    ∃ e', loopF (tName 2) lp_lots_of_1 (ws.map frac) ⟨[v0, some (.own (acc.map lotD)), e, none, none], st⟩ = .ok .next ⟨[v0, some (.own ((lotsF acc ws).map lotD)), e', none, none], st⟩ ∧ LotsOk D (k + ws.length) (lotsF acc ws)
  | [], acc, k, e, _, h, _ => ⟨e, rfl, h⟩
  | w :: ws, acc, k, e, hk, h, hw => by
    have hsz := sizeLine_big
    have hk' : k + (ws.length + 1) ≤ 6 := hk
    have hw0 := hw w (List.mem_cons_self ..)
    have hl := h.len
    have p64 := pow64 (k := k) (by omega)
    have h2 : 2 ≤ sizeLine := by omega
    have hc : compLoop [3, 4] (tTupG 2 (tConsG (tName 3) (tConsG (tName 4) tNilG))) cTrue el_lots_of_1 (acc.map lotD) [] ⟨[v0, some (.val (.list (acc.map lotD))), some (.val (frac w)), none, none], st⟩ = .ok ([] ++ acc.map fun p => lotD (p.1 + w, -p.2)) ⟨[v0, some (.val (.list (acc.map lotD))), some (.val (frac w)), none, none], st⟩ := by
      refine compLoop_via _ _ _ _ (by simp; omega) fun p hp => ?_
      obtain ⟨a, b⟩ := h.each p hp
      have e1 := s_fraction_sum (fr_ht24 h0 h1 a (by omega)) (fr_ht24 h0 h1 hw0 (by omega)) (by omega) (st := st)
      simp [el_lots_of_1, lotD, e1, h2]
    have hm : (acc.map fun p => lotD (p.1 + w, -p.2)) = (acc.map fun p => (p.1 + w, -p.2)).map lotD := by rw [List.map_map]; rfl
    rw [hm] at hc
    have step : (tName 2 (frac w) >>= fun _ => lp_lots_of_1) ⟨[v0, some (.own (acc.map lotD)), e, none, none], st⟩ = .ok .next ⟨[v0, some (.own ((acc ++ acc.map fun p => (p.1 + w, -p.2)).map lotD)), some (.val (frac w)), none, none], st⟩ := by
      rw [List.map_append]
      have la : (acc.map lotD).length + ((acc.map fun p => (p.1 + w, -p.2)).map lotD).length ≤ sizeLine := by simp; omega
      generalize acc.map lotD = A at *
      generalize (acc.map fun p => (p.1 + w, -p.2)).map lotD = B at *
      simp [lp_lots_of_1]
      rw [hc]
      simp [la]
    obtain ⟨e', q1, q2⟩ := lots_loop h0 h1 ws (acc ++ acc.map fun p => (p.1 + w, -p.2)) (k + 1) (some (.val (frac w))) (by omega) (lots_grow h hw0) fun x hx => hw x (List.mem_cons_of_mem _ hx)
    refine ⟨e', ?_, ?_⟩
    · rw [List.map_cons, loopF_step step, q1]
      rfl
    · have : k + 1 + ws.length = k + (ws.length + 1) := by omega
      rw [this] at q2
      exact q2
theorem lots0 (D : Nat) : LotsOk D 0 [(0, 1)] := ⟨by decide, fun p hp => by
  have : p = (0, 1) := by simpa using hp
  subst this
  exact ⟨Fr.zero, .inl rfl⟩⟩
theorem s_lots_of {D : Nat} {ws : List Rat} (r : Rw6 D ws) {st : Store} : m_lots_of [.val (.list (ws.map frac))] st = .ok (.own ((lotsF [(0, 1)] ws).map lotD)) st ∧ LotsOk D ws.length (lotsF [(0, 1)] ws) := by
  have hsz := sizeLine_big
  have h1 : 1 ≤ sizeLine := by omega
  have h2 : 2 ≤ sizeLine := by omega
  obtain ⟨e', q1, q2⟩ := lots_loop (v0 := some (.val (.list (ws.map frac)))) (st := st) r.pos r.hi ws [(0, 1)] 0 none (by have := r.len; omega) (lots0 D) r.each
  rw [Nat.zero_add] at q2
  refine ⟨?_, q2⟩
  have e0 : [PyData.tuple [frac 0, .int 1]] = [(0, 1)].map lotD := rfl
  generalize (lotsF [(0, 1)] ws).map lotD = LL at *
  simp [m_lots_of, b_lots_of, fnOf_app, con0, h1, h2]
  simp only [e0] at *
  rw [q1]
  simp
/-! ### powers -/
theorem powB {D R n : Nat} (hD : D ≤ 1024) (hR : R ≤ 32768) (hn : n ≤ 6) : D ^ n ≤ 2 ^ 60 ∧ R ^ n ≤ 2 ^ 90 := by
  refine ⟨?_, ?_⟩
  · have h1 : D ^ n ≤ 1024 ^ n := Nat.pow_le_pow_left hD n
    have h2 : 1024 ^ n ≤ 1024 ^ 6 := Nat.pow_le_pow_right (by decide) hn
    exact Nat.le_trans h1 (Nat.le_trans h2 (by decide))
  · have h1 : R ^ n ≤ 32768 ^ n := Nat.pow_le_pow_left hR n
    have h2 : 32768 ^ n ≤ 32768 ^ 6 := Nat.pow_le_pow_right (by decide) hn
    exact Nat.le_trans h1 (Nat.le_trans h2 (by decide))
theorem powht {D R n : Nat} {q : Rat} (h0 : 0 < D) (hD : D ≤ 1024) (hR : R ≤ 32768) (hn : n ≤ 6) (h : Fr D R q) : Ht 151 (q ^ n) := by
  obtain ⟨a, b⟩ := powB hD hR hn
  refine (h.pow n).ht (Nat.pow_pos h0 |> Nat.pos_iff_ne_zero.mp) ?_ ?_
  · have : R ^ n * D ^ n ≤ 2 ^ 90 * 2 ^ 60 := Nat.mul_le_mul b a
    have e : 2 ^ 90 * 2 ^ 60 < 2 ^ 151 := by decide
    omega
  · have e : 2 ^ 60 < 2 ^ 151 := by decide
    omega
theorem pow_loop {D R n : Nat} {q : Rat} {v1 : Option W} {st : Store} (h0 : 0 < D) (hD : D ≤ 1024) (hR : R ≤ 32768) (h : Fr D R q) : ∀ (m k : Nat) (lo : Int) (e : Option W), k + m ≤ 6 →
    ∃ e', loopF (tName 3) lp_power_by_1 (rangeD lo m) ⟨[some (.val (frac q)), v1, some (.val (frac (q ^ k))), e], st⟩ = .ok .next ⟨[some (.val (frac q)), v1, some (.val (frac (q ^ (k + m)))), e'], st⟩
  | 0, k, lo, e, _ => ⟨e, by rw [rangeD_zero, loopF_nil]; rfl⟩
  | m + 1, k, lo, e, hk => by
    have e1 := s_fraction_times (powht h0 hD hR (n := k) (by omega) h) ((powht h0 hD hR (n := 1) (by omega) h)) (by omega) (st := st)
    rw [Rat.pow_one, ← Rat.pow_succ] at e1
    have step : (tName 3 (.int lo) >>= fun _ => lp_power_by_1) ⟨[some (.val (frac q)), v1, some (.val (frac (q ^ k))), e], st⟩ = .ok .next ⟨[some (.val (frac q)), v1, some (.val (frac (q ^ (k + 1)))), some (.val (.int lo))], st⟩ := by
      simp [lp_power_by_1, e1]
    obtain ⟨e', ih⟩ := pow_loop (v1 := v1) (st := st) (n := n) h0 hD hR h m (k + 1) (lo + 1) (some (.val (.int lo))) (by omega)
    refine ⟨e', ?_⟩
    rw [rangeD_succ, loopF_step step, ih]
    have : k + 1 + m = k + (m + 1) := by omega
    rw [this]
theorem s_power_by {D R n : Nat} {q : Rat} (h0 : 0 < D) (hD : D ≤ 1024) (hR : R ≤ 32768) (hn : n ≤ 6) (h : Fr D R q) {st : Store} : m_power_by [.val (frac q), .val (.int n)] st = .ok (.val (frac (q ^ n))) st := by
  obtain ⟨e', q1⟩ := pow_loop (n := n) (v1 := some (.val (.int n))) (st := st) h0 hD hR h n 0 0 none (by omega)
  have hr := range_row (n := n) (by omega)
  rw [Rat.pow_zero, Nat.zero_add] at q1
  simp [m_power_by, b_power_by, fnOf_app, con1, hr, q1]
/-! ### the signed sum -/
def term (n : Nat) (t : Rat) (p : Rat × Int) : Rat := if 0 < t - p.1 then (p.2 : Rat) * (t - p.1) ^ n else 0
theorem term_fr {D n : Nat} {t : Rat} {p : Rat × Int} (hn : n ≤ 6) (ht : Fr D 16384 t) (h : Fr D 8192 p.1) (hs : p.2 = 1 ∨ p.2 = -1) : Fr (D ^ n) (32768 ^ n) (term n t p) := by
  unfold term
  split
  · have a := ((ht.sub h).mono (C := 32768) (by omega)).pow n
    rcases hs with e | e
    · rw [e, show ((1 : Int) : Rat) = 1 from rfl, Rat.one_mul]; exact a
    · rw [e, show ((-1 : Int) : Rat) = -1 from rfl, show (-1 : Rat) * (t - p.1) ^ n = -((t - p.1) ^ n) by grind]; exact a.neg
  · exact Fr.zero
theorem sum_ht {D n c : Nat} {q : Rat} (h0 : 0 < D) (hD : D ≤ 1024) (hn : n ≤ 6) (hc : c ≤ 64) (h : Fr (D ^ n) (c * 32768 ^ n) q) : Ht 160 q := by
  obtain ⟨a, b⟩ := powB hD (Nat.le_refl 32768) hn
  refine h.ht (Nat.pos_iff_ne_zero.mp (Nat.pow_pos h0)) ?_ ?_
  · have h1 : c * 32768 ^ n ≤ 64 * 2 ^ 90 := Nat.mul_le_mul hc b
    have h2 : c * 32768 ^ n * D ^ n ≤ 64 * 2 ^ 90 * 2 ^ 60 := Nat.mul_le_mul h1 a
    have e : 64 * 2 ^ 90 * 2 ^ 60 < 2 ^ 160 := by decide
    omega
  · have e : 2 ^ 60 < 2 ^ 160 := by decide
    omega
theorem int_frac (i : Int) : PyData.tuple [.int i, .int 1] = frac (i : Rat) := rfl
theorem ht_int1 {i : Int} (h : i = 1 ∨ i = -1) : Ht 1 (i : Rat) := by rcases h with rfl | rfl <;> exact ⟨by decide, by decide⟩
theorem sgn_loop {D n : Nat} {t : Rat} {ps : List PyData} {st : Store} (h0 : 0 < D) (hD : D ≤ 1024) (hn : n ≤ 6) (hl : ps.length = n) (ht : Fr D 16384 t) :
    ∀ (l : List (Rat × Int)) (z : Rat) (c : Nat) (e3 e4 e5 : Option W), c + l.length ≤ 64 → Fr (D ^ n) (c * 32768 ^ n) z → (∀ p ∈ l, Fr D 8192 p.1 ∧ (p.2 = 1 ∨ p.2 = -1)) →
    ∃ f3 f4 f5, loopF (tTupG 2 (tConsG (tName 3) (tConsG (tName 4) tNilG))) lp_signed_sum_1 (l.map lotD) ⟨[some (.val (.list ps)), some (.val (frac t)), some (.val (frac z)), e3, e4, e5], st⟩ = .ok .next ⟨[some (.val (.list ps)), some (.val (frac t)), some (.val (frac (z + sgn n t l))), f3, f4, f5], st⟩ ∧ Fr (D ^ n) ((c + l.length) * 32768 ^ n) (z + sgn n t l)
  | [], z, c, e3, e4, e5, _, hz, _ => by
    have e0 : z + sgn n t [] = z := Rat.add_zero z
    exact ⟨e3, e4, e5, by rw [e0]; rfl, by rw [e0]; exact hz⟩
  | p :: l, z, c, e3, e4, e5, hc, hz, hp => by
    have hsz := sizeLine_big
    have h2 : 2 ≤ sizeLine := by omega
    have hc' : c + (l.length + 1) ≤ 64 := hc
    obtain ⟨p1, p2⟩ := hp p (List.mem_cons_self ..)
    have tf := term_fr hn ht p1 p2
    have left := (ht.sub p1).mono (C := 32768) (by omega)
    have e1 := s_fraction_less (fr_ht24 h0 hD ht (by omega)) (fr_ht24 h0 hD p1 (by omega)) (by omega) (st := st)
    have hz' : Fr (D ^ n) ((c + 1) * 32768 ^ n) (z + term n t p) := by
      have := hz.add tf
      rw [show c * 32768 ^ n + 32768 ^ n = (c + 1) * 32768 ^ n by rw [Nat.add_mul, Nat.one_mul]] at this
      exact this
    have pw := s_power_by h0 hD (Nat.le_refl 32768) hn left (st := st)
    have ph := powht h0 hD (Nat.le_refl 32768) hn left
    have e2 := s_fraction_times (ht_int1 p2) ph (by omega) (st := st)
    have e3' := s_fraction_sum (sum_ht h0 hD hn (by omega) hz) (ht_mul (ht_int1 p2) ph) (by omega) (st := st)
    have step : ∃ f5, (tTupG 2 (tConsG (tName 3) (tConsG (tName 4) tNilG)) (lotD p) >>= fun _ => lp_signed_sum_1) ⟨[some (.val (.list ps)), some (.val (frac t)), some (.val (frac z)), e3, e4, e5], st⟩ = .ok .next ⟨[some (.val (.list ps)), some (.val (frac t)), some (.val (frac (z + term n t p))), some (.val (frac p.1)), some (.val (.int p.2)), f5], st⟩ := by
      refine ⟨some (.val (frac (t - p.1))), ?_⟩
      unfold term
      by_cases hpos : 0 < t - p.1
      · have hn' : 0 < (t - p.1).num := by rw [num_gt]; exact hpos
        simp [lotD, lp_signed_sum_1, e1, hn', hpos, hl, pw, h2, int_frac, e2, e3']
      · have hn' : ¬ 0 < (t - p.1).num := by rw [num_gt]; exact hpos
        simp [lotD, lp_signed_sum_1, e1, hn', hpos, Rat.add_zero]
    obtain ⟨f5, step⟩ := step
    obtain ⟨g3, g4, g5, q1, q2⟩ := sgn_loop h0 hD hn hl ht l (z + term n t p) (c + 1) (some (.val (frac p.1))) (some (.val (.int p.2))) f5 (by omega) hz' fun x hx => hp x (List.mem_cons_of_mem _ hx)
    have es : z + term n t p + sgn n t l = z + sgn n t (p :: l) := by
      have : sgn n t (p :: l) = term n t p + sgn n t l := rfl
      rw [this]; grind
    rw [es] at q1 q2
    refine ⟨g3, g4, g5, ?_, ?_⟩
    · rw [List.map_cons, loopF_step step, q1]
    · have : c + 1 + l.length = c + (l.length + 1) := by omega
      rw [this] at q2
      exact q2
theorem s_signed_sum {D : Nat} {ws : List Rat} {t : Rat} (r : Rw6 D ws) (ht : Fr D 16384 t) {st : Store} : m_signed_sum [.val (.list (ws.map frac)), .val (frac t)] st = .ok (.val (frac (sgn ws.length t (lotsF [(0, 1)] ws)))) st ∧ Ht 160 (sgn ws.length t (lotsF [(0, 1)] ws)) := by
  obtain ⟨q1, q2⟩ := s_lots_of r (st := st)
  have hl := q2.len
  have hn := r.len
  have p64 := pow64 hn
  obtain ⟨f3, f4, f5, q3, q4⟩ := sgn_loop (ps := ws.map frac) (st := st) r.pos r.hi hn (by simp) ht (lotsF [(0, 1)] ws) 0 0 none none none (by omega) Fr.zero fun p hp => by
    obtain ⟨a, b⟩ := q2.each p hp
    exact ⟨a.mono (by omega), b⟩
  rw [Rat.zero_add, Nat.zero_add] at q4
  rw [Rat.zero_add] at q3
  refine ⟨?_, sum_ht r.pos r.hi hn (by omega) q4⟩
  generalize (lotsF [(0, 1)] ws).map lotD = LL at *
  simp [m_signed_sum, b_signed_sum, fnOf_app, con0, q1, q3]
end EV0
/-! Q, part 3: the part of a box. -/
namespace EV0
open PySem PySem.Spec PyProof.Rows L2 Z
open SC (lotsF sgn factR prodR pp dif part PosL)
def ordF : Nat → List Rat → Rat
  | _, [] => 1
  | k, w :: ws => ((k : Rat) * w) * ordF (k + 1) ws
theorem ordF_eq : ∀ (ws : List Rat) (k : Nat), factR k * ordF (k + 1) ws = factR (k + ws.length) * prodR ws
  | [], k => by simp [ordF, prodR]
  | w :: ws, k => by
    have ih := ordF_eq ws (k + 1)
    have e : factR (k + 1) = ((k + 1 : Nat) : Rat) * factR k := rfl
    have e2 : k + (w :: ws).length = k + 1 + ws.length := by simp; omega
    have e3 : prodR (w :: ws) = w * prodR ws := rfl
    rw [e2, e3]
    show factR k * ((((k + 1 : Nat) : Rat) * w) * ordF (k + 1 + 1) ws) = _
    rw [show factR (k + 1 + ws.length) * (w * prodR ws) = w * (factR (k + 1 + ws.length) * prodR ws) by grind, ← ih, e]
    grind
theorem ord_fr {D k : Nat} {w : Rat} (hk : k ≤ 6) (hw : Fr D 1024 w) : Fr D 6144 ((k : Rat) * w) := by
  have := (Fr.nat (D := 1) (B := 6) hk).mul hw
  rw [Nat.one_mul] at this
  exact this
theorem ord_ht {D j : Nat} {z : Rat} (h0 : 0 < D) (hD : D ≤ 1024) (hj : j ≤ 6) (h : Fr (D ^ j) (6144 ^ j) z) : Ht 151 z := by
  have h2 : Fr (D ^ j) (32768 ^ j) z := h.mono (Nat.pow_le_pow_left (by decide) j)
  obtain ⟨a, b⟩ := powB hD (Nat.le_refl 32768) hj
  refine h2.ht (Nat.pos_iff_ne_zero.mp (Nat.pow_pos h0)) ?_ ?_
  · have : 32768 ^ j * D ^ j ≤ 2 ^ 90 * 2 ^ 60 := Nat.mul_le_mul b a
    have e : 2 ^ 90 * 2 ^ 60 < 2 ^ 151 := by decide
    omega
  · have e : 2 ^ 60 < 2 ^ 151 := by decide
    omega
theorem ord_loop {D : Nat} {v0 : Option W} {st : Store} (h0 : 0 < D) (hD : D ≤ 1024) : ∀ (ws : List Rat) (k j : Nat) (z : Rat) (e2 e3 : Option W), j + ws.length ≤ 6 → k + ws.length ≤ 7 → Fr (D ^ j) (6144 ^ j) z → (∀ w ∈ ws, Fr D 1024 w) →
    ∃ f2 f3, loopF (tTupG 2 (tConsG (tName 2) (tConsG (tName 3) tNilG))) lp_orders_times_1 ((idx k ws).map fun q => .tuple [.int (q.1 : Int), frac q.2]) ⟨[v0, some (.val (frac z)), e2, e3], st⟩ = .ok .next ⟨[v0, some (.val (frac (z * ordF k ws))), f2, f3], st⟩ ∧ Fr (D ^ (j + ws.length)) (6144 ^ (j + ws.length)) (z * ordF k ws)
  | [], k, j, z, e2, e3, _, _, hz, _ => by
    have e : z * ordF k [] = z := Rat.mul_one z
    exact ⟨e2, e3, by rw [e]; rfl, by rw [e]; exact hz⟩
  | w :: ws, k, j, z, e2, e3, hj, hk, hz, hw => by
    have hsz := sizeLine_big
    have h2 : 2 ≤ sizeLine := by omega
    have hj' : j + (ws.length + 1) ≤ 6 := hj
    have hk' : k + (ws.length + 1) ≤ 7 := hk
    have w0 := hw w (List.mem_cons_self ..)
    have f := ord_fr (k := k) (by omega) w0
    have hk5 : Ht 5 (k : Rat) := ht_nat (L := 5) (by omega) (by decide)
    have g1 := s_fraction_times hk5 (fr_ht24 h0 hD w0 (by omega)) (by omega) (st := st)
    have g2 := s_fraction_times (ord_ht h0 hD (j := j) (by omega) hz) (fr_ht24 h0 hD f (by omega)) (by omega) (st := st)
    have hz' : Fr (D ^ (j + 1)) (6144 ^ (j + 1)) (z * ((k : Rat) * w)) := by
      rw [Nat.pow_succ, Nat.pow_succ]
      exact hz.mul f
    have step : (tTupG 2 (tConsG (tName 2) (tConsG (tName 3) tNilG)) (.tuple [.int (k : Int), frac w]) >>= fun _ => lp_orders_times_1) ⟨[v0, some (.val (frac z)), e2, e3], st⟩ = .ok .next ⟨[v0, some (.val (frac (z * ((k : Rat) * w)))), some (.val (.int (k : Int))), some (.val (frac w))], st⟩ := by
      have ek := frac_nat k
      simp [lp_orders_times_1, h2, ← ek, g1, g2]
    obtain ⟨f2, f3, q1, q2⟩ := ord_loop h0 hD ws (k + 1) (j + 1) (z * ((k : Rat) * w)) (some (.val (.int (k : Int)))) (some (.val (frac w))) (by omega) (by omega) hz' fun x hx => hw x (List.mem_cons_of_mem _ hx)
    have e : z * ((k : Rat) * w) * ordF (k + 1) ws = z * ordF k (w :: ws) := by
      show _ = z * (((k : Rat) * w) * ordF (k + 1) ws)
      rw [Rat.mul_assoc]
    rw [e] at q1 q2
    refine ⟨f2, f3, ?_, ?_⟩
    · show loopF _ _ (PyData.tuple [.int (k : Int), frac w] :: (idx (k + 1) ws).map fun q => .tuple [.int (q.1 : Int), frac q.2]) _ = _
      rw [loopF_step step, q1]
    · have : j + 1 + ws.length = j + (ws.length + 1) := by omega
      rw [this] at q2
      exact q2
theorem enum2_of {α : Type} (f : α → PyData) (xs : List α) (k : Nat) (hk : k ≤ 1000) : enumW2 [.val (.list (xs.map f)), .val (.int (k : Int))] = some ((idx k xs).map fun q => .tuple [.int (q.1 : Int), f q.2]) := by
  have hn := numbered_map f xs k
  have e : itemsD (.val (.list (xs.map f))) = some (xs.map f) := itemsD_list
  unfold enumW2
  simp only [e]
  rw [if_pos ⟨by omega, by omega⟩, ← hn]
  rfl
theorem s_orders_times {D : Nat} {ws : List Rat} (r : Rw6 D ws) {st : Store} : m_orders_times [.val (.list (ws.map frac))] st = .ok (.val (frac (factR ws.length * prodR ws))) st ∧ Ht 151 (factR ws.length * prodR ws) := by
  have e := ordF_eq ws 0
  have e0 : factR 0 = 1 := rfl
  rw [e0, Rat.one_mul, Nat.zero_add, Nat.zero_add] at e
  have hn := r.len
  obtain ⟨f2, f3, q1, q2⟩ := ord_loop (v0 := some (.val (.list (ws.map frac)))) (st := st) r.pos r.hi ws 1 0 1 none none (by omega) (by omega) (by rw [Nat.pow_zero, Nat.pow_zero]; exact Fr.one (Nat.le_refl _)) r.each
  rw [Rat.one_mul, e, Nat.zero_add] at q2
  rw [Rat.one_mul, e] at q1
  have en := enum2_of frac ws 1 (by decide)
  refine ⟨?_, ord_ht r.pos r.hi hn q2⟩
  have e1 : ((1 : Nat) : Int) = 1 := rfl
  rw [e1] at en
  simp [m_orders_times, b_orders_times, fnOf_app, con1, en]
  rw [q1]
  simp
/-! ### the parts and the rest -/
def restF (b : Rat) : List Rat → Rat
  | [] => b
  | r :: rs => restF (if r < 0 then b - r else b) rs
theorem rest_fr {D : Nat} : ∀ {ws : List Rat} {b : Rat} {B : Nat}, Fr D B b → (∀ w ∈ ws, Fr D 1024 w) → Fr D (B + ws.length * 1024) (restF b ws)
  | [], b, B, h, _ => by simpa [restF] using h
  | w :: ws, b, B, h, hw => by
    have w0 := hw w (List.mem_cons_self ..)
    have ih := rest_fr (ws := ws) (b := if w < 0 then b - w else b) (B := B + 1024) (by
      split
      · exact h.sub w0
      · exact h.mono (by omega)) fun x hx => hw x (List.mem_cons_of_mem _ hx)
    exact ih.mono (by rw [List.length_cons, Nat.add_mul]; omega)
theorem unfrac {i j : Nat} {q : Rat} {env : List (Option W)} {st : Store} (hi : i < env.length) (hj : j < env.length) : tTupG 2 (tConsG (tName i) (tConsG (tName j) tNilG)) (frac q) ⟨env, st⟩ = .ok () ⟨(env.set i (some (.val (.int q.num)))).set j (some (.val (.int (q.den : Int)))), st⟩ := by
  show tTupG 2 (tConsG (tName i) (tConsG (tName j) tNilG)) (.tuple [.int q.num, .int (q.den : Int)]) ⟨env, st⟩ = _
  simp [hi, hj]
theorem parts_loop {D : Nat} {v0 v1 : Option W} {st : Store} (h0 : 0 < D) (hD : D ≤ 1024) : ∀ (ws : List Rat) (pre : List Rat) (b : Rat) (B : Nat) (e4 e5 : Option W), pre.length + ws.length ≤ 6 → B + ws.length * 1024 ≤ 65536 → Fr D B b → (∀ w ∈ ws, Fr D 1024 w) →
    ∃ f4 f5, loopF (tTupG 2 (tConsG (tName 4) (tConsG (tName 5) tNilG))) lp_part_of_box_1 (ws.map frac) ⟨[v0, v1, some (.own (pre.map frac)), some (.val (frac b)), e4, e5], st⟩ = .ok .next ⟨[v0, v1, some (.own ((pre ++ ws.map absR).map frac)), some (.val (frac (restF b ws))), f4, f5], st⟩
  | [], pre, b, B, e4, e5, _, _, _, _ => ⟨e4, e5, by simp [loopF_nil, restF]⟩
  | w :: ws, pre, b, B, e4, e5, hl, hB, hb, hw => by
    have hsz := sizeLine_big
    have h2 : 2 ≤ sizeLine := by omega
    have hl' : pre.length + (ws.length + 1) ≤ 6 := hl
    have hB' : B + (ws.length + 1) * 1024 ≤ 65536 := hB
    have w0 := hw w (List.mem_cons_self ..)
    have g1 := s_fraction_less (fr_ht24 h0 hD hb (by omega)) (fr_ht24 h0 hD w0 (by omega)) (by omega) (st := st)
    have step : (tTupG 2 (tConsG (tName 4) (tConsG (tName 5) tNilG)) (frac w) >>= fun _ => lp_part_of_box_1) ⟨[v0, v1, some (.own (pre.map frac)), some (.val (frac b)), e4, e5], st⟩ = .ok .next ⟨[v0, v1, some (.own ((pre ++ [absR w]).map frac)), some (.val (frac (if w < 0 then b - w else b))), some (.val (.int w.num)), some (.val (.int (w.den : Int)))], st⟩ := by
      have af := absFrac w
      have wf : PyData.tuple [.int w.num, .int (w.den : Int)] = frac w := rfl
      have hpl : (pre.map frac).length < sizeLine := by simp; omega
      rw [List.map_append, List.map_singleton]
      generalize pre.map frac = PP at *
      have un := unfrac (i := 4) (j := 5) (q := w) (env := [v0, v1, some (.own PP), some (.val (frac b)), e4, e5]) (st := st) (by simp) (by simp)
      by_cases hw0 : w < 0
      · have hn : w.num < 0 := by rw [num_lt]; exact hw0
        rw [if_pos hn] at af
        simp [un, lp_part_of_box_1, h2, hn, hw0, af, hpl, wf, g1]
      · have hn : ¬ w.num < 0 := by rw [num_lt]; exact hw0
        rw [if_neg hn] at af
        simp [un, lp_part_of_box_1, h2, hn, hw0, af, hpl]
    have hb' : Fr D (B + 1024) (if w < 0 then b - w else b) := by
      split
      · exact hb.sub w0
      · exact hb.mono (by omega)
    obtain ⟨f4, f5, ih⟩ := parts_loop (v0 := v0) (v1 := v1) (st := st) h0 hD ws (pre ++ [absR w]) (if w < 0 then b - w else b) (B + 1024) (some (.val (.int w.num))) (some (.val (.int (w.den : Int)))) (by simp; omega) (by omega) hb' fun x hx => hw x (List.mem_cons_of_mem _ hx)
    refine ⟨f4, f5, ?_⟩
    rw [List.map_cons, loopF_step step, ih]
    have e : pre ++ [absR w] ++ ws.map absR = pre ++ (w :: ws).map absR := by simp
    rw [e]
    rfl
theorem absR_pos {q : Rat} (h : q ≠ 0) : 0 < absR q := by unfold absR; split <;> grind
theorem Rw6.abs {D : Nat} {ws : List Rat} (r : Rw6 D ws) : Rw6 D (ws.map absR) := ⟨r.pos, r.hi, by rw [List.length_map]; exact r.len, fun w hw => by
  obtain ⟨x, hx, rfl⟩ := List.mem_map.mp hw
  exact (r.each x hx).abs⟩
theorem posL_abs {ws : List Rat} (nz : ∀ w ∈ ws, w ≠ 0) : PosL (ws.map absR) := fun w hw => by
  obtain ⟨x, hx, rfl⟩ := List.mem_map.mp hw
  exact absR_pos (nz x hx)
/-- what part_below tells -/
def pb (ws : List Rat) (t : Rat) : Rat := part (ws.map absR) (restF t ws)
theorem den_pos {ws : List Rat} (nz : ∀ w ∈ ws, w ≠ 0) : factR (ws.map absR).length * prodR (ws.map absR) ≠ 0 := by
  have := SC.part_pos (posL_abs nz)
  grind
theorem s_part_of_box {D : Nat} {ws : List Rat} {t : Rat} (r : Rw6 D ws) (nz : ∀ w ∈ ws, w ≠ 0) (ht : Fr D 8192 t) {st : Store} : m_part_of_box [.val (.tuple (ws.map frac)), .val (frac t)] st = .ok (.val (frac (pb ws t))) st := by
  have hsz := sizeLine_big
  have h0 : 0 ≤ sizeLine := by omega
  have hn := r.len
  obtain ⟨f4, f5, q1⟩ := parts_loop (v0 := some (.val (.tuple (ws.map frac)))) (v1 := some (.val (frac t))) (st := st) r.pos r.hi ws [] t 8192 none none (by simpa using hn) (by omega) ht r.each
  have hr := (rest_fr ht r.each).mono (C := 16384) (by omega)
  obtain ⟨g1, g2⟩ := s_signed_sum r.abs hr (st := st)
  obtain ⟨g3, g4⟩ := s_orders_times r.abs (st := st)
  have g5 := s_fraction_over g2 g4 (den_pos nz) (by omega) (st := st)
  have e := SC.lots_part (ws.map absR) (restF t ws)
  rw [e] at g5
  rw [List.nil_append, List.map_nil] at q1
  unfold pb
  generalize sgn (ws.map absR).length (restF t ws) (lotsF [(0, 1)] (ws.map absR)) = SS at *
  generalize factR (ws.map absR).length * prodR (ws.map absR) = OO at *
  generalize (ws.map absR).map frac = PP at *
  simp [m_part_of_box, b_part_of_box, fnOf_app]
  rw [q1]
  simp [g1, g3, g5]
/-! ### the looks -/
theorem s_is_unlike_nought {q : Rat} (h : q ≠ 0) {st : Store} : m_is_unlike_nought [.val (frac q)] st = .ok (.val (.bool true)) st := by
  have := num_nz h
  simp [m_is_unlike_nought, b_is_unlike_nought, fnOf_app, this]
theorem fnAt_mk {i : Nat} {env : List (Option W)} {st : Store} {g : Str} (h : env[i]? = some (some (.fn g))) : fnAt i ⟨env, st⟩ = some g := by
  unfold fnAt
  simp only [h]
theorem eCallV_at {n i : Nat} {tab : List (Str × Fn)} {ma : M (List W)} {env : List (Option W)} {st : Store} {g : Str} {f : Fn} (h : env[i]? = some (some (.fn g))) (hf : tab.lookup g = some f) : eCallV n i tab ma ⟨env, st⟩ = (ma >>= callS n f) ⟨env, st⟩ := by
  unfold eCallV
  rw [fnAt_mk h]
  simp only [hf]
@[simp] theorem eFn_app {x : Str} {s : S} : eFn x s = .ok (.fn x) s := rfl
theorem each_loop {v0 : Option W} {g : Str} {f : Fn} {st : Store} (hf : List.lookup g [("is_unlike_nought", m_is_unlike_nought), ("is_condition", m_is_condition)] = some f) : ∀ (xs : List PyData) (k : Nat) (e2 e3 : Option W), (∀ x ∈ xs, f [.val x] st = .ok (.val (.bool true)) st) →
    ∃ f2 f3, loopF (tTupG 2 (tConsG (tName 2) (tConsG (tName 3) tNilG))) lp_check_each_1 ((idx k xs).map fun q => .tuple [.int (q.1 : Int), q.2]) ⟨[v0, some (.fn g), e2, e3], st⟩ = .ok .next ⟨[v0, some (.fn g), f2, f3], st⟩
  | [], k, e2, e3, _ => ⟨e2, e3, rfl⟩
  | x :: xs, k, e2, e3, h => by
    have h1 := h x (List.mem_cons_self ..)
    have step : (tTupG 2 (tConsG (tName 2) (tConsG (tName 3) tNilG)) (.tuple [.int (k : Int), x]) >>= fun _ => lp_check_each_1) ⟨[v0, some (.fn g), e2, e3], st⟩ = .ok .next ⟨[v0, some (.fn g), some (.val (.int (k : Int))), some (.val x)], st⟩ := by
      have c := eCallV_at (n := 1) (i := 1) (ma := aCons (eVar 3) aNil) (env := [v0, some (.fn g), some (.val (.int (k : Int))), some (.val x)]) (st := st) rfl hf
      simp [lp_check_each_1, c, h1]
    obtain ⟨f2, f3, ih⟩ := each_loop hf xs (k + 1) (some (.val (.int (k : Int)))) (some (.val x)) fun y hy => h y (List.mem_cons_of_mem _ hy)
    refine ⟨f2, f3, ?_⟩
    show loopF _ _ (PyData.tuple [.int (k : Int), x] :: (idx (k + 1) xs).map fun q => .tuple [.int (q.1 : Int), q.2]) _ = _
    rw [loopF_step step, ih]
theorem enum_tup (xs : List PyData) : enumW [.val (.tuple xs)] = some ((idx 0 xs).map fun q => .tuple [.int (q.1 : Int), q.2]) := by
  show (itemsD (.val (.tuple xs))).map (Z.numbered 0) = _
  have := numbered_map (fun x : PyData => x) xs 0
  rw [List.map_id'] at this
  rw [itemsD_tuple]
  show some (Z.numbered 0 xs) = _
  rw [← this]
  rfl
theorem s_check_each {g : Str} {f : Fn} {st : Store} (hf : List.lookup g [("is_unlike_nought", m_is_unlike_nought), ("is_condition", m_is_condition)] = some f) {xs : List PyData} (h : ∀ x ∈ xs, f [.val x] st = .ok (.val (.bool true)) st) : m_check_each [.val (.tuple xs), .fn g] st = .ok (.val .none) st := by
  obtain ⟨f2, f3, q⟩ := each_loop (v0 := some (.val (.tuple xs))) hf xs 0 none none h
  simp [m_check_each, b_check_each, fnOf_app, enum_tup]
  rw [q]
  simp
theorem s_check_tuple {xs : List PyData} {n : Nat} (h : xs.length ≤ n) {st : Store} : m_check_tuple [.val (.tuple xs), .val (.int n)] st = .ok (.val .none) st := by
  have : ¬ (n : Int) < xs.length := by omega
  have : ¬ n < xs.length := by omega
  simp [m_check_tuple, b_check_tuple, fnOf_app, this]
theorem s_part_below {D : Nat} {ws : List Rat} {t : Rat} (r : Rw6 D ws) (nz : ∀ w ∈ ws, w ≠ 0) (ht : Fr D 8192 t) {st : Store} : m_part_below [.val (.tuple (ws.map frac)), .val (frac t)] st = .ok (.val (frac (pb ws t))) st := by
  have e1 := s_check_tuple (xs := ws.map frac) (n := 6) (by simpa using r.len) (st := st)
  have e2 := s_check_each (g := "is_unlike_nought") (f := m_is_unlike_nought) (st := st) rfl (xs := ws.map frac) fun x hx => by
    obtain ⟨q, hq, rfl⟩ := List.mem_map.mp hx
    exact s_is_unlike_nought (nz q hq)
  have e3 := s_part_of_box r nz ht (st := st)
  have e0 : ((6 : Nat) : Int) = 6 := rfl
  rw [e0] at e1
  generalize ws.map frac = WW at *
  simp [m_part_below, b_part_below, fnOf_app, con_MOST_DRAWS, e1, e2, e3]
end EV0
/-! Q, part 4: the law's own signed corners. -/
namespace EV0
open PySem PySem.Spec PyProof.Rows L2 Z
open SC (lotsF sgn factR prodR pp dif part PosL)
theorem law_parts_loop {D : Nat} {v0 v1 x5 x6 x7 x8 x9 x10 x11 x12 : Option W} {st : Store} (h0 : 0 < D) (hD : D ≤ 1024) : ∀ (ws : List Rat) (pre : List Rat) (b : Rat) (B : Nat) (e4 : Option W), pre.length + ws.length ≤ 6 → B + ws.length * 1024 ≤ 65536 → Fr D B b → (∀ w ∈ ws, Fr D 1024 w) →
    ∃ f4, loopF (tName 4) lp__law_part_below_1 (ws.map frac) ⟨[v0, v1, some (.val (frac b)), some (.own (pre.map frac)), e4, x5, x6, x7, x8, x9, x10, x11, x12], st⟩ = .ok .next ⟨[v0, v1, some (.val (frac (restF b ws))), some (.own ((pre ++ ws.map absR).map frac)), f4, x5, x6, x7, x8, x9, x10, x11, x12], st⟩
  | [], pre, b, B, e4, _, _, _, _ => ⟨e4, by simp [loopF_nil, restF]⟩
  | w :: ws, pre, b, B, e4, hl, hB, hb, hw => by
    have hsz := sizeLine_big
    have h2 : 2 ≤ sizeLine := by omega
    have hl' : pre.length + (ws.length + 1) ≤ 6 := hl
    have hB' : B + (ws.length + 1) * 1024 ≤ 65536 := hB
    have w0 := hw w (List.mem_cons_self ..)
    have g1 := s__law_less (fr_ht24 h0 hD hb (by omega)) (fr_ht24 h0 hD w0 (by omega)) (by omega) (st := st)
    have step : (tName 4 (frac w) >>= fun _ => lp__law_part_below_1) ⟨[v0, v1, some (.val (frac b)), some (.own (pre.map frac)), e4, x5, x6, x7, x8, x9, x10, x11, x12], st⟩ = .ok .next ⟨[v0, v1, some (.val (frac (if w < 0 then b - w else b))), some (.own ((pre ++ [absR w]).map frac)), some (.val (frac w)), x5, x6, x7, x8, x9, x10, x11, x12], st⟩ := by
      have af := absFrac w
      have hpl : (pre.map frac).length < sizeLine := by simp; omega
      rw [List.map_append, List.map_singleton]
      generalize pre.map frac = PP at *
      by_cases hw0 : w < 0
      · have hn : w.num < 0 := by rw [num_lt]; exact hw0
        rw [if_pos hn] at af
        simp [lp__law_part_below_1, h2, hn, hw0, af, hpl, g1]
      · have hn : ¬ w.num < 0 := by rw [num_lt]; exact hw0
        rw [if_neg hn] at af
        simp [lp__law_part_below_1, h2, hn, hw0, af, hpl]
    have hb' : Fr D (B + 1024) (if w < 0 then b - w else b) := by
      split
      · exact hb.sub w0
      · exact hb.mono (by omega)
    obtain ⟨f4, ih⟩ := law_parts_loop (v0 := v0) (v1 := v1) (x5 := x5) (x6 := x6) (x7 := x7) (x8 := x8) (x9 := x9) (x10 := x10) (x11 := x11) (x12 := x12) (st := st) h0 hD ws (pre ++ [absR w]) (if w < 0 then b - w else b) (B + 1024) (some (.val (frac w))) (by simp; omega) (by omega) hb' fun x hx => hw x (List.mem_cons_of_mem _ hx)
    refine ⟨f4, ?_⟩
    rw [List.map_cons, loopF_step step, ih]
    have e : pre ++ [absR w] ++ ws.map absR = pre ++ (w :: ws).map absR := by simp
    rw [e]
    rfl
/-- the number before the turn: under, told from the left -/
theorem law_lots_loop {D : Nat} {v0 v1 v2 x4 x8 x11 x12 : Option W} {st : Store} (h0 : 0 < D) (hD : D ≤ 1024) : ∀ (ws pre : List Rat) (acc : List (Rat × Int)) (j : Nat) (u : Rat) (e7 : Option W), pre.length = j → j + ws.length ≤ 6 → LotsOk D j acc → (∀ w ∈ ws, Fr D 1024 w) → Fr (D ^ j) (6144 ^ j) u →
    ∃ f7, loopF (tName 7) lp__law_part_below_2 (rangeD (j : Nat) ws.length) ⟨[v0, v1, v2, some (.own ((pre ++ ws).map frac)), x4, some (.own (acc.map lotD)), some (.val (frac u)), e7, x8, none, none, x11, x12], st⟩ = .ok .next ⟨[v0, v1, v2, some (.own ((pre ++ ws).map frac)), x4, some (.own ((lotsF acc ws).map lotD)), some (.val (frac (u * ordF (j + 1) ws))), f7, x8, none, none, x11, x12], st⟩ ∧ LotsOk D (j + ws.length) (lotsF acc ws) ∧ Fr (D ^ (j + ws.length)) (6144 ^ (j + ws.length)) (u * ordF (j + 1) ws)
  | [], pre, acc, j, u, e7, _, _, h, _, hu => by
    have e : u * ordF (j + 1) [] = u := Rat.mul_one u
    exact ⟨e7, by rw [e]; rfl, h, by rw [e]; exact hu⟩
  | w :: ws, pre, acc, j, u, e7, hp, hl, h, hw, hu => by
    have hsz := sizeLine_big
    have h2 : 2 ≤ sizeLine := by omega
    have hl' : j + (ws.length + 1) ≤ 6 := hl
    have w0 := hw w (List.mem_cons_self ..)
    have hal := h.len
    have p64 := pow64 (k := j) (by omega)
    have hS : (pre ++ w :: ws)[j]? = some w := by rw [← hp]; exact atI_mid
    have xk := ixl_map frac hS
    obtain ⟨SS, hSS⟩ : ∃ SS, SS = (pre ++ w :: ws).map frac := ⟨_, rfl⟩
    rw [← hSS] at xk
    have hc : compLoop [9, 10] (tTupG 2 (tConsG (tName 9) (tConsG (tName 10) tNilG))) cTrue el__law_part_below_1 (acc.map lotD) [] ⟨[v0, v1, v2, some (.own SS), x4, some (.val (.list (acc.map lotD))), some (.val (frac u)), some (.val (.int (j : Int))), x8, none, none, x11, x12], st⟩ = .ok ([] ++ acc.map fun p => lotD (p.1 + w, -p.2)) ⟨[v0, v1, v2, some (.own SS), x4, some (.val (.list (acc.map lotD))), some (.val (frac u)), some (.val (.int (j : Int))), x8, none, none, x11, x12], st⟩ := by
      refine compLoop_via _ _ _ _ (by simp; omega) fun p hp => ?_
      obtain ⟨a, b⟩ := h.each p hp
      have e1 := s__law_plus (fr_ht24 h0 hD a (by omega)) (fr_ht24 h0 hD w0 (by omega)) (by omega) (st := st)
      simp [el__law_part_below_1, lotD, xk, e1, h2]
    have hm : (acc.map fun p => lotD (p.1 + w, -p.2)) = (acc.map fun p => (p.1 + w, -p.2)).map lotD := by rw [List.map_map]; rfl
    rw [hm] at hc
    have f := ord_fr (k := j + 1) (by omega) w0
    have hk5 : Ht 5 ((j + 1 : Nat) : Rat) := ht_nat (L := 5) (by omega) (by decide)
    have g1 := s__law_times (fr_ht24 h0 hD w0 (by omega)) hk5 (by omega) (st := st)
    rw [show w * ((j + 1 : Nat) : Rat) = ((j + 1 : Nat) : Rat) * w by grind] at g1
    have g2 := s__law_times (ord_ht h0 hD (j := j) (by omega) hu) (fr_ht24 h0 hD f (by omega)) (by omega) (st := st)
    have hu' : Fr (D ^ (j + 1)) (6144 ^ (j + 1)) (u * (((j + 1 : Nat) : Rat) * w)) := by
      rw [Nat.pow_succ, Nat.pow_succ]
      exact hu.mul f
    have step : (tName 7 (.int (j : Int)) >>= fun _ => lp__law_part_below_2) ⟨[v0, v1, v2, some (.own SS), x4, some (.own (acc.map lotD)), some (.val (frac u)), e7, x8, none, none, x11, x12], st⟩ = .ok .next ⟨[v0, v1, v2, some (.own SS), x4, some (.own ((acc ++ acc.map fun p => (p.1 + w, -p.2)).map lotD)), some (.val (frac (u * (((j + 1 : Nat) : Rat) * w)))), some (.val (.int (j : Int))), x8, none, none, x11, x12], st⟩ := by
      rw [List.map_append]
      have la : (acc.map lotD).length + ((acc.map fun p => (p.1 + w, -p.2)).map lotD).length ≤ sizeLine := by simp; omega
      have ek := frac_nat (j + 1)
      have ej : (((j + 1 : Nat) : Int)) = (j : Int) + 1 := by omega
      rw [ej] at ek
      generalize ((j + 1 : Nat) : Rat) = J at *
      generalize acc.map lotD = A at *
      generalize (acc.map fun p => (p.1 + w, -p.2)).map lotD = BB at *
      simp [lp__law_part_below_2]
      rw [hc]
      simp [la, xk, h2, ← ek, g1, g2]
    obtain ⟨f7, q1, q2, q3⟩ := law_lots_loop (v0 := v0) (v1 := v1) (v2 := v2) (x4 := x4) (x8 := x8) (x11 := x11) (x12 := x12) (st := st) h0 hD ws (pre ++ [w]) (acc ++ acc.map fun p => (p.1 + w, -p.2)) (j + 1) (u * (((j + 1 : Nat) : Rat) * w)) (some (.val (.int (j : Int)))) (by simp [hp]) (by omega) (lots_grow h w0) (fun x hx => hw x (List.mem_cons_of_mem _ hx)) hu'
    have e1 : pre ++ [w] ++ ws = pre ++ w :: ws := by simp
    have e2 : u * (((j + 1 : Nat) : Rat) * w) * ordF (j + 1 + 1) ws = u * ordF (j + 1) (w :: ws) := by
      show _ = u * ((((j + 1 : Nat) : Rat) * w) * ordF (j + 1 + 1) ws)
      rw [Rat.mul_assoc]
    have e3 : j + 1 + ws.length = j + (ws.length + 1) := by omega
    have e4 : ((j + 1 : Nat) : Int) = (j : Int) + 1 := by omega
    rw [e1, e2, e4, ← hSS] at q1
    rw [e2] at q3
    rw [e3] at q2 q3
    refine ⟨f7, ?_, q2, q3⟩
    rw [List.length_cons, rangeD_succ, ← hSS, loopF_step step, q1]
    rfl
theorem law_pow_loop {D R n : Nat} {q : Rat} {v0 v1 v2 v3 v4 v5 v6 v8 v9 v10 : Option W} {st : Store} (h0 : 0 < D) (hD : D ≤ 1024) (hR : R ≤ 32768) (h : Fr D R q) : ∀ (m k : Nat) (lo : Int) (e : Option W), k + m ≤ 6 →
    ∃ e', loopF (tName 7) lp__law_part_below_3 (rangeD lo m) ⟨[v0, v1, v2, v3, v4, v5, v6, e, v8, v9, v10, some (.val (frac q)), some (.val (frac (q ^ k)))], st⟩ = .ok .next ⟨[v0, v1, v2, v3, v4, v5, v6, e', v8, v9, v10, some (.val (frac q)), some (.val (frac (q ^ (k + m))))], st⟩
  | 0, k, lo, e, _ => ⟨e, by rw [rangeD_zero, loopF_nil]; rfl⟩
  | m + 1, k, lo, e, hk => by
    have e1 := s__law_times (powht h0 hD hR (n := k) (by omega) h) ((powht h0 hD hR (n := 1) (by omega) h)) (by omega) (st := st)
    rw [Rat.pow_one, ← Rat.pow_succ] at e1
    have step : (tName 7 (.int lo) >>= fun _ => lp__law_part_below_3) ⟨[v0, v1, v2, v3, v4, v5, v6, e, v8, v9, v10, some (.val (frac q)), some (.val (frac (q ^ k)))], st⟩ = .ok .next ⟨[v0, v1, v2, v3, v4, v5, v6, some (.val (.int lo)), v8, v9, v10, some (.val (frac q)), some (.val (frac (q ^ (k + 1))))], st⟩ := by
      simp [lp__law_part_below_3, e1]
    obtain ⟨e', ih⟩ := law_pow_loop (v0 := v0) (v1 := v1) (v2 := v2) (v3 := v3) (v4 := v4) (v5 := v5) (v6 := v6) (v8 := v8) (v9 := v9) (v10 := v10) (st := st) (n := n) h0 hD hR h m (k + 1) (lo + 1) (some (.val (.int lo))) (by omega)
    refine ⟨e', ?_⟩
    rw [rangeD_succ, loopF_step step, ih]
    have : k + 1 + m = k + (m + 1) := by omega
    rw [this]
theorem sign_frac {s : Int} {q : Rat} (h : s = 1 ∨ s = -1) : PyData.tuple [.int (s * q.num), .int (q.den : Int)] = frac ((s : Rat) * q) := by
  rcases h with rfl | rfl
  · rw [Int.one_mul, show ((1 : Int) : Rat) = 1 from rfl, Rat.one_mul]; rfl
  · rw [show ((-1 : Int) : Rat) = -1 from rfl, show (-1 : Rat) * q = -q by grind]
    unfold frac
    rw [Rat.neg_num, Rat.neg_den, show (-1 : Int) * q.num = -q.num by omega]
theorem law_sgn_loop {D n : Nat} {t : Rat} {ps : List PyData} {v0 v1 v4 v6 x5 : Option W} {st : Store} (h0 : 0 < D) (hD : D ≤ 1024) (hn : n ≤ 6) (hl : ps.length = n) (ht : Fr D 16384 t) :
    ∀ (l : List (Rat × Int)) (z : Rat) (c : Nat) (e7 e9 e10 e11 e12 : Option W), c + l.length ≤ 64 → Fr (D ^ n) (c * 32768 ^ n) z → (∀ p ∈ l, Fr D 8192 p.1 ∧ (p.2 = 1 ∨ p.2 = -1)) →
    ∃ f7 f9 f10 f11 f12, loopF (tTupG 2 (tConsG (tName 9) (tConsG (tName 10) tNilG))) lp__law_part_below_4 (l.map lotD) ⟨[v0, v1, some (.val (frac t)), some (.own ps), v4, x5, v6, e7, some (.val (frac z)), e9, e10, e11, e12], st⟩ = .ok .next ⟨[v0, v1, some (.val (frac t)), some (.own ps), v4, x5, v6, f7, some (.val (frac (z + sgn n t l))), f9, f10, f11, f12], st⟩ ∧ Fr (D ^ n) ((c + l.length) * 32768 ^ n) (z + sgn n t l)
  | [], z, c, e7, e9, e10, e11, e12, _, hz, _ => by
    have e0 : z + sgn n t [] = z := Rat.add_zero z
    exact ⟨e7, e9, e10, e11, e12, by rw [e0]; rfl, by rw [e0]; exact hz⟩
  | p :: l, z, c, e7, e9, e10, e11, e12, hc, hz, hp => by
    have hsz := sizeLine_big
    have h2 : 2 ≤ sizeLine := by omega
    have hc' : c + (l.length + 1) ≤ 64 := hc
    obtain ⟨p1, p2⟩ := hp p (List.mem_cons_self ..)
    have tf := term_fr hn ht p1 p2
    have left := (ht.sub p1).mono (C := 32768) (by omega)
    have e1 := s__law_less (fr_ht24 h0 hD ht (by omega)) (fr_ht24 h0 hD p1 (by omega)) (by omega) (st := st)
    have hz' : Fr (D ^ n) ((c + 1) * 32768 ^ n) (z + term n t p) := by
      have := hz.add tf
      rw [show c * 32768 ^ n + 32768 ^ n = (c + 1) * 32768 ^ n by rw [Nat.add_mul, Nat.one_mul]] at this
      exact this
    have ph := powht h0 hD (Nat.le_refl 32768) hn left
    have e3' := s__law_plus (sum_ht h0 hD hn (by omega) hz) (ht_mul (ht_int1 p2) ph) (by omega) (st := st)
    have sf := sign_frac (q := (t - p.1) ^ n) p2
    have c1 : PyData.tuple [.int 1, .int 1] = frac 1 := rfl
    have step : ∃ f7 f11 f12, (tTupG 2 (tConsG (tName 9) (tConsG (tName 10) tNilG)) (lotD p) >>= fun _ => lp__law_part_below_4) ⟨[v0, v1, some (.val (frac t)), some (.own ps), v4, x5, v6, e7, some (.val (frac z)), e9, e10, e11, e12], st⟩ = .ok .next ⟨[v0, v1, some (.val (frac t)), some (.own ps), v4, x5, v6, f7, some (.val (frac (z + term n t p))), some (.val (frac p.1)), some (.val (.int p.2)), f11, f12], st⟩ := by
      by_cases hpos : 0 < t - p.1
      · have hn' : 0 < (t - p.1).num := by rw [num_gt]; exact hpos
        have sz1 := mulD_sz (i := p.2) (j := ((t - p.1) ^ n).num) (sz_of (L := 2) (by rcases p2 with e | e <;> rw [e] <;> decide) (by decide)) (ph.szn)
        obtain ⟨f7, pl⟩ := law_pow_loop (n := n) (v0 := v0) (v1 := v1) (v2 := some (.val (frac t))) (v3 := some (.own ps)) (v4 := v4) (v5 := x5) (v6 := v6) (v8 := some (.val (frac z))) (v9 := some (.val (frac p.1))) (v10 := some (.val (.int p.2))) (st := st) h0 hD (Nat.le_refl 32768) left n 0 0 e7 (by omega)
        rw [Rat.pow_zero, Nat.zero_add] at pl
        have hr := range_row (n := n) (by omega)
        refine ⟨f7, some (.val (frac (t - p.1))), some (.val (frac ((t - p.1) ^ n))), ?_⟩
        unfold term
        rw [if_pos hpos]
        generalize (t - p.1) ^ n = PW at sz1 pl sf e3' ⊢
        simp [lotD, lp__law_part_below_4, e1, hn', hpos, hl, hr, h2, c1]
        rw [pl]
        simp [sz1, h2, sf, e3']
      · have hn' : ¬ 0 < (t - p.1).num := by rw [num_gt]; exact hpos
        refine ⟨e7, some (.val (frac (t - p.1))), some (.val (frac 1)), ?_⟩
        unfold term
        rw [if_neg hpos]
        simp [lotD, lp__law_part_below_4, e1, hn', hpos, Rat.add_zero, h2, c1]
    obtain ⟨f7, f11, f12, step⟩ := step
    obtain ⟨g7, g9, g10, g11, g12, q1, q2⟩ := law_sgn_loop (v0 := v0) (v1 := v1) (v4 := v4) (v6 := v6) (x5 := x5) h0 hD hn hl ht l (z + term n t p) (c + 1) f7 (some (.val (frac p.1))) (some (.val (.int p.2))) f11 f12 (by omega) hz' fun x hx => hp x (List.mem_cons_of_mem _ hx)
    have es : z + term n t p + sgn n t l = z + sgn n t (p :: l) := by
      have : sgn n t (p :: l) = term n t p + sgn n t l := rfl
      rw [this]; grind
    rw [es] at q1 q2
    refine ⟨g7, g9, g10, g11, g12, ?_, ?_⟩
    · rw [List.map_cons, loopF_step step, q1]
    · have : c + 1 + l.length = c + (l.length + 1) := by omega
      rw [this] at q2
      exact q2
theorem s__law_part_below {D : Nat} {ws : List Rat} {t : Rat} (r : Rw6 D ws) (nz : ∀ w ∈ ws, w ≠ 0) (ht : Fr D 8192 t) {st : Store} : m__law_part_below [.val (.tuple (ws.map frac)), .val (frac t)] st = .ok (.val (frac (pb ws t))) st := by
  have hsz := sizeLine_big
  have h1 : 1 ≤ sizeLine := by omega
  have h2 : 2 ≤ sizeLine := by omega
  have hn := r.len
  obtain ⟨f4, q1⟩ := law_parts_loop (v0 := some (.val (.tuple (ws.map frac)))) (v1 := some (.val (frac t))) (x5 := none) (x6 := none) (x7 := none) (x8 := none) (x9 := none) (x10 := none) (x11 := none) (x12 := none) (st := st) r.pos r.hi ws [] t 8192 none (by simpa using hn) (by omega) ht r.each
  have hr := (rest_fr ht r.each).mono (C := 16384) (by omega)
  have ra := r.abs
  have la : (ws.map absR).length = ws.length := List.length_map ..
  obtain ⟨f7, q2, q3, q4⟩ := law_lots_loop (v0 := some (.val (.tuple (ws.map frac)))) (v1 := some (.val (frac t))) (v2 := some (.val (frac (restF t ws)))) (x4 := f4) (x8 := none) (x11 := none) (x12 := none) (st := st) r.pos r.hi (ws.map absR) [] [(0, 1)] 0 1 none rfl (by omega) (lots0 D) ra.each (by rw [Nat.pow_zero, Nat.pow_zero]; exact Fr.one (Nat.le_refl _))
  have eo := ordF_eq (ws.map absR) 0
  have e0 : factR 0 = 1 := rfl
  rw [e0, Rat.one_mul, Nat.zero_add, Nat.zero_add] at eo
  rw [Nat.zero_add, Rat.one_mul, eo, la] at q2
  rw [Nat.zero_add] at q3
  rw [Nat.zero_add, Nat.zero_add, Rat.one_mul, eo] at q4
  have hll := q3.len
  have p64 := pow64 (k := (ws.map absR).length) (by omega)
  obtain ⟨g7, g9, g10, g11, g12, q5, q6⟩ := law_sgn_loop (n := ws.length) (ps := (ws.map absR).map frac) (v0 := some (.val (.tuple (ws.map frac)))) (v1 := some (.val (frac t))) (v4 := f4) (v6 := some (.val (frac (factR ws.length * prodR (ws.map absR))))) (x5 := some (.val (.list ((lotsF [(0, 1)] (ws.map absR)).map lotD)))) (st := st) r.pos r.hi hn (by simp) hr (lotsF [(0, 1)] (ws.map absR)) 0 0 f7 none none none none (by omega) Fr.zero fun p hp => by
    obtain ⟨a, b⟩ := q3.each p hp
    exact ⟨a.mono (by omega), b⟩
  rw [Rat.zero_add] at q5
  rw [Rat.zero_add, Nat.zero_add] at q6
  have g5 := s__law_over (sum_ht r.pos r.hi hn (by omega) q6) (ord_ht r.pos r.hi (by omega) q4) (den_pos nz) (by omega) (st := st)
  have e := SC.lots_part (ws.map absR) (restF t ws)
  rw [la] at e g5
  rw [e] at g5
  rw [List.nil_append, List.map_nil] at q1
  rw [List.nil_append] at q2
  have hrg := range_row (n := ws.length) (by omega)
  have c1 : PyData.tuple [.int 1, .int 1] = frac 1 := rfl
  have c0 : PyData.tuple [.int 0, .int 1] = frac 0 := rfl
  have ll : [PyData.tuple [frac 0, .int 1]] = [(0, 1)].map lotD := rfl
  have lp : ((ws.map absR).map frac).length = ws.length := by simp
  unfold pb
  generalize sgn ws.length (restF t ws) (lotsF [(0, 1)] (ws.map absR)) = SS at *
  generalize factR ws.length * prodR (ws.map absR) = OO at *
  generalize (lotsF [(0, 1)] (ws.map absR)).map lotD = LL at *
  generalize (ws.map absR).map frac = PP at *
  simp only [Int.natCast_zero] at q2
  simp [m__law_part_below, b__law_part_below, fnOf_app]
  rw [q1]
  simp [h1, h2, c1, c0, lp, hrg]
  simp only [ll]
  rw [q2]
  simp [h2, c0]
  rw [q5]
  simp [g5]
end EV0
/-! Q, part 5: clipping by the law. -/
namespace EV0
open PySem PySem.Spec PyProof.Rows L2 Z
open SC (Pt2 at2 ev cr2 opp lawStep lawRaw proStep proRaw once turn fanF fan turnAt turning sq4)
def pt2D (p : Pt2) : PyData := .tuple [frac p.1, frac p.2]
structure HtP (h : Nat) (p : Pt2) : Prop where
  x : Ht h p.1
  y : Ht h p.2
theorem HtP.mono {h k : Nat} {p : Pt2} (a : HtP h p) (l : h ≤ k) : HtP k p := ⟨a.x.mono l, a.y.mono l⟩
@[simp] theorem pt2_0 {p : Pt2} : ixD (pt2D p) (.int 0) = some (.val (frac p.1)) := ixD_0
@[simp] theorem pt2_1 {p : Pt2} : ixD (pt2D p) (.int 1) = some (.val (frac p.2)) := ixD_1
@[simp] theorem shaped_pt2 {p : Pt2} : okD (pt2D p) = true := by simp [pt2D, frac, okD, SeqAt.shaped, PyData.canLay0, PyData.canLayAll0, PyData.depth, PyData.depthAll, PyData.hasDict, PyData.hasDictAll]
@[simp] theorem eqv_pt2 {p q : Pt2} : PyData.eqv (pt2D p) (pt2D q) = decide (p = q) := by
  have h : PyData.eqv (pt2D p) (pt2D q) = (PyData.eqv (frac p.1) (frac q.1) && (PyData.eqv (frac p.2) (frac q.2) && true)) := by
    unfold pt2D
    simp only [PyData.eqv, PyData.eqvAll]
  rw [h, eqv_frac, eqv_frac, Bool.and_true]
  obtain ⟨a, b⟩ := p
  obtain ⟨c, d⟩ := q
  simp only [Prod.mk.injEq]
  by_cases h1 : a = c <;> by_cases h2 : b = d <;> simp [h1, h2]
theorem nice_pt2 {n : Nat} {p : Pt2} : Nice (n + 3) (pt2D p) := ⟨by show 2 ≤ 1000; decide, fun d hd => by
  have : d = frac p.1 ∨ d = frac p.2 := by simpa [pt2D] using hd
  rcases this with rfl | rfl <;> exact nice_frac⟩
theorem nice_pts {L : List Pt2} (h : L.length ≤ 1000) : Nice 4 (.list (L.map pt2D)) := ⟨by simpa using h, fun d hd => by
  obtain ⟨q, _, rfl⟩ := List.mem_map.mp hd
  exact nice_pt2⟩
theorem nin_pts {x : Pt2} {L : List Pt2} (h : L.length ≤ 1000) : ninD (pt2D x) (.list (L.map pt2D)) = some (!decide (x ∈ L)) := by
  have s1 := nice_shaped (by decide) (nice_pts h)
  have s2 : okD (pt2D x) = true := shaped_pt2
  have e : ((L.map pt2D).any fun z => PyData.eqv z (pt2D x)) = decide (x ∈ L) := by
    rw [List.any_map]
    have f : (fun z => PyData.eqv z (pt2D x)) ∘ pt2D = fun p => decide (p = x) := by
      funext p
      exact eqv_pt2
    rw [f]
    apply Bool.eq_iff_iff.mpr
    simp
  unfold ninD inD
  simp only [s1, s2, Bool.and_self, if_true, e]
  rfl
theorem at2_get {pts : List Pt2} {k : Nat} (h : k < pts.length) : pts[k]? = some (at2 pts k) := by
  unfold at2
  rw [List.getElem?_eq_getElem h, List.getD_eq_getElem?_getD, List.getElem?_eq_getElem h]
  rfl
theorem ix_pts {α : Type} (f : α → PyData) {xs : List α} {x : α} {k : Nat} (h : xs[k]? = some x) : ixD (.list (xs.map f)) (.int (k : Int)) = some (.val (f x)) := ixl_map f h
/-- the one ahead, round about -/
def prevI (n k : Nat) : Nat := if k = 0 then n - 1 else k - 1
theorem ix_prev {α : Type} (f : α → PyData) {xs : List α} {x : α} {k : Nat} (hk : k < xs.length) (h : xs[prevI xs.length k]? = some x) : ixD (.list (xs.map f)) (.int ((k : Int) - 1)) = some (.val (f x)) := by
  unfold prevI at h
  by_cases h0 : k = 0
  · subst h0
    rw [if_pos rfl] at h
    have hm : (xs.map f)[xs.length - 1]? = some (f x) := by rw [List.getElem?_map, h]; rfl
    refine ixD_list ?_
    show atI (xs.map f) (-1) = _
    have hl : (xs.map f).length = xs.length := List.length_map ..
    have ix : ixN (xs.map f).length (-1) = some (xs.length - 1) := by
      unfold ixN
      rw [if_neg (by omega), if_pos (by omega)]
      congr 1
      omega
    unfold atI
    rw [ix]
    exact hm
  · rw [if_neg h0] at h
    have := ixl_map f h
    rw [show (((k - 1 : Nat)) : Int) = (k : Int) - 1 by omega] at this
    exact this
/-! ### one step of the clip -/
theorem law_opp {x y : Rat} : (sgR x * sgR y < 0) = (opp x y = true) := by
  unfold sgR opp
  rcases (show x < 0 ∨ x = 0 ∨ 0 < x by grind) with h | h | h <;> rcases (show y < 0 ∨ y = 0 ∨ 0 < y by grind) with g | g | g
  all_goals
    first
      | (have h2 : ¬ 0 < x := by grind) | (have h2 : ¬ x < 0 := by grind)
    first
      | (have g2 : ¬ 0 < y := by grind) | (have g2 : ¬ y < 0 := by grind)
    have h3 : ¬ 0 < (0 : Rat) := by decide
    have h4 : ¬ (0 : Rat) < 0 := by decide
    simp [h, g, h2, g2]
theorem sgR_small (x : Rat) : Sz (sgR x) := sz_of (L := 2) (by unfold sgR; split <;> (try split) <;> decide) (by decide)
def oht (h0 h : Nat) : Nat := 3 * h0 + 2 * h + 2
theorem ev_ht {h0 h : Nat} {a b c : Rat} {p : Pt2} (ha : Ht h0 a) (hb : Ht h0 b) (hc : Ht h0 c) (hp : HtP h p) : Ht (oht h0 h) (ev a b c p) := by
  unfold ev oht
  exact (ht_sub (ht_add (ht_mul ha hp.x) (ht_mul hb hp.y)) hc).mono (by omega)
theorem cr_ht {o h : Nat} {A H : Pt2} {x y : Rat} (hA : HtP h A) (hH : HtP h H) (hx : Ht o x) (hy : Ht o y) (nz : x - y ≠ 0) : HtP (3 * o + 3 * h + 3) (cr2 A H x y) := by
  have hd := ht_div hx (ht_sub hx hy) nz
  exact ⟨(ht_add hA.x (ht_mul hd (ht_sub hH.x hA.x))).mono (by omega), (ht_add hA.y (ht_mul hd (ht_sub hH.y hA.y))).mono (by omega)⟩
theorem opp_ne {x y : Rat} (h : opp x y = true) : y - x ≠ 0 ∧ x - y ≠ 0 := by
  unfold opp at h
  simp only [Bool.or_eq_true, Bool.and_eq_true, decide_eq_true_eq] at h
  rcases h with ⟨h1, h2⟩ | ⟨h1, h2⟩ <;> exact ⟨by grind, by grind⟩
theorem range2 : rangeW [.val (.int 2)] = some [.int 0, .int 1] := rfl
/-- the points, their offs, the law's turn k -/
theorem law_step {h0 h : Nat} {a b c : Rat} {pts fresh : List Pt2} {k : Nat} {v0 e8 e9 e10 : Option W} {st : Store} (ha : Ht h0 a) (hb : Ht h0 b) (hc : Ht h0 c) (hp : ∀ p ∈ pts, HtP h p) (hk : k < pts.length) (hl : pts.length ≤ 500) (hf : fresh.length ≤ 1000) (hh : 3 * oht h0 h + 3 * h ≤ 6000) :
    ∃ f8 f9 f10, lp__law_clipped_1 ⟨[v0, some (.val (.list (pts.map pt2D))), some (.val (frac a)), some (.val (frac b)), some (.val (frac c)), some (.own (pts.map fun p => frac (ev a b c p))), some (.own (fresh.map pt2D)), some (.val (.int (k : Int))), e8, e9, e10, none, none], st⟩ = .ok .next ⟨[v0, some (.val (.list (pts.map pt2D))), some (.val (frac a)), some (.val (frac b)), some (.val (frac c)), some (.own (pts.map fun p => frac (ev a b c p))), some (.own ((fresh ++ lawStep a b c pts k).map pt2D)), some (.val (.int (k : Int))), f8, f9, f10, none, none], st⟩ := by
  have hsz := sizeLine_big
  have h2 : 2 ≤ sizeLine := by omega
  have hj : prevI pts.length k < pts.length := by unfold prevI; split <;> omega
  have gH := at2_get hk
  have gA := at2_get hj
  have i1 := ix_pts pt2D gH
  have i2 := ix_prev pt2D hk gA
  have i3 := ix_pts (fun p => frac (ev a b c p)) gH
  have i4 := ix_prev (fun p => frac (ev a b c p)) hk gA
  have pH := hp _ (List.mem_of_getElem? gH)
  have pA := hp _ (List.mem_of_getElem? gA)
  have hst : lawStep a b c pts k = (if opp (ev a b c (at2 pts k)) (ev a b c (at2 pts (prevI pts.length k))) = true then [cr2 (at2 pts (prevI pts.length k)) (at2 pts k) (ev a b c (at2 pts (prevI pts.length k))) (ev a b c (at2 pts k))] else []) ++ (if ev a b c (at2 pts k) ≤ 0 then [at2 pts k] else []) := rfl
  rw [hst]
  have oH := ev_ht ha hb hc pH
  have oA := ev_ht ha hb hc pA
  generalize hoH : ev a b c (at2 pts k) = x at *
  generalize hoA : ev a b c (at2 pts (prevI pts.length k)) = y at *
  generalize at2 pts k = H at *
  generalize at2 pts (prevI pts.length k) = A at *
  have s1 := s__law_sign (q := x) (st := st)
  have s2 := s__law_sign (q := y) (st := st)
  have mz := mulD_sz (sgR_small x) (sgR_small y)
  have lo := @law_opp x y
  have le0 : (x.num ≤ 0) = (x ≤ 0) := by
    have := @num_gt x
    exact propext ⟨fun z => by
      have : ¬ 0 < x.num := by omega
      rw [num_gt] at this; grind, fun z => by
      have : ¬ 0 < x := by grind
      rw [← num_gt] at this; omega⟩
  have fl : (fresh.map pt2D).length + 1 < sizeLine := by simp; omega
  have fl0 : (fresh.map pt2D).length < sizeLine := by omega
  generalize pts.map pt2D = PP at *
  generalize (pts.map fun p => frac (ev a b c p)) = OO at *
  by_cases hopp : opp x y = true
  · obtain ⟨nz1, nz2⟩ := opp_ne hopp
    have g1 := s__law_less oA oH (by omega) (st := st)
    have g2 := s__law_over oA (ht_sub oA oH) nz1 (by omega) (st := st)
    have hd := ht_div oA (ht_sub oA oH) nz1
    have g3 := s__law_less pH.x pA.x (by omega) (st := st)
    have g4 := s__law_times hd (ht_sub pH.x pA.x) (by omega) (st := st)
    have g5 := s__law_plus pA.x (ht_mul hd (ht_sub pH.x pA.x)) (by omega) (st := st)
    have g6 := s__law_less pH.y pA.y (by omega) (st := st)
    have g7 := s__law_times hd (ht_sub pH.y pA.y) (by omega) (st := st)
    have g8 := s__law_plus pA.y (ht_mul hd (ht_sub pH.y pA.y)) (by omega) (st := st)
    let s : S := ⟨[v0, some (.val (.list PP)), some (.val (frac a)), some (.val (frac b)), some (.val (frac c)), some (.own OO), some (.own (fresh.map pt2D)), some (.val (.int (k : Int))), some (.val (pt2D H)), some (.val (pt2D A)), some (.val (frac (y / (y - x)))), none, none], st⟩
    have hcl : compLoop [12] (tName 12) cTrue el__law_clipped_2 [.int 0, .int 1] [] s = .ok [frac (cr2 A H y x).1, frac (cr2 A H y x).2] s := by
      rw [compLoop_step (y := frac (cr2 A H y x).1) (s' := s) (by simp [el__law_clipped_2, s, g3, g4, g5, cr2]) (by simp; omega), compLoop_step (y := frac (cr2 A H y x).2) (s' := s) (by simp [el__law_clipped_2, s, g6, g7, g8, cr2]) (by simp; omega), compLoop_nil]
      rfl
    simp only [s] at hcl
    have cp : PyData.tuple [frac (cr2 A H y x).1, frac (cr2 A H y x).2] = pt2D (cr2 A H y x) := rfl
    have lo' : sgR x * sgR y < 0 := by rw [lo]; exact hopp
    refine ⟨some (.val (pt2D H)), some (.val (pt2D A)), some (.val (frac (y / (y - x)))), ?_⟩
    rw [if_pos hopp]
    by_cases hle : x ≤ 0
    · rw [if_pos hle]
      have e : (fresh ++ ([cr2 A H y x] ++ [H])).map pt2D = fresh.map pt2D ++ [pt2D (cr2 A H y x)] ++ [pt2D H] := by simp
      rw [e]
      generalize fresh.map pt2D = FF at *
      simp [lp__law_clipped_1, i1, i2, i3, i4, s1, s2, mz, lo', g1, g2, range2]
      rw [hcl]
      simp [cp, fl0, le0, hle, i3, fl]
    · rw [if_neg hle]
      have e : (fresh ++ ([cr2 A H y x] ++ [])).map pt2D = fresh.map pt2D ++ [pt2D (cr2 A H y x)] := by simp
      rw [e]
      generalize fresh.map pt2D = FF at *
      simp [lp__law_clipped_1, i1, i2, i3, i4, s1, s2, mz, lo', g1, g2, range2]
      rw [hcl]
      simp [cp, fl0, le0, hle, i3, fl]
  · have lo' : ¬ sgR x * sgR y < 0 := by rw [lo]; exact hopp
    refine ⟨some (.val (pt2D H)), some (.val (pt2D A)), e10, ?_⟩
    rw [if_neg hopp]
    by_cases hle : x ≤ 0
    · rw [if_pos hle]
      have e : (fresh ++ ([] ++ [H])).map pt2D = fresh.map pt2D ++ [pt2D H] := by simp
      rw [e]
      generalize fresh.map pt2D = FF at *
      simp [lp__law_clipped_1, i1, i2, i3, i4, s1, s2, mz, lo', le0, hle, fl0]
    · rw [if_neg hle]
      have e : (fresh ++ ([] ++ [])).map pt2D = fresh.map pt2D := by simp
      rw [e]
      generalize fresh.map pt2D = FF at *
      simp [lp__law_clipped_1, i1, i2, i3, i4, s1, s2, mz, lo', le0, hle]
theorem law_turns {h0 h : Nat} {a b c : Rat} {pts : List Pt2} {v0 : Option W} {st : Store} (ha : Ht h0 a) (hb : Ht h0 b) (hc : Ht h0 c) (hp : ∀ p ∈ pts, HtP h p) (hl : pts.length ≤ 500) (hh : 3 * oht h0 h + 3 * h ≤ 6000) : ∀ (m k : Nat) (fresh : List Pt2) (e7 e8 e9 e10 : Option W), k + m = pts.length → fresh.length ≤ 2 * k →
    ∃ f7 f8 f9 f10, loopF (tName 7) lp__law_clipped_1 (rangeD (k : Nat) m) ⟨[v0, some (.val (.list (pts.map pt2D))), some (.val (frac a)), some (.val (frac b)), some (.val (frac c)), some (.own (pts.map fun p => frac (ev a b c p))), some (.own (fresh.map pt2D)), e7, e8, e9, e10, none, none], st⟩ = .ok .next ⟨[v0, some (.val (.list (pts.map pt2D))), some (.val (frac a)), some (.val (frac b)), some (.val (frac c)), some (.own (pts.map fun p => frac (ev a b c p))), some (.own ((fresh ++ (List.range' k m).flatMap (lawStep a b c pts)).map pt2D)), f7, f8, f9, f10, none, none], st⟩ ∧ (notOwn (some e7) = true → notOwn (some f7) = true)
  | 0, k, fresh, e7, e8, e9, e10, _, _ => ⟨e7, e8, e9, e10, by rw [rangeD_zero, loopF_nil]; simp, id⟩
  | m + 1, k, fresh, e7, e8, e9, e10, hk, hf => by
    obtain ⟨f8, f9, f10, q⟩ := law_step (k := k) (fresh := fresh) (v0 := v0) (e8 := e8) (e9 := e9) (e10 := e10) (st := st) ha hb hc hp (by omega) hl (by omega) hh
    have step : (tName 7 (.int (k : Int)) >>= fun _ => lp__law_clipped_1) ⟨[v0, some (.val (.list (pts.map pt2D))), some (.val (frac a)), some (.val (frac b)), some (.val (frac c)), some (.own (pts.map fun p => frac (ev a b c p))), some (.own (fresh.map pt2D)), e7, e8, e9, e10, none, none], st⟩ = .ok .next ⟨[v0, some (.val (.list (pts.map pt2D))), some (.val (frac a)), some (.val (frac b)), some (.val (frac c)), some (.own (pts.map fun p => frac (ev a b c p))), some (.own ((fresh ++ lawStep a b c pts k).map pt2D)), some (.val (.int (k : Int))), f8, f9, f10, none, none], st⟩ := by
      rw [← q]
      simp
    have two : (lawStep a b c pts k).length ≤ 2 := by
      unfold lawStep
      simp only [List.length_append]
      have h1 : ∀ (P : Prop) [Decidable P] (x : Pt2), (if P then [x] else []).length ≤ 1 := fun P _ x => by split <;> simp
      have := h1 (opp (ev a b c (at2 pts k)) (ev a b c (at2 pts (if k = 0 then pts.length - 1 else k - 1))) = true) (cr2 (at2 pts (if k = 0 then pts.length - 1 else k - 1)) (at2 pts k) (ev a b c (at2 pts (if k = 0 then pts.length - 1 else k - 1))) (ev a b c (at2 pts k)))
      have := h1 (ev a b c (at2 pts k) ≤ 0) (at2 pts k)
      omega
    obtain ⟨g7, g8, g9, g10, ih, no⟩ := law_turns (v0 := v0) (st := st) ha hb hc hp hl hh m (k + 1) (fresh ++ lawStep a b c pts k) (some (.val (.int (k : Int)))) f8 f9 f10 (by omega) (by rw [List.length_append]; omega)
    refine ⟨g7, g8, g9, g10, ?_, fun _ => no rfl⟩
    have e1 : ((k + 1 : Nat) : Int) = (k : Int) + 1 := by omega
    rw [e1] at ih
    rw [rangeD_succ, loopF_step step, ih]
    have e2 : fresh ++ lawStep a b c pts k ++ (List.range' (k + 1) m).flatMap (lawStep a b c pts) = fresh ++ (List.range' k (m + 1)).flatMap (lawStep a b c pts) := by
      rw [List.range'_succ, List.flatMap_cons, List.append_assoc]
    rw [e2]
theorem once_idx : ∀ (l pre : List Pt2), ((idx pre.length l).filter fun q => decide (q.2 ∉ (pre ++ l).take q.1)).map (·.2) = once pre l
  | [], pre => rfl
  | x :: l, pre => by
    have ih := once_idx l (pre ++ [x])
    have e1 : pre ++ [x] ++ l = pre ++ x :: l := by simp
    have e2 : (pre ++ [x]).length = pre.length + 1 := by simp
    rw [e1, e2] at ih
    have e3 : (pre ++ x :: l).take pre.length = pre := by simp
    show (((pre.length, x) :: idx (pre.length + 1) l).filter _).map _ = _
    rw [List.filter_cons]
    have e4 : decide ((pre.length, x).2 ∉ (pre ++ x :: l).take (pre.length, x).1) = decide (x ∉ pre) := by
      show decide (x ∉ (pre ++ x :: l).take pre.length) = _
      rw [e3]
    rw [e4]
    unfold once
    by_cases hx : x ∈ pre
    · simp only [hx, not_true, decide_false, if_true, Bool.false_eq_true, if_false, List.nil_append]
      exact ih
    · simp only [hx, not_false_eq_true, decide_true, if_true, if_false, List.map_cons, List.cons_append, List.nil_append]
      rw [ih]
theorem flat_len {α β : Type} {f : α → List β} {c : Nat} : ∀ (l : List α), (∀ x ∈ l, (f x).length ≤ c) → (l.flatMap f).length ≤ c * l.length
  | [], _ => by simp
  | x :: l, h => by
    have h1 := h x (List.mem_cons_self ..)
    have h2 := flat_len l fun y hy => h y (List.mem_cons_of_mem _ hy)
    rw [List.flatMap_cons, List.length_append, List.length_cons, Nat.mul_add]
    omega
theorem lawRaw_len (a b c : Rat) (pts : List Pt2) : (lawRaw a b c pts).length ≤ 2 * pts.length := by
  have := flat_len (f := lawStep a b c pts) (c := 2) (List.range pts.length) fun k _ => by
    unfold lawStep
    simp only [List.length_append]
    have h1 : ∀ (P : Prop) [Decidable P] (x : Pt2), (if P then [x] else []).length ≤ 1 := fun P _ x => by split <;> simp
    have := h1 (opp (ev a b c (at2 pts k)) (ev a b c (at2 pts (if k = 0 then pts.length - 1 else k - 1))) = true) (cr2 (at2 pts (if k = 0 then pts.length - 1 else k - 1)) (at2 pts k) (ev a b c (at2 pts (if k = 0 then pts.length - 1 else k - 1))) (ev a b c (at2 pts k)))
    have := h1 (ev a b c (at2 pts k) ≤ 0) (at2 pts k)
    omega
  rw [List.length_range] at this
  exact this
/-- one condition -/
theorem law_row {h0 h : Nat} {a b c : Rat} {pts : List Pt2} {w1 : W} {v0 e2 e3 e4 e5 e6 e7 e8 e9 e10 : Option W} {st : Store} (hw1 : w1 = .own (pts.map pt2D) ∨ w1 = .val (.list (pts.map pt2D))) (ha : Ht h0 a) (hb : Ht h0 b) (hc : Ht h0 c) (hp : ∀ p ∈ pts, HtP h p) (hl : pts.length ≤ 500) (hh : 3 * oht h0 h + 3 * h ≤ 6000) (n7 : notOwn (some e7) = true) :
    ∃ f2 f3 f4 f5 f6 f7 f8 f9 f10, (tTupG 3 (tConsG (tName 2) (tConsG (tName 3) (tConsG (tName 4) tNilG))) (.tuple [frac a, frac b, frac c]) >>= fun _ => lp__law_clipped_2) ⟨[v0, some w1, e2, e3, e4, e5, e6, e7, e8, e9, e10, none, none], st⟩ = .ok .next ⟨[v0, some (.own ((once [] (lawRaw a b c pts)).map pt2D)), f2, f3, f4, f5, f6, f7, f8, f9, f10, none, none], st⟩ ∧ notOwn (some f7) = true := by
  have hsz := sizeLine_big
  have h0s : 0 ≤ sizeLine := by omega
  have hoff : compLoop [11] (tName 11) cTrue el__law_clipped_1 (pts.map pt2D) [] ⟨[v0, some (.val (.list (pts.map pt2D))), some (.val (frac a)), some (.val (frac b)), some (.val (frac c)), e5, e6, e7, e8, e9, e10, none, none], st⟩ = .ok ([] ++ pts.map fun p => frac (ev a b c p)) ⟨[v0, some (.val (.list (pts.map pt2D))), some (.val (frac a)), some (.val (frac b)), some (.val (frac c)), e5, e6, e7, e8, e9, e10, none, none], st⟩ := by
    refine compLoop_via _ _ _ _ (by simp; omega) fun p hpm => ?_
    have pp := hp p hpm
    unfold oht at hh
    have g1 := s__law_times ha pp.x (by omega) (st := st)
    have g2 := s__law_times hb pp.y (by omega) (st := st)
    have g3 := s__law_plus (ht_mul ha pp.x) (ht_mul hb pp.y) (by omega) (st := st)
    have g4 := s__law_less (ht_add (ht_mul ha pp.x) (ht_mul hb pp.y)) hc (by omega) (st := st)
    simp [el__law_clipped_1, g1, g2, g3, g4, ev]
  obtain ⟨f7, f8, f9, f10, lq, no⟩ := law_turns (v0 := v0) (st := st) ha hb hc hp hl hh pts.length 0 [] e7 e8 e9 e10 (by omega) (by simp)
  have er : [] ++ (List.range' 0 pts.length).flatMap (lawStep a b c pts) = lawRaw a b c pts := by
    rw [List.nil_append, ← List.range_eq_range']
    rfl
  rw [er] at lq
  have rl := lawRaw_len a b c pts
  generalize hR : lawRaw a b c pts = R at *
  have hon : compLoop [7] (tName 7) (opCmp ninD (opLk ixD (eVar 6) (eVar 7)) (eSl (eVar 6) pNone (pSome (eVar 7)))) el__law_clipped_3 (rangeD 0 R.length) [] ⟨[v0, some (.val (.list (pts.map pt2D))), some (.val (frac a)), some (.val (frac b)), some (.val (frac c)), some (.own (pts.map fun p => frac (ev a b c p))), some (.own (R.map pt2D)), none, f8, f9, f10, none, none], st⟩ = .ok ([] ++ ((idx 0 R).filter fun q => decide (q.2 ∉ R.take q.1)).map fun q => pt2D q.2) ⟨[v0, some (.val (.list (pts.map pt2D))), some (.val (frac a)), some (.val (frac b)), some (.val (frac c)), some (.own (pts.map fun p => frac (ev a b c p))), some (.own (R.map pt2D)), none, f8, f9, f10, none, none], st⟩ := by
    have hr := range_idx R 0
    rw [show ((0 : Nat) : Int) = 0 from rfl] at hr
    rw [hr]
    refine compLoop_filter (α := Nat × Pt2) (fun q => .int (q.1 : Int)) (fun q => pt2D q.2) (fun q => decide (q.2 ∉ R.take q.1)) _ _ (by rw [idx_length]; simp; omega) fun q hq => ?_
    obtain ⟨i, h1, h2⟩ := idx_mem hq
    rw [Nat.zero_add] at h1
    subst h1
    have x6 := ix_pts pt2D h2
    have hlt : q.1 < R.length := (List.getElem?_eq_some_iff.mp h2).1
    have ct : cutL (R.map pt2D) none (some (q.1 : Int)) = (R.take q.1).map pt2D := by
      rw [cut_to _ (by simp; omega), List.map_take]
    have nn := nin_pts (x := q.2) (L := R.take q.1) (by rw [List.length_take]; omega)
    have nb : (!decide (q.2 ∈ R.take q.1)) = decide (q.2 ∉ R.take q.1) := by simp
    rw [nb] at nn
    refine ⟨⟨[v0, some (.val (.list (pts.map pt2D))), some (.val (frac a)), some (.val (frac b)), some (.val (frac c)), some (.own (pts.map fun p => frac (ev a b c p))), some (.own (R.map pt2D)), some (.val (.int (q.1 : Int))), f8, f9, f10, none, none], st⟩, ⟨[v0, some (.val (.list (pts.map pt2D))), some (.val (frac a)), some (.val (frac b)), some (.val (frac c)), some (.own (pts.map fun p => frac (ev a b c p))), some (.own (R.map pt2D)), some (.val (.int (q.1 : Int))), f8, f9, f10, none, none], st⟩, by simp, ?_, by simp, fun _ => ?_⟩
    · generalize R.map pt2D = RR at *
      generalize (R.take q.1).map pt2D = TT at *
      generalize pts.map pt2D = PP at *
      generalize (pts.map fun p => frac (ev a b c p)) = OO at *
      generalize decide (q.2 ∉ R.take q.1) = bb at *
      simp [x6, ct, nn]
    · generalize R.map pt2D = RR at *
      generalize pts.map pt2D = PP at *
      generalize (pts.map fun p => frac (ev a b c p)) = OO at *
      simp [el__law_clipped_3, x6]
  have eo := once_idx R []
  rw [List.nil_append, List.length_nil] at eo
  have em : (((idx 0 R).filter fun q => decide (q.2 ∉ R.take q.1)).map fun q => pt2D q.2) = (once [] R).map pt2D := by
    rw [← eo, List.map_map]
    rfl
  rw [em, List.nil_append] at hon
  rw [List.nil_append] at hoff
  have hr1 := range_row (n := pts.length) (by omega)
  have hr2 := range_row (n := R.length) (by omega)
  have l1 : (pts.map pt2D).length = pts.length := List.length_map ..
  have l2 : (R.map pt2D).length = R.length := List.length_map ..
  rw [← l1] at hr1
  rw [← l2] at hr2
  have n7' := no n7
  simp only [Int.natCast_zero, List.map_nil] at lq
  refine ⟨some (.val (frac a)), some (.val (frac b)), some (.val (frac c)), some (.own (pts.map fun p => frac (ev a b c p))), some (.own (R.map pt2D)), f7, f8, f9, f10, ?_, n7'⟩
  rw [← l1] at lq
  rw [← l2] at hon
  generalize (once [] R).map pt2D = UU at *
  generalize R.map pt2D = RR at *
  generalize (pts.map fun p => frac (ev a b c p)) = OO at *
  generalize pts.map pt2D = PP at *
  rcases hw1 with rfl | rfl
  all_goals
    simp [lp__law_clipped_2]
    rw [hoff]
    simp [hr1]
    rw [lq]
    simp [hr2, n7']
    rw [hon]
    simp
end EV0
/-! Q, part 6: one condition on the square; areas by the law. -/
namespace EV0
open PySem PySem.Spec PyProof.Rows L2 Z
open SC (Pt2 at2 ev cr2 opp lawStep lawRaw proStep proRaw once turn fanF fan turnAt turning sq4)
def sqD : PyData := .list (sq4.map pt2D)
theorem sq_ht : ∀ p ∈ sq4, HtP 1 p := fun p hp => by
  have : p = (0, 0) ∨ p = (1, 0) ∨ p = (1, 1) ∨ p = (0, 1) := by simpa [sq4] using hp
  rcases this with rfl | rfl | rfl | rfl
  · exact ⟨ht_zero, ht_zero⟩
  · exact ⟨ht_one, ht_zero⟩
  · exact ⟨ht_one, ht_one⟩
  · exact ⟨ht_zero, ht_one⟩
theorem sq_lit : [PyData.tuple [.tuple [.int 0, .int 1], .tuple [.int 0, .int 1]], .tuple [.tuple [.int 1, .int 1], .tuple [.int 0, .int 1]], .tuple [.tuple [.int 1, .int 1], .tuple [.int 1, .int 1]], .tuple [.tuple [.int 0, .int 1], .tuple [.int 1, .int 1]]] = sq4.map pt2D := rfl
theorem s__law_clipped1 {h0 : Nat} {a b c : Rat} (ha : Ht h0 a) (hb : Ht h0 b) (hc : Ht h0 c) (hh : h0 ≤ 500) {st : Store} : m__law_clipped [.val (.list [.tuple [frac a, frac b, frac c]])] st = .ok (.own ((once [] (lawRaw a b c sq4)).map pt2D)) st := by
  have hsz := sizeLine_big
  have h2 : 2 ≤ sizeLine := by omega
  have h4 : 4 ≤ sizeLine := by omega
  obtain ⟨f2, f3, f4, f5, f6, f7, f8, f9, f10, q, _⟩ := law_row (pts := sq4) (v0 := some (.val (.list [.tuple [frac a, frac b, frac c]]))) (e2 := none) (e3 := none) (e4 := none) (e5 := none) (e6 := none) (e7 := none) (e8 := none) (e9 := none) (e10 := none) (st := st) (.inl rfl) ha hb hc sq_ht (by decide) (by unfold oht; omega) rfl
  have lp := loopF_step (ds := []) q
  rw [loopF_nil] at lp
  generalize (once [] (lawRaw a b c sq4)).map pt2D = UU at *
  simp [m__law_clipped, b__law_clipped, fnOf_app, h2, h4]
  have sl := sq_lit
  generalize sq4.map pt2D = SQ at *
  rw [sl, lp]
  simp
/-! ### areas -/
theorem turn_ht {h : Nat} {A B C : Pt2} (hA : HtP h A) (hB : HtP h B) (hC : HtP h C) : Ht (8 * h + 5) (turn A B C) := by
  unfold turn
  exact (ht_sub (ht_mul (ht_sub hB.x hA.x) (ht_sub hC.y hA.y)) (ht_mul (ht_sub hC.x hA.x) (ht_sub hB.y hA.y))).mono (by omega)
theorem s__law_cross {h : Nat} {A B C : Pt2} (hA : HtP h A) (hB : HtP h B) (hC : HtP h C) (hh : h ≤ 900) {st : Store} : m__law_cross [.val (pt2D A), .val (pt2D B), .val (pt2D C)] st = .ok (.val (frac (turn A B C))) st := by
  have hsz := sizeLine_big
  have b1 := s__law_less hB.x hA.x (by omega) (st := st)
  have b2 := s__law_less hB.y hA.y (by omega) (st := st)
  have c1 := s__law_less hC.x hA.x (by omega) (st := st)
  have c2 := s__law_less hC.y hA.y (by omega) (st := st)
  have t1 := s__law_times (ht_sub hB.x hA.x) (ht_sub hC.y hA.y) (by omega) (st := st)
  have t2 := s__law_times (ht_sub hB.y hA.y) (ht_sub hC.x hA.x) (by omega) (st := st)
  have t3 := s__law_less (ht_mul (ht_sub hB.x hA.x) (ht_sub hC.y hA.y)) (ht_mul (ht_sub hB.y hA.y) (ht_sub hC.x hA.x)) (by omega) (st := st)
  have et : (B.1 - A.1) * (C.2 - A.2) - (B.2 - A.2) * (C.1 - A.1) = turn A B C := by unfold turn; grind
  rw [et] at t3
  let s : S := ⟨[some (.val (pt2D A)), some (.val (pt2D B)), some (.val (pt2D C)), none, none, none], st⟩
  have k1 : compLoop [5] (tName 5) cTrue el__law_cross_2 [.int 0, .int 1] [] s = .ok [frac (B.1 - A.1), frac (B.2 - A.2)] s := by
    rw [compLoop_step (y := frac (B.1 - A.1)) (s' := s) (by simp [el__law_cross_2, s, b1]) (by simp; omega), compLoop_step (y := frac (B.2 - A.2)) (s' := s) (by simp [el__law_cross_2, s, b2]) (by simp; omega), compLoop_nil]
    rfl
  have k2 : compLoop [5] (tName 5) cTrue el__law_cross_1 [.int 0, .int 1] [] s = .ok [frac (C.1 - A.1), frac (C.2 - A.2)] s := by
    rw [compLoop_step (y := frac (C.1 - A.1)) (s' := s) (by simp [el__law_cross_1, s, c1]) (by simp; omega), compLoop_step (y := frac (C.2 - A.2)) (s' := s) (by simp [el__law_cross_1, s, c2]) (by simp; omega), compLoop_nil]
    rfl
  simp only [s] at k1 k2
  simp [m__law_cross, b__law_cross, fnOf_app, range2]
  rw [k1]
  simp [range2]
  rw [k2]
  simp [t1, t2, t3]
/-- the parts of a fan -/
def fanL (pts : List Pt2) : List Rat := (List.range' 1 (pts.length - 2)).map fun k => turn (at2 pts 0) (at2 pts k) (at2 pts (k + 1))
theorem fanF_eq (P : Pt2) : ∀ l : List Pt2, fanF P l = tot ((List.range (l.length - 1)).map fun i => turn P (at2 l i) (at2 l (i + 1)))
  | [] => rfl
  | [Q] => rfl
  | Q :: R :: l => by
    have ih := fanF_eq P (R :: l)
    have e : (Q :: R :: l).length - 1 = (R :: l).length - 1 + 1 := by simp
    rw [e, List.range_succ_eq_map, List.map_cons, tot_cons, List.map_map]
    show turn P Q R + fanF P (R :: l) = _
    rw [ih]
    rfl
theorem fan_eqL : ∀ pts : List Pt2, fan pts = tot (fanL pts)
  | [] => rfl
  | P :: l => by
    show fanF P l = _
    rw [fanF_eq]
    unfold fanL
    have e : (P :: l).length - 2 = l.length - 1 := by simp
    have e2 : List.range' 1 (l.length - 1) = (List.range (l.length - 1)).map (1 + ·) := by
      rw [List.range_eq_range', List.map_add_range']
    rw [e, e2, List.map_map]
    congr 1
    refine List.map_congr_left fun i _ => ?_
    show turn P (at2 l i) (at2 l (i + 1)) = turn (at2 (P :: l) 0) (at2 (P :: l) (1 + i)) (at2 (P :: l) (1 + i + 1))
    rw [Nat.add_comm 1 i]
    rfl
theorem rangeD_map (lo : Nat) : ∀ m : Nat, rangeD (lo : Int) m = (List.range' lo m).map fun (k : Nat) => PyData.int (k : Int)
  | 0 => rfl
  | m + 1 => by
    rw [rangeD_succ, List.range'_succ, List.map_cons, ← rangeD_map (lo + 1) m]
    rfl
theorem fan_ht {h : Nat} {pts : List Pt2} (hp : ∀ p ∈ pts, HtP h p) : HtA (8 * h + 5) (fanL pts) := fun x hx => by
  obtain ⟨k, hk, rfl⟩ := List.mem_map.mp hx
  have hk2 := List.mem_range'_1.mp hk
  have m : ∀ i, i < pts.length → HtP h (at2 pts i) := fun i hi => hp _ (List.mem_of_getElem? (at2_get hi))
  exact turn_ht (m _ (by omega)) (m _ (by omega)) (m _ (by omega))
theorem s__law_area {h : Nat} {pts : List Pt2} (hp : ∀ p ∈ pts, HtP h p) (h3 : 2 ≤ pts.length) (hl : pts.length ≤ 1000) (hh : h ≤ 800) (hb : 1 + (8 * h + 5 + 1) * (pts.length - 2) ≤ 7000) {st : Store} : m__law_area [.val (.list (pts.map pt2D))] st = .ok (.val (frac (fan pts / 2))) st := by
  have hsz := sizeLine_big
  have h2 : 2 ≤ sizeLine := by omega
  have ll : (fanL pts).length = pts.length - 2 := by simp [fanL]
  have lb : 1 + (8 * h + 5 + 1) * (fanL pts).length ≤ 7000 := by
    rw [ll]
    exact hb
  obtain ⟨q1, q2⟩ := s__law_sum (fan_ht hp) lb (st := st)
  rw [← fan_eqL] at q1 q2
  have hh2 : Ht 2 (1 / 2 : Rat) := ⟨by decide +kernel, by decide +kernel⟩
  have q3 := s__law_times q2 hh2 (by omega) (st := st)
  have ehalf : fan pts * (1 / 2) = fan pts / 2 := by rw [Rat.div_def, Rat.div_def]; grind
  rw [ehalf] at q3
  have half : PyData.tuple [.int 1, .int 2] = frac (1 / 2 : Rat) := by
    have e1 : ((1 : Rat) / 2).num = 1 := by decide +kernel
    have e2 : ((1 : Rat) / 2).den = 2 := by decide +kernel
    unfold frac
    rw [e1, e2]
    rfl
  have gr := range_2 (i := 1) (j := pts.length - 1) (by omega) (by omega)
  have e1 : ((pts.length - 1 : Nat) : Int) = (pts.length : Int) - 1 := by omega
  have e2 : pts.length - 1 - 1 = pts.length - 2 := by omega
  rw [e1, e2, rangeD_map] at gr
  have m : ∀ i, i < pts.length → HtP h (at2 pts i) := fun i hi => hp _ (List.mem_of_getElem? (at2_get hi))
  have hc : compLoop [2] (tName 2) cTrue el__law_area_1 ((List.range' 1 (pts.length - 2)).map fun (k : Nat) => PyData.int (k : Int)) [] ⟨[some (.val (.list (pts.map pt2D))), none, none], st⟩ = .ok ([] ++ (List.range' 1 (pts.length - 2)).map fun k => frac (turn (at2 pts 0) (at2 pts k) (at2 pts (k + 1)))) ⟨[some (.val (.list (pts.map pt2D))), none, none], st⟩ := by
    refine compLoop_via _ _ _ _ (by simp; omega) fun k hk => ?_
    have hk2 := List.mem_range'_1.mp hk
    have x0 := ix_pts pt2D (at2_get (pts := pts) (k := 0) (by omega))
    have x1 := ix_pts pt2D (at2_get (pts := pts) (k := k) (by omega))
    have x2 := ix_pts pt2D (at2_get (pts := pts) (k := k + 1) (by omega))
    have ek : ((k + 1 : Nat) : Int) = (k : Int) + 1 := by omega
    rw [ek] at x2
    have cr := s__law_cross (m 0 (by omega)) (m k (by omega)) (m (k + 1) (by omega)) (by omega) (st := st)
    simp only [Int.natCast_zero] at x0
    generalize pts.map pt2D = PP at *
    simp [el__law_area_1, x0, x1, x2, cr]
  have em : ((List.range' 1 (pts.length - 2)).map fun k => frac (turn (at2 pts 0) (at2 pts k) (at2 pts (k + 1)))) = (fanL pts).map frac := by
    unfold fanL
    rw [List.map_map]
    rfl
  rw [em] at hc
  have lP : (pts.map pt2D).length = pts.length := List.length_map ..
  have e10 : ((1 : Nat) : Int) = 1 := rfl
  rw [e10, ← lP] at gr
  rw [← lP] at hc
  generalize (fanL pts).map frac = FF at *
  generalize pts.map pt2D = PP at *
  simp [m__law_area, b__law_area, fnOf_app, gr]
  rw [hc]
  simp [q1, h2, half, q3]
end EV0
/-! Q, part 7: clipping by the package. -/
namespace EV0
open PySem PySem.Spec PyProof.Rows L2 Z
open SC (Pt2 at2 ev cr2 opp lawStep lawRaw proStep proRaw once turn fanF fan turnAt turning sq4)
theorem s_excess_at {h0 h : Nat} {a b c : Rat} {p : Pt2} (ha : Ht h0 a) (hb : Ht h0 b) (hc : Ht h0 c) (hp : HtP h p) (hh : 3 * oht h0 h + 3 * h ≤ 6000) {st : Store} : m_excess_at [.val (.tuple [frac a, frac b, frac c]), .val (pt2D p)] st = .ok (.val (frac (ev a b c p))) st := by
  unfold oht at hh
  have g1 := s_fraction_times ha hp.x (by omega) (st := st)
  have g2 := s_fraction_times hb hp.y (by omega) (st := st)
  have g3 := s_fraction_sum (ht_mul ha hp.x) (ht_mul hb hp.y) (by omega) (st := st)
  have g4 := s_fraction_less (ht_add (ht_mul ha hp.x) (ht_mul hb hp.y)) hc (by omega) (st := st)
  simp [m_excess_at, b_excess_at, fnOf_app, g1, g2, g3, g4, ev]
theorem s_crossing {o h : Nat} {A H : Pt2} {x y : Rat} (hA : HtP h A) (hH : HtP h H) (hx : Ht o x) (hy : Ht o y) (nz : x - y ≠ 0) (hh : 3 * o + 3 * h ≤ 6000) {st : Store} : m_crossing [.val (pt2D A), .val (pt2D H), .val (frac x), .val (frac y)] st = .ok (.val (pt2D (cr2 A H x y))) st := by
  have hsz := sizeLine_big
  have h2 : 2 ≤ sizeLine := by omega
  have g1 := s_fraction_less hx hy (by omega) (st := st)
  have g2 := s_fraction_over hx (ht_sub hx hy) nz (by omega) (st := st)
  have hd := ht_div hx (ht_sub hx hy) nz
  have g3 := s_fraction_less hH.x hA.x (by omega) (st := st)
  have g4 := s_fraction_times hd (ht_sub hH.x hA.x) (by omega) (st := st)
  have g5 := s_fraction_sum hA.x (ht_mul hd (ht_sub hH.x hA.x)) (by omega) (st := st)
  have g6 := s_fraction_less hH.y hA.y (by omega) (st := st)
  have g7 := s_fraction_times hd (ht_sub hH.y hA.y) (by omega) (st := st)
  have g8 := s_fraction_sum hA.y (ht_mul hd (ht_sub hH.y hA.y)) (by omega) (st := st)
  obtain ⟨z, hz⟩ : ∃ z, z = x / (x - y) := ⟨_, rfl⟩
  rw [← hz] at g2 g4 g5 g7 g8
  have zw : zipW [.val (pt2D A), .val (pt2D H)] = some [.tuple [frac A.1, frac H.1], .tuple [frac A.2, frac H.2]] := rfl
  let s : S := ⟨[some (.val (pt2D A)), some (.val (pt2D H)), some (.val (frac z)), none, none, none], st⟩
  have k1 : compLoop [4, 5] (tTupG 2 (tConsG (tName 4) (tConsG (tName 5) tNilG))) cTrue el_between_1 [.tuple [frac A.1, frac H.1], .tuple [frac A.2, frac H.2]] [] s = .ok [frac (z * (H.1 - A.1)), frac (z * (H.2 - A.2))] s := by
    rw [compLoop_step (y := frac (z * (H.1 - A.1))) (s' := s) (by simp [el_between_1, s, g3, g4]) (by simp; omega), compLoop_step (y := frac (z * (H.2 - A.2))) (s' := s) (by simp [el_between_1, s, g6, g7]) (by simp; omega), compLoop_nil]
    rfl
  simp only [s] at k1
  have bt : m_between [.val (pt2D A), .val (pt2D H), .val (frac z)] st = .ok (.val (pt2D (cr2 A H x y))) st := by
    simp [m_between, b_between, fnOf_app, zw]
    rw [k1]
    simp [g5, g8, h2]
    unfold cr2 pt2D
    rw [← hz]
  simp [m_crossing, b_crossing, fnOf_app, g1, g2, bt]
theorem mod_next {k n : Nat} (hn : 0 < n) : ((k : Int) + 1).fmod (n : Int) = (((k + 1) % n : Nat) : Int) := by
  rw [Int.fmod_eq_emod_of_nonneg _ (by omega)]
  have : (k : Int) + 1 = ((k + 1 : Nat) : Int) := by omega
  rw [this]
  rfl
theorem num_le {x : Rat} : (x.num ≤ 0) = (x ≤ 0) := by
  exact propext ⟨fun z => by
    have : ¬ 0 < x.num := by omega
    rw [num_gt] at this; grind, fun z => by
    have : ¬ 0 < x := by grind
    rw [← num_gt] at this; omega⟩
theorem pro_step {h0 h : Nat} {a b c : Rat} {pts fresh : List Pt2} {k : Nat} {v1 e4 e5 e6 e7 e8 : Option W} {st : Store} (ha : Ht h0 a) (hb : Ht h0 b) (hc : Ht h0 c) (hp : ∀ p ∈ pts, HtP h p) (hk : k < pts.length) (hl : pts.length ≤ 500) (hf : fresh.length ≤ 1000) (hh : 3 * oht h0 h + 3 * h ≤ 6000) :
    ∃ f6 f7 f8, (tTupG 2 (tConsG (tName 4) (tConsG (tName 5) tNilG)) (.tuple [.int (k : Int), pt2D (at2 pts k)]) >>= fun _ => lp_clipped_1) ⟨[some (.val (.list (pts.map pt2D))), v1, some (.own (fresh.map pt2D)), some (.own (pts.map fun p => frac (ev a b c p))), e4, e5, e6, e7, e8, none], st⟩ = .ok .next ⟨[some (.val (.list (pts.map pt2D))), v1, some (.own ((fresh ++ proStep a b c pts k).map pt2D)), some (.own (pts.map fun p => frac (ev a b c p))), some (.val (.int (k : Int))), some (.val (pt2D (at2 pts k))), f6, f7, f8, none], st⟩ := by
  have hsz := sizeLine_big
  have hj : (k + 1) % pts.length < pts.length := Nat.mod_lt _ (by omega)
  have gO := at2_get hk
  have gB := at2_get hj
  have i1 := ix_pts pt2D gB
  have i3 := ix_pts (fun p => frac (ev a b c p)) gO
  have i4 := ix_pts (fun p => frac (ev a b c p)) gB
  have pO := hp _ (List.mem_of_getElem? gO)
  have pB := hp _ (List.mem_of_getElem? gB)
  have md := mod_next (k := k) (n := pts.length) (by omega)
  have lP : (pts.map pt2D).length = pts.length := List.length_map ..
  have n0 : (pts.length : Int) ≠ 0 := by omega
  have n0' : ¬ pts.length = 0 := by omega
  have hst : proStep a b c pts k = (if ev a b c (at2 pts k) ≤ 0 then [at2 pts k] else []) ++ (if opp (ev a b c (at2 pts k)) (ev a b c (at2 pts ((k + 1) % pts.length))) = true then [cr2 (at2 pts k) (at2 pts ((k + 1) % pts.length)) (ev a b c (at2 pts k)) (ev a b c (at2 pts ((k + 1) % pts.length)))] else []) := rfl
  rw [hst]
  have oO := ev_ht ha hb hc pO
  have oB := ev_ht ha hb hc pB
  have le0 := @num_le (ev a b c (at2 pts k))
  have cr := fun (nz : ev a b c (at2 pts k) - ev a b c (at2 pts ((k + 1) % pts.length)) ≠ 0) => s_crossing pO pB oO oB nz hh (st := st)
  have l1 := @num_lt (ev a b c (at2 pts k))
  have l2 := @num_lt (ev a b c (at2 pts ((k + 1) % pts.length)))
  have l3 := @num_gt (ev a b c (at2 pts k))
  have l4 := @num_gt (ev a b c (at2 pts ((k + 1) % pts.length)))
  generalize ev a b c (at2 pts k) = x at *
  generalize ev a b c (at2 pts ((k + 1) % pts.length)) = y at *
  generalize at2 pts k = O at *
  generalize at2 pts ((k + 1) % pts.length) = B at *
  generalize (((k + 1) % pts.length : Nat) : Int) = J at *
  have fl : (fresh.map pt2D).length + 1 < sizeLine := by simp; omega
  have fl0 : (fresh.map pt2D).length < sizeLine := by omega
  generalize pts.map pt2D = PP at *
  generalize (pts.map fun p => frac (ev a b c p)) = OO at *
  refine ⟨some (.val (.int J)), some (.val (frac x)), some (.val (frac y)), ?_⟩
  by_cases hopp : opp x y = true
  · obtain ⟨nz1, nz2⟩ := opp_ne hopp
    have cr := cr nz2
    rw [if_pos hopp]
    unfold opp at hopp
    simp only [Bool.or_eq_true, Bool.and_eq_true, decide_eq_true_eq] at hopp
    rcases hopp with ⟨hx, hy⟩ | ⟨hx, hy⟩
    · have hle : x ≤ 0 := by grind
      have e : (fresh ++ ((if x ≤ 0 then [O] else []) ++ [cr2 O B x y])).map pt2D = fresh.map pt2D ++ [pt2D O] ++ [pt2D (cr2 O B x y)] := by rw [if_pos hle]; simp
      rw [e]
      generalize fresh.map pt2D = FF at *
      simp [lp_clipped_1, lP, md, n0, n0', i1, i3, i4, le0, hle, fl0, fl, l1, l2, l3, l4, hx, hy, cr]
    · have hle : ¬ x ≤ 0 := by grind
      have hx2 : ¬ x < 0 := by grind
      have e : (fresh ++ ((if x ≤ 0 then [O] else []) ++ [cr2 O B x y])).map pt2D = fresh.map pt2D ++ [pt2D (cr2 O B x y)] := by rw [if_neg hle]; simp
      rw [e]
      generalize fresh.map pt2D = FF at *
      simp [lp_clipped_1, lP, md, n0, n0', i1, i3, i4, le0, hle, fl0, fl, l1, l2, l3, l4, hx, hy, hx2, cr]
  · rw [if_neg hopp]
    have h1 : ¬ (x < 0 ∧ 0 < y) := fun z => hopp (by unfold opp; simp [z.1, z.2])
    have h2 : ¬ (y < 0 ∧ 0 < x) := fun z => hopp (by unfold opp; simp [z.1, z.2])
    have fin : ∀ FF' : List PyData, (opChain ltD ltD (opLk ixD (eVar 7) (eC (.int 0))) (eC (.int 0)) (opLk ixD (eVar 8) (eC (.int 0)))) ⟨[some (.val (.list PP)), v1, some (.own FF'), some (.own OO), some (.val (.int (k : Int))), some (.val (pt2D O)), some (.val (.int J)), some (.val (frac x)), some (.val (frac y)), none], st⟩ = .ok false ⟨[some (.val (.list PP)), v1, some (.own FF'), some (.own OO), some (.val (.int (k : Int))), some (.val (pt2D O)), some (.val (.int J)), some (.val (frac x)), some (.val (frac y)), none], st⟩ := fun FF' => by
      by_cases hx : x < 0
      · have hy : ¬ 0 < y := fun z => h1 ⟨hx, z⟩
        simp [l1, l4, hx, hy]
      · simp [l1, hx]
    have fin2 : ∀ FF' : List PyData, (opChain ltD ltD (opLk ixD (eVar 8) (eC (.int 0))) (eC (.int 0)) (opLk ixD (eVar 7) (eC (.int 0)))) ⟨[some (.val (.list PP)), v1, some (.own FF'), some (.own OO), some (.val (.int (k : Int))), some (.val (pt2D O)), some (.val (.int J)), some (.val (frac x)), some (.val (frac y)), none], st⟩ = .ok false ⟨[some (.val (.list PP)), v1, some (.own FF'), some (.own OO), some (.val (.int (k : Int))), some (.val (pt2D O)), some (.val (.int J)), some (.val (frac x)), some (.val (frac y)), none], st⟩ := fun FF' => by
      by_cases hy : y < 0
      · have hx : ¬ 0 < x := fun z => h2 ⟨hy, z⟩
        simp [l2, l3, hx, hy]
      · simp [l2, hy]
    by_cases hle : x ≤ 0
    · have e : (fresh ++ ((if x ≤ 0 then [O] else []) ++ [])).map pt2D = fresh.map pt2D ++ [pt2D O] := by rw [if_pos hle]; simp
      rw [e]
      generalize fresh.map pt2D = FF at *
      simp [lp_clipped_1, lP, md, n0, n0', i1, i3, i4, le0, hle, fl0, fl, fin, fin2, -opChain_app]
    · have e : (fresh ++ ((if x ≤ 0 then [O] else []) ++ [])).map pt2D = fresh.map pt2D := by rw [if_neg hle]; simp
      rw [e]
      generalize fresh.map pt2D = FF at *
      simp [lp_clipped_1, lP, md, n0, n0', i1, i3, i4, le0, hle, fl0, fl, fin, fin2, -opChain_app]
theorem pro_turns {h0 h : Nat} {a b c : Rat} {pts : List Pt2} {v1 : Option W} {st : Store} (ha : Ht h0 a) (hb : Ht h0 b) (hc : Ht h0 c) (hp : ∀ p ∈ pts, HtP h p) (hl : pts.length ≤ 500) (hh : 3 * oht h0 h + 3 * h ≤ 6000) : ∀ (rest pre fresh : List Pt2) (e4 e5 e6 e7 e8 : Option W), pre ++ rest = pts → fresh.length ≤ 2 * pre.length →
    ∃ f4 f5 f6 f7 f8, loopF (tTupG 2 (tConsG (tName 4) (tConsG (tName 5) tNilG))) lp_clipped_1 ((idx pre.length rest).map fun q => .tuple [.int (q.1 : Int), pt2D q.2]) ⟨[some (.val (.list (pts.map pt2D))), v1, some (.own (fresh.map pt2D)), some (.own (pts.map fun p => frac (ev a b c p))), e4, e5, e6, e7, e8, none], st⟩ = .ok .next ⟨[some (.val (.list (pts.map pt2D))), v1, some (.own ((fresh ++ (List.range' pre.length rest.length).flatMap (proStep a b c pts)).map pt2D)), some (.own (pts.map fun p => frac (ev a b c p))), f4, f5, f6, f7, f8, none], st⟩
  | [], pre, fresh, e4, e5, e6, e7, e8, _, _ => ⟨e4, e5, e6, e7, e8, by simp [idx, loopF_nil]⟩
  | p :: rest, pre, fresh, e4, e5, e6, e7, e8, hpr, hf => by
    have hk : pre.length < pts.length := by rw [← hpr]; simp
    have hat : at2 pts pre.length = p := by
      have := at2_get hk
      rw [← hpr, atI_mid] at this
      rw [← hpr]
      exact (Option.some.inj this).symm
    obtain ⟨f6, f7, f8, q⟩ := pro_step (k := pre.length) (fresh := fresh) (v1 := v1) (e4 := e4) (e5 := e5) (e6 := e6) (e7 := e7) (e8 := e8) (st := st) ha hb hc hp hk hl (by omega) hh
    rw [hat] at q
    have two : (proStep a b c pts pre.length).length ≤ 2 := by
      unfold proStep
      simp only [List.length_append]
      have h1 : ∀ (P : Prop) [Decidable P] (x : Pt2), (if P then [x] else []).length ≤ 1 := fun P _ x => by split <;> simp
      have := h1 (opp (ev a b c (at2 pts pre.length)) (ev a b c (at2 pts ((pre.length + 1) % pts.length))) = true) (cr2 (at2 pts pre.length) (at2 pts ((pre.length + 1) % pts.length)) (ev a b c (at2 pts pre.length)) (ev a b c (at2 pts ((pre.length + 1) % pts.length))))
      have := h1 (ev a b c (at2 pts pre.length) ≤ 0) (at2 pts pre.length)
      omega
    obtain ⟨g4, g5, g6, g7, g8, ih⟩ := pro_turns (v1 := v1) (st := st) ha hb hc hp hl hh rest (pre ++ [p]) (fresh ++ proStep a b c pts pre.length) (some (.val (.int (pre.length : Int)))) (some (.val (pt2D p))) f6 f7 f8 (by rw [← hpr]; simp) (by simp; omega)
    have e1 : (pre ++ [p]).length = pre.length + 1 := by simp
    rw [e1] at ih
    refine ⟨g4, g5, g6, g7, g8, ?_⟩
    show loopF _ _ (PyData.tuple [.int (pre.length : Int), pt2D p] :: (idx (pre.length + 1) rest).map fun q => .tuple [.int (q.1 : Int), pt2D q.2]) _ = _
    rw [loopF_step q, ih]
    have e2 : fresh ++ proStep a b c pts pre.length ++ (List.range' (pre.length + 1) rest.length).flatMap (proStep a b c pts) = fresh ++ (List.range' pre.length (p :: rest).length).flatMap (proStep a b c pts) := by
      rw [List.length_cons, List.range'_succ, List.flatMap_cons, List.append_assoc]
    rw [e2]
theorem enum_list {α : Type} (f : α → PyData) (xs : List α) : enumW [.val (.list (xs.map f))] = some ((idx 0 xs).map fun q => .tuple [.int (q.1 : Int), f q.2]) := by
  have hn := numbered_map f xs 0
  have e : itemsD (.val (.list (xs.map f))) = some (xs.map f) := itemsD_list
  show (itemsD (.val (.list (xs.map f)))).map (Z.numbered 0) = _
  rw [e, ← hn]
  rfl
theorem s_clipped {h0 h : Nat} {a b c : Rat} {pts : List Pt2} (ha : Ht h0 a) (hb : Ht h0 b) (hc : Ht h0 c) (hp : ∀ p ∈ pts, HtP h p) (hl : pts.length ≤ 500) (hh : 3 * oht h0 h + 3 * h ≤ 6000) {st : Store} : m_clipped [.val (.list (pts.map pt2D)), .val (.tuple [frac a, frac b, frac c])] st = .ok (.own ((proRaw a b c pts).map pt2D)) st := by
  have hsz := sizeLine_big
  have h0s : 0 ≤ sizeLine := by omega
  have hoff : compLoop [9] (tName 9) cTrue el_clipped_1 (pts.map pt2D) [] ⟨[some (.val (.list (pts.map pt2D))), some (.val (.tuple [frac a, frac b, frac c])), none, none, none, none, none, none, none, none], st⟩ = .ok ([] ++ pts.map fun p => frac (ev a b c p)) ⟨[some (.val (.list (pts.map pt2D))), some (.val (.tuple [frac a, frac b, frac c])), none, none, none, none, none, none, none, none], st⟩ := by
    refine compLoop_via _ _ _ _ (by simp; omega) fun p hpm => ?_
    have g := s_excess_at ha hb hc (hp p hpm) hh (st := st)
    simp [el_clipped_1, g]
  obtain ⟨f4, f5, f6, f7, f8, q⟩ := pro_turns (v1 := some (.val (.tuple [frac a, frac b, frac c]))) (st := st) ha hb hc hp hl hh pts [] [] none none none none none rfl (by simp)
  have er : [] ++ (List.range' ([] : List Pt2).length pts.length).flatMap (proStep a b c pts) = proRaw a b c pts := by
    rw [List.nil_append, List.length_nil, ← List.range_eq_range']
    rfl
  rw [er, List.length_nil] at q
  have en := enum_list pt2D pts
  rw [List.map_nil] at q
  rw [List.nil_append] at hoff
  generalize (proRaw a b c pts).map pt2D = RR at *
  generalize ((idx 0 pts).map fun q => PyData.tuple [.int (q.1 : Int), pt2D q.2]) = II at *
  generalize (pts.map fun p => frac (ev a b c p)) = OO at *
  generalize pts.map pt2D = PP at *
  simp [m_clipped, b_clipped, fnOf_app]
  rw [hoff]
  simp [en]
  rw [q]
  simp
theorem s_unlike_points {pts : List Pt2} (hl : pts.length ≤ 1000) {st : Store} : m_unlike_points [.val (.list (pts.map pt2D))] st = .ok (.own ((once [] pts).map pt2D)) st := by
  have hsz := sizeLine_big
  have hon : compLoop [1, 2] (tTupG 2 (tConsG (tName 1) (tConsG (tName 2) tNilG))) (opCmp ninD (eVar 2) (eSl (eVar 0) pNone (pSome (eVar 1)))) el_unlike_points_1 ((idx 0 pts).map fun q => .tuple [.int (q.1 : Int), pt2D q.2]) [] ⟨[some (.val (.list (pts.map pt2D))), none, none], st⟩ = .ok ([] ++ ((idx 0 pts).filter fun q => decide (q.2 ∉ pts.take q.1)).map fun q => pt2D q.2) ⟨[some (.val (.list (pts.map pt2D))), none, none], st⟩ := by
    refine compLoop_filter (α := Nat × Pt2) (fun q => .tuple [.int (q.1 : Int), pt2D q.2]) (fun q => pt2D q.2) (fun q => decide (q.2 ∉ pts.take q.1)) _ _ (by rw [idx_length]; simp; omega) fun q hq => ?_
    obtain ⟨i, h1, h2⟩ := idx_mem hq
    rw [Nat.zero_add] at h1
    subst h1
    have hlt : q.1 < pts.length := (List.getElem?_eq_some_iff.mp h2).1
    have ct : cutL (pts.map pt2D) none (some (q.1 : Int)) = (pts.take q.1).map pt2D := by
      rw [cut_to _ (by simp; omega), List.map_take]
    have nn := nin_pts (x := q.2) (L := pts.take q.1) (by rw [List.length_take]; omega)
    have nb : (!decide (q.2 ∈ pts.take q.1)) = decide (q.2 ∉ pts.take q.1) := by simp
    rw [nb] at nn
    refine ⟨⟨[some (.val (.list (pts.map pt2D))), some (.val (.int (q.1 : Int))), some (.val (pt2D q.2))], st⟩, ⟨[some (.val (.list (pts.map pt2D))), some (.val (.int (q.1 : Int))), some (.val (pt2D q.2))], st⟩, by simp, ?_, by simp, fun _ => ?_⟩
    · generalize (pts.take q.1).map pt2D = TT at *
      generalize pts.map pt2D = PP at *
      generalize decide (q.2 ∉ pts.take q.1) = bb at *
      simp [ct, nn]
    · generalize pts.map pt2D = PP at *
      simp [el_unlike_points_1]
  have eo := once_idx pts []
  rw [List.nil_append, List.length_nil] at eo
  have em : (((idx 0 pts).filter fun q => decide (q.2 ∉ pts.take q.1)).map fun q => pt2D q.2) = (once [] pts).map pt2D := by
    rw [← eo, List.map_map]
    rfl
  rw [em, List.nil_append] at hon
  have en := enum_list pt2D pts
  generalize (once [] pts).map pt2D = UU at *
  generalize ((idx 0 pts).map fun q => PyData.tuple [.int (q.1 : Int), pt2D q.2]) = II at *
  generalize pts.map pt2D = PP at *
  simp [m_unlike_points, b_unlike_points, fnOf_app, en]
  rw [hon]
  simp
end EV0
/-! Q, part 8: polygons and areas of one condition by the package. -/
namespace EV0
open PySem PySem.Spec PyProof.Rows L2 Z
open SC (Pt2 at2 ev cr2 opp lawStep lawRaw proStep proRaw once turn fanF fan turnAt turning sq4 fanArea)
theorem s_turn_at {h : Nat} {A B C : Pt2} (hA : HtP h A) (hB : HtP h B) (hC : HtP h C) (hh : h ≤ 900) {st : Store} : m_turn_at [.val (pt2D A), .val (pt2D B), .val (pt2D C)] st = .ok (.val (frac (turn A B C))) st := by
  have b1 := s_fraction_less hB.x hA.x (by omega) (st := st)
  have b2 := s_fraction_less hB.y hA.y (by omega) (st := st)
  have c1 := s_fraction_less hC.x hA.x (by omega) (st := st)
  have c2 := s_fraction_less hC.y hA.y (by omega) (st := st)
  have t1 := s_fraction_times (ht_sub hB.x hA.x) (ht_sub hC.y hA.y) (by omega) (st := st)
  have t2 := s_fraction_times (ht_sub hC.x hA.x) (ht_sub hB.y hA.y) (by omega) (st := st)
  have t3 := s_fraction_less (ht_mul (ht_sub hB.x hA.x) (ht_sub hC.y hA.y)) (ht_mul (ht_sub hC.x hA.x) (ht_sub hB.y hA.y)) (by omega) (st := st)
  simp [m_turn_at, b_turn_at, fnOf_app, b1, b2, c1, c2, t1, t2, t3, turn]
theorem turnAt_eq (pts : List Pt2) (k : Nat) : turnAt pts k = turn (at2 pts (prevI pts.length k)) (at2 pts k) (at2 pts ((k + 1) % pts.length)) := rfl
theorem turn_loop {h : Nat} {pts : List Pt2} {st : Store} (hp : ∀ p ∈ pts, HtP h p) (hl : pts.length ≤ 500) (hh : h ≤ 900) : ∀ (rest pre fresh : List Pt2) (e2 e3 : Option W), pre ++ rest = pts → fresh.length ≤ pre.length →
    ∃ f2 f3, loopF (tTupG 2 (tConsG (tName 2) (tConsG (tName 3) tNilG))) lp_turning_points_1 ((idx pre.length rest).map fun q => .tuple [.int (q.1 : Int), pt2D q.2]) ⟨[some (.val (.list (pts.map pt2D))), some (.own (fresh.map pt2D)), e2, e3], st⟩ = .ok .next ⟨[some (.val (.list (pts.map pt2D))), some (.own ((fresh ++ ((List.range' pre.length rest.length).filter fun k => decide (turnAt pts k ≠ 0)).map (at2 pts)).map pt2D)), f2, f3], st⟩
  | [], pre, fresh, e2, e3, _, _ => ⟨e2, e3, by simp [idx, loopF_nil]⟩
  | p :: rest, pre, fresh, e2, e3, hpr, hf => by
    have hsz := sizeLine_big
    have hk : pre.length < pts.length := by rw [← hpr]; simp
    have hat : at2 pts pre.length = p := by
      have := at2_get hk
      rw [← hpr, atI_mid] at this
      rw [← hpr]
      exact (Option.some.inj this).symm
    have hj : (pre.length + 1) % pts.length < pts.length := Nat.mod_lt _ (by omega)
    have hj2 : prevI pts.length pre.length < pts.length := by unfold prevI; split <;> omega
    have m : ∀ i, i < pts.length → HtP h (at2 pts i) := fun i hi => hp _ (List.mem_of_getElem? (at2_get hi))
    have tr := s_turn_at (m _ hj2) (m _ hk) (m _ hj) hh (st := st)
    rw [← turnAt_eq, hat] at tr
    have i1 := ix_prev pt2D hk (at2_get hj2)
    have i2 := ix_pts pt2D (at2_get hj)
    have md := mod_next (k := pre.length) (n := pts.length) (by omega)
    have lP : (pts.map pt2D).length = pts.length := List.length_map ..
    have n0' : ¬ pts.length = 0 := by omega
    generalize (((pre.length + 1) % pts.length : Nat) : Int) = J at *
    generalize at2 pts ((pre.length + 1) % pts.length) = B at *
    generalize at2 pts (prevI pts.length pre.length) = A at *
    have fl : (fresh.map pt2D).length < sizeLine := by simp; omega
    have step : (tTupG 2 (tConsG (tName 2) (tConsG (tName 3) tNilG)) (.tuple [.int (pre.length : Int), pt2D p]) >>= fun _ => lp_turning_points_1) ⟨[some (.val (.list (pts.map pt2D))), some (.own (fresh.map pt2D)), e2, e3], st⟩ = .ok .next ⟨[some (.val (.list (pts.map pt2D))), some (.own ((fresh ++ if turnAt pts pre.length ≠ 0 then [p] else []).map pt2D)), some (.val (.int (pre.length : Int))), some (.val (pt2D p))], st⟩ := by
      have n0 := @Rat.num_eq_zero (turnAt pts pre.length)
      by_cases ht : turnAt pts pre.length = 0
      · have e : (fresh ++ if turnAt pts pre.length ≠ 0 then [p] else []).map pt2D = fresh.map pt2D := by simp [ht]
        rw [e]
        generalize turnAt pts pre.length = T at *
        generalize fresh.map pt2D = FF at *
        generalize pts.map pt2D = PP at *
        simp [lp_turning_points_1, i1, i2, lP, md, n0', tr, ht]
      · have e : (fresh ++ if turnAt pts pre.length ≠ 0 then [p] else []).map pt2D = fresh.map pt2D ++ [pt2D p] := by simp [ht]
        rw [e]
        have ht' : ¬ (turnAt pts pre.length).num = 0 := fun z => ht (n0.mp z)
        generalize turnAt pts pre.length = T at *
        generalize fresh.map pt2D = FF at *
        generalize pts.map pt2D = PP at *
        simp [lp_turning_points_1, i1, i2, lP, md, n0', tr, ht, fl]
    obtain ⟨g2, g3, ih⟩ := turn_loop (st := st) hp hl hh rest (pre ++ [p]) (fresh ++ if turnAt pts pre.length ≠ 0 then [p] else []) (some (.val (.int (pre.length : Int)))) (some (.val (pt2D p))) (by rw [← hpr]; simp) (by
      rw [List.length_append, List.length_append]
      split <;> simp <;> omega)
    have e1 : (pre ++ [p]).length = pre.length + 1 := by simp
    rw [e1] at ih
    refine ⟨g2, g3, ?_⟩
    show loopF _ _ (PyData.tuple [.int (pre.length : Int), pt2D p] :: (idx (pre.length + 1) rest).map fun q => .tuple [.int (q.1 : Int), pt2D q.2]) _ = _
    rw [loopF_step step, ih]
    have e2 : (fresh ++ if turnAt pts pre.length ≠ 0 then [p] else []) ++ ((List.range' (pre.length + 1) rest.length).filter fun k => decide (turnAt pts k ≠ 0)).map (at2 pts) = fresh ++ ((List.range' pre.length (p :: rest).length).filter fun k => decide (turnAt pts k ≠ 0)).map (at2 pts) := by
      rw [List.length_cons, List.range'_succ, List.filter_cons]
      by_cases ht : turnAt pts pre.length = 0
      · simp [ht]
      · simp [ht, hat]
    rw [e2]
theorem s_turning_points {h : Nat} {pts : List Pt2} (hp : ∀ p ∈ pts, HtP h p) (hl : pts.length ≤ 500) (hh : h ≤ 900) {st : Store} : m_turning_points [.val (.list (pts.map pt2D))] st = .ok (.own ((turning pts).map pt2D)) st := by
  have hsz := sizeLine_big
  have h0s : 0 ≤ sizeLine := by omega
  obtain ⟨f2, f3, q⟩ := turn_loop (st := st) hp hl hh pts [] [] none none rfl (by simp)
  have er : [] ++ ((List.range' ([] : List Pt2).length pts.length).filter fun k => decide (turnAt pts k ≠ 0)).map (at2 pts) = turning pts := by
    rw [List.nil_append, List.length_nil, ← List.range_eq_range']
    rfl
  rw [er, List.length_nil, List.map_nil] at q
  have en := enum_list pt2D pts
  generalize (turning pts).map pt2D = RR at *
  generalize ((idx 0 pts).map fun q => PyData.tuple [.int (q.1 : Int), pt2D q.2]) = II at *
  generalize pts.map pt2D = PP at *
  simp [m_turning_points, b_turning_points, fnOf_app, en]
  rw [q]
  simp
theorem s_is_less_point {h : Nat} {A B : Pt2} (hA : HtP h A) (hB : HtP h B) (hh : h ≤ 900) {st : Store} : ∃ b, m_is_less_point [.val (pt2D A), .val (pt2D B)] st = .ok (.val (.bool b)) st := by
  have g1 := s_is_above hB.x hA.x (by omega) (st := st)
  have g2 := s_is_above hB.y hA.y (by omega) (st := st)
  by_cases he : A.1 = B.1
  · exact ⟨_, by simp [m_is_less_point, b_is_less_point, fnOf_app, g2, he]; rfl⟩
  · exact ⟨_, by simp [m_is_less_point, b_is_less_point, fnOf_app, g1, he]; rfl⟩
theorem least_loop {h : Nat} {pts : List Pt2} {st : Store} (hp : ∀ p ∈ pts, HtP h p) (hl : pts.length ≤ 500) (hh : h ≤ 900) : ∀ (rest pre : List Pt2) (at_ : Nat) (e2 e3 : Option W), pre ++ rest = pts → at_ < pts.length →
    ∃ at', at' < pts.length ∧ ∃ f2 f3, loopF (tTupG 2 (tConsG (tName 2) (tConsG (tName 3) tNilG))) lp_least_first_1 ((idx pre.length rest).map fun q => .tuple [.int (q.1 : Int), pt2D q.2]) ⟨[some (.val (.list (pts.map pt2D))), some (.val (.int (at_ : Int))), e2, e3], st⟩ = .ok .next ⟨[some (.val (.list (pts.map pt2D))), some (.val (.int (at' : Int))), f2, f3], st⟩
  | [], pre, at_, e2, e3, _, ha => ⟨at_, ha, e2, e3, by simp [idx, loopF_nil]⟩
  | p :: rest, pre, at_, e2, e3, hpr, ha => by
    have hk : pre.length < pts.length := by rw [← hpr]; simp
    have hpm : p ∈ pts := by rw [← hpr]; simp
    obtain ⟨b, g⟩ := s_is_less_point (hp p hpm) (hp _ (List.mem_of_getElem? (at2_get ha))) hh (st := st)
    have i1 := ix_pts pt2D (at2_get ha)
    have step : ∃ a2, a2 < pts.length ∧ (tTupG 2 (tConsG (tName 2) (tConsG (tName 3) tNilG)) (.tuple [.int (pre.length : Int), pt2D p]) >>= fun _ => lp_least_first_1) ⟨[some (.val (.list (pts.map pt2D))), some (.val (.int (at_ : Int))), e2, e3], st⟩ = .ok .next ⟨[some (.val (.list (pts.map pt2D))), some (.val (.int (a2 : Int))), some (.val (.int (pre.length : Int))), some (.val (pt2D p))], st⟩ := by
      cases b with
      | true =>
        refine ⟨pre.length, hk, ?_⟩
        generalize at2 pts at_ = A at *
        generalize pts.map pt2D = PP at *
        simp [lp_least_first_1, i1, g]
      | false =>
        refine ⟨at_, ha, ?_⟩
        generalize at2 pts at_ = A at *
        generalize pts.map pt2D = PP at *
        simp [lp_least_first_1, i1, g]
    obtain ⟨a2, ha2, step⟩ := step
    obtain ⟨at', h1, g2, g3, ih⟩ := least_loop (st := st) hp hl hh rest (pre ++ [p]) a2 (some (.val (.int (pre.length : Int)))) (some (.val (pt2D p))) (by rw [← hpr]; simp) ha2
    have e1 : (pre ++ [p]).length = pre.length + 1 := by simp
    rw [e1] at ih
    refine ⟨at', h1, g2, g3, ?_⟩
    show loopF _ _ (PyData.tuple [.int (pre.length : Int), pt2D p] :: (idx (pre.length + 1) rest).map fun q => .tuple [.int (q.1 : Int), pt2D q.2]) _ = _
    rw [loopF_step step, ih]
theorem s_least_first {h : Nat} {pts : List Pt2} (hp : ∀ p ∈ pts, HtP h p) (hl : pts.length ≤ 500) (h0 : 0 < pts.length) (hh : h ≤ 900) {st : Store} : ∃ at_, at_ < pts.length ∧ m_least_first [.val (.list (pts.map pt2D))] st = .ok (.val (.tuple ((pts.drop at_ ++ pts.take at_).map pt2D))) st := by
  have hsz := sizeLine_big
  obtain ⟨at', h1, f2, f3, q⟩ := least_loop (st := st) hp hl hh pts [] 0 none none rfl h0
  refine ⟨at', h1, ?_⟩
  rw [List.length_nil] at q
  have en := enum_list pt2D pts
  have c1 : cutL (pts.map pt2D) (some (at' : Int)) none = (pts.drop at').map pt2D := by rw [cut_from _ (by simp; omega), List.map_drop]
  have c2 : cutL (pts.map pt2D) none (some (at' : Int)) = (pts.take at').map pt2D := by rw [cut_to _ (by simp; omega), List.map_take]
  have ln : ((pts.drop at').map pt2D).length + ((pts.take at').map pt2D).length ≤ sizeLine := by simp; omega
  rw [List.map_append]
  simp only [Int.natCast_zero] at q
  generalize (pts.drop at').map pt2D = D1 at *
  generalize (pts.take at').map pt2D = D2 at *
  generalize ((idx 0 pts).map fun q => PyData.tuple [.int (q.1 : Int), pt2D q.2]) = II at *
  generalize pts.map pt2D = PP at *
  simp [m_least_first, b_least_first, fnOf_app, en]
  rw [q]
  simp [c1, c2, ln]
theorem once_mem {x : Pt2} : ∀ {l pre : List Pt2}, x ∈ once pre l → x ∈ l
  | [], _, h => by cases h
  | y :: l, pre, h => by
    unfold once at h
    rcases List.mem_append.mp h with h | h
    · split at h
      · cases h
      · have : x = y := by simpa using h
        subst this
        exact List.mem_cons_self ..
    · exact List.mem_cons_of_mem _ (once_mem h)
theorem once_len : ∀ (l pre : List Pt2), (once pre l).length ≤ l.length
  | [], _ => by simp [once]
  | y :: l, pre => by
    have := once_len l (pre ++ [y])
    unfold once
    rw [List.length_append, List.length_cons]
    split <;> simp <;> omega
theorem proRaw_len (a b c : Rat) (pts : List Pt2) : (proRaw a b c pts).length ≤ 2 * pts.length := by
  have := flat_len (f := proStep a b c pts) (c := 2) (List.range pts.length) fun k _ => by
    unfold proStep
    simp only [List.length_append]
    have h1 : ∀ (P : Prop) [Decidable P] (x : Pt2), (if P then [x] else []).length ≤ 1 := fun P _ x => by split <;> simp
    have := h1 (opp (ev a b c (at2 pts k)) (ev a b c (at2 pts ((k + 1) % pts.length))) = true) (cr2 (at2 pts k) (at2 pts ((k + 1) % pts.length)) (ev a b c (at2 pts k)) (ev a b c (at2 pts ((k + 1) % pts.length))))
    have := h1 (ev a b c (at2 pts k) ≤ 0) (at2 pts k)
    omega
  rw [List.length_range] at this
  exact this
theorem mem_ite {P : Prop} [Decidable P] {x y : Pt2} (h : x ∈ (if P then [y] else [])) : P ∧ x = y := by
  split at h
  · exact ⟨by assumption, by simpa using h⟩
  · cases h
theorem proRaw_ht {h0 h : Nat} {a b c : Rat} {pts : List Pt2} (ha : Ht h0 a) (hb : Ht h0 b) (hc : Ht h0 c) (hp : ∀ p ∈ pts, HtP h p) : ∀ p ∈ proRaw a b c pts, HtP (3 * oht h0 h + 3 * h + 3) p := fun p hpm => by
  obtain ⟨k, hk, hm⟩ := List.mem_flatMap.mp hpm
  have hk := List.mem_range.mp hk
  have m : ∀ i, i < pts.length → HtP h (at2 pts i) := fun i hi => hp _ (List.mem_of_getElem? (at2_get hi))
  have hj : (k + 1) % pts.length < pts.length := Nat.mod_lt _ (by omega)
  unfold proStep at hm
  rcases List.mem_append.mp hm with hm | hm
  · obtain ⟨_, rfl⟩ := mem_ite hm
    exact (m k hk).mono (by omega)
  · obtain ⟨hop, rfl⟩ := mem_ite hm
    exact cr_ht (m k hk) (m _ hj) (ev_ht ha hb hc (m k hk)) (ev_ht ha hb hc (m _ hj)) (opp_ne hop).2
theorem lawRaw_ht {h0 h : Nat} {a b c : Rat} {pts : List Pt2} (ha : Ht h0 a) (hb : Ht h0 b) (hc : Ht h0 c) (hp : ∀ p ∈ pts, HtP h p) : ∀ p ∈ lawRaw a b c pts, HtP (3 * oht h0 h + 3 * h + 3) p := fun p hpm => by
  obtain ⟨k, hk, hm⟩ := List.mem_flatMap.mp hpm
  have hk := List.mem_range.mp hk
  have m : ∀ i, i < pts.length → HtP h (at2 pts i) := fun i hi => hp _ (List.mem_of_getElem? (at2_get hi))
  have hj : (if k = 0 then pts.length - 1 else k - 1) < pts.length := by split <;> omega
  unfold lawStep at hm
  rcases List.mem_append.mp hm with hm | hm
  · obtain ⟨hop, rfl⟩ := mem_ite hm
    exact cr_ht (m _ hj) (m k hk) (ev_ht ha hb hc (m _ hj)) (ev_ht ha hb hc (m k hk)) (opp_ne hop).1
  · obtain ⟨_, rfl⟩ := mem_ite hm
    exact (m k hk).mono (by omega)
theorem turning_mem {pts : List Pt2} {p : Pt2} (h : p ∈ turning pts) : p ∈ pts := by
  obtain ⟨k, hk, rfl⟩ := List.mem_map.mp h
  have hk := List.mem_range.mp (List.mem_filter.mp hk).1
  exact List.mem_of_getElem? (at2_get hk)
theorem turning_len (pts : List Pt2) : (turning pts).length ≤ pts.length := by
  unfold turning
  rw [List.length_map]
  have := List.length_filter_le (fun k => decide (turnAt pts k ≠ 0)) (List.range pts.length)
  rw [List.length_range] at this
  exact this
/-- the polygon of one condition: a turn round of this list, or nothing -/
def poly1 (a b c : Rat) : List Pt2 := turning (once [] (proRaw a b c sq4))
theorem con_sq : listD con_SQUARE = some (.own (sq4.map pt2D)) := rfl
theorem s_polygon_by1 {h0 : Nat} {a b c : Rat} (ha : Ht h0 a) (hb : Ht h0 b) (hc : Ht h0 c) (hh : h0 ≤ 80) {st : Store} : ∃ at_, at_ ≤ (poly1 a b c).length ∧ m_polygon_by [.val (.tuple [.tuple [frac a, frac b, frac c]])] st = .ok (.val (.tuple ((if (poly1 a b c).length > 2 then (poly1 a b c).drop at_ ++ (poly1 a b c).take at_ else []).map pt2D))) st := by
  have hsz := sizeLine_big
  have h0s : 0 ≤ sizeLine := by omega
  have cl := s_clipped ha hb hc sq_ht (by decide) (by unfold oht; omega) (st := st)
  have hr := proRaw_ht ha hb hc sq_ht
  have rl := proRaw_len a b c sq4
  have l4 : sq4.length = 4 := rfl
  have ul := once_len (proRaw a b c sq4) []
  have un := s_unlike_points (pts := proRaw a b c sq4) (by omega) (st := st)
  have hh2 : 3 * oht h0 1 + 3 * 1 + 3 ≤ 900 := by unfold oht; omega
  have tn := s_turning_points (h := 3 * oht h0 1 + 3 * 1 + 3) (pts := once [] (proRaw a b c sq4)) (fun p hp => hr p (once_mem hp)) (by omega) hh2 (st := st)
  have tl := turning_len (once [] (proRaw a b c sq4))
  have step : (tName 2 (.tuple [frac a, frac b, frac c]) >>= fun _ => lp_polygon_by_1) ⟨[some (.val (.tuple [.tuple [frac a, frac b, frac c]])), some (.own (sq4.map pt2D)), none, none], st⟩ = .ok .next ⟨[some (.val (.tuple [.tuple [frac a, frac b, frac c]])), some (.own ((proRaw a b c sq4).map pt2D)), some (.val (.tuple [frac a, frac b, frac c])), none], st⟩ := by
    generalize sq4.map pt2D = SQ at *
    simp [lp_polygon_by_1, cl]
  have lp := loopF_step (ds := []) step
  rw [loopF_nil] at lp
  have csq := con_sq
  change m_turning_points _ st = Out.ok (.own ((poly1 a b c).map pt2D)) st at tn
  have lT : ((poly1 a b c).map pt2D).length = (poly1 a b c).length := List.length_map ..
  by_cases h3 : (poly1 a b c).length > 2
  · obtain ⟨at_, h4, lf⟩ := s_least_first (h := 3 * oht h0 1 + 3 * 1 + 3) (pts := poly1 a b c) (fun p hp => hr p (once_mem (turning_mem hp))) (by unfold poly1; omega) (by omega) hh2 (st := st)
    refine ⟨at_, by omega, ?_⟩
    rw [if_pos h3]
    have h3' : (2 : Int) < (((poly1 a b c).map pt2D).length : Int) := by rw [lT]; omega
    have h3'' : 2 < ((poly1 a b c).map pt2D).length := by rw [lT]; omega
    generalize ((poly1 a b c).drop at_ ++ (poly1 a b c).take at_).map pt2D = LF at *
    generalize (poly1 a b c).map pt2D = TT at *
    generalize (once [] (proRaw a b c sq4)).map pt2D = UU at *
    generalize (proRaw a b c sq4).map pt2D = RR at *
    generalize sq4.map pt2D = SQ at *
    simp [m_polygon_by, b_polygon_by, fnOf_app, csq]
    rw [lp]
    simp [un, tn, h3', lf]
  · refine ⟨0, by omega, ?_⟩
    rw [if_neg h3]
    have h3'' : ¬ (2 : Int) < (((poly1 a b c).map pt2D).length : Int) := by rw [lT]; omega
    generalize (poly1 a b c).map pt2D = TT at *
    generalize (once [] (proRaw a b c sq4)).map pt2D = UU at *
    generalize (proRaw a b c sq4).map pt2D = RR at *
    generalize sq4.map pt2D = SQ at *
    simp [m_polygon_by, b_polygon_by, fnOf_app, csq]
    rw [lp]
    simp [un, tn, h3'', h0s]
theorem area_loop {h : Nat} {P : Pt2} {ps : List PyData} {v0 : Option W} {st : Store} (hP : HtP h P) (hh : h ≤ 300) : ∀ (l : List Pt2) (z : Rat) (k : Nat) (e3 e4 : Option W), (∀ p ∈ l, HtP h p) → Ht k z → k + (8 * h + 6) * l.length ≤ 7000 →
    ∃ f3 f4, loopF (tTupG 2 (tConsG (tName 3) (tConsG (tName 4) tNilG))) lp_area_by_1 (pairs (l.map pt2D) (l.tail.map pt2D)) ⟨[v0, some (.val (.tuple (pt2D P :: ps))), some (.val (frac z)), e3, e4], st⟩ = .ok .next ⟨[v0, some (.val (.tuple (pt2D P :: ps))), some (.val (frac (z + fanF P l))), f3, f4], st⟩ ∧ Ht (k + (8 * h + 6) * l.length) (z + fanF P l)
  | [], z, k, e3, e4, _, hz, _ => ⟨e3, e4, by
      have e : z + fanF P [] = z := Rat.add_zero z
      rw [e]; rfl, by
      have e : z + fanF P [] = z := Rat.add_zero z
      rw [e]; exact hz.mono (by omega)⟩
  | [Q], z, k, e3, e4, _, hz, _ => ⟨e3, e4, by
      have e : z + fanF P [Q] = z := Rat.add_zero z
      rw [e]; rfl, by
      have e : z + fanF P [Q] = z := Rat.add_zero z
      rw [e]; exact hz.mono (by omega)⟩
  | Q :: R :: l, z, k, e3, e4, hl, hz, hb => by
    have hQ := hl Q (by simp)
    have hR := hl R (by simp)
    have hb' : k + ((8 * h + 6) * (l.length + 1) + (8 * h + 6)) ≤ 7000 := hb
    have tr := s_turn_at hP hQ hR (by omega) (st := st)
    have tht := turn_ht hP hQ hR
    have g := s_fraction_sum hz tht (by omega) (st := st)
    have step : (tTupG 2 (tConsG (tName 3) (tConsG (tName 4) tNilG)) (.tuple [pt2D Q, pt2D R]) >>= fun _ => lp_area_by_1) ⟨[v0, some (.val (.tuple (pt2D P :: ps))), some (.val (frac z)), e3, e4], st⟩ = .ok .next ⟨[v0, some (.val (.tuple (pt2D P :: ps))), some (.val (frac (z + turn P Q R))), some (.val (pt2D Q)), some (.val (pt2D R))], st⟩ := by
      simp [lp_area_by_1, tr, g]
    obtain ⟨f3, f4, q1, q2⟩ := area_loop (ps := ps) (v0 := v0) (st := st) hP hh (R :: l) (z + turn P Q R) (k + (8 * h + 6)) (some (.val (pt2D Q))) (some (.val (pt2D R))) (fun p hp => hl p (List.mem_cons_of_mem _ hp)) ((ht_add hz tht).mono (by omega)) (by rw [List.length_cons]; omega)
    have e : z + turn P Q R + fanF P (R :: l) = z + fanF P (Q :: R :: l) := by
      show _ = z + (turn P Q R + fanF P (R :: l))
      grind
    rw [e] at q1 q2
    refine ⟨f3, f4, ?_, q2.mono (by
      have e5 : (Q :: R :: l).length = (R :: l).length + 1 := rfl
      rw [e5, Nat.mul_add, Nat.mul_one]; omega)⟩
    show loopF _ _ (PyData.tuple [pt2D Q, pt2D R] :: pairs ((R :: l).map pt2D) ((R :: l).tail.map pt2D)) _ = _
    rw [loopF_step step, q1]
theorem con_half : con_HALF = frac (1 / 2 : Rat) := by
  have e1 : ((1 : Rat) / 2).num = 1 := by decide +kernel
  have e2 : ((1 : Rat) / 2).den = 2 := by decide +kernel
  unfold frac con_HALF
  rw [e1, e2]
  rfl
theorem s_area1 {h0 : Nat} {a b c : Rat} (ha : Ht h0 a) (hb : Ht h0 b) (hc : Ht h0 c) (hh : h0 ≤ 11) {st : Store} : m_area [.val (.tuple [.tuple [frac a, frac b, frac c]])] st = .ok (.val (frac (fanArea (poly1 a b c)))) st := by
  have hsz := sizeLine_big
  have c1 := s_check_tuple (xs := [.tuple [frac a, frac b, frac c]]) (n := 8) (by simp) (st := st)
  have hcond : m_is_condition [.val (.tuple [frac a, frac b, frac c])] st = .ok (.val (.bool true)) st := by
    let s : S := ⟨[some (.val (.tuple [frac a, frac b, frac c])), none], st⟩
    have k : compLoop [1] (tName 1) cTrue el_is_condition_1 [frac a, frac b, frac c] [] s = .ok ([] ++ [frac a, frac b, frac c].map fun _ => .bool true) s := by
      refine compLoop_map _ _ _ (by simp; omega) fun d hd => ?_
      have : d = frac a ∨ d = frac b ∨ d = frac c := by simpa using hd
      rcases this with rfl | rfl | rfl <;> simp [el_is_condition_1, s]
    have al := all_true [frac a, frac b, frac c]
    simp only [s] at k
    simp [m_is_condition, b_is_condition, fnOf_app, con_ROW_SIZE]
    rw [k]
    simp only [List.nil_append] at *
    simp [-List.map_cons, al]
  have c2 := s_check_each (g := "is_condition") (f := m_is_condition) (st := st) rfl (xs := [.tuple [frac a, frac b, frac c]]) fun x hx => by
    have : x = .tuple [frac a, frac b, frac c] := by simpa using hx
    subst this
    exact hcond
  have e8 : ((8 : Nat) : Int) = 8 := rfl
  rw [e8] at c1
  have cr : m_check_rows [.val (.tuple [.tuple [frac a, frac b, frac c]])] st = .ok (.val .none) st := by
    simp [m_check_rows, b_check_rows, fnOf_app, con_MOST_ROWS, c1, c2]
  obtain ⟨at_, h1, pg⟩ := s_polygon_by1 ha hb hc (by omega) (st := st)
  have hr := proRaw_ht ha hb hc sq_ht
  have rl := proRaw_len a b c sq4
  have l4 : sq4.length = 4 := rfl
  have ul := once_len (proRaw a b c sq4) []
  have tl := turning_len (once [] (proRaw a b c sq4))
  have hl8 : (poly1 a b c).length ≤ 8 := by unfold poly1; omega
  have hpm : ∀ p ∈ poly1 a b c, HtP 117 p := fun p hp => (hr p (once_mem (turning_mem hp))).mono (by unfold oht; omega)
  obtain ⟨L, hL⟩ : ∃ L, L = (if (poly1 a b c).length > 2 then (poly1 a b c).drop at_ ++ (poly1 a b c).take at_ else []) := ⟨_, rfl⟩
  rw [← hL] at pg
  have hLm : ∀ p ∈ L, HtP 117 p := fun p hp => by
    rw [hL] at hp
    split at hp
    · rcases List.mem_append.mp hp with hp | hp
      · exact hpm p (List.mem_of_mem_drop hp)
      · exact hpm p (List.mem_of_mem_take hp)
    · cases hp
  have hLl : L.length ≤ 3 ∨ L.length ≤ 8 := by
    right
    rw [hL]
    split
    · simp; omega
    · simp
  have hLl : L.length ≤ 8 := by omega
  have hfan : fan L / 2 = fanArea (poly1 a b c) := by
    rw [hL]
    unfold fanArea
    split
    · have := SC.fan_rot ((poly1 a b c).take at_) ((poly1 a b c).drop at_)
      rw [List.take_append_drop] at this
      rw [this]
    · show (0 : Rat) / 2 = 0
      decide +kernel
  have hh2 : Ht 2 (1 / 2 : Rat) := ⟨by decide +kernel, by decide +kernel⟩
  have ar : m_area_by [.val (.tuple [.tuple [frac a, frac b, frac c]])] st = .ok (.val (frac (fan L / 2))) st := by
    cases L with
    | nil =>
      have g := s_fraction_times hh2 ht_zero (by omega) (st := st)
      have e : (1 / 2 : Rat) * 0 = fan [] / 2 := by decide +kernel
      rw [e] at g
      have zw : zipW [.val (.tuple []), .val (.tuple [])] = some [] := rfl
      have k1 : cutL ([] : List PyData) (some 1) none = [] := rfl
      have k2 : cutL ([] : List PyData) (some 2) none = [] := rfl
      simp [m_area_by, b_area_by, fnOf_app, pg, con0, con_half, zw, k1, k2, loopF_nil, g]
    | cons P l =>
      have hP := hLm P (List.mem_cons_self ..)
      have hll : l.length + 1 ≤ 8 := hLl
      have lb : 1 + (8 * 117 + 6) * l.length ≤ 7000 := by omega
      obtain ⟨f3, f4, q1, q2⟩ := area_loop (P := P) (ps := l.map pt2D) (v0 := some (.val (.tuple [.tuple [frac a, frac b, frac c]]))) (st := st) hP (by decide) l 0 1 none none (fun p hp => hLm p (List.mem_cons_of_mem _ hp)) ht_zero lb
      rw [Rat.zero_add] at q1 q2
      have g := s_fraction_times hh2 q2 (by omega) (st := st)
      have e : (1 / 2 : Rat) * fanF P l = fan (P :: l) / 2 := by
        show (1 / 2 : Rat) * fanF P l = fanF P l / 2
        grind
      rw [e] at g
      have k1 : cutL ((P :: l).map pt2D) (some 1) none = l.map pt2D := cut_from ((P :: l).map pt2D) (k := 1) (by simp)
      have k2 : cutL ((P :: l).map pt2D) (some 2) none = l.tail.map pt2D := by
        cases l with
        | nil => rfl
        | cons Q l => exact cut_from ((P :: Q :: l).map pt2D) (k := 2) (by simp)
      have zw : zipW [.val (.tuple (l.map pt2D)), .val (.tuple (l.tail.map pt2D))] = some (pairs (l.map pt2D) (l.tail.map pt2D)) := rfl
      simp only [List.map_cons] at k1 k2 pg
      generalize pairs (l.map pt2D) (l.tail.map pt2D) = ZZ at *
      generalize l.tail.map pt2D = L2_ at *
      generalize l.map pt2D = L1_ at *
      simp [m_area_by, b_area_by, fnOf_app, pg, con0, con_half, k1, k2, zw]
      rw [q1]
      simp [con_half, g]
  simp [m_area, b_area, fnOf_app, cr, ar, hfan]
end EV0
/-! Draws of the laws k60 and on: a pool of three numbers, a modulus c. -/
namespace Z
open PySem PySem.Spec PyProof.Rows L2
def drawB (c : Int) : M SR := (seq (sIf (opCmp gtD (opLk ixD (eVar 0) (eC (.int 1))) (eC (.int 0))) (seq (sUnp (tTupG 2 (tConsG (tSubG (eVar 0) (eC (.int 1))) (tConsG (tName 2) tNilG))) (opLk divmodD (opLk ixD (eVar 0) (eC (.int 1))) (eVar 1)))
      (sRet (eVar 2))) sNext)
      (seq (sUnp (tSubG (eVar 0) (eC (.int 2))) (opBin addD (opLk ixD (eVar 0) (eC (.int 2))) (eC (.int 1))))
      (seq (sAsg 3 (op1 intD (opLk ixD (eVar 0) (eC (.int 0)))))
      (seq (sUnp (tSubG (eVar 0) (eC (.int 0))) (opBin modD (op1 intD (opBin addD (opBin addD (opBin mulD (eVar 3) (opBin addD (opBin modD (eVar 3) (eC (.int 20011))) (eC (.int 30011)))) (opBin mulD (eC (.int 70001)) (opLk ixD (eVar 0) (eC (.int 2))))) (eC (.int 9)))) (eC (.int c))))
      (sRet (opBin modD (op1 intD (opBin fdivD (opLk ixD (eVar 0) (eC (.int 0))) (eC (.int 128)))) (eVar 1)))))))
def drawF (c : Int) : Fn := fnOf 4 (drawB c)
/-- at most k draws so far -/
structure Pool (st : Store) (r k : Nat) : Prop where
  at_ : ∃ a b c : Int, st[r]? = some [.int b, .int a, .int c] ∧ 0 ≤ b ∧ b < 2 ^ 31 ∧ 0 ≤ c ∧ c ≤ k
theorem Pool.mono {st : Store} {r k l : Nat} (h : Pool st r k) (hl : k ≤ l) : Pool st r l := by
  obtain ⟨a, b, c, h1, h2, h3, h4, h5⟩ := h.at_
  exact ⟨a, b, c, h1, h2, h3, h4, by omega⟩
theorem s_draw {M : Int} (hM : 0 < M) (hM2 : M ≤ 2 ^ 31) {st : Store} {r k m : Nat} (h : Pool st r k) (hm : 1 ≤ m) (hm2 : m ≤ 1000) (hk : k ≤ 1000000) : ∃ (d : Nat) (st' : Store), drawF M [.ref r, .val (.int m)] st = .ok (.val (.int d)) st' ∧ d < m ∧ Pool st' r (k + 1) := by
  obtain ⟨a, b, c, h1, h2, h3, h4, h5⟩ := h.at_
  have hr : r < st.length := (List.getElem?_eq_some_iff.mp h1).1
  have hm' : (0 : Int) < m := by omega
  by_cases ha : 0 < a
  · have e3 : 0 ≤ a % (m : Int) := Int.emod_nonneg _ (by omega)
    have e4 : a % (m : Int) < m := Int.emod_lt_of_pos _ hm'
    refine ⟨(a % m).toNat, st.set r [.int b, .int (a / m), .int c], ?_, by omega, ⟨a / m, b, c, by rw [List.getElem?_set_self hr], h2, h3, h4, by omega⟩⟩
    have e1 := divmodD_int (i := a) (j := m) (by omega) (by omega)
    have e2 : ∀ env : List (Option W), modSt (α := Unit) r (fun ds => Option.map (fun j => (ds.set j (.int (a / m)), ())) (ixN ds.length 1)) ⟨env, st⟩ = .ok () ⟨env, st.set r [.int b, .int (a / m), .int c]⟩ :=
      fun env => modSt_of h1 (by simp [ixn_1])
    simp [drawF, drawB, fnOf_app, h1, ha, e1]
    rw [e2]
    simp
    omega
  · let b' : Int := (b * (b.fmod 20011 + 30011) + 70001 * (c + 1) + 9).fmod M
    have n1 : 0 ≤ b' := Int.fmod_nonneg_of_pos _ hM
    have n2 : b' < M := Int.fmod_lt_of_pos _ hM
    have q0 : 0 ≤ b.fmod 20011 := Int.fmod_nonneg_of_pos _ (by decide)
    have q3 : b.fmod 20011 < 20011 := Int.fmod_lt_of_pos _ (by decide)
    have e3 : 0 ≤ (b'.fdiv 128).fmod (m : Int) := Int.fmod_nonneg_of_pos _ hm'
    have e4 : (b'.fdiv 128).fmod (m : Int) < m := Int.fmod_lt_of_pos _ hm'
    let st1 := st.set r [.int b, .int a, .int (c + 1)]
    let st2 := st1.set r [.int b', .int a, .int (c + 1)]
    have q1 : st1[r]? = some [.int b, .int a, .int (c + 1)] := List.getElem?_set_self hr
    have q2 : st2[r]? = some [.int b', .int a, .int (c + 1)] := List.getElem?_set_self (by rw [List.length_set]; exact hr)
    refine ⟨((b'.fdiv 128).fmod m).toNat, st2, ?_, by omega, ⟨a, b', c + 1, q2, n1, by omega, by omega, by omega⟩⟩
    have f1 : ∀ env : List (Option W), modSt (α := Unit) r (fun ds => Option.map (fun j => (ds.set j (.int (c + 1)), ())) (ixN ds.length 2)) ⟨env, st⟩ = .ok () ⟨env, st1⟩ :=
      fun env => modSt_of h1 (by simp [ixn_2])
    have f2 : ∀ env : List (Option W), modSt (α := Unit) r (fun ds => Option.map (fun j => (ds.set j (.int b'), ())) (ixN ds.length 0)) ⟨env, st1⟩ = .ok () ⟨env, st2⟩ :=
      fun env => modSt_of q1 (by simp [ixn_00])
    have z1 := mulD_sz (i := b) (j := b.fmod 20011 + 30011) (sz_of (L := 31) (by omega) (by decide)) (sz_of (L := 31) (by omega) (by decide))
    have z2 := mulD_sz (i := 70001) (j := c + 1) (sz_of (L := 31) (by decide) (by decide)) (sz_of (L := 31) (by omega) (by decide))
    have z3 := fdivD_sz (i := b') (j := 128) (by decide) (sz_of (L := 31) (by decide) (by decide))
    have hm0 : m ≠ 0 := by omega
    have hM0 : M ≠ 0 := by omega
    simp [drawF, drawB, fnOf_app, h1, ha]
    rw [f1]
    simp [q1, z1, z2, hM0]
    rw [f2]
    simp [q2, z3, hm0]
    omega
end Z
/-! The pools of the laws k60 and on. -/
namespace Z
open PySem PySem.Spec PyProof.Rows L2
def poolL (m d : Int) : M SR := (sAsg 3 (opBin modD (op1 intD (opBin addD (opBin addD (opBin mulD (eVar 3) (eC (.int 48271))) (opBin modD (op1 intD (eVar 4)) (eC (.int m)))) (eC (.int d)))) (eC (.int m))))
def poolB (c1 c2 m d : Int) : M SR := (seq (sPar [2, 3] (hCons (eIf (opCmp ltD (eVar 1) (op1 lenD (eVar 0))) (op1 intD (opLk ixD (eVar 0) (eVar 1))) (opBin addD (opBin mulD (eC (.int 70001)) (eVar 1)) (eC (.int c1)))) (hCons (opBin addD (eC (.int c2)) (opBin mulD (eC (.int 5087)) (eVar 1))) aNil)))
      (seq (sFor (srcV (eSl (eVar 0) pNone (pSome (eC (.int 63))))) (tName 4) (poolL m d))
      (sRet (eNew (aCons (opBin modD (op1 intD (opBin addD (eVar 3) (opBin mulD (eVar 2) (eC (.int 1013))))) (eC (.int m))) (aCons (eIf (cOr (opCmp ltD (eVar 2) (eC (.int 0))) (opCmp geD (eVar 2) (opBin powD (eC (.int 10)) (eC (.int 18))))) (op1 absD (eVar 2)) (eC (.int 0))) (aCons (eC (.int 0)) aNil)))))))
def poolF (c1 c2 m d : Int) : Fn := fnOf 5 (poolB c1 c2 m d)
theorem pool_loop {ns : List Int} {turn m d : Int} {own : W} {st : Store} (hm : 0 < m) (hm2 : m ≤ 2 ^ 31) : ∀ (zs : List Int) (b : Int) (e : Option W), 0 ≤ b → b < 2 ^ 31 →
    ∃ b' e', 0 ≤ b' ∧ b' < 2 ^ 31 ∧ loopF (tName 4) (poolL m d) (zs.map .int) ⟨[some (.scr ns), some (.val (.int turn)), some own, some (.val (.int b)), e], st⟩ = .ok .next ⟨[some (.scr ns), some (.val (.int turn)), some own, some (.val (.int b')), e'], st⟩
  | [], b, e, h1, h2 => ⟨b, e, h1, h2, rfl⟩
  | z :: zs, b, e, h1, h2 => by
    let b1 : Int := (b * 48271 + z.fmod m + d).fmod m
    have n1 : 0 ≤ b1 := Int.fmod_nonneg_of_pos _ hm
    have n2 : b1 < m := Int.fmod_lt_of_pos _ hm
    obtain ⟨b', e', h3, h4, h5⟩ := pool_loop (ns := ns) (turn := turn) (own := own) (st := st) hm hm2 zs b1 (some (.val (.int z))) n1 (by omega)
    refine ⟨b', e', h3, h4, ?_⟩
    have z1 := mulD_sz (i := b) (j := 48271) (sz_of (L := 31) (by omega) (by decide)) (sz_of (L := 31) (by decide) (by decide))
    have hm0 : m ≠ 0 := by omega
    rw [List.map_cons, loopF_step (s' := ⟨[some (.scr ns), some (.val (.int turn)), some own, some (.val (.int b1)), some (.val (.int z))], st⟩), h5]
    simp [poolL, z1, hm0]
    rfl
theorem mulD_ib {i j : Int} (h : (Builtin.Int.intBits i : Int) + (Builtin.Int.intBits j : Int) ≤ 134217728) : mulD (.int i) (.int j) = some (.val (.int (i * j))) := if_pos h
theorem s_pool {c1 c2 m d : Int} {ns : List Int} {turn : Nat} (hm : 0 < m) (hm2 : m ≤ 2 ^ 31) (hc1 : 0 ≤ c1 ∧ c1 ≤ 100000) (hc2 : 0 ≤ c2 ∧ c2 ≤ 10000000) (hl : turn ≤ 3) (hn : ns.length ≤ 63) (hb : ∀ z ∈ ns, Builtin.Int.intBits z ≤ 1048576) {st : Store} : ∃ r st', poolF c1 c2 m d [.scr ns, .val (.int turn)] st = .ok (.ref r) st' ∧ Pool st' r 0 := by
  have hs := sizeLine_big
  have h3 : 3 ≤ sizeLine := by omega
  have hm0 : m ≠ 0 := by omega
  have key : ∀ o : Int, ∃ b' e', 0 ≤ b' ∧ b' < 2 ^ 31 ∧ loopF (tName 4) (poolL m d) (cutL (ns.map .int) none (some 63)) ⟨[some (.scr ns), some (.val (.int turn)), some (.val (.int o)), some (.val (.int (c2 + 5087 * (turn : Int)))), none], st⟩ = .ok .next ⟨[some (.scr ns), some (.val (.int turn)), some (.val (.int o)), some (.val (.int b')), e'], st⟩ := fun o => by
    rw [cut_map]
    exact pool_loop hm hm2 _ _ _ (by omega) (by omega)
  have z1 := mulD_sz (i := 5087) (j := turn) (sz_of (L := 31) (by decide) (by decide)) (sz_of (L := 31) (by omega) (by decide))
  have z2 := mulD_sz (i := 70001) (j := turn) (sz_of (L := 31) (by decide) (by decide)) (sz_of (L := 31) (by omega) (by decide))
  have fin : ∀ (b' a : Int), Pool (st ++ [[.int (b'.fmod m), .int a, .int 0]]) st.length 0 := fun b' a => ⟨a, b'.fmod m, 0, by simp, Int.fmod_nonneg_of_pos _ hm, by have := Int.fmod_lt_of_pos b' hm; omega, by decide, by decide⟩
  by_cases h : turn < ns.length
  · obtain ⟨b', e', g1, g2, g3⟩ := key ns[turn]
    have x := ixD_list (ds := ns.map PyData.int) (i := turn) (d := .int ns[turn]) (atI_nat (by simp [h]))
    have z3 : mulD (.int ns[turn]) (.int 1013) = some (.val (.int (ns[turn] * 1013))) := by
      have q := hb ns[turn] (List.getElem_mem _)
      have q2 : Builtin.Int.intBits 1013 = 10 := by decide +kernel
      exact mulD_ib (by rw [q2]; omega)
    by_cases ho1 : ns[turn] < 0
    · refine ⟨st.length, _, ?_, fin (b' + ns[turn] * 1013) (if ns[turn] < 0 then -ns[turn] else ns[turn])⟩
      simp [poolF, poolB, fnOf_app, h, x, z1]
      rw [g3]
      simp [ho1, h3, z3, hm0]
    · by_cases ho2 : 1000000000000000000 ≤ ns[turn]
      · refine ⟨st.length, _, ?_, fin (b' + ns[turn] * 1013) (if ns[turn] < 0 then -ns[turn] else ns[turn])⟩
        simp [poolF, poolB, fnOf_app, h, x, z1]
        rw [g3]
        simp [ho1, ho2, h3, z3, hm0]
      · refine ⟨st.length, _, ?_, fin (b' + ns[turn] * 1013) 0⟩
        simp [poolF, poolB, fnOf_app, h, x, z1]
        rw [g3]
        simp [ho1, ho2, h3, z3, hm0]
  · obtain ⟨b', e', g1, g2, g3⟩ := key (70001 * (turn : Int) + c1)
    have z3 := mulD_sz (i := 70001 * (turn : Int) + c1) (j := 1013) (sz_of (L := 31) (by omega) (by decide)) (sz_of (L := 31) (by decide) (by decide))
    refine ⟨st.length, _, ?_, fin (b' + (70001 * (turn : Int) + c1) * 1013) 0⟩
    have ho1 : ¬ 70001 * (turn : Int) + c1 < 0 := by omega
    have ho2 : ¬ 1000000000000000000 ≤ 70001 * (turn : Int) + c1 := by omega
    simp [poolF, poolB, fnOf_app, h, z1, z2]
    rw [g3]
    simp [ho1, ho2, h3, z3, hm0]
/-- how many turns a law takes -/
theorem turns_of (n : Nat) : ∃ m : Nat, m ≤ 3 ∧ (if (if (3 : Int) < n then (3 : Int) else n) > 2 then (if (3 : Int) < n then (3 : Int) else n) else 2) = (m : Int) := by
  by_cases h1 : (3 : Int) < n
  · exact ⟨3, by decide, by simp [h1]⟩
  · by_cases h2 : (n : Int) > 2
    · exact ⟨3, by decide, by simp [h1]; omega⟩
    · exact ⟨2, by decide, by simp [h1]; omega⟩
end Z
namespace SC
/-! ### clipping by many rows: every point lies on two lines that cross -/
abbrev Ln := Rat × Rat × Rat
def onL (l : Ln) (p : Pt2) : Prop := l.1 * p.1 + l.2.1 * p.2 = l.2.2
def NZ (l : Ln) : Prop := l.1 ≠ 0 ∨ l.2.1 ≠ 0
def Lk (L : List Ln) (p q : Pt2) : Prop := ∃ l ∈ L, onL l p ∧ onL l q
def det (l m : Ln) : Rat := l.1 * m.2.1 - m.1 * l.2.1
def Two (L : List Ln) (p : Pt2) : Prop := ∃ l ∈ L, ∃ m ∈ L, det l m ≠ 0 ∧ onL l p ∧ onL m p
def stp (a b c : Rat) (p q : Pt2) : List Pt2 := (if ev a b c p ≤ 0 then [p] else []) ++ (if opp (ev a b c p) (ev a b c q) = true then [cr2 p q (ev a b c p) (ev a b c q)] else [])
def clipP (a b c : Rat) : List Pt2 → List Pt2
  | p :: q :: r => stp a b c p q ++ clipP a b c (q :: r)
  | _ => []
def Ch (R : Pt2 → Pt2 → Prop) : List Pt2 → Prop
  | p :: q :: r => R p q ∧ Ch R (q :: r)
  | _ => True
theorem Lk.mono {L M : List Ln} {p q : Pt2} (h : Lk L p q) (s : ∀ l ∈ L, l ∈ M) : Lk M p q := by
  obtain ⟨l, hl, h⟩ := h
  exact ⟨l, s l hl, h⟩
theorem Two.mono {L M : List Ln} {p : Pt2} (h : Two L p) (s : ∀ l ∈ L, l ∈ M) : Two M p := by
  obtain ⟨l, hl, m, hm, h⟩ := h
  exact ⟨l, s l hl, m, s m hm, h⟩
theorem opp_lt {x y : Rat} : opp x y = true ↔ (x < 0 ∧ 0 < y) ∨ (0 < x ∧ y < 0) := by
  simp [opp]
section
variable {a b c : Rat}
theorem ev_on {p : Pt2} : ev a b c p = 0 ↔ onL (a, b, c) p := by
  unfold ev onL
  show _ ↔ a * p.1 + b * p.2 = c
  constructor <;> intro h <;> grind
theorem cross {l : Ln} {p q : Pt2} (nz : NZ l) (hp : onL l p) (hq : onL l q) (ho : opp (ev a b c p) (ev a b c q) = true) :
    onL l (cr2 p q (ev a b c p) (ev a b c q)) ∧ onL (a, b, c) (cr2 p q (ev a b c p) (ev a b c q)) ∧ det l (a, b, c) ≠ 0 := by
  rw [opp_lt] at ho
  have hne : ev a b c p - ev a b c q ≠ 0 := by grind
  have ht : ev a b c p / (ev a b c p - ev a b c q) * (ev a b c p - ev a b c q) = ev a b c p := Rat.div_mul_cancel hne
  have hd : ev a b c p - ev a b c q = a * (p.1 - q.1) + b * (p.2 - q.2) := by unfold ev; grind
  obtain ⟨l1, l2, l3⟩ := l
  unfold onL at hp hq
  simp only at hp hq
  refine ⟨?_, ?_, ?_⟩
  · unfold onL cr2
    simp only
    generalize ev a b c p / (ev a b c p - ev a b c q) = t
    have e : l1 * (p.1 + t * (q.1 - p.1)) + l2 * (p.2 + t * (q.2 - p.2)) = (l1 * p.1 + l2 * p.2) + t * ((l1 * q.1 + l2 * q.2) - (l1 * p.1 + l2 * p.2)) := by grind
    rw [e, hp, hq]; grind
  · rw [← ev_on]
    have gen : ∀ t : Rat, ev a b c (p.1 + t * (q.1 - p.1), p.2 + t * (q.2 - p.2)) = ev a b c p - t * (ev a b c p - ev a b c q) := fun t => by
      unfold ev
      simp only
      grind
    have e := gen (ev a b c p / (ev a b c p - ev a b c q))
    show ev a b c (p.1 + ev a b c p / (ev a b c p - ev a b c q) * (q.1 - p.1), p.2 + ev a b c p / (ev a b c p - ev a b c q) * (q.2 - p.2)) = 0
    rw [e, ht]; grind
  · intro hz
    unfold det at hz
    simp only at hz
    apply hne
    rw [hd]
    have e1 : l1 * (p.1 - q.1) + l2 * (p.2 - q.2) = 0 := by grind
    rcases nz with h | h
    · have h : l1 ≠ 0 := h
      have : l1 * (a * (p.1 - q.1) + b * (p.2 - q.2)) = 0 := by grind
      rcases Rat.mul_eq_zero.mp this with z | z
      · exact absurd z h
      · exact z
    · have h : l2 ≠ 0 := h
      have : l2 * (a * (p.1 - q.1) + b * (p.2 - q.2)) = 0 := by grind
      rcases Rat.mul_eq_zero.mp this with z | z
      · exact absurd z h
      · exact z
/-- what clipping a path leaves: linked, and told at both ends -/
structure Cut (L : List Ln) (a b c : Rat) (p q : Pt2) (one : Prop) (out : List Pt2) : Prop where
  ch : Ch (Lk ((a, b, c) :: L)) out
  two : ∀ x ∈ out, Two ((a, b, c) :: L) x
  hd : ∀ f, out.head? = some f → (f = p ∧ ev a b c p ≤ 0) ∨ (0 < ev a b c p ∧ onL (a, b, c) f)
  tl : ∀ z, out.getLast? = some z → (0 < ev a b c q → onL (a, b, c) z) ∧ (ev a b c q ≤ 0 → Lk ((a, b, c) :: L) z q)
  nil : out = [] → one ∨ (0 < ev a b c p ∧ 0 ≤ ev a b c q)
theorem Ch.cons {R : Pt2 → Pt2 → Prop} {z : Pt2} {out : List Pt2} (h : Ch R out) (hz : ∀ f, out.head? = some f → R z f) : Ch R (z :: out) := by
  cases out with
  | nil => trivial
  | cons f out => exact ⟨hz f rfl, h⟩
theorem tl_cons {P : Pt2 → Prop} {z : Pt2} {out : List Pt2} (h1 : ∀ w, out.getLast? = some w → P w) (h2 : out = [] → P z) : ∀ w, (z :: out).getLast? = some w → P w := fun w hw => by
  cases out with
  | nil =>
    have : z = w := by simpa using hw
    exact this ▸ h2 rfl
  | cons f out => exact h1 w (by simpa [List.getLast?_cons_cons] using hw)
theorem on_both {L : List Ln} {x y : Pt2} (h1 : onL (a, b, c) x) (h2 : onL (a, b, c) y) : Lk ((a, b, c) :: L) x y := ⟨(a, b, c), List.mem_cons_self .., h1, h2⟩
theorem clip_path {L : List Ln} (nz : ∀ l ∈ L, NZ l) : ∀ (p : Pt2) (r : List Pt2), (∀ x ∈ p :: r, Two L x) → Ch (Lk L) (p :: r) →
    Cut L a b c p ((p :: r).getLast (by simp)) (r = []) (clipP a b c (p :: r))
  | p, [], _, _ => ⟨trivial, (fun x hx => nomatch hx), (fun f hf => nomatch hf), (fun z hz => nomatch hz), fun _ => .inl rfl⟩
  | p, p2 :: r, ht, hc => by
    have ih := clip_path nz p2 r (fun x hx => ht x (List.mem_cons_of_mem _ hx)) hc.2
    have hl : (p :: p2 :: r).getLast (by simp) = (p2 :: r).getLast (by simp) := List.getLast_cons (by simp)
    rw [hl]
    have hq : r = [] → (p2 :: r).getLast (by simp) = p2 := fun e => by subst e; rfl
    generalize (p2 :: r).getLast (by simp) = q at ih hq
    obtain ⟨l, hlL, l1, l2⟩ := id hc.1
    have lk : Lk ((a, b, c) :: L) p p2 := hc.1.mono fun m hm => List.mem_cons_of_mem _ hm
    have tp : Two ((a, b, c) :: L) p := (ht p (List.mem_cons_self ..)).mono fun m hm => List.mem_cons_of_mem _ hm
    have hcl : clipP a b c (p :: p2 :: r) = stp a b c p p2 ++ clipP a b c (p2 :: r) := rfl
    rw [hcl]
    generalize clipP a b c (p2 :: r) = out at ih
    have mem : l ∈ ((a, b, c) :: L) := List.mem_cons_of_mem _ hlL
    by_cases h0 : ev a b c p < 0
    · by_cases h2 : 0 < ev a b c p2
      · have ho : opp (ev a b c p) (ev a b c p2) = true := opp_lt.mpr (.inl ⟨h0, h2⟩)
        obtain ⟨x1, x2, x3⟩ := cross (nz l hlL) l1 l2 ho
        have hs : stp a b c p p2 = [p, cr2 p p2 (ev a b c p) (ev a b c p2)] := by
          unfold stp
          rw [if_pos (by grind), if_pos ho]; rfl
        rw [hs]
        generalize cr2 p p2 (ev a b c p) (ev a b c p2) = X at x1 x2
        have tX : Two ((a, b, c) :: L) X := ⟨l, mem, (a, b, c), List.mem_cons_self .., x3, x1, x2⟩
        refine ⟨⟨⟨l, mem, l1, x1⟩, ih.ch.cons fun f hf => ?_⟩, fun x hx => ?_, fun f hf => ?_, tl_cons (P := fun z => (0 < ev a b c q → onL (a, b, c) z) ∧ (ev a b c q ≤ 0 → Lk ((a, b, c) :: L) z q)) (tl_cons ih.tl fun e => ⟨fun _ => x2, fun h => ?_⟩) (fun e => by cases e), fun e => by cases e⟩
        · rcases ih.hd f hf with ⟨_, z⟩ | ⟨_, z⟩
          · grind
          · exact on_both x2 z
        · rcases List.mem_cons.mp hx with rfl | hx
          · exact tp
          · rcases List.mem_cons.mp hx with rfl | hx
            · exact tX
            · exact ih.two x hx
        · have : p = f := by simpa using hf
          exact .inl ⟨this.symm, by grind⟩
        · rcases ih.nil e with z | ⟨_, z⟩
          · rw [hq z] at h; grind
          · exact on_both x2 (ev_on.mp (by grind))
      · have ho : ¬ opp (ev a b c p) (ev a b c p2) = true := fun z => by rw [opp_lt] at z; grind
        have hs : stp a b c p p2 = [p] := by
          unfold stp
          rw [if_pos (by grind), if_neg ho]; rfl
        rw [hs]
        refine ⟨ih.ch.cons fun f hf => ?_, fun x hx => ?_, fun f hf => ?_, tl_cons ih.tl fun e => ?_, fun e => by cases e⟩
        · rcases ih.hd f hf with ⟨z, _⟩ | ⟨z, _⟩
          · rw [z]; exact lk
          · grind
        · rcases List.mem_cons.mp hx with rfl | hx
          · exact tp
          · exact ih.two x hx
        · have : p = f := by simpa using hf
          exact .inl ⟨this.symm, by grind⟩
        · rcases ih.nil e with z | ⟨z, _⟩
          · rw [hq z]
            exact ⟨fun h => by grind, fun _ => lk⟩
          · grind
    · by_cases h1 : ev a b c p = 0
      · have hp : onL (a, b, c) p := ev_on.mp h1
        have ho : ¬ opp (ev a b c p) (ev a b c p2) = true := fun z => by rw [opp_lt] at z; grind
        have hs : stp a b c p p2 = [p] := by
          unfold stp
          rw [if_pos (by grind), if_neg ho]; rfl
        rw [hs]
        refine ⟨ih.ch.cons fun f hf => ?_, fun x hx => ?_, fun f hf => ?_, tl_cons ih.tl fun e => ?_, fun e => by cases e⟩
        · rcases ih.hd f hf with ⟨z, _⟩ | ⟨_, z⟩
          · rw [z]; exact lk
          · exact on_both hp z
        · rcases List.mem_cons.mp hx with rfl | hx
          · exact tp
          · exact ih.two x hx
        · have : p = f := by simpa using hf
          exact .inl ⟨this.symm, by grind⟩
        · refine ⟨fun _ => hp, fun h => ?_⟩
          rcases ih.nil e with z | ⟨_, z⟩
          · rw [hq z]; exact lk
          · exact on_both hp (ev_on.mp (by grind))
      · by_cases h2 : ev a b c p2 < 0
        · have ho : opp (ev a b c p) (ev a b c p2) = true := opp_lt.mpr (.inr ⟨by grind, h2⟩)
          obtain ⟨x1, x2, x3⟩ := cross (nz l hlL) l1 l2 ho
          have hs : stp a b c p p2 = [cr2 p p2 (ev a b c p) (ev a b c p2)] := by
            unfold stp
            rw [if_neg (by grind), if_pos ho]; rfl
          rw [hs]
          generalize cr2 p p2 (ev a b c p) (ev a b c p2) = X at x1 x2
          have tX : Two ((a, b, c) :: L) X := ⟨l, mem, (a, b, c), List.mem_cons_self .., x3, x1, x2⟩
          refine ⟨ih.ch.cons fun f hf => ?_, fun x hx => ?_, fun f hf => ?_, tl_cons ih.tl fun e => ?_, fun e => by cases e⟩
          · rcases ih.hd f hf with ⟨z, _⟩ | ⟨z, _⟩
            · rw [z]; exact ⟨l, mem, x1, l2⟩
            · grind
          · rcases List.mem_cons.mp hx with rfl | hx
            · exact tX
            · exact ih.two x hx
          · have : X = f := by simpa using hf
            exact .inr ⟨by grind, this ▸ x2⟩
          · refine ⟨fun _ => x2, fun h => ?_⟩
            rcases ih.nil e with z | ⟨z, _⟩
            · rw [hq z]; exact ⟨l, mem, x1, l2⟩
            · grind
        · have ho : ¬ opp (ev a b c p) (ev a b c p2) = true := fun z => by rw [opp_lt] at z; grind
          have hs : stp a b c p p2 = [] := by
            unfold stp
            rw [if_neg (by grind), if_neg ho]; rfl
          rw [hs, List.nil_append]
          refine ⟨ih.ch, ih.two, fun f hf => ?_, ih.tl, fun e => ?_⟩
          · rcases ih.hd f hf with ⟨z, y⟩ | ⟨_, z⟩
            · exact .inr ⟨by grind, by rw [z]; exact ev_on.mp (by grind)⟩
            · exact .inr ⟨by grind, z⟩
          · rcases ih.nil e with z | ⟨_, z⟩
            · rw [hq z]; exact .inr ⟨by grind, by grind⟩
            · exact .inr ⟨by grind, z⟩
end
end SC
namespace SC
/-! ### clipping round about -/
def Cyc (L : List Ln) (pts : List Pt2) : Prop := (∀ x ∈ pts, Two L x) ∧ ∀ p r, pts = p :: r → Ch (Lk L) (pts ++ [p])
section
variable {a b c : Rat}
theorem clipP_range : ∀ l : List Pt2, clipP a b c l = (List.range (l.length - 1)).flatMap fun k => stp a b c (at2 l k) (at2 l (k + 1))
  | [] => rfl
  | [_] => rfl
  | p :: q :: r => by
    have ih := clipP_range (q :: r)
    have e1 : (p :: q :: r).length - 1 = (q :: r).length - 1 + 1 := rfl
    show stp a b c p q ++ clipP a b c (q :: r) = _
    rw [ih, e1, List.range_succ_eq_map, List.flatMap_cons, List.flatMap_map]
    rfl
theorem at2_app {pts : List Pt2} {p : Pt2} {k : Nat} (h : k < pts.length) : at2 (pts ++ [p]) k = at2 pts k := by
  unfold at2
  simp only [List.getD_eq_getElem?_getD]
  rw [List.getElem?_append_left h]
theorem proRaw_clip {p : Pt2} {r : List Pt2} : proRaw a b c (p :: r) = clipP a b c ((p :: r) ++ [p]) := by
  rw [clipP_range]
  have e : ((p :: r) ++ [p]).length - 1 = (p :: r).length := by simp
  rw [e]
  unfold proRaw
  have key : ∀ k ∈ List.range (p :: r).length, proStep a b c (p :: r) k = stp a b c (at2 ((p :: r) ++ [p]) k) (at2 ((p :: r) ++ [p]) (k + 1)) := fun k hk => by
    have hk' : k < (p :: r).length := List.mem_range.mp hk
    have e1 : at2 ((p :: r) ++ [p]) k = at2 (p :: r) k := at2_app hk'
    have e2 : at2 ((p :: r) ++ [p]) (k + 1) = at2 (p :: r) ((k + 1) % (p :: r).length) := by
      by_cases h : k + 1 < (p :: r).length
      · rw [at2_app h, Nat.mod_eq_of_lt h]
      · have hz : k + 1 = (p :: r).length := by omega
        rw [hz, Nat.mod_self]
        unfold at2
        simp only [List.getD_eq_getElem?_getD]
        rw [List.getElem?_append_right (Nat.le_refl _), Nat.sub_self]
        rfl
    rw [e1, e2]
    rfl
  generalize (p :: r).length = n at key ⊢
  have go : ∀ ks : List Nat, (∀ k ∈ ks, proStep a b c (p :: r) k = stp a b c (at2 ((p :: r) ++ [p]) k) (at2 ((p :: r) ++ [p]) (k + 1))) → ks.flatMap (proStep a b c (p :: r)) = ks.flatMap fun k => stp a b c (at2 ((p :: r) ++ [p]) k) (at2 ((p :: r) ++ [p]) (k + 1)) := fun ks h => by
    induction ks with
    | nil => rfl
    | cons k ks ih => rw [List.flatMap_cons, List.flatMap_cons, h k (List.mem_cons_self ..), ih fun x hx => h x (List.mem_cons_of_mem _ hx)]
  exact go _ key
theorem ch_snoc {R : Pt2 → Pt2 → Prop} {f : Pt2} : ∀ {out : List Pt2}, Ch R out → (∀ z, out.getLast? = some z → R z f) → Ch R (out ++ [f])
  | [], _, _ => trivial
  | [z], _, h => ⟨h z rfl, trivial⟩
  | z :: y :: out, hc, h => ⟨hc.1, ch_snoc (out := y :: out) hc.2 fun w hw => h w (by simpa [List.getLast?_cons_cons] using hw)⟩
theorem cyc_step {L : List Ln} (nz : ∀ l ∈ L, NZ l) {pts : List Pt2} (h : Cyc L pts) : Cyc ((a, b, c) :: L) (proRaw a b c pts) := by
  cases pts with
  | nil => exact ⟨fun x hx => (nomatch hx), fun p r e => (nomatch e)⟩
  | cons p r =>
    rw [proRaw_clip]
    have hc := h.2 p r rfl
    have cut := clip_path (a := a) (b := b) (c := c) nz p (r ++ [p]) (fun x hx => by
      rcases List.mem_cons.mp hx with rfl | hx
      · exact h.1 x (List.mem_cons_self ..)
      · rcases List.mem_append.mp hx with hx | hx
        · exact h.1 x (List.mem_cons_of_mem _ hx)
        · rw [List.mem_singleton.mp hx]; exact h.1 p (List.mem_cons_self ..)) hc
    have hq : ((p :: r) ++ [p]).getLast (by simp) = p := List.getLast_concat ..
    have hq : (p :: (r ++ [p])).getLast (by simp) = p := hq
    rw [hq] at cut
    have e : (p :: r) ++ [p] = p :: (r ++ [p]) := rfl
    rw [e]
    generalize clipP a b c (p :: (r ++ [p])) = out at cut
    refine ⟨cut.two, fun f s hs => ch_snoc cut.ch fun z hz => ?_⟩
    have t := cut.tl z hz
    rcases cut.hd f (by rw [hs]; rfl) with ⟨e1, e2⟩ | ⟨e1, e2⟩
    · rw [e1]; exact t.2 e2
    · exact on_both (t.1 e1) e2
/-- a row that is no line takes all or nothing -/
theorem proRaw_flat {pts : List Pt2} (ha : a = 0) (hb : b = 0) : proRaw a b c pts = pts ∨ proRaw a b c pts = [] := by
  cases pts with
  | nil => exact .inl rfl
  | cons p r =>
    rw [proRaw_clip]
    have he : ∀ x, ev a b c x = -c := fun x => by unfold ev; rw [ha, hb]; grind
    have hs : ∀ x y, stp a b c x y = if -c ≤ 0 then [x] else [] := fun x y => by
      unfold stp
      rw [he, he]
      have : ¬ opp (-c) (-c) = true := fun z => by rw [opp_lt] at z; grind
      rw [if_neg this, List.append_nil]
    by_cases h : -c ≤ 0
    · left
      have : ∀ l : List Pt2, ∀ q, clipP a b c (l ++ [q]) = l := fun l q => by
        induction l with
        | nil => rfl
        | cons x l ih =>
          cases l with
          | nil => show stp a b c x q ++ [] = [x]; rw [hs, if_pos h]; rfl
          | cons y l =>
            show stp a b c x y ++ clipP a b c (y :: l ++ [q]) = _
            rw [hs, if_pos h, ih]; rfl
      exact this _ _
    · right
      have : ∀ l : List Pt2, clipP a b c l = [] := fun l => by
        induction l with
        | nil => rfl
        | cons x l ih =>
          cases l with
          | nil => rfl
          | cons y l =>
            show stp a b c x y ++ clipP a b c (y :: l) = []
            rw [hs, if_neg h, ih]; rfl
      exact this _
end
/-! ### many rows -/
def edges : List Ln := [(1, 0, 0), (0, 1, 0), (1, 0, 1), (0, 1, 1)]
theorem sq_cyc : Cyc edges sq4 := by
  have d1 : det (1, 0, 0) (0, 1, 0) ≠ 0 := by decide +kernel
  have on : ∀ l ∈ edges, ∀ p ∈ sq4, (onL l p ↔ l.1 * p.1 + l.2.1 * p.2 = l.2.2) := fun _ _ _ _ => Iff.rfl
  constructor
  · intro x hx
    simp only [sq4, List.mem_cons, List.not_mem_nil, or_false] at hx
    rcases hx with rfl | rfl | rfl | rfl
    · exact ⟨(1, 0, 0), by decide +kernel, (0, 1, 0), by decide +kernel, by decide +kernel, by unfold onL; decide +kernel, by unfold onL; decide +kernel⟩
    · exact ⟨(1, 0, 1), by decide +kernel, (0, 1, 0), by decide +kernel, by decide +kernel, by unfold onL; decide +kernel, by unfold onL; decide +kernel⟩
    · exact ⟨(1, 0, 1), by decide +kernel, (0, 1, 1), by decide +kernel, by decide +kernel, by unfold onL; decide +kernel, by unfold onL; decide +kernel⟩
    · exact ⟨(1, 0, 0), by decide +kernel, (0, 1, 1), by decide +kernel, by decide +kernel, by unfold onL; decide +kernel, by unfold onL; decide +kernel⟩
  · intro p r e
    cases e
    refine ⟨⟨(0, 1, 0), by decide +kernel, by unfold onL; decide +kernel, by unfold onL; decide +kernel⟩, ⟨(1, 0, 1), by decide +kernel, by unfold onL; decide +kernel, by unfold onL; decide +kernel⟩, ⟨(0, 1, 1), by decide +kernel, by unfold onL; decide +kernel, by unfold onL; decide +kernel⟩, ⟨(1, 0, 0), by decide +kernel, by unfold onL; decide +kernel, by unfold onL; decide +kernel⟩, trivial⟩
theorem edges_nz : ∀ l ∈ edges, NZ l := fun l hl => by
  simp only [edges, List.mem_cons, List.not_mem_nil, or_false] at hl
  rcases hl with rfl | rfl | rfl | rfl
  · exact .inl (by decide +kernel)
  · exact .inr (by decide +kernel)
  · exact .inl (by decide +kernel)
  · exact .inr (by decide +kernel)
/-- clipped by one row after the other -/
def clipAll : List Ln → List Pt2 → List Pt2
  | [], pts => pts
  | l :: ls, pts => clipAll ls (proRaw l.1 l.2.1 l.2.2 pts)
def isLn (l : Ln) : Bool := decide (l.1 ≠ 0 ∨ l.2.1 ≠ 0)
theorem clipAll_cyc : ∀ (ls L : List Ln) (pts : List Pt2), (∀ l ∈ L, NZ l) → Cyc L pts → ∃ M, (∀ l ∈ M, l ∈ L ∨ l ∈ ls) ∧ M.length ≤ L.length + ls.length ∧ Cyc M (clipAll ls pts)
  | [], L, pts, _, h => ⟨L, fun l hl => .inl hl, by simp, h⟩
  | l :: ls, L, pts, nz, h => by
    obtain ⟨a, b, c⟩ := l
    by_cases hn : a = 0 ∧ b = 0
    · have h' : Cyc L (proRaw a b c pts) := by
        rcases proRaw_flat (c := c) (pts := pts) hn.1 hn.2 with e | e
        · rw [e]; exact h
        · rw [e]; exact ⟨fun x hx => (nomatch hx), fun p r e => (nomatch e)⟩
      obtain ⟨M, h1, h2, h3⟩ := clipAll_cyc ls L _ nz h'
      exact ⟨M, fun m hm => (h1 m hm).imp id (List.mem_cons_of_mem _), by simp only [List.length_cons]; omega, h3⟩
    · have nz' : ∀ m ∈ (a, b, c) :: L, NZ m := fun m hm => by
        rcases List.mem_cons.mp hm with rfl | hm
        · unfold NZ
          by_cases ha : a = 0
          · exact .inr fun hb => hn ⟨ha, hb⟩
          · exact .inl ha
        · exact nz m hm
      obtain ⟨M, h1, h2, h3⟩ := clipAll_cyc ls _ _ nz' (cyc_step (a := a) (b := b) (c := c) nz h)
      refine ⟨M, fun m hm => ?_, by simp only [List.length_cons] at h2 ⊢; omega, h3⟩
      rcases h1 m hm with z | z
      · rcases List.mem_cons.mp z with rfl | z
        · exact .inr (List.mem_cons_self ..)
        · exact .inl z
      · exact .inr (List.mem_cons_of_mem _ z)
end SC
namespace SC
open Z EV0
/-! ### sizes and numbers of the points -/
theorem ht_of {L : Nat} {x : Rat} {m n : Int} (hm : m ≠ 0) (h : x * (m : Rat) = (n : Rat)) (h1 : n.natAbs < 2 ^ L) (h2 : m.natAbs < 2 ^ L) : Ht L x := by
  have hm' : (m : Rat) ≠ 0 := fun z => hm (Rat.intCast_inj.mp z)
  have e : x = Rat.divInt n m := by
    rw [Rat.divInt_eq_div, ← h, Rat.mul_div_cancel hm']
  rw [e, divInt_sign hm]
  refine Ht.divInt (by omega) ?_ h2
  rw [Int.natAbs_mul, Int.natAbs_sign_of_ne_zero hm, Nat.mul_one]
  exact h1
/-- a line with parts of few twelfths -/
def LnOk (l : Ln) : Prop := Fr 12 8 l.1 ∧ Fr 12 8 l.2.1 ∧ Fr 12 8 l.2.2
theorem two_ht {l m : Ln} {p : Pt2} (hl : LnOk l) (hm : LnOk m) (hd : det l m ≠ 0) (h1 : onL l p) (h2 : onL m p) : HtP 15 p := by
  obtain ⟨a, b, c⟩ := l
  obtain ⟨d, e, f⟩ := m
  obtain ⟨fa, fb, fc⟩ := hl
  obtain ⟨fd, fe, ff⟩ := hm
  have fD : Fr 144 128 (a * e - d * b) := (fa.mul fe).sub (fd.mul fb)
  have fx : Fr 144 128 (c * e - f * b) := (fc.mul fe).sub (ff.mul fb)
  have fy : Fr 144 128 (a * f - d * c) := (fa.mul ff).sub (fd.mul fc)
  obtain ⟨M, eM, bM⟩ := fD
  obtain ⟨N1, e1, b1⟩ := fx
  obtain ⟨N2, e2, b2⟩ := fy
  have hd' : a * e - d * b ≠ 0 := hd
  have hM : M ≠ 0 := fun z => by
    rw [z] at eM
    rcases Rat.mul_eq_zero.mp (eM.trans rfl) with q | q
    · exact hd' q
    · exact absurd q (by decide +kernel)
  have p1 : a * p.1 + b * p.2 = c := h1
  have p2 : d * p.1 + e * p.2 = f := h2
  have x1 : p.1 * (a * e - d * b) = c * e - f * b := by grind
  have y1 : p.2 * (a * e - d * b) = a * f - d * c := by grind
  have lt : ∀ k : Nat, k ≤ 128 * 144 → k < 2 ^ 15 := fun k h => Nat.lt_of_le_of_lt h (by decide)
  refine ⟨ht_of hM ?_ (lt _ b1) (lt _ bM), ht_of hM ?_ (lt _ b2) (lt _ bM)⟩
  · rw [← eM, ← e1, ← x1]; grind
  · rw [← eM, ← e2, ← y1]; grind
/-! ### how many -/
def inter (l m : Ln) : Pt2 := ((l.2.2 * m.2.1 - m.2.2 * l.2.1) / det l m, (l.1 * m.2.2 - m.1 * l.2.2) / det l m)
theorem inter_of {l m : Ln} {p : Pt2} (hd : det l m ≠ 0) (h1 : onL l p) (h2 : onL m p) : p = inter l m := by
  obtain ⟨a, b, c⟩ := l
  obtain ⟨d, e, f⟩ := m
  have hd' : a * e - d * b ≠ 0 := hd
  have p1 : a * p.1 + b * p.2 = c := h1
  have p2 : d * p.1 + e * p.2 = f := h2
  have x1 : p.1 * (a * e - d * b) = c * e - f * b := by grind
  have y1 : p.2 * (a * e - d * b) = a * f - d * c := by grind
  refine Prod.ext ?_ ?_
  · show p.1 = (c * e - f * b) / (a * e - d * b)
    rw [← x1, Rat.mul_div_cancel hd']
  · show p.2 = (a * f - d * c) / (a * e - d * b)
    rw [← y1, Rat.mul_div_cancel hd']
def prs : List Ln → List Pt2
  | [] => []
  | l :: ls => ls.map (inter l) ++ prs ls
def trn : Nat → Nat
  | 0 => 0
  | n + 1 => n + trn n
theorem prs_len : ∀ L : List Ln, (prs L).length = trn L.length
  | [] => rfl
  | l :: ls => by
    show (ls.map (inter l) ++ prs ls).length = ls.length + trn ls.length
    rw [List.length_append, List.length_map, prs_len ls]
theorem tri_mono {m n : Nat} (h : m ≤ n) : trn m ≤ trn n := by
  induction h with
  | refl => exact Nat.le_refl _
  | step _ ih => exact Nat.le_trans ih (Nat.le_add_left _ _)
theorem two_prs : ∀ {L : List Ln} {p : Pt2}, Two L p → p ∈ prs L
  | [], _, ⟨_, h, _⟩ => nomatch h
  | k :: L, p, ⟨l, hl, m, hm, hd, h1, h2⟩ => by
    show p ∈ L.map (inter k) ++ prs L
    rw [List.mem_append]
    by_cases el : l = k
    · by_cases em : m = k
      · exfalso
        apply hd
        rw [el, em]
        unfold det
        grind
      · have hm' := (List.mem_cons.mp hm).resolve_left em
        rw [el] at hd h1
        exact .inl (List.mem_map.mpr ⟨m, hm', (inter_of hd h1 h2).symm⟩)
    · have hl' := (List.mem_cons.mp hl).resolve_left el
      by_cases em : m = k
      · rw [em] at hd h2
        have hd' : det k l ≠ 0 := fun z => hd (by unfold det at z ⊢; grind)
        exact .inl (List.mem_map.mpr ⟨l, hl', (inter_of hd' h2 h1).symm⟩)
      · exact .inr (two_prs ⟨l, hl', m, (List.mem_cons.mp hm).resolve_left em, hd, h1, h2⟩)
theorem once_nd : ∀ (l pre : List Pt2), (once pre l).Nodup ∧ ∀ x ∈ once pre l, x ∉ pre
  | [], _ => ⟨List.nodup_nil, fun x hx => nomatch hx⟩
  | y :: l, pre => by
    obtain ⟨h1, h2⟩ := once_nd l (pre ++ [y])
    unfold once
    by_cases hy : y ∈ pre
    · rw [if_pos hy, List.nil_append]
      exact ⟨h1, fun x hx h => h2 x hx (List.mem_append_left _ h)⟩
    · rw [if_neg hy]
      refine ⟨List.nodup_cons.mpr ⟨fun h => h2 y h (List.mem_append_right _ (List.mem_singleton.mpr rfl)), h1⟩, fun x hx => ?_⟩
      rcases List.mem_cons.mp hx with rfl | hx
      · exact hy
      · exact fun h => h2 x hx (List.mem_append_left _ h)
theorem nodup_len : ∀ {l m : List Pt2}, l.Nodup → (∀ x ∈ l, x ∈ m) → l.length ≤ m.length
  | [], _, _, _ => Nat.zero_le _
  | x :: l, m, h, s => by
    have hx := s x (List.mem_cons_self ..)
    obtain ⟨n1, n2⟩ := List.nodup_cons.mp h
    have ih := nodup_len (m := m.erase x) n2 fun y hy => (List.mem_erase_of_ne (fun e => n1 (by rw [← e]; exact hy))).mpr (s y (List.mem_cons_of_mem _ hy))
    rw [List.length_erase_of_mem hx] at ih
    have : 0 < m.length := List.length_pos_of_mem hx
    simp only [List.length_cons]
    omega
theorem edges_ok : ∀ l ∈ edges, LnOk l := fun l hl => by
  simp only [edges, List.mem_cons, List.not_mem_nil, or_false] at hl
  rcases hl with rfl | rfl | rfl | rfl
  · exact ⟨Fr.one (by decide), Fr.zero, Fr.zero⟩
  · exact ⟨Fr.zero, Fr.one (by decide), Fr.zero⟩
  · exact ⟨Fr.one (by decide), Fr.zero, Fr.one (by decide)⟩
  · exact ⟨Fr.zero, Fr.one (by decide), Fr.one (by decide)⟩
theorem clipAll_app : ∀ (ls ms : List Ln) (pts : List Pt2), clipAll (ls ++ ms) pts = clipAll ms (clipAll ls pts)
  | [], _, _ => rfl
  | l :: ls, ms, pts => clipAll_app ls ms _
/-- what up to seven rows leave of the square: few points of few bits -/
theorem clip7 {ls : List Ln} (h : ∀ l ∈ ls, LnOk l) (hl : ls.length ≤ 7) : (∀ p ∈ clipAll ls sq4, HtP 15 p) ∧ (once [] (clipAll ls sq4)).length ≤ 55 ∧ (clipAll ls sq4).length ≤ 4 * 2 ^ ls.length := by
  obtain ⟨M, m1, m2, m3⟩ := clipAll_cyc ls edges sq4 edges_nz sq_cyc
  have ok : ∀ l ∈ M, LnOk l := fun l hm => (m1 l hm).elim (edges_ok l) (h l)
  have el : edges.length = 4 := rfl
  refine ⟨fun p hp => ?_, ?_, ?_⟩
  · obtain ⟨l, hl', m, hm, hd, a1, a2⟩ := m3.1 p hp
    exact two_ht (ok l hl') (ok m hm) hd a1 a2
  · have := nodup_len (once_nd (clipAll ls sq4) []).1 fun x hx => two_prs (m3.1 x (EV0.once_mem (pre := []) hx))
    rw [prs_len] at this
    exact Nat.le_trans this (tri_mono (by omega : M.length ≤ 11))
  · have gen : ∀ (ls : List Ln) (pts : List Pt2), (clipAll ls pts).length ≤ pts.length * 2 ^ ls.length := fun ls => by
      induction ls with
      | nil => intro pts; simp [clipAll]
      | cons l ls ih =>
        intro pts
        have h1 := ih (proRaw l.1 l.2.1 l.2.2 pts)
        have h2 := EV0.proRaw_len l.1 l.2.1 l.2.2 pts
        have h3 := Nat.mul_le_mul_right (2 ^ ls.length) h2
        show (clipAll ls (proRaw l.1 l.2.1 l.2.2 pts)).length ≤ pts.length * 2 ^ (ls.length + 1)
        rw [Nat.pow_succ]
        have h4 : 2 * pts.length * 2 ^ ls.length = pts.length * (2 ^ ls.length * 2) := by
          rw [Nat.mul_comm 2, Nat.mul_assoc, Nat.mul_comm 2]
        omega
    exact gen ls sq4
end SC
namespace EV0
open PySem PySem.Spec PyProof.Rows L2 Z
open SC (Pt2 at2 ev cr2 opp proRaw once turn fanF fan turning sq4 Ln LnOk clipAll clip7 clipAll_app)
def lnD (l : Ln) : PyData := .tuple [frac l.1, frac l.2.1, frac l.2.2]
theorem ln_ht {l : Ln} (h : LnOk l) : Ht 7 l.1 ∧ Ht 7 l.2.1 ∧ Ht 7 l.2.2 := ⟨h.1.ht (by decide) (by decide) (by decide), h.2.1.ht (by decide) (by decide) (by decide), h.2.2.ht (by decide) (by decide) (by decide)⟩
theorem poly_loop {ls : List Ln} (h : ∀ l ∈ ls, LnOk l) (hl : ls.length ≤ 7) {v0 : Option W} {st : Store} : ∀ (ms pre : List Ln) (e2 : Option W), pre ++ ms = ls →
    ∃ f2, loopF (tName 2) lp_polygon_by_1 (ms.map lnD) ⟨[v0, some (.own ((clipAll pre sq4).map pt2D)), e2, none], st⟩ = .ok .next ⟨[v0, some (.own ((clipAll ls sq4).map pt2D)), f2, none], st⟩
  | [], pre, e2, e => by
    rw [List.append_nil] at e
    subst e
    exact ⟨e2, by rw [List.map_nil, loopF_nil]⟩
  | m :: ms, pre, e2, e => by
    have hm := h m (by rw [← e]; simp)
    obtain ⟨a1, a2, a3⟩ := ln_ht hm
    have lp : pre.length + (ms.length + 1) = ls.length := by rw [← e]; simp
    obtain ⟨c1, _, c3⟩ := clip7 (ls := pre) (fun l hlm => h l (by rw [← e]; exact List.mem_append_left _ hlm)) (by omega)
    have c4 : 4 * 2 ^ pre.length ≤ 4 * 2 ^ 6 := Nat.mul_le_mul_left _ (Nat.pow_le_pow_right (by decide) (by omega))
    have cl := s_clipped a1 a2 a3 c1 (by omega) (by decide) (st := st)
    have e' : clipAll (pre ++ [m]) sq4 = proRaw m.1 m.2.1 m.2.2 (clipAll pre sq4) := by rw [clipAll_app]; rfl
    have step : (tName 2 (lnD m) >>= fun _ => lp_polygon_by_1) ⟨[v0, some (.own ((clipAll pre sq4).map pt2D)), e2, none], st⟩ = .ok .next ⟨[v0, some (.own ((clipAll (pre ++ [m]) sq4).map pt2D)), some (.val (lnD m)), none], st⟩ := by
      rw [e']
      generalize (proRaw m.1 m.2.1 m.2.2 (clipAll pre sq4)).map pt2D = NN at *
      generalize (clipAll pre sq4).map pt2D = SQ at *
      unfold lnD
      simp [lp_polygon_by_1, cl]
    obtain ⟨f2, ih⟩ := poly_loop h hl (v0 := v0) (st := st) ms (pre ++ [m]) (some (.val (lnD m))) (by rw [← e]; simp)
    exact ⟨f2, by rw [List.map_cons, loopF_step step, ih]⟩
def polyN (ls : List Ln) : List Pt2 := turning (once [] (clipAll ls sq4))
theorem s_polygon_by {ls : List Ln} (h : ∀ l ∈ ls, LnOk l) (hl : ls.length ≤ 7) {st : Store} : ∃ L : List Pt2, (∀ p ∈ L, HtP 15 p) ∧ L.length ≤ 55 ∧ m_polygon_by [.val (.tuple (ls.map lnD))] st = .ok (.val (.tuple (L.map pt2D))) st := by
  have hsz := sizeLine_big
  have h0s : 0 ≤ sizeLine := by omega
  obtain ⟨c1, c2, c3⟩ := clip7 h hl
  have c4 : 4 * 2 ^ ls.length ≤ 4 * 2 ^ 7 := Nat.mul_le_mul_left _ (Nat.pow_le_pow_right (by decide) (by omega))
  have un := s_unlike_points (pts := clipAll ls sq4) (by omega) (st := st)
  have tn := s_turning_points (h := 15) (pts := once [] (clipAll ls sq4)) (fun p hp => c1 p (once_mem hp)) (by omega) (by decide) (st := st)
  have tl := turning_len (once [] (clipAll ls sq4))
  obtain ⟨f2, lp⟩ := poly_loop h hl (v0 := some (.val (.tuple (ls.map lnD)))) (st := st) ls [] none rfl
  have e0 : clipAll [] sq4 = sq4 := rfl
  rw [e0] at lp
  have csq := con_sq
  change m_turning_points _ st = Out.ok (.own ((polyN ls).map pt2D)) st at tn
  have lT : ((polyN ls).map pt2D).length = (polyN ls).length := List.length_map ..
  have hpm : ∀ p ∈ polyN ls, HtP 15 p := fun p hp => c1 p (once_mem (turning_mem hp))
  by_cases h3 : (polyN ls).length > 2
  · obtain ⟨at_, h4, lf⟩ := s_least_first (h := 15) (pts := polyN ls) hpm (by unfold polyN; omega) (by omega) (by decide) (st := st)
    refine ⟨(polyN ls).drop at_ ++ (polyN ls).take at_, fun p hp => ?_, ?_, ?_⟩
    · rcases List.mem_append.mp hp with hp | hp
      · exact hpm p (List.mem_of_mem_drop hp)
      · exact hpm p (List.mem_of_mem_take hp)
    · have : (polyN ls).length ≤ 55 := by unfold polyN; omega
      simp; omega
    · have h3' : (2 : Int) < (((polyN ls).map pt2D).length : Int) := by rw [lT]; omega
      generalize ((polyN ls).drop at_ ++ (polyN ls).take at_).map pt2D = LF at *
      generalize (polyN ls).map pt2D = TT at *
      generalize (once [] (clipAll ls sq4)).map pt2D = UU at *
      generalize (clipAll ls sq4).map pt2D = RR at *
      generalize sq4.map pt2D = SQ at *
      generalize ls.map lnD = LL at *
      simp [m_polygon_by, b_polygon_by, fnOf_app, csq]
      rw [lp]
      simp [un, tn, h3', lf]
  · refine ⟨[], (fun p hp => nomatch hp), by decide, ?_⟩
    have h3'' : ¬ (2 : Int) < (((polyN ls).map pt2D).length : Int) := by rw [lT]; omega
    generalize (polyN ls).map pt2D = TT at *
    generalize (once [] (clipAll ls sq4)).map pt2D = UU at *
    generalize (clipAll ls sq4).map pt2D = RR at *
    generalize sq4.map pt2D = SQ at *
    generalize ls.map lnD = LL at *
    simp [m_polygon_by, b_polygon_by, fnOf_app, csq]
    rw [lp]
    simp [un, tn, h3'', h0s]
theorem s_area_by {ls : List Ln} (h : ∀ l ∈ ls, LnOk l) (hl : ls.length ≤ 7) {st : Store} : ∃ q : Rat, m_area_by [.val (.tuple (ls.map lnD))] st = .ok (.val (frac q)) st := by
  have hsz := sizeLine_big
  obtain ⟨L, hLm, hLl, pg⟩ := s_polygon_by h hl (st := st)
  have hh2 : Ht 2 (1 / 2 : Rat) := ⟨by decide +kernel, by decide +kernel⟩
  cases L with
  | nil =>
    have g := s_fraction_times hh2 ht_zero (by omega) (st := st)
    have zw : zipW [.val (.tuple []), .val (.tuple [])] = some [] := rfl
    have k1 : cutL ([] : List PyData) (some 1) none = [] := rfl
    have k2 : cutL ([] : List PyData) (some 2) none = [] := rfl
    simp only [List.map_nil] at pg
    refine ⟨1 / 2 * 0, ?_⟩
    generalize (1 / 2 : Rat) * 0 = Q at *
    generalize ls.map lnD = LL at *
    simp [m_area_by, b_area_by, fnOf_app, pg, con0, con_half, zw, k1, k2, loopF_nil, g]
  | cons P l =>
    have hP := hLm P (List.mem_cons_self ..)
    have hll : l.length + 1 ≤ 55 := hLl
    have lb : 1 + (8 * 15 + 6) * l.length ≤ 7000 := by omega
    obtain ⟨f3, f4, q1, q2⟩ := area_loop (P := P) (ps := l.map pt2D) (v0 := some (.val (.tuple (ls.map lnD)))) (st := st) hP (by decide) l 0 1 none none (fun p hp => hLm p (List.mem_cons_of_mem _ hp)) ht_zero lb
    rw [Rat.zero_add] at q1 q2
    have g := s_fraction_times hh2 q2 (by omega) (st := st)
    have k1 : cutL ((P :: l).map pt2D) (some 1) none = l.map pt2D := cut_from ((P :: l).map pt2D) (k := 1) (by simp)
    have k2 : cutL ((P :: l).map pt2D) (some 2) none = l.tail.map pt2D := by
      cases l with
      | nil => rfl
      | cons Q l => exact cut_from ((P :: Q :: l).map pt2D) (k := 2) (by simp)
    have zw : zipW [.val (.tuple (l.map pt2D)), .val (.tuple (l.tail.map pt2D))] = some (pairs (l.map pt2D) (l.tail.map pt2D)) := rfl
    simp only [List.map_cons] at k1 k2 pg
    refine ⟨1 / 2 * fanF P l, ?_⟩
    generalize pairs (l.map pt2D) (l.tail.map pt2D) = ZZ at *
    generalize l.tail.map pt2D = L2_ at *
    generalize l.map pt2D = L1_ at *
    generalize ls.map lnD = LL at *
    simp [m_area_by, b_area_by, fnOf_app, pg, con0, con_half, k1, k2, zw]
    rw [q1]
    simp [con_half, g]
end EV0
namespace K60
open PySem PySem.Spec PyProof.Rows L2 Z
def top (i : Nat) : Stmt := PySem.Challenge.pw_evendraws_k60_corners_refused.main.body.getD i (.Pass ⟨0, 0, 0, 0⟩)
def con_ROW_SIZE : D := .int 3
def con_ZERO : D := .tuple [.int 0, .int 1]
def con_ONE : D := .tuple [.int 1, .int 1]
def con_MOST_DRAWS : D := .int 6
def con_MOST_ROWS : D := .int 8
def con_SQUARE : D := .tuple [.tuple [.tuple [.int 0, .int 1], .tuple [.int 0, .int 1]], .tuple [.tuple [.int 1, .int 1], .tuple [.int 0, .int 1]], .tuple [.tuple [.int 1, .int 1], .tuple [.int 1, .int 1]], .tuple [.tuple [.int 0, .int 1], .tuple [.int 1, .int 1]]]
def con_HALF : D := .tuple [.int 1, .int 2]
def b__law_draw : M SR := (seq (sIf (opCmp gtD (opLk ixD (eVar 0) (eC (.int 1))) (eC (.int 0))) (seq (sUnp (tTupG 2 (tConsG (tSubG (eVar 0) (eC (.int 1))) (tConsG (tName 2) tNilG))) (opLk divmodD (opLk ixD (eVar 0) (eC (.int 1))) (eVar 1)))
      (sRet (eVar 2))) sNext)
      (seq (sUnp (tSubG (eVar 0) (eC (.int 2))) (opBin addD (opLk ixD (eVar 0) (eC (.int 2))) (eC (.int 1))))
      (seq (sAsg 3 (op1 intD (opLk ixD (eVar 0) (eC (.int 0)))))
      (seq (sUnp (tSubG (eVar 0) (eC (.int 0))) (opBin modD (op1 intD (opBin addD (opBin addD (opBin mulD (eVar 3) (opBin addD (opBin modD (eVar 3) (eC (.int 20011))) (eC (.int 30011)))) (opBin mulD (eC (.int 70001)) (opLk ixD (eVar 0) (eC (.int 2))))) (eC (.int 9)))) (eC (.int 2147483497))))
      (sRet (opBin modD (op1 intD (opBin fdivD (opLk ixD (eVar 0) (eC (.int 0))) (eC (.int 128)))) (eVar 1)))))))
def m__law_draw : Fn := fnOf 4 b__law_draw
def b__law_pick : M SR := (sRet (opLk ixD (eVar 1) (eCallS 2 m__law_draw (aCons (eVar 0) (aCons (op1 lenD (eVar 1)) aNil)))))
def m__law_pick : Fn := fnOf 2 b__law_pick
def b_check_tuple : M SR := (sIf (cOr (cNot (opTruth (op1 (isi1 "tuple") (eVar 0)))) (opCmp gtD (op1 lenD (eVar 0)) (eVar 1))) (sRaise "InvalidRow" "index" (aCons (eC .none) aNil)) sNext)
def m_check_tuple : Fn := fnOf 2 b_check_tuple
abbrev m_is_tuple_of : Fn := EV0.m_is_tuple_of
abbrev b_is_tuple_of : M SR := EV0.b_is_tuple_of
abbrev m_is_whole : Fn := EV0.m_is_whole
abbrev b_is_whole : M SR := EV0.b_is_whole
abbrev m_is_fraction : Fn := EV0.m_is_fraction
abbrev b_is_fraction : M SR := EV0.b_is_fraction
abbrev m_is_unlike_nought : Fn := EV0.m_is_unlike_nought
abbrev b_is_unlike_nought : M SR := EV0.b_is_unlike_nought
abbrev m_is_condition : Fn := EV0.m_is_condition
abbrev b_is_condition : M SR := EV0.b_is_condition
def lp_check_each_1 : M SR := (sIf (cNot (opTruth (eCallV 1 1 [("is_unlike_nought", m_is_unlike_nought), ("is_condition", m_is_condition)] (aCons (eVar 3) aNil)))) (sRaise "InvalidRow" "index" (aCons (eVar 2) aNil)) sNext)
def b_check_each : M SR := (sFor (srcA enumW (aCons (eVar 0) aNil)) (tTupG 2 (tConsG (tName 2) (tConsG (tName 3) tNilG))) lp_check_each_1)
def m_check_each : Fn := fnOf 4 b_check_each
abbrev m_sign_of : Fn := EV0.m_sign_of
abbrev b_sign_of : M SR := EV0.b_sign_of
abbrev m_fraction : Fn := EV0.m_fraction
abbrev b_fraction : M SR := EV0.b_fraction
abbrev m_fraction_over : Fn := EV0.m_fraction_over
abbrev b_fraction_over : M SR := EV0.b_fraction_over
abbrev m_fraction_sum : Fn := EV0.m_fraction_sum
abbrev b_fraction_sum : M SR := EV0.b_fraction_sum
abbrev m_lots_of : Fn := EV0.m_lots_of
abbrev b_lots_of : M SR := EV0.b_lots_of
abbrev m_fraction_less : Fn := EV0.m_fraction_less
abbrev b_fraction_less : M SR := EV0.b_fraction_less
abbrev m_fraction_times : Fn := EV0.m_fraction_times
abbrev b_fraction_times : M SR := EV0.b_fraction_times
abbrev m_power_by : Fn := EV0.m_power_by
abbrev b_power_by : M SR := EV0.b_power_by
abbrev m_signed_sum : Fn := EV0.m_signed_sum
abbrev b_signed_sum : M SR := EV0.b_signed_sum
abbrev m_orders_times : Fn := EV0.m_orders_times
abbrev b_orders_times : M SR := EV0.b_orders_times
abbrev m_part_of_box : Fn := EV0.m_part_of_box
abbrev b_part_of_box : M SR := EV0.b_part_of_box
def b_part_below : M SR := (seq (sExpr (eCallS 2 m_check_tuple (aCons (eVar 0) (aCons (eC con_MOST_DRAWS) aNil))))
      (seq (sExpr (eCallS 2 m_check_each (aCons (eVar 0) (aCons (eFn "is_unlike_nought") aNil))))
      (seq (sIf (cNot (opTruth (eCallS 1 m_is_fraction (aCons (eVar 1) aNil)))) (sRaise "InvalidFraction" "given" (aCons (eVar 1) aNil)) sNext)
      (sRet (eCallS 2 m_part_of_box (aCons (eVar 0) (aCons (eVar 1) aNil)))))))
def m_part_below : Fn := fnOf 2 b_part_below
def b_check_rows : M SR := (seq (sExpr (eCallS 2 m_check_tuple (aCons (eVar 0) (aCons (eC con_MOST_ROWS) aNil))))
      (sExpr (eCallS 2 m_check_each (aCons (eVar 0) (aCons (eFn "is_condition") aNil)))))
def m_check_rows : Fn := fnOf 1 b_check_rows
abbrev m_turn_at : Fn := EV0.m_turn_at
abbrev b_turn_at : M SR := EV0.b_turn_at
abbrev m_turning_points : Fn := EV0.m_turning_points
abbrev b_turning_points : M SR := EV0.b_turning_points
abbrev m_excess_at : Fn := EV0.m_excess_at
abbrev b_excess_at : M SR := EV0.b_excess_at
abbrev m_between : Fn := EV0.m_between
abbrev b_between : M SR := EV0.b_between
abbrev m_crossing : Fn := EV0.m_crossing
abbrev b_crossing : M SR := EV0.b_crossing
abbrev m_clipped : Fn := EV0.m_clipped
abbrev b_clipped : M SR := EV0.b_clipped
abbrev m_unlike_points : Fn := EV0.m_unlike_points
abbrev b_unlike_points : M SR := EV0.b_unlike_points
abbrev m_is_above : Fn := EV0.m_is_above
abbrev b_is_above : M SR := EV0.b_is_above
abbrev m_is_less_point : Fn := EV0.m_is_less_point
abbrev b_is_less_point : M SR := EV0.b_is_less_point
abbrev m_least_first : Fn := EV0.m_least_first
abbrev b_least_first : M SR := EV0.b_least_first
abbrev m_polygon_by : Fn := EV0.m_polygon_by
abbrev b_polygon_by : M SR := EV0.b_polygon_by
abbrev m_area_by : Fn := EV0.m_area_by
abbrev b_area_by : M SR := EV0.b_area_by
def b_area : M SR := (seq (sExpr (eCallS 1 m_check_rows (aCons (eVar 0) aNil)))
      (sRet (eCallS 1 m_area_by (aCons (eVar 0) aNil))))
def m_area : Fn := fnOf 1 b_area
def b_polygon : M SR := (seq (sExpr (eCallS 1 m_check_rows (aCons (eVar 0) aNil)))
      (sRet (eCallS 1 m_polygon_by (aCons (eVar 0) aNil))))
def m_polygon : Fn := fnOf 1 b_polygon
def tb__law_heard_1 : M SR := (sIf (cAnd (opCmp eqD (eVar 0) (eC (.int 0))) (opTruth (eVar 2))) (sExpr (eCallK 2 m_part_below 0 2 [1, 0] aNil (aCons (opLk ixD (eVar 1) (eC (.int 1))) (aCons (opLk ixD (eVar 1) (eC (.int 0))) aNil)))) (sIf (opCmp eqD (eVar 0) (eC (.int 0))) (sExpr (eCallS 2 m_part_below (aCons (opLk ixD (eVar 1) (eC (.int 0))) (aCons (opLk ixD (eVar 1) (eC (.int 1))) aNil)))) (sIf (opTruth (eVar 2)) (sExpr (eIf (opCmp eqD (eVar 0) (eC (.int 1))) (eCallK 1 m_area 0 1 [0] aNil (aCons (opLk ixD (eVar 1) (eC (.int 0))) aNil)) (eCallK 1 m_polygon 0 1 [0] aNil (aCons (opLk ixD (eVar 1) (eC (.int 0))) aNil)))) (sExpr (eIf (opCmp eqD (eVar 0) (eC (.int 1))) (eCallS 1 m_area (aCons (opLk ixD (eVar 1) (eC (.int 0))) aNil)) (eCallS 1 m_polygon (aCons (opLk ixD (eVar 1) (eC (.int 0))) aNil)))))))
def hb__law_heard_1 : M SR := (seq (sAsg 4 (eIf (opTruth (eIsE [("InvalidFraction", false), ("InvalidRow", true)] (eVar 3))) (eLst (aCons (eLst (aCons (eC (.str "row")) (aCons (eXf ["InvalidRow"] "index" (eVar 3)) aNil))) aNil)) (eLst aNil)))
      (seq (sAsg 4 (opBin addD (eVar 4) (eIf (opTruth (eIsE [("InvalidFraction", true), ("InvalidRow", false)] (eVar 3))) (eLst (aCons (eLst (aCons (eC (.str "fraction")) (aCons (eXf ["InvalidFraction"] "given" (eVar 3)) aNil))) aNil)) (eLst aNil))))
      (sRet (eIf (cAnd (opCmp eqD (op1 lenD (eVar 4)) (eC (.int 1))) (opTruth (eIsE [("InvalidFraction", true), ("InvalidRow", true)] (eVar 3)))) (opLk ixD (eVar 4) (eC (.int 0))) (eLst (aCons (eC (.str "another")) (aCons (eVar 4) aNil)))))))
def b__law_heard : M SR := (seq (sTry [⟨[("InvalidFraction", true), ("InvalidRow", true)], some 3, hb__law_heard_1⟩] tb__law_heard_1)
      (sRet (eLst (aCons (eC (.str "told")) (aCons (eC .none) aNil)))))
def m__law_heard : Fn := fnOf 5 b__law_heard
abbrev m__law_f : Fn := EV0.m__law_f
abbrev b__law_f : M SR := EV0.b__law_f
def b__law_some : M SR := (sRet (eCallS 2 m__law_f (aCons (opBin subD (eCallS 2 m__law_draw (aCons (eVar 0) (aCons (eC (.int 13)) aNil))) (eC (.int 4))) (aCons (opBin addD (eC (.int 1)) (eCallS 2 m__law_draw (aCons (eVar 0) (aCons (eC (.int 4)) aNil)))) aNil))))
def m__law_some : Fn := fnOf 1 b__law_some
def el__law_right_1 : M W := (eCallS 1 m__law_some (aCons (eVar 0) aNil))
def el__law_right_2 : M W := (eVar 10)
def el__law_right_3 : M W := (eTup (aCons (eCallS 1 m__law_some (aCons (eVar 0) aNil)) (aCons (eCallS 1 m__law_some (aCons (eVar 0) aNil)) (aCons (eCallS 1 m__law_some (aCons (eVar 0) aNil)) aNil))))
def el__law_right_4 : M W := (eLst (aCons (eVar 5) (aCons (eC .none) aNil)))
def el__law_right_5 : M W := (eLst (aCons (opBin addD (eVar 2) (eTup (aCons (eVar 5) aNil))) (aCons (op1 lenD (eVar 2)) aNil)))
def lp__law_right_1 : M SR := (seq (sAsg 7 (eCallS 2 m__law_pick (aCons (eVar 0) (aCons (eLst (aCons (eTup (aCons (eC (.int 1)) (aCons (eC (.int 2)) aNil))) (aCons (eC .none) (aCons (eC (.int 5)) aNil)))) aNil))))
      (sIf (opCmp neD (op1 reprD (eCallS 3 m__law_heard (aCons (eC (.int 0)) (aCons (eTup (aCons (eVar 5) (aCons (eVar 7) aNil))) (aCons (opCmpV eqD (eCallS 2 m__law_draw (aCons (eVar 0) (aCons (eC (.int 2)) aNil))) (eC (.int 0))) aNil))))) (op1 reprD (eLst (aCons (eC (.str "row")) (aCons (eVar 6) aNil))))) (sRet (eC (.bool false))) sNext))
def lp__law_right_2 : M SR := (sIf (opCmp neD (op1 reprD (eCallS 3 m__law_heard (aCons (eC (.int 0)) (aCons (eTup (aCons (eVar 2) (aCons (eVar 5) aNil))) (aCons (opCmpV eqD (eCallS 2 m__law_draw (aCons (eVar 0) (aCons (eC (.int 2)) aNil))) (eC (.int 0))) aNil))))) (op1 reprD (eLst (aCons (eC (.str "fraction")) (aCons (eVar 5) aNil))))) (sRet (eC (.bool false))) sNext)
def el__law_right_6 : M W := (eLst (aCons (eVar 5) (aCons (eC .none) aNil)))
def el__law_right_7 : M W := (eLst (aCons (opBin addD (eVar 8) (eTup (aCons (eVar 5) aNil))) (aCons (op1 lenD (eVar 8)) aNil)))
def el__law_right_8 : M W := (eCallS 3 m__law_heard (aCons (eVar 12) (aCons (eTup (aCons (eVar 5) aNil)) (aCons (opCmpV eqD (eCallS 2 m__law_draw (aCons (eVar 0) (aCons (eC (.int 2)) aNil))) (eC (.int 0))) aNil))))
def lp__law_right_3 : M SR := (sIf (opCmp neD (op1 reprD (eLc [12] (srcV (eTup (aCons (eC (.int 1)) (aCons (eC (.int 2)) aNil)))) (tName 12) cTrue el__law_right_8)) (op1 reprD (opBin mulD (eLst (aCons (eLst (aCons (eC (.str "row")) (aCons (eVar 6) aNil))) aNil)) (eC (.int 2))))) (sRet (eC (.bool false))) sNext)
def lp__law_right_4 : M SR := (seq (sAsg 2 (op1 tupleD (eLc [10] (srcV (eLc [11] (srcA rangeW (aCons (eCallS 2 m__law_draw (aCons (eVar 0) (aCons (eC (.int 6)) aNil))) aNil)) (tName 11) cTrue el__law_right_1)) (tName 10) (opCmp neD (opLk ixD (eVar 10) (eC (.int 0))) (eC (.int 0))) el__law_right_2)))
      (seq (sAsg 3 (op1 tupleD (eLc [11] (srcA rangeW (aCons (eCallS 2 m__law_draw (aCons (eVar 0) (aCons (eC (.int 8)) aNil))) aNil)) (tName 11) cTrue el__law_right_3)))
      (seq (sAsg 4 (eLc [5] (srcV (eLst (aCons (eC .none) (aCons (eC (.int 5)) (aCons (eC (.str "row")) (aCons (op1 listD (eVar 2)) (aCons eDct0 (aCons (opBin mulD (eTup (aCons (eTup (aCons (eC (.int 1)) (aCons (eC (.int 1)) aNil))) aNil)) (eC (.int 7))) aNil)))))))) (tName 5) cTrue el__law_right_4))
      (seq (sAsg 4 (opBin addD (eVar 4) (eLc [5] (srcV (eLst (aCons (eTup (aCons (eC (.int 0)) (aCons (eC (.int 1)) aNil))) (aCons (eTup (aCons (eC (.int 2)) (aCons (eC (.int 4)) aNil))) (aCons (eTup (aCons (eC (.int 1)) (aCons (eC (.int 0)) aNil))) (aCons (eC (.int 1)) (aCons (eC .none) (aCons (eC (.bool true)) (aCons (eC (.str "1")) (aCons (eLst (aCons (eC (.int 1)) (aCons (eC (.int 2)) aNil))) (aCons (eTup (aCons (eC (.int 1)) (aCons (eC (.int 2)) (aCons (eC (.int 3)) aNil)))) (aCons (eTup (aCons (eC (.int 1)) (aCons (eC (.bool true)) aNil))) aNil)))))))))))) (tName 5) cTrue el__law_right_5)))
      (seq (sFor (srcV (eVar 4)) (tTupG 2 (tConsG (tName 5) (tConsG (tName 6) tNilG))) lp__law_right_1)
      (seq (sFor (srcV (eLst (aCons (eC .none) (aCons (eC (.int 1)) (aCons (eTup (aCons (eC (.int 2)) (aCons (eC (.int 4)) aNil))) (aCons (eTup (aCons (eC (.int 1)) (aCons (eC (.int 0)) aNil))) (aCons (eC (.str "1/2")) (aCons (eLst (aCons (eC (.int 1)) (aCons (eC (.int 2)) aNil))) (aCons (eTup (aCons (eC (.int 1)) (aCons (eC (.int 2)) (aCons (eC (.int 3)) aNil)))) (aCons (eC (.bool true)) aNil)))))))))) (tName 5) lp__law_right_2)
      (seq (sAsg 8 (eSl (eVar 3) pNone (pSome (eC (.int 7)))))
      (seq (sAsg 9 (eLc [5] (srcV (eLst (aCons (eC .none) (aCons (eC (.int 5)) (aCons (eC (.str "rows")) (aCons (op1 listD (eVar 3)) (aCons eDct0 (aCons (opBin mulD (eTup (aCons (opBin mulD (eTup (aCons (eTup (aCons (eC (.int 1)) (aCons (eC (.int 1)) aNil))) aNil)) (eC (.int 3))) aNil)) (eC (.int 9))) aNil)))))))) (tName 5) cTrue el__law_right_6))
      (seq (sAsg 9 (opBin addD (eVar 9) (eLc [5] (srcV (eLst (aCons (eC .none) (aCons (eTup aNil) (aCons (eTup (aCons (eTup (aCons (eC (.int 1)) (aCons (eC (.int 1)) aNil))) (aCons (eTup (aCons (eC (.int 1)) (aCons (eC (.int 1)) aNil))) aNil))) (aCons (opBin mulD (eTup (aCons (eTup (aCons (eC (.int 1)) (aCons (eC (.int 1)) aNil))) aNil)) (eC (.int 4))) (aCons (opBin mulD (eLst (aCons (eTup (aCons (eC (.int 1)) (aCons (eC (.int 1)) aNil))) aNil)) (eC (.int 3))) (aCons (eTup (aCons (eTup (aCons (eC (.int 1)) (aCons (eC (.int 1)) aNil))) (aCons (eTup (aCons (eC (.int 1)) (aCons (eC (.int 1)) aNil))) (aCons (eC (.int 1)) aNil)))) (aCons (eTup (aCons (eTup (aCons (eC (.int 2)) (aCons (eC (.int 4)) aNil))) (aCons (eTup (aCons (eC (.int 1)) (aCons (eC (.int 1)) aNil))) (aCons (eTup (aCons (eC (.int 1)) (aCons (eC (.int 1)) aNil))) aNil)))) (aCons (eTup (aCons (eTup (aCons (eC (.int 1)) (aCons (eC (.int 1)) aNil))) (aCons (eC .none) (aCons (eTup (aCons (eC (.int 1)) (aCons (eC (.int 1)) aNil))) aNil)))) (aCons (eC (.int 7)) aNil))))))))))) (tName 5) cTrue el__law_right_7)))
      (seq (sFor (srcV (eVar 9)) (tTupG 2 (tConsG (tName 5) (tConsG (tName 6) tNilG))) lp__law_right_3)
      (sIf (opCmp neD (eLst (aCons (eCallS 3 m__law_heard (aCons (eC (.int 0)) (aCons (eTup (aCons (eVar 2) (aCons (eTup (aCons (eC (.int 1)) (aCons (eC (.int 2)) aNil))) aNil))) (aCons (eC (.bool true)) aNil)))) (aCons (eCallS 3 m__law_heard (aCons (eC (.int 0)) (aCons (eTup (aCons (eVar 2) (aCons (eTup (aCons (opBin subD (eC (.int 0)) (eC (.int 9))) (aCons (eC (.int 2)) aNil))) aNil))) (aCons (eC (.bool false)) aNil)))) (aCons (eCallS 3 m__law_heard (aCons (eC (.int 1)) (aCons (eTup (aCons (eVar 3) aNil)) (aCons (eC (.bool false)) aNil)))) (aCons (eCallS 3 m__law_heard (aCons (eC (.int 2)) (aCons (eTup (aCons (eVar 3) aNil)) (aCons (eC (.bool true)) aNil)))) aNil))))) (opBin mulD (eLst (aCons (eLst (aCons (eC (.str "told")) (aCons (eC .none) aNil))) aNil)) (eC (.int 4)))) (sRet (eC (.bool false))) sNext)))))))))))
def b__law_right : M SR := (seq (sFor (srcA rangeW (aCons (eC (.int 6)) aNil)) (tName 1) lp__law_right_4)
      (sRet (eAnd (opCmpV eqD (eCallS 3 m__law_heard (aCons (eC (.int 0)) (aCons (eTup (aCons (eTup aNil) (aCons (eTup (aCons (eC (.int 0)) (aCons (eC (.int 1)) aNil))) aNil))) (aCons (eC (.bool false)) aNil)))) (eLst (aCons (eC (.str "told")) (aCons (eC .none) aNil)))) (eAnd (opCmpV eqD (eCallS 3 m__law_heard (aCons (eC (.int 0)) (aCons (eTup (aCons (opBin mulD (eTup (aCons (eTup (aCons (eC (.int 1)) (aCons (eC (.int 1)) aNil))) aNil)) (eC (.int 6))) (aCons (eTup (aCons (eC (.int 3)) (aCons (eC (.int 1)) aNil))) aNil))) (aCons (eC (.bool false)) aNil)))) (eLst (aCons (eC (.str "told")) (aCons (eC .none) aNil)))) (opCmpV eqD (eCallS 3 m__law_heard (aCons (eC (.int 1)) (aCons (eTup (aCons (opBin mulD (eTup (aCons (opBin mulD (eTup (aCons (eTup (aCons (eC (.int 0)) (aCons (eC (.int 1)) aNil))) aNil)) (eC (.int 3))) aNil)) (eC (.int 8))) aNil)) (aCons (eC (.bool true)) aNil)))) (eLst (aCons (eC (.str "told")) (aCons (eC .none) aNil))))))))
def m__law_right : Fn := fnOf 13 b__law_right
def lp__law_pool_1 : M SR := (sAsg 3 (opBin modD (op1 intD (opBin addD (opBin addD (opBin mulD (eVar 3) (eC (.int 48271))) (opBin modD (op1 intD (eVar 4)) (eC (.int 2147483497)))) (eC (.int 709)))) (eC (.int 2147483497))))
def b__law_pool : M SR := (seq (sPar [2, 3] (hCons (eIf (opCmp ltD (eVar 1) (op1 lenD (eVar 0))) (op1 intD (opLk ixD (eVar 0) (eVar 1))) (opBin addD (opBin mulD (eC (.int 70001)) (eVar 1)) (eC (.int 5580)))) (hCons (opBin addD (eC (.int 1182783)) (opBin mulD (eC (.int 5087)) (eVar 1))) aNil)))
      (seq (sFor (srcV (eSl (eVar 0) pNone (pSome (eC (.int 63))))) (tName 4) lp__law_pool_1)
      (sRet (eNew (aCons (opBin modD (op1 intD (opBin addD (eVar 3) (opBin mulD (eVar 2) (eC (.int 1013))))) (eC (.int 2147483497))) (aCons (eIf (cOr (opCmp ltD (eVar 2) (eC (.int 0))) (opCmp geD (eVar 2) (opBin powD (eC (.int 10)) (eC (.int 18))))) (op1 absD (eVar 2)) (eC (.int 0))) (aCons (eC (.int 0)) aNil)))))))
def m__law_pool : Fn := fnOf 5 b__law_pool
def lp_law_1 : M SR := (sIf (cNot (opTruth (eCallS 1 m__law_right (aCons (eCallS 2 m__law_pool (aCons (eVar 0) (aCons (eVar 1) aNil))) aNil)))) (sRet (eC (.bool false))) sNext)
def b_law : M SR := (seq (sFor (srcA rangeW (aCons (opLk max2D (eC (.int 2)) (opLk min2D (op1 lenD (eVar 0)) (eC (.int 3)))) aNil)) (tName 1) lp_law_1)
      (sRet (eC (.bool true))))
def m_law : Fn := fnOf 2 b_law
end K60
namespace K60
open PySem PySem.Spec PyProof.Rows L2 Z
open EV0 (pb Rw6 lnD)
open SC (Ln LnOk)
variable {st : Store}
def xRow (d : D) : Exc := ⟨"InvalidRow", some ("index", d)⟩
def xFra (d : D) : Exc := ⟨"InvalidFraction", some ("given", d)⟩
theorem t1 {d : D} : List.lookup (xRow d).name [("InvalidFraction", true), ("InvalidRow", true)] = some true := by
  show List.lookup ("InvalidRow" : Str) _ = _
  decide +kernel
theorem t2 {d : D} : List.lookup (xRow d).name [("InvalidFraction", false), ("InvalidRow", true)] = some true := by
  show List.lookup ("InvalidRow" : Str) _ = _
  decide +kernel
theorem t3 {d : D} : List.lookup (xRow d).name [("InvalidFraction", true), ("InvalidRow", false)] = some false := by
  show List.lookup ("InvalidRow" : Str) _ = _
  decide +kernel
theorem t4 {d : D} : xfO ["InvalidRow"] "index" (xRow d) = some (.val d) := by
  unfold xfO
  rw [if_pos (by show ("InvalidRow" : Str) ∈ (["InvalidRow"] : List Str); exact List.mem_cons_self ..)]
  show (if ("index" : Str) = "index" then some (W.val d) else none) = _
  rw [if_pos rfl]
theorem u1 {d : D} : List.lookup (xFra d).name [("InvalidFraction", true), ("InvalidRow", true)] = some true := by
  show List.lookup ("InvalidFraction" : Str) _ = _
  decide +kernel
theorem u2 {d : D} : List.lookup (xFra d).name [("InvalidFraction", false), ("InvalidRow", true)] = some false := by
  show List.lookup ("InvalidFraction" : Str) _ = _
  decide +kernel
theorem u3 {d : D} : List.lookup (xFra d).name [("InvalidFraction", true), ("InvalidRow", false)] = some true := by
  show List.lookup ("InvalidFraction" : Str) _ = _
  decide +kernel
theorem u4 {d : D} : xfO ["InvalidFraction"] "given" (xFra d) = some (.val d) := by
  unfold xfO
  rw [if_pos (by show ("InvalidFraction" : Str) ∈ (["InvalidFraction"] : List Str); exact List.mem_cons_self ..)]
  show (if ("given" : Str) = "given" then some (W.val d) else none) = _
  rw [if_pos rfl]
/-- the suite, an error of the one class or of the other -/
theorem hb_row {v0 v1 v2 : Option W} {d : D} : hb__law_heard_1 ⟨[v0, v1, v2, some (.exc (xRow d)), none], st⟩ = .ok (.ret (.val (.list [.str "row", d]))) ⟨[v0, v1, v2, some (.exc (xRow d)), some (.own [.list [.str "row", d]])], st⟩ := by
  have hsz := sizeLine_big
  have h1 : 1 ≤ sizeLine := by omega
  have h2 : 2 ≤ sizeLine := by omega
  have h0 : 0 ≤ sizeLine := by omega
  simp [hb__law_heard_1, t1, t2, t3, t4, h0, h1, h2]
theorem hb_fra {v0 v1 v2 : Option W} {d : D} : hb__law_heard_1 ⟨[v0, v1, v2, some (.exc (xFra d)), none], st⟩ = .ok (.ret (.val (.list [.str "fraction", d]))) ⟨[v0, v1, v2, some (.exc (xFra d)), some (.own [.list [.str "fraction", d]])], st⟩ := by
  have hsz := sizeLine_big
  have h1 : 1 ≤ sizeLine := by omega
  have h2 : 2 ≤ sizeLine := by omega
  have h0 : 0 ≤ sizeLine := by omega
  simp [hb__law_heard_1, u1, u2, u3, u4, h0, h1, h2]
theorem told_of : (PyData.list [.str "told", .none]) = .list [.str "told", .none] := rfl
/-- what is heard of part_below -/
theorem heard_row {x b d : D} {n : Bool} (h : m_part_below [.val x, .val b] st = .err (xRow d) st) : m__law_heard [.val (.int 0), .val (.tuple [x, b]), .val (.bool n)] st = .ok (.val (.list [.str "row", d])) st := by
  have hb := hb_row (v0 := some (.val (.int 0))) (v1 := some (.val (.tuple [x, b]))) (v2 := some (.val (.bool n))) (d := d) (st := st)
  have pw : ∀ a b : W, permW [1, 0] [a, b] = [b, a] := fun _ _ => rfl
  have i0 : ixD (.tuple [x, b]) (.int 0) = some (.val x) := rfl
  have i1 : ixD (.tuple [x, b]) (.int 1) = some (.val b) := rfl
  cases n <;> simp [m__law_heard, b__law_heard, fnOf_app, tb__law_heard_1, i0, i1, h, pw, t1, hb]
theorem heard_fra {x b d : D} {n : Bool} (h : m_part_below [.val x, .val b] st = .err (xFra d) st) : m__law_heard [.val (.int 0), .val (.tuple [x, b]), .val (.bool n)] st = .ok (.val (.list [.str "fraction", d])) st := by
  have hb := hb_fra (v0 := some (.val (.int 0))) (v1 := some (.val (.tuple [x, b]))) (v2 := some (.val (.bool n))) (d := d) (st := st)
  have pw : ∀ a b : W, permW [1, 0] [a, b] = [b, a] := fun _ _ => rfl
  have i0 : ixD (.tuple [x, b]) (.int 0) = some (.val x) := rfl
  have i1 : ixD (.tuple [x, b]) (.int 1) = some (.val b) := rfl
  cases n <;> simp [m__law_heard, b__law_heard, fnOf_app, tb__law_heard_1, i0, i1, h, pw, u1, hb]
theorem heard_told {x b : D} {n : Bool} {w : W} (h : m_part_below [.val x, .val b] st = .ok w st) : m__law_heard [.val (.int 0), .val (.tuple [x, b]), .val (.bool n)] st = .ok (.own [.str "told", .none]) st := by
  have hsz := sizeLine_big
  have h2 : 2 ≤ sizeLine := by omega
  have pw : ∀ a b : W, permW [1, 0] [a, b] = [b, a] := fun _ _ => rfl
  have i0 : ixD (.tuple [x, b]) (.int 0) = some (.val x) := rfl
  have i1 : ixD (.tuple [x, b]) (.int 1) = some (.val b) := rfl
  cases n <;> simp [m__law_heard, b__law_heard, fnOf_app, tb__law_heard_1, i0, i1, h, pw, h2]
/-- of area and polygon -/
theorem heard_rows {x d : D} {n : Bool} {way : Int} (hw : way = 1 ∨ way = 2) (h : m_check_rows [.val x] st = .err (xRow d) st) : m__law_heard [.val (.int way), .val (.tuple [x]), .val (.bool n)] st = .ok (.val (.list [.str "row", d])) st := by
  have hb := hb_row (v0 := some (.val (.int way))) (v1 := some (.val (.tuple [x]))) (v2 := some (.val (.bool n))) (d := d) (st := st)
  have pw : ∀ a : W, permW [0] [a] = [a] := fun _ => rfl
  have i0 : ixD (.tuple [x]) (.int 0) = some (.val x) := rfl
  have ha : m_area [.val x] st = .err (xRow d) st := by simp [m_area, b_area, fnOf_app, h]
  have hp : m_polygon [.val x] st = .err (xRow d) st := by simp [m_polygon, b_polygon, fnOf_app, h]
  rcases hw with rfl | rfl <;> cases n <;> simp [m__law_heard, b__law_heard, fnOf_app, tb__law_heard_1, i0, ha, hp, pw, t1, hb]
theorem heard_rows_told {x : D} {n : Bool} {way : Int} {w1 w2 : W} (hw : way = 1 ∨ way = 2) (ha : m_area [.val x] st = .ok w1 st) (hp : m_polygon [.val x] st = .ok w2 st) : m__law_heard [.val (.int way), .val (.tuple [x]), .val (.bool n)] st = .ok (.own [.str "told", .none]) st := by
  have hsz := sizeLine_big
  have h2 : 2 ≤ sizeLine := by omega
  have pw : ∀ a : W, permW [0] [a] = [a] := fun _ => rfl
  have i0 : ixD (.tuple [x]) (.int 0) = some (.val x) := rfl
  rcases hw with rfl | rfl <;> cases n <;> simp [m__law_heard, b__law_heard, fnOf_app, tb__law_heard_1, i0, ha, hp, pw, h2]
end K60
namespace Z
open PySem PySem.Spec PyProof.Rows L2
theorem loopF_err {g : D → M Unit} {b : M SR} {d : D} {ds : List D} {s s' : S} {x : Exc} (h : (g d >>= fun _ => b) s = .err x s') : loopF g b (d :: ds) s = .err x s' := by
  show (g d >>= _) s = _
  rw [bind_app] at h ⊢
  cases q : g d s with
  | fail => rw [q] at h; exact h
  | err y s1 => rw [q] at h; exact h
  | ok u s1 =>
    rw [q] at h
    have h' : b s1 = .err x s' := h
    show (b >>= _) s1 = _
    rw [bind_app, h']
    rfl
end Z
namespace K60
open PySem PySem.Spec PyProof.Rows L2 Z
open EV0 (pb Rw6 lnD)
open SC (Ln LnOk)
variable {st : Store}
abbrev tabL : List (Str × Fn) := [("is_unlike_nought", m_is_unlike_nought), ("is_condition", m_is_condition)]
theorem each_ok {v0 : Option W} {g : Str} {f : Fn} (hf : List.lookup g tabL = some f) : ∀ (xs zs : List PyData) (k : Nat) (e2 e3 : Option W), (∀ x ∈ xs, f [.val x] st = .ok (.val (.bool true)) st) →
    ∃ f2 f3, loopF (tTupG 2 (tConsG (tName 2) (tConsG (tName 3) tNilG))) lp_check_each_1 ((idx k (xs ++ zs)).map fun q => .tuple [.int (q.1 : Int), q.2]) ⟨[v0, some (.fn g), e2, e3], st⟩ = loopF (tTupG 2 (tConsG (tName 2) (tConsG (tName 3) tNilG))) lp_check_each_1 ((idx (k + xs.length) zs).map fun q => .tuple [.int (q.1 : Int), q.2]) ⟨[v0, some (.fn g), f2, f3], st⟩
  | [], zs, k, e2, e3, _ => ⟨e2, e3, rfl⟩
  | x :: xs, zs, k, e2, e3, h => by
    have h1 := h x (List.mem_cons_self ..)
    have step : (tTupG 2 (tConsG (tName 2) (tConsG (tName 3) tNilG)) (.tuple [.int (k : Int), x]) >>= fun _ => lp_check_each_1) ⟨[v0, some (.fn g), e2, e3], st⟩ = .ok .next ⟨[v0, some (.fn g), some (.val (.int (k : Int))), some (.val x)], st⟩ := by
      have c := EV0.eCallV_at (n := 1) (i := 1) (ma := aCons (eVar 3) aNil) (env := [v0, some (.fn g), some (.val (.int (k : Int))), some (.val x)]) (st := st) rfl hf
      simp [lp_check_each_1, c, h1]
    obtain ⟨f2, f3, ih⟩ := each_ok hf xs zs (k + 1) (some (.val (.int (k : Int)))) (some (.val x)) fun y hy => h y (List.mem_cons_of_mem _ hy)
    refine ⟨f2, f3, ?_⟩
    show loopF _ _ (PyData.tuple [.int (k : Int), x] :: (idx (k + 1) (xs ++ zs)).map fun q => .tuple [.int (q.1 : Int), q.2]) _ = _
    rw [loopF_step step, ih]
    have : k + 1 + xs.length = k + (x :: xs).length := by rw [List.length_cons]; omega
    rw [this]
theorem s_check_each {g : Str} {f : Fn} (hf : List.lookup g tabL = some f) {xs : List PyData} (h : ∀ x ∈ xs, f [.val x] st = .ok (.val (.bool true)) st) : m_check_each [.val (.tuple xs), .fn g] st = .ok (.val .none) st := by
  obtain ⟨f2, f3, q⟩ := each_ok (v0 := some (.val (.tuple xs))) hf xs [] 0 none none h
  rw [List.append_nil] at q
  simp [m_check_each, b_check_each, fnOf_app, EV0.enum_tup]
  rw [q]
  simp [idx, loopF_nil]
theorem s_check_each_err {g : Str} {f : Fn} (hf : List.lookup g tabL = some f) {xs : List PyData} {y : PyData} (h : ∀ x ∈ xs, f [.val x] st = .ok (.val (.bool true)) st) (hy : f [.val y] st = .ok (.val (.bool false)) st) : m_check_each [.val (.tuple (xs ++ [y])), .fn g] st = .err (xRow (.int xs.length)) st := by
  obtain ⟨f2, f3, q⟩ := each_ok (v0 := some (.val (.tuple (xs ++ [y])))) hf xs [y] 0 none none h
  have step : (tTupG 2 (tConsG (tName 2) (tConsG (tName 3) tNilG)) (.tuple [.int ((0 + xs.length : Nat) : Int), y]) >>= fun _ => lp_check_each_1) ⟨[some (.val (.tuple (xs ++ [y]))), some (.fn g), f2, f3], st⟩ = .err (xRow (.int xs.length)) ⟨[some (.val (.tuple (xs ++ [y]))), some (.fn g), some (.val (.int xs.length)), some (.val y)], st⟩ := by
    rw [Nat.zero_add]
    have c := EV0.eCallV_at (n := 1) (i := 1) (ma := aCons (eVar 3) aNil) (env := [some (.val (.tuple (xs ++ [y]))), some (.fn g), some (.val (.int (xs.length : Int))), some (.val y)]) (st := st) rfl hf
    generalize xs ++ [y] = ZZ at *
    simp [lp_check_each_1, c, hy]
    rfl
  have q2 : loopF (tTupG 2 (tConsG (tName 2) (tConsG (tName 3) tNilG))) lp_check_each_1 ((idx 0 (xs ++ [y])).map fun q => .tuple [.int (q.1 : Int), q.2]) ⟨[some (.val (.tuple (xs ++ [y]))), some (.fn g), none, none], st⟩ = _ := q.trans (loopF_err step)
  have en := EV0.enum_tup (xs ++ [y])
  generalize xs ++ [y] = ZZ at *
  simp [m_check_each, b_check_each, fnOf_app, en]
  rw [q2]
  simp
theorem s_check_tuple {xs : List PyData} {n : Nat} (h : xs.length ≤ n) : m_check_tuple [.val (.tuple xs), .val (.int n)] st = .ok (.val .none) st := by
  have : ¬ n < xs.length := by omega
  simp [m_check_tuple, b_check_tuple, fnOf_app, this]
/-- what no tuple is, or too long a one -/
def NoTup (n : Nat) (d : D) : Prop := isi1 "tuple" d = some (.val (.bool false)) ∨ ∃ xs, d = .tuple xs ∧ n < xs.length
theorem s_check_tuple_err {d : D} {n : Nat} (h : NoTup n d) : m_check_tuple [.val d, .val (.int n)] st = .err (xRow .none) st := by
  rcases h with h | ⟨xs, rfl, h⟩
  · simp [m_check_tuple, b_check_tuple, fnOf_app, h]
    rfl
  · simp [m_check_tuple, b_check_tuple, fnOf_app, h]
    rfl
/-! ### part_below -/
theorem pb_err1 {x b : D} (h : NoTup 6 x) : m_part_below [.val x, .val b] st = .err (xRow .none) st := by
  have e1 := s_check_tuple_err (st := st) h
  have e0 : ((6 : Nat) : Int) = 6 := rfl
  rw [e0] at e1
  simp [m_part_below, b_part_below, fnOf_app, con_MOST_DRAWS, e1]
theorem good_each {ws : List Rat} (nz : ∀ w ∈ ws, w ≠ 0) : ∀ x ∈ ws.map frac, m_is_unlike_nought [.val x] st = .ok (.val (.bool true)) st := fun x hx => by
  obtain ⟨q, hq, rfl⟩ := List.mem_map.mp hx
  exact EV0.s_is_unlike_nought (nz q hq)
theorem pb_err2 {ws : List Rat} {y b : D} (nz : ∀ w ∈ ws, w ≠ 0) (hl : ws.length ≤ 5) (hy : m_is_unlike_nought [.val y] st = .ok (.val (.bool false)) st) : m_part_below [.val (.tuple (ws.map frac ++ [y])), .val b] st = .err (xRow (.int ws.length)) st := by
  have e1 := s_check_tuple (xs := ws.map frac ++ [y]) (n := 6) (by simp; omega) (st := st)
  have e2 := s_check_each_err (g := "is_unlike_nought") (f := m_is_unlike_nought) rfl (good_each (st := st) nz) hy
  rw [List.length_map] at e2
  have e0 : ((6 : Nat) : Int) = 6 := rfl
  rw [e0] at e1
  generalize ws.map frac ++ [y] = ZZ at *
  simp [m_part_below, b_part_below, fnOf_app, con_MOST_DRAWS, e1, e2]
theorem pb_err3 {ws : List Rat} {b : D} (nz : ∀ w ∈ ws, w ≠ 0) (hl : ws.length ≤ 6) (hb : m_is_fraction [.val b] st = .ok (.val (.bool false)) st) : m_part_below [.val (.tuple (ws.map frac)), .val b] st = .err (xFra b) st := by
  have e1 := s_check_tuple (xs := ws.map frac) (n := 6) (by simp; omega) (st := st)
  have e2 := s_check_each (g := "is_unlike_nought") (f := m_is_unlike_nought) rfl (good_each (st := st) nz)
  have e0 : ((6 : Nat) : Int) = 6 := rfl
  rw [e0] at e1
  generalize ws.map frac = ZZ at *
  simp [m_part_below, b_part_below, fnOf_app, con_MOST_DRAWS, e1, e2, hb]
  rfl
theorem pb_ok {D' : Nat} {ws : List Rat} {t : Rat} (r : Rw6 D' ws) (nz : ∀ w ∈ ws, w ≠ 0) (ht : Fr D' 8192 t) : m_part_below [.val (.tuple (ws.map frac)), .val (frac t)] st = .ok (.val (frac (pb ws t))) st := by
  have e1 := s_check_tuple (xs := ws.map frac) (n := 6) (by simpa using r.len) (st := st)
  have e2 := s_check_each (g := "is_unlike_nought") (f := m_is_unlike_nought) rfl (good_each (st := st) nz)
  have e3 := EV0.s_part_of_box r nz ht (st := st)
  have e0 : ((6 : Nat) : Int) = 6 := rfl
  rw [e0] at e1
  generalize ws.map frac = ZZ at *
  simp [m_part_below, b_part_below, fnOf_app, con_MOST_DRAWS, e1, e2, e3]
end K60
namespace K60
open PySem PySem.Spec PyProof.Rows L2 Z
open EV0 (pb Rw6 lnD)
open SC (Ln LnOk)
variable {st : Store}
/-! ### the wrong things -/
def d11 : D := .tuple [.int 1, .int 1]
def badU : List D := [.tuple [.int 0, .int 1], .tuple [.int 2, .int 4], .tuple [.int 1, .int 0], .int 1, .none, .bool true, .str "1", .list [.int 1, .int 2], .tuple [.int 1, .int 2, .int 3], .tuple [.int 1, .bool true]]
theorem badU_no : ∀ d ∈ badU, m_is_unlike_nought [.val d] st = .ok (.val (.bool false)) st := fun d hd => by
  simp only [badU, List.mem_cons, List.not_mem_nil, or_false] at hd
  rcases hd with rfl | rfl | rfl | rfl | rfl | rfl | rfl | rfl | rfl | rfl <;> kernel_rfl
def badF : List D := [.none, .int 1, .tuple [.int 2, .int 4], .tuple [.int 1, .int 0], .str "1/2", .list [.int 1, .int 2], .tuple [.int 1, .int 2, .int 3], .bool true]
theorem badF_no : ∀ d ∈ badF, m_is_fraction [.val d] st = .ok (.val (.bool false)) st := fun d hd => by
  simp only [badF, List.mem_cons, List.not_mem_nil, or_false] at hd
  rcases hd with rfl | rfl | rfl | rfl | rfl | rfl | rfl | rfl <;> kernel_rfl
theorem badF_show : ∀ d ∈ badF, okShow (.list [.str "fraction", d]) = true := fun d hd => by
  simp only [badF, List.mem_cons, List.not_mem_nil, or_false] at hd
  rcases hd with rfl | rfl | rfl | rfl | rfl | rfl | rfl | rfl <;> decide +kernel
def badC : List D := [.none, .tuple [], .tuple [d11, d11], .tuple [d11, d11, d11, d11], .list [d11, d11, d11], .tuple [d11, d11, .int 1], .tuple [.tuple [.int 2, .int 4], d11, d11], .tuple [d11, .none, d11], .int 7]
theorem badC_no : ∀ d ∈ badC, m_is_condition [.val d] st = .ok (.val (.bool false)) st := fun d hd => by
  simp only [badC, List.mem_cons, List.not_mem_nil, or_false] at hd
  rcases hd with rfl | rfl | rfl | rfl | rfl | rfl | rfl | rfl | rfl <;> kernel_rfl
theorem show_row : ∀ n : Nat, n ≤ 7 → okShow (.list [.str "row", .int n]) = true := fun n hn => by
  have : n = 0 ∨ n = 1 ∨ n = 2 ∨ n = 3 ∨ n = 4 ∨ n = 5 ∨ n = 6 ∨ n = 7 := by omega
  rcases this with rfl | rfl | rfl | rfl | rfl | rfl | rfl | rfl <;> decide +kernel
theorem show_none : okShow (.list [.str "row", .none]) = true := by decide +kernel
theorem show_rows : ∀ n : Nat, n ≤ 7 → okShow (.list [.list [.str "row", .int n], .list [.str "row", .int n]]) = true := fun n hn => by
  have : n = 0 ∨ n = 1 ∨ n = 2 ∨ n = 3 ∨ n = 4 ∨ n = 5 ∨ n = 6 ∨ n = 7 := by omega
  rcases this with rfl | rfl | rfl | rfl | rfl | rfl | rfl | rfl <;> decide +kernel
theorem show_rnone : okShow (.list [.list [.str "row", .none], .list [.str "row", .none]]) = true := by decide +kernel
/-! ### rows -/
theorem cond_ok {l : Ln} : m_is_condition [.val (lnD l)] st = .ok (.val (.bool true)) st := by
  obtain ⟨a, b, c⟩ := l
  have hsz := sizeLine_big
  let s : S := ⟨[some (.val (.tuple [frac a, frac b, frac c])), none], st⟩
  have k : compLoop [1] (tName 1) cTrue EV0.el_is_condition_1 [frac a, frac b, frac c] [] s = .ok ([] ++ [frac a, frac b, frac c].map fun _ => .bool true) s := by
    refine compLoop_map _ _ _ (by simp; omega) fun d hd => ?_
    have : d = frac a ∨ d = frac b ∨ d = frac c := by simpa using hd
    rcases this with rfl | rfl | rfl <;> simp [EV0.el_is_condition_1, s]
  have al := all_true [frac a, frac b, frac c]
  simp only [s] at k
  unfold lnD
  simp [EV0.m_is_condition, EV0.b_is_condition, fnOf_app, EV0.con_ROW_SIZE]
  rw [k]
  simp only [List.nil_append] at *
  simp [-List.map_cons, al]
theorem each_cond {ls : List Ln} : ∀ x ∈ ls.map lnD, m_is_condition [.val x] st = .ok (.val (.bool true)) st := fun x hx => by
  obtain ⟨l, _, rfl⟩ := List.mem_map.mp hx
  exact cond_ok
theorem cr_err1 {x : D} (h : NoTup 8 x) : m_check_rows [.val x] st = .err (xRow .none) st := by
  have e1 := s_check_tuple_err (st := st) h
  have e0 : ((8 : Nat) : Int) = 8 := rfl
  rw [e0] at e1
  simp [m_check_rows, b_check_rows, fnOf_app, con_MOST_ROWS, e1]
theorem cr_err2 {ls : List Ln} {y : D} (hl : ls.length ≤ 7) (hy : m_is_condition [.val y] st = .ok (.val (.bool false)) st) : m_check_rows [.val (.tuple (ls.map lnD ++ [y]))] st = .err (xRow (.int ls.length)) st := by
  have e1 := s_check_tuple (xs := ls.map lnD ++ [y]) (n := 8) (by simp; omega) (st := st)
  have e2 := s_check_each_err (g := "is_condition") (f := m_is_condition) rfl (each_cond (st := st) (ls := ls)) hy
  rw [List.length_map] at e2
  have e0 : ((8 : Nat) : Int) = 8 := rfl
  rw [e0] at e1
  generalize ls.map lnD ++ [y] = ZZ at *
  simp [m_check_rows, b_check_rows, fnOf_app, con_MOST_ROWS, e1, e2]
theorem cr_ok {ls : List Ln} (hl : ls.length ≤ 8) : m_check_rows [.val (.tuple (ls.map lnD))] st = .ok (.val .none) st := by
  have e1 := s_check_tuple (xs := ls.map lnD) (n := 8) (by simpa using hl) (st := st)
  have e2 := s_check_each (g := "is_condition") (f := m_is_condition) rfl (each_cond (st := st) (ls := ls))
  have e0 : ((8 : Nat) : Int) = 8 := rfl
  rw [e0] at e1
  generalize ls.map lnD = ZZ at *
  simp [m_check_rows, b_check_rows, fnOf_app, con_MOST_ROWS, e1, e2]
theorem rows_told {ls : List Ln} {n : Bool} {way : Int} (hw : way = 1 ∨ way = 2) (h : ∀ l ∈ ls, LnOk l) (hl : ls.length ≤ 7) : m__law_heard [.val (.int way), .val (.tuple [.tuple (ls.map lnD)]), .val (.bool n)] st = .ok (.own [.str "told", .none]) st := by
  obtain ⟨L, _, _, e1⟩ := EV0.s_polygon_by h hl (st := st)
  obtain ⟨q, e2⟩ := EV0.s_area_by h hl (st := st)
  have e3 := cr_ok (ls := ls) (by omega) (st := st)
  generalize ls.map lnD = ZZ at *
  have ha : m_area [.val (.tuple ZZ)] st = .ok (.val (frac q)) st := by simp [m_area, b_area, fnOf_app, e3, e2]
  have hp : m_polygon [.val (.tuple ZZ)] st = .ok (.val (.tuple (L.map EV0.pt2D))) st := by simp [m_polygon, b_polygon, fnOf_app, e3, e1]
  exact heard_rows_told hw ha hp
end K60
namespace K60
open PySem PySem.Spec PyProof.Rows L2 Z
open EV0 (pb Rw6 lnD)
open SC (Ln LnOk)
def lp__law_right_1_s1 : M SR := (sAsg 7 (eCallS 2 m__law_pick (aCons (eVar 0) (aCons (eLst (aCons (eTup (aCons (eC (.int 1)) (aCons (eC (.int 2)) aNil))) (aCons (eC .none) (aCons (eC (.int 5)) aNil)))) aNil))))
def lp__law_right_1_s2 : M SR := (sIf (opCmp neD (op1 reprD (eCallS 3 m__law_heard (aCons (eC (.int 0)) (aCons (eTup (aCons (eVar 5) (aCons (eVar 7) aNil))) (aCons (opCmpV eqD (eCallS 2 m__law_draw (aCons (eVar 0) (aCons (eC (.int 2)) aNil))) (eC (.int 0))) aNil))))) (op1 reprD (eLst (aCons (eC (.str "row")) (aCons (eVar 6) aNil))))) (sRet (eC (.bool false))) sNext)
theorem lp__law_right_1_eq : lp__law_right_1 = (seq lp__law_right_1_s1 lp__law_right_1_s2) := rfl
def lp__law_right_2_s1 : M SR := (sIf (opCmp neD (op1 reprD (eCallS 3 m__law_heard (aCons (eC (.int 0)) (aCons (eTup (aCons (eVar 2) (aCons (eVar 5) aNil))) (aCons (opCmpV eqD (eCallS 2 m__law_draw (aCons (eVar 0) (aCons (eC (.int 2)) aNil))) (eC (.int 0))) aNil))))) (op1 reprD (eLst (aCons (eC (.str "fraction")) (aCons (eVar 5) aNil))))) (sRet (eC (.bool false))) sNext)
theorem lp__law_right_2_eq : lp__law_right_2 = lp__law_right_2_s1 := rfl
def lp__law_right_3_s1 : M SR := (sIf (opCmp neD (op1 reprD (eLc [12] (srcV (eTup (aCons (eC (.int 1)) (aCons (eC (.int 2)) aNil)))) (tName 12) cTrue el__law_right_8)) (op1 reprD (opBin mulD (eLst (aCons (eLst (aCons (eC (.str "row")) (aCons (eVar 6) aNil))) aNil)) (eC (.int 2))))) (sRet (eC (.bool false))) sNext)
theorem lp__law_right_3_eq : lp__law_right_3 = lp__law_right_3_s1 := rfl
def lp__law_right_4_s1 : M SR := (sAsg 2 (op1 tupleD (eLc [10] (srcV (eLc [11] (srcA rangeW (aCons (eCallS 2 m__law_draw (aCons (eVar 0) (aCons (eC (.int 6)) aNil))) aNil)) (tName 11) cTrue el__law_right_1)) (tName 10) (opCmp neD (opLk ixD (eVar 10) (eC (.int 0))) (eC (.int 0))) el__law_right_2)))
def lp__law_right_4_s2 : M SR := (sAsg 3 (op1 tupleD (eLc [11] (srcA rangeW (aCons (eCallS 2 m__law_draw (aCons (eVar 0) (aCons (eC (.int 8)) aNil))) aNil)) (tName 11) cTrue el__law_right_3)))
def lp__law_right_4_s3 : M SR := (sAsg 4 (eLc [5] (srcV (eLst (aCons (eC .none) (aCons (eC (.int 5)) (aCons (eC (.str "row")) (aCons (op1 listD (eVar 2)) (aCons eDct0 (aCons (opBin mulD (eTup (aCons (eTup (aCons (eC (.int 1)) (aCons (eC (.int 1)) aNil))) aNil)) (eC (.int 7))) aNil)))))))) (tName 5) cTrue el__law_right_4))
def lp__law_right_4_s4 : M SR := (sAsg 4 (opBin addD (eVar 4) (eLc [5] (srcV (eLst (aCons (eTup (aCons (eC (.int 0)) (aCons (eC (.int 1)) aNil))) (aCons (eTup (aCons (eC (.int 2)) (aCons (eC (.int 4)) aNil))) (aCons (eTup (aCons (eC (.int 1)) (aCons (eC (.int 0)) aNil))) (aCons (eC (.int 1)) (aCons (eC .none) (aCons (eC (.bool true)) (aCons (eC (.str "1")) (aCons (eLst (aCons (eC (.int 1)) (aCons (eC (.int 2)) aNil))) (aCons (eTup (aCons (eC (.int 1)) (aCons (eC (.int 2)) (aCons (eC (.int 3)) aNil)))) (aCons (eTup (aCons (eC (.int 1)) (aCons (eC (.bool true)) aNil))) aNil)))))))))))) (tName 5) cTrue el__law_right_5)))
def lp__law_right_4_s5 : M SR := (sFor (srcV (eVar 4)) (tTupG 2 (tConsG (tName 5) (tConsG (tName 6) tNilG))) lp__law_right_1)
def lp__law_right_4_s6 : M SR := (sFor (srcV (eLst (aCons (eC .none) (aCons (eC (.int 1)) (aCons (eTup (aCons (eC (.int 2)) (aCons (eC (.int 4)) aNil))) (aCons (eTup (aCons (eC (.int 1)) (aCons (eC (.int 0)) aNil))) (aCons (eC (.str "1/2")) (aCons (eLst (aCons (eC (.int 1)) (aCons (eC (.int 2)) aNil))) (aCons (eTup (aCons (eC (.int 1)) (aCons (eC (.int 2)) (aCons (eC (.int 3)) aNil)))) (aCons (eC (.bool true)) aNil)))))))))) (tName 5) lp__law_right_2)
def lp__law_right_4_s7 : M SR := (sAsg 8 (eSl (eVar 3) pNone (pSome (eC (.int 7)))))
def lp__law_right_4_s8 : M SR := (sAsg 9 (eLc [5] (srcV (eLst (aCons (eC .none) (aCons (eC (.int 5)) (aCons (eC (.str "rows")) (aCons (op1 listD (eVar 3)) (aCons eDct0 (aCons (opBin mulD (eTup (aCons (opBin mulD (eTup (aCons (eTup (aCons (eC (.int 1)) (aCons (eC (.int 1)) aNil))) aNil)) (eC (.int 3))) aNil)) (eC (.int 9))) aNil)))))))) (tName 5) cTrue el__law_right_6))
def lp__law_right_4_s9 : M SR := (sAsg 9 (opBin addD (eVar 9) (eLc [5] (srcV (eLst (aCons (eC .none) (aCons (eTup aNil) (aCons (eTup (aCons (eTup (aCons (eC (.int 1)) (aCons (eC (.int 1)) aNil))) (aCons (eTup (aCons (eC (.int 1)) (aCons (eC (.int 1)) aNil))) aNil))) (aCons (opBin mulD (eTup (aCons (eTup (aCons (eC (.int 1)) (aCons (eC (.int 1)) aNil))) aNil)) (eC (.int 4))) (aCons (opBin mulD (eLst (aCons (eTup (aCons (eC (.int 1)) (aCons (eC (.int 1)) aNil))) aNil)) (eC (.int 3))) (aCons (eTup (aCons (eTup (aCons (eC (.int 1)) (aCons (eC (.int 1)) aNil))) (aCons (eTup (aCons (eC (.int 1)) (aCons (eC (.int 1)) aNil))) (aCons (eC (.int 1)) aNil)))) (aCons (eTup (aCons (eTup (aCons (eC (.int 2)) (aCons (eC (.int 4)) aNil))) (aCons (eTup (aCons (eC (.int 1)) (aCons (eC (.int 1)) aNil))) (aCons (eTup (aCons (eC (.int 1)) (aCons (eC (.int 1)) aNil))) aNil)))) (aCons (eTup (aCons (eTup (aCons (eC (.int 1)) (aCons (eC (.int 1)) aNil))) (aCons (eC .none) (aCons (eTup (aCons (eC (.int 1)) (aCons (eC (.int 1)) aNil))) aNil)))) (aCons (eC (.int 7)) aNil))))))))))) (tName 5) cTrue el__law_right_7)))
def lp__law_right_4_s10 : M SR := (sFor (srcV (eVar 9)) (tTupG 2 (tConsG (tName 5) (tConsG (tName 6) tNilG))) lp__law_right_3)
def lp__law_right_4_s11 : M SR := (sIf (opCmp neD (eLst (aCons (eCallS 3 m__law_heard (aCons (eC (.int 0)) (aCons (eTup (aCons (eVar 2) (aCons (eTup (aCons (eC (.int 1)) (aCons (eC (.int 2)) aNil))) aNil))) (aCons (eC (.bool true)) aNil)))) (aCons (eCallS 3 m__law_heard (aCons (eC (.int 0)) (aCons (eTup (aCons (eVar 2) (aCons (eTup (aCons (opBin subD (eC (.int 0)) (eC (.int 9))) (aCons (eC (.int 2)) aNil))) aNil))) (aCons (eC (.bool false)) aNil)))) (aCons (eCallS 3 m__law_heard (aCons (eC (.int 1)) (aCons (eTup (aCons (eVar 3) aNil)) (aCons (eC (.bool false)) aNil)))) (aCons (eCallS 3 m__law_heard (aCons (eC (.int 2)) (aCons (eTup (aCons (eVar 3) aNil)) (aCons (eC (.bool true)) aNil)))) aNil))))) (opBin mulD (eLst (aCons (eLst (aCons (eC (.str "told")) (aCons (eC .none) aNil))) aNil)) (eC (.int 4)))) (sRet (eC (.bool false))) sNext)
theorem lp__law_right_4_eq : lp__law_right_4 = (seq lp__law_right_4_s1 (seq lp__law_right_4_s2 (seq lp__law_right_4_s3 (seq lp__law_right_4_s4 (seq lp__law_right_4_s5 (seq lp__law_right_4_s6 (seq lp__law_right_4_s7 (seq lp__law_right_4_s8 (seq lp__law_right_4_s9 (seq lp__law_right_4_s10 lp__law_right_4_s11)))))))))) := rfl
def b__law_right_s1 : M SR := (sFor (srcA rangeW (aCons (eC (.int 6)) aNil)) (tName 1) lp__law_right_4)
def b__law_right_s2 : M SR := (sRet (eAnd (opCmpV eqD (eCallS 3 m__law_heard (aCons (eC (.int 0)) (aCons (eTup (aCons (eTup aNil) (aCons (eTup (aCons (eC (.int 0)) (aCons (eC (.int 1)) aNil))) aNil))) (aCons (eC (.bool false)) aNil)))) (eLst (aCons (eC (.str "told")) (aCons (eC .none) aNil)))) (eAnd (opCmpV eqD (eCallS 3 m__law_heard (aCons (eC (.int 0)) (aCons (eTup (aCons (opBin mulD (eTup (aCons (eTup (aCons (eC (.int 1)) (aCons (eC (.int 1)) aNil))) aNil)) (eC (.int 6))) (aCons (eTup (aCons (eC (.int 3)) (aCons (eC (.int 1)) aNil))) aNil))) (aCons (eC (.bool false)) aNil)))) (eLst (aCons (eC (.str "told")) (aCons (eC .none) aNil)))) (opCmpV eqD (eCallS 3 m__law_heard (aCons (eC (.int 1)) (aCons (eTup (aCons (opBin mulD (eTup (aCons (opBin mulD (eTup (aCons (eTup (aCons (eC (.int 0)) (aCons (eC (.int 1)) aNil))) aNil)) (eC (.int 3))) aNil)) (eC (.int 8))) aNil)) (aCons (eC (.bool true)) aNil)))) (eLst (aCons (eC (.str "told")) (aCons (eC .none) aNil)))))))
theorem b__law_right_eq : b__law_right = (seq b__law_right_s1 b__law_right_s2) := rfl
variable {st : Store}
theorem draw_is : m__law_draw = drawF 2147483497 := rfl
theorem s__law_draw {st : Store} {r k m : Nat} (h : Pool st r k) (hm : 1 ≤ m) (hm2 : m ≤ 1000) (hk : k ≤ 1000000) : ∃ (d : Nat) (st' : Store), m__law_draw [.ref r, .val (.int m)] st = .ok (.val (.int d)) st' ∧ d < m ∧ Pool st' r (k + 1) := by
  rw [draw_is]
  exact s_draw (by decide) (by decide) h hm hm2 hk
theorem s_pick3 {r k : Nat} {a b c : D} (h : Pool st r k) (hk : k ≤ 1000000) : ∃ (x : D) (st' : Store), m__law_pick [.ref r, .val (.list [a, b, c])] st = .ok (.val x) st' ∧ Pool st' r (k + 1) := by
  obtain ⟨d, st1, e1, h1, w1⟩ := s__law_draw h (m := 3) (by decide) (by decide) hk
  have e1' : m__law_draw [.ref r, .val (.int 3)] st = .ok (.val (.int d)) st1 := e1
  have y : d = 0 ∨ d = 1 ∨ d = 2 := by omega
  have i0 : ixD (.list [a, b, c]) (.int 0) = some (.val a) := rfl
  have i1 : ixD (.list [a, b, c]) (.int 1) = some (.val b) := rfl
  have i2 : ixD (.list [a, b, c]) (.int 2) = some (.val c) := rfl
  clear h1
  rcases y with rfl | rfl | rfl
  · exact ⟨a, st1, by simp [m__law_pick, b__law_pick, fnOf_app, e1', i0], w1⟩
  · exact ⟨b, st1, by simp [m__law_pick, b__law_pick, fnOf_app, e1', i1], w1⟩
  · exact ⟨c, st1, by simp [m__law_pick, b__law_pick, fnOf_app, e1', i2], w1⟩
/-- the slots of `_law_right` -/
def SL (r : Nat) (v1 v2 v3 v4 v5 v6 v7 v8 v9 : Option W) : List (Option W) := [some (.ref r), v1, v2, v3, v4, v5, v6, v7, v8, v9, none, none, none]
/-! ### the loops -/
def BadRow (d : D) : Prop := ∃ x idx, d = .list [x, idx] ∧ (∀ (b : D) (st : Store), m_part_below [.val x, .val b] st = .err (xRow idx) st) ∧ okShow (.list [.str "row", idx]) = true
theorem turn1 {r k : Nat} {d : D} {v1 v2 v3 v4 v5 v6 v7 v8 v9 : Option W} (hb : BadRow d) (hP : Pool st r k) (hk : k ≤ 900000) : ∃ f5 f6 f7 st', (tTupG 2 (tConsG (tName 5) (tConsG (tName 6) tNilG)) d >>= fun _ => lp__law_right_1) ⟨SL r v1 v2 v3 v4 v5 v6 v7 v8 v9, st⟩ = .ok .next ⟨SL r v1 v2 v3 v4 f5 f6 f7 v8 v9, st'⟩ ∧ Pool st' r (k + 2) := by
  have hsz := sizeLine_big
  have h2 : 2 ≤ sizeLine := by omega
  have h3 : 3 ≤ sizeLine := by omega
  have h1 : 1 ≤ sizeLine := by omega
  obtain ⟨x, idx, rfl, hx, hs⟩ := hb
  obtain ⟨b, st1, e1, w1⟩ := s_pick3 (a := .tuple [.int 1, .int 2]) (b := .none) (c := .int 5) hP (by omega)
  obtain ⟨n, st2, e2, hn, w2⟩ := s__law_draw w1 (m := 2) (by decide) (by decide) (by omega)
  have e2' : m__law_draw [.ref r, .val (.int 2)] st1 = .ok (.val (.int n)) st2 := e2
  have hh := heard_row (n := decide (n = 0)) (hx b st2)
  obtain ⟨r1, r2⟩ := show_same hs
  generalize (PyData.list [.str "row", idx]).shown = T at r1 r2
  refine ⟨some (.val x), some (.val idx), some (.val b), st2, ?_, w2⟩
  unfold SL
  simp [lp__law_right_1, e1, e2', hh, r1, r2, h2, h3]
def BadFra (ws : List Rat) (d : D) : Prop := (∀ st : Store, m_part_below [.val (.tuple (ws.map frac)), .val d] st = .err (xFra d) st) ∧ okShow (.list [.str "fraction", d]) = true
theorem turn2 {r k : Nat} {ws : List Rat} {d : D} {v1 v3 v4 v5 v6 v7 v8 v9 : Option W} (hb : BadFra ws d) (hP : Pool st r k) (hk : k ≤ 900000) : ∃ st', (tName 5 d >>= fun _ => lp__law_right_2) ⟨SL r v1 (some (.val (.tuple (ws.map frac)))) v3 v4 v5 v6 v7 v8 v9, st⟩ = .ok .next ⟨SL r v1 (some (.val (.tuple (ws.map frac)))) v3 v4 (some (.val d)) v6 v7 v8 v9, st'⟩ ∧ Pool st' r (k + 1) := by
  have hsz := sizeLine_big
  have h2 : 2 ≤ sizeLine := by omega
  obtain ⟨hx, hs⟩ := hb
  obtain ⟨n, st2, e2, hn, w2⟩ := s__law_draw hP (m := 2) (by decide) (by decide) (by omega)
  have e2' : m__law_draw [.ref r, .val (.int 2)] st = .ok (.val (.int n)) st2 := e2
  have hh := heard_fra (n := decide (n = 0)) (hx st2)
  obtain ⟨r1, r2⟩ := show_same hs
  generalize (PyData.list [.str "fraction", d]).shown = T at r1 r2
  refine ⟨st2, ?_, w2⟩
  unfold SL
  generalize ws.map frac = L at *
  simp [lp__law_right_2, e2', hh, r1, r2, h2]
def BadRows (d : D) : Prop := ∃ x idx, d = .list [x, idx] ∧ (∀ st : Store, m_check_rows [.val x] st = .err (xRow idx) st) ∧ okShow (.list [.list [.str "row", idx], .list [.str "row", idx]]) = true
theorem turn3 {r k : Nat} {d : D} {v1 v2 v3 v4 v5 v6 v7 v8 v9 : Option W} (hb : BadRows d) (hP : Pool st r k) (hk : k ≤ 900000) : ∃ f5 f6 st', (tTupG 2 (tConsG (tName 5) (tConsG (tName 6) tNilG)) d >>= fun _ => lp__law_right_3) ⟨SL r v1 v2 v3 v4 v5 v6 v7 v8 v9, st⟩ = .ok .next ⟨SL r v1 v2 v3 v4 f5 f6 v7 v8 v9, st'⟩ ∧ Pool st' r (k + 2) ∧ notOwn (some f5) = true := by
  have hsz := sizeLine_big
  have h2 : 2 ≤ sizeLine := by omega
  have h1 : 1 ≤ sizeLine := by omega
  obtain ⟨x, idx, rfl, hx, hs⟩ := hb
  obtain ⟨n1, st1, e1, _, w1⟩ := s__law_draw hP (m := 2) (by decide) (by decide) (by omega)
  obtain ⟨n2, st2, e2, _, w2⟩ := s__law_draw w1 (m := 2) (by decide) (by decide) (by omega)
  have e1' : m__law_draw [.ref r, .val (.int 2)] st = .ok (.val (.int n1)) st1 := e1
  have e2' : m__law_draw [.ref r, .val (.int 2)] st1 = .ok (.val (.int n2)) st2 := e2
  have g1 := heard_rows (n := decide (n1 = 0)) (way := 1) (.inl rfl) (hx st1)
  have g2 := heard_rows (n := decide (n2 = 0)) (way := 2) (.inr rfl) (hx st2)
  obtain ⟨r1, r2⟩ := show_same hs
  have em : mulD (.list [.list [.str "row", idx]]) (.int 2) = some (.own [.list [.str "row", idx], .list [.str "row", idx]]) := rfl
  have hc : compLoop [12] (tName 12) cTrue el__law_right_8 [.int 1, .int 2] [] ⟨SL r v1 v2 v3 v4 (some (.val x)) (some (.val idx)) v7 v8 v9, st⟩ = .ok [.list [.str "row", idx], .list [.str "row", idx]] ⟨SL r v1 v2 v3 v4 (some (.val x)) (some (.val idx)) v7 v8 v9, st2⟩ := by
    rw [compLoop_step (y := .list [.str "row", idx]) (s' := ⟨SL r v1 v2 v3 v4 (some (.val x)) (some (.val idx)) v7 v8 v9, st1⟩) (by unfold SL; simp [el__law_right_8, e1', g1, h1]) (by simp; omega), compLoop_step (y := .list [.str "row", idx]) (s' := ⟨SL r v1 v2 v3 v4 (some (.val x)) (some (.val idx)) v7 v8 v9, st2⟩) (by unfold SL; simp [el__law_right_8, e2', g2, h1]) (by simp; omega), compLoop_nil]
    rfl
  generalize (PyData.list [.list [.str "row", idx], .list [.str "row", idx]]).shown = T at r1 r2
  refine ⟨some (.val x), some (.val idx), st2, ?_, w2, rfl⟩
  unfold SL at hc ⊢
  simp [lp__law_right_3, h2, h1]
  rw [hc]
  simp [r1, r2, em, h1, h2]
end K60
namespace K60
open PySem PySem.Spec PyProof.Rows L2 Z
open EV0 (pb Rw6 lnD)
open SC (Ln LnOk)
variable {st : Store}
theorem some_fr {d1 d2 : Nat} (h1 : d1 < 13) (h2 : d2 < 4) : Fr 12 8 (Rat.divInt ((d1 : Int) - 4) ((1 + d2 : Nat) : Int)) := by
  have h : Fr (1 + d2) 8 (Rat.divInt ((d1 : Int) - 4) ((1 + d2 : Nat) : Int)) := Fr.divInt (by omega) (by omega)
  refine h.dvd ?_
  have : d2 = 0 ∨ d2 = 1 ∨ d2 = 2 ∨ d2 = 3 := by omega
  rcases this with rfl | rfl | rfl | rfl <;> decide
theorem s__law_some {st : Store} {r k : Nat} (h : Pool st r k) (hk : k ≤ 900000) : ∃ (q : Rat) (st' : Store), m__law_some [.ref r] st = .ok (.val (frac q)) st' ∧ Fr 12 8 q ∧ Pool st' r (k + 2) := by
  obtain ⟨d1, st1, e1, h1, w1⟩ := s__law_draw h (m := 13) (by decide) (by decide) (by omega)
  obtain ⟨d2, st2, e2, h2, w2⟩ := s__law_draw w1 (m := 4) (by decide) (by decide) (by omega)
  refine ⟨_, st2, ?_, some_fr h1 h2, w2⟩
  have e3 := EV0.s__law_f (L := 3) (a := (d1 : Int) - 4) (b := ((1 + d2 : Nat) : Int)) (by omega) (by omega) (by decide) (st := st2)
  have e1' : m__law_draw [.ref r, .val (.int 13)] st = .ok (.val (.int d1)) st1 := e1
  have e2' : m__law_draw [.ref r, .val (.int 4)] st1 = .ok (.val (.int d2)) st2 := e2
  have e4 : ((1 + d2 : Nat) : Int) = 1 + (d2 : Int) := by omega
  rw [e4] at e3 ⊢
  simp [m__law_some, b__law_some, fnOf_app, e1', e2', e3]
theorem num_ne {q : Rat} : (q.num = 0) = (q = 0) := propext ⟨fun h => Rat.num_eq_zero.mp h, fun h => by rw [h]; rfl⟩
section
variable {r k : Nat} {v1 v2 v3 v4 v5 v6 v7 v8 v9 : Option W}
theorem st1 (hP : Pool st r k) (hk : k ≤ 800000) : ∃ (ws : List Rat) (st' : Store), lp__law_right_4_s1 ⟨SL r v1 v2 v3 v4 v5 v6 v7 v8 v9, st⟩ = .ok .next ⟨SL r v1 (some (.val (.tuple (ws.map frac)))) v3 v4 v5 v6 v7 v8 v9, st'⟩ ∧ ws.length ≤ 5 ∧ (∀ w ∈ ws, Fr 12 8 w) ∧ (∀ w ∈ ws, w ≠ 0) ∧ Pool st' r (k + 11) := by
  have hsz := sizeLine_big
  obtain ⟨n, st1, q1, hn, w1⟩ := s__law_draw hP (m := 6) (by decide) (by decide) (by omega)
  have q1' : m__law_draw [.ref r, .val (.int 6)] st = .ok (.val (.int n)) st1 := q1
  have hr := range_row (n := n) (by omega)
  obtain ⟨ys, s', c1, ⟨st2, hs', w2⟩, hl, hR⟩ := compLoop_inv (vs := [11]) (g := tName 11) (e := el__law_right_1) (I := fun i s => ∃ st', s = ⟨SL r v1 v2 v3 v4 v5 v6 v7 v8 v9, st'⟩ ∧ Pool st' r (k + 1 + 2 * i)) (R := fun d => ∃ q, d = frac q ∧ Fr 12 8 q)
    (rangeD 0 n) [] 0 ⟨SL r v1 v2 v3 v4 v5 v6 v7 v8 v9, st1⟩ (by simp [rangeD]; omega) ⟨st1, rfl, w1⟩ fun d hd i s hi ⟨st', es, w⟩ => by
      subst es
      have hi' : i < n := by simpa [rangeD] using hi
      obtain ⟨q, st'', e, hq, w'⟩ := s__law_some w (by omega)
      obtain ⟨z, hz, rfl⟩ := List.mem_map.mp hd
      refine ⟨frac q, ⟨SL r v1 v2 v3 v4 v5 v6 v7 v8 v9, st''⟩, ?_, ⟨st'', rfl, w'.mono (by omega)⟩, q, rfl, hq⟩
      unfold SL
      simp [el__law_right_1, e]
  subst hs'
  obtain ⟨qs, rfl, hq⟩ := all_ex (P := fun _ => True) hR
  have hql : qs.length ≤ 5 := by
    rw [List.length_map] at hl
    simp [rangeD] at hl
    omega
  have c2 : compLoop [10] (tName 10) (opCmp neD (opLk ixD (eVar 10) (eC (.int 0))) (eC (.int 0))) el__law_right_2 (qs.map frac) [] ⟨SL r v1 v2 v3 v4 v5 v6 v7 v8 v9, st2⟩ = .ok ([] ++ (qs.filter fun q => decide (q ≠ 0)).map frac) ⟨SL r v1 v2 v3 v4 v5 v6 v7 v8 v9, st2⟩ := by
    refine compLoop_filter (α := Rat) frac frac (fun q => decide (q ≠ 0)) _ _ (by simp; omega) fun w hw => ?_
    refine ⟨⟨[some (.ref r), v1, v2, v3, v4, v5, v6, v7, v8, v9, some (.val (frac w)), none, none], st2⟩, ⟨[some (.ref r), v1, v2, v3, v4, v5, v6, v7, v8, v9, some (.val (frac w)), none, none], st2⟩, by unfold SL; simp, ?_, by unfold SL; simp, fun _ => ?_⟩
    · simp [num_ne]
    · unfold SL; simp [el__law_right_2]
  rw [List.nil_append] at c1 c2
  have lf : (qs.filter fun q => decide (q ≠ 0)).length ≤ qs.length := List.length_filter_le ..
  refine ⟨qs.filter fun q => decide (q ≠ 0), st2, ?_, by omega, fun w hw => hq w (List.mem_filter.mp hw).1, fun w hw => by simpa using (List.mem_filter.mp hw).2, w2.mono (by simp [rangeD]; omega)⟩
  generalize (qs.filter fun q => decide (q ≠ 0)).map frac = L at *
  generalize qs.map frac = LQ at *
  unfold SL at c1 c2 ⊢
  simp [lp__law_right_4_s1, q1', hr]
  rw [c1]
  simp
  rw [c2]
  simp
theorem st2 (hP : Pool st r k) (hk : k ≤ 800000) : ∃ (ls : List Ln) (st' : Store), lp__law_right_4_s2 ⟨SL r v1 v2 v3 v4 v5 v6 v7 v8 v9, st⟩ = .ok .next ⟨SL r v1 v2 (some (.val (.tuple (ls.map lnD)))) v4 v5 v6 v7 v8 v9, st'⟩ ∧ ls.length ≤ 7 ∧ (∀ l ∈ ls, LnOk l) ∧ Pool st' r (k + 43) := by
  have hsz := sizeLine_big
  have h3 : 3 ≤ sizeLine := by omega
  obtain ⟨n, st1, q1, hn, w1⟩ := s__law_draw hP (m := 8) (by decide) (by decide) (by omega)
  have q1' : m__law_draw [.ref r, .val (.int 8)] st = .ok (.val (.int n)) st1 := q1
  have hr := range_row (n := n) (by omega)
  obtain ⟨ys, s', c1, ⟨st2, hs', w2⟩, hl, hR⟩ := compLoop_inv (vs := [11]) (g := tName 11) (e := el__law_right_3) (I := fun i s => ∃ st', s = ⟨SL r v1 v2 v3 v4 v5 v6 v7 v8 v9, st'⟩ ∧ Pool st' r (k + 1 + 6 * i)) (R := fun d => ∃ l, d = lnD l ∧ LnOk l)
    (rangeD 0 n) [] 0 ⟨SL r v1 v2 v3 v4 v5 v6 v7 v8 v9, st1⟩ (by simp [rangeD]; omega) ⟨st1, rfl, w1⟩ fun d hd i s hi ⟨st', es, w⟩ => by
      subst es
      have hi' : i < n := by simpa [rangeD] using hi
      obtain ⟨a, sta, ea, ha, wa⟩ := s__law_some w (by omega)
      obtain ⟨b, stb, eb, hb, wb⟩ := s__law_some wa (by omega)
      obtain ⟨c, stc, ec, hc, wc⟩ := s__law_some wb (by omega)
      obtain ⟨z, hz, rfl⟩ := List.mem_map.mp hd
      refine ⟨lnD (a, b, c), ⟨SL r v1 v2 v3 v4 v5 v6 v7 v8 v9, stc⟩, ?_, ⟨stc, rfl, wc.mono (by omega)⟩, (a, b, c), rfl, ha, hb, hc⟩
      unfold SL lnD
      simp [el__law_right_3, ea, eb, ec, h3]
  subst hs'
  obtain ⟨ls, rfl, hq⟩ := all_ex (P := fun _ => True) hR
  have hql : ls.length ≤ 7 := by
    rw [List.length_map] at hl
    simp [rangeD] at hl
    omega
  rw [List.nil_append] at c1
  refine ⟨ls, st2, ?_, hql, hq, w2.mono (by simp [rangeD]; omega)⟩
  generalize ls.map lnD = L at *
  unfold SL at c1 ⊢
  simp [lp__law_right_4_s2, q1', hr]
  rw [c1]
  simp
end
end K60
namespace K60
open PySem PySem.Spec PyProof.Rows L2 Z
open EV0 (pb Rw6 lnD)
open SC (Ln LnOk)
variable {st : Store}
section
variable {r k : Nat} {ws : List Rat} {ls : List Ln} {v1 v2 v3 v4 v5 v6 v7 v8 v9 : Option W}
def thU (ws : List Rat) : List D := [.none, .int 5, .str "row", .list (ws.map frac), .dict [], .tuple [d11, d11, d11, d11, d11, d11, d11]]
def bad1 (ws : List Rat) : List D := (thU ws).map fun d => .list [d, .none]
def bad2 (ws : List Rat) : List D := badU.map fun d => .list [.tuple (ws.map frac ++ [d]), .int ws.length]
theorem st3 (hl : ws.length ≤ 5) (n5 : notOwn (some v5) = true) : lp__law_right_4_s3 ⟨SL r v1 (some (.val (.tuple (ws.map frac)))) v3 v4 v5 v6 v7 v8 v9, st⟩ = .ok .next ⟨SL r v1 (some (.val (.tuple (ws.map frac)))) v3 (some (.own (bad1 ws))) v5 v6 v7 v8 v9, st⟩ := by
  have hsz := sizeLine_big
  have h1 : 1 ≤ sizeLine := by omega
  have h2 : 2 ≤ sizeLine := by omega
  have h6 : 6 ≤ sizeLine := by omega
  have hc : compLoop [5] (tName 5) cTrue el__law_right_4 (thU ws) [] ⟨SL r v1 (some (.val (.tuple (ws.map frac)))) v3 v4 none v6 v7 v8 v9, st⟩ = .ok ([] ++ (thU ws).map fun d => .list [d, .none]) ⟨SL r v1 (some (.val (.tuple (ws.map frac)))) v3 v4 none v6 v7 v8 v9, st⟩ := by
    refine compLoop_map _ _ _ (by simp [thU]; omega) fun d hd => ?_
    unfold SL
    simp [el__law_right_4, h2]
  have hm : mulD (.tuple [.tuple [.int 1, .int 1]]) (.int 7) = some (.val (.tuple [d11, d11, d11, d11, d11, d11, d11])) := rfl
  have hli : listD (.tuple (ws.map frac)) = some (.own (ws.map frac)) := rfl
  unfold bad1
  rw [List.nil_append] at hc
  generalize (thU ws).map (fun d => PyData.list [d, .none]) = OUT at *
  unfold SL thU at hc
  unfold SL
  generalize ws.map frac = L at *
  simp [lp__law_right_4_s3, h1, h2, h6, hm, hli, n5]
  rw [hc]
  simp
theorem st4 (hl : ws.length ≤ 5) (n5 : notOwn (some v5) = true) : lp__law_right_4_s4 ⟨SL r v1 (some (.val (.tuple (ws.map frac)))) v3 (some (.own (bad1 ws))) v5 v6 v7 v8 v9, st⟩ = .ok .next ⟨SL r v1 (some (.val (.tuple (ws.map frac)))) v3 (some (.own (bad1 ws ++ bad2 ws))) v5 v6 v7 v8 v9, st⟩ := by
  have hsz := sizeLine_big
  have h1 : 1 ≤ sizeLine := by omega
  have h2 : 2 ≤ sizeLine := by omega
  have h3 : 3 ≤ sizeLine := by omega
  have h10 : 10 ≤ sizeLine := by omega
  have hc : compLoop [5] (tName 5) cTrue el__law_right_5 badU [] ⟨SL r v1 (some (.val (.tuple (ws.map frac)))) v3 (some (.own (bad1 ws))) none v6 v7 v8 v9, st⟩ = .ok ([] ++ badU.map fun d => .list [.tuple (ws.map frac ++ [d]), .int ws.length]) ⟨SL r v1 (some (.val (.tuple (ws.map frac)))) v3 (some (.own (bad1 ws))) none v6 v7 v8 v9, st⟩ := by
    refine compLoop_map _ _ _ (by simp [badU]; omega) fun d hd => ?_
    have ad : addD (.tuple (ws.map frac)) (.tuple [d]) = some (.val (.tuple (ws.map frac ++ [d]))) := by
      simp [addD]
      omega
    have ln : (ws.map frac).length = ws.length := List.length_map ..
    rw [← ln]
    generalize ws.map frac = L at *
    generalize bad1 ws = B1 at *
    unfold SL
    simp [el__law_right_5, h1, h2, ad]
  have la : (bad1 ws).length + (bad2 ws).length ≤ sizeLine := by
    have e1 : (bad1 ws).length = 6 := by simp [bad1, thU]
    have e2 : (bad2 ws).length = 10 := by simp [bad2, badU]
    omega
  have e2 : (badU.map fun d => PyData.list [.tuple (ws.map frac ++ [d]), .int ws.length]) = bad2 ws := rfl
  rw [List.nil_append, e2] at hc
  generalize bad2 ws = B2 at *
  generalize bad1 ws = B1 at *
  unfold SL badU at hc
  unfold SL
  generalize ws.map frac = L at *
  simp [lp__law_right_4_s4, h1, h2, h3, h10, n5]
  rw [hc]
  simp [la]
end
end K60
namespace K60
open PySem PySem.Spec PyProof.Rows L2 Z
open EV0 (pb Rw6 lnD)
open SC (Ln LnOk)
variable {st : Store}
section
variable {r k : Nat} {ws : List Rat} {ls : List Ln} {v1 v2 v3 v4 v5 v6 v7 v8 v9 : Option W}
theorem turn1' {d : D} (hb : BadRow d) (hP : Pool st r k) (hk : k ≤ 900000) : ∃ f5 f6 f7 st', (tTupG 2 (tConsG (tName 5) (tConsG (tName 6) tNilG)) d >>= fun _ => lp__law_right_1) ⟨SL r v1 v2 v3 v4 v5 v6 v7 v8 v9, st⟩ = .ok .next ⟨SL r v1 v2 v3 v4 f5 f6 f7 v8 v9, st'⟩ ∧ Pool st' r (k + 2) ∧ notOwn (some f5) = true := by
  have hsz := sizeLine_big
  have h2 : 2 ≤ sizeLine := by omega
  have h3 : 3 ≤ sizeLine := by omega
  have h1 : 1 ≤ sizeLine := by omega
  obtain ⟨x, idx, rfl, hx, hs⟩ := hb
  obtain ⟨b, st1, e1, w1⟩ := s_pick3 (a := .tuple [.int 1, .int 2]) (b := .none) (c := .int 5) hP (by omega)
  obtain ⟨n, st2, e2, hn, w2⟩ := s__law_draw w1 (m := 2) (by decide) (by decide) (by omega)
  have e2' : m__law_draw [.ref r, .val (.int 2)] st1 = .ok (.val (.int n)) st2 := e2
  have hh := heard_row (n := decide (n = 0)) (hx b st2)
  obtain ⟨r1, r2⟩ := show_same hs
  generalize (PyData.list [.str "row", idx]).shown = T at r1 r2
  refine ⟨some (.val x), some (.val idx), some (.val b), st2, ?_, w2, rfl⟩
  unfold SL
  simp [lp__law_right_1, e1, e2', hh, r1, r2, h2, h3]
theorem bad1_row : ∀ d ∈ bad1 ws, BadRow d := fun d hd => by
  obtain ⟨x, hx, rfl⟩ := List.mem_map.mp hd
  refine ⟨x, .none, rfl, fun b st => pb_err1 ?_, show_none⟩
  simp only [thU, List.mem_cons, List.not_mem_nil, or_false] at hx
  rcases hx with rfl | rfl | rfl | rfl | rfl | rfl
  · exact .inl rfl
  · exact .inl rfl
  · exact .inl rfl
  · exact .inl rfl
  · exact .inl rfl
  · exact .inr ⟨_, rfl, by decide⟩
theorem bad2_row (hl : ws.length ≤ 5) (nz : ∀ w ∈ ws, w ≠ 0) : ∀ d ∈ bad2 ws, BadRow d := fun d hd => by
  obtain ⟨x, hx, rfl⟩ := List.mem_map.mp hd
  exact ⟨_, _, rfl, fun b st => pb_err2 nz hl (badU_no x hx), show_row _ (by omega)⟩
theorem st5 {ds : List D} (hd : ∀ d ∈ ds, BadRow d) (hn : ds.length ≤ 16) (hP : Pool st r k) (hk : k ≤ 800000) : ∃ f5 f6 f7 st', lp__law_right_4_s5 ⟨SL r v1 v2 v3 (some (.own ds)) v5 v6 v7 v8 v9, st⟩ = .ok .next ⟨SL r v1 v2 v3 (some (.val (.list ds))) f5 f6 f7 v8 v9, st'⟩ ∧ Pool st' r (k + 32) ∧ (notOwn (some v5) = true → notOwn (some f5) = true) := by
  obtain ⟨s', q, _, f5, f6, f7, st', e, w, n5⟩ := loopF_inv (g := tTupG 2 (tConsG (tName 5) (tConsG (tName 6) tNilG))) (b := lp__law_right_1) (I := fun es s => (es.length ≤ ds.length ∧ ∀ d ∈ es, BadRow d) ∧ ∃ f5 f6 f7 st', s = ⟨SL r v1 v2 v3 (some (.val (.list ds))) f5 f6 f7 v8 v9, st'⟩ ∧ Pool st' r (k + 2 * (ds.length - es.length)) ∧ (notOwn (some v5) = true → notOwn (some f5) = true))
    ds ⟨SL r v1 v2 v3 (some (.val (.list ds))) v5 v6 v7 v8 v9, st⟩ ⟨⟨Nat.le_refl _, hd⟩, v5, v6, v7, st, rfl, hP.mono (by omega), fun h => h⟩ fun d es s ⟨⟨hl, hg⟩, a5, a6, a7, st1, e, w, n⟩ => by
      subst e
      have hl' : es.length + 1 ≤ ds.length := hl
      obtain ⟨g5, g6, g7, st2, q, w2, nn⟩ := turn1' (v1 := v1) (v2 := v2) (v3 := v3) (v4 := some (.val (.list ds))) (v5 := a5) (v6 := a6) (v7 := a7) (v8 := v8) (v9 := v9) (hg d (List.mem_cons_self ..)) w (by omega)
      refine ⟨_, q, ⟨by omega, fun x hx => hg x (List.mem_cons_of_mem _ hx)⟩, g5, g6, g7, st2, rfl, w2.mono ?_, fun _ => nn⟩
      simp only [List.length_cons]
      omega
  subst e
  refine ⟨f5, f6, f7, st', ?_, w.mono (by simp; omega), n5⟩
  unfold SL at q ⊢
  simp [lp__law_right_4_s5]
  exact q
end
end K60
namespace K60
open PySem PySem.Spec PyProof.Rows L2 Z
open EV0 (pb Rw6 lnD)
open SC (Ln LnOk)
variable {st : Store}
section
variable {r k : Nat} {ws : List Rat} {ls : List Ln} {v1 v2 v3 v4 v5 v6 v7 v8 v9 : Option W}
theorem badF_fra (hl : ws.length ≤ 5) (nz : ∀ w ∈ ws, w ≠ 0) : ∀ d ∈ badF, BadFra ws d := fun d hd => ⟨fun st => pb_err3 nz (by omega) (badF_no d hd), badF_show d hd⟩
theorem st6 (hl : ws.length ≤ 5) (nz : ∀ w ∈ ws, w ≠ 0) (n5 : notOwn (some v5) = true) (hP : Pool st r k) (hk : k ≤ 800000) : ∃ f5 st', lp__law_right_4_s6 ⟨SL r v1 (some (.val (.tuple (ws.map frac)))) v3 v4 v5 v6 v7 v8 v9, st⟩ = .ok .next ⟨SL r v1 (some (.val (.tuple (ws.map frac)))) v3 v4 f5 v6 v7 v8 v9, st'⟩ ∧ Pool st' r (k + 8) ∧ notOwn (some f5) = true := by
  have hsz := sizeLine_big
  have h1 : 1 ≤ sizeLine := by omega
  have h2 : 2 ≤ sizeLine := by omega
  have h3 : 3 ≤ sizeLine := by omega
  have h8 : 8 ≤ sizeLine := by omega
  have bl : badF.length = 8 := rfl
  obtain ⟨s', q, _, f5, st', e, w, n5⟩ := loopF_inv (g := tName 5) (b := lp__law_right_2) (I := fun es s => (es.length ≤ 8 ∧ ∀ d ∈ es, BadFra ws d) ∧ ∃ f5 st', s = ⟨SL r v1 (some (.val (.tuple (ws.map frac)))) v3 v4 f5 v6 v7 v8 v9, st'⟩ ∧ Pool st' r (k + (8 - es.length)) ∧ notOwn (some f5) = true)
    badF ⟨SL r v1 (some (.val (.tuple (ws.map frac)))) v3 v4 v5 v6 v7 v8 v9, st⟩ ⟨⟨by rw [bl]; exact Nat.le_refl _, badF_fra hl nz⟩, v5, st, rfl, hP.mono (by omega), n5⟩ fun d es s ⟨⟨hl, hg⟩, a5, st1, e, w, n⟩ => by
      subst e
      have hl' : es.length + 1 ≤ 8 := hl
      obtain ⟨st2, q, w2⟩ := turn2 (v1 := v1) (v3 := v3) (v4 := v4) (v5 := a5) (v6 := v6) (v7 := v7) (v8 := v8) (v9 := v9) (hg d (List.mem_cons_self ..)) w (by omega)
      refine ⟨_, q, ⟨by omega, fun x hx => hg x (List.mem_cons_of_mem _ hx)⟩, some (.val d), st2, rfl, w2.mono ?_, rfl⟩
      simp only [List.length_cons]
      omega
  subst e
  refine ⟨f5, st', ?_, w.mono (by simp), n5⟩
  unfold SL badF at q
  unfold SL
  generalize ws.map frac = L at *
  simp [lp__law_right_4_s6, h1, h2, h3, h8]
  exact q
theorem cut_take {α : Type} (xs : List α) (k : Nat) : cutL xs none (some (k : Int)) = xs.take k := by
  by_cases h : k ≤ xs.length
  · exact cut_to xs h
  · have e : HT.sIx xs.length xs.length (some (k : Int)) = xs.length := by
      unfold HT.sIx
      simp
      split <;> omega
    unfold cutL
    rw [e, List.take_of_length_le (by omega : xs.length ≤ k)]
    simp [HT.sIx]
theorem st7 (hl : ls.length ≤ 7) : lp__law_right_4_s7 ⟨SL r v1 v2 (some (.val (.tuple (ls.map lnD)))) v4 v5 v6 v7 v8 v9, st⟩ = .ok .next ⟨SL r v1 v2 (some (.val (.tuple (ls.map lnD)))) v4 v5 v6 v7 (some (.val (.tuple (ls.map lnD)))) v9, st⟩ := by
  have c := cut_take (ls.map lnD) 7
  rw [List.take_of_length_le (by simpa using hl)] at c
  have e7 : ((7 : Nat) : Int) = 7 := rfl
  rw [e7] at c
  unfold SL
  generalize ls.map lnD = L at *
  simp [lp__law_right_4_s7, c]
def d3 : D := .tuple [d11, d11, d11]
def thR (ls : List Ln) : List D := [.none, .int 5, .str "rows", .list (ls.map lnD), .dict [], .tuple [d3, d3, d3, d3, d3, d3, d3, d3, d3]]
def odd1 (ls : List Ln) : List D := (thR ls).map fun d => .list [d, .none]
def odd2 (ls : List Ln) : List D := badC.map fun d => .list [.tuple (ls.map lnD ++ [d]), .int ls.length]
theorem st8 (hl : ls.length ≤ 7) (n5 : notOwn (some v5) = true) : lp__law_right_4_s8 ⟨SL r v1 v2 (some (.val (.tuple (ls.map lnD)))) v4 v5 v6 v7 v8 v9, st⟩ = .ok .next ⟨SL r v1 v2 (some (.val (.tuple (ls.map lnD)))) v4 v5 v6 v7 v8 (some (.own (odd1 ls))), st⟩ := by
  have hsz := sizeLine_big
  have h1 : 1 ≤ sizeLine := by omega
  have h2 : 2 ≤ sizeLine := by omega
  have h6 : 6 ≤ sizeLine := by omega
  have hc : compLoop [5] (tName 5) cTrue el__law_right_6 (thR ls) [] ⟨SL r v1 v2 (some (.val (.tuple (ls.map lnD)))) v4 none v6 v7 v8 v9, st⟩ = .ok ([] ++ (thR ls).map fun d => .list [d, .none]) ⟨SL r v1 v2 (some (.val (.tuple (ls.map lnD)))) v4 none v6 v7 v8 v9, st⟩ := by
    refine compLoop_map _ _ _ (by simp [thR]; omega) fun d hd => ?_
    unfold SL
    simp [el__law_right_6, h2]
  have hm : mulD (.tuple [.tuple [.int 1, .int 1]]) (.int 3) = some (.val d3) := rfl
  have hm2 : mulD (.tuple [d3]) (.int 9) = some (.val (.tuple [d3, d3, d3, d3, d3, d3, d3, d3, d3])) := rfl
  have hli : listD (.tuple (ls.map lnD)) = some (.own (ls.map lnD)) := rfl
  unfold odd1
  rw [List.nil_append] at hc
  generalize (thR ls).map (fun d => PyData.list [d, .none]) = OUT at *
  unfold SL thR at hc
  unfold SL
  generalize ls.map lnD = L at *
  simp [lp__law_right_4_s8, h1, h2, h6, hm, hm2, hli, n5]
  rw [hc]
  simp
end
end K60
namespace K60
open PySem PySem.Spec PyProof.Rows L2 Z
open EV0 (pb Rw6 lnD)
open SC (Ln LnOk)
variable {st : Store}
section
variable {r k : Nat} {ws : List Rat} {ls : List Ln} {v1 v2 v3 v4 v5 v6 v7 v8 v9 : Option W}
theorem st9 (hl : ls.length ≤ 7) (n5 : notOwn (some v5) = true) : lp__law_right_4_s9 ⟨SL r v1 v2 v3 v4 v5 v6 v7 (some (.val (.tuple (ls.map lnD)))) (some (.own (odd1 ls))), st⟩ = .ok .next ⟨SL r v1 v2 v3 v4 v5 v6 v7 (some (.val (.tuple (ls.map lnD)))) (some (.own (odd1 ls ++ odd2 ls))), st⟩ := by
  have hsz := sizeLine_big
  have h0 : 0 ≤ sizeLine := by omega
  have h1 : 1 ≤ sizeLine := by omega
  have h2 : 2 ≤ sizeLine := by omega
  have h3 : 3 ≤ sizeLine := by omega
  have h9 : 9 ≤ sizeLine := by omega
  have hc : compLoop [5] (tName 5) cTrue el__law_right_7 badC [] ⟨SL r v1 v2 v3 v4 none v6 v7 (some (.val (.tuple (ls.map lnD)))) (some (.own (odd1 ls))), st⟩ = .ok ([] ++ badC.map fun d => .list [.tuple (ls.map lnD ++ [d]), .int ls.length]) ⟨SL r v1 v2 v3 v4 none v6 v7 (some (.val (.tuple (ls.map lnD)))) (some (.own (odd1 ls))), st⟩ := by
    refine compLoop_map _ _ _ (by simp [badC]; omega) fun d hd => ?_
    have ad : addD (.tuple (ls.map lnD)) (.tuple [d]) = some (.val (.tuple (ls.map lnD ++ [d]))) := by
      simp [addD]
      omega
    have ln : (ls.map lnD).length = ls.length := List.length_map ..
    rw [← ln]
    generalize ls.map lnD = L at *
    generalize odd1 ls = B1 at *
    unfold SL
    simp [el__law_right_7, h1, h2, ad]
  have la : (odd1 ls).length + (odd2 ls).length ≤ sizeLine := by
    have e1 : (odd1 ls).length = 6 := by simp [odd1, thR]
    have e2 : (odd2 ls).length = 9 := by simp [odd2, badC]
    omega
  have e2 : (badC.map fun d => PyData.list [.tuple (ls.map lnD ++ [d]), .int ls.length]) = odd2 ls := rfl
  have hm : mulD (.tuple [.tuple [.int 1, .int 1]]) (.int 4) = some (.val (.tuple [d11, d11, d11, d11])) := rfl
  have hm2 : mulD (.list [.tuple [.int 1, .int 1]]) (.int 3) = some (.own [d11, d11, d11]) := rfl
  rw [List.nil_append, e2] at hc
  generalize odd2 ls = B2 at *
  generalize odd1 ls = B1 at *
  unfold SL badC at hc
  unfold SL
  generalize ls.map lnD = L at *
  have ed : d11 = .tuple [.int 1, .int 1] := rfl
  simp [lp__law_right_4_s9, h0, h1, h2, h3, h9, n5, hm, hm2]
  simp only [ed] at hc ⊢
  rw [hc]
  simp [la]
theorem odd1_rows : ∀ d ∈ odd1 ls, BadRows d := fun d hd => by
  obtain ⟨x, hx, rfl⟩ := List.mem_map.mp hd
  refine ⟨x, .none, rfl, fun st => cr_err1 ?_, show_rnone⟩
  simp only [thR, List.mem_cons, List.not_mem_nil, or_false] at hx
  rcases hx with rfl | rfl | rfl | rfl | rfl | rfl
  · exact .inl rfl
  · exact .inl rfl
  · exact .inl rfl
  · exact .inl rfl
  · exact .inl rfl
  · exact .inr ⟨_, rfl, by decide⟩
theorem odd2_rows (hl : ls.length ≤ 7) : ∀ d ∈ odd2 ls, BadRows d := fun d hd => by
  obtain ⟨x, hx, rfl⟩ := List.mem_map.mp hd
  exact ⟨_, _, rfl, fun st => cr_err2 hl (badC_no x hx), show_rows _ hl⟩
theorem turn3' {d : D} (hb : BadRows d) (hP : Pool st r k) (hk : k ≤ 900000) : ∃ f5 f6 st', (tTupG 2 (tConsG (tName 5) (tConsG (tName 6) tNilG)) d >>= fun _ => lp__law_right_3) ⟨SL r v1 v2 v3 v4 v5 v6 v7 v8 v9, st⟩ = .ok .next ⟨SL r v1 v2 v3 v4 f5 f6 v7 v8 v9, st'⟩ ∧ Pool st' r (k + 2) ∧ notOwn (some f5) = true := turn3 hb hP hk
theorem st10 {ds : List D} (hd : ∀ d ∈ ds, BadRows d) (hn : ds.length ≤ 16) (hP : Pool st r k) (hk : k ≤ 800000) : ∃ f5 f6 st', lp__law_right_4_s10 ⟨SL r v1 v2 v3 v4 v5 v6 v7 v8 (some (.own ds)), st⟩ = .ok .next ⟨SL r v1 v2 v3 v4 f5 f6 v7 v8 (some (.val (.list ds))), st'⟩ ∧ Pool st' r (k + 32) ∧ (notOwn (some v5) = true → notOwn (some f5) = true) := by
  obtain ⟨s', q, _, f5, f6, st', e, w, n5⟩ := loopF_inv (g := tTupG 2 (tConsG (tName 5) (tConsG (tName 6) tNilG))) (b := lp__law_right_3) (I := fun es s => (es.length ≤ ds.length ∧ ∀ d ∈ es, BadRows d) ∧ ∃ f5 f6 st', s = ⟨SL r v1 v2 v3 v4 f5 f6 v7 v8 (some (.val (.list ds))), st'⟩ ∧ Pool st' r (k + 2 * (ds.length - es.length)) ∧ (notOwn (some v5) = true → notOwn (some f5) = true))
    ds ⟨SL r v1 v2 v3 v4 v5 v6 v7 v8 (some (.val (.list ds))), st⟩ ⟨⟨Nat.le_refl _, hd⟩, v5, v6, st, rfl, hP.mono (by omega), fun h => h⟩ fun d es s ⟨⟨hl, hg⟩, a5, a6, st1, e, w, n⟩ => by
      subst e
      have hl' : es.length + 1 ≤ ds.length := hl
      obtain ⟨g5, g6, st2, q, w2, nn⟩ := turn3' (v1 := v1) (v2 := v2) (v3 := v3) (v4 := v4) (v5 := a5) (v6 := a6) (v7 := v7) (v8 := v8) (v9 := some (.val (.list ds))) (hg d (List.mem_cons_self ..)) w (by omega)
      refine ⟨_, q, ⟨by omega, fun x hx => hg x (List.mem_cons_of_mem _ hx)⟩, g5, g6, st2, rfl, w2.mono ?_, fun _ => nn⟩
      simp only [List.length_cons]
      omega
  subst e
  refine ⟨f5, f6, st', ?_, w.mono (by simp; omega), n5⟩
  unfold SL at q ⊢
  simp [lp__law_right_4_s10]
  exact q
end
end K60
namespace K60
open PySem PySem.Spec PyProof.Rows L2 Z
open EV0 (pb Rw6 lnD)
open SC (Ln LnOk)
variable {st : Store}
section
variable {r k : Nat} {ws : List Rat} {ls : List Ln} {v1 v2 v3 v4 v5 v6 v7 v8 v9 : Option W}
theorem rw_row (hl : ws.length ≤ 5) (h : ∀ w ∈ ws, Fr 12 8 w) : Rw6 504 ws := ⟨by decide, by decide, by omega, fun w hw => ((h w hw).dvd (by decide)).mono (by decide)⟩
theorem half_is : frac (1 / 2 : Rat) = .tuple [.int 1, .int 2] := by
  have a1 : ((1 : Rat) / 2).num = 1 := by decide +kernel
  have a2 : ((1 : Rat) / 2).den = 2 := by decide +kernel
  unfold frac
  rw [a1, a2]; rfl
theorem nine_is : frac (-9 / 2 : Rat) = .tuple [.int (-9), .int 2] := by
  have a1 : ((-9 : Rat) / 2).num = -9 := by decide +kernel
  have a2 : ((-9 : Rat) / 2).den = 2 := by decide +kernel
  unfold frac
  rw [a1, a2]; rfl
theorem told4 : neD (.list [.list [.str "told", .none], .list [.str "told", .none], .list [.str "told", .none], .list [.str "told", .none]]) (.list [.list [.str "told", .none], .list [.str "told", .none], .list [.str "told", .none], .list [.str "told", .none]]) = some false := by kernel_rfl
theorem st11 (hl : ws.length ≤ 5) (h : ∀ w ∈ ws, Fr 12 8 w) (nz : ∀ w ∈ ws, w ≠ 0) (hl7 : ls.length ≤ 7) (hls : ∀ l ∈ ls, LnOk l) : lp__law_right_4_s11 ⟨SL r v1 (some (.val (.tuple (ws.map frac)))) (some (.val (.tuple (ls.map lnD)))) v4 v5 v6 v7 v8 v9, st⟩ = .ok .next ⟨SL r v1 (some (.val (.tuple (ws.map frac)))) (some (.val (.tuple (ls.map lnD)))) v4 v5 v6 v7 v8 v9, st⟩ := by
  have hsz := sizeLine_big
  have h1 : 1 ≤ sizeLine := by omega
  have h2 : 2 ≤ sizeLine := by omega
  have h4 : 4 ≤ sizeLine := by omega
  have f1 : Fr 504 8192 (1 / 2 : Rat) := ⟨252, by decide +kernel, by decide⟩
  have f2 : Fr 504 8192 (-9 / 2 : Rat) := ⟨-2268, by decide +kernel, by decide⟩
  have p1 := heard_told (n := true) (pb_ok (st := st) (rw_row hl h) nz f1)
  have p2 := heard_told (n := false) (pb_ok (st := st) (rw_row hl h) nz f2)
  rw [half_is] at p1
  rw [nine_is] at p2
  have p3 := rows_told (n := false) (way := 1) (st := st) (.inl rfl) hls hl7
  have p4 := rows_told (n := true) (way := 2) (st := st) (.inr rfl) hls hl7
  have em : mulD (.list [.list [.str "told", .none]]) (.int 4) = some (.own [.list [.str "told", .none], .list [.str "told", .none], .list [.str "told", .none], .list [.str "told", .none]]) := rfl
  have t4 := told4
  unfold SL
  generalize ws.map frac = L at *
  generalize ls.map lnD = M at *
  simp [lp__law_right_4_s11, h1, h2, h4, p1, p2, p3, p4, em, t4]
end
end K60
namespace K60
open PySem PySem.Spec PyProof.Rows L2 Z
open EV0 (pb Rw6 lnD)
open SC (Ln LnOk)
variable {st : Store}
section
variable {r k : Nat} {v1 v2 v3 v4 v5 v6 v7 v8 v9 : Option W}
theorem seq_next {m1 m2 : M SR} {s s1 : S} (h : m1 s = .ok .next s1) : seq m1 m2 s = m2 s1 := by rw [seq_app, h]; rfl
theorem right_turn {j : Int} (n5 : notOwn (some v5) = true) (hP : Pool st r k) (hk : k ≤ 600000) : ∃ w2 w3 w4 w5 w6 w7 w8 w9 st', (tName 1 (.int j) >>= fun _ => lp__law_right_4) ⟨SL r v1 v2 v3 v4 v5 v6 v7 v8 v9, st⟩ = .ok .next ⟨SL r (some (.val (.int j))) w2 w3 w4 w5 w6 w7 w8 w9, st'⟩ ∧ Pool st' r (k + 126) ∧ notOwn (some w5) = true := by
  obtain ⟨ws, s1, a1, l5, fw, nz, p1⟩ := st1 (v1 := some (.val (.int j))) (v2 := v2) (v3 := v3) (v4 := v4) (v5 := v5) (v6 := v6) (v7 := v7) (v8 := v8) (v9 := v9) hP (by omega)
  obtain ⟨ls, s2, a2, l7, fl, p2⟩ := st2 (v1 := some (.val (.int j))) (v2 := some (.val (.tuple (ws.map frac)))) (v3 := v3) (v4 := v4) (v5 := v5) (v6 := v6) (v7 := v7) (v8 := v8) (v9 := v9) p1 (by omega)
  have a3 := st3 (r := r) (v1 := some (.val (.int j))) (v3 := some (.val (.tuple (ls.map lnD)))) (v4 := v4) (v5 := v5) (v6 := v6) (v7 := v7) (v8 := v8) (v9 := v9) (st := s2) l5 n5
  have a4 := st4 (r := r) (v1 := some (.val (.int j))) (v3 := some (.val (.tuple (ls.map lnD)))) (v5 := v5) (v6 := v6) (v7 := v7) (v8 := v8) (v9 := v9) (st := s2) l5 n5
  have e1 : (bad1 ws).length = 6 := by simp [bad1, thU]
  have e2 : (bad2 ws).length = 10 := by simp [bad2, badU]
  obtain ⟨b5, b6, b7, s5, a5, p5, m5⟩ := st5 (v1 := some (.val (.int j))) (v2 := some (.val (.tuple (ws.map frac)))) (v3 := some (.val (.tuple (ls.map lnD)))) (v5 := v5) (v6 := v6) (v7 := v7) (v8 := v8) (v9 := v9) (ds := bad1 ws ++ bad2 ws) (fun d hd => (List.mem_append.mp hd).elim (bad1_row d) (bad2_row l5 nz d)) (by rw [List.length_append]; omega) p2 (by omega)
  obtain ⟨c5, s6, a6, p6, m6⟩ := st6 (v1 := some (.val (.int j))) (v3 := some (.val (.tuple (ls.map lnD)))) (v4 := some (.val (.list (bad1 ws ++ bad2 ws)))) (v5 := b5) (v6 := b6) (v7 := b7) (v8 := v8) (v9 := v9) l5 nz (m5 n5) p5 (by omega)
  have a7 := st7 (r := r) (v1 := some (.val (.int j))) (v2 := some (.val (.tuple (ws.map frac)))) (v4 := some (.val (.list (bad1 ws ++ bad2 ws)))) (v5 := c5) (v6 := b6) (v7 := b7) (v8 := v8) (v9 := v9) (st := s6) l7
  have a8 := st8 (r := r) (v1 := some (.val (.int j))) (v2 := some (.val (.tuple (ws.map frac)))) (v4 := some (.val (.list (bad1 ws ++ bad2 ws)))) (v5 := c5) (v6 := b6) (v7 := b7) (v8 := some (.val (.tuple (ls.map lnD)))) (v9 := v9) (st := s6) l7 m6
  have a9 := st9 (r := r) (v1 := some (.val (.int j))) (v2 := some (.val (.tuple (ws.map frac)))) (v3 := some (.val (.tuple (ls.map lnD)))) (v4 := some (.val (.list (bad1 ws ++ bad2 ws)))) (v5 := c5) (v6 := b6) (v7 := b7) (st := s6) l7 m6
  have e3 : (odd1 ls).length = 6 := by simp [odd1, thR]
  have e4 : (odd2 ls).length = 9 := by simp [odd2, badC]
  obtain ⟨d5, d6, s10, a10, p10, m10⟩ := st10 (v1 := some (.val (.int j))) (v2 := some (.val (.tuple (ws.map frac)))) (v3 := some (.val (.tuple (ls.map lnD)))) (v4 := some (.val (.list (bad1 ws ++ bad2 ws)))) (v5 := c5) (v6 := b6) (v7 := b7) (v8 := some (.val (.tuple (ls.map lnD)))) (ds := odd1 ls ++ odd2 ls) (fun d hd => (List.mem_append.mp hd).elim (odd1_rows d) (odd2_rows l7 d)) (by rw [List.length_append]; omega) p6 (by omega)
  have a11 := st11 (r := r) (v1 := some (.val (.int j))) (v4 := some (.val (.list (bad1 ws ++ bad2 ws)))) (v5 := d5) (v6 := d6) (v7 := b7) (v8 := some (.val (.tuple (ls.map lnD)))) (v9 := some (.val (.list (odd1 ls ++ odd2 ls)))) (st := s10) l5 fw nz l7 fl
  refine ⟨some (.val (.tuple (ws.map frac))), some (.val (.tuple (ls.map lnD))), some (.val (.list (bad1 ws ++ bad2 ws))), d5, d6, b7, some (.val (.tuple (ls.map lnD))), some (.val (.list (odd1 ls ++ odd2 ls))), s10, ?_, p10.mono (by omega), m10 m6⟩
  have ht : tName 1 (.int j) ⟨SL r v1 v2 v3 v4 v5 v6 v7 v8 v9, st⟩ = .ok () ⟨SL r (some (.val (.int j))) v2 v3 v4 v5 v6 v7 v8 v9, st⟩ := rfl
  rw [bind_of ht, lp__law_right_4_eq, seq_next a1, seq_next a2, seq_next a3, seq_next a4, seq_next a5, seq_next a6, seq_next a7, seq_next a8, seq_next a9, seq_next a10]
  exact a11
end
end K60
namespace K60
open PySem PySem.Spec PyProof.Rows L2 Z
variable {st : Store}
theorem k_1 : m__law_heard [.val (.int 0), .val (.tuple [.tuple [], .tuple [.int 0, .int 1]]), .val (.bool false)] st = .ok (.own [.str "told", .none]) st := by kernel_rfl
theorem k_2 : m__law_heard [.val (.int 0), .val (.tuple [.tuple [d11, d11, d11, d11, d11, d11], .tuple [.int 3, .int 1]]), .val (.bool false)] st = .ok (.own [.str "told", .none]) st := by kernel_rfl
def z3 : D := .tuple [.tuple [.int 0, .int 1], .tuple [.int 0, .int 1], .tuple [.int 0, .int 1]]
theorem k_3 : m__law_heard [.val (.int 1), .val (.tuple [.tuple [z3, z3, z3, z3, z3, z3, z3, z3]]), .val (.bool true)] st = .ok (.own [.str "told", .none]) st := by kernel_rfl
theorem told1 : eqD (.list [.str "told", .none]) (.list [.str "told", .none]) = some true := by kernel_rfl
theorem s__law_right {r k : Nat} (hP : Pool st r k) (hk : k ≤ 500000) : ∃ st', m__law_right [.ref r] st = .ok (.val (.bool true)) st' := by
  have hsz := sizeLine_big
  have h0 : 0 ≤ sizeLine := by omega
  have h1 : 1 ≤ sizeLine := by omega
  have h2 : 2 ≤ sizeLine := by omega
  have h3 : 3 ≤ sizeLine := by omega
  have hr := range_row (n := 6) (by decide)
  obtain ⟨s', q, _, a1, a2, a3, a4, a5, a6, a7, a8, a9, st', e, _⟩ := loopF_inv (g := tName 1) (b := lp__law_right_4) (I := fun ds s => (ds.length ≤ 6 ∧ ∀ d ∈ ds, ∃ j, d = .int j) ∧ ∃ a1 a2 a3 a4 a5 a6 a7 a8 a9 st', s = ⟨SL r a1 a2 a3 a4 a5 a6 a7 a8 a9, st'⟩ ∧ Pool st' r (k + 126 * (6 - ds.length)) ∧ notOwn (some a5) = true) (rangeD 0 6) ⟨SL r none none none none none none none none none, st⟩
    ⟨⟨by decide, fun d hd => by
      obtain ⟨z, hz, rfl⟩ := List.mem_map.mp hd
      exact ⟨_, rfl⟩⟩, none, none, none, none, none, none, none, none, none, st, rfl, by simpa [rangeD] using hP, rfl⟩ fun d ds s ⟨⟨hl, hg⟩, b1, b2, b3, b4, b5, b6, b7, b8, b9, st1, e, w, n⟩ => by
      obtain ⟨j, rfl⟩ := hg d (List.mem_cons_self ..)
      subst e
      have hl' : ds.length + 1 ≤ 6 := hl
      obtain ⟨w2, w3, w4, w5, w6, w7, w8, w9, st2, q, p, m⟩ := right_turn (j := j) (v1 := b1) (v2 := b2) (v3 := b3) (v4 := b4) (v6 := b6) (v7 := b7) (v8 := b8) (v9 := b9) n w (by omega)
      refine ⟨_, q, ⟨by omega, fun x hx => hg x (List.mem_cons_of_mem _ hx)⟩, _, w2, w3, w4, w5, w6, w7, w8, w9, st2, rfl, p.mono ?_, m⟩
      simp only [List.length_cons]
      omega
  subst e
  refine ⟨st', ?_⟩
  have x1 := k_1 (st := st')
  have x2 := k_2 (st := st')
  have x3 := k_3 (st := st')
  have m6 : mulD (.tuple [.tuple [.int 1, .int 1]]) (.int 6) = some (.val (.tuple [d11, d11, d11, d11, d11, d11])) := rfl
  have m3 : mulD (.tuple [.tuple [.int 0, .int 1]]) (.int 3) = some (.val z3) := rfl
  have m8 : mulD (.tuple [z3]) (.int 8) = some (.val (.tuple [z3, z3, z3, z3, z3, z3, z3, z3])) := rfl
  have t := told1
  simp only [show ((6 : Nat) : Int) = 6 from rfl] at hr
  unfold SL at q
  simp [m__law_right, b__law_right, fnOf_app, hr]
  rw [q]
  simp [h0, h1, h2, h3, x1, x2, x3, m6, m3, m8, t]
theorem pool_is : m__law_pool = poolF 5580 1182783 2147483497 709 := rfl
theorem plain_law (ns : List Int) (h : ns.length ≤ 63) (hb : ∀ z ∈ ns, Builtin.Int.intBits z ≤ 1048576) : ∃ st, m_law [.scr ns] [] = .ok (.val (.bool true)) st := by
  have hsz := sizeLine_big
  obtain ⟨m, hm, hv⟩ := turns_of ns.length
  have hr := range_row (n := m) (by omega)
  obtain ⟨s', q, _, e1, st', e⟩ := loopF_inv (g := tName 1) (b := lp_law_1) (I := fun ds s => (∀ d ∈ ds, ∃ j : Nat, d = .int j ∧ j ≤ 3) ∧ ∃ e1 st', s = ⟨[some (.scr ns), e1], st'⟩) (rangeD 0 m) ⟨[some (.scr ns), none], []⟩
    ⟨fun d hd => by
      obtain ⟨z, hz, rfl⟩ := List.mem_map.mp hd
      have := List.mem_range.mp hz
      exact ⟨z, by simp, by omega⟩, none, [], rfl⟩ fun d ds s ⟨hg, a1, st1, e⟩ => by
      obtain ⟨j, rfl, hj⟩ := hg d (List.mem_cons_self ..)
      subst e
      obtain ⟨r, st2, x1, w1⟩ := s_pool (c1 := 5580) (c2 := 1182783) (m := 2147483497) (d := 709) (by decide) (by decide) (by decide) (by decide) hj h hb (st := st1)
      rw [← pool_is] at x1
      obtain ⟨st3, x2⟩ := s__law_right w1 (by decide)
      refine ⟨⟨[some (.scr ns), some (.val (.int j))], st3⟩, ?_, fun x hx => hg x (List.mem_cons_of_mem _ hx), _, st3, rfl⟩
      simp [lp_law_1, x1, x2]
  subst e
  refine ⟨st', ?_⟩
  rw [← hv] at hr
  simp only [m_law, b_law, fnOf_app]
  simp [hr]
  rw [q]
  simp
end K60
namespace K60
open PySem PySem.Spec PyProof.Rows L2 Z
abbrev st__law_draw : Stmt := top 52
abbrev st__law_pick : Stmt := top 53
abbrev st_check_tuple : Stmt := top 42
abbrev st_is_tuple_of : Stmt := top 5
abbrev st_is_whole : Stmt := top 4
abbrev st_is_fraction : Stmt := top 6
abbrev st_is_unlike_nought : Stmt := top 43
abbrev st_is_condition : Stmt := top 44
abbrev st_check_each : Stmt := top 45
abbrev st_sign_of : Stmt := top 13
abbrev st_fraction : Stmt := top 7
abbrev st_fraction_over : Stmt := top 11
abbrev st_fraction_sum : Stmt := top 8
abbrev st_lots_of : Stmt := top 29
abbrev st_fraction_less : Stmt := top 9
abbrev st_fraction_times : Stmt := top 10
abbrev st_power_by : Stmt := top 30
abbrev st_signed_sum : Stmt := top 31
abbrev st_orders_times : Stmt := top 32
abbrev st_part_of_box : Stmt := top 33
abbrev st_part_below : Stmt := top 46
abbrev st_check_rows : Stmt := top 47
abbrev st_turn_at : Stmt := top 21
abbrev st_turning_points : Stmt := top 22
abbrev st_excess_at : Stmt := top 17
abbrev st_between : Stmt := top 18
abbrev st_crossing : Stmt := top 19
abbrev st_clipped : Stmt := top 20
abbrev st_unlike_points : Stmt := top 23
abbrev st_is_above : Stmt := top 12
abbrev st_is_less_point : Stmt := top 24
abbrev st_least_first : Stmt := top 25
abbrev st_polygon_by : Stmt := top 26
abbrev st_area_by : Stmt := top 27
abbrev st_area : Stmt := top 48
abbrev st_polygon : Stmt := top 49
abbrev st__law_heard : Stmt := top 56
abbrev st__law_f : Stmt := top 54
abbrev st__law_some : Stmt := top 55
abbrev st__law_right : Stmt := top 57
abbrev st__law_pool : Stmt := top 51
abbrev st_law : Stmt := top 58
abbrev sti_InvalidRow : Stmt := clsDef (top 37) 0
abbrev sti_InvalidFraction : Stmt := clsDef (top 36) 0
structure Tx (K : PySem.W.Frag) (mg : Str → Option Value) : Prop where
  z_divmod : mg "divmod" = none
  z_int : mg "int" = none
  z_len : mg "len" = none
  z_isinstance : mg "isinstance" = none
  z_tuple : mg "tuple" = none
  z_bool : mg "bool" = none
  z_all : mg "all" = none
  z_enumerate : mg "enumerate" = none
  z_range : mg "range" = none
  z_abs : mg "abs" = none
  z_zip : mg "zip" = none
  z_list : mg "list" = none
  z_ValueError : mg "ValueError" = none
  z_repr : mg "repr" = none
  z_min : mg "min" = none
  z_max : mg "max" = none
  k_ROW_SIZE : Con K mg "ROW_SIZE" con_ROW_SIZE
  k_ZERO : Con K mg "ZERO" con_ZERO
  k_ONE : Con K mg "ONE" con_ONE
  k_MOST_DRAWS : Con K mg "MOST_DRAWS" con_MOST_DRAWS
  k_MOST_ROWS : Con K mg "MOST_ROWS" con_MOST_ROWS
  k_SQUARE : Con K mg "SQUARE" con_SQUARE
  k_HALF : Con K mg "HALF" con_HALF
  b_gcd : mg "gcd" = some (.builtin "math.gcd")
  gc_DrawError : mg "DrawError" = some (.ref (He.ga K "DrawError"))
  gc_InvalidRow : mg "InvalidRow" = some (.ref (He.ga K "InvalidRow"))
  gc_InvalidFraction : mg "InvalidFraction" = some (.ref (He.ga K "InvalidFraction"))
  t_DrawError : TabE K mg [("InvalidFraction", true), ("InvalidRow", true)] (.ref (He.ga K "DrawError"))
  i_InvalidRow : IsT K [("InvalidFraction", false), ("InvalidRow", true)] (.ref (He.ga K "InvalidRow"))
  i_InvalidFraction : IsT K [("InvalidFraction", true), ("InvalidRow", false)] (.ref (He.ga K "InvalidFraction"))
  i_ValueError : IsT K [("InvalidFraction", true), ("InvalidRow", true)] (.type "ValueError")
  x_index : XfT K ["InvalidRow"] "index"
  x_given : XfT K ["InvalidFraction"] "given"
  ec_InvalidRow : ErrC K (He.ga K "InvalidRow")
  nc_InvalidRow : PySem.W.findIn K (.ref (He.ga K "InvalidRow")) "index" = some none
  mc_InvalidRow : (He.Fa.meth "InvalidRow" "__init__").ok K = true
  dc_InvalidRow : ∃ fd, FunD K "__init__" "InvalidRow.__init__" (defArgs sti_InvalidRow) (defBody sti_InvalidRow) (defScope sti_InvalidRow) [] [] (He.ma K (He.ga K "InvalidRow") "__init__") fd
  ec_InvalidFraction : ErrC K (He.ga K "InvalidFraction")
  nc_InvalidFraction : PySem.W.findIn K (.ref (He.ga K "InvalidFraction")) "given" = some none
  mc_InvalidFraction : (He.Fa.meth "InvalidFraction" "__init__").ok K = true
  dc_InvalidFraction : ∃ fd, FunD K "__init__" "InvalidFraction.__init__" (defArgs sti_InvalidFraction) (defBody sti_InvalidFraction) (defScope sti_InvalidFraction) [] [] (He.ma K (He.ga K "InvalidFraction") "__init__") fd
  g__law_draw : mg "_law_draw" = some (.ref (He.ga K "_law_draw"))
  d__law_draw : ∃ fd, FunD K "_law_draw" "_law_draw" (defArgs st__law_draw) (defBody st__law_draw) (defScope st__law_draw) [] [] (He.ga K "_law_draw") fd
  g__law_pick : mg "_law_pick" = some (.ref (He.ga K "_law_pick"))
  d__law_pick : ∃ fd, FunD K "_law_pick" "_law_pick" (defArgs st__law_pick) (defBody st__law_pick) (defScope st__law_pick) [] [] (He.ga K "_law_pick") fd
  g_check_tuple : mg "check_tuple" = some (.ref (He.ga K "check_tuple"))
  d_check_tuple : ∃ fd, FunD K "check_tuple" "check_tuple" (defArgs st_check_tuple) (defBody st_check_tuple) (defScope st_check_tuple) [] [] (He.ga K "check_tuple") fd
  g_is_tuple_of : mg "is_tuple_of" = some (.ref (He.ga K "is_tuple_of"))
  d_is_tuple_of : ∃ fd, FunD K "is_tuple_of" "is_tuple_of" (defArgs st_is_tuple_of) (defBody st_is_tuple_of) (defScope st_is_tuple_of) [] [] (He.ga K "is_tuple_of") fd
  g_is_whole : mg "is_whole" = some (.ref (He.ga K "is_whole"))
  d_is_whole : ∃ fd, FunD K "is_whole" "is_whole" (defArgs st_is_whole) (defBody st_is_whole) (defScope st_is_whole) [] [] (He.ga K "is_whole") fd
  g_is_fraction : mg "is_fraction" = some (.ref (He.ga K "is_fraction"))
  d_is_fraction : ∃ fd, FunD K "is_fraction" "is_fraction" (defArgs st_is_fraction) (defBody st_is_fraction) (defScope st_is_fraction) [] [] (He.ga K "is_fraction") fd
  g_is_unlike_nought : mg "is_unlike_nought" = some (.ref (He.ga K "is_unlike_nought"))
  d_is_unlike_nought : ∃ fd, FunD K "is_unlike_nought" "is_unlike_nought" (defArgs st_is_unlike_nought) (defBody st_is_unlike_nought) (defScope st_is_unlike_nought) [] [] (He.ga K "is_unlike_nought") fd
  g_is_condition : mg "is_condition" = some (.ref (He.ga K "is_condition"))
  d_is_condition : ∃ fd, FunD K "is_condition" "is_condition" (defArgs st_is_condition) (defBody st_is_condition) (defScope st_is_condition) [] [] (He.ga K "is_condition") fd
  g_check_each : mg "check_each" = some (.ref (He.ga K "check_each"))
  d_check_each : ∃ fd, FunD K "check_each" "check_each" (defArgs st_check_each) (defBody st_check_each) (defScope st_check_each) [] [] (He.ga K "check_each") fd
  g_sign_of : mg "sign_of" = some (.ref (He.ga K "sign_of"))
  d_sign_of : ∃ fd, FunD K "sign_of" "sign_of" (defArgs st_sign_of) (defBody st_sign_of) (defScope st_sign_of) [] [] (He.ga K "sign_of") fd
  g_fraction : mg "fraction" = some (.ref (He.ga K "fraction"))
  d_fraction : ∃ fd, FunD K "fraction" "fraction" (defArgs st_fraction) (defBody st_fraction) (defScope st_fraction) [] [] (He.ga K "fraction") fd
  g_fraction_over : mg "fraction_over" = some (.ref (He.ga K "fraction_over"))
  d_fraction_over : ∃ fd, FunD K "fraction_over" "fraction_over" (defArgs st_fraction_over) (defBody st_fraction_over) (defScope st_fraction_over) [] [] (He.ga K "fraction_over") fd
  g_fraction_sum : mg "fraction_sum" = some (.ref (He.ga K "fraction_sum"))
  d_fraction_sum : ∃ fd, FunD K "fraction_sum" "fraction_sum" (defArgs st_fraction_sum) (defBody st_fraction_sum) (defScope st_fraction_sum) [] [] (He.ga K "fraction_sum") fd
  g_lots_of : mg "lots_of" = some (.ref (He.ga K "lots_of"))
  d_lots_of : ∃ fd, FunD K "lots_of" "lots_of" (defArgs st_lots_of) (defBody st_lots_of) (defScope st_lots_of) [] [] (He.ga K "lots_of") fd
  g_fraction_less : mg "fraction_less" = some (.ref (He.ga K "fraction_less"))
  d_fraction_less : ∃ fd, FunD K "fraction_less" "fraction_less" (defArgs st_fraction_less) (defBody st_fraction_less) (defScope st_fraction_less) [] [] (He.ga K "fraction_less") fd
  g_fraction_times : mg "fraction_times" = some (.ref (He.ga K "fraction_times"))
  d_fraction_times : ∃ fd, FunD K "fraction_times" "fraction_times" (defArgs st_fraction_times) (defBody st_fraction_times) (defScope st_fraction_times) [] [] (He.ga K "fraction_times") fd
  g_power_by : mg "power_by" = some (.ref (He.ga K "power_by"))
  d_power_by : ∃ fd, FunD K "power_by" "power_by" (defArgs st_power_by) (defBody st_power_by) (defScope st_power_by) [] [] (He.ga K "power_by") fd
  g_signed_sum : mg "signed_sum" = some (.ref (He.ga K "signed_sum"))
  d_signed_sum : ∃ fd, FunD K "signed_sum" "signed_sum" (defArgs st_signed_sum) (defBody st_signed_sum) (defScope st_signed_sum) [] [] (He.ga K "signed_sum") fd
  g_orders_times : mg "orders_times" = some (.ref (He.ga K "orders_times"))
  d_orders_times : ∃ fd, FunD K "orders_times" "orders_times" (defArgs st_orders_times) (defBody st_orders_times) (defScope st_orders_times) [] [] (He.ga K "orders_times") fd
  g_part_of_box : mg "part_of_box" = some (.ref (He.ga K "part_of_box"))
  d_part_of_box : ∃ fd, FunD K "part_of_box" "part_of_box" (defArgs st_part_of_box) (defBody st_part_of_box) (defScope st_part_of_box) [] [] (He.ga K "part_of_box") fd
  g_part_below : mg "part_below" = some (.ref (He.ga K "part_below"))
  d_part_below : ∃ fd, FunD K "part_below" "part_below" (defArgs st_part_below) (defBody st_part_below) (defScope st_part_below) [] [] (He.ga K "part_below") fd
  g_check_rows : mg "check_rows" = some (.ref (He.ga K "check_rows"))
  d_check_rows : ∃ fd, FunD K "check_rows" "check_rows" (defArgs st_check_rows) (defBody st_check_rows) (defScope st_check_rows) [] [] (He.ga K "check_rows") fd
  g_turn_at : mg "turn_at" = some (.ref (He.ga K "turn_at"))
  d_turn_at : ∃ fd, FunD K "turn_at" "turn_at" (defArgs st_turn_at) (defBody st_turn_at) (defScope st_turn_at) [] [] (He.ga K "turn_at") fd
  g_turning_points : mg "turning_points" = some (.ref (He.ga K "turning_points"))
  d_turning_points : ∃ fd, FunD K "turning_points" "turning_points" (defArgs st_turning_points) (defBody st_turning_points) (defScope st_turning_points) [] [] (He.ga K "turning_points") fd
  g_excess_at : mg "excess_at" = some (.ref (He.ga K "excess_at"))
  d_excess_at : ∃ fd, FunD K "excess_at" "excess_at" (defArgs st_excess_at) (defBody st_excess_at) (defScope st_excess_at) [] [] (He.ga K "excess_at") fd
  g_between : mg "between" = some (.ref (He.ga K "between"))
  d_between : ∃ fd, FunD K "between" "between" (defArgs st_between) (defBody st_between) (defScope st_between) [] [] (He.ga K "between") fd
  g_crossing : mg "crossing" = some (.ref (He.ga K "crossing"))
  d_crossing : ∃ fd, FunD K "crossing" "crossing" (defArgs st_crossing) (defBody st_crossing) (defScope st_crossing) [] [] (He.ga K "crossing") fd
  g_clipped : mg "clipped" = some (.ref (He.ga K "clipped"))
  d_clipped : ∃ fd, FunD K "clipped" "clipped" (defArgs st_clipped) (defBody st_clipped) (defScope st_clipped) [] [] (He.ga K "clipped") fd
  g_unlike_points : mg "unlike_points" = some (.ref (He.ga K "unlike_points"))
  d_unlike_points : ∃ fd, FunD K "unlike_points" "unlike_points" (defArgs st_unlike_points) (defBody st_unlike_points) (defScope st_unlike_points) [] [] (He.ga K "unlike_points") fd
  g_is_above : mg "is_above" = some (.ref (He.ga K "is_above"))
  d_is_above : ∃ fd, FunD K "is_above" "is_above" (defArgs st_is_above) (defBody st_is_above) (defScope st_is_above) [] [] (He.ga K "is_above") fd
  g_is_less_point : mg "is_less_point" = some (.ref (He.ga K "is_less_point"))
  d_is_less_point : ∃ fd, FunD K "is_less_point" "is_less_point" (defArgs st_is_less_point) (defBody st_is_less_point) (defScope st_is_less_point) [] [] (He.ga K "is_less_point") fd
  g_least_first : mg "least_first" = some (.ref (He.ga K "least_first"))
  d_least_first : ∃ fd, FunD K "least_first" "least_first" (defArgs st_least_first) (defBody st_least_first) (defScope st_least_first) [] [] (He.ga K "least_first") fd
  g_polygon_by : mg "polygon_by" = some (.ref (He.ga K "polygon_by"))
  d_polygon_by : ∃ fd, FunD K "polygon_by" "polygon_by" (defArgs st_polygon_by) (defBody st_polygon_by) (defScope st_polygon_by) [] [] (He.ga K "polygon_by") fd
  g_area_by : mg "area_by" = some (.ref (He.ga K "area_by"))
  d_area_by : ∃ fd, FunD K "area_by" "area_by" (defArgs st_area_by) (defBody st_area_by) (defScope st_area_by) [] [] (He.ga K "area_by") fd
  g_area : mg "area" = some (.ref (He.ga K "area"))
  d_area : ∃ fd, FunD K "area" "area" (defArgs st_area) (defBody st_area) (defScope st_area) [] [] (He.ga K "area") fd
  g_polygon : mg "polygon" = some (.ref (He.ga K "polygon"))
  d_polygon : ∃ fd, FunD K "polygon" "polygon" (defArgs st_polygon) (defBody st_polygon) (defScope st_polygon) [] [] (He.ga K "polygon") fd
  g__law_heard : mg "_law_heard" = some (.ref (He.ga K "_law_heard"))
  d__law_heard : ∃ fd, FunD K "_law_heard" "_law_heard" (defArgs st__law_heard) (defBody st__law_heard) (defScope st__law_heard) [] [] (He.ga K "_law_heard") fd
  g__law_f : mg "_law_f" = some (.ref (He.ga K "_law_f"))
  d__law_f : ∃ fd, FunD K "_law_f" "_law_f" (defArgs st__law_f) (defBody st__law_f) (defScope st__law_f) [] [] (He.ga K "_law_f") fd
  g__law_some : mg "_law_some" = some (.ref (He.ga K "_law_some"))
  d__law_some : ∃ fd, FunD K "_law_some" "_law_some" (defArgs st__law_some) (defBody st__law_some) (defScope st__law_some) [] [] (He.ga K "_law_some") fd
  g__law_right : mg "_law_right" = some (.ref (He.ga K "_law_right"))
  d__law_right : ∃ fd, FunD K "_law_right" "_law_right" (defArgs st__law_right) (defBody st__law_right) (defScope st__law_right) [] [] (He.ga K "_law_right") fd
  g__law_pool : mg "_law_pool" = some (.ref (He.ga K "_law_pool"))
  d__law_pool : ∃ fd, FunD K "_law_pool" "_law_pool" (defArgs st__law_pool) (defBody st__law_pool) (defScope st__law_pool) [] [] (He.ga K "_law_pool") fd
  g_law : mg "law" = some (.ref (He.ga K "law"))
  d_law : ∃ fd, FunD K "law" "law" (defArgs st_law) (defBody st_law) (defScope st_law) [] [] (He.ga K "law") fd
section
variable {P : Program} {w : World} {K : PySem.W.Frag} {mg : Str → Option Value} {base : Heap}
theorem err_InvalidRow (T : Tx K mg) : ErrF P w K mg base "InvalidRow" "index" 1 := by
  obtain ⟨fd, F⟩ := T.dc_InvalidRow
  obtain ⟨m1, m2⟩ := He.ba T.mc_InvalidRow
  obtain ⟨m2, m3⟩ := He.ba m2
  exact ⟨_, fd, "index", T.gc_InvalidRow, T.ec_InvalidRow.oex, T.nc_InvalidRow, He.eqO_ok m1, beq_iff_eq.mp m2, init_ok F ⟨rfl, rfl, rfl, by decide +kernel, rfl, by decide +kernel, by decide +kernel⟩ (by decide) (by decide) (Or.inl rfl) (Or.inl rfl), F.bindsN fun _ _ _ _ _ _ us hl => match us, hl with | [_, _], _ => rfl⟩
theorem err_InvalidFraction (T : Tx K mg) : ErrF P w K mg base "InvalidFraction" "given" 1 := by
  obtain ⟨fd, F⟩ := T.dc_InvalidFraction
  obtain ⟨m1, m2⟩ := He.ba T.mc_InvalidFraction
  obtain ⟨m2, m3⟩ := He.ba m2
  exact ⟨_, fd, "given", T.gc_InvalidFraction, T.ec_InvalidFraction.oex, T.nc_InvalidFraction, He.eqO_ok m1, beq_iff_eq.mp m2, init_ok F ⟨rfl, rfl, rfl, by decide +kernel, rfl, by decide +kernel, by decide +kernel⟩ (by decide) (by decide) (Or.inl rfl) (Or.inl rfl), F.bindsN fun _ _ _ _ _ _ us hl => match us, hl with | [_, _], _ => rfl⟩
theorem sc__law_draw : FnScope ["pool", "many", "figure", "held"] ["pool", "many"] (defScope st__law_draw) := ⟨rfl, rfl, rfl, by decide +kernel, rfl, by decide +kernel, by decide +kernel⟩
theorem fk__law_draw (T : Tx K mg) : ∃ fd, FunD K "_law_draw" "_law_draw" (defArgs st__law_draw) (defBody st__law_draw) (defScope st__law_draw) [] [] (He.ga K "_law_draw") fd ∧ FnG P w K mg base (L2.CX P w) 1 (He.ga K "_law_draw") fd ["pool", "many"] (spZ K mg 2 m__law_draw) := by
  obtain ⟨fd, F⟩ := T.d__law_draw
  have S := sc__law_draw
  exact ⟨fd, F, fn_okG (N := ["pool", "many", "figure", "held"]) (k := 0) (n := 2) (mb := b__law_draw) F S rfl (by decide) fun cdv A outer s H E hr hg hp tk =>
      (b_cons (s_if (i_cmpT op_gt c_gt (i_ix (i_var 0) i_int) i_int (nomark _)) (b_cons (s_unp (i_b2 call_divmod u_divmod T.z_divmod (i_ix (i_var 0) i_int) (i_var 1)) (g_tup rfl (gs_cons (g_sub (i_var 0) i_int) (gs_cons (g_name 2 S.nd) gs_nil))))
      (b_one (s_ret (i_var 2)))) b_nil)
      (b_cons (s_unp (i_bin o_add b_add (i_ix (i_var 0) i_int) i_int) (g_sub (i_var 0) i_int))
      (b_cons (s_asg 3 S.nd (i_ty1 call_int1 u_int T.z_int (i_ix (i_var 0) i_int)))
      (b_cons (s_unp (i_bin op_modN b_mod (i_ty1 call_int1 u_int T.z_int (i_bin o_add b_add (i_bin o_add b_add (i_bin o_mul b_mul (i_var 3) (i_bin o_add b_add (i_bin op_modN b_mod (i_var 3) i_int) i_int)) (i_bin o_mul b_mul i_int (i_ix (i_var 0) i_int))) i_int)) i_int) (g_sub (i_var 0) i_int))
      (b_one (s_ret (i_bin op_modN b_mod (i_ty1 call_int1 u_int T.z_int (i_bin op_fdivA b_fdiv (i_ix (i_var 0) i_int) i_int)) (i_var 1))))))))⟩
theorem ok__law_draw (T : Tx K mg) : TakesG P w K mg base "_law_draw" 1 2 ["pool", "many"] m__law_draw := by
  obtain ⟨fd, F, G⟩ := fk__law_draw (P := P) (w := w) (base := base) T
  exact ⟨_, fd, G, T.g__law_draw, F.kp, (F.bindsN fun _ _ _ _ _ _ us hl => match us, hl with | [_, _], _ => rfl)⟩
theorem sc__law_pick : FnScope ["pool", "some"] ["pool", "some"] (defScope st__law_pick) := ⟨rfl, rfl, rfl, by decide +kernel, rfl, by decide +kernel, by decide +kernel⟩
theorem fk__law_pick (T : Tx K mg) : ∃ fd, FunD K "_law_pick" "_law_pick" (defArgs st__law_pick) (defBody st__law_pick) (defScope st__law_pick) [] [] (He.ga K "_law_pick") fd ∧ FnG P w K mg base (L2.CX P w) 2 (He.ga K "_law_pick") fd ["pool", "some"] (spZ K mg 2 m__law_pick) := by
  obtain ⟨fd, F⟩ := T.d__law_pick
  have S := sc__law_pick
  exact ⟨fd, F, fn_okG (N := ["pool", "some"]) (k := 1) (n := 2) (mb := b__law_pick) F S rfl (by decide) fun cdv A outer s H E hr hg hp tk =>
      (b_one (s_ret (i_ix (i_var 1) (i_callG (ok__law_draw T) (hr.mono (by decide)) hg tk (a_cons (i_var 0) (a_cons (i_b1 call_len u_len T.z_len (i_var 1)) a_nil))))))⟩
theorem ok__law_pick (T : Tx K mg) : TakesG P w K mg base "_law_pick" 2 2 ["pool", "some"] m__law_pick := by
  obtain ⟨fd, F, G⟩ := fk__law_pick (P := P) (w := w) (base := base) T
  exact ⟨_, fd, G, T.g__law_pick, F.kp, (F.bindsN fun _ _ _ _ _ _ us hl => match us, hl with | [_, _], _ => rfl)⟩
theorem sc_check_tuple : FnScope ["value", "most"] ["value", "most"] (defScope st_check_tuple) := ⟨rfl, rfl, rfl, by decide +kernel, rfl, by decide +kernel, by decide +kernel⟩
theorem fk_check_tuple (T : Tx K mg) : ∃ fd, FunD K "check_tuple" "check_tuple" (defArgs st_check_tuple) (defBody st_check_tuple) (defScope st_check_tuple) [] [] (He.ga K "check_tuple") fd ∧ FnG P w K mg base (L2.CX P w) 3 (He.ga K "check_tuple") fd ["value", "most"] (spZ K mg 2 m_check_tuple) := by
  obtain ⟨fd, F⟩ := T.d_check_tuple
  have S := sc_check_tuple
  exact ⟨fd, F, fn_okG (N := ["value", "most"]) (k := 2) (n := 2) (mb := b_check_tuple) F S rfl (by decide) fun cdv A outer s H E hr hg hp tk =>
      (b_one (s_if (i_bool_ (w_or (i_notT (i_truth (i_isi (i_var 0) T.z_isinstance T.z_tuple))) (w_or1 (i_cmpT op_gt c_gt (i_b1 call_len u_len T.z_len (i_var 0)) (i_var 1) (nomark _))))) (b_one (s_raise (err_InvalidRow T) (hr.mono (by decide)) tk (a_cons i_none a_nil))) b_nil))⟩
theorem ok_check_tuple (T : Tx K mg) : TakesG P w K mg base "check_tuple" 3 2 ["value", "most"] m_check_tuple := by
  obtain ⟨fd, F, G⟩ := fk_check_tuple (P := P) (w := w) (base := base) T
  exact ⟨_, fd, G, T.g_check_tuple, F.kp, (F.bindsN fun _ _ _ _ _ _ us hl => match us, hl with | [_, _], _ => rfl)⟩
theorem sc_is_tuple_of : FnScope ["value", "many"] ["value", "many"] (defScope st_is_tuple_of) := ⟨rfl, rfl, rfl, by decide +kernel, rfl, by decide +kernel, by decide +kernel⟩
theorem fk_is_tuple_of (T : Tx K mg) : ∃ fd, FunD K "is_tuple_of" "is_tuple_of" (defArgs st_is_tuple_of) (defBody st_is_tuple_of) (defScope st_is_tuple_of) [] [] (He.ga K "is_tuple_of") fd ∧ FnG P w K mg base (L2.CX P w) 1 (He.ga K "is_tuple_of") fd ["value", "many"] (spZ K mg 2 m_is_tuple_of) := by
  obtain ⟨fd, F⟩ := T.d_is_tuple_of
  have S := sc_is_tuple_of
  exact ⟨fd, F, fn_okG (N := ["value", "many"]) (k := 0) (n := 2) (mb := b_is_tuple_of) F S rfl (by decide) fun cdv A outer s H E hr hg hp tk =>
      (b_one (s_ret (i_and (i_isi (i_var 0) T.z_isinstance T.z_tuple) (i_one (i_cmp (op_eqD (hu64 hr)) c_eq (i_b1 call_len u_len T.z_len (i_var 0)) (i_var 1) (nomark _))))))⟩
theorem ok_is_tuple_of (T : Tx K mg) : TakesG P w K mg base "is_tuple_of" 1 2 ["value", "many"] m_is_tuple_of := by
  obtain ⟨fd, F, G⟩ := fk_is_tuple_of (P := P) (w := w) (base := base) T
  exact ⟨_, fd, G, T.g_is_tuple_of, F.kp, (F.bindsN fun _ _ _ _ _ _ us hl => match us, hl with | [_, _], _ => rfl)⟩
theorem sc_is_whole : FnScope ["value"] ["value"] (defScope st_is_whole) := ⟨rfl, rfl, rfl, by decide +kernel, rfl, by decide +kernel, by decide +kernel⟩
theorem fk_is_whole (T : Tx K mg) : ∃ fd, FunD K "is_whole" "is_whole" (defArgs st_is_whole) (defBody st_is_whole) (defScope st_is_whole) [] [] (He.ga K "is_whole") fd ∧ FnG P w K mg base (L2.CX P w) 1 (He.ga K "is_whole") fd ["value"] (spZ K mg 1 m_is_whole) := by
  obtain ⟨fd, F⟩ := T.d_is_whole
  have S := sc_is_whole
  exact ⟨fd, F, fn_okG (N := ["value"]) (k := 0) (n := 1) (mb := b_is_whole) F S rfl (by decide) fun cdv A outer s H E hr hg hp tk =>
      (b_one (s_ret (i_and (i_isi (i_var 0) T.z_isinstance T.z_int) (i_one (i_not (i_isi (i_var 0) T.z_isinstance T.z_bool))))))⟩
theorem ok_is_whole (T : Tx K mg) : TakesG P w K mg base "is_whole" 1 1 ["value"] m_is_whole := by
  obtain ⟨fd, F, G⟩ := fk_is_whole (P := P) (w := w) (base := base) T
  exact ⟨_, fd, G, T.g_is_whole, F.kp, (F.bindsN fun _ _ _ _ _ _ us hl => match us, hl with | [_], _ => rfl)⟩
theorem sc_is_fraction : FnScope ["value"] ["value"] (defScope st_is_fraction) := ⟨rfl, rfl, rfl, by decide +kernel, rfl, by decide +kernel, by decide +kernel⟩
theorem fk_is_fraction (T : Tx K mg) : ∃ fd, FunD K "is_fraction" "is_fraction" (defArgs st_is_fraction) (defBody st_is_fraction) (defScope st_is_fraction) [] [] (He.ga K "is_fraction") fd ∧ FnG P w K mg base (L2.CX P w) 2 (He.ga K "is_fraction") fd ["value"] (spZ K mg 1 m_is_fraction) := by
  obtain ⟨fd, F⟩ := T.d_is_fraction
  have S := sc_is_fraction
  exact ⟨fd, F, fn_okG (N := ["value"]) (k := 1) (n := 1) (mb := b_is_fraction) F S rfl (by decide) fun cdv A outer s H E hr hg hp tk =>
      (b_cons (s_if (i_bool_ (w_or (i_notT (i_truth (i_callG (ok_is_tuple_of T) (hr.mono (by decide)) hg tk (a_cons (i_var 0) (a_cons i_int a_nil))))) (w_or (i_notT (i_truth (i_callG (ok_is_whole T) (hr.mono (by decide)) hg tk (a_cons (i_ix (i_var 0) i_int) a_nil)))) (w_or1 (i_notT (i_truth (i_callG (ok_is_whole T) (hr.mono (by decide)) hg tk (a_cons (i_ix (i_var 0) i_int) a_nil)))))))) (b_one (s_ret i_bool)) b_nil)
      (b_one (s_ret (i_and (i_cmp op_gt c_gt (i_ix (i_var 0) i_int) i_int (nomark _)) (i_one (i_cmp (op_eqD (hu64 hr)) c_eq (i_f2 cr_gcd u_gcd T.b_gcd (i_ix (i_var 0) i_int) (i_ix (i_var 0) i_int)) i_int (nomark _)))))))⟩
theorem ok_is_fraction (T : Tx K mg) : TakesG P w K mg base "is_fraction" 2 1 ["value"] m_is_fraction := by
  obtain ⟨fd, F, G⟩ := fk_is_fraction (P := P) (w := w) (base := base) T
  exact ⟨_, fd, G, T.g_is_fraction, F.kp, (F.bindsN fun _ _ _ _ _ _ us hl => match us, hl with | [_], _ => rfl)⟩
theorem sc_is_unlike_nought : FnScope ["value"] ["value"] (defScope st_is_unlike_nought) := ⟨rfl, rfl, rfl, by decide +kernel, rfl, by decide +kernel, by decide +kernel⟩
theorem fk_is_unlike_nought (T : Tx K mg) : ∃ fd, FunD K "is_unlike_nought" "is_unlike_nought" (defArgs st_is_unlike_nought) (defBody st_is_unlike_nought) (defScope st_is_unlike_nought) [] [] (He.ga K "is_unlike_nought") fd ∧ FnG P w K mg base (L2.CX P w) 3 (He.ga K "is_unlike_nought") fd ["value"] (spZ K mg 1 m_is_unlike_nought) := by
  obtain ⟨fd, F⟩ := T.d_is_unlike_nought
  have S := sc_is_unlike_nought
  exact ⟨fd, F, fn_okG (N := ["value"]) (k := 2) (n := 1) (mb := b_is_unlike_nought) F S rfl (by decide) fun cdv A outer s H E hr hg hp tk =>
      (b_one (s_ret (i_and (i_callG (ok_is_fraction T) (hr.mono (by decide)) hg tk (a_cons (i_var 0) a_nil)) (i_one (i_cmp (op_neD (hu64 hr)) c_ne (i_ix (i_var 0) i_int) i_int (nomark _))))))⟩
theorem ok_is_unlike_nought (T : Tx K mg) : TakesG P w K mg base "is_unlike_nought" 3 1 ["value"] m_is_unlike_nought := by
  obtain ⟨fd, F, G⟩ := fk_is_unlike_nought (P := P) (w := w) (base := base) T
  exact ⟨_, fd, G, T.g_is_unlike_nought, F.kp, (F.bindsN fun _ _ _ _ _ _ us hl => match us, hl with | [_], _ => rfl)⟩
theorem sc_is_condition : FnScope ["value", "each"] ["value"] (defScope st_is_condition) := ⟨rfl, rfl, rfl, by decide +kernel, rfl, by decide +kernel, by decide +kernel⟩
theorem fk_is_condition (T : Tx K mg) : ∃ fd, FunD K "is_condition" "is_condition" (defArgs st_is_condition) (defBody st_is_condition) (defScope st_is_condition) [] [] (He.ga K "is_condition") fd ∧ FnG P w K mg base (L2.CX P w) 3 (He.ga K "is_condition") fd ["value"] (spZ K mg 1 m_is_condition) := by
  obtain ⟨fd, F⟩ := T.d_is_condition
  have S := sc_is_condition
  exact ⟨fd, F, fn_okG (N := ["value", "each"]) (k := 2) (n := 1) (mb := b_is_condition) F S rfl (by decide) fun cdv A outer s H E hr hg hp tk =>
      (b_one (s_ret (i_and (i_callG (ok_is_tuple_of T) (hr.mono (by decide)) hg tk (a_cons (i_var 0) (a_cons (i_con T.k_ROW_SIZE) a_nil))) (i_one (i_b1 (cr_all rfl) u_all T.z_all (i_lc (own := [("each", 1)]) rfl S.nd (d_val (i_var 0)) (show BlkOk ["value", "each"] (defScope st_is_condition) _ [("each", 1)] from ⟨rfl, by decide +kernel, by decide +kernel, by decide +kernel, by decide +kernel⟩) (fun _ _ _ _ _ => (g_name 1 S.nd)) (fun _ _ _ _ _ => t_nil) (fun _ _ _ _ _ => (i_callG (ok_is_fraction T) (hr.mono (by decide)) hg Z.takes0 (a_cons (i_var 1) a_nil))) (by decide)))))))⟩
theorem ok_is_condition (T : Tx K mg) : TakesG P w K mg base "is_condition" 3 1 ["value"] m_is_condition := by
  obtain ⟨fd, F, G⟩ := fk_is_condition (P := P) (w := w) (base := base) T
  exact ⟨_, fd, G, T.g_is_condition, F.kp, (F.bindsN fun _ _ _ _ _ _ us hl => match us, hl with | [_], _ => rfl)⟩
theorem sc_check_each : FnScope ["value", "is_right", "index", "each"] ["value", "is_right"] (defScope st_check_each) := ⟨rfl, rfl, rfl, by decide +kernel, rfl, by decide +kernel, by decide +kernel⟩
theorem fk_check_each (T : Tx K mg) : ∃ fd, FunD K "check_each" "check_each" (defArgs st_check_each) (defBody st_check_each) (defScope st_check_each) [] [] (He.ga K "check_each") fd ∧ FnG P w K mg base (L2.CX P w) 4 (He.ga K "check_each") fd ["value", "is_right"] (spZ K mg 2 m_check_each) := by
  obtain ⟨fd, F⟩ := T.d_check_each
  have S := sc_check_each
  exact ⟨fd, F, fn_okG (N := ["value", "is_right", "index", "each"]) (k := 3) (n := 2) (mb := b_check_each) F S rfl (by decide) fun cdv A outer s H E hr hg hp tk =>
      (b_one (s_for hp rfl (d_enum T.z_enumerate (a_cons (i_var 0) a_nil)) (g_tup rfl (gs_cons (g_name 2 S.nd) (gs_cons (g_name 3 S.nd) gs_nil))) (b_one (s_if (i_notT (i_truth (i_callV (k := 3) (tab := [("is_unlike_nought", m_is_unlike_nought), ("is_condition", m_is_condition)]) 1 (.cons T.g_is_unlike_nought ((ok_is_unlike_nought T).mono (by decide)) (.cons T.g_is_condition ((ok_is_condition T).mono (by decide)) .nil)) (hr.mono (by decide)) hg tk (a_cons (i_var 3) a_nil)))) (b_one (s_raise (err_InvalidRow T) (hr.mono (by decide)) tk (a_cons (i_var 2) a_nil))) b_nil))))⟩
theorem ok_check_each (T : Tx K mg) : TakesG P w K mg base "check_each" 4 2 ["value", "is_right"] m_check_each := by
  obtain ⟨fd, F, G⟩ := fk_check_each (P := P) (w := w) (base := base) T
  exact ⟨_, fd, G, T.g_check_each, F.kp, (F.bindsN fun _ _ _ _ _ _ us hl => match us, hl with | [_, _], _ => rfl)⟩
theorem sc_sign_of : FnScope ["number"] ["number"] (defScope st_sign_of) := ⟨rfl, rfl, rfl, by decide +kernel, rfl, by decide +kernel, by decide +kernel⟩
theorem fk_sign_of (T : Tx K mg) : ∃ fd, FunD K "sign_of" "sign_of" (defArgs st_sign_of) (defBody st_sign_of) (defScope st_sign_of) [] [] (He.ga K "sign_of") fd ∧ FnG P w K mg base (L2.CX P w) 1 (He.ga K "sign_of") fd ["number"] (spZ K mg 1 m_sign_of) := by
  obtain ⟨fd, F⟩ := T.d_sign_of
  have S := sc_sign_of
  exact ⟨fd, F, fn_okG (N := ["number"]) (k := 0) (n := 1) (mb := b_sign_of) F S rfl (by decide) fun cdv A outer s H E hr hg hp tk =>
      (b_one (s_ret (i_bin op_sub b_sub (i_ty1 call_int1 u_int T.z_int (i_cmp op_gt c_gt (i_var 0) i_int (nomark _))) (i_ty1 call_int1 u_int T.z_int (i_cmp op_lt c_lt (i_var 0) i_int (nomark _))))))⟩
theorem ok_sign_of (T : Tx K mg) : TakesG P w K mg base "sign_of" 1 1 ["number"] m_sign_of := by
  obtain ⟨fd, F, G⟩ := fk_sign_of (P := P) (w := w) (base := base) T
  exact ⟨_, fd, G, T.g_sign_of, F.kp, (F.bindsN fun _ _ _ _ _ _ us hl => match us, hl with | [_], _ => rfl)⟩
theorem sc_fraction : FnScope ["number", "under", "part"] ["number", "under"] (defScope st_fraction) := ⟨rfl, rfl, rfl, by decide +kernel, rfl, by decide +kernel, by decide +kernel⟩
theorem fk_fraction (T : Tx K mg) : ∃ fd, FunD K "fraction" "fraction" (defArgs st_fraction) (defBody st_fraction) (defScope st_fraction) [] [] (He.ga K "fraction") fd ∧ FnG P w K mg base (L2.CX P w) 1 (He.ga K "fraction") fd ["number", "under"] (spZ K mg 2 m_fraction) := by
  obtain ⟨fd, F⟩ := T.d_fraction
  have S := sc_fraction
  exact ⟨fd, F, fn_okG (N := ["number", "under", "part"]) (k := 0) (n := 2) (mb := b_fraction) F S rfl (by decide) fun cdv A outer s H E hr hg hp tk =>
      (b_cons (s_asg 2 S.nd (i_f2 cr_gcd u_gcd T.b_gcd (i_var 0) (i_var 1)))
      (b_one (s_ret (i_tup (a_cons (i_bin op_fdivA b_fdiv (i_var 0) (i_var 2)) (a_cons (i_bin op_fdivA b_fdiv (i_var 1) (i_var 2)) a_nil))))))⟩
theorem ok_fraction (T : Tx K mg) : TakesG P w K mg base "fraction" 1 2 ["number", "under"] m_fraction := by
  obtain ⟨fd, F, G⟩ := fk_fraction (P := P) (w := w) (base := base) T
  exact ⟨_, fd, G, T.g_fraction, F.kp, (F.bindsN fun _ _ _ _ _ _ us hl => match us, hl with | [_, _], _ => rfl)⟩
theorem sc_fraction_over : FnScope ["one", "two", "sign"] ["one", "two"] (defScope st_fraction_over) := ⟨rfl, rfl, rfl, by decide +kernel, rfl, by decide +kernel, by decide +kernel⟩
theorem fk_fraction_over (T : Tx K mg) : ∃ fd, FunD K "fraction_over" "fraction_over" (defArgs st_fraction_over) (defBody st_fraction_over) (defScope st_fraction_over) [] [] (He.ga K "fraction_over") fd ∧ FnG P w K mg base (L2.CX P w) 2 (He.ga K "fraction_over") fd ["one", "two"] (spZ K mg 2 m_fraction_over) := by
  obtain ⟨fd, F⟩ := T.d_fraction_over
  have S := sc_fraction_over
  exact ⟨fd, F, fn_okG (N := ["one", "two", "sign"]) (k := 1) (n := 2) (mb := b_fraction_over) F S rfl (by decide) fun cdv A outer s H E hr hg hp tk =>
      (b_cons (s_asg 2 S.nd (i_callG (ok_sign_of T) (hr.mono (by decide)) hg tk (a_cons (i_ix (i_var 1) i_int) a_nil)))
      (b_one (s_ret (i_callG (ok_fraction T) (hr.mono (by decide)) hg tk (a_cons (i_bin o_mul b_mul (i_bin o_mul b_mul (i_var 2) (i_ix (i_var 0) i_int)) (i_ix (i_var 1) i_int)) (a_cons (i_bin o_mul b_mul (i_bin o_mul b_mul (i_var 2) (i_ix (i_var 0) i_int)) (i_ix (i_var 1) i_int)) a_nil))))))⟩
theorem ok_fraction_over (T : Tx K mg) : TakesG P w K mg base "fraction_over" 2 2 ["one", "two"] m_fraction_over := by
  obtain ⟨fd, F, G⟩ := fk_fraction_over (P := P) (w := w) (base := base) T
  exact ⟨_, fd, G, T.g_fraction_over, F.kp, (F.bindsN fun _ _ _ _ _ _ us hl => match us, hl with | [_, _], _ => rfl)⟩
theorem sc_fraction_sum : FnScope ["one", "two"] ["one", "two"] (defScope st_fraction_sum) := ⟨rfl, rfl, rfl, by decide +kernel, rfl, by decide +kernel, by decide +kernel⟩
theorem fk_fraction_sum (T : Tx K mg) : ∃ fd, FunD K "fraction_sum" "fraction_sum" (defArgs st_fraction_sum) (defBody st_fraction_sum) (defScope st_fraction_sum) [] [] (He.ga K "fraction_sum") fd ∧ FnG P w K mg base (L2.CX P w) 2 (He.ga K "fraction_sum") fd ["one", "two"] (spZ K mg 2 m_fraction_sum) := by
  obtain ⟨fd, F⟩ := T.d_fraction_sum
  have S := sc_fraction_sum
  exact ⟨fd, F, fn_okG (N := ["one", "two"]) (k := 1) (n := 2) (mb := b_fraction_sum) F S rfl (by decide) fun cdv A outer s H E hr hg hp tk =>
      (b_one (s_ret (i_callG (ok_fraction T) (hr.mono (by decide)) hg tk (a_cons (i_bin o_add b_add (i_bin o_mul b_mul (i_ix (i_var 0) i_int) (i_ix (i_var 1) i_int)) (i_bin o_mul b_mul (i_ix (i_var 1) i_int) (i_ix (i_var 0) i_int))) (a_cons (i_bin o_mul b_mul (i_ix (i_var 0) i_int) (i_ix (i_var 1) i_int)) a_nil)))))⟩
theorem ok_fraction_sum (T : Tx K mg) : TakesG P w K mg base "fraction_sum" 2 2 ["one", "two"] m_fraction_sum := by
  obtain ⟨fd, F, G⟩ := fk_fraction_sum (P := P) (w := w) (base := base) T
  exact ⟨_, fd, G, T.g_fraction_sum, F.kp, (F.bindsN fun _ _ _ _ _ _ us hl => match us, hl with | [_, _], _ => rfl)⟩
theorem sc_lots_of : FnScope ["parts", "found", "part", "total", "sign"] ["parts"] (defScope st_lots_of) := ⟨rfl, rfl, rfl, by decide +kernel, rfl, by decide +kernel, by decide +kernel⟩
theorem fk_lots_of (T : Tx K mg) : ∃ fd, FunD K "lots_of" "lots_of" (defArgs st_lots_of) (defBody st_lots_of) (defScope st_lots_of) [] [] (He.ga K "lots_of") fd ∧ FnG P w K mg base (L2.CX P w) 3 (He.ga K "lots_of") fd ["parts"] (spZ K mg 1 m_lots_of) := by
  obtain ⟨fd, F⟩ := T.d_lots_of
  have S := sc_lots_of
  exact ⟨fd, F, fn_okG (N := ["parts", "found", "part", "total", "sign"]) (k := 2) (n := 1) (mb := b_lots_of) F S rfl (by decide) fun cdv A outer s H E hr hg hp tk =>
      (b_cons (s_asg 1 S.nd (i_lst (a_cons (i_tup (a_cons (i_con T.k_ZERO) (a_cons i_int a_nil))) a_nil)))
      (b_cons (s_for hp rfl (d_val (i_var 0)) (g_name 2 S.nd) (b_one (s_asg 1 S.nd (i_bin o_add b_add (i_var 1) (i_lc (own := [("total", 3), ("sign", 4)]) rfl S.nd (d_val (i_var 1)) (show BlkOk ["parts", "found", "part", "total", "sign"] (defScope st_lots_of) _ [("total", 3), ("sign", 4)] from ⟨rfl, by decide +kernel, by decide +kernel, by decide +kernel, by decide +kernel⟩) (fun _ _ _ _ _ => (g_tup rfl (gs_cons (g_name 3 S.nd) (gs_cons (g_name 4 S.nd) gs_nil)))) (fun _ _ _ _ _ => t_nil) (fun _ _ _ _ _ => (i_tup (a_cons (i_callG (ok_fraction_sum T) (hr.mono (by decide)) hg Z.takes0 (a_cons (i_var 3) (a_cons (i_var 2) a_nil))) (a_cons (i_neg (i_var 4)) a_nil)))) (by decide))))))
      (b_one (s_ret (i_var 1)))))⟩
theorem ok_lots_of (T : Tx K mg) : TakesG P w K mg base "lots_of" 3 1 ["parts"] m_lots_of := by
  obtain ⟨fd, F, G⟩ := fk_lots_of (P := P) (w := w) (base := base) T
  exact ⟨_, fd, G, T.g_lots_of, F.kp, (F.bindsN fun _ _ _ _ _ _ us hl => match us, hl with | [_], _ => rfl)⟩
theorem sc_fraction_less : FnScope ["one", "two"] ["one", "two"] (defScope st_fraction_less) := ⟨rfl, rfl, rfl, by decide +kernel, rfl, by decide +kernel, by decide +kernel⟩
theorem fk_fraction_less (T : Tx K mg) : ∃ fd, FunD K "fraction_less" "fraction_less" (defArgs st_fraction_less) (defBody st_fraction_less) (defScope st_fraction_less) [] [] (He.ga K "fraction_less") fd ∧ FnG P w K mg base (L2.CX P w) 2 (He.ga K "fraction_less") fd ["one", "two"] (spZ K mg 2 m_fraction_less) := by
  obtain ⟨fd, F⟩ := T.d_fraction_less
  have S := sc_fraction_less
  exact ⟨fd, F, fn_okG (N := ["one", "two"]) (k := 1) (n := 2) (mb := b_fraction_less) F S rfl (by decide) fun cdv A outer s H E hr hg hp tk =>
      (b_one (s_ret (i_callG (ok_fraction T) (hr.mono (by decide)) hg tk (a_cons (i_bin op_sub b_sub (i_bin o_mul b_mul (i_ix (i_var 0) i_int) (i_ix (i_var 1) i_int)) (i_bin o_mul b_mul (i_ix (i_var 1) i_int) (i_ix (i_var 0) i_int))) (a_cons (i_bin o_mul b_mul (i_ix (i_var 0) i_int) (i_ix (i_var 1) i_int)) a_nil)))))⟩
theorem ok_fraction_less (T : Tx K mg) : TakesG P w K mg base "fraction_less" 2 2 ["one", "two"] m_fraction_less := by
  obtain ⟨fd, F, G⟩ := fk_fraction_less (P := P) (w := w) (base := base) T
  exact ⟨_, fd, G, T.g_fraction_less, F.kp, (F.bindsN fun _ _ _ _ _ _ us hl => match us, hl with | [_, _], _ => rfl)⟩
theorem sc_fraction_times : FnScope ["one", "two"] ["one", "two"] (defScope st_fraction_times) := ⟨rfl, rfl, rfl, by decide +kernel, rfl, by decide +kernel, by decide +kernel⟩
theorem fk_fraction_times (T : Tx K mg) : ∃ fd, FunD K "fraction_times" "fraction_times" (defArgs st_fraction_times) (defBody st_fraction_times) (defScope st_fraction_times) [] [] (He.ga K "fraction_times") fd ∧ FnG P w K mg base (L2.CX P w) 2 (He.ga K "fraction_times") fd ["one", "two"] (spZ K mg 2 m_fraction_times) := by
  obtain ⟨fd, F⟩ := T.d_fraction_times
  have S := sc_fraction_times
  exact ⟨fd, F, fn_okG (N := ["one", "two"]) (k := 1) (n := 2) (mb := b_fraction_times) F S rfl (by decide) fun cdv A outer s H E hr hg hp tk =>
      (b_one (s_ret (i_callG (ok_fraction T) (hr.mono (by decide)) hg tk (a_cons (i_bin o_mul b_mul (i_ix (i_var 0) i_int) (i_ix (i_var 1) i_int)) (a_cons (i_bin o_mul b_mul (i_ix (i_var 0) i_int) (i_ix (i_var 1) i_int)) a_nil)))))⟩
theorem ok_fraction_times (T : Tx K mg) : TakesG P w K mg base "fraction_times" 2 2 ["one", "two"] m_fraction_times := by
  obtain ⟨fd, F, G⟩ := fk_fraction_times (P := P) (w := w) (base := base) T
  exact ⟨_, fd, G, T.g_fraction_times, F.kp, (F.bindsN fun _ _ _ _ _ _ us hl => match us, hl with | [_, _], _ => rfl)⟩
theorem sc_power_by : FnScope ["number", "times", "found", "_"] ["number", "times"] (defScope st_power_by) := ⟨rfl, rfl, rfl, by decide +kernel, rfl, by decide +kernel, by decide +kernel⟩
theorem fk_power_by (T : Tx K mg) : ∃ fd, FunD K "power_by" "power_by" (defArgs st_power_by) (defBody st_power_by) (defScope st_power_by) [] [] (He.ga K "power_by") fd ∧ FnG P w K mg base (L2.CX P w) 3 (He.ga K "power_by") fd ["number", "times"] (spZ K mg 2 m_power_by) := by
  obtain ⟨fd, F⟩ := T.d_power_by
  have S := sc_power_by
  exact ⟨fd, F, fn_okG (N := ["number", "times", "found", "_"]) (k := 2) (n := 2) (mb := b_power_by) F S rfl (by decide) fun cdv A outer s H E hr hg hp tk =>
      (b_cons (s_asg 2 S.nd (i_con T.k_ONE))
      (b_cons (s_for hp rfl (d_range T.z_range (a_cons (i_var 1) a_nil)) (g_name 3 S.nd) (b_one (s_asg 2 S.nd (i_callG (ok_fraction_times T) (hr.mono (by decide)) hg tk (a_cons (i_var 2) (a_cons (i_var 0) a_nil))))))
      (b_one (s_ret (i_var 2)))))⟩
theorem ok_power_by (T : Tx K mg) : TakesG P w K mg base "power_by" 3 2 ["number", "times"] m_power_by := by
  obtain ⟨fd, F, G⟩ := fk_power_by (P := P) (w := w) (base := base) T
  exact ⟨_, fd, G, T.g_power_by, F.kp, (F.bindsN fun _ _ _ _ _ _ us hl => match us, hl with | [_, _], _ => rfl)⟩
theorem sc_signed_sum : FnScope ["parts", "bound", "found", "total", "sign", "rest"] ["parts", "bound"] (defScope st_signed_sum) := ⟨rfl, rfl, rfl, by decide +kernel, rfl, by decide +kernel, by decide +kernel⟩
theorem fk_signed_sum (T : Tx K mg) : ∃ fd, FunD K "signed_sum" "signed_sum" (defArgs st_signed_sum) (defBody st_signed_sum) (defScope st_signed_sum) [] [] (He.ga K "signed_sum") fd ∧ FnG P w K mg base (L2.CX P w) 4 (He.ga K "signed_sum") fd ["parts", "bound"] (spZ K mg 2 m_signed_sum) := by
  obtain ⟨fd, F⟩ := T.d_signed_sum
  have S := sc_signed_sum
  exact ⟨fd, F, fn_okG (N := ["parts", "bound", "found", "total", "sign", "rest"]) (k := 3) (n := 2) (mb := b_signed_sum) F S rfl (by decide) fun cdv A outer s H E hr hg hp tk =>
      (b_cons (s_asg 2 S.nd (i_con T.k_ZERO))
      (b_cons (s_for hp rfl (d_val (i_callG (ok_lots_of T) (hr.mono (by decide)) hg tk (a_cons (i_var 0) a_nil))) (g_tup rfl (gs_cons (g_name 3 S.nd) (gs_cons (g_name 4 S.nd) gs_nil))) (b_cons (s_asg 5 S.nd (i_callG (ok_fraction_less T) (hr.mono (by decide)) hg tk (a_cons (i_var 1) (a_cons (i_var 3) a_nil))))
      (b_one (s_if (i_cmpT op_gt c_gt (i_ix (i_var 5) i_int) i_int (nomark _)) (b_one (s_asg 2 S.nd (i_callG (ok_fraction_sum T) (hr.mono (by decide)) hg tk (a_cons (i_var 2) (a_cons (i_callG (ok_fraction_times T) (hr.mono (by decide)) hg tk (a_cons (i_tup (a_cons (i_var 4) (a_cons i_int a_nil))) (a_cons (i_callG (ok_power_by T) (hr.mono (by decide)) hg tk (a_cons (i_var 5) (a_cons (i_b1 call_len u_len T.z_len (i_var 0)) a_nil))) a_nil))) a_nil))))) b_nil))))
      (b_one (s_ret (i_var 2)))))⟩
theorem ok_signed_sum (T : Tx K mg) : TakesG P w K mg base "signed_sum" 4 2 ["parts", "bound"] m_signed_sum := by
  obtain ⟨fd, F, G⟩ := fk_signed_sum (P := P) (w := w) (base := base) T
  exact ⟨_, fd, G, T.g_signed_sum, F.kp, (F.bindsN fun _ _ _ _ _ _ us hl => match us, hl with | [_, _], _ => rfl)⟩
theorem sc_orders_times : FnScope ["parts", "found", "many", "part"] ["parts"] (defScope st_orders_times) := ⟨rfl, rfl, rfl, by decide +kernel, rfl, by decide +kernel, by decide +kernel⟩
theorem fk_orders_times (T : Tx K mg) : ∃ fd, FunD K "orders_times" "orders_times" (defArgs st_orders_times) (defBody st_orders_times) (defScope st_orders_times) [] [] (He.ga K "orders_times") fd ∧ FnG P w K mg base (L2.CX P w) 3 (He.ga K "orders_times") fd ["parts"] (spZ K mg 1 m_orders_times) := by
  obtain ⟨fd, F⟩ := T.d_orders_times
  have S := sc_orders_times
  exact ⟨fd, F, fn_okG (N := ["parts", "found", "many", "part"]) (k := 2) (n := 1) (mb := b_orders_times) F S rfl (by decide) fun cdv A outer s H E hr hg hp tk =>
      (b_cons (s_asg 1 S.nd (i_con T.k_ONE))
      (b_cons (s_for hp rfl (d_enum2 T.z_enumerate (a_cons (i_var 0) (a_cons i_int a_nil))) (g_tup rfl (gs_cons (g_name 2 S.nd) (gs_cons (g_name 3 S.nd) gs_nil))) (b_one (s_asg 1 S.nd (i_callG (ok_fraction_times T) (hr.mono (by decide)) hg tk (a_cons (i_var 1) (a_cons (i_callG (ok_fraction_times T) (hr.mono (by decide)) hg tk (a_cons (i_tup (a_cons (i_var 2) (a_cons i_int a_nil))) (a_cons (i_var 3) a_nil))) a_nil))))))
      (b_one (s_ret (i_var 1)))))⟩
theorem ok_orders_times (T : Tx K mg) : TakesG P w K mg base "orders_times" 3 1 ["parts"] m_orders_times := by
  obtain ⟨fd, F, G⟩ := fk_orders_times (P := P) (w := w) (base := base) T
  exact ⟨_, fd, G, T.g_orders_times, F.kp, (F.bindsN fun _ _ _ _ _ _ us hl => match us, hl with | [_], _ => rfl)⟩
theorem sc_part_of_box : FnScope ["row", "bound", "parts", "rest", "number", "under"] ["row", "bound"] (defScope st_part_of_box) := ⟨rfl, rfl, rfl, by decide +kernel, rfl, by decide +kernel, by decide +kernel⟩
theorem fk_part_of_box (T : Tx K mg) : ∃ fd, FunD K "part_of_box" "part_of_box" (defArgs st_part_of_box) (defBody st_part_of_box) (defScope st_part_of_box) [] [] (He.ga K "part_of_box") fd ∧ FnG P w K mg base (L2.CX P w) 5 (He.ga K "part_of_box") fd ["row", "bound"] (spZ K mg 2 m_part_of_box) := by
  obtain ⟨fd, F⟩ := T.d_part_of_box
  have S := sc_part_of_box
  exact ⟨fd, F, fn_okG (N := ["row", "bound", "parts", "rest", "number", "under"]) (k := 4) (n := 2) (mb := b_part_of_box) F S rfl (by decide) fun cdv A outer s H E hr hg hp tk =>
      (b_cons (s_par 2 3 rfl S.nd (h_cons (i_lst a_nil) (h_cons (i_var 1) h_nil)))
      (b_cons (s_for hp rfl (d_val (i_var 0)) (g_tup rfl (gs_cons (g_name 4 S.nd) (gs_cons (g_name 5 S.nd) gs_nil))) (b_cons (s_expr (i_append (i_var 2) (i_tup (a_cons (i_b1 call_abs u_abs T.z_abs (i_var 4)) (a_cons (i_var 5) a_nil)))))
      (b_one (s_asg 3 S.nd (i_if (i_cmpT op_lt c_lt (i_var 4) i_int (nomark _)) (i_callG (ok_fraction_less T) (hr.mono (by decide)) hg tk (a_cons (i_var 3) (a_cons (i_tup (a_cons (i_var 4) (a_cons (i_var 5) a_nil))) a_nil))) (i_var 3))))))
      (b_one (s_ret (i_callG (ok_fraction_over T) (hr.mono (by decide)) hg tk (a_cons (i_callG (ok_signed_sum T) (hr.mono (by decide)) hg tk (a_cons (i_var 2) (a_cons (i_var 3) a_nil))) (a_cons (i_callG (ok_orders_times T) (hr.mono (by decide)) hg tk (a_cons (i_var 2) a_nil)) a_nil)))))))⟩
theorem ok_part_of_box (T : Tx K mg) : TakesG P w K mg base "part_of_box" 5 2 ["row", "bound"] m_part_of_box := by
  obtain ⟨fd, F, G⟩ := fk_part_of_box (P := P) (w := w) (base := base) T
  exact ⟨_, fd, G, T.g_part_of_box, F.kp, (F.bindsN fun _ _ _ _ _ _ us hl => match us, hl with | [_, _], _ => rfl)⟩
theorem sc_part_below : FnScope ["row", "bound"] ["row", "bound"] (defScope st_part_below) := ⟨rfl, rfl, rfl, by decide +kernel, rfl, by decide +kernel, by decide +kernel⟩
theorem fk_part_below (T : Tx K mg) : ∃ fd, FunD K "part_below" "part_below" (defArgs st_part_below) (defBody st_part_below) (defScope st_part_below) [] [] (He.ga K "part_below") fd ∧ FnG P w K mg base (L2.CX P w) 6 (He.ga K "part_below") fd ["row", "bound"] (spZ K mg 2 m_part_below) := by
  obtain ⟨fd, F⟩ := T.d_part_below
  have S := sc_part_below
  exact ⟨fd, F, fn_okG (N := ["row", "bound"]) (k := 5) (n := 2) (mb := b_part_below) F S rfl (by decide) fun cdv A outer s H E hr hg hp tk =>
      (b_cons (s_expr (i_callG (ok_check_tuple T) (hr.mono (by decide)) hg tk (a_cons (i_var 0) (a_cons (i_con T.k_MOST_DRAWS) a_nil))))
      (b_cons (s_expr (i_callG (ok_check_each T) (hr.mono (by decide)) hg tk (a_cons (i_var 0) (a_cons (i_fn T.g_is_unlike_nought) a_nil))))
      (b_cons (s_if (i_notT (i_truth (i_callG (ok_is_fraction T) (hr.mono (by decide)) hg tk (a_cons (i_var 1) a_nil)))) (b_one (s_raise (err_InvalidFraction T) (hr.mono (by decide)) tk (a_cons (i_var 1) a_nil))) b_nil)
      (b_one (s_ret (i_callG (ok_part_of_box T) (hr.mono (by decide)) hg tk (a_cons (i_var 0) (a_cons (i_var 1) a_nil))))))))⟩
theorem ok_part_below (T : Tx K mg) : TakesG P w K mg base "part_below" 6 2 ["row", "bound"] m_part_below := by
  obtain ⟨fd, F, G⟩ := fk_part_below (P := P) (w := w) (base := base) T
  exact ⟨_, fd, G, T.g_part_below, F.kp, (F.bindsN fun _ _ _ _ _ _ us hl => match us, hl with | [_, _], _ => rfl)⟩
theorem okk_part_below_0_bound_row (T : Tx K mg) : TakesGK P w K mg base "part_below" 6 2 ["row", "bound"] m_part_below 0 ["bound", "row"] [1, 0] := by
  obtain ⟨fd, F, G⟩ := fk_part_below (P := P) (w := w) (base := base) T
  exact ⟨_, fd, G, T.g_part_below, F.kp, funD_kbn F fun _ _ _ _ _ _ us ws h1 h2 => match us, ws, h1, h2 with | [], [v0, v1], _, _ => rfl⟩
theorem sc_check_rows : FnScope ["rows"] ["rows"] (defScope st_check_rows) := ⟨rfl, rfl, rfl, by decide +kernel, rfl, by decide +kernel, by decide +kernel⟩
theorem fk_check_rows (T : Tx K mg) : ∃ fd, FunD K "check_rows" "check_rows" (defArgs st_check_rows) (defBody st_check_rows) (defScope st_check_rows) [] [] (He.ga K "check_rows") fd ∧ FnG P w K mg base (L2.CX P w) 5 (He.ga K "check_rows") fd ["rows"] (spZ K mg 1 m_check_rows) := by
  obtain ⟨fd, F⟩ := T.d_check_rows
  have S := sc_check_rows
  exact ⟨fd, F, fn_okG (N := ["rows"]) (k := 4) (n := 1) (mb := b_check_rows) F S rfl (by decide) fun cdv A outer s H E hr hg hp tk =>
      (b_cons (s_expr (i_callG (ok_check_tuple T) (hr.mono (by decide)) hg tk (a_cons (i_var 0) (a_cons (i_con T.k_MOST_ROWS) a_nil))))
      (b_one (s_expr (i_callG (ok_check_each T) (hr.mono (by decide)) hg tk (a_cons (i_var 0) (a_cons (i_fn T.g_is_condition) a_nil))))))⟩
theorem ok_check_rows (T : Tx K mg) : TakesG P w K mg base "check_rows" 5 1 ["rows"] m_check_rows := by
  obtain ⟨fd, F, G⟩ := fk_check_rows (P := P) (w := w) (base := base) T
  exact ⟨_, fd, G, T.g_check_rows, F.kp, (F.bindsN fun _ _ _ _ _ _ us hl => match us, hl with | [_], _ => rfl)⟩
theorem sc_turn_at : FnScope ["ahead", "here", "behind", "across"] ["ahead", "here", "behind"] (defScope st_turn_at) := ⟨rfl, rfl, rfl, by decide +kernel, rfl, by decide +kernel, by decide +kernel⟩
theorem fk_turn_at (T : Tx K mg) : ∃ fd, FunD K "turn_at" "turn_at" (defArgs st_turn_at) (defBody st_turn_at) (defScope st_turn_at) [] [] (He.ga K "turn_at") fd ∧ FnG P w K mg base (L2.CX P w) 3 (He.ga K "turn_at") fd ["ahead", "here", "behind"] (spZ K mg 3 m_turn_at) := by
  obtain ⟨fd, F⟩ := T.d_turn_at
  have S := sc_turn_at
  exact ⟨fd, F, fn_okG (N := ["ahead", "here", "behind", "across"]) (k := 2) (n := 3) (mb := b_turn_at) F S rfl (by decide) fun cdv A outer s H E hr hg hp tk =>
      (b_cons (s_asg 3 S.nd (i_callG (ok_fraction_times T) (hr.mono (by decide)) hg tk (a_cons (i_callG (ok_fraction_less T) (hr.mono (by decide)) hg tk (a_cons (i_ix (i_var 1) i_int) (a_cons (i_ix (i_var 0) i_int) a_nil))) (a_cons (i_callG (ok_fraction_less T) (hr.mono (by decide)) hg tk (a_cons (i_ix (i_var 2) i_int) (a_cons (i_ix (i_var 0) i_int) a_nil))) a_nil))))
      (b_one (s_ret (i_callG (ok_fraction_less T) (hr.mono (by decide)) hg tk (a_cons (i_var 3) (a_cons (i_callG (ok_fraction_times T) (hr.mono (by decide)) hg tk (a_cons (i_callG (ok_fraction_less T) (hr.mono (by decide)) hg tk (a_cons (i_ix (i_var 2) i_int) (a_cons (i_ix (i_var 0) i_int) a_nil))) (a_cons (i_callG (ok_fraction_less T) (hr.mono (by decide)) hg tk (a_cons (i_ix (i_var 1) i_int) (a_cons (i_ix (i_var 0) i_int) a_nil))) a_nil))) a_nil))))))⟩
theorem ok_turn_at (T : Tx K mg) : TakesG P w K mg base "turn_at" 3 3 ["ahead", "here", "behind"] m_turn_at := by
  obtain ⟨fd, F, G⟩ := fk_turn_at (P := P) (w := w) (base := base) T
  exact ⟨_, fd, G, T.g_turn_at, F.kp, (F.bindsN fun _ _ _ _ _ _ us hl => match us, hl with | [_, _, _], _ => rfl)⟩
theorem sc_turning_points : FnScope ["points", "found", "index", "here"] ["points"] (defScope st_turning_points) := ⟨rfl, rfl, rfl, by decide +kernel, rfl, by decide +kernel, by decide +kernel⟩
theorem fk_turning_points (T : Tx K mg) : ∃ fd, FunD K "turning_points" "turning_points" (defArgs st_turning_points) (defBody st_turning_points) (defScope st_turning_points) [] [] (He.ga K "turning_points") fd ∧ FnG P w K mg base (L2.CX P w) 4 (He.ga K "turning_points") fd ["points"] (spZ K mg 1 m_turning_points) := by
  obtain ⟨fd, F⟩ := T.d_turning_points
  have S := sc_turning_points
  exact ⟨fd, F, fn_okG (N := ["points", "found", "index", "here"]) (k := 3) (n := 1) (mb := b_turning_points) F S rfl (by decide) fun cdv A outer s H E hr hg hp tk =>
      (b_cons (s_asg 1 S.nd (i_lst a_nil))
      (b_cons (s_for hp rfl (d_enum T.z_enumerate (a_cons (i_var 0) a_nil)) (g_tup rfl (gs_cons (g_name 2 S.nd) (gs_cons (g_name 3 S.nd) gs_nil))) (b_one (s_if (i_cmpT (op_neD (hu64 hr)) c_ne (i_ix (i_callG (ok_turn_at T) (hr.mono (by decide)) hg tk (a_cons (i_ix (i_var 0) (i_bin op_sub b_sub (i_var 2) i_int)) (a_cons (i_var 3) (a_cons (i_ix (i_var 0) (i_bin op_modN b_mod (i_bin o_add b_add (i_var 2) i_int) (i_b1 call_len u_len T.z_len (i_var 0)))) a_nil)))) i_int) i_int (nomark _)) (b_one (s_expr (i_append (i_var 1) (i_var 3)))) b_nil)))
      (b_one (s_ret (i_var 1)))))⟩
theorem ok_turning_points (T : Tx K mg) : TakesG P w K mg base "turning_points" 4 1 ["points"] m_turning_points := by
  obtain ⟨fd, F, G⟩ := fk_turning_points (P := P) (w := w) (base := base) T
  exact ⟨_, fd, G, T.g_turning_points, F.kp, (F.bindsN fun _ _ _ _ _ _ us hl => match us, hl with | [_], _ => rfl)⟩
theorem sc_excess_at : FnScope ["row", "point", "told"] ["row", "point"] (defScope st_excess_at) := ⟨rfl, rfl, rfl, by decide +kernel, rfl, by decide +kernel, by decide +kernel⟩
theorem fk_excess_at (T : Tx K mg) : ∃ fd, FunD K "excess_at" "excess_at" (defArgs st_excess_at) (defBody st_excess_at) (defScope st_excess_at) [] [] (He.ga K "excess_at") fd ∧ FnG P w K mg base (L2.CX P w) 3 (He.ga K "excess_at") fd ["row", "point"] (spZ K mg 2 m_excess_at) := by
  obtain ⟨fd, F⟩ := T.d_excess_at
  have S := sc_excess_at
  exact ⟨fd, F, fn_okG (N := ["row", "point", "told"]) (k := 2) (n := 2) (mb := b_excess_at) F S rfl (by decide) fun cdv A outer s H E hr hg hp tk =>
      (b_cons (s_asg 2 S.nd (i_callG (ok_fraction_sum T) (hr.mono (by decide)) hg tk (a_cons (i_callG (ok_fraction_times T) (hr.mono (by decide)) hg tk (a_cons (i_ix (i_var 0) i_int) (a_cons (i_ix (i_var 1) i_int) a_nil))) (a_cons (i_callG (ok_fraction_times T) (hr.mono (by decide)) hg tk (a_cons (i_ix (i_var 0) i_int) (a_cons (i_ix (i_var 1) i_int) a_nil))) a_nil))))
      (b_one (s_ret (i_callG (ok_fraction_less T) (hr.mono (by decide)) hg tk (a_cons (i_var 2) (a_cons (i_ix (i_var 0) i_int) a_nil))))))⟩
theorem ok_excess_at (T : Tx K mg) : TakesG P w K mg base "excess_at" 3 2 ["row", "point"] m_excess_at := by
  obtain ⟨fd, F, G⟩ := fk_excess_at (P := P) (w := w) (base := base) T
  exact ⟨_, fd, G, T.g_excess_at, F.kp, (F.bindsN fun _ _ _ _ _ _ us hl => match us, hl with | [_, _], _ => rfl)⟩
theorem sc_between : FnScope ["one", "two", "share", "ways", "here", "there"] ["one", "two", "share"] (defScope st_between) := ⟨rfl, rfl, rfl, by decide +kernel, rfl, by decide +kernel, by decide +kernel⟩
theorem fk_between (T : Tx K mg) : ∃ fd, FunD K "between" "between" (defArgs st_between) (defBody st_between) (defScope st_between) [] [] (He.ga K "between") fd ∧ FnG P w K mg base (L2.CX P w) 3 (He.ga K "between") fd ["one", "two", "share"] (spZ K mg 3 m_between) := by
  obtain ⟨fd, F⟩ := T.d_between
  have S := sc_between
  exact ⟨fd, F, fn_okG (N := ["one", "two", "share", "ways", "here", "there"]) (k := 2) (n := 3) (mb := b_between) F S rfl (by decide) fun cdv A outer s H E hr hg hp tk =>
      (b_cons (s_setLc (own := [("here", 4), ("there", 5)]) rfl S.nd rfl rfl rfl (d_zip T.z_zip (a_cons (i_var 0) (a_cons (i_var 1) a_nil))) (show BlkOk ["one", "two", "share", "ways", "here", "there"] (defScope st_between) _ [("here", 4), ("there", 5)] from ⟨rfl, by decide +kernel, by decide +kernel, by decide +kernel, by decide +kernel⟩) (fun _ _ _ _ _ => (g_tup rfl (gs_cons (g_name 4 S.nd) (gs_cons (g_name 5 S.nd) gs_nil)))) (fun _ _ _ _ _ => t_nil) (fun _ _ _ _ _ => (i_callG (ok_fraction_times T) (hr.mono (by decide)) hg Z.takes0 (a_cons (i_var 2) (a_cons (i_callG (ok_fraction_less T) (hr.mono (by decide)) hg Z.takes0 (a_cons (i_var 5) (a_cons (i_var 4) a_nil))) a_nil)))) (by decide))
      (b_one (s_ret (i_tup (a_cons (i_callG (ok_fraction_sum T) (hr.mono (by decide)) hg tk (a_cons (i_ix (i_var 0) i_int) (a_cons (i_ix (i_var 3) i_int) a_nil))) (a_cons (i_callG (ok_fraction_sum T) (hr.mono (by decide)) hg tk (a_cons (i_ix (i_var 0) i_int) (a_cons (i_ix (i_var 3) i_int) a_nil))) a_nil))))))⟩
theorem ok_between (T : Tx K mg) : TakesG P w K mg base "between" 3 3 ["one", "two", "share"] m_between := by
  obtain ⟨fd, F, G⟩ := fk_between (P := P) (w := w) (base := base) T
  exact ⟨_, fd, G, T.g_between, F.kp, (F.bindsN fun _ _ _ _ _ _ us hl => match us, hl with | [_, _, _], _ => rfl)⟩
theorem sc_crossing : FnScope ["one", "two", "here", "there"] ["one", "two", "here", "there"] (defScope st_crossing) := ⟨rfl, rfl, rfl, by decide +kernel, rfl, by decide +kernel, by decide +kernel⟩
theorem fk_crossing (T : Tx K mg) : ∃ fd, FunD K "crossing" "crossing" (defArgs st_crossing) (defBody st_crossing) (defScope st_crossing) [] [] (He.ga K "crossing") fd ∧ FnG P w K mg base (L2.CX P w) 4 (He.ga K "crossing") fd ["one", "two", "here", "there"] (spZ K mg 4 m_crossing) := by
  obtain ⟨fd, F⟩ := T.d_crossing
  have S := sc_crossing
  exact ⟨fd, F, fn_okG (N := ["one", "two", "here", "there"]) (k := 3) (n := 4) (mb := b_crossing) F S rfl (by decide) fun cdv A outer s H E hr hg hp tk =>
      (b_one (s_ret (i_callG (ok_between T) (hr.mono (by decide)) hg tk (a_cons (i_var 0) (a_cons (i_var 1) (a_cons (i_callG (ok_fraction_over T) (hr.mono (by decide)) hg tk (a_cons (i_var 2) (a_cons (i_callG (ok_fraction_less T) (hr.mono (by decide)) hg tk (a_cons (i_var 2) (a_cons (i_var 3) a_nil))) a_nil))) a_nil))))))⟩
theorem ok_crossing (T : Tx K mg) : TakesG P w K mg base "crossing" 4 4 ["one", "two", "here", "there"] m_crossing := by
  obtain ⟨fd, F, G⟩ := fk_crossing (P := P) (w := w) (base := base) T
  exact ⟨_, fd, G, T.g_crossing, F.kp, (F.bindsN fun _ _ _ _ _ _ us hl => match us, hl with | [_, _, _, _], _ => rfl)⟩
theorem sc_clipped : FnScope ["points", "row", "found", "excesses", "index", "one", "behind", "here", "there", "point"] ["points", "row"] (defScope st_clipped) := ⟨rfl, rfl, rfl, by decide +kernel, rfl, by decide +kernel, by decide +kernel⟩
theorem fk_clipped (T : Tx K mg) : ∃ fd, FunD K "clipped" "clipped" (defArgs st_clipped) (defBody st_clipped) (defScope st_clipped) [] [] (He.ga K "clipped") fd ∧ FnG P w K mg base (L2.CX P w) 5 (He.ga K "clipped") fd ["points", "row"] (spZ K mg 2 m_clipped) := by
  obtain ⟨fd, F⟩ := T.d_clipped
  have S := sc_clipped
  exact ⟨fd, F, fn_okG (N := ["points", "row", "found", "excesses", "index", "one", "behind", "here", "there", "point"]) (k := 4) (n := 2) (mb := b_clipped) F S rfl (by decide) fun cdv A outer s H E hr hg hp tk =>
      (b_cons (s_par 2 3 rfl S.nd (h_cons (i_lst a_nil) (h_cons (i_lc (own := [("point", 9)]) rfl S.nd (d_val (i_var 0)) (show BlkOk ["points", "row", "found", "excesses", "index", "one", "behind", "here", "there", "point"] (defScope st_clipped) _ [("point", 9)] from ⟨rfl, by decide +kernel, by decide +kernel, by decide +kernel, by decide +kernel⟩) (fun _ _ _ _ _ => (g_name 9 S.nd)) (fun _ _ _ _ _ => t_nil) (fun _ _ _ _ _ => (i_callG (ok_excess_at T) (hr.mono (by decide)) hg Z.takes0 (a_cons (i_var 1) (a_cons (i_var 9) a_nil)))) (by decide)) h_nil)))
      (b_cons (s_for hp rfl (d_enum T.z_enumerate (a_cons (i_var 0) a_nil)) (g_tup rfl (gs_cons (g_name 4 S.nd) (gs_cons (g_name 5 S.nd) gs_nil))) (b_cons (s_asg 6 S.nd (i_bin op_modN b_mod (i_bin o_add b_add (i_var 4) i_int) (i_b1 call_len u_len T.z_len (i_var 0))))
      (b_cons (s_par 7 8 rfl S.nd (h_cons (i_ix (i_var 3) (i_var 4)) (h_cons (i_ix (i_var 3) (i_var 6)) h_nil)))
      (b_cons (s_if (i_cmpT op_le c_le (i_ix (i_var 7) i_int) i_int (nomark _)) (b_one (s_expr (i_append (i_var 2) (i_var 5)))) b_nil)
      (b_one (s_if (i_bool_ (w_or (i_chainT op_lt op_lt c_lt c_lt (i_ix (i_var 7) i_int) i_int (i_ix (i_var 8) i_int)) (w_or1 (i_chainT op_lt op_lt c_lt c_lt (i_ix (i_var 8) i_int) i_int (i_ix (i_var 7) i_int))))) (b_one (s_expr (i_append (i_var 2) (i_callG (ok_crossing T) (hr.mono (by decide)) hg tk (a_cons (i_var 5) (a_cons (i_ix (i_var 0) (i_var 6)) (a_cons (i_var 7) (a_cons (i_var 8) a_nil)))))))) b_nil))))))
      (b_one (s_ret (i_var 2)))))⟩
theorem ok_clipped (T : Tx K mg) : TakesG P w K mg base "clipped" 5 2 ["points", "row"] m_clipped := by
  obtain ⟨fd, F, G⟩ := fk_clipped (P := P) (w := w) (base := base) T
  exact ⟨_, fd, G, T.g_clipped, F.kp, (F.bindsN fun _ _ _ _ _ _ us hl => match us, hl with | [_, _], _ => rfl)⟩
theorem sc_unlike_points : FnScope ["points", "index", "point"] ["points"] (defScope st_unlike_points) := ⟨rfl, rfl, rfl, by decide +kernel, rfl, by decide +kernel, by decide +kernel⟩
theorem fk_unlike_points (T : Tx K mg) : ∃ fd, FunD K "unlike_points" "unlike_points" (defArgs st_unlike_points) (defBody st_unlike_points) (defScope st_unlike_points) [] [] (He.ga K "unlike_points") fd ∧ FnG P w K mg base (L2.CX P w) 1 (He.ga K "unlike_points") fd ["points"] (spZ K mg 1 m_unlike_points) := by
  obtain ⟨fd, F⟩ := T.d_unlike_points
  have S := sc_unlike_points
  exact ⟨fd, F, fn_okG (N := ["points", "index", "point"]) (k := 0) (n := 1) (mb := b_unlike_points) F S rfl (by decide) fun cdv A outer s H E hr hg hp tk =>
      (b_one (s_ret (i_lc (own := [("index", 1), ("point", 2)]) rfl S.nd (d_enum T.z_enumerate (a_cons (i_var 0) a_nil)) (show BlkOk ["points", "index", "point"] (defScope st_unlike_points) _ [("index", 1), ("point", 2)] from ⟨rfl, by decide +kernel, by decide +kernel, by decide +kernel, by decide +kernel⟩) (fun _ _ _ _ _ => (g_tup rfl (gs_cons (g_name 1 S.nd) (gs_cons (g_name 2 S.nd) gs_nil)))) (fun _ _ _ _ _ => (t_one (i_cmpT (op_ninA (hu65 hr)) c_nin (i_var 2) (i_sl (i_var 0) o_none (o_some (i_var 1))) rfl))) (fun _ _ _ _ _ => (i_var 2)) (by decide))))⟩
theorem ok_unlike_points (T : Tx K mg) : TakesG P w K mg base "unlike_points" 1 1 ["points"] m_unlike_points := by
  obtain ⟨fd, F, G⟩ := fk_unlike_points (P := P) (w := w) (base := base) T
  exact ⟨_, fd, G, T.g_unlike_points, F.kp, (F.bindsN fun _ _ _ _ _ _ us hl => match us, hl with | [_], _ => rfl)⟩
theorem sc_is_above : FnScope ["one", "two"] ["one", "two"] (defScope st_is_above) := ⟨rfl, rfl, rfl, by decide +kernel, rfl, by decide +kernel, by decide +kernel⟩
theorem fk_is_above (T : Tx K mg) : ∃ fd, FunD K "is_above" "is_above" (defArgs st_is_above) (defBody st_is_above) (defScope st_is_above) [] [] (He.ga K "is_above") fd ∧ FnG P w K mg base (L2.CX P w) 1 (He.ga K "is_above") fd ["one", "two"] (spZ K mg 2 m_is_above) := by
  obtain ⟨fd, F⟩ := T.d_is_above
  have S := sc_is_above
  exact ⟨fd, F, fn_okG (N := ["one", "two"]) (k := 0) (n := 2) (mb := b_is_above) F S rfl (by decide) fun cdv A outer s H E hr hg hp tk =>
      (b_one (s_ret (i_cmp op_gt c_gt (i_bin o_mul b_mul (i_ix (i_var 0) i_int) (i_ix (i_var 1) i_int)) (i_bin o_mul b_mul (i_ix (i_var 1) i_int) (i_ix (i_var 0) i_int)) (nomark _))))⟩
theorem ok_is_above (T : Tx K mg) : TakesG P w K mg base "is_above" 1 2 ["one", "two"] m_is_above := by
  obtain ⟨fd, F, G⟩ := fk_is_above (P := P) (w := w) (base := base) T
  exact ⟨_, fd, G, T.g_is_above, F.kp, (F.bindsN fun _ _ _ _ _ _ us hl => match us, hl with | [_, _], _ => rfl)⟩
theorem sc_is_less_point : FnScope ["one", "two"] ["one", "two"] (defScope st_is_less_point) := ⟨rfl, rfl, rfl, by decide +kernel, rfl, by decide +kernel, by decide +kernel⟩
theorem fk_is_less_point (T : Tx K mg) : ∃ fd, FunD K "is_less_point" "is_less_point" (defArgs st_is_less_point) (defBody st_is_less_point) (defScope st_is_less_point) [] [] (He.ga K "is_less_point") fd ∧ FnG P w K mg base (L2.CX P w) 2 (He.ga K "is_less_point") fd ["one", "two"] (spZ K mg 2 m_is_less_point) := by
  obtain ⟨fd, F⟩ := T.d_is_less_point
  have S := sc_is_less_point
  exact ⟨fd, F, fn_okG (N := ["one", "two"]) (k := 1) (n := 2) (mb := b_is_less_point) F S rfl (by decide) fun cdv A outer s H E hr hg hp tk =>
      (b_cons (s_if (i_cmpT (op_neD (hu64 hr)) c_ne (i_ix (i_var 0) i_int) (i_ix (i_var 1) i_int) (nomark _)) (b_one (s_ret (i_callG (ok_is_above T) (hr.mono (by decide)) hg tk (a_cons (i_ix (i_var 1) i_int) (a_cons (i_ix (i_var 0) i_int) a_nil))))) b_nil)
      (b_one (s_ret (i_callG (ok_is_above T) (hr.mono (by decide)) hg tk (a_cons (i_ix (i_var 1) i_int) (a_cons (i_ix (i_var 0) i_int) a_nil))))))⟩
theorem ok_is_less_point (T : Tx K mg) : TakesG P w K mg base "is_less_point" 2 2 ["one", "two"] m_is_less_point := by
  obtain ⟨fd, F, G⟩ := fk_is_less_point (P := P) (w := w) (base := base) T
  exact ⟨_, fd, G, T.g_is_less_point, F.kp, (F.bindsN fun _ _ _ _ _ _ us hl => match us, hl with | [_, _], _ => rfl)⟩
theorem sc_least_first : FnScope ["points", "at", "index", "point"] ["points"] (defScope st_least_first) := ⟨rfl, rfl, rfl, by decide +kernel, rfl, by decide +kernel, by decide +kernel⟩
theorem fk_least_first (T : Tx K mg) : ∃ fd, FunD K "least_first" "least_first" (defArgs st_least_first) (defBody st_least_first) (defScope st_least_first) [] [] (He.ga K "least_first") fd ∧ FnG P w K mg base (L2.CX P w) 3 (He.ga K "least_first") fd ["points"] (spZ K mg 1 m_least_first) := by
  obtain ⟨fd, F⟩ := T.d_least_first
  have S := sc_least_first
  exact ⟨fd, F, fn_okG (N := ["points", "at", "index", "point"]) (k := 2) (n := 1) (mb := b_least_first) F S rfl (by decide) fun cdv A outer s H E hr hg hp tk =>
      (b_cons (s_asg 1 S.nd i_int)
      (b_cons (s_for hp rfl (d_enum T.z_enumerate (a_cons (i_var 0) a_nil)) (g_tup rfl (gs_cons (g_name 2 S.nd) (gs_cons (g_name 3 S.nd) gs_nil))) (b_one (s_asg 1 S.nd (i_if (i_truth (i_callG (ok_is_less_point T) (hr.mono (by decide)) hg tk (a_cons (i_var 3) (a_cons (i_ix (i_var 0) (i_var 1)) a_nil)))) (i_var 2) (i_var 1)))))
      (b_one (s_ret (i_ty1 call_tuple_of u_tuple T.z_tuple (i_bin o_add b_add (i_sl (i_var 0) (o_some (i_var 1)) o_none) (i_sl (i_var 0) o_none (o_some (i_var 1)))))))))⟩
theorem ok_least_first (T : Tx K mg) : TakesG P w K mg base "least_first" 3 1 ["points"] m_least_first := by
  obtain ⟨fd, F, G⟩ := fk_least_first (P := P) (w := w) (base := base) T
  exact ⟨_, fd, G, T.g_least_first, F.kp, (F.bindsN fun _ _ _ _ _ _ us hl => match us, hl with | [_], _ => rfl)⟩
theorem sc_polygon_by : FnScope ["rows", "points", "row", "found"] ["rows"] (defScope st_polygon_by) := ⟨rfl, rfl, rfl, by decide +kernel, rfl, by decide +kernel, by decide +kernel⟩
theorem fk_polygon_by (T : Tx K mg) : ∃ fd, FunD K "polygon_by" "polygon_by" (defArgs st_polygon_by) (defBody st_polygon_by) (defScope st_polygon_by) [] [] (He.ga K "polygon_by") fd ∧ FnG P w K mg base (L2.CX P w) 6 (He.ga K "polygon_by") fd ["rows"] (spZ K mg 1 m_polygon_by) := by
  obtain ⟨fd, F⟩ := T.d_polygon_by
  have S := sc_polygon_by
  exact ⟨fd, F, fn_okG (N := ["rows", "points", "row", "found"]) (k := 5) (n := 1) (mb := b_polygon_by) F S rfl (by decide) fun cdv A outer s H E hr hg hp tk =>
      (b_cons (s_asg 1 S.nd (i_ty1 call_list_of u_list T.z_list (i_con T.k_SQUARE)))
      (b_cons (s_for hp rfl (d_val (i_var 0)) (g_name 2 S.nd) (b_one (s_asg 1 S.nd (i_callG (ok_clipped T) (hr.mono (by decide)) hg tk (a_cons (i_var 1) (a_cons (i_var 2) a_nil))))))
      (b_cons (s_asg 3 S.nd (i_callG (ok_turning_points T) (hr.mono (by decide)) hg tk (a_cons (i_callG (ok_unlike_points T) (hr.mono (by decide)) hg tk (a_cons (i_var 1) a_nil)) a_nil)))
      (b_one (s_ret (i_if (i_cmpT op_gt c_gt (i_b1 call_len u_len T.z_len (i_var 3)) i_int (nomark _)) (i_callG (ok_least_first T) (hr.mono (by decide)) hg tk (a_cons (i_var 3) a_nil)) (i_tup a_nil)))))))⟩
theorem ok_polygon_by (T : Tx K mg) : TakesG P w K mg base "polygon_by" 6 1 ["rows"] m_polygon_by := by
  obtain ⟨fd, F, G⟩ := fk_polygon_by (P := P) (w := w) (base := base) T
  exact ⟨_, fd, G, T.g_polygon_by, F.kp, (F.bindsN fun _ _ _ _ _ _ us hl => match us, hl with | [_], _ => rfl)⟩
theorem sc_area_by : FnScope ["rows", "points", "found", "one", "two"] ["rows"] (defScope st_area_by) := ⟨rfl, rfl, rfl, by decide +kernel, rfl, by decide +kernel, by decide +kernel⟩
theorem fk_area_by (T : Tx K mg) : ∃ fd, FunD K "area_by" "area_by" (defArgs st_area_by) (defBody st_area_by) (defScope st_area_by) [] [] (He.ga K "area_by") fd ∧ FnG P w K mg base (L2.CX P w) 7 (He.ga K "area_by") fd ["rows"] (spZ K mg 1 m_area_by) := by
  obtain ⟨fd, F⟩ := T.d_area_by
  have S := sc_area_by
  exact ⟨fd, F, fn_okG (N := ["rows", "points", "found", "one", "two"]) (k := 6) (n := 1) (mb := b_area_by) F S rfl (by decide) fun cdv A outer s H E hr hg hp tk =>
      (b_cons (s_par 1 2 rfl S.nd (h_cons (i_callG (ok_polygon_by T) (hr.mono (by decide)) hg tk (a_cons (i_var 0) a_nil)) (h_cons (i_con T.k_ZERO) h_nil)))
      (b_cons (s_for hp rfl (d_zip T.z_zip (a_cons (i_sl (i_var 1) (o_some i_int) o_none) (a_cons (i_sl (i_var 1) (o_some i_int) o_none) a_nil))) (g_tup rfl (gs_cons (g_name 3 S.nd) (gs_cons (g_name 4 S.nd) gs_nil))) (b_one (s_asg 2 S.nd (i_callG (ok_fraction_sum T) (hr.mono (by decide)) hg tk (a_cons (i_var 2) (a_cons (i_callG (ok_turn_at T) (hr.mono (by decide)) hg tk (a_cons (i_ix (i_var 1) i_int) (a_cons (i_var 3) (a_cons (i_var 4) a_nil)))) a_nil))))))
      (b_one (s_ret (i_callG (ok_fraction_times T) (hr.mono (by decide)) hg tk (a_cons (i_con T.k_HALF) (a_cons (i_var 2) a_nil)))))))⟩
theorem ok_area_by (T : Tx K mg) : TakesG P w K mg base "area_by" 7 1 ["rows"] m_area_by := by
  obtain ⟨fd, F, G⟩ := fk_area_by (P := P) (w := w) (base := base) T
  exact ⟨_, fd, G, T.g_area_by, F.kp, (F.bindsN fun _ _ _ _ _ _ us hl => match us, hl with | [_], _ => rfl)⟩
theorem sc_area : FnScope ["rows"] ["rows"] (defScope st_area) := ⟨rfl, rfl, rfl, by decide +kernel, rfl, by decide +kernel, by decide +kernel⟩
theorem fk_area (T : Tx K mg) : ∃ fd, FunD K "area" "area" (defArgs st_area) (defBody st_area) (defScope st_area) [] [] (He.ga K "area") fd ∧ FnG P w K mg base (L2.CX P w) 8 (He.ga K "area") fd ["rows"] (spZ K mg 1 m_area) := by
  obtain ⟨fd, F⟩ := T.d_area
  have S := sc_area
  exact ⟨fd, F, fn_okG (N := ["rows"]) (k := 7) (n := 1) (mb := b_area) F S rfl (by decide) fun cdv A outer s H E hr hg hp tk =>
      (b_cons (s_expr (i_callG (ok_check_rows T) (hr.mono (by decide)) hg tk (a_cons (i_var 0) a_nil)))
      (b_one (s_ret (i_callG (ok_area_by T) (hr.mono (by decide)) hg tk (a_cons (i_var 0) a_nil)))))⟩
theorem ok_area (T : Tx K mg) : TakesG P w K mg base "area" 8 1 ["rows"] m_area := by
  obtain ⟨fd, F, G⟩ := fk_area (P := P) (w := w) (base := base) T
  exact ⟨_, fd, G, T.g_area, F.kp, (F.bindsN fun _ _ _ _ _ _ us hl => match us, hl with | [_], _ => rfl)⟩
theorem okk_area_0_rows (T : Tx K mg) : TakesGK P w K mg base "area" 8 1 ["rows"] m_area 0 ["rows"] [0] := by
  obtain ⟨fd, F, G⟩ := fk_area (P := P) (w := w) (base := base) T
  exact ⟨_, fd, G, T.g_area, F.kp, funD_kbn F fun _ _ _ _ _ _ us ws h1 h2 => match us, ws, h1, h2 with | [], [v0], _, _ => rfl⟩
theorem sc_polygon : FnScope ["rows"] ["rows"] (defScope st_polygon) := ⟨rfl, rfl, rfl, by decide +kernel, rfl, by decide +kernel, by decide +kernel⟩
theorem fk_polygon (T : Tx K mg) : ∃ fd, FunD K "polygon" "polygon" (defArgs st_polygon) (defBody st_polygon) (defScope st_polygon) [] [] (He.ga K "polygon") fd ∧ FnG P w K mg base (L2.CX P w) 7 (He.ga K "polygon") fd ["rows"] (spZ K mg 1 m_polygon) := by
  obtain ⟨fd, F⟩ := T.d_polygon
  have S := sc_polygon
  exact ⟨fd, F, fn_okG (N := ["rows"]) (k := 6) (n := 1) (mb := b_polygon) F S rfl (by decide) fun cdv A outer s H E hr hg hp tk =>
      (b_cons (s_expr (i_callG (ok_check_rows T) (hr.mono (by decide)) hg tk (a_cons (i_var 0) a_nil)))
      (b_one (s_ret (i_callG (ok_polygon_by T) (hr.mono (by decide)) hg tk (a_cons (i_var 0) a_nil)))))⟩
theorem ok_polygon (T : Tx K mg) : TakesG P w K mg base "polygon" 7 1 ["rows"] m_polygon := by
  obtain ⟨fd, F, G⟩ := fk_polygon (P := P) (w := w) (base := base) T
  exact ⟨_, fd, G, T.g_polygon, F.kp, (F.bindsN fun _ _ _ _ _ _ us hl => match us, hl with | [_], _ => rfl)⟩
theorem okk_polygon_0_rows (T : Tx K mg) : TakesGK P w K mg base "polygon" 7 1 ["rows"] m_polygon 0 ["rows"] [0] := by
  obtain ⟨fd, F, G⟩ := fk_polygon (P := P) (w := w) (base := base) T
  exact ⟨_, fd, G, T.g_polygon, F.kp, funD_kbn F fun _ _ _ _ _ _ us ws h1 h2 => match us, ws, h1, h2 with | [], [v0], _, _ => rfl⟩
theorem sc__law_heard : FnScope ["way", "args", "by_name", "e", "found"] ["way", "args", "by_name"] (defScope st__law_heard) := ⟨rfl, rfl, rfl, by decide +kernel, rfl, by decide +kernel, by decide +kernel⟩
theorem fk__law_heard (T : Tx K mg) : ∃ fd, FunD K "_law_heard" "_law_heard" (defArgs st__law_heard) (defBody st__law_heard) (defScope st__law_heard) [] [] (He.ga K "_law_heard") fd ∧ FnG P w K mg base (L2.CX P w) 9 (He.ga K "_law_heard") fd ["way", "args", "by_name"] (spZ K mg 3 m__law_heard) := by
  obtain ⟨fd, F⟩ := T.d__law_heard
  have S := sc__law_heard
  exact ⟨fd, F, fn_okG (N := ["way", "args", "by_name", "e", "found"]) (k := 8) (n := 3) (mb := b__law_heard) F S rfl (by decide) fun cdv A outer s H E hr hg hp tk =>
      (b_cons (s_try tk (fun _ _ _ tk hp => (b_one (s_if (i_bool_ (w_and (i_cmpT (op_eqD (hu64 hr)) c_eq (i_var 0) i_int (nomark _)) (w_and1 (i_truth (i_var 2))))) (b_one (s_expr (i_callGK0 (okk_part_below_0_bound_row T) (hr.mono (by decide)) hg tk (k_cons (i_ix (i_var 1) i_int) (k_cons (i_ix (i_var 1) i_int) k_nil))))) (b_one (s_if (i_cmpT (op_eqD (hu64 hr)) c_eq (i_var 0) i_int (nomark _)) (b_one (s_expr (i_callG (ok_part_below T) (hr.mono (by decide)) hg tk (a_cons (i_ix (i_var 1) i_int) (a_cons (i_ix (i_var 1) i_int) a_nil))))) (b_one (s_if (i_truth (i_var 2)) (b_one (s_expr (i_if (i_cmpT (op_eqD (hu64 hr)) c_eq (i_var 0) i_int (nomark _)) (i_callGK0 (okk_area_0_rows T) (hr.mono (by decide)) hg tk (k_cons (i_ix (i_var 1) i_int) k_nil)) (i_callGK0 (okk_polygon_0_rows T) (hr.mono (by decide)) hg tk (k_cons (i_ix (i_var 1) i_int) k_nil))))) (b_one (s_expr (i_if (i_cmpT (op_eqD (hu64 hr)) c_eq (i_var 0) i_int (nomark _)) (i_callG (ok_area T) (hr.mono (by decide)) hg tk (a_cons (i_ix (i_var 1) i_int) a_nil)) (i_callG (ok_polygon T) (hr.mono (by decide)) hg tk (a_cons (i_ix (i_var 1) i_int) a_nil)))))))))))) (.as ⟨rfl, by decide, .inl T.gc_DrawError⟩ S.nd rfl rfl T.t_DrawError (fun _ _ => (b_cons (s_asg 4 S.nd (i_if (i_truth (i_isE T.z_isinstance T.gc_InvalidRow T.i_InvalidRow (i_var 3))) (i_lst (a_cons (i_lst (a_cons i_str (a_cons (i_xf T.x_index (i_var 3)) a_nil))) a_nil)) (i_lst a_nil)))
      (b_cons (s_asg 4 S.nd (i_bin o_add b_add (i_var 4) (i_if (i_truth (i_isE T.z_isinstance T.gc_InvalidFraction T.i_InvalidFraction (i_var 3))) (i_lst (a_cons (i_lst (a_cons i_str (a_cons (i_xf T.x_given (i_var 3)) a_nil))) a_nil)) (i_lst a_nil))))
      (b_one (s_ret (i_if (i_bool_ (w_and (i_cmpT (op_eqD (by have z := hu64 hr; exact z)) c_eq (i_b1 call_len u_len T.z_len (i_var 4)) i_int (nomark _)) (w_and1 (i_truth (i_isB T.z_isinstance T.z_ValueError T.i_ValueError (i_var 3)))))) (i_ix (i_var 4) i_int) (i_lst (a_cons i_str (a_cons (i_var 4) a_nil))))))))) .nil))
      (b_one (s_ret (i_lst (a_cons i_str (a_cons i_none a_nil))))))⟩
theorem ok__law_heard (T : Tx K mg) : TakesG P w K mg base "_law_heard" 9 3 ["way", "args", "by_name"] m__law_heard := by
  obtain ⟨fd, F, G⟩ := fk__law_heard (P := P) (w := w) (base := base) T
  exact ⟨_, fd, G, T.g__law_heard, F.kp, (F.bindsN fun _ _ _ _ _ _ us hl => match us, hl with | [_, _, _], _ => rfl)⟩
theorem sc__law_f : FnScope ["top", "bottom", "a", "b"] ["top", "bottom"] (defScope st__law_f) := ⟨rfl, rfl, rfl, by decide +kernel, rfl, by decide +kernel, by decide +kernel⟩
theorem fk__law_f (T : Tx K mg) : ∃ fd, FunD K "_law_f" "_law_f" (defArgs st__law_f) (defBody st__law_f) (defScope st__law_f) [] [] (He.ga K "_law_f") fd ∧ FnG P w K mg base (L2.CX P w) 1 (He.ga K "_law_f") fd ["top", "bottom"] (spZ K mg 2 m__law_f) := by
  obtain ⟨fd, F⟩ := T.d__law_f
  have S := sc__law_f
  exact ⟨fd, F, fn_okG (N := ["top", "bottom", "a", "b"]) (k := 0) (n := 2) (mb := b__law_f) F S rfl (by decide) fun cdv A outer s H E hr hg hp tk =>
      (b_cons (s_par 2 3 rfl S.nd (h_cons (i_b1 call_abs u_abs T.z_abs (i_var 0)) (h_cons (i_b1 call_abs u_abs T.z_abs (i_var 1)) h_nil)))
      (b_cons (s_while 100000 hp (i_cmpT op_gt c_gt (i_var 3) i_int (nomark _)) (b_one (s_par 2 3 rfl S.nd (h_cons (i_var 3) (h_cons (i_bin op_modN b_mod (i_ty1 call_int1 u_int T.z_int (i_var 2)) (i_var 3)) h_nil)))))
      (b_cons (s_asg 2 S.nd (i_if (i_cmpT op_gt c_gt (i_var 1) i_int (nomark _)) (i_var 2) (i_bin op_sub b_sub i_int (i_var 2))))
      (b_one (s_ret (i_tup (a_cons (i_bin op_fdivA b_fdiv (i_var 0) (i_var 2)) (a_cons (i_bin op_fdivA b_fdiv (i_var 1) (i_var 2)) a_nil))))))))⟩
theorem ok__law_f (T : Tx K mg) : TakesG P w K mg base "_law_f" 1 2 ["top", "bottom"] m__law_f := by
  obtain ⟨fd, F, G⟩ := fk__law_f (P := P) (w := w) (base := base) T
  exact ⟨_, fd, G, T.g__law_f, F.kp, (F.bindsN fun _ _ _ _ _ _ us hl => match us, hl with | [_, _], _ => rfl)⟩
theorem sc__law_some : FnScope ["pool"] ["pool"] (defScope st__law_some) := ⟨rfl, rfl, rfl, by decide +kernel, rfl, by decide +kernel, by decide +kernel⟩
theorem fk__law_some (T : Tx K mg) : ∃ fd, FunD K "_law_some" "_law_some" (defArgs st__law_some) (defBody st__law_some) (defScope st__law_some) [] [] (He.ga K "_law_some") fd ∧ FnG P w K mg base (L2.CX P w) 2 (He.ga K "_law_some") fd ["pool"] (spZ K mg 1 m__law_some) := by
  obtain ⟨fd, F⟩ := T.d__law_some
  have S := sc__law_some
  exact ⟨fd, F, fn_okG (N := ["pool"]) (k := 1) (n := 1) (mb := b__law_some) F S rfl (by decide) fun cdv A outer s H E hr hg hp tk =>
      (b_one (s_ret (i_callG (ok__law_f T) (hr.mono (by decide)) hg tk (a_cons (i_bin op_sub b_sub (i_callG (ok__law_draw T) (hr.mono (by decide)) hg tk (a_cons (i_var 0) (a_cons i_int a_nil))) i_int) (a_cons (i_bin o_add b_add i_int (i_callG (ok__law_draw T) (hr.mono (by decide)) hg tk (a_cons (i_var 0) (a_cons i_int a_nil)))) a_nil)))))⟩
theorem ok__law_some (T : Tx K mg) : TakesG P w K mg base "_law_some" 2 1 ["pool"] m__law_some := by
  obtain ⟨fd, F, G⟩ := fk__law_some (P := P) (w := w) (base := base) T
  exact ⟨_, fd, G, T.g__law_some, F.kp, (F.bindsN fun _ _ _ _ _ _ us hl => match us, hl with | [_], _ => rfl)⟩
theorem sc__law_right : FnScope ["pool", "turn", "row", "rows", "bad", "thing", "index", "bound", "good", "odd", "part", "k", "way"] ["pool"] (defScope st__law_right) := ⟨rfl, rfl, rfl, by decide +kernel, rfl, by decide +kernel, by decide +kernel⟩
theorem fk__law_right (T : Tx K mg) : ∃ fd, FunD K "_law_right" "_law_right" (defArgs st__law_right) (defBody st__law_right) (defScope st__law_right) [] [] (He.ga K "_law_right") fd ∧ FnG P w K mg base (L2.CX P w) 10 (He.ga K "_law_right") fd ["pool"] (spZ K mg 1 m__law_right) := by
  obtain ⟨fd, F⟩ := T.d__law_right
  have S := sc__law_right
  exact ⟨fd, F, fn_okG (N := ["pool", "turn", "row", "rows", "bad", "thing", "index", "bound", "good", "odd", "part", "k", "way"]) (k := 9) (n := 1) (mb := b__law_right) F S rfl (by decide) fun cdv A outer s H E hr hg hp tk =>
      (b_cons (s_for hp rfl (d_range T.z_range (a_cons i_int a_nil)) (g_name 1 S.nd) (b_cons (s_asg 2 S.nd (i_ty1 call_tuple_of u_tuple T.z_tuple (i_lc (own := [("part", 10)]) rfl S.nd (d_val (i_lc (own := [("k", 11)]) rfl S.nd (d_range T.z_range (a_cons (i_callG (ok__law_draw T) (hr.mono (by decide)) hg tk (a_cons (i_var 0) (a_cons i_int a_nil))) a_nil)) (show BlkOk ["pool", "turn", "row", "rows", "bad", "thing", "index", "bound", "good", "odd", "part", "k", "way"] (defScope st__law_right) _ [("k", 11)] from ⟨rfl, by decide +kernel, by decide +kernel, by decide +kernel, by decide +kernel⟩) (fun _ _ _ _ _ => (g_name 11 S.nd)) (fun _ _ _ _ _ => t_nil) (fun _ _ _ _ _ => (i_callG (ok__law_some T) (hr.mono (by decide)) hg Z.takes0 (a_cons (i_var 0) a_nil))) (by decide))) (show BlkOk ["pool", "turn", "row", "rows", "bad", "thing", "index", "bound", "good", "odd", "part", "k", "way"] (defScope st__law_right) _ [("part", 10)] from ⟨rfl, by decide +kernel, by decide +kernel, by decide +kernel, by decide +kernel⟩) (fun _ _ _ _ _ => (g_name 10 S.nd)) (fun _ _ _ _ _ => (t_one (i_cmpT (op_neD (hu64 hr)) c_ne (i_ix (i_var 10) i_int) i_int (nomark _)))) (fun _ _ _ _ _ => (i_var 10)) (by decide))))
      (b_cons (s_asg 3 S.nd (i_ty1 call_tuple_of u_tuple T.z_tuple (i_lc (own := [("k", 11)]) rfl S.nd (d_range T.z_range (a_cons (i_callG (ok__law_draw T) (hr.mono (by decide)) hg tk (a_cons (i_var 0) (a_cons i_int a_nil))) a_nil)) (show BlkOk ["pool", "turn", "row", "rows", "bad", "thing", "index", "bound", "good", "odd", "part", "k", "way"] (defScope st__law_right) _ [("k", 11)] from ⟨rfl, by decide +kernel, by decide +kernel, by decide +kernel, by decide +kernel⟩) (fun _ _ _ _ _ => (g_name 11 S.nd)) (fun _ _ _ _ _ => t_nil) (fun _ _ _ _ _ => (i_tup (a_cons (i_callG (ok__law_some T) (hr.mono (by decide)) hg Z.takes0 (a_cons (i_var 0) a_nil)) (a_cons (i_callG (ok__law_some T) (hr.mono (by decide)) hg Z.takes0 (a_cons (i_var 0) a_nil)) (a_cons (i_callG (ok__law_some T) (hr.mono (by decide)) hg Z.takes0 (a_cons (i_var 0) a_nil)) a_nil))))) (by decide))))
      (b_cons (s_setLc (own := [("thing", 5)]) rfl S.nd rfl rfl rfl (d_val (i_lst (a_cons i_none (a_cons i_int (a_cons i_str (a_cons (i_ty1 call_list_of u_list T.z_list (i_var 2)) (a_cons i_dict0 (a_cons (i_bin o_mul b_mul (i_tup (a_cons (i_tup (a_cons i_int (a_cons i_int a_nil))) a_nil)) i_int) a_nil)))))))) (show BlkOk ["pool", "turn", "row", "rows", "bad", "thing", "index", "bound", "good", "odd", "part", "k", "way"] (defScope st__law_right) _ [("thing", 5)] from ⟨rfl, by decide +kernel, by decide +kernel, by decide +kernel, by decide +kernel⟩) (fun _ _ _ _ _ => (g_name 5 S.nd)) (fun _ _ _ _ _ => t_nil) (fun _ _ _ _ _ => (i_lst (a_cons (i_var 5) (a_cons i_none a_nil)))) (by decide))
      (b_cons (s_asg 4 S.nd (i_bin o_add b_add (i_var 4) (i_lc (own := [("thing", 5)]) rfl S.nd (d_val (i_lst (a_cons (i_tup (a_cons i_int (a_cons i_int a_nil))) (a_cons (i_tup (a_cons i_int (a_cons i_int a_nil))) (a_cons (i_tup (a_cons i_int (a_cons i_int a_nil))) (a_cons i_int (a_cons i_none (a_cons i_bool (a_cons i_str (a_cons (i_lst (a_cons i_int (a_cons i_int a_nil))) (a_cons (i_tup (a_cons i_int (a_cons i_int (a_cons i_int a_nil)))) (a_cons (i_tup (a_cons i_int (a_cons i_bool a_nil))) a_nil)))))))))))) (show BlkOk ["pool", "turn", "row", "rows", "bad", "thing", "index", "bound", "good", "odd", "part", "k", "way"] (defScope st__law_right) _ [("thing", 5)] from ⟨rfl, by decide +kernel, by decide +kernel, by decide +kernel, by decide +kernel⟩) (fun _ _ _ _ _ => (g_name 5 S.nd)) (fun _ _ _ _ _ => t_nil) (fun _ _ _ _ _ => (i_lst (a_cons (i_bin o_add b_add (i_var 2) (i_tup (a_cons (i_var 5) a_nil))) (a_cons (i_b1 call_len u_len T.z_len (i_var 2)) a_nil)))) (by decide))))
      (b_cons (s_for hp rfl (d_val (i_var 4)) (g_tup rfl (gs_cons (g_name 5 S.nd) (gs_cons (g_name 6 S.nd) gs_nil))) (b_cons (s_asg 7 S.nd (i_callG (ok__law_pick T) (hr.mono (by decide)) hg tk (a_cons (i_var 0) (a_cons (i_lst (a_cons (i_tup (a_cons i_int (a_cons i_int a_nil))) (a_cons i_none (a_cons i_int a_nil)))) a_nil))))
      (b_one (s_if (i_cmpT (op_neD (hu64 hr)) c_ne (i_b1 (call_repr (hu65 hr) hg) u_repr T.z_repr (i_callG (ok__law_heard T) (hr.mono (by decide)) hg tk (a_cons i_int (a_cons (i_tup (a_cons (i_var 5) (a_cons (i_var 7) a_nil))) (a_cons (i_cmp (op_eqD (hu64 hr)) c_eq (i_callG (ok__law_draw T) (hr.mono (by decide)) hg tk (a_cons (i_var 0) (a_cons i_int a_nil))) i_int (nomark _)) a_nil))))) (i_b1 (call_repr (hu65 hr) hg) u_repr T.z_repr (i_lst (a_cons i_str (a_cons (i_var 6) a_nil)))) (nomark _)) (b_one (s_ret i_bool)) b_nil))))
      (b_cons (s_for hp rfl (d_val (i_lst (a_cons i_none (a_cons i_int (a_cons (i_tup (a_cons i_int (a_cons i_int a_nil))) (a_cons (i_tup (a_cons i_int (a_cons i_int a_nil))) (a_cons i_str (a_cons (i_lst (a_cons i_int (a_cons i_int a_nil))) (a_cons (i_tup (a_cons i_int (a_cons i_int (a_cons i_int a_nil)))) (a_cons i_bool a_nil)))))))))) (g_name 5 S.nd) (b_one (s_if (i_cmpT (op_neD (hu64 hr)) c_ne (i_b1 (call_repr (hu65 hr) hg) u_repr T.z_repr (i_callG (ok__law_heard T) (hr.mono (by decide)) hg tk (a_cons i_int (a_cons (i_tup (a_cons (i_var 2) (a_cons (i_var 5) a_nil))) (a_cons (i_cmp (op_eqD (hu64 hr)) c_eq (i_callG (ok__law_draw T) (hr.mono (by decide)) hg tk (a_cons (i_var 0) (a_cons i_int a_nil))) i_int (nomark _)) a_nil))))) (i_b1 (call_repr (hu65 hr) hg) u_repr T.z_repr (i_lst (a_cons i_str (a_cons (i_var 5) a_nil)))) (nomark _)) (b_one (s_ret i_bool)) b_nil)))
      (b_cons (s_asg 8 S.nd (i_sl (i_var 3) o_none (o_some i_int)))
      (b_cons (s_setLc (own := [("thing", 5)]) rfl S.nd rfl rfl rfl (d_val (i_lst (a_cons i_none (a_cons i_int (a_cons i_str (a_cons (i_ty1 call_list_of u_list T.z_list (i_var 3)) (a_cons i_dict0 (a_cons (i_bin o_mul b_mul (i_tup (a_cons (i_bin o_mul b_mul (i_tup (a_cons (i_tup (a_cons i_int (a_cons i_int a_nil))) a_nil)) i_int) a_nil)) i_int) a_nil)))))))) (show BlkOk ["pool", "turn", "row", "rows", "bad", "thing", "index", "bound", "good", "odd", "part", "k", "way"] (defScope st__law_right) _ [("thing", 5)] from ⟨rfl, by decide +kernel, by decide +kernel, by decide +kernel, by decide +kernel⟩) (fun _ _ _ _ _ => (g_name 5 S.nd)) (fun _ _ _ _ _ => t_nil) (fun _ _ _ _ _ => (i_lst (a_cons (i_var 5) (a_cons i_none a_nil)))) (by decide))
      (b_cons (s_asg 9 S.nd (i_bin o_add b_add (i_var 9) (i_lc (own := [("thing", 5)]) rfl S.nd (d_val (i_lst (a_cons i_none (a_cons (i_tup a_nil) (a_cons (i_tup (a_cons (i_tup (a_cons i_int (a_cons i_int a_nil))) (a_cons (i_tup (a_cons i_int (a_cons i_int a_nil))) a_nil))) (a_cons (i_bin o_mul b_mul (i_tup (a_cons (i_tup (a_cons i_int (a_cons i_int a_nil))) a_nil)) i_int) (a_cons (i_bin o_mul b_mul (i_lst (a_cons (i_tup (a_cons i_int (a_cons i_int a_nil))) a_nil)) i_int) (a_cons (i_tup (a_cons (i_tup (a_cons i_int (a_cons i_int a_nil))) (a_cons (i_tup (a_cons i_int (a_cons i_int a_nil))) (a_cons i_int a_nil)))) (a_cons (i_tup (a_cons (i_tup (a_cons i_int (a_cons i_int a_nil))) (a_cons (i_tup (a_cons i_int (a_cons i_int a_nil))) (a_cons (i_tup (a_cons i_int (a_cons i_int a_nil))) a_nil)))) (a_cons (i_tup (a_cons (i_tup (a_cons i_int (a_cons i_int a_nil))) (a_cons i_none (a_cons (i_tup (a_cons i_int (a_cons i_int a_nil))) a_nil)))) (a_cons i_int a_nil))))))))))) (show BlkOk ["pool", "turn", "row", "rows", "bad", "thing", "index", "bound", "good", "odd", "part", "k", "way"] (defScope st__law_right) _ [("thing", 5)] from ⟨rfl, by decide +kernel, by decide +kernel, by decide +kernel, by decide +kernel⟩) (fun _ _ _ _ _ => (g_name 5 S.nd)) (fun _ _ _ _ _ => t_nil) (fun _ _ _ _ _ => (i_lst (a_cons (i_bin o_add b_add (i_var 8) (i_tup (a_cons (i_var 5) a_nil))) (a_cons (i_b1 call_len u_len T.z_len (i_var 8)) a_nil)))) (by decide))))
      (b_cons (s_for hp rfl (d_val (i_var 9)) (g_tup rfl (gs_cons (g_name 5 S.nd) (gs_cons (g_name 6 S.nd) gs_nil))) (b_one (s_if (i_cmpT (op_neD (hu64 hr)) c_ne (i_b1 (call_repr (hu65 hr) hg) u_repr T.z_repr (i_lc (own := [("way", 12)]) rfl S.nd (d_val (i_tup (a_cons i_int (a_cons i_int a_nil)))) (show BlkOk ["pool", "turn", "row", "rows", "bad", "thing", "index", "bound", "good", "odd", "part", "k", "way"] (defScope st__law_right) _ [("way", 12)] from ⟨rfl, by decide +kernel, by decide +kernel, by decide +kernel, by decide +kernel⟩) (fun _ _ _ _ _ => (g_name 12 S.nd)) (fun _ _ _ _ _ => t_nil) (fun _ _ _ _ _ => (i_callG (ok__law_heard T) (hr.mono (by decide)) hg Z.takes0 (a_cons (i_var 12) (a_cons (i_tup (a_cons (i_var 5) a_nil)) (a_cons (i_cmp (op_eqD (hu64 hr)) c_eq (i_callG (ok__law_draw T) (hr.mono (by decide)) hg Z.takes0 (a_cons (i_var 0) (a_cons i_int a_nil))) i_int (nomark _)) a_nil))))) (by decide))) (i_b1 (call_repr (hu65 hr) hg) u_repr T.z_repr (i_bin o_mul b_mul (i_lst (a_cons (i_lst (a_cons i_str (a_cons (i_var 6) a_nil))) a_nil)) i_int)) (nomark _)) (b_one (s_ret i_bool)) b_nil)))
      (b_one (s_if (i_cmpT (op_neD (hu64 hr)) c_ne (i_lst (a_cons (i_callG (ok__law_heard T) (hr.mono (by decide)) hg tk (a_cons i_int (a_cons (i_tup (a_cons (i_var 2) (a_cons (i_tup (a_cons i_int (a_cons i_int a_nil))) a_nil))) (a_cons i_bool a_nil)))) (a_cons (i_callG (ok__law_heard T) (hr.mono (by decide)) hg tk (a_cons i_int (a_cons (i_tup (a_cons (i_var 2) (a_cons (i_tup (a_cons (i_bin op_sub b_sub i_int i_int) (a_cons i_int a_nil))) a_nil))) (a_cons i_bool a_nil)))) (a_cons (i_callG (ok__law_heard T) (hr.mono (by decide)) hg tk (a_cons i_int (a_cons (i_tup (a_cons (i_var 3) a_nil)) (a_cons i_bool a_nil)))) (a_cons (i_callG (ok__law_heard T) (hr.mono (by decide)) hg tk (a_cons i_int (a_cons (i_tup (a_cons (i_var 3) a_nil)) (a_cons i_bool a_nil)))) a_nil))))) (i_bin o_mul b_mul (i_lst (a_cons (i_lst (a_cons i_str (a_cons i_none a_nil))) a_nil)) i_int) (nomark _)) (b_one (s_ret i_bool)) b_nil)))))))))))))
      (b_one (s_ret (i_and (i_cmp (op_eqD (hu64 hr)) c_eq (i_callG (ok__law_heard T) (hr.mono (by decide)) hg tk (a_cons i_int (a_cons (i_tup (a_cons (i_tup a_nil) (a_cons (i_tup (a_cons i_int (a_cons i_int a_nil))) a_nil))) (a_cons i_bool a_nil)))) (i_lst (a_cons i_str (a_cons i_none a_nil))) (nomark _)) (i_and (i_cmp (op_eqD (hu64 hr)) c_eq (i_callG (ok__law_heard T) (hr.mono (by decide)) hg tk (a_cons i_int (a_cons (i_tup (a_cons (i_bin o_mul b_mul (i_tup (a_cons (i_tup (a_cons i_int (a_cons i_int a_nil))) a_nil)) i_int) (a_cons (i_tup (a_cons i_int (a_cons i_int a_nil))) a_nil))) (a_cons i_bool a_nil)))) (i_lst (a_cons i_str (a_cons i_none a_nil))) (nomark _)) (i_one (i_cmp (op_eqD (hu64 hr)) c_eq (i_callG (ok__law_heard T) (hr.mono (by decide)) hg tk (a_cons i_int (a_cons (i_tup (a_cons (i_bin o_mul b_mul (i_tup (a_cons (i_bin o_mul b_mul (i_tup (a_cons (i_tup (a_cons i_int (a_cons i_int a_nil))) a_nil)) i_int) a_nil)) i_int) a_nil)) (a_cons i_bool a_nil)))) (i_lst (a_cons i_str (a_cons i_none a_nil))) (nomark _))))))))⟩
theorem ok__law_right (T : Tx K mg) : TakesG P w K mg base "_law_right" 10 1 ["pool"] m__law_right := by
  obtain ⟨fd, F, G⟩ := fk__law_right (P := P) (w := w) (base := base) T
  exact ⟨_, fd, G, T.g__law_right, F.kp, (F.bindsN fun _ _ _ _ _ _ us hl => match us, hl with | [_], _ => rfl)⟩
theorem sc__law_pool : FnScope ["script", "turn", "own", "stirred", "cell"] ["script", "turn"] (defScope st__law_pool) := ⟨rfl, rfl, rfl, by decide +kernel, rfl, by decide +kernel, by decide +kernel⟩
theorem fk__law_pool (T : Tx K mg) : ∃ fd, FunD K "_law_pool" "_law_pool" (defArgs st__law_pool) (defBody st__law_pool) (defScope st__law_pool) [] [] (He.ga K "_law_pool") fd ∧ FnG P w K mg base (L2.CX P w) 1 (He.ga K "_law_pool") fd ["script", "turn"] (spZ K mg 2 m__law_pool) := by
  obtain ⟨fd, F⟩ := T.d__law_pool
  have S := sc__law_pool
  exact ⟨fd, F, fn_okG (N := ["script", "turn", "own", "stirred", "cell"]) (k := 0) (n := 2) (mb := b__law_pool) F S rfl (by decide) fun cdv A outer s H E hr hg hp tk =>
      (b_cons (s_par 2 3 rfl S.nd (h_cons (i_if (i_cmpT op_lt c_lt (i_var 1) (i_b1 call_len u_len T.z_len (i_var 0)) (nomark _)) (i_ty1 call_int1 u_int T.z_int (i_ix (i_var 0) (i_var 1))) (i_bin o_add b_add (i_bin o_mul b_mul i_int (i_var 1)) i_int)) (h_cons (i_bin o_add b_add i_int (i_bin o_mul b_mul i_int (i_var 1))) h_nil)))
      (b_cons (s_for hp rfl (d_val (i_sl (i_var 0) o_none (o_some i_int))) (g_name 4 S.nd) (b_one (s_asg 3 S.nd (i_bin op_modN b_mod (i_ty1 call_int1 u_int T.z_int (i_bin o_add b_add (i_bin o_add b_add (i_bin o_mul b_mul (i_var 3) i_int) (i_bin op_modN b_mod (i_ty1 call_int1 u_int T.z_int (i_var 4)) i_int)) i_int)) i_int))))
      (b_one (s_ret (i_new (a_cons (i_bin op_modN b_mod (i_ty1 call_int1 u_int T.z_int (i_bin o_add b_add (i_var 3) (i_bin o_mul b_mul (i_var 2) i_int))) i_int) (a_cons (i_if (i_bool_ (w_or (i_cmpT op_lt c_lt (i_var 2) i_int (nomark _)) (w_or1 (i_cmpT op_ge c_ge (i_var 2) (i_bin op_pow b_pow i_int i_int) (nomark _))))) (i_b1 call_abs u_abs T.z_abs (i_var 2)) i_int) (a_cons i_int a_nil))))))))⟩
theorem ok__law_pool (T : Tx K mg) : TakesG P w K mg base "_law_pool" 1 2 ["script", "turn"] m__law_pool := by
  obtain ⟨fd, F, G⟩ := fk__law_pool (P := P) (w := w) (base := base) T
  exact ⟨_, fd, G, T.g__law_pool, F.kp, (F.bindsN fun _ _ _ _ _ _ us hl => match us, hl with | [_, _], _ => rfl)⟩
theorem sc_law : FnScope ["script", "turn"] ["script"] (defScope st_law) := ⟨rfl, rfl, rfl, by decide +kernel, rfl, by decide +kernel, by decide +kernel⟩
theorem fn_law (T : Tx K mg) {fd : FuncData} (F : FunD K "law" "law" (defArgs st_law) (defBody st_law) (defScope st_law) [] [] (He.ga K "law") fd) : FnG P w K mg base (L2.CX P w) 11 (He.ga K "law") fd ["script"] (spZ K mg 1 m_law) := by
  have S := sc_law
  exact fn_okG (N := ["script", "turn"]) (k := 10) (n := 1) (mb := b_law) F S rfl (by decide) fun cdv A outer s H E hr hg hp tk =>
      (b_cons (s_for hp rfl (d_range T.z_range (a_cons (i_b2 (call_max2 rfl) u_max2 T.z_max i_int (i_b2 (call_min2 rfl) u_min2 T.z_min (i_b1 call_len u_len T.z_len (i_var 0)) i_int)) a_nil)) (g_name 1 S.nd) (b_one (s_if (i_notT (i_truth (i_callG (ok__law_right T) (hr.mono (by decide)) hg tk (a_cons (i_callG (ok__law_pool T) (hr.mono (by decide)) hg tk (a_cons (i_var 0) (a_cons (i_var 1) a_nil))) a_nil)))) (b_one (s_ret i_bool)) b_nil)))
      (b_one (s_ret i_bool)))
end
/-! ### the head -/
def dd__law_draw : He.DefD := ⟨("_law_draw", none), "_law_draw", "_law_draw", defArgs st__law_draw, defBody st__law_draw, defScope st__law_draw, [], []⟩
def dd__law_pick : He.DefD := ⟨("_law_pick", none), "_law_pick", "_law_pick", defArgs st__law_pick, defBody st__law_pick, defScope st__law_pick, [], []⟩
def dd_check_tuple : He.DefD := ⟨("check_tuple", none), "check_tuple", "check_tuple", defArgs st_check_tuple, defBody st_check_tuple, defScope st_check_tuple, [], []⟩
def dd_is_tuple_of : He.DefD := ⟨("is_tuple_of", none), "is_tuple_of", "is_tuple_of", defArgs st_is_tuple_of, defBody st_is_tuple_of, defScope st_is_tuple_of, [], []⟩
def dd_is_whole : He.DefD := ⟨("is_whole", none), "is_whole", "is_whole", defArgs st_is_whole, defBody st_is_whole, defScope st_is_whole, [], []⟩
def dd_is_fraction : He.DefD := ⟨("is_fraction", none), "is_fraction", "is_fraction", defArgs st_is_fraction, defBody st_is_fraction, defScope st_is_fraction, [], []⟩
def dd_is_unlike_nought : He.DefD := ⟨("is_unlike_nought", none), "is_unlike_nought", "is_unlike_nought", defArgs st_is_unlike_nought, defBody st_is_unlike_nought, defScope st_is_unlike_nought, [], []⟩
def dd_is_condition : He.DefD := ⟨("is_condition", none), "is_condition", "is_condition", defArgs st_is_condition, defBody st_is_condition, defScope st_is_condition, [], []⟩
def dd_check_each : He.DefD := ⟨("check_each", none), "check_each", "check_each", defArgs st_check_each, defBody st_check_each, defScope st_check_each, [], []⟩
def dd_sign_of : He.DefD := ⟨("sign_of", none), "sign_of", "sign_of", defArgs st_sign_of, defBody st_sign_of, defScope st_sign_of, [], []⟩
def dd_fraction : He.DefD := ⟨("fraction", none), "fraction", "fraction", defArgs st_fraction, defBody st_fraction, defScope st_fraction, [], []⟩
def dd_fraction_over : He.DefD := ⟨("fraction_over", none), "fraction_over", "fraction_over", defArgs st_fraction_over, defBody st_fraction_over, defScope st_fraction_over, [], []⟩
def dd_fraction_sum : He.DefD := ⟨("fraction_sum", none), "fraction_sum", "fraction_sum", defArgs st_fraction_sum, defBody st_fraction_sum, defScope st_fraction_sum, [], []⟩
def dd_lots_of : He.DefD := ⟨("lots_of", none), "lots_of", "lots_of", defArgs st_lots_of, defBody st_lots_of, defScope st_lots_of, [], []⟩
def dd_fraction_less : He.DefD := ⟨("fraction_less", none), "fraction_less", "fraction_less", defArgs st_fraction_less, defBody st_fraction_less, defScope st_fraction_less, [], []⟩
def dd_fraction_times : He.DefD := ⟨("fraction_times", none), "fraction_times", "fraction_times", defArgs st_fraction_times, defBody st_fraction_times, defScope st_fraction_times, [], []⟩
def dd_power_by : He.DefD := ⟨("power_by", none), "power_by", "power_by", defArgs st_power_by, defBody st_power_by, defScope st_power_by, [], []⟩
def dd_signed_sum : He.DefD := ⟨("signed_sum", none), "signed_sum", "signed_sum", defArgs st_signed_sum, defBody st_signed_sum, defScope st_signed_sum, [], []⟩
def dd_orders_times : He.DefD := ⟨("orders_times", none), "orders_times", "orders_times", defArgs st_orders_times, defBody st_orders_times, defScope st_orders_times, [], []⟩
def dd_part_of_box : He.DefD := ⟨("part_of_box", none), "part_of_box", "part_of_box", defArgs st_part_of_box, defBody st_part_of_box, defScope st_part_of_box, [], []⟩
def dd_part_below : He.DefD := ⟨("part_below", none), "part_below", "part_below", defArgs st_part_below, defBody st_part_below, defScope st_part_below, [], []⟩
def dd_check_rows : He.DefD := ⟨("check_rows", none), "check_rows", "check_rows", defArgs st_check_rows, defBody st_check_rows, defScope st_check_rows, [], []⟩
def dd_turn_at : He.DefD := ⟨("turn_at", none), "turn_at", "turn_at", defArgs st_turn_at, defBody st_turn_at, defScope st_turn_at, [], []⟩
def dd_turning_points : He.DefD := ⟨("turning_points", none), "turning_points", "turning_points", defArgs st_turning_points, defBody st_turning_points, defScope st_turning_points, [], []⟩
def dd_excess_at : He.DefD := ⟨("excess_at", none), "excess_at", "excess_at", defArgs st_excess_at, defBody st_excess_at, defScope st_excess_at, [], []⟩
def dd_between : He.DefD := ⟨("between", none), "between", "between", defArgs st_between, defBody st_between, defScope st_between, [], []⟩
def dd_crossing : He.DefD := ⟨("crossing", none), "crossing", "crossing", defArgs st_crossing, defBody st_crossing, defScope st_crossing, [], []⟩
def dd_clipped : He.DefD := ⟨("clipped", none), "clipped", "clipped", defArgs st_clipped, defBody st_clipped, defScope st_clipped, [], []⟩
def dd_unlike_points : He.DefD := ⟨("unlike_points", none), "unlike_points", "unlike_points", defArgs st_unlike_points, defBody st_unlike_points, defScope st_unlike_points, [], []⟩
def dd_is_above : He.DefD := ⟨("is_above", none), "is_above", "is_above", defArgs st_is_above, defBody st_is_above, defScope st_is_above, [], []⟩
def dd_is_less_point : He.DefD := ⟨("is_less_point", none), "is_less_point", "is_less_point", defArgs st_is_less_point, defBody st_is_less_point, defScope st_is_less_point, [], []⟩
def dd_least_first : He.DefD := ⟨("least_first", none), "least_first", "least_first", defArgs st_least_first, defBody st_least_first, defScope st_least_first, [], []⟩
def dd_polygon_by : He.DefD := ⟨("polygon_by", none), "polygon_by", "polygon_by", defArgs st_polygon_by, defBody st_polygon_by, defScope st_polygon_by, [], []⟩
def dd_area_by : He.DefD := ⟨("area_by", none), "area_by", "area_by", defArgs st_area_by, defBody st_area_by, defScope st_area_by, [], []⟩
def dd_area : He.DefD := ⟨("area", none), "area", "area", defArgs st_area, defBody st_area, defScope st_area, [], []⟩
def dd_polygon : He.DefD := ⟨("polygon", none), "polygon", "polygon", defArgs st_polygon, defBody st_polygon, defScope st_polygon, [], []⟩
def dd__law_heard : He.DefD := ⟨("_law_heard", none), "_law_heard", "_law_heard", defArgs st__law_heard, defBody st__law_heard, defScope st__law_heard, [], []⟩
def dd__law_f : He.DefD := ⟨("_law_f", none), "_law_f", "_law_f", defArgs st__law_f, defBody st__law_f, defScope st__law_f, [], []⟩
def dd__law_some : He.DefD := ⟨("_law_some", none), "_law_some", "_law_some", defArgs st__law_some, defBody st__law_some, defScope st__law_some, [], []⟩
def dd__law_right : He.DefD := ⟨("_law_right", none), "_law_right", "_law_right", defArgs st__law_right, defBody st__law_right, defScope st__law_right, [], []⟩
def dd__law_pool : He.DefD := ⟨("_law_pool", none), "_law_pool", "_law_pool", defArgs st__law_pool, defBody st__law_pool, defScope st__law_pool, [], []⟩
def dd_law : He.DefD := ⟨("law", none), "law", "law", defArgs st_law, defBody st_law, defScope st_law, [], []⟩
def ddc_InvalidRow : He.DefD := ⟨("InvalidRow", some "__init__"), "__init__", "InvalidRow.__init__", defArgs sti_InvalidRow, defBody sti_InvalidRow, defScope sti_InvalidRow, [], []⟩
def ddc_InvalidFraction : He.DefD := ⟨("InvalidFraction", some "__init__"), "__init__", "InvalidFraction.__init__", defArgs sti_InvalidFraction, defBody sti_InvalidFraction, defScope sti_InvalidFraction, [], []⟩
def fn : List He.DefD := [dd__law_draw, dd__law_pick, dd_check_tuple, dd_is_tuple_of, dd_is_whole, dd_is_fraction, dd_is_unlike_nought, dd_is_condition, dd_check_each, dd_sign_of, dd_fraction, dd_fraction_over, dd_fraction_sum, dd_lots_of, dd_fraction_less, dd_fraction_times, dd_power_by, dd_signed_sum, dd_orders_times, dd_part_of_box, dd_part_below, dd_check_rows, dd_turn_at, dd_turning_points, dd_excess_at, dd_between, dd_crossing, dd_clipped, dd_unlike_points, dd_is_above, dd_is_less_point, dd_least_first, dd_polygon_by, dd_area_by, dd_area, dd_polygon, dd__law_heard, dd__law_f, dd__law_some, dd__law_right, dd__law_pool, dd_law, ddc_InvalidRow, ddc_InvalidFraction]
def fa : List He.Fa := [.glo "_law_draw", .glo "_law_pick", .glo "check_tuple", .glo "is_tuple_of", .glo "is_whole", .glo "is_fraction", .glo "is_unlike_nought", .glo "is_condition", .glo "check_each", .glo "sign_of", .glo "fraction", .glo "fraction_over", .glo "fraction_sum", .glo "lots_of", .glo "fraction_less", .glo "fraction_times", .glo "power_by", .glo "signed_sum", .glo "orders_times", .glo "part_of_box", .glo "part_below", .glo "check_rows", .glo "turn_at", .glo "turning_points", .glo "excess_at", .glo "between", .glo "crossing", .glo "clipped", .glo "unlike_points", .glo "is_above", .glo "is_less_point", .glo "least_first", .glo "polygon_by", .glo "area_by", .glo "area", .glo "polygon", .glo "_law_heard", .glo "_law_f", .glo "_law_some", .glo "_law_right", .glo "_law_pool", .glo "law", .free "divmod", .free "int", .free "len", .free "isinstance", .free "tuple", .free "bool", .free "all", .free "enumerate", .free "range", .free "abs", .free "zip", .free "list", .free "ValueError", .free "repr", .free "min", .free "max", .glo "DrawError", .glo "InvalidRow", .glo "InvalidFraction", .noat "InvalidRow" "index", .noat "InvalidFraction" "given", .meth "InvalidRow" "__init__", .meth "InvalidFraction" "__init__"]
def fb : List Fb := [.con "ROW_SIZE" con_ROW_SIZE, .con "ZERO" con_ZERO, .con "ONE" con_ONE, .con "MOST_DRAWS" con_MOST_DRAWS, .con "MOST_ROWS" con_MOST_ROWS, .con "SQUARE" con_SQUARE, .con "HALF" con_HALF, .blt "gcd" "math.gcd", .is (tabB [("InvalidFraction", true), ("InvalidRow", true)] "DrawError"), .is (isOB [("InvalidFraction", false), ("InvalidRow", true)] "InvalidRow"), .is (isOB [("InvalidFraction", true), ("InvalidRow", false)] "InvalidFraction"), .is (isBB [("InvalidFraction", true), ("InvalidRow", true)] "ValueError"), .is (xfTB ["InvalidRow"] "index"), .is (xfTB ["InvalidFraction"] "given"), .is (fun K => errB K (He.ga K "InvalidRow")), .is (fun K => errB K (He.ga K "InvalidFraction"))]
theorem tx_of {K : PySem.W.Frag} {h : Heap} {mg : Str → Option Value} (X : K.In h) (G : h.Ns mainGlobals mg) (c : SaysZ fa fb fn K) : Tx K mg where
  z_divmod := He.free_ok X G (c.fact 42 (f := .free "divmod") rfl)
  z_int := He.free_ok X G (c.fact 43 (f := .free "int") rfl)
  z_len := He.free_ok X G (c.fact 44 (f := .free "len") rfl)
  z_isinstance := He.free_ok X G (c.fact 45 (f := .free "isinstance") rfl)
  z_tuple := He.free_ok X G (c.fact 46 (f := .free "tuple") rfl)
  z_bool := He.free_ok X G (c.fact 47 (f := .free "bool") rfl)
  z_all := He.free_ok X G (c.fact 48 (f := .free "all") rfl)
  z_enumerate := He.free_ok X G (c.fact 49 (f := .free "enumerate") rfl)
  z_range := He.free_ok X G (c.fact 50 (f := .free "range") rfl)
  z_abs := He.free_ok X G (c.fact 51 (f := .free "abs") rfl)
  z_zip := He.free_ok X G (c.fact 52 (f := .free "zip") rfl)
  z_list := He.free_ok X G (c.fact 53 (f := .free "list") rfl)
  z_ValueError := He.free_ok X G (c.fact 54 (f := .free "ValueError") rfl)
  z_repr := He.free_ok X G (c.fact 55 (f := .free "repr") rfl)
  z_min := He.free_ok X G (c.fact 56 (f := .free "min") rfl)
  z_max := He.free_ok X G (c.fact 57 (f := .free "max") rfl)
  k_ROW_SIZE := con_ok X G (c.more 0 (f := .con "ROW_SIZE" con_ROW_SIZE) rfl)
  k_ZERO := con_ok X G (c.more 1 (f := .con "ZERO" con_ZERO) rfl)
  k_ONE := con_ok X G (c.more 2 (f := .con "ONE" con_ONE) rfl)
  k_MOST_DRAWS := con_ok X G (c.more 3 (f := .con "MOST_DRAWS" con_MOST_DRAWS) rfl)
  k_MOST_ROWS := con_ok X G (c.more 4 (f := .con "MOST_ROWS" con_MOST_ROWS) rfl)
  k_SQUARE := con_ok X G (c.more 5 (f := .con "SQUARE" con_SQUARE) rfl)
  k_HALF := con_ok X G (c.more 6 (f := .con "HALF" con_HALF) rfl)
  b_gcd := blt_ok X G (c.more 7 (f := .blt "gcd" "math.gcd") rfl)
  gc_DrawError := He.glo_ok X G (c.fact 58 (f := .glo "DrawError") rfl)
  gc_InvalidRow := He.glo_ok X G (c.fact 59 (f := .glo "InvalidRow") rfl)
  gc_InvalidFraction := He.glo_ok X G (c.fact 60 (f := .glo "InvalidFraction") rfl)
  nc_InvalidRow := He.eqO_ok (c.fact 61 (f := .noat "InvalidRow" "index") rfl)
  mc_InvalidRow := c.fact 63 (f := .meth "InvalidRow" "__init__") rfl
  dc_InvalidRow := c.1.def_ 42 (d := ddc_InvalidRow) rfl
  nc_InvalidFraction := He.eqO_ok (c.fact 62 (f := .noat "InvalidFraction" "given") rfl)
  mc_InvalidFraction := c.fact 64 (f := .meth "InvalidFraction" "__init__") rfl
  dc_InvalidFraction := c.1.def_ 43 (d := ddc_InvalidFraction) rfl
  t_DrawError := tabB_ok (c.more 8 (f := .is (tabB [("InvalidFraction", true), ("InvalidRow", true)] "DrawError")) rfl) ⟨He.glo_ok X G (c.fact 60 (f := .glo "InvalidFraction") rfl), He.glo_ok X G (c.fact 59 (f := .glo "InvalidRow") rfl), trivial⟩
  i_InvalidRow := isOB_ok (c.more 9 (f := .is (isOB [("InvalidFraction", false), ("InvalidRow", true)] "InvalidRow")) rfl)
  i_InvalidFraction := isOB_ok (c.more 10 (f := .is (isOB [("InvalidFraction", true), ("InvalidRow", false)] "InvalidFraction")) rfl)
  i_ValueError := isBB_ok (c.more 11 (f := .is (isBB [("InvalidFraction", true), ("InvalidRow", true)] "ValueError")) rfl)
  x_index := xfTB_ok (c.more 12 (f := .is (xfTB ["InvalidRow"] "index")) rfl)
  x_given := xfTB_ok (c.more 13 (f := .is (xfTB ["InvalidFraction"] "given")) rfl)
  ec_InvalidRow := errB_ok (c.more 14 (f := .is (fun K => errB K (He.ga K "InvalidRow"))) rfl)
  ec_InvalidFraction := errB_ok (c.more 15 (f := .is (fun K => errB K (He.ga K "InvalidFraction"))) rfl)
  g__law_draw := He.glo_ok X G (c.fact 0 (f := .glo "_law_draw") rfl)
  d__law_draw := c.1.def_ 0 (d := dd__law_draw) rfl
  g__law_pick := He.glo_ok X G (c.fact 1 (f := .glo "_law_pick") rfl)
  d__law_pick := c.1.def_ 1 (d := dd__law_pick) rfl
  g_check_tuple := He.glo_ok X G (c.fact 2 (f := .glo "check_tuple") rfl)
  d_check_tuple := c.1.def_ 2 (d := dd_check_tuple) rfl
  g_is_tuple_of := He.glo_ok X G (c.fact 3 (f := .glo "is_tuple_of") rfl)
  d_is_tuple_of := c.1.def_ 3 (d := dd_is_tuple_of) rfl
  g_is_whole := He.glo_ok X G (c.fact 4 (f := .glo "is_whole") rfl)
  d_is_whole := c.1.def_ 4 (d := dd_is_whole) rfl
  g_is_fraction := He.glo_ok X G (c.fact 5 (f := .glo "is_fraction") rfl)
  d_is_fraction := c.1.def_ 5 (d := dd_is_fraction) rfl
  g_is_unlike_nought := He.glo_ok X G (c.fact 6 (f := .glo "is_unlike_nought") rfl)
  d_is_unlike_nought := c.1.def_ 6 (d := dd_is_unlike_nought) rfl
  g_is_condition := He.glo_ok X G (c.fact 7 (f := .glo "is_condition") rfl)
  d_is_condition := c.1.def_ 7 (d := dd_is_condition) rfl
  g_check_each := He.glo_ok X G (c.fact 8 (f := .glo "check_each") rfl)
  d_check_each := c.1.def_ 8 (d := dd_check_each) rfl
  g_sign_of := He.glo_ok X G (c.fact 9 (f := .glo "sign_of") rfl)
  d_sign_of := c.1.def_ 9 (d := dd_sign_of) rfl
  g_fraction := He.glo_ok X G (c.fact 10 (f := .glo "fraction") rfl)
  d_fraction := c.1.def_ 10 (d := dd_fraction) rfl
  g_fraction_over := He.glo_ok X G (c.fact 11 (f := .glo "fraction_over") rfl)
  d_fraction_over := c.1.def_ 11 (d := dd_fraction_over) rfl
  g_fraction_sum := He.glo_ok X G (c.fact 12 (f := .glo "fraction_sum") rfl)
  d_fraction_sum := c.1.def_ 12 (d := dd_fraction_sum) rfl
  g_lots_of := He.glo_ok X G (c.fact 13 (f := .glo "lots_of") rfl)
  d_lots_of := c.1.def_ 13 (d := dd_lots_of) rfl
  g_fraction_less := He.glo_ok X G (c.fact 14 (f := .glo "fraction_less") rfl)
  d_fraction_less := c.1.def_ 14 (d := dd_fraction_less) rfl
  g_fraction_times := He.glo_ok X G (c.fact 15 (f := .glo "fraction_times") rfl)
  d_fraction_times := c.1.def_ 15 (d := dd_fraction_times) rfl
  g_power_by := He.glo_ok X G (c.fact 16 (f := .glo "power_by") rfl)
  d_power_by := c.1.def_ 16 (d := dd_power_by) rfl
  g_signed_sum := He.glo_ok X G (c.fact 17 (f := .glo "signed_sum") rfl)
  d_signed_sum := c.1.def_ 17 (d := dd_signed_sum) rfl
  g_orders_times := He.glo_ok X G (c.fact 18 (f := .glo "orders_times") rfl)
  d_orders_times := c.1.def_ 18 (d := dd_orders_times) rfl
  g_part_of_box := He.glo_ok X G (c.fact 19 (f := .glo "part_of_box") rfl)
  d_part_of_box := c.1.def_ 19 (d := dd_part_of_box) rfl
  g_part_below := He.glo_ok X G (c.fact 20 (f := .glo "part_below") rfl)
  d_part_below := c.1.def_ 20 (d := dd_part_below) rfl
  g_check_rows := He.glo_ok X G (c.fact 21 (f := .glo "check_rows") rfl)
  d_check_rows := c.1.def_ 21 (d := dd_check_rows) rfl
  g_turn_at := He.glo_ok X G (c.fact 22 (f := .glo "turn_at") rfl)
  d_turn_at := c.1.def_ 22 (d := dd_turn_at) rfl
  g_turning_points := He.glo_ok X G (c.fact 23 (f := .glo "turning_points") rfl)
  d_turning_points := c.1.def_ 23 (d := dd_turning_points) rfl
  g_excess_at := He.glo_ok X G (c.fact 24 (f := .glo "excess_at") rfl)
  d_excess_at := c.1.def_ 24 (d := dd_excess_at) rfl
  g_between := He.glo_ok X G (c.fact 25 (f := .glo "between") rfl)
  d_between := c.1.def_ 25 (d := dd_between) rfl
  g_crossing := He.glo_ok X G (c.fact 26 (f := .glo "crossing") rfl)
  d_crossing := c.1.def_ 26 (d := dd_crossing) rfl
  g_clipped := He.glo_ok X G (c.fact 27 (f := .glo "clipped") rfl)
  d_clipped := c.1.def_ 27 (d := dd_clipped) rfl
  g_unlike_points := He.glo_ok X G (c.fact 28 (f := .glo "unlike_points") rfl)
  d_unlike_points := c.1.def_ 28 (d := dd_unlike_points) rfl
  g_is_above := He.glo_ok X G (c.fact 29 (f := .glo "is_above") rfl)
  d_is_above := c.1.def_ 29 (d := dd_is_above) rfl
  g_is_less_point := He.glo_ok X G (c.fact 30 (f := .glo "is_less_point") rfl)
  d_is_less_point := c.1.def_ 30 (d := dd_is_less_point) rfl
  g_least_first := He.glo_ok X G (c.fact 31 (f := .glo "least_first") rfl)
  d_least_first := c.1.def_ 31 (d := dd_least_first) rfl
  g_polygon_by := He.glo_ok X G (c.fact 32 (f := .glo "polygon_by") rfl)
  d_polygon_by := c.1.def_ 32 (d := dd_polygon_by) rfl
  g_area_by := He.glo_ok X G (c.fact 33 (f := .glo "area_by") rfl)
  d_area_by := c.1.def_ 33 (d := dd_area_by) rfl
  g_area := He.glo_ok X G (c.fact 34 (f := .glo "area") rfl)
  d_area := c.1.def_ 34 (d := dd_area) rfl
  g_polygon := He.glo_ok X G (c.fact 35 (f := .glo "polygon") rfl)
  d_polygon := c.1.def_ 35 (d := dd_polygon) rfl
  g__law_heard := He.glo_ok X G (c.fact 36 (f := .glo "_law_heard") rfl)
  d__law_heard := c.1.def_ 36 (d := dd__law_heard) rfl
  g__law_f := He.glo_ok X G (c.fact 37 (f := .glo "_law_f") rfl)
  d__law_f := c.1.def_ 37 (d := dd__law_f) rfl
  g__law_some := He.glo_ok X G (c.fact 38 (f := .glo "_law_some") rfl)
  d__law_some := c.1.def_ 38 (d := dd__law_some) rfl
  g__law_right := He.glo_ok X G (c.fact 39 (f := .glo "_law_right") rfl)
  d__law_right := c.1.def_ 39 (d := dd__law_right) rfl
  g__law_pool := He.glo_ok X G (c.fact 40 (f := .glo "_law_pool") rfl)
  d__law_pool := c.1.def_ 40 (d := dd__law_pool) rfl
  g_law := He.glo_ok X G (c.fact 41 (f := .glo "law") rfl)
  d_law := c.1.def_ 41 (d := dd_law) rfl
def loose : List PySem.Str := (["__name__", "ZERO", "ONE", "is_whole", "is_tuple_of", "is_fraction", "fraction", "fraction_sum", "fraction_less", "fraction_times", "fraction_over", "is_above", "sign_of", "SQUARE", "HALF", "excess_at", "between", "crossing", "clipped", "turn_at", "turning_points", "unlike_points", "is_less_point", "least_first", "polygon_by", "area_by", "lots_of", "power_by", "signed_sum", "orders_times"] : List PySem.Str) ++ (["part_of_box", "DrawError", "InvalidFraction", "InvalidRow", "MOST_DRAWS", "MOST_ROWS", "ROW_SIZE", "check_tuple", "is_unlike_nought", "is_condition", "check_each", "part_below", "check_rows", "area", "polygon", "_law_pool", "_law_draw", "_law_pick", "_law_f", "_law_some", "_law_heard", "_law_right"] : List PySem.Str)
abbrev R : PySem.W.OpenRow := PySem.W.OpenLaw.row PySem.Challenge.rw_evendraws_k60_corners_refused
abbrev hk : PySem.W.Hook := hookZ 5 fa fb fn
def ob (s : PySem.W.SharedT) : He.AlD := obsZG 5 fa fb fn (HandSHeadRun.getT s)
theorem ob_eq (s : PySem.W.SharedT) : ob s = hk.obs s.abs := obsZG_eq (HandSHeadRun.getT_eq s)
theorem run (w : World) : HandSHeadRun.RunEqI R (PySem.W.view R.prog [0, 58]) hk ob 3000 loose w := by
  unfold HandSHeadRun.RunEqI
  kernel_rfl
end K60
open PySem PySem.W PySem.Calls PyProof.Rows
set_option maxRecDepth 100000 in
set_option maxHeartbeats 0 in
theorem PySem.Challenge.cw_evendraws_k60_corners_refused_holds : PySem.Challenge.rw_evendraws_k60_corners_refused.Holds := by
  w_on; o_law
  refine HandSHeadRun.head_imp (r := OpenLaw.row PySem.Challenge.rw_evendraws_k60_corners_refused) (q := view (OpenLaw.row PySem.Challenge.rw_evendraws_k60_corners_refused).prog [0, 58]) (H := K60.hk) (ob := K60.ob) (M := 3000) (loose := K60.loose) (d := HandSHeadRun.topDef (OpenLaw.row PySem.Challenge.rw_evendraws_k60_corners_refused).prog 58) (kwd := []) K60.ob_eq
    K60.run (by kernel_rfl) (by kernel_rfl) (by kernel_rfl) (by rfl) (by first | assumption | decide +kernel) (by decide +kernel) ⟨rfl, rfl, rfl, rfl, rfl, by decide +kernel⟩ ?hw ?hc
  case hw => w_witness2
  case hc =>
    refine Z.walk_ofG (l := PySem.Challenge.rw_evendraws_k60_corners_refused) (n := 63) (k := 11) (x := "script") rfl (by decide) (by kernel_rfl) ⟨rfl, by decide, by decide⟩ ?F
    intro w mg fa h Y G hmg0
    obtain ⟨K, KX, c⟩ := Y
    have T := K60.tx_of KX G c
    have hmg : mg ("law" : PySem.Str) = some (.ref fa) := by
      have e : (HandSHeadRun.topDef (OpenLaw.row PySem.Challenge.rw_evendraws_k60_corners_refused).prog 58).name = ("law" : PySem.Str) := by kernel_rfl
      rw [← e]
      exact hmg0
    have efa : fa = He.ga K ("law" : PySem.Str) := Value.ref.inj (Option.some.inj (hmg.symm.trans T.g_law))
    subst efa
    obtain ⟨fd, F⟩ := T.d_law
    exact ⟨K, fd, K60.m_law, KX, fun s v => L2.FunD.bindsA (ps := ["script"]) F (fun _ _ _ _ _ _ us hl => match us, hl with | [_], _ => rfl) s [v] rfl, K60.plain_law, fun base _ _ => K60.fn_law T F⟩
