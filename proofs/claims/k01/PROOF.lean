import PyProof.Rows.All
import Wide.All
import OpenK.AllK
import Wide.FinOn
import PySem.Challenge.RW_snowrounds_k01_whole_distances_and_short
import HandS.ForMost
import HandS.Exc
import HandS.ExcOwn
import HandS.TryOnly
import HandS.WordsExc
import HandS.TupAny
import HandS.TupLe
import HandS.IsInst
import HandS.TupLen
import HandS.WordsDict
import HandS.Iter
import HandS.Zip
import KE.DataCmp
import KE.DataMinMax
import KE.SortData
import KE.DataEq
import HandS.Style
import KE.GoesMore
import KE.GoesEnum
import HandS.Conv
import HandS.More
import HandS.DictEq
import HandS.TupSets
import HandS.RaiseMore
import HandS.EndBits
import HandS.TupMul
import KE.KDictZip
import HandS.DictTup
section
set_option Elab.async false
set_option linter.all false
set_option maxRecDepth 100000
set_option maxHeartbeats 2000000
namespace Q
open PySem L2

/-- plain data; cell: a container that is shared and changed; fn: a def of the module -/
inductive D where
  | non | bl (b : Bool) | int (i : Int) | str (s : Str)
  | tup (xs : List D) | lst (xs : List D)
  | dK (kvs : List (Key × D)) | dT (kvs : List (List Key × D))
  | cell (n : Nat) | fn (n : Str) | ktup (xs : List D) | klst (xs : List D)
  deriving Inhabited
inductive Sl where
  | un | dat (d : D) | own (d : D) | lok (d : D)
abbrev Sto := List D
inductive Res (α : Type) where
  | stuck | ok (a : α) (m : Sto) | exc (n : Str) (m : Sto)
abbrev Env := List Sl
abbrev Ed := Env → Sto → Res D
inductive Out where
  | stuck | nx (r : Env) (m : Sto) | rt (f : Bool) (d : D) (m : Sto) | bk (r : Env) (m : Sto) | ct (r : Env) (m : Sto) | exc (n : Str) (m : Sto)
abbrev Sd := Env → Sto → Out

section
variable (K : PySem.W.Frag) (mg : Str → Option Value)
mutual
/-- the value v bears the data d, all of it in F -/
inductive Rep (α : List Addr) (F : Hp) : V → D → Prop where
  | non : Rep α F .non .non
  | bl (b : Bool) : Rep α F (.bl b) (.bl b)
  | int (i : Int) : Rep α F (.int i) (.int i)
  | str (x : Str) : Rep α F (.str x) (.str x)
  | tup {a : Addr} {vs : List V} {ds : List D} : F a = some (.tup vs) → RepL α F vs ds → Rep α F (.ref a) (.tup ds)
  | ktup {a : Addr} {vs : List V} {ds : List D} : SqT K (fun _ => none) a vs → RepL α F vs ds → Rep α F (.ref a) (.ktup ds)
  | lst {a : Addr} {vs : List V} {ds : List D} : F a = some (.lst vs) → RepL α F vs ds → Rep α F (.ref a) (.lst ds)
  | klst {a : Addr} {vs : List V} {ds : List D} : SqL K F a vs → RepL α F vs ds → Rep α F (.ref a) (.klst ds)
  | dK {a : Addr} {kvs : List (Key × V)} {ds : List (Key × D)} : F a = some (.dK kvs) → RepK α F kvs ds → Rep α F (.ref a) (.dK ds)
  | dT {a : Addr} {kvs : List (List Key × V)} {ds : List (List Key × D)} : F a = some (.dT kvs) → RepT α F kvs ds → Rep α F (.ref a) (.dT ds)
  | cell {n : Nat} {a : Addr} : α[n]? = some a → Rep α F (.ref a) (.cell n)
  | fn {n : Str} {a : Addr} : mg n = some (.ref a) → Rep α F (.ref a) (.fn n)
inductive RepL (α : List Addr) (F : Hp) : List V → List D → Prop where
  | nil : RepL α F [] []
  | cons {v : V} {vs : List V} {d : D} {ds : List D} : Rep α F v d → RepL α F vs ds → RepL α F (v :: vs) (d :: ds)
inductive RepK (α : List Addr) (F : Hp) : List (Key × V) → List (Key × D) → Prop where
  | nil : RepK α F [] []
  | cons {k : Key} {v : V} {vs : List (Key × V)} {d : D} {ds : List (Key × D)} : Rep α F v d → RepK α F vs ds → RepK α F ((k, v) :: vs) ((k, d) :: ds)
inductive RepT (α : List Addr) (F : Hp) : List (List Key × V) → List (List Key × D) → Prop where
  | nil : RepT α F [] []
  | cons {k : List Key} {v : V} {vs : List (List Key × V)} {d : D} {ds : List (List Key × D)} : Rep α F v d → RepT α F vs ds → RepT α F ((k, v) :: vs) ((k, d) :: ds)
end
/-- a container's content -/
inductive RepC (α : List Addr) (F : Hp) : HO → D → Prop where
  | lst {vs : List V} {ds : List D} : RepL K mg α F vs ds → RepC α F (.lst vs) (.lst ds)
  | dK {kvs : List (Key × V)} {ds : List (Key × D)} : RepK K mg α F kvs ds → RepC α F (.dK kvs) (.dK ds)
  | dT {kvs : List (List Key × V)} {ds : List (List Key × D)} : RepT K mg α F kvs ds → RepC α F (.dT kvs) (.dT ds)
end

def IsDc (o : HO) : Prop := (∃ kvs, o = .dK kvs) ∨ ∃ kvs, o = .dT kvs
/-- what stands frozen in F stands in H, the dicts locked -/
def Sub (F H : Hp) : Prop := ∀ a o, F a = some o → (H a = some o ∧ ¬ IsDc o) ∨ IsDc o ∧ ∃ ob, H a = some (.frz ob o)
/-- as it stands when frozen -/
def lockO (ob : Obj) : HO → HO
  | .dK k => .frz ob (.dK k)
  | .dT k => .frz ob (.dT k)
  | o => o
theorem lockO_nd {ob : Obj} {o : HO} (h : ¬ IsDc o) : lockO ob o = o := by
  cases o with
  | dK k => exact absurd (.inl ⟨_, rfl⟩) h
  | dT k => exact absurd (.inr ⟨_, rfl⟩) h
  | _ => rfl
theorem lockO_d {ob : Obj} {o : HO} (h : IsDc o) : lockO ob o = .frz ob o := by
  rcases h with ⟨k, rfl⟩ | ⟨k, rfl⟩ <;> rfl
theorem upd_self {H : Hp} {a : Addr} {o : HO} (h : H a = some o) : upd H a o = H := by
  funext b
  by_cases e : b = a
  · subst e; rw [upd_same, h]
  · rw [upd_ne e]

section
variable {K : PySem.W.Frag} {mg : Str → Option Value} {α β : List Addr} {F F' H H' : Hp}
theorem sqT_mono (h : ∀ a o, F a = some o → F' a = some o) {a : Addr} {vs : List V} (q : SqT K F a vs) : SqT K F' a vs := by
  rcases q with (q | ⟨o, q⟩) | q
  · exact .inl (.inl (h _ _ q))
  · exact .inl (.inr ⟨o, h _ _ q⟩)
  · exact .inr q
theorem sqL_mono (h : ∀ a o, F a = some o → F' a = some o) {a : Addr} {vs : List V} (q : SqL K F a vs) : SqL K F' a vs := by
  rcases q with (q | ⟨o, q⟩) | q
  · exact .inl (.inl (h _ _ q))
  · exact .inl (.inr ⟨o, h _ _ q⟩)
  · exact .inr q
mutual
theorem Rep.mono (hp : ∃ β, α' = α ++ β) (h : ∀ a o, F a = some o → F' a = some o) {v : V} {d : D} : Rep K mg α F v d → Rep K mg α' F' v d
  | .non => .non
  | .bl b => .bl b
  | .int i => .int i
  | .str x => .str x
  | .tup s r => .tup (h _ _ s) (RepL.mono hp h r)
  | .ktup s r => .ktup s (RepL.mono hp h r)
  | .lst s r => .lst (h _ _ s) (RepL.mono hp h r)
  | .klst s r => .klst (sqL_mono h s) (RepL.mono hp h r)
  | .dK s r => .dK (h _ _ s) (RepK.mono hp h r)
  | .dT s r => .dT (h _ _ s) (RepT.mono hp h r)
  | .cell e => .cell (by obtain ⟨β, rfl⟩ := hp; rw [List.getElem?_append_left (List.getElem?_eq_some_iff.mp e).1]; exact e)
  | .fn e => .fn e
theorem RepL.mono (hp : ∃ β, α' = α ++ β) (h : ∀ a o, F a = some o → F' a = some o) {vs : List V} {ds : List D} : RepL K mg α F vs ds → RepL K mg α' F' vs ds
  | .nil => .nil
  | .cons r t => .cons (Rep.mono hp h r) (RepL.mono hp h t)
theorem RepK.mono (hp : ∃ β, α' = α ++ β) (h : ∀ a o, F a = some o → F' a = some o) {vs : List (Key × V)} {ds : List (Key × D)} : RepK K mg α F vs ds → RepK K mg α' F' vs ds
  | .nil => .nil
  | .cons r t => .cons (Rep.mono hp h r) (RepK.mono hp h t)
theorem RepT.mono (hp : ∃ β, α' = α ++ β) (h : ∀ a o, F a = some o → F' a = some o) {vs : List (List Key × V)} {ds : List (List Key × D)} : RepT K mg α F vs ds → RepT K mg α' F' vs ds
  | .nil => .nil
  | .cons r t => .cons (Rep.mono hp h r) (RepT.mono hp h t)
end
theorem RepC.mono (hp : ∃ β, α' = α ++ β) (h : ∀ a o, F a = some o → F' a = some o) {o : HO} {d : D} : RepC K mg α F o d → RepC K mg α' F' o d
  | .lst r => .lst (r.mono hp h)
  | .dK r => .dK (r.mono hp h)
  | .dT r => .dT (r.mono hp h)
theorem RepL.length : ∀ {vs : List V} {ds : List D}, RepL K mg α F vs ds → vs.length = ds.length
  | _, _, .nil => rfl
  | _, _, .cons _ t => congrArg (· + 1) (RepL.length t)
theorem RepL.get : ∀ {vs : List V} {ds : List D} {i : Nat} {v : V}, RepL K mg α F vs ds → vs[i]? = some v → ∃ d, ds[i]? = some d ∧ Rep K mg α F v d
  | _, _, _, _, .nil, e => by simp at e
  | _, _, 0, _, .cons r _, e => by simp at e; subst e; exact ⟨_, rfl, r⟩
  | _, _, i + 1, v, .cons _ t, e => by
    obtain ⟨d, h1, h2⟩ := RepL.get (i := i) (v := v) t (by simpa using e)
    exact ⟨d, by simpa using h1, h2⟩
theorem RepL.getD : ∀ {vs : List V} {ds : List D} {i : Nat} {d : D}, RepL K mg α F vs ds → ds[i]? = some d → ∃ v, vs[i]? = some v ∧ Rep K mg α F v d
  | _, _, _, _, .nil, e => by simp at e
  | _, _, 0, _, .cons r _, e => by simp at e; subst e; exact ⟨_, rfl, r⟩
  | _, _, i + 1, d, .cons _ t, e => by
    obtain ⟨v, h1, h2⟩ := RepL.getD (i := i) (d := d) t (by simpa using e)
    exact ⟨v, by simpa using h1, h2⟩
theorem RepL.append : ∀ {vs ws : List V} {ds es : List D}, RepL K mg α F vs ds → RepL K mg α F ws es → RepL K mg α F (vs ++ ws) (ds ++ es)
  | _, _, _, _, .nil, q => q
  | _, _, _, _, .cons r t, q => .cons r (RepL.append t q)
theorem RepL.set : ∀ {vs : List V} {ds : List D} {v : V} {d : D} (i : Nat), RepL K mg α F vs ds → Rep K mg α F v d → RepL K mg α F (vs.set i v) (ds.set i d)
  | _, _, _, _, _, .nil, _ => .nil
  | _, _, _, _, 0, .cons _ t, q => .cons q t
  | _, _, _, _, i + 1, .cons r t, q => .cons r (RepL.set i t q)
theorem RepL.take : ∀ {vs : List V} {ds : List D} (n : Nat), RepL K mg α F vs ds → RepL K mg α F (vs.take n) (ds.take n)
  | _, _, 0, _ => by simp; exact .nil
  | _, _, n + 1, .nil => .nil
  | _, _, n + 1, .cons r t => .cons r (RepL.take n t)
theorem RepL.drop : ∀ {vs : List V} {ds : List D} (n : Nat), RepL K mg α F vs ds → RepL K mg α F (vs.drop n) (ds.drop n)
  | _, _, 0, q => q
  | _, _, n + 1, .nil => .nil
  | _, _, n + 1, .cons r t => RepL.drop n t
theorem RepL.reverse : ∀ {vs : List V} {ds : List D}, RepL K mg α F vs ds → RepL K mg α F vs.reverse ds.reverse
  | _, _, .nil => .nil
  | _, _, .cons r t => by rw [List.reverse_cons, List.reverse_cons]; exact (RepL.reverse t).append (.cons r .nil)
theorem RepL.dropLast {vs : List V} {ds : List D} (h : RepL K mg α F vs ds) : RepL K mg α F vs.dropLast ds.dropLast := by
  rw [List.dropLast_eq_take, List.dropLast_eq_take, h.length]; exact h.take _
theorem RepL.eraseIdx : ∀ {vs : List V} {ds : List D} (n : Nat), RepL K mg α F vs ds → RepL K mg α F (vs.eraseIdx n) (ds.eraseIdx n)
  | _, _, _, .nil => .nil
  | _, _, 0, .cons r t => t
  | _, _, n + 1, .cons r t => .cons r (RepL.eraseIdx n t)
theorem Rep.int_inv {v : V} {i : Int} (h : Rep K mg α F v (.int i)) : v = .int i := by cases h; rfl
theorem Rep.bl_inv {v : V} {i : Bool} (h : Rep K mg α F v (.bl i)) : v = .bl i := by cases h; rfl
theorem Rep.str_inv {v : V} {i : Str} (h : Rep K mg α F v (.str i)) : v = .str i := by cases h; rfl
theorem Rep.non_inv {v : V} (h : Rep K mg α F v .non) : v = .non := by cases h; rfl

theorem Sub.seqT (s : Sub F H) {a : Addr} {vs : List V} (q : SqT K F a vs) : SqT K H a vs := by
  rcases q with (q | ⟨o, q⟩) | q
  · rcases s _ _ q with ⟨h, _⟩ | ⟨⟨_, h⟩ | ⟨_, h⟩, _⟩
    · exact .inl (.inl h)
    · cases h
    · cases h
  · rcases s _ _ q with ⟨h, _⟩ | ⟨⟨_, h⟩ | ⟨_, h⟩, _⟩
    · exact .inl (.inr ⟨o, h⟩)
    · cases h
    · cases h
  · exact .inr q
theorem Sub.seqL (s : Sub F H) {a : Addr} {vs : List V} (q : SqL K F a vs) : SqL K H a vs := by
  rcases q with (q | ⟨o, q⟩) | q
  · rcases s _ _ q with ⟨h, _⟩ | ⟨⟨_, h⟩ | ⟨_, h⟩, _⟩
    · exact .inl (.inl h)
    · cases h
    · cases h
  · rcases s _ _ q with ⟨h, _⟩ | ⟨⟨_, h⟩ | ⟨_, h⟩, _⟩
    · exact .inl (.inr ⟨o, h⟩)
    · cases h
    · cases h
  · exact .inr q
theorem sqT_k {a : Addr} {vs : List V} (q : SqT K (fun _ => none) a vs) : SqT K F a vs := by
  rcases q with (q | ⟨o, q⟩) | q
  · cases q
  · cases q
  · exact .inr q
theorem Sub.tup (s : Sub F H) {a : Addr} {vs : List V} (q : F a = some (.tup vs)) : H a = some (.tup vs) := by
  rcases s _ _ q with ⟨h, _⟩ | ⟨⟨_, h⟩ | ⟨_, h⟩, _⟩
  · exact h
  · cases h
  · cases h
theorem Sub.lst (s : Sub F H) {a : Addr} {vs : List V} (q : F a = some (.lst vs)) : H a = some (.lst vs) := by
  rcases s _ _ q with ⟨h, _⟩ | ⟨⟨_, h⟩ | ⟨_, h⟩, _⟩
  · exact h
  · cases h
  · cases h
theorem Sub.rd (s : Sub F H) {a : Addr} {o : HO} (q : F a = some o) : Rd H a o := by
  rcases s _ _ q with ⟨h, _⟩ | ⟨_, ob, h⟩
  · exact .inl h
  · exact .inr ⟨ob, h⟩
end

/-- the state at large: F frozen, the shared containers at α with the content m -/
structure G (K : PySem.W.Frag) (mg : Str → Option Value) (α : List Addr) (F H : Hp) (m : Sto) : Prop where
  sub : Sub F H
  len : α.length = m.length
  nd : α.Nodup
  cell : ∀ (n : Nat) (a : Addr), α[n]? = some a → F a = none ∧ ∃ ho d, m[n]? = some d ∧ H a = some ho ∧ RepC K mg α F ho d
/-- what stays: the frozen part grows, all but the shared containers is as it was -/
structure Stay (α : List Addr) (F H : Hp) (α' : List Addr) (F' H' : Hp) : Prop where
  pre : ∃ β, α' = α ++ β
  fz : ∀ a o, F a = some o → F' a = some o
  keep : ∀ a o, a ∉ α → H a = some o → H' a = some o
  new : ∀ a, a ∈ α' → a ∈ α ∨ H a = none
  out : ∀ a o, F a = none → H a = some o → (∀ xs, o ≠ .tup xs) → F' a = none
  there : ∀ a o, H a = some o → ∃ o', H' a = some o' ∧ ((∀ xs, o ≠ .tup xs) → ∀ xs, o' ≠ .tup xs)
theorem Stay.refl (α : List Addr) (F H : Hp) : Stay α F H α F H := ⟨⟨[], by simp⟩, fun _ _ h => h, fun _ _ _ h => h, fun _ h => .inl h, fun _ _ h _ _ => h, fun _ o h => ⟨o, h, fun z => z⟩⟩
theorem Stay.trans {α α1 α2 : List Addr} {F H F1 H1 F2 H2 : Hp} (a : Stay α F H α1 F1 H1) (b : Stay α1 F1 H1 α2 F2 H2) : Stay α F H α2 F2 H2 where
  pre := by
    obtain ⟨β, rfl⟩ := a.pre
    obtain ⟨γ, rfl⟩ := b.pre
    exact ⟨β ++ γ, by simp⟩
  fz := fun x o h => b.fz x o (a.fz x o h)
  keep := fun x o hx h => b.keep x o (fun z => by
    rcases a.new x z with z | z
    · exact hx z
    · rw [h] at z; cases z) (a.keep x o hx h)
  new := fun x hx => by
    rcases b.new x hx with z | z
    · exact a.new x z
    · cases e : H x with
      | none => exact .inr rfl
      | some o =>
        obtain ⟨o', h', _⟩ := a.there x o e
        rw [h'] at z; cases z
  out := fun x o h1 h2 nt => by
    obtain ⟨o', h', k⟩ := a.there x o h2
    exact b.out x o' (a.out x o h1 h2 nt) h' (k nt)
  there := fun x o h => by
    obtain ⟨o', h', k⟩ := a.there x o h
    obtain ⟨o2, h2, k2⟩ := b.there x o' h'
    exact ⟨o2, h2, fun z => k2 (k z)⟩

/-- the entry of a body -/
structure En where
  α : List Addr
  F : Hp
  H : Hp
section
variable (K : PySem.W.Frag) (mg : Str → Option Value)
/-- a container of our own -/
structure Own (e : En) (α : List Addr) (F H : Hp) (a : Addr) (ho : HO) (d : D) : Prop where
  nf : F a = none
  na : a ∉ α
  ne : e.H a = none
  c : RepC K mg α F ho d
def SlotR (e : En) (α : List Addr) (F H : Hp) (x : Option (Option V)) : Sl → Prop
  | .un => True
  | .dat d => ∃ v, x = some (some v) ∧ Rep K mg α F v d
  | .own d => ∃ a ho, x = some (some (.ref a)) ∧ H a = some ho ∧ Own K mg e α F H a ho d
  | .lok d => ∃ a ho, x = some (some (.ref a)) ∧ Rd H a ho ∧ Own K mg e α F H a ho d
structure Sig (e : En) (Λ : Nat → Option (V × D)) (α : List Addr) (F : Hp) (σ : L2.St) (H : Hp) (r : Env) (m : Sto) : Prop where
  g : G K mg α F H m
  st : Stay e.α e.F e.H α F H
  len : σ.length = r.length
  sl : ∀ (i : Nat) (s : Sl), r[i]? = some s → SlotR K mg e α F H σ[i]? s
  dis : ∀ (i j : Nat) (d d' : D) (a : Addr), (r[i]? = some (.own d) ∨ r[i]? = some (.lok d)) → (r[j]? = some (.own d') ∨ r[j]? = some (.lok d')) → σ[i]? = some (some (.ref a)) → σ[j]? = some (some (.ref a)) → i = j
  lk : ∀ (i : Nat) (d : D), r[i]? = some (.lok d) → ∃ v, σ[i]? = some (some v) ∧ Λ i = some (v, d)
/-- how a result lies: frozen; or an own container, borrowed; or new since H0 -/
inductive Kd where
  | froz | bor | fre
def RK (H0 : Hp) (α : List Addr) (F H : Hp) (v : V) (d : D) : Kd → Prop
  | .froz => Rep K mg α F v d
  | .bor => Rep K mg α F v d ∨ ∃ a ho, v = .ref a ∧ H a = some ho ∧ F a = none ∧ a ∉ α ∧ RepC K mg α F ho d
  | .fre => ∃ a ho, v = .ref a ∧ H a = some ho ∧ F a = none ∧ a ∉ α ∧ H0 a = none ∧ RepC K mg α F ho d
abbrev RB (α : List Addr) (F H : Hp) (v : V) (d : D) : Prop := RK K mg H α F H v d .bor
/-- the reading t, at a state, does what the outcome says; Rl: how values and data go together, by the heap at the start -/
def At {γ δ : Type} (W : WX) (Rl : Hp → List Addr → Hp → Hp → γ → δ → Prop) (e : En) (Λ : Nat → Option (V × D)) (α : List Addr) (F : Hp) (σ : L2.St) (H : Hp) (r : Env) (t : (γ → Hp → Prop) → Prop) : Res δ → Prop
  | .stuck => True
  | .ok d m' => ∀ Q : γ → Hp → Prop, (∀ v α' F' H', Sig K mg e Λ α' F' σ H' r m' → Stay α F H α' F' H' → Rl H α' F' H' v d → Q v H') → t Q
  | .exc n m' => (∀ a α' F' H', mg n = some (.ref a) → Sig K mg e Λ α' F' σ H' r m' → W (.ref a) none σ H') → ∀ Q : γ → Hp → Prop, t Q
abbrev RlK (k : Kd) : Hp → List Addr → Hp → Hp → V → D → Prop := fun H0 α F H v d => RK K mg H0 α F H v d k
abbrev RlB : Hp → List Addr → Hp → Hp → Bool → Bool → Prop := fun _ _ _ _ b c => b = c
inductive RKL (k : Kd) (H0 : Hp) (α : List Addr) (F H : Hp) : List V → List D → Prop where
  | nil : RKL k H0 α F H [] []
  | cons {v : V} {vs : List V} {d : D} {ds : List D} : RK K mg H0 α F H v d k → RKL k H0 α F H vs ds → RKL k H0 α F H (v :: vs) (d :: ds)
abbrev RlL (k : Kd) : Hp → List Addr → Hp → Hp → List V → List D → Prop := fun H0 α F H v d => RKL K mg k H0 α F H v d
/-- the reading t does what f says -/
def Snd {γ δ : Type} (W : WX) (Rl : Hp → List Addr → Hp → Hp → γ → δ → Prop) (t : L2.St → Hp → (γ → Hp → Prop) → Prop) (f : Env → Sto → Res δ) : Prop :=
  ∀ e Λ α F σ H r m, Sig K mg e Λ α F σ H r m → At K mg W Rl e Λ α F σ H r (t σ H) (f r m)
abbrev SndE (W : WX) (k : Kd) (t : TE) (f : Ed) : Prop := Snd K mg W (RlK K mg k) t f
end
/-- an expression in the context X, what is wished of errors W, how its result lies k, what it is worth f -/
structure QE (X : Cx) (W : WX) (k : Kd) (e : Expr) (f : Ed) : Prop where
  ex : ∃ t, PE X e t ∧ SndE X.K X.mg W k t f
abbrev Bd := Env → Sto → Res Bool
abbrev SndT (K : PySem.W.Frag) (mg : Str → Option Value) (W : WX) (t : TT) (f : Bd) : Prop := Snd K mg W RlB t f
structure QT (X : Cx) (W : WX) (e : Expr) (f : Bd) : Prop where
  ex : ∃ t, PT X e t ∧ SndT X.K X.mg W t f
structure QW (X : Cx) (W : WX) (e : Expr) (f : Bd) : Prop where
  ex : ∃ t, PW X e t ∧ SndT X.K X.mg W t f
abbrev Ad := Env → Sto → Res (List D)
abbrev SndA (K : PySem.W.Frag) (mg : Str → Option Value) (W : WX) (k : Kd) (t : TA) (f : Ad) : Prop := Snd K mg W (RlL K mg k) t f
structure QA (X : Cx) (W : WX) (k : Kd) (es : List Expr) (f : Ad) : Prop where
  ex : ∃ t, PA X es t ∧ SndA X.K X.mg W k t f
/-- what is wanted behind a statement -/
def Post (K : PySem.W.Frag) (mg : Str → Option Value) (W : WX) (e : En) (Λ : Nat → Option (V × D)) (D : Ends) : Out → Prop
  | .stuck => False
  | .nx r m => ∀ α F σ H, Sig K mg e Λ α F σ H r m → D.nx σ H
  | .bk r m => ∀ α F σ H, Sig K mg e Λ α F σ H r m → D.bk σ H
  | .ct r m => ∀ α F σ H, Sig K mg e Λ α F σ H r m → D.ct σ H
  | .rt f d m => ∀ α F H v, G K mg α F H m → Stay e.α e.F e.H α F H → RK K mg e.H α F H v d (if f = true then .fre else .froz) → D.rt v H
  | .exc n m => ∀ a α F σ H, mg n = some (.ref a) → G K mg α F H m → Stay e.α e.F e.H α F H → W (.ref a) none σ H
def SndS (K : PySem.W.Frag) (mg : Str → Option Value) (W : WX) (t : TS) (f : Sd) : Prop := ∀ e Λ α F σ H r m D, Sig K mg e Λ α F σ H r m → Post K mg W e Λ D (f r m) → t D σ H
structure QS (X : Cx) (W : WX) (s : Stmt) (f : Sd) : Prop where
  ex : ∃ t, PS X s t ∧ SndS X.K X.mg W t f
structure QSs (X : Cx) (W : WX) (s : List Stmt) (f : Sd) : Prop where
  ex : ∃ t, PSs X s t ∧ SndS X.K X.mg W t f

section
variable {K : PySem.W.Frag} {mg : Str → Option Value} {α α' : List Addr} {F F' H H' H0 : Hp} {e : En} {Λ : Nat → Option (V × D)} {σ : L2.St} {r : Env} {m m' : Sto}
theorem Stay.na (s : Stay α F H α' F' H') {a : Addr} {o : HO} (h : a ∉ α) (ho : H a = some o) : a ∉ α' := fun z => by
  rcases s.new a z with z | z
  · exact h z
  · rw [ho] at z; cases z
theorem rd_some {a : Addr} {o : HO} (h : Rd H a o) : ∃ u, H a = some u := by
  rcases h with h | ⟨ob, h⟩
  · exact ⟨_, h⟩
  · exact ⟨_, h⟩
theorem Stay.rd (s : Stay α F H α' F' H') {a : Addr} {o : HO} (h : a ∉ α) (ho : Rd H a o) : Rd H' a o := by
  rcases ho with ho | ⟨ob, ho⟩
  · exact .inl (s.keep _ _ h ho)
  · exact .inr ⟨ob, s.keep _ _ h ho⟩
theorem RepC.nt {ho : HO} {d : D} (h : RepC K mg α F ho d) : ∀ xs, ho ≠ .tup xs := by
  cases h <;> (intro xs z; cases z)
theorem RepC.rd {a : Addr} {ho : HO} {d : D} (h : RepC K mg α F ho d) (r : Rd H a ho) : ∃ u, H a = some u ∧ ∀ xs, u ≠ .tup xs := by
  rcases r with r | ⟨ob, r⟩
  · exact ⟨_, r, h.nt⟩
  · exact ⟨_, r, by intro xs z; cases z⟩
theorem Own.stay (s : Stay α F H α' F' H') {a : Addr} {ho : HO} {d : D} (r : Rd H a ho) (o : Own K mg e α F H a ho d) : Own K mg e α' F' H' a ho d := by
  obtain ⟨u, hu, nt⟩ := o.c.rd r
  exact ⟨s.out a u o.nf hu nt, s.na o.na hu, o.ne, o.c.mono s.pre s.fz⟩
theorem SlotR.stay (s : Stay α F H α' F' H') {x : Option (Option V)} : ∀ {z : Sl}, SlotR K mg e α F H x z → SlotR K mg e α' F' H' x z
  | .un, _ => trivial
  | .dat d, ⟨v, h1, h2⟩ => ⟨v, h1, h2.mono s.pre s.fz⟩
  | .own d, ⟨a, ho, h1, h2, h3⟩ => ⟨a, ho, h1, s.keep _ _ h3.na h2, h3.stay s (.inl h2)⟩
  | .lok d, ⟨a, ho, h1, h2, h3⟩ => ⟨a, ho, h1, s.rd h3.na h2, h3.stay s h2⟩
theorem Sig.stay (S : Sig K mg e Λ α F σ H r m) (s : Stay α F H α' F' H') (g : G K mg α' F' H' m') : Sig K mg e Λ α' F' σ H' r m' :=
  ⟨g, S.st.trans s, S.len, fun i z h => (S.sl i z h).stay s, S.dis, S.lk⟩
theorem RK.stay (s : Stay α F H α' F' H') {v : V} {d : D} : ∀ {k : Kd}, RK K mg H0 α F H v d k → RK K mg H0 α' F' H' v d k
  | .froz, h => Rep.mono s.pre s.fz h
  | .bor, .inl h => .inl (Rep.mono s.pre s.fz h)
  | .bor, .inr ⟨a, ho, h1, h2, h3, h4, h5⟩ => by
    exact .inr ⟨a, ho, h1, s.keep _ _ h4 h2, s.out a _ h3 h2 h5.nt, s.na h4 h2, h5.mono s.pre s.fz⟩
  | .fre, ⟨a, ho, h1, h2, h3, h4, h5, h6⟩ => ⟨a, ho, h1, s.keep _ _ h4 h2, s.out a _ h3 h2 h6.nt, s.na h4 h2, h5, h6.mono s.pre s.fz⟩
/-- fresh since a later heap is fresh since an earlier one -/
theorem RK.back {H1 : Hp} {α1 : List Addr} {F1 : Hp} (s : Stay α1 F1 H0 α F H) {v : V} {d : D} : ∀ {k : Kd}, RK K mg H α' F' H' v d k → RK K mg H0 α' F' H' v d k
  | .froz, h => h
  | .bor, h => h
  | .fre, ⟨a, ho, h1, h2, h3, h4, h5, h6⟩ => ⟨a, ho, h1, h2, h3, h4, (by
      cases q : H0 a with
      | none => rfl
      | some o =>
        obtain ⟨o', z, _⟩ := s.there a o q
        rw [z] at h5; cases h5), h6⟩
theorem Stay.sub (s : Stay α F H α' F' H') : ∀ a, a ∉ α' → a ∉ α := fun a h z => h (by obtain ⟨β, rfl⟩ := s.pre; exact List.mem_append_left _ z)
theorem RK.bor {v : V} {d : D} : ∀ {k : Kd}, RK K mg H0 α F H v d k → RB K mg α F H v d
  | .froz, h => .inl h
  | .bor, h => h
  | .fre, ⟨a, ho, h1, h2, h3, h4, h5, h6⟩ => .inr ⟨a, ho, h1, h2, h3, h4, h6⟩
/-- a new container is frozen, a dict is locked -/
theorem freeze (g : G K mg α F H m) {a : Addr} {ho : HO} {d : D} (ob : Obj) (h2 : H a = some ho) (h3 : F a = none) (h4 : a ∉ α) (h6 : RepC K mg α F ho d) :
    G K mg α (upd F a ho) (upd H a (lockO ob ho)) m ∧ Rep K mg α (upd F a ho) (.ref a) d ∧ ∀ b o, F b = some o → upd F a ho b = some o := by
  have fz : ∀ b o, F b = some o → upd F a ho b = some o := fun b o hb => by rw [upd_ne (ne_of_none hb h3)]; exact hb
  refine ⟨⟨fun b o hb => ?_, g.len, g.nd, fun n b hb => ?_⟩, ?_, fz⟩
  · by_cases e : b = a
    · subst e; rw [upd_same] at hb; cases hb
      rw [upd_same]
      by_cases nd : IsDc ho
      · exact .inr ⟨nd, ob, by rw [lockO_d nd]⟩
      · exact .inl ⟨by rw [lockO_nd nd], nd⟩
    · rw [upd_ne e] at hb; rw [upd_ne e]; exact g.sub b o hb
  · obtain ⟨q1, ho', d', q2, q3, q4⟩ := g.cell n b hb
    have ne : b ≠ a := fun z => h4 (z ▸ List.mem_of_getElem? hb)
    exact ⟨by rw [upd_ne ne]; exact q1, ho', d', q2, by rw [upd_ne ne]; exact q3, q4.mono ⟨[], by simp⟩ fz⟩
  · cases h6 with
    | lst r => exact .lst upd_same (r.mono ⟨[], by simp⟩ fz)
    | dK r => exact .dK upd_same (r.mono ⟨[], by simp⟩ fz)
    | dT r => exact .dT upd_same (r.mono ⟨[], by simp⟩ fz)
/-- freezing what no slot owns -/
theorem Stay.freeze {a : Addr} {ho : HO} {α1 : List Addr} {F1 H1 : Hp} (s : Stay α1 F1 H1 α F H) (ob : Obj) (h1 : H1 a = none) (h3 : F a = none) : Stay α1 F1 H1 α (upd F a ho) (upd H a (lockO ob ho)) := by
  have ne : ∀ {b o}, H1 b = some o → b ≠ a := fun {b o} q z => by subst z; rw [h1] at q; cases q
  refine ⟨s.pre, fun b o hb => by rw [upd_ne (ne_of_none (s.fz b o hb) h3)]; exact s.fz b o hb, fun b o h q => by rw [upd_ne (ne q)]; exact s.keep b o h q, s.new, fun b o q1 q2 q3 => by
    rw [upd_ne (ne q2)]; exact s.out b o q1 q2 q3, fun b o q => by rw [upd_ne (ne q)]; exact s.there b o q⟩
theorem Sig.freeze (S : Sig K mg e Λ α F σ H r m) {a : Addr} {ho : HO} {d : D} (ob : Obj) (h2 : H a = some ho) (h3 : F a = none) (h4 : a ∉ α) (h5 : e.H a = none) (h6 : RepC K mg α F ho d)
    (hn : ∀ (i : Nat) (d' : D), (r[i]? = some (.own d') ∨ r[i]? = some (.lok d')) → σ[i]? ≠ some (some (.ref a))) : Sig K mg e Λ α (upd F a ho) σ (upd H a (lockO ob ho)) r m := by
  obtain ⟨g', _, fz⟩ := Q.freeze S.g ob h2 h3 h4 h6
  refine ⟨g', S.st.freeze ob h5 h3, S.len, fun i z hz => ?_, S.dis, S.lk⟩
  have q := S.sl i z hz
  cases z with
  | un => trivial
  | dat d' => obtain ⟨v, q1, q2⟩ := q; exact ⟨v, q1, q2.mono ⟨[], by simp⟩ fz⟩
  | own d' =>
    obtain ⟨b, hb, q1, q2, q3⟩ := q
    have ne : b ≠ a := fun z => hn i d' (.inl hz) (z ▸ q1)
    exact ⟨b, hb, q1, by rw [upd_ne ne]; exact q2, ⟨by rw [upd_ne ne]; exact q3.nf, q3.na, q3.ne, q3.c.mono ⟨[], by simp⟩ fz⟩⟩
  | lok d' =>
    obtain ⟨b, hb, q1, q2, q3⟩ := q
    have ne : b ≠ a := fun z => hn i d' (.inr hz) (z ▸ q1)
    have q2' : Rd (upd H a (lockO ob ho)) b hb := by
      rcases q2 with q2 | ⟨o, q2⟩
      · exact .inl (by rw [upd_ne ne]; exact q2)
      · exact .inr ⟨o, by rw [upd_ne ne]; exact q2⟩
    exact ⟨b, hb, q1, q2', ⟨by rw [upd_ne ne]; exact q3.nf, q3.na, q3.ne, q3.c.mono ⟨[], by simp⟩ fz⟩⟩
/-- the containers of the slots stood there -/
theorem Sig.there (S : Sig K mg e Λ α F σ H r m) {i : Nat} {d : D} (h : r[i]? = some (.own d) ∨ r[i]? = some (.lok d)) {a : Addr} (ha : σ[i]? = some (some (.ref a))) : ∃ o, H a = some o := by
  rcases h with h | h
  · obtain ⟨b, hb, q1, q2, q3⟩ := S.sl i _ h
    rw [ha] at q1; cases q1; exact ⟨_, q2⟩
  · obtain ⟨b, hb, q1, q2, q3⟩ := S.sl i _ h
    rw [ha] at q1; cases q1; exact rd_some q2
theorem Sig.e0 (S : Sig K mg e Λ α F σ H r m) {a : Addr} (h : H a = none) : e.H a = none := by
  cases q : e.H a with
  | none => rfl
  | some o => obtain ⟨o', z, _⟩ := S.st.there a o q; rw [h] at z; cases z
end


/-- what goes with a start heap goes with an earlier one -/
def BackR {γ δ : Type} (Rl : Hp → List Addr → Hp → Hp → γ → δ → Prop) : Prop := ∀ α F H α1 F1 H1 α' F' H' v d, Stay α F H α1 F1 H1 → Rl H1 α' F' H' v d → Rl H α' F' H' v d
theorem back_K {K : PySem.W.Frag} {mg : Str → Option Value} {k : Kd} : BackR (RlK K mg k) := fun α F H α1 F1 H1 α' F' H' v d s h => RK.back (H1 := H) s h
theorem back_B : BackR RlB := fun _ _ _ _ _ _ _ _ _ _ _ _ h => h
theorem back_L {K : PySem.W.Frag} {mg : Str → Option Value} {k : Kd} : BackR (RlL K mg k) := fun α F H α1 F1 H1 α' F' H' v d s h => by
  induction h with
  | nil => exact .nil
  | cons r t ih => exact .cons (RK.back (H1 := H) s r) ih
def Res.bind {α β : Type} (x : Res α) (f : α → Sto → Res β) : Res β := match x with
  | .stuck => .stuck
  | .ok a m => f a m
  | .exc n m => .exc n m
section
variable {K : PySem.W.Frag} {mg : Str → Option Value} {W : WX} {e : En} {Λ : Nat → Option (V × D)} {α : List Addr} {F : Hp} {σ : L2.St} {H : Hp} {r : Env}
variable {γ δ γ' δ' : Type} {Rl : Hp → List Addr → Hp → Hp → γ → δ → Prop} {Rl' : Hp → List Addr → Hp → Hp → γ' → δ' → Prop}
theorem At.bind {t : (γ → Hp → Prop) → Prop} {x : Res δ} {u : γ → Hp → (γ' → Hp → Prop) → Prop} {f : δ → Sto → Res δ'} (bk : BackR Rl') (h : At K mg W Rl e Λ α F σ H r t x)
    (hu : ∀ d m', x = .ok d m' → ∀ v α' F' H', Sig K mg e Λ α' F' σ H' r m' → Stay α F H α' F' H' → Rl H α' F' H' v d → At K mg W Rl' e Λ α' F' σ H' r (u v H') (f d m')) :
    At K mg W Rl' e Λ α F σ H r (fun Q => t fun v H' => u v H' Q) (x.bind f) := by
  cases x with
  | stuck => trivial
  | exc n m' => exact fun w Q => h w _
  | ok d m' =>
    show At K mg W Rl' e Λ α F σ H r _ (f d m')
    have hu := hu d m' rfl
    cases hf : f d m' with
    | stuck => trivial
    | exc n m2 =>
      intro w Q
      refine h (fun v H' => u v H' Q) fun v α' F' H' S' s' k' => ?_
      have q := hu v α' F' H' S' s' k'
      rw [hf] at q
      exact q w Q
    | ok d2 m2 =>
      intro Q w
      refine h (fun v H' => u v H' Q) fun v α' F' H' S' s' k' => ?_
      have q := hu v α' F' H' S' s' k'
      rw [hf] at q
      exact q Q fun v2 α2 F2 H2 S2 s2 k2 => w v2 α2 F2 H2 S2 (s'.trans s2) (bk _ _ _ _ _ _ _ _ _ _ _ s' k2)
theorem At.ret {m : Sto} {v : γ} {d : δ} (S : Sig K mg e Λ α F σ H r m) (k : Rl H α F H v d) : At K mg W Rl e Λ α F σ H r (fun Q => Q v H) (.ok d m) :=
  fun Q w => w v α F H S (Stay.refl _ _ _) k
/-- a step that keeps the store -/
theorem At.op {m : Sto} {d : δ} {t : (γ → Hp → Prop) → Prop} (S : Sig K mg e Λ α F σ H r m) (h : ∀ Q : γ → Hp → Prop, (∀ u α' F' H', G K mg α' F' H' m → Stay α F H α' F' H' → Rl H α' F' H' u d → Q u H') → t Q) :
    At K mg W Rl e Λ α F σ H r t (.ok d m) := fun Q w => h Q fun u α' F' H' g s k => w u α' F' H' (S.stay s g) s k
end

/-! ### kinds of results -/
section
variable {X : Cx} {W : WX} {x : Expr} {f : Ed}
theorem QE.bor {k : Kd} (h : QE X W k x f) : QE X W .bor x f := by
  obtain ⟨t, h1, h2⟩ := h.ex
  refine ⟨t, h1, fun e Λ α F σ H r m S => ?_⟩
  have q := h2 e Λ α F σ H r m S
  cases hf : f r m with
  | stuck => trivial
  | exc n m' => rw [hf] at q; exact q
  | ok d m' => rw [hf] at q; exact fun Q w => q Q fun v α' F' H' S' s' k' => w v α' F' H' S' s' k'.bor
/-- a new dict is locked, for ever -/
def tFz (t : TE) : TE := fun σ H Q => t σ H fun v H1 => ∃ a u, v = .ref a ∧ H1 a = some u ∧ ∀ ob, Q v (upd H1 a (lockO ob u))
theorem pe_fz {t : TE} (h : PE X x t) : PE X x (tFz t) := by
  refine ⟨fun pins s σ H Q I hw => ?_⟩
  refine thn (h.run pins s σ H _ I hw) fun w s1 ⟨v, H1, I1, rv, a, u, ev, hu, q⟩ => ?_
  by_cases nd : IsDc u
  · have mu : Mut (some u) := by rcases nd with ⟨k, rfl⟩ | ⟨k, rfl⟩ <;> trivial
    obtain ⟨od, I2⟩ := I1.lock hu mu
    have q := q od
    rw [lockO_d nd] at q
    exact ⟨v, _, I2, rv, q⟩
  · have q := q default
    rw [lockO_nd nd, upd_self hu] at q
    exact ⟨v, H1, I1, rv, q⟩
theorem QE.froz (h : QE X W .fre x f) : QE X W .froz x f := by
  obtain ⟨t, h1, h2⟩ := h.ex
  refine ⟨tFz t, pe_fz h1, fun e Λ α F σ H r m S => ?_⟩
  have q := h2 e Λ α F σ H r m S
  cases hf : f r m with
  | stuck => trivial
  | exc n m' => rw [hf] at q; exact fun w Q => q w _
  | ok d m' =>
    rw [hf] at q
    refine fun Q w => q _ fun v α' F' H' S' s' ⟨a, ho, h1, h2, h3, h4, h5, h6⟩ => ?_
    subst h1
    refine ⟨a, ho, rfl, h2, fun ob => ?_⟩
    obtain ⟨g', rp, fz⟩ := freeze S'.g ob h2 h3 h4 h6
    refine w _ α' (upd F' a ho) (upd H' a (lockO ob ho)) (S'.freeze ob h2 h3 h4 (S.e0 h5) h6 fun i d' hd hz => ?_) (s'.freeze ob h5 h3) rp
    obtain ⟨o, z⟩ := S.there hd hz
    rw [h5] at z; cases z
end
end Q
end
section
set_option Elab.async false
set_option linter.all false
set_option maxRecDepth 100000
set_option maxHeartbeats 2000000
namespace Q
open PySem L2

/-! ### what a value's content is -/
def dr (m : Sto) : D → Option D
  | .cell n => m[n]?
  | d => some d
section
variable {K : PySem.W.Frag} {mg : Str → Option Value} {α α' : List Addr} {F F' H H' H0 : Hp} {m : Sto} {v : V} {x : D}
theorem cont_lst {ds : List D} (g : G K mg α F H m) (h : RB K mg α F H v x) (hd : dr m x = some (.lst ds)) : ∃ a vs, v = .ref a ∧ SqL K H a vs ∧ RepL K mg α F vs ds := by
  rcases h with h | ⟨a, ho, h1, h2, h3, h4, h5⟩
  · cases h with
    | lst s r => cases hd; exact ⟨_, _, rfl, .inl (.inl (g.sub.lst s)), r⟩
    | cell e =>
      obtain ⟨_, ho, d, q2, q3, q4⟩ := g.cell _ _ e
      have : d = .lst ds := Option.some.inj (q2.symm.trans hd)
      subst this
      cases q4 with
      | lst r => exact ⟨_, _, rfl, .inl (.inl q3), r⟩
    | _ => cases hd
  · cases h5 with
    | lst r => cases hd; exact ⟨_, _, h1, .inl (.inl h2), r⟩
    | dK r => cases hd
    | dT r => cases hd
/-- the list itself -/
theorem cont_lstX {ds : List D} (g : G K mg α F H m) (h : RB K mg α F H v x) (hd : dr m x = some (.lst ds)) : ∃ a vs, v = .ref a ∧ H a = some (.lst vs) ∧ RepL K mg α F vs ds := by
  rcases h with h | ⟨a, ho, h1, h2, h3, h4, h5⟩
  · cases h with
    | lst s r => cases hd; exact ⟨_, _, rfl, g.sub.lst s, r⟩
    | cell e =>
      obtain ⟨_, ho, d, q2, q3, q4⟩ := g.cell _ _ e
      have : d = .lst ds := Option.some.inj (q2.symm.trans hd)
      subst this
      cases q4 with
      | lst r => exact ⟨_, _, rfl, q3, r⟩
    | _ => cases hd
  · cases h5 with
    | lst r => cases hd; exact ⟨_, _, h1, h2, r⟩
    | dK r => cases hd
    | dT r => cases hd
theorem cont_tup {ds : List D} (g : G K mg α F H m) (h : RB K mg α F H v x) (hd : dr m x = some (.tup ds)) : x = .tup ds ∧ ∃ a vs, v = .ref a ∧ H a = some (.tup vs) ∧ F a = some (.tup vs) ∧ RepL K mg α F vs ds := by
  rcases h with h | ⟨a, ho, h1, h2, h3, h4, h5⟩
  · cases h with
    | tup s r => cases hd; exact ⟨rfl, _, _, rfl, g.sub.tup s, s, r⟩
    | cell e =>
      obtain ⟨_, ho, d, q2, q3, q4⟩ := g.cell _ _ e
      have : d = .tup ds := Option.some.inj (q2.symm.trans hd)
      subst this
      cases q4
    | _ => cases hd
  · cases h5 with
    | lst r => cases hd
    | dK r => cases hd
    | dT r => cases hd
/-- a tuple, of the module too -/
theorem cont_seqT {ds : List D} (g : G K mg α F H m) (h : RB K mg α F H v x) (hd : x = .tup ds ∨ x = .ktup ds) : ∃ a vs, v = .ref a ∧ SqT K H a vs ∧ RepL K mg α F vs ds := by
  rcases hd with rfl | rfl
  · obtain ⟨_, a, vs, h1, h2, _, h3⟩ := cont_tup (ds := ds) g h rfl
    exact ⟨a, vs, h1, .inl (.inl h2), h3⟩
  · rcases h with h | ⟨a, ho, h1, h2, h3, h4, h5⟩
    · cases h with
      | ktup s r => exact ⟨_, _, rfl, sqT_k s, r⟩
    · cases h5
theorem cont_dK {ds : List (Key × D)} (g : G K mg α F H m) (h : RB K mg α F H v x) (hd : dr m x = some (.dK ds)) : ∃ a vs, v = .ref a ∧ Rd H a (.dK vs) ∧ RepK K mg α F vs ds := by
  rcases h with h | ⟨a, ho, h1, h2, h3, h4, h5⟩
  · cases h with
    | dK s r => cases hd; exact ⟨_, _, rfl, g.sub.rd s, r⟩
    | cell e =>
      obtain ⟨_, ho, d, q2, q3, q4⟩ := g.cell _ _ e
      have : d = .dK ds := Option.some.inj (q2.symm.trans hd)
      subst this
      cases q4 with
      | dK r => exact ⟨_, _, rfl, .inl q3, r⟩
    | _ => cases hd
  · cases h5 with
    | lst r => cases hd
    | dK r => cases hd; exact ⟨_, _, h1, .inl h2, r⟩
    | dT r => cases hd
theorem cont_dT {ds : List (List Key × D)} (g : G K mg α F H m) (h : RB K mg α F H v x) (hd : dr m x = some (.dT ds)) : ∃ a vs, v = .ref a ∧ Rd H a (.dT vs) ∧ RepT K mg α F vs ds := by
  rcases h with h | ⟨a, ho, h1, h2, h3, h4, h5⟩
  · cases h with
    | dT s r => cases hd; exact ⟨_, _, rfl, g.sub.rd s, r⟩
    | cell e =>
      obtain ⟨_, ho, d, q2, q3, q4⟩ := g.cell _ _ e
      have : d = .dT ds := Option.some.inj (q2.symm.trans hd)
      subst this
      cases q4 with
      | dT r => exact ⟨_, _, rfl, .inl q3, r⟩
    | _ => cases hd
  · cases h5 with
    | lst r => cases hd
    | dK r => cases hd
    | dT r => cases hd; exact ⟨_, _, h1, .inl h2, r⟩
theorem rb_int {i : Int} (h : RB K mg α F H v (.int i)) : v = .int i := by
  rcases h with h | ⟨a, ho, h1, h2, h3, h4, h5⟩
  · exact h.int_inv
  · cases h5
theorem rb_bl {i : Bool} (h : RB K mg α F H v (.bl i)) : v = .bl i := by
  rcases h with h | ⟨a, ho, h1, h2, h3, h4, h5⟩
  · exact h.bl_inv
  · cases h5
theorem rb_str {i : Str} (h : RB K mg α F H v (.str i)) : v = .str i := by
  rcases h with h | ⟨a, ho, h1, h2, h3, h4, h5⟩
  · exact h.str_inv
  · cases h5
theorem rb_non (h : RB K mg α F H v .non) : v = .non := by
  rcases h with h | ⟨a, ho, h1, h2, h3, h4, h5⟩
  · exact h.non_inv
  · cases h5
theorem RKL.stay (s : Stay α F H α' F' H') {k : Kd} {vs : List V} {ds : List D} (h : RKL K mg k H0 α F H vs ds) : RKL K mg k H0 α' F' H' vs ds := by
  induction h with
  | nil => exact .nil
  | cons r t ih => exact .cons (r.stay s) ih
theorem RKL.rep {vs : List V} {ds : List D} (h : RKL K mg .froz H0 α F H vs ds) : RepL K mg α F vs ds := by
  induction h with
  | nil => exact .nil
  | cons r t ih => exact .cons r ih
theorem RKL.bor {k : Kd} {vs : List V} {ds : List D} (h : RKL K mg k H0 α F H vs ds) : RKL K mg .bor H0 α F H vs ds := by
  induction h with
  | nil => exact .nil
  | cons r t ih => exact .cons r.bor ih
theorem RK.any {H1 : Hp} {v : V} {d : D} : ∀ {k : Kd}, k ≠ .fre → RK K mg H0 α F H v d k → RK K mg H1 α F H v d k
  | .froz, _, h => h
  | .bor, _, h => h
  | .fre, z, _ => absurd rfl z
theorem RKL.any {k : Kd} {H1 : Hp} (z : k ≠ .fre) {vs : List V} {ds : List D} (h : RKL K mg k H0 α F H vs ds) : RKL K mg k H1 α F H vs ds := by
  induction h with
  | nil => exact .nil
  | cons r t ih => exact .cons (r.any z) ih
/-- a new object laid: frozen at once -/
theorem G.new {o : HO} {p : Addr} (g : G K mg α F H m) (hp : H p = none) : G K mg α F (upd H p o) m ∧ Stay α F H α F (upd H p o) := by
  have hF : F p = none := by
    cases q : F p with
    | none => rfl
    | some u => rcases g.sub _ _ q with ⟨z, _⟩ | ⟨_, _, z⟩ <;> (rw [hp] at z; cases z)
  have kp : ∀ b u, H b = some u → upd H p o b = some u := fun b u q => by rw [upd_ne (ne_of_none q hp)]; exact q
  refine ⟨⟨fun a u q => ?_, g.len, g.nd, fun n a q => ?_⟩, ⟨⟨[], by simp⟩, fun _ _ q => q, fun a u _ q => kp a u q, fun _ q => .inl q, fun _ _ q _ _ => q, fun a u q => ⟨u, kp a u q, fun z => z⟩⟩⟩
  · rcases g.sub a u q with ⟨z, nd⟩ | ⟨z1, ob, z⟩
    · exact .inl ⟨kp _ _ z, nd⟩
    · exact .inr ⟨z1, ob, kp _ _ z⟩
  · obtain ⟨q1, ho, d, q2, q3, q4⟩ := g.cell n a q
    exact ⟨q1, ho, d, q2, kp _ _ q3, q4⟩
theorem G.fno (g : G K mg α F H m) {p : Addr} (hp : H p = none) : F p = none := by
  cases q : F p with
  | none => rfl
  | some u => rcases g.sub _ _ q with ⟨z, _⟩ | ⟨_, _, z⟩ <;> (rw [hp] at z; cases z)
theorem G.nin (g : G K mg α F H m) {p : Addr} (hp : H p = none) : p ∉ α := fun z => by
  obtain ⟨n, hn⟩ := List.mem_iff_getElem?.mp z
  obtain ⟨_, ho, d, _, q3, _⟩ := g.cell n p hn
  rw [hp] at q3; cases q3
/-- a new tuple, frozen -/
theorem G.tup {p : Addr} {vs : List V} {ds : List D} (g : G K mg α F H m) (hp : H p = none) (r : RepL K mg α F vs ds) :
    ∃ F', G K mg α F' (upd H p (.tup vs)) m ∧ Stay α F H α F' (upd H p (.tup vs)) ∧ Rep K mg α F' (.ref p) (.tup ds) := by
  obtain ⟨g1, s1⟩ := g.new (o := .tup vs) hp
  have hF := g.fno hp
  have hn := g.nin hp
  have fz : ∀ b o, F b = some o → upd F p (.tup vs) b = some o := fun b o hb => by rw [upd_ne (ne_of_none hb hF)]; exact hb
  have sf := s1.freeze (ho := .tup vs) default hp hF
  rw [lockO_nd (by rintro (⟨_, z⟩ | ⟨_, z⟩) <;> cases z), upd_self upd_same] at sf
  refine ⟨upd F p (.tup vs), ⟨fun a u q => ?_, g1.len, g1.nd, fun n a q => ?_⟩, sf, .tup upd_same (r.mono ⟨[], by simp⟩ fz)⟩
  · by_cases e : a = p
    · subst e; rw [upd_same] at q; cases q; exact .inl ⟨upd_same, by rintro (⟨_, z⟩ | ⟨_, z⟩) <;> cases z⟩
    · rw [upd_ne e] at q; exact g1.sub a u q
  · obtain ⟨q1, ho, d, q2, q3, q4⟩ := g1.cell n a q
    have ne : a ≠ p := fun z => hn (z ▸ List.mem_of_getElem? q)
    exact ⟨by rw [upd_ne ne]; exact q1, ho, d, q2, q3, q4.mono ⟨[], by simp⟩ fz⟩
/-- a new container, not yet frozen -/
theorem G.fre {p : Addr} {o : HO} {d : D} (g : G K mg α F H m) (hp : H p = none) (r : RepC K mg α F o d) :
    G K mg α F (upd H p o) m ∧ Stay α F H α F (upd H p o) ∧ RK K mg H α F (upd H p o) (.ref p) d .fre := by
  obtain ⟨g1, s1⟩ := g.new (o := o) hp
  exact ⟨g1, s1, p, o, rfl, upd_same, g.fno hp, g.nin hp, hp, r⟩
/-- a new list, frozen -/
theorem G.con {p : Addr} {vs : List V} {ds : List D} (g : G K mg α F H m) (hp : H p = none) (r : RepL K mg α F vs ds) :
    ∃ F', G K mg α F' (upd H p (.lst vs)) m ∧ Stay α F H α F' (upd H p (.lst vs)) ∧ Rep K mg α F' (.ref p) (.lst ds) := by
  obtain ⟨g1, s1, _, _, _, _, _⟩ := g.fre hp (.lst r)
  obtain ⟨g2, rp, fz⟩ := freeze g1 default upd_same (g.fno hp) (g.nin hp) (.lst r)
  have sf := s1.freeze (ho := .lst vs) default hp (g.fno hp)
  rw [lockO_nd (by rintro (⟨_, z⟩ | ⟨_, z⟩) <;> cases z), upd_self upd_same] at sf
  rw [lockO_nd (by rintro (⟨_, z⟩ | ⟨_, z⟩) <;> cases z), upd_self upd_same] at g2
  exact ⟨_, g2, sf, rp⟩
end

/-! ### by values -/
def Snd1 (K : PySem.W.Frag) (mg : Str → Option Value) (k : Kd) (r : V → Hp → VK → Prop) (g : Sto → D → Option D) : Prop :=
  ∀ α F H m v x d, G K mg α F H m → RB K mg α F H v x → g m x = some d → ∀ Q : VK, (∀ u α' F' H', G K mg α' F' H' m → Stay α F H α' F' H' → RK K mg H α' F' H' u d k → Q u H') → r v H Q
def Snd2 (K : PySem.W.Frag) (mg : Str → Option Value) (k : Kd) (r : R2) (g : Sto → D → D → Option D) : Prop :=
  ∀ α F H m v w x y d, G K mg α F H m → RB K mg α F H v x → RB K mg α F H w y → g m x y = some d → ∀ Q : VK, (∀ u α' F' H', G K mg α' F' H' m → Stay α F H α' F' H' → RK K mg H α' F' H' u d k → Q u H') → r v w H Q
def SndN (K : PySem.W.Frag) (mg : Str → Option Value) (k : Kd) (r : List V → Hp → VK → Prop) (g : Sto → List D → Option D) : Prop :=
  ∀ α F H m vs xs d, G K mg α F H m → RKL K mg .bor H α F H vs xs → g m xs = some d → ∀ Q : VK, (∀ u α' F' H', G K mg α' F' H' m → Stay α F H α' F' H' → RK K mg H α' F' H' u d k → Q u H') → r vs H Q
def lift (o : Option D) (m : Sto) : Res D := match o with
  | some d => .ok d m
  | none => .stuck
def op1 (g : Sto → D → Option D) (fa : Ed) : Ed := fun r m => (fa r m).bind fun x m1 => lift (g m1 x) m1
def op2 (g : Sto → D → D → Option D) (fa fb : Ed) : Ed := fun r m => (fa r m).bind fun x m1 => (fb r m1).bind fun y m2 => lift (g m2 x y) m2
def opN (g : Sto → List D → Option D) (fa : Ad) : Ed := fun r m => (fa r m).bind fun xs m1 => lift (g m1 xs) m1
section
variable {X : Cx} {W : WX} {k : Kd}
theorem Snd1.snd {K : PySem.W.Frag} {mg : Str → Option Value} {r : V → Hp → VK → Prop} {g : Sto → D → Option D} (hs : Snd1 K mg k r g) {ta : TE} {fa : Ed} (ha : SndE K mg W .bor ta fa) : SndE K mg W k (tUn r ta) (op1 g fa) := by
  intro e Λ α F σ H ρ m S
  refine At.bind (t := ta σ H) (u := fun v H1 => r v H1) back_K (ha e Λ α F σ H ρ m S) fun x m1 _ v α1 F1 H1 S1 s1 k1 => ?_
  cases q : g m1 x with
  | none => trivial
  | some d => exact At.op S1 fun Q w => hs _ _ _ _ _ _ _ S1.g k1.bor q Q w
theorem Snd2.snd {K : PySem.W.Frag} {mg : Str → Option Value} {r : R2} {g : Sto → D → D → Option D} (hs : Snd2 K mg k r g) {ta tb : TE} {fa fb : Ed} (ha : SndE K mg W .bor ta fa) (hb : SndE K mg W .bor tb fb) : SndE K mg W k (tOp r ta tb) (op2 g fa fb) := by
  intro e Λ α F σ H ρ m S
  refine At.bind (t := ta σ H) (u := fun v H1 Q => tb σ H1 fun w H2 => r v w H2 Q) back_K (ha e Λ α F σ H ρ m S) fun x m1 _ v α1 F1 H1 S1 s1 k1 => ?_
  refine At.bind (t := tb σ H1) (u := fun w H2 => r v w H2) back_K (hb e Λ α1 F1 σ H1 ρ m1 S1) fun y m2 _ w α2 F2 H2 S2 s2 k2 => ?_
  cases q : g m2 x y with
  | none => trivial
  | some d => exact At.op S2 fun Q w' => hs _ _ _ _ _ _ _ _ _ S2.g (k1.bor.stay s2) k2.bor q Q w'
theorem SndN.snd {K : PySem.W.Frag} {mg : Str → Option Value} {r : List V → Hp → VK → Prop} {g : Sto → List D → Option D} (hs : SndN K mg k r g) {ta : TA} {fa : Ad} (ha : SndA K mg W .bor ta fa) : SndE K mg W k (tCB r ta) (opN g fa) := by
  intro e Λ α F σ H ρ m S
  refine At.bind (t := ta σ H) (u := fun v H1 => r v H1) back_K (ha e Λ α F σ H ρ m S) fun xs m1 _ vs α1 F1 H1 S1 s1 k1 => ?_
  cases q : g m1 xs with
  | none => trivial
  | some d =>
    exact At.op S1 fun Q w => hs _ _ _ _ _ _ _ S1.g (k1.bor.any (by intro z; cases z)) q Q w

/-! ### names, constants -/
def eC (d : D) : Ed := fun _ m => .ok d m
/-- a name whose value is frozen -/
def eV (i : Nat) : Ed := fun r m => match r[i]? with
  | some (.dat d) => .ok d m
  | _ => .stuck
/-- a name, borrowed -/
def eB (i : Nat) : Ed := fun r m => match r[i]? with
  | some (.dat d) => .ok d m
  | some (.own d) => .ok d m
  | _ => .stuck
theorem qe_c {x : Expr} {v : V} {d : D} (h : PE X x (tC v)) (hr : ∀ α F, Rep X.K X.mg α F v d) : QE X W .froz x (eC d) :=
  ⟨tC v, h, fun e Λ α F σ H r m S => At.ret S (hr _ _)⟩
theorem qe_int {i : Int} {j pos} : QE X W .froz (.Constant (.int i) j pos) (eC (.int i)) := qe_c pe_int fun _ _ => .int i
theorem qe_bl {b : Bool} {j pos} : QE X W .froz (.Constant (.bool b) j pos) (eC (.bl b)) := qe_c pe_bl fun _ _ => .bl b
theorem qe_non {j pos} : QE X W .froz (.Constant .none j pos) (eC .non) := qe_c pe_non fun _ _ => .non
theorem qe_str {x : Str} {j pos} : QE X W .froz (.Constant (.str x) j pos) (eC (.str x)) := qe_c pe_str fun _ _ => .str x
theorem qe_v (i : Nat) {x : Str} {pos : Pos} (hN : X.N[i]? = some x := by rfl) (hv : Vis X.env.scope x := by first | exact Or.inl rfl | exact Or.inr (Or.inl rfl) | exact Or.inr (Or.inr rfl)) (hd : (x == ("__debug__" : Str)) = false := by decide)
    (hcd : (x == ("__classdict__" : Str)) = false := by decide) : QE X W .froz (.Name x pos) (eV i) := by
  refine ⟨tVar i, pe_var hN hv hd hcd, fun e Λ α F σ H r m S => ?_⟩
  unfold eV
  split
  · rename_i d hr
    obtain ⟨v, h1, h2⟩ := S.sl i _ hr
    exact fun Q w => ⟨v, h1, w v _ _ _ S (Stay.refl _ _ _) h2⟩
  · trivial
theorem qe_b (i : Nat) {x : Str} {pos : Pos} (hN : X.N[i]? = some x := by rfl) (hv : Vis X.env.scope x := by first | exact Or.inl rfl | exact Or.inr (Or.inl rfl) | exact Or.inr (Or.inr rfl)) (hd : (x == ("__debug__" : Str)) = false := by decide)
    (hcd : (x == ("__classdict__" : Str)) = false := by decide) : QE X W .bor (.Name x pos) (eB i) := by
  refine ⟨tVar i, pe_var hN hv hd hcd, fun e Λ α F σ H r m S => ?_⟩
  unfold eB
  split
  · rename_i d hr
    obtain ⟨v, h1, h2⟩ := S.sl i _ hr
    exact fun Q w => ⟨v, h1, w v _ _ _ S (Stay.refl _ _ _) (.inl h2)⟩
  · rename_i d hr
    obtain ⟨a, ho, h1, h2, h3⟩ := S.sl i _ hr
    exact fun Q w => ⟨_, h1, w _ _ _ _ S (Stay.refl _ _ _) (.inr ⟨a, ho, rfl, h2, h3.nf, h3.na, h3.c⟩)⟩
  · trivial

/-! ### operators -/
theorem qe_op {op : Operator} {r : R2} {g : Sto → D → D → Option D} {a b : Expr} {pos : Pos} {fa fb : Ed} (ho : OpR X (binaryOp op) r) (hs : Snd2 X.K X.mg k r g) (ha : QE X W .bor a fa) (hb : QE X W .bor b fb) : QE X W k (.BinOp a op b pos) (op2 g fa fb) := by
  obtain ⟨ta, a1, a2⟩ := ha.ex
  obtain ⟨tb, b1, b2⟩ := hb.ex
  exact ⟨_, pe_op ho a1 b1, hs.snd a2 b2⟩
theorem qe_un {op : UnaryOp} {r : V → Hp → VK → Prop} {g : Sto → D → Option D} {a : Expr} {pos : Pos} {fa : Ed} (ho : UnR X (unaryOp op) r) (hs : Snd1 X.K X.mg k r g) (ha : QE X W .bor a fa) : QE X W k (.UnaryOp op a pos) (op1 g fa) := by
  obtain ⟨ta, a1, a2⟩ := ha.ex
  exact ⟨_, pe_un ho a1, hs.snd a2⟩
theorem qe_cmp {op : CmpOp} {r : R2} {g : Sto → D → D → Option D} {a b : Expr} {pos : Pos} {fa fb : Ed} (ho : OpR X (compareOp op) r) (hs : Snd2 X.K X.mg k r g) (ha : QE X W .bor a fa) (hb : QE X W .bor b fb) (hm : behindInMarks op b = false) : QE X W k (.Compare a [op] [b] pos) (op2 g fa fb) := by
  obtain ⟨ta, a1, a2⟩ := ha.ex
  obtain ⟨tb, b1, b2⟩ := hb.ex
  exact ⟨_, pe_cmpR ho a1 b1 hm, hs.snd a2 b2⟩
theorem qe_ix {r : R2} {g : Sto → D → D → Option D} {a b : Expr} {pos : Pos} {fa fb : Ed} (ho : IxR X r) (hs : Snd2 X.K X.mg k r g) (ha : QE X W .bor a fa) (hb : QE X W .bor b fb) (hp : PlainIx b) : QE X W k (.Subscript a b pos) (op2 g fa fb) := by
  obtain ⟨ta, a1, a2⟩ := ha.ex
  obtain ⟨tb, b1, b2⟩ := hb.ex
  exact ⟨_, pe_ix ho a1 b1 hp, hs.snd a2 b2⟩

/-! ### arguments, displays -/
def aN : Ad := fun _ m => .ok [] m
def aC (fa : Ed) (fr : Ad) : Ad := fun r m => (fa r m).bind fun x m1 => (fr r m1).bind fun xs m2 => .ok (x :: xs) m2
theorem qa_nil : QA X W k [] aN := ⟨tNil, pa_nil, fun e Λ α F σ H r m S => At.ret (Rl := RlL X.K X.mg k) S .nil⟩
theorem qa_cons {e : Expr} {es : List Expr} {fa : Ed} {fr : Ad} (ha : QE X W k e fa) (hr : QA X W k es fr) (hs : starEach (e :: es) X.env = (false, eval e X.env) :: starEach es X.env := by rfl) (hk : k ≠ .fre := by intro z; cases z) : QA X W k (e :: es) (aC fa fr) := by
  obtain ⟨ta, a1, a2⟩ := ha.ex
  obtain ⟨tb, b1, b2⟩ := hr.ex
  refine ⟨_, pa_cons a1 b1 hs, fun e Λ α F σ H r m S => ?_⟩
  refine At.bind (t := ta σ H) (u := fun v H1 Q => tb σ H1 fun vs H2 => Q (v :: vs) H2) (Rl' := RlL X.K X.mg k) back_L (a2 e Λ α F σ H r m S) fun x m1 _ v α1 F1 H1 S1 s1 k1 => ?_
  refine At.bind (t := tb σ H1) (u := fun vs H2 Q => Q (v :: vs) H2) (Rl' := RlL X.K X.mg k) back_L (b2 e Λ α1 F1 σ H1 r m1 S1) fun y m2 _ w α2 F2 H2 S2 s2 k2 => ?_
  exact At.ret (Rl := RlL X.K X.mg k) S2 (.cons ((k1.stay s2).any hk) (k2.any hk))
theorem QA.bor {k : Kd} {es : List Expr} {f : Ad} (h : QA X W k es f) : QA X W .bor es f := by
  obtain ⟨t, h1, h2⟩ := h.ex
  refine ⟨t, h1, fun e Λ α F σ H r m S => ?_⟩
  have q := h2 e Λ α F σ H r m S
  cases hf : f r m with
  | stuck => trivial
  | exc n m' => rw [hf] at q; exact q
  | ok d m' =>
    rw [hf] at q
    exact fun Q w => q Q fun v α' F' H' S' s' k' => w v α' F' H' S' s' k'.bor
abbrev SZ : Nat := 100000
theorem sz {n : Nat} (h : n ≤ SZ) : n ≤ sizeLine := Nat.le_trans h (by decide)
theorem sz' {n : Nat} (h : n < SZ) : n < sizeLine := Nat.lt_of_lt_of_le h (by decide)
def gTup : Sto → List D → Option D := fun _ xs => if xs.length ≤ SZ then some (.tup xs) else none
def gLst : Sto → List D → Option D := fun _ xs => if xs.length ≤ SZ then some (.lst xs) else none
theorem qe_tup {es : List Expr} {x1} {pos : Pos} {fa : Ad} (ha : QA X W .froz es fa) : QE X W .froz (.Tuple es x1 pos) (opN gTup fa) := by
  obtain ⟨ta, a1, a2⟩ := ha.ex
  refine ⟨_, pe_tup a1, fun e Λ α F σ H r m S => ?_⟩
  refine At.bind (t := ta σ H) (u := fun xs H1 Q => xs.length ≤ sizeLine ∧ ∀ p, H1 p = none → Q (.ref p) (upd H1 p (.tup xs))) (Rl' := RlK X.K X.mg .froz) back_K (a2 e Λ α F σ H r m S) fun xs m1 _ vs α1 F1 H1 S1 s1 k1 => ?_
  unfold gTup
  by_cases h : xs.length ≤ SZ
  · rw [if_pos h]
    have rl := k1.rep
    refine At.op S1 fun Q w => ⟨by rw [rl.length]; exact sz h, fun p hp => ?_⟩
    obtain ⟨F', g', s', rp⟩ := S1.g.tup hp rl
    exact w _ _ F' _ g' s' rp
  · rw [if_neg h]; trivial
theorem qe_lst {es : List Expr} {pos : Pos} {fa : Ad} (ha : QA X W .froz es fa) : QE X W .fre (.List es pos) (opN gLst fa) := by
  obtain ⟨ta, a1, a2⟩ := ha.ex
  refine ⟨_, pe_lst a1, fun e Λ α F σ H r m S => ?_⟩
  refine At.bind (t := ta σ H) (u := fun xs H1 Q => xs.length ≤ sizeLine ∧ ∀ p, H1 p = none → Q (.ref p) (upd H1 p (.lst xs))) (Rl' := RlK X.K X.mg .fre) back_K (a2 e Λ α F σ H r m S) fun xs m1 _ vs α1 F1 H1 S1 s1 k1 => ?_
  unfold gLst
  by_cases h : xs.length ≤ SZ
  · rw [if_pos h]
    have rl := k1.rep
    refine At.op S1 fun Q w => ⟨by rw [rl.length]; exact sz h, fun p hp => ?_⟩
    obtain ⟨g', s', rp⟩ := S1.g.fre hp (.lst rl)
    exact w _ _ _ _ g' s' rp
  · rw [if_neg h]; trivial

/-! ### tests -/
def bE (f : Ed) : Bd := fun r m => (f r m).bind fun x m1 => match x with
  | .bl b => .ok b m1
  | _ => .stuck
def bAnd (f g : Bd) : Bd := fun r m => (f r m).bind fun b m1 => if b = true then g r m1 else .ok false m1
def bOr (f g : Bd) : Bd := fun r m => (f r m).bind fun b m1 => if b = true then .ok true m1 else g r m1
def bNot (f : Bd) : Bd := fun r m => (f r m).bind fun b m1 => .ok (!b) m1
theorem snd_tB {t : TE} {f : Ed} {k : Kd} {K : PySem.W.Frag} {mg : Str → Option Value} (h : SndE K mg W k t f) : SndT K mg W (tB t) (bE f) := by
  intro e Λ α F σ H r m S
  refine At.bind (t := t σ H) (u := fun x H1 Q => ∃ c, x = .bl c ∧ Q c H1) back_B (h e Λ α F σ H r m S) fun x m1 _ v α1 F1 H1 S1 s1 k1 => ?_
  cases x with
  | bl b =>
    have q := rb_bl k1.bor
    subst q
    exact fun Q w => ⟨b, rfl, w b _ _ _ S1 (Stay.refl _ _ _) rfl⟩
  | _ => trivial
theorem qt_val {e : Expr} {f : Ed} {k : Kd} (h : QE X W k e f) (he : ∀ whole, isTrue e X.env whole = (do let v ← whole; standAt e.pos; holding [v] (truthy v)) := by intro _; rfl) : QT X W e (bE f) := by
  obtain ⟨t, h1, h2⟩ := h.ex
  exact ⟨_, pt_val h1 he, snd_tB h2⟩
/-- a comparison as a test -/
theorem qt_cmp {op : CmpOp} {r : R2} {g : Sto → D → D → Option D} {a b : Expr} {pos : Pos} {fa fb : Ed} (ho : OpR X (compareOp op) r) (hs : Snd2 X.K X.mg .froz r g) (ha : QE X W .bor a fa) (hb : QE X W .bor b fb) (hm : behindInMarks op b = false) : QT X W (.Compare a [op] [b] pos) (bE (op2 g fa fb)) := by
  obtain ⟨ta, a1, a2⟩ := ha.ex
  obtain ⟨tb, b1, b2⟩ := hb.ex
  exact ⟨_, pt_cmpR ho a1 b1 hm, snd_tB (hs.snd a2 b2)⟩
theorem qt_not {e : Expr} {f : Bd} {pos : Pos} (h : QT X W e f) : QT X W (.UnaryOp .Not e pos) (bNot f) := by
  obtain ⟨t, h1, h2⟩ := h.ex
  refine ⟨_, pt_not h1, fun e Λ α F σ H r m S => ?_⟩
  refine At.bind (t := t σ H) (u := fun c H1 Q => Q (!c) H1) (Rl := RlB) (Rl' := RlB) back_B (h2 e Λ α F σ H r m S) fun b m1 _ v α1 F1 H1 S1 s1 k1 => ?_
  subst k1
  exact At.ret (Rl := RlB) S1 rfl
theorem QW.qt {e : Expr} {f : Bd} (h : QW X W e f) : QT X W e f := by
  obtain ⟨t, h1, h2⟩ := h.ex
  exact ⟨t, h1.pt, h2⟩
theorem qw_and1 {e : Expr} {f : Bd} {pos : Pos} (h : QT X W e f) : QW X W (.BoolOp .And [e] pos) f := by
  obtain ⟨t, h1, h2⟩ := h.ex
  exact ⟨t, pw_and1 h1, h2⟩
theorem qw_or1 {e : Expr} {f : Bd} {pos : Pos} (h : QT X W e f) : QW X W (.BoolOp .Or [e] pos) f := by
  obtain ⟨t, h1, h2⟩ := h.ex
  exact ⟨t, pw_or1 h1, h2⟩
theorem snd_and {K : PySem.W.Frag} {mg : Str → Option Value} {t u : TT} {f g : Bd} (h : SndT K mg W t f) (h' : SndT K mg W u g) : SndT K mg W (tAnd t u) (bAnd f g) := by
  intro e Λ α F σ H r m S
  refine At.bind (t := t σ H) (u := fun c H1 Q => if c = true then u σ H1 Q else Q false H1) (Rl := RlB) (Rl' := RlB) back_B (h e Λ α F σ H r m S) fun b m1 _ v α1 F1 H1 S1 s1 k1 => ?_
  subst k1
  cases v with
  | true => exact h' e Λ α1 F1 σ H1 r m1 S1
  | false => exact At.ret (Rl := RlB) S1 rfl
theorem snd_or {K : PySem.W.Frag} {mg : Str → Option Value} {t u : TT} {f g : Bd} (h : SndT K mg W t f) (h' : SndT K mg W u g) : SndT K mg W (tOr t u) (bOr f g) := by
  intro e Λ α F σ H r m S
  refine At.bind (t := t σ H) (u := fun c H1 Q => if c = true then Q true H1 else u σ H1 Q) (Rl := RlB) (Rl' := RlB) back_B (h e Λ α F σ H r m S) fun b m1 _ v α1 F1 H1 S1 s1 k1 => ?_
  subst k1
  cases v with
  | true => exact At.ret (Rl := RlB) S1 rfl
  | false => exact h' e Λ α1 F1 σ H1 r m1 S1
theorem qw_and {a b : Expr} {rest : List Expr} {f g : Bd} {pos : Pos} (h : QT X W a f) (h' : QW X W (.BoolOp .And (b :: rest) pos) g) : QW X W (.BoolOp .And (a :: b :: rest) pos) (bAnd f g) := by
  obtain ⟨t, h1, h2⟩ := h.ex
  obtain ⟨u, h3, h4⟩ := h'.ex
  exact ⟨_, pw_and h1 h3, snd_and h2 h4⟩
theorem qw_or {a b : Expr} {rest : List Expr} {f g : Bd} {pos : Pos} (h : QT X W a f) (h' : QW X W (.BoolOp .Or (b :: rest) pos) g) : QW X W (.BoolOp .Or (a :: b :: rest) pos) (bOr f g) := by
  obtain ⟨t, h1, h2⟩ := h.ex
  obtain ⟨u, h3, h4⟩ := h'.ex
  exact ⟨_, pw_or h1 h3, snd_or h2 h4⟩
/-! and, or, not as values of truth values -/
def eAnd (f g : Ed) : Ed := fun r m => (f r m).bind fun x m1 => match x with
  | .bl b => if b = true then g r m1 else .ok (.bl false) m1
  | _ => .stuck
def eOr (f g : Ed) : Ed := fun r m => (f r m).bind fun x m1 => match x with
  | .bl b => if b = true then .ok (.bl true) m1 else g r m1
  | _ => .stuck
def eNot (f : Ed) : Ed := fun r m => (f r m).bind fun x m1 => match x with
  | .bl b => .ok (.bl (!b)) m1
  | _ => .stuck
theorem qe_one {op} {a : Expr} {f : Ed} {pos : Pos} (h : QE X W k a f) : QE X W k (.BoolOp op [a] pos) f := by
  obtain ⟨t, h1, h2⟩ := h.ex
  exact ⟨t, pe_one h1, h2⟩
theorem qe_and {a b : Expr} {rest : List Expr} {f g : Ed} {pos : Pos} (h : QE X W .froz a f) (h' : QE X W .froz (.BoolOp .And (b :: rest) pos) g) : QE X W .froz (.BoolOp .And (a :: b :: rest) pos) (eAnd f g) := by
  obtain ⟨t, h1, h2⟩ := h.ex
  obtain ⟨u, h3, h4⟩ := h'.ex
  refine ⟨_, pe_and h1 h3, fun e Λ α F σ H r m S => ?_⟩
  refine At.bind (t := t σ H) (u := fun x H1 Q => ∃ c, x = .bl c ∧ if c = true then u σ H1 Q else Q (.bl false) H1) (Rl' := RlK X.K X.mg .froz) back_K (h2 e Λ α F σ H r m S) fun x m1 _ v α1 F1 H1 S1 s1 k1 => ?_
  cases x with
  | bl b =>
    have q := k1.bl_inv
    subst q
    cases b with
    | true =>
      show At _ _ _ _ _ _ _ _ _ _ _ _ (g r m1)
      have z := h4 e Λ α1 F1 σ H1 r m1 S1
      cases hg : g r m1 with
      | stuck => trivial
      | ok d m2 => rw [hg] at z; exact fun Q w => ⟨true, rfl, by rw [if_pos rfl]; exact z Q w⟩
      | exc n m2 => rw [hg] at z; exact fun w Q => ⟨true, rfl, by rw [if_pos rfl]; exact z w Q⟩
    | false => exact fun Q w => ⟨false, rfl, by rw [if_neg Bool.false_ne_true]; exact w _ _ _ _ S1 (Stay.refl _ _ _) (.bl false)⟩
  | _ => trivial
theorem qe_or {a b : Expr} {rest : List Expr} {f g : Ed} {pos : Pos} (h : QE X W .froz a f) (h' : QE X W .froz (.BoolOp .Or (b :: rest) pos) g) : QE X W .froz (.BoolOp .Or (a :: b :: rest) pos) (eOr f g) := by
  obtain ⟨t, h1, h2⟩ := h.ex
  obtain ⟨u, h3, h4⟩ := h'.ex
  refine ⟨_, pe_or h1 h3, fun e Λ α F σ H r m S => ?_⟩
  refine At.bind (t := t σ H) (u := fun x H1 Q => ∃ c, x = .bl c ∧ if c = true then Q (.bl true) H1 else u σ H1 Q) (Rl' := RlK X.K X.mg .froz) back_K (h2 e Λ α F σ H r m S) fun x m1 _ v α1 F1 H1 S1 s1 k1 => ?_
  cases x with
  | bl b =>
    have q := k1.bl_inv
    subst q
    cases b with
    | false =>
      show At _ _ _ _ _ _ _ _ _ _ _ _ (g r m1)
      have z := h4 e Λ α1 F1 σ H1 r m1 S1
      cases hg : g r m1 with
      | stuck => trivial
      | ok d m2 => rw [hg] at z; exact fun Q w => ⟨false, rfl, by rw [if_neg Bool.false_ne_true]; exact z Q w⟩
      | exc n m2 => rw [hg] at z; exact fun w Q => ⟨false, rfl, by rw [if_neg Bool.false_ne_true]; exact z w Q⟩
    | true => exact fun Q w => ⟨true, rfl, by rw [if_pos rfl]; exact w _ _ _ _ S1 (Stay.refl _ _ _) (.bl true)⟩
  | _ => trivial
theorem qe_not {a : Expr} {f : Ed} {pos : Pos} (h : QE X W .froz a f) : QE X W .froz (.UnaryOp .Not a pos) (eNot f) := by
  obtain ⟨t, h1, h2⟩ := h.ex
  refine ⟨_, pe_not h1, fun e Λ α F σ H r m S => ?_⟩
  refine At.bind (t := t σ H) (u := fun x H1 Q => ∃ c, x = .bl c ∧ Q (.bl (!c)) H1) (Rl' := RlK X.K X.mg .froz) back_K (h2 e Λ α F σ H r m S) fun x m1 _ v α1 F1 H1 S1 s1 k1 => ?_
  cases x with
  | bl b =>
    have q := k1.bl_inv
    subst q
    exact fun Q w => ⟨b, rfl, w _ _ _ _ S1 (Stay.refl _ _ _) (.bl _)⟩
  | _ => trivial
def eIf (t : Bd) (f g : Ed) : Ed := fun r m => (t r m).bind fun b m1 => if b = true then f r m1 else g r m1
theorem qe_if {c a b : Expr} {ft : Bd} {f g : Ed} {pos : Pos} (hc : QT X W c ft) (h : QE X W k a f) (h' : QE X W k b g) : QE X W k (.IfExp c a b pos) (eIf ft f g) := by
  obtain ⟨tc, c1, c2⟩ := hc.ex
  obtain ⟨t, h1, h2⟩ := h.ex
  obtain ⟨u, h3, h4⟩ := h'.ex
  refine ⟨_, pe_ifExp c1 h1 h3, fun e Λ α F σ H r m S => ?_⟩
  refine At.bind (t := tc σ H) (u := fun c H1 Q => if c = true then t σ H1 Q else u σ H1 Q) (Rl := RlB) (Rl' := RlK X.K X.mg k) back_K (c2 e Λ α F σ H r m S) fun b m1 _ v α1 F1 H1 S1 s1 k1 => ?_
  subst k1
  cases v with
  | true => exact h2 e Λ α1 F1 σ H1 r m1 S1
  | false => exact h4 e Λ α1 F1 σ H1 r m1 S1

/-! ### calls of built-ins -/
theorem qe_callB {id : String} {r : List V → Hp → VK → Prop} {g : Sto → List D → Option D} {x : Str} {p pos : Pos} {e : Expr} {es : List Expr} {fa : Ad} (hc : CallR X (.builtin id) r) (hs : SndN X.K X.mg k r g) (hg : Gl X x) (hm : X.mg x = none) (hv : bootBuiltins x = some (.builtin id)) (ha : QA X W .bor (e :: es) fa)
    (hn : x ≠ "__name__" := by decide) (hdb : (x == ("__debug__" : Str)) = false := by decide) (he : starEach (e :: es) X.env = (false, eval e X.env) :: starEach es X.env := by rfl) (hpl : (backTo pos (starEach es X.env)).any (·.1) = false := by rfl) : QE X W k (.Call (.Name x p) (e :: es) [] pos) (opN g fa) := by
  obtain ⟨ta, a1, a2⟩ := ha.ex
  exact ⟨_, pe_callB hc hg hm hv a1 hn hdb he hpl, hs.snd a2⟩
theorem qe_callTy {T : String} {r : List V → Hp → VK → Prop} {g : Sto → List D → Option D} {x : Str} {p pos : Pos} {e : Expr} {es : List Expr} {fa : Ad} (hc : CallR X (.type T) r) (hs : SndN X.K X.mg k r g) (hg : Gl X x) (hm : X.mg x = none) (hv : bootBuiltins x = some (.type T)) (ha : QA X W .bor (e :: es) fa)
    (hn : x ≠ "__name__" := by decide) (hdb : (x == ("__debug__" : Str)) = false := by decide) (he : starEach (e :: es) X.env = (false, eval e X.env) :: starEach es X.env := by rfl) (hpl : (backTo pos (starEach es X.env)).any (·.1) = false := by rfl) : QE X W k (.Call (.Name x p) (e :: es) [] pos) (opN g fa) := by
  obtain ⟨ta, a1, a2⟩ := ha.ex
  exact ⟨_, pe_callTy hc hg hm hv a1 hn hdb he hpl, hs.snd a2⟩
end
end Q
end
section
set_option Elab.async false
set_option linter.all false
set_option maxRecDepth 100000
set_option maxHeartbeats 2000000
namespace Q
open PySem L2

section
variable {K : PySem.W.Frag} {mg : Str → Option Value} {α α' : List Addr} {F F' H H' H0 : Hp} {m : Sto} {v : V} {x : D} {k : Kd}
/-- a value that is no object -/
theorem rk_flat {d : D} (h : ∀ α F, Rep K mg α F v d) (hk : k ≠ .fre) : RK K mg H0 α F H v d k := by
  cases k with
  | froz => exact h _ _
  | bor => exact .inl (h _ _)
  | fre => exact absurd rfl hk

/-! ### arithmetic -/
def gI2 (C : Int → Int → Bool) (f : Int → Int → Int) : Sto → D → D → Option D := fun _ x y => match x, y with
  | .int i, .int j => if C i j = true then some (.int (f i j)) else none
  | _, _ => none
theorem snd_I2 {C : Int → Int → Prop} {c : Int → Int → Bool} {f : Int → Int → Int} (hc : ∀ i j, c i j = true → C i j) : Snd2 K mg .froz (rI C fun i j => .int (f i j)) (gI2 c f) := by
  intro α F H m v w x y d g h1 h2 e Q q
  unfold gI2 at e
  split at e
  · rename_i i j
    have e1 := rb_int h1
    have e2 := rb_int h2
    subst e1 e2
    split at e
    · rename_i z
      cases e
      exact ⟨i, j, rfl, rfl, hc i j z, q _ _ _ _ g (Stay.refl _ _ _) (.int _)⟩
    · cases e
  · cases e
def gSub : Sto → D → D → Option D := fun _ x y => match x, y with
  | .int i, .int j => some (.int (i - j))
  | _, _ => none
theorem snd_sub : Snd2 K mg .froz (rI0 fun i j => .int (i - j)) gSub := by
  intro α F H m v w x y d g h1 h2 e Q q
  unfold gSub at e
  split at e
  · have e1 := rb_int h1
    have e2 := rb_int h2
    subst e1 e2
    cases e
    exact ⟨_, _, rfl, rfl, q _ _ _ _ g (Stay.refl _ _ _) (.int _)⟩
  · cases e
def gMul : Sto → D → D → Option D := gI2 (fun i j => decide ((-(2 ^ 64) < i ∧ i < 2 ^ 64) ∨ (-(2 ^ 64) < j ∧ j < 2 ^ 64))) fun i j => i * j
theorem snd_mul : Snd2 K mg .froz (rI CMul fun i j => .int (i * j)) gMul := snd_I2 fun i j h => by unfold CMul; exact of_decide_eq_true h
def gDiv : Sto → D → D → Option D := gI2 (fun i j => decide (0 < j ∧ j < 1073741824)) fun i j => i / j
theorem snd_div : Snd2 K mg .froz (rI CDiv fun i j => .int (i / j)) gDiv := snd_I2 fun i j h => by unfold CDiv; exact of_decide_eq_true h
def gMod : Sto → D → D → Option D := gI2 (fun _ j => decide (0 < j)) fun i j => i % j
theorem snd_mod : Snd2 K mg .froz (rI (fun _ j => 0 < j) fun i j => .int (i % j)) gMod := snd_I2 fun i j h => of_decide_eq_true h
def gPow : Sto → D → D → Option D := gI2 (fun i j => decide (0 ≤ j ∧ j ≤ 1000000 ∧ i.natAbs < 2 ^ 64)) fun i j => i ^ j.toNat
theorem snd_pow : Snd2 K mg .froz (rI CPow fun i j => .int (i ^ j.toNat)) gPow := snd_I2 fun i j h => by unfold CPow; exact of_decide_eq_true h
def gNeg : Sto → D → Option D := fun _ x => match x with
  | .int i => some (.int (-i))
  | _ => none
theorem snd_neg : Snd1 K mg .froz (rU fun i => .int (-i)) gNeg := by
  intro α F H m v x d g h e Q q
  unfold gNeg at e
  split at e
  · have e1 := rb_int h
    subst e1
    cases e
    exact ⟨_, rfl, q _ _ _ _ g (Stay.refl _ _ _) (.int _)⟩
  · cases e
/-- the order of ints -/
def gO (f : Int → Int → Bool) : Sto → D → D → Option D := fun _ x y => match x, y with
  | .int i, .int j => some (.bl (f i j))
  | _, _ => none
theorem snd_O {f : Int → Int → Bool} : Snd2 K mg .froz (rI0 fun i j => .bl (f i j)) (gO f) := by
  intro α F H m v w x y d g h1 h2 e Q q
  unfold gO at e
  split at e
  · have e1 := rb_int h1
    have e2 := rb_int h2
    subst e1 e2
    cases e
    exact ⟨_, _, rfl, rfl, q _ _ _ _ g (Stay.refl _ _ _) (.bl _)⟩
  · cases e
abbrev gLtI := gO fun i j => decide (i < j)
abbrev gLeI := gO fun i j => decide (i ≤ j)
abbrev gGtI := gO fun i j => decide (j < i)
abbrev gGeI := gO fun i j => decide (j ≤ i)

/-! ### + -/
def gAdd : Sto → D → D → Option D := fun m x y => match dr m x, dr m y with
  | some (.int i), some (.int j) => some (.int (i + j))
  | some (.str a), some (.str b) => if a.length + b.length ≤ SZ then some (.str (a ++ b)) else none
  | some (.tup a), some (.tup b) => if a.length + b.length ≤ SZ then some (.tup (a ++ b)) else none
  | some (.lst a), some (.lst b) => if a.length + b.length ≤ SZ then some (.lst (a ++ b)) else none
  | _, _ => none
def rAddS : R2 := fun x y H Q => ∃ i j, x = .str i ∧ y = .str j ∧ i.length + j.length ≤ sizeLine ∧ Q (.str (i ++ j)) H
abbrev rAddL (_ : PySem.W.Frag) : R2 := rCat
def rAddA (K : PySem.W.Frag) : R2 := fun x y H Q => ((rI0 (fun i j => .int (i + j)) x y H Q ∨ rAddS x y H Q) ∨ rCatA K x y H Q) ∨ rAddL K x y H Q
theorem dr_scal {d : D} (h : RB K mg α F H v x) (g : G K mg α F H m) (e : dr m x = some d) (hs : match d with | .int _ => True | .str _ => True | .bl _ => True | .non => True | .fn _ => True | .tup _ => True | .ktup _ => True | .cell _ => True | _ => False) : x = d := by
  rcases h with h | ⟨a, ho, h1, h2, h3, h4, h5⟩
  · cases h with
    | cell ea =>
      obtain ⟨_, ho, d', q2, q3, q4⟩ := g.cell _ _ ea
      have : d' = d := Option.some.inj (q2.symm.trans e)
      subst this
      cases q4 <;> exact hs.elim
    | _ => exact Option.some.inj e
  · cases h5 <;> exact Option.some.inj e
theorem snd_add : Snd2 K mg .froz (rAddA K) gAdd := by
  intro α F H m v w x y d g h1 h2 e Q q
  unfold gAdd at e
  split at e
  · rename_i i j e1 e2
    have z1 := dr_scal h1 g e1 trivial
    have z2 := dr_scal h2 g e2 trivial
    subst z1 z2
    have z1 := rb_int h1
    have z2 := rb_int h2
    subst z1 z2
    cases e
    exact .inl (.inl (.inl ⟨_, _, rfl, rfl, q _ _ _ _ g (Stay.refl _ _ _) (.int _)⟩))
  · rename_i i j e1 e2
    have z1 := dr_scal h1 g e1 trivial
    have z2 := dr_scal h2 g e2 trivial
    subst z1 z2
    have z1 := rb_str h1
    have z2 := rb_str h2
    subst z1 z2
    split at e
    · rename_i hz
      cases e
      exact .inl (.inl (.inr ⟨_, _, rfl, rfl, sz hz, q _ _ _ _ g (Stay.refl _ _ _) (.str _)⟩))
    · cases e
  · rename_i a b e1 e2
    obtain ⟨rfl, p1, vs, rfl, s1, f1, r1⟩ := cont_tup g h1 e1
    obtain ⟨rfl, p2, ws, rfl, s2, f2, r2⟩ := cont_tup g h2 e2
    split at e
    · rename_i hz
      cases e
      have l1 := r1.length
      have l2 := r2.length
      refine .inl (.inr ⟨p1, p2, vs, ws, rfl, rfl, .inl (.inl s1), .inl (.inl s2), by rw [l1, l2]; exact sz hz, fun z => ?_, fun z z' => ?_, fun z z' p hp => ?_⟩)
      · subst z
        cases r1
        exact q _ _ _ _ g (Stay.refl _ _ _) (.tup f2 r2)
      · subst z'
        cases r2
        exact q _ _ _ _ g (Stay.refl _ _ _) (by rw [List.append_nil]; exact .tup f1 r1)
      · obtain ⟨F', g', s', rp⟩ := g.tup hp (r1.append r2)
        exact q _ _ F' _ g' s' rp
    · cases e
  · rename_i a b e1 e2
    obtain ⟨p1, vs, rfl, s1, r1⟩ := cont_lstX g h1 e1
    obtain ⟨p2, ws, rfl, s2, r2⟩ := cont_lstX g h2 e2
    split at e
    · rename_i hz
      cases e
      have l1 := r1.length
      have l2 := r2.length
      refine .inr ⟨p1, p2, vs, ws, rfl, rfl, s1, s2, by rw [l1, l2]; exact sz hz, fun p hp => ?_⟩
      obtain ⟨F', g', s', rp⟩ := g.con hp (r1.append r2)
      exact q _ _ F' _ g' s' rp
    · cases e
  · cases e
/-- lists alone, the sum new -/
def gCat : Sto → D → D → Option D := fun m x y => match dr m x, dr m y with
  | some (.lst a), some (.lst b) => if a.length + b.length ≤ SZ then some (.lst (a ++ b)) else none
  | _, _ => none
theorem snd_cat : Snd2 K mg .fre (rAddL K) gCat := by
  intro α F H m v w x y d g h1 h2 e Q q
  unfold gCat at e
  split at e
  · rename_i a b e1 e2
    obtain ⟨p1, vs, rfl, s1, r1⟩ := cont_lstX g h1 e1
    obtain ⟨p2, ws, rfl, s2, r2⟩ := cont_lstX g h2 e2
    split at e
    · rename_i hz
      cases e
      have l1 := r1.length
      have l2 := r2.length
      refine ⟨p1, p2, vs, ws, rfl, rfl, s1, s2, by rw [l1, l2]; exact sz hz, fun p hp => ?_⟩
      obtain ⟨g', s', rp⟩ := g.fre hp (.lst (r1.append r2))
      exact q _ _ _ _ g' s' rp
    · cases e
  · cases e

/-! ### places -/
theorem atI_len {A B : Type} {xs : List A} {ys : List B} {i : Int} {y : B} (hl : xs.length = ys.length) (h : atI ys i = some y) : ∃ j : Nat, ys[j]? = some y ∧ ∀ x, xs[j]? = some x → atI xs i = some x := by
  unfold atI at h
  cases e : ixN ys.length i with
  | none => rw [e] at h; cases h
  | some j =>
    rw [e] at h
    refine ⟨j, h, fun x hx => ?_⟩
    unfold atI
    rw [hl, e]
    exact hx
theorem RepL.at {vs : List V} {ds : List D} {i : Int} {d : D} (r : RepL K mg α F vs ds) (h : atI ds i = some d) : ∃ v, atI vs i = some v ∧ Rep K mg α F v d := by
  obtain ⟨j, h1, h2⟩ := atI_len r.length h
  obtain ⟨v, h3, h4⟩ := r.getD h1
  exact ⟨v, h2 v h3, h4⟩
def gIx : Sto → D → D → Option D := fun m x y => match dr m x, y with
  | some (.lst a), .int i => atI a i
  | some (.tup a), .int i => atI a i
  | some (.ktup a), .int i => atI a i
  | some (.str a), .int i => if a.length ≤ SZ then (atI a.cps.toList i).map fun c => .str ⟨#[c]⟩ else none
  | _, _ => none
theorem snd_ix : Snd2 K mg .froz (rIx K) gIx := by
  intro α F H m v w x y d g h1 h2 e Q q
  unfold gIx at e
  split at e
  · rename_i a i e1
    obtain ⟨p1, vs, rfl, s1, r1⟩ := cont_lst g h1 e1
    have z := rb_int h2
    subst z
    obtain ⟨u, q1, q2⟩ := r1.at e
    exact .inl ⟨p1, vs, i, u, rfl, rfl, s1, q1, q _ _ _ _ g (Stay.refl _ _ _) q2⟩
  · rename_i a i e1
    obtain ⟨rfl, p1, vs, rfl, s1, f1, r1⟩ := cont_tup g h1 e1
    have z := rb_int h2
    subst z
    obtain ⟨u, q1, q2⟩ := r1.at e
    exact .inr (.inl ⟨p1, vs, i, u, rfl, rfl, .inl (.inl s1), q1, q _ _ _ _ g (Stay.refl _ _ _) q2⟩)
  · rename_i a i e1
    have zz := dr_scal h1 g e1 trivial
    obtain ⟨p1, vs, rfl, s1, r1⟩ := cont_seqT g h1 (.inr zz)
    have z := rb_int h2
    subst z
    obtain ⟨u, q1, q2⟩ := r1.at e
    exact .inr (.inl ⟨p1, vs, i, u, rfl, rfl, s1, q1, q _ _ _ _ g (Stay.refl _ _ _) q2⟩)
  · rename_i a i e1
    have z1 := dr_scal h1 g e1 trivial
    subst z1
    have z1 := rb_str h1
    have z := rb_int h2
    subst z z1
    split at e
    · rename_i hz
      cases c : atI a.cps.toList i with
      | none => rw [c] at e; cases e
      | some c' =>
        rw [c] at e
        cases e
        exact .inr (.inr ⟨a, i, c', rfl, rfl, sz hz, c, q _ _ _ _ g (Stay.refl _ _ _) (.str _)⟩)
    · cases e
  · cases e

/-! ### len -/
def gLen : Sto → List D → Option D := fun m xs => match xs with
  | [x] => match dr m x with
    | some (.lst a) => some (.int a.length)
    | some (.tup a) => some (.int a.length)
    | some (.ktup a) => some (.int a.length)
    | some (.str a) => if a.length ≤ SZ then some (.int a.length) else none
    | some (.dK a) => some (.int a.length)
    | some (.dT a) => some (.int a.length)
    | _ => none
  | _ => none
end
theorem CallR.or {X : Cx} {f : Value} {r r' : List V → Hp → VK → Prop} (h : CallR X f r) (h' : CallR X f r') : CallR X f (fun xs H Q => r xs H Q ∨ r' xs H Q) := by
  intro pins s σ H xs us Q I rs q
  rcases q with q | q
  · exact h pins s σ H xs us Q I rs q
  · exact h' pins s σ H xs us Q I rs q
/-- len of a dict, locked or not -/
def rLenD : List V → Hp → VK → Prop := fun xs H Q => ∃ (a : Addr) (n : Nat), xs = [.ref a] ∧ ((∃ kvs, Rd H a (.dK kvs) ∧ n = kvs.length) ∨ ∃ kvs, Rd H a (.dT kvs) ∧ n = kvs.length) ∧ Q (.int n) H
theorem call_lenD' {X : Cx} : CallR X (.builtin "len") rLenD := by
  intro pins s σ H xs us Q I r h
  obtain ⟨a, n, rfl, e, q⟩ := h
  obtain ⟨u, rfl, rx⟩ := vals1 r
  obtain rfl : u = .ref a := rx
  rcases e with ⟨kvs, e, rfl⟩ | ⟨kvs, e, rfl⟩
  · exact d_len I e fun t s' I' => ⟨.int kvs.length, H, I', ⟨t, rfl⟩, q⟩
  · obtain ⟨z, hd, ys, rel, dd⟩ := dt_rd I.hok e
    have hl : kvs.length = ys.length := Paired.length rel
    refine call_len_dictH hd dd (by rw [← hl]; rw [sizeLine_eq] at z; omega) ?_
    rw [← hl]
    exact ⟨.int ((kvs.length : Nat) : Int), H, I.tok _, ⟨_, rfl⟩, q⟩
def rLenA (K : PySem.W.Frag) : List V → Hp → VK → Prop := fun xs H Q => (∃ x n, xs = [x] ∧ LenV K x H n ∧ Q (.int n) H) ∨ rLenD xs H Q
theorem call_lenA {X : Cx} : CallR X (.builtin "len") (rLenA X.K) := CallR.or call_len call_lenD'
section
variable {K : PySem.W.Frag} {mg : Str → Option Value} {α α' : List Addr} {F F' H H' H0 : Hp} {m : Sto} {v : V} {x : D} {k : Kd}
theorem RepK.length : ∀ {vs : List (Key × V)} {ds : List (Key × D)}, RepK K mg α F vs ds → vs.length = ds.length
  | _, _, .nil => rfl
  | _, _, .cons _ t => congrArg (· + 1) (RepK.length t)
theorem RepT.length : ∀ {vs : List (List Key × V)} {ds : List (List Key × D)}, RepT K mg α F vs ds → vs.length = ds.length
  | _, _, .nil => rfl
  | _, _, .cons _ t => congrArg (· + 1) (RepT.length t)
theorem snd_len : SndN K mg .froz (rLenA K) gLen := by
  intro α F H m vs xs d g h e Q q
  unfold gLen at e
  split at e
  · cases h with
    | cons h1 h2 =>
      cases h2
      split at e
      · rename_i a e1
        obtain ⟨p1, vs, rfl, s1, r1⟩ := cont_lst g h1 e1
        cases e
        exact .inl ⟨_, _, rfl, .inl ⟨vs, s1, r1.length.symm⟩, q _ _ _ _ g (Stay.refl _ _ _) (.int _)⟩
      · rename_i a e1
        obtain ⟨rfl, p1, vs, rfl, s1, f1, r1⟩ := cont_tup g h1 e1
        cases e
        exact .inl ⟨_, _, rfl, .inr ⟨vs, .inl (.inl s1), r1.length.symm⟩, q _ _ _ _ g (Stay.refl _ _ _) (.int _)⟩
      · rename_i a e1
        have zz := dr_scal h1 g e1 trivial
        obtain ⟨p1, vs, rfl, s1, r1⟩ := cont_seqT g h1 (.inr zz)
        cases e
        exact .inl ⟨_, _, rfl, .inr ⟨vs, s1, r1.length.symm⟩, q _ _ _ _ g (Stay.refl _ _ _) (.int _)⟩
      · rename_i a e1
        have z1 := dr_scal h1 g e1 trivial
        subst z1
        have z1 := rb_str h1
        subst z1
        split at e
        · rename_i hz
          cases e
          exact .inl ⟨_, _, rfl, ⟨sz hz, rfl⟩, q _ _ _ _ g (Stay.refl _ _ _) (.int _)⟩
        · cases e
      · rename_i a e1
        obtain ⟨p1, vs, rfl, s1, r1⟩ := cont_dK g h1 e1
        cases e
        exact .inr ⟨_, _, rfl, .inl ⟨vs, s1, r1.length.symm⟩, q _ _ _ _ g (Stay.refl _ _ _) (.int _)⟩
      · rename_i a e1
        obtain ⟨p1, vs, rfl, s1, r1⟩ := cont_dT g h1 e1
        cases e
        exact .inr ⟨_, _, rfl, .inr ⟨vs, s1, r1.length.symm⟩, q _ _ _ _ g (Stay.refl _ _ _) (.int _)⟩
      · cases e
  · cases e

/-! ### == -/
mutual
def D.py : D → Option PyData
  | .non => some .none
  | .bl b => some (.bool b)
  | .int i => some (.int i)
  | .str x => some (.str x)
  | .tup xs => (D.pys xs).map .tuple
  | .lst xs => (D.pys xs).map .list
  | _ => none
def D.pys : List D → Option (List PyData)
  | [] => some []
  | x :: xs => match D.py x, D.pys xs with
    | some a, some b => some (a :: b)
    | _, _ => none
end
mutual
theorem Rep.dp (s : Sub F H) {v : V} {d : D} {p : PyData} : Rep K mg α F v d → d.py = some p → Dp K H v p
  | .non, e => by cases e; exact .non
  | .bl b, e => by cases e; exact .bl b
  | .int i, e => by cases e; exact .int i
  | .str x, e => by cases e; exact .str x
  | .tup (ds := ds) q r, e => by
    unfold D.py at e
    cases z : D.pys ds with
    | none => rw [z] at e; cases e
    | some ps =>
      rw [z] at e
      cases e
      exact .tup (.inl (.inl (s.tup q))) (RepL.dp s r z)
  | .ktup _ _, e => by cases e
  | .lst (ds := ds) q r, e => by
    unfold D.py at e
    cases z : D.pys ds with
    | none => rw [z] at e; cases e
    | some ps =>
      rw [z] at e
      cases e
      exact .lst (.inl (.inl (s.lst q))) (RepL.dp s r z)
  | .klst _ _, e => by cases e
  | .dK _ _, e => by cases e
  | .dT _ _, e => by cases e
  | .cell _, e => by cases e
  | .fn _, e => by cases e
theorem RepL.dp (s : Sub F H) {vs : List V} {ds : List D} {ps : List PyData} : RepL K mg α F vs ds → D.pys ds = some ps → DpAll K H vs ps
  | .nil, e => by cases e; exact .nil
  | .cons (d := d) (ds := ds) r t, e => by
    unfold D.pys at e
    cases z : D.py d with
    | none => rw [z] at e; cases e
    | some a =>
      cases z' : D.pys ds with
      | none => rw [z, z'] at e; cases e
      | some b =>
        rw [z, z'] at e
        cases e
        exact .cons (Rep.dp s r z) (RepL.dp s t z')
end
theorem rb_dp {p : PyData} (g : G K mg α F H m) (h : RB K mg α F H v x) (e : (dr m x).bind D.py = some p) : Dp K H v p := by
  cases z : dr m x with
  | none => rw [z] at e; cases e
  | some d =>
    rw [z] at e
    have e : d.py = some p := e
    cases d with
    | lst ds =>
      obtain ⟨a, vs, rfl, s, r⟩ := cont_lst g h z
      unfold D.py at e
      cases z : D.pys ds with
      | none => rw [z] at e; cases e
      | some ps =>
        rw [z] at e
        cases e
        exact .lst s (RepL.dp g.sub r z)
    | tup ds =>
      obtain ⟨_, a, vs, rfl, s, _, r⟩ := cont_tup g h z
      unfold D.py at e
      cases z : D.pys ds with
      | none => rw [z] at e; cases e
      | some ps =>
        rw [z] at e
        cases e
        exact .tup (.inl (.inl s)) (RepL.dp g.sub r z)
    | non => have q := dr_scal h g z trivial; subst q; have q := rb_non h; subst q; cases e; exact .non
    | bl b => have q := dr_scal h g z trivial; subst q; have q := rb_bl h; subst q; cases e; exact .bl b
    | int b => have q := dr_scal h g z trivial; subst q; have q := rb_int h; subst q; cases e; exact .int b
    | str b => have q := dr_scal h g z trivial; subst q; have q := rb_str h; subst q; cases e; exact .str b
    | _ => cases e
/-- Python's == of data: none where it isn't data -/
def deq (x y : D) : Option Bool := match x.py, y.py with
  | some a, some b => if (SeqAt.shaped a && SeqAt.shaped b) = true then some (PyData.eqv a b) else none
  | _, _ => none
def gEq : Sto → D → D → Option D := fun m x y => match dr m x, dr m y with
  | some a, some b => (deq a b).map .bl
  | _, _ => none
def gNe : Sto → D → D → Option D := fun m x y => match dr m x, dr m y with
  | some a, some b => (deq a b).map fun c => .bl (!c)
  | _, _ => none
theorem deq_some {a b : D} {c : Bool} (h : deq a b = some c) : ∃ p q, a.py = some p ∧ b.py = some q ∧ SeqAt.shaped p = true ∧ SeqAt.shaped q = true ∧ c = PyData.eqv p q := by
  unfold deq at h
  split at h
  · rename_i p q e1 e2
    split at h
    · rename_i z
      rw [Bool.and_eq_true] at z
      exact ⟨p, q, e1, e2, z.1, z.2, (Option.some.inj h).symm⟩
    · cases h
  · cases h
theorem snd_eq : Snd2 K mg .froz (rEqD K) gEq := by
  intro α F H m v w x y d g h1 h2 e Q q
  unfold gEq at e
  split at e
  · rename_i a b e1 e2
    cases z : deq a b with
    | none => rw [z] at e; cases e
    | some c =>
      rw [z] at e
      cases e
      obtain ⟨p, p', z1, z2, z3, z4, rfl⟩ := deq_some z
      exact ⟨p, p', rb_dp g h1 (by rw [e1]; exact z1), rb_dp g h2 (by rw [e2]; exact z2), z3, z4, q _ _ _ _ g (Stay.refl _ _ _) (.bl _)⟩
  · cases e
theorem snd_ne : Snd2 K mg .froz (rNeD K) gNe := by
  intro α F H m v w x y d g h1 h2 e Q q
  unfold gNe at e
  split at e
  · rename_i a b e1 e2
    cases z : deq a b with
    | none => rw [z] at e; cases e
    | some c =>
      rw [z] at e
      cases e
      obtain ⟨p, p', z1, z2, z3, z4, rfl⟩ := deq_some z
      exact ⟨p, p', rb_dp g h1 (by rw [e1]; exact z1), rb_dp g h2 (by rw [e2]; exact z2), z3, z4, q _ _ _ _ g (Stay.refl _ _ _) (.bl _)⟩
  · cases e
end
end Q
end
section
set_option Elab.async false
set_option linter.all false
set_option maxRecDepth 100000
set_option maxHeartbeats 2000000
namespace Q
open PySem L2

section
variable {K : PySem.W.Frag} {mg : Str → Option Value} {W : WX} {e : En} {Λ : Nat → Option (V × D)} {α : List Addr} {F : Hp} {σ : L2.St} {H : Hp} {r : Env} {m : Sto}
/-- a name is stored: frozen data -/
theorem Sig.set (S : Sig K mg e Λ α F σ H r m) {i : Nat} {v : V} {d : D} (h : Rep K mg α F v d) : Sig K mg e Λ α F (σ.set i (some v)) H (r.set i (.dat d)) m := by
  have ne : ∀ {j : Nat} {z : Sl}, (r.set i (.dat d))[j]? = some z → (∀ q, z ≠ .dat q) → j ≠ i ∧ r[j]? = some z := fun {j z} hz hq => by
    by_cases ji : i = j
    · subst ji
      by_cases hl : i < r.length
      · rw [List.getElem?_set_self hl] at hz; exact absurd (Option.some.inj hz).symm (hq d)
      · rw [List.getElem?_eq_none (by simpa using hl)] at hz; cases hz
    · rw [List.getElem?_set_ne ji] at hz; exact ⟨Ne.symm ji, hz⟩
  have at' : ∀ {j : Nat}, j ≠ i → (σ.set i (some v))[j]? = σ[j]? := fun {j} hj => List.getElem?_set_ne (Ne.symm hj)
  refine ⟨S.g, S.st, by simpa using S.len, fun j z hz => ?_, fun j j' d1 d2 a h1 h2 q1 q2 => ?_, fun j d' hd => ?_⟩
  · by_cases ji : i = j
    · subst ji
      by_cases hl : i < r.length
      · rw [List.getElem?_set_self hl] at hz
        cases hz
        exact ⟨v, List.getElem?_set_self (by rw [S.len]; exact hl), h⟩
      · rw [List.getElem?_eq_none (by simpa using hl)] at hz; cases hz
    · rw [List.getElem?_set_ne ji] at hz
      rw [List.getElem?_set_ne ji]
      exact S.sl j z hz
  · have n1 : j ≠ i ∧ (r[j]? = some (.own d1) ∨ r[j]? = some (.lok d1)) := by
      rcases h1 with h1 | h1
      · obtain ⟨a1, a2⟩ := ne h1 (by intro q z; cases z); exact ⟨a1, .inl a2⟩
      · obtain ⟨a1, a2⟩ := ne h1 (by intro q z; cases z); exact ⟨a1, .inr a2⟩
    have n2 : j' ≠ i ∧ (r[j']? = some (.own d2) ∨ r[j']? = some (.lok d2)) := by
      rcases h2 with h2 | h2
      · obtain ⟨a1, a2⟩ := ne h2 (by intro q z; cases z); exact ⟨a1, .inl a2⟩
      · obtain ⟨a1, a2⟩ := ne h2 (by intro q z; cases z); exact ⟨a1, .inr a2⟩
    rw [at' n1.1] at q1
    rw [at' n2.1] at q2
    exact S.dis j j' d1 d2 a n1.2 n2.2 q1 q2
  · obtain ⟨a1, a2⟩ := ne hd (by intro q z; cases z)
    rw [at' a1]
    exact S.lk j d' a2
/-- a slot that holds a container: a new one, or another content of its own -/
theorem Sig.setOwn (S : Sig K mg e Λ α F σ H r m) {i : Nat} {a : Addr} {ho : HO} {d : D} (ha : H a = some ho) (o : Own K mg e α F H a ho d)
    (hn : ∀ (j : Nat) (d' : D), j ≠ i → (r[j]? = some (.own d') ∨ r[j]? = some (.lok d')) → σ[j]? ≠ some (some (.ref a))) : Sig K mg e Λ α F (σ.set i (some (.ref a))) H (r.set i (.own d)) m := by
  have at' : ∀ {j : Nat}, j ≠ i → (σ.set i (some (V.ref a)))[j]? = σ[j]? := fun {j} hj => List.getElem?_set_ne (Ne.symm hj)
  have rt' : ∀ {j : Nat}, j ≠ i → (r.set i (Sl.own d))[j]? = r[j]? := fun {j} hj => List.getElem?_set_ne (Ne.symm hj)
  have self : ∀ {z : Sl}, (r.set i (.own d))[i]? = some z → i < r.length ∧ z = .own d := fun {z} hz => by
    by_cases hl : i < r.length
    · rw [List.getElem?_set_self hl] at hz; exact ⟨hl, (Option.some.inj hz).symm⟩
    · rw [List.getElem?_eq_none (by simpa using hl)] at hz; cases hz
  refine ⟨S.g, S.st, by simpa using S.len, fun j z hz => ?_, fun j j' d1 d2 b h1 h2 q1 q2 => ?_, fun j d' hd => ?_⟩
  · by_cases ji : j = i
    · subst ji
      obtain ⟨hl, rfl⟩ := self hz
      exact ⟨a, ho, List.getElem?_set_self (by rw [S.len]; exact hl), ha, o⟩
    · rw [rt' ji] at hz
      rw [at' ji]
      exact S.sl j z hz
  · by_cases ji : j = i
    · by_cases ji' : j' = i
      · rw [ji, ji']
      · subst ji
        have hl : j < r.length := by
          rcases h1 with h1 | h1 <;> exact (self h1).1
        rw [List.getElem?_set_self (by rw [S.len]; exact hl)] at q1
        cases q1
        rw [at' ji'] at q2
        rw [rt' ji'] at h2
        exact absurd q2 (hn j' d2 ji' h2)
    · by_cases ji' : j' = i
      · subst ji'
        have hl : j' < r.length := by
          rcases h2 with h2 | h2 <;> exact (self h2).1
        rw [List.getElem?_set_self (by rw [S.len]; exact hl)] at q2
        cases q2
        rw [at' ji] at q1
        rw [rt' ji] at h1
        exact absurd q1 (hn j d1 ji h1)
      · rw [at' ji] at q1
        rw [at' ji'] at q2
        rw [rt' ji] at h1
        rw [rt' ji'] at h2
        exact S.dis j j' d1 d2 b h1 h2 q1 q2
  · by_cases ji : j = i
    · subst ji
      obtain ⟨hl, z⟩ := self hd
      cases z
    · rw [rt' ji] at hd
      rw [at' ji]
      exact S.lk j d' hd
variable {γ δ : Type} {Rl : Hp → List Addr → Hp → Hp → γ → δ → Prop}
theorem At.go {t : (γ → Hp → Prop) → Prop} {x : Res δ} {Q : γ → Hp → Prop} (h : At K mg W Rl e Λ α F σ H r t x) (hs : x ≠ .stuck)
    (hok : ∀ d m', x = .ok d m' → ∀ v α' F' H', Sig K mg e Λ α' F' σ H' r m' → Stay α F H α' F' H' → Rl H α' F' H' v d → Q v H')
    (hex : ∀ n m', x = .exc n m' → ∀ a α' F' H', mg n = some (.ref a) → Sig K mg e Λ α' F' σ H' r m' → W (.ref a) none σ H') : t Q := by
  cases x with
  | stuck => exact absurd rfl hs
  | ok d m' => exact h Q (hok d m' rfl)
  | exc n m' => exact h (hex n m' rfl) Q
end
/-- from an expression on -/
def Res.out {δ : Type} (x : Res δ) (f : δ → Sto → Out) : Out := match x with
  | .stuck => .stuck
  | .ok d m => f d m
  | .exc n m => .exc n m
section
variable {K : PySem.W.Frag} {mg : Str → Option Value} {W : WX} {e : En} {Λ : Nat → Option (V × D)} {α : List Addr} {F : Hp} {σ : L2.St} {H : Hp} {r : Env} {m : Sto}
variable {γ δ : Type} {Rl : Hp → List Addr → Hp → Hp → γ → δ → Prop}
theorem At.out {t : (γ → Hp → Prop) → Prop} {x : Res δ} {f : δ → Sto → Out} {Q : γ → Hp → Prop} {D : Ends} (h : At K mg W Rl e Λ α F σ H r t x) (hp : Post K mg W e Λ D (x.out f))
    (hok : ∀ d m', x = .ok d m' → Post K mg W e Λ D (f d m') → ∀ v α' F' H', Sig K mg e Λ α' F' σ H' r m' → Stay α F H α' F' H' → Rl H α' F' H' v d → Q v H') : t Q := by
  cases x with
  | stuck => exact hp.elim
  | ok d m' => exact h Q (hok d m' rfl hp)
  | exc n m' => exact h (fun a α' F' H' ha S' => hp a α' F' σ H' ha S'.g S'.st) Q
end
def sSet (i : Nat) (f : Ed) : Sd := fun r m => (f r m).out fun d m' => .nx (r.set i (.dat d)) m'
def sOwn (i : Nat) (f : Ed) : Sd := fun r m => (f r m).out fun d m' => .nx (r.set i (.own d)) m'
def sCell (i : Nat) (f : Ed) : Sd := fun r m => (f r m).out fun d m' => .nx (r.set i (.dat (.cell m'.length))) (m' ++ [d])
def sRet (f : Ed) : Sd := fun r m => (f r m).out fun d m' => .rt false d m'
def sRetF (f : Ed) : Sd := fun r m => (f r m).out fun d m' => .rt true d m'
def sExpr (f : Ed) : Sd := fun r m => (f r m).out fun _ m' => .nx r m'
def sIf (t : Bd) (f g : Sd) : Sd := fun r m => (t r m).out fun b m' => if b = true then f r m' else g r m'
def Out.seq (o : Out) (g : Sd) : Out := match o with
  | .nx r m => g r m
  | o => o
def sSeq (f g : Sd) : Sd := fun r m => (f r m).seq g
def sNext : Sd := fun r m => .nx r m
def sBreak : Sd := fun r m => .bk r m
def sCont : Sd := fun r m => .ct r m
section
variable {X : Cx} {W : WX}
theorem qs_set {i : Nat} {x : Str} {a : Expr} {f : Ed} {pos pos' : Pos} (hN : X.N.Nodup) (hi : X.N[i]? = some x) (hx : Loc X.env.scope x) (he : QE X W .froz a f) (hs : swapsWith a (some (.Name x pos')) pos.line X.env = pure false := by rfl) (hf : X.fn x = true ∨ X.env.scope.names.lookup x = some .local := by first | exact .inl rfl | exact .inr rfl | assumption) :
    QS X W (.Assign [.Name x pos'] a pos) (sSet i f) := by
  obtain ⟨t, h1, h2⟩ := he.ex
  refine ⟨_, ps_set hN hi hx h1 hs hf, fun e Λ α F σ H r m D S hp => ?_⟩
  exact At.out (h2 e Λ α F σ H r m S) hp fun d m' _ hp v α' F' H' S' s' k' => hp _ _ _ _ (S'.set k')
theorem qs_own {i : Nat} {x : Str} {a : Expr} {f : Ed} {pos pos' : Pos} (hN : X.N.Nodup) (hi : X.N[i]? = some x) (hx : Loc X.env.scope x) (he : QE X W .fre a f) (hs : swapsWith a (some (.Name x pos')) pos.line X.env = pure false := by rfl) (hf : X.fn x = true ∨ X.env.scope.names.lookup x = some .local := by first | exact .inl rfl | exact .inr rfl | assumption) :
    QS X W (.Assign [.Name x pos'] a pos) (sOwn i f) := by
  obtain ⟨t, h1, h2⟩ := he.ex
  refine ⟨_, ps_set hN hi hx h1 hs hf, fun e Λ α F σ H r m D S hp => ?_⟩
  refine At.out (h2 e Λ α F σ H r m S) hp fun d m' _ hp v α' F' H' S' s' ⟨a, ho, e1, e2, e3, e4, e5, e6⟩ => ?_
  subst e1
  refine hp _ _ _ _ (S'.setOwn e2 ⟨e3, e4, S.e0 e5, e6⟩ fun j d' _ hj hz => ?_)
  obtain ⟨o, z⟩ := S.there hj hz
  rw [e5] at z; cases z
theorem qs_ret {a : Expr} {f : Ed} {pos : Pos} (he : QE X W .froz a f) : QS X W (.Return (some a) pos) (sRet f) := by
  obtain ⟨t, h1, h2⟩ := he.ex
  refine ⟨_, ps_ret h1, fun e Λ α F σ H r m D S hp => ?_⟩
  exact At.out (h2 e Λ α F σ H r m S) hp fun d m' _ hp v α' F' H' S' s' k' => hp _ _ _ _ S'.g S'.st k'
theorem qs_retF {a : Expr} {f : Ed} {pos : Pos} (he : QE X W .fre a f) : QS X W (.Return (some a) pos) (sRetF f) := by
  obtain ⟨t, h1, h2⟩ := he.ex
  refine ⟨_, ps_ret h1, fun e Λ α F σ H r m D S hp => ?_⟩
  refine At.out (h2 e Λ α F σ H r m S) hp fun d m' _ hp v α' F' H' S' s' ⟨a, ho, e1, e2, e3, e4, e5, e6⟩ => ?_
  exact hp _ _ _ _ S'.g S'.st ⟨a, ho, e1, e2, e3, e4, S.e0 e5, e6⟩
theorem qs_retN {pos : Pos} : QS X W (.Return none pos) (sRet (eC .non)) :=
  ⟨_, ps_retN, fun e Λ α F σ H r m D S hp => hp _ _ _ _ S.g S.st .non⟩
/-- return of a container of our own: it goes out new -/
def eOwn (i : Nat) : Ed := fun r m => match r[i]? with
  | some (.own d) => .ok d m
  | _ => .stuck
theorem qs_retOwn (i : Nat) {x : Str} {pos pos' : Pos} (hN : X.N[i]? = some x := by rfl) (hv : Vis X.env.scope x := by first | exact Or.inl rfl | exact Or.inr (Or.inl rfl) | exact Or.inr (Or.inr rfl)) (hd : (x == ("__debug__" : Str)) = false := by decide)
    (hcd : (x == ("__classdict__" : Str)) = false := by decide) : QS X W (.Return (some (.Name x pos')) pos) (sRetF (eOwn i)) := by
  refine ⟨_, ps_ret (pe_var hN hv hd hcd), fun e Λ α F σ H r m D S hp => ?_⟩
  unfold sRetF eOwn at hp
  split at hp
  · rename_i d hr
    obtain ⟨a, ho, h1, h2, h3⟩ := S.sl i _ hr
    exact ⟨_, h1, hp _ _ _ _ S.g S.st ⟨a, ho, rfl, h2, h3.nf, h3.na, h3.ne, h3.c⟩⟩
  · exact hp.elim
theorem qs_expr {a : Expr} {f : Ed} {pos : Pos} {k : Kd} (he : QE X W k a f) (hs : swapsWith a none pos.line X.env = pure false := by rfl) : QS X W (.Expr a pos) (sExpr f) := by
  obtain ⟨t, h1, h2⟩ := he.ex
  refine ⟨_, ps_expr h1 hs, fun e Λ α F σ H r m D S hp => ?_⟩
  exact At.out (h2 e Λ α F σ H r m S) hp fun d m' _ hp v α' F' H' S' s' k' => hp _ _ _ _ S'
theorem qs_pass {pos : Pos} : QS X W (.Pass pos) sNext := ⟨_, ps_pass, fun e Λ α F σ H r m D S hp => hp _ _ _ _ S⟩
theorem qs_break {pos : Pos} : QS X W (.Break pos) sBreak := ⟨_, ps_break, fun e Λ α F σ H r m D S hp => hp _ _ _ _ S⟩
theorem qs_continue {pos : Pos} : QS X W (.Continue pos) sCont := ⟨_, ps_continue, fun e Λ α F σ H r m D S hp => hp _ _ _ _ S⟩
theorem qss_nil : QSs X W [] sNext := ⟨_, pss_nil, fun e Λ α F σ H r m D S hp => hp _ _ _ _ S⟩
theorem qss_one {s : Stmt} {f : Sd} (h : QS X W s f) : QSs X W [s] f := by
  obtain ⟨t, h1, h2⟩ := h.ex
  exact ⟨t, pss_one h1, h2⟩
theorem qss_cons {s : Stmt} {rest : List Stmt} {f g : Sd} (h : QS X W s f) (h' : QSs X W rest g) : QSs X W (s :: rest) (sSeq f g) := by
  obtain ⟨t, h1, h2⟩ := h.ex
  obtain ⟨u, h3, h4⟩ := h'.ex
  refine ⟨_, pss_cons h1 h3, fun e Λ α F σ H r m D S hp => ?_⟩
  refine h2 e Λ α F σ H r m { D with nx := u D } S ?_
  unfold sSeq Out.seq at hp
  cases hf : f r m with
  | nx r' m' => rw [hf] at hp; exact fun α' F' σ' H' S' => h4 e Λ α' F' σ' H' r' m' D S' hp
  | stuck => rw [hf] at hp; exact hp
  | rt b d m' => rw [hf] at hp; exact hp
  | bk r' m' => rw [hf] at hp; exact hp
  | ct r' m' => rw [hf] at hp; exact hp
  | exc n m' => rw [hf] at hp; exact hp
theorem qs_if {c : Expr} {a b : List Stmt} {t : Bd} {f g : Sd} {pos : Pos} (hc : QT X W c t) (ha : QSs X W a f) (hb : QSs X W b g) : QS X W (.If c a b pos) (sIf t f g) := by
  obtain ⟨tc, c1, c2⟩ := hc.ex
  obtain ⟨ta, a1, a2⟩ := ha.ex
  obtain ⟨tb, b1, b2⟩ := hb.ex
  refine ⟨_, ps_if c1 a1 b1, fun e Λ α F σ H r m D S hp => ?_⟩
  refine At.out (c2 e Λ α F σ H r m S) hp fun d m' _ hp v α' F' H' S' s' k' => ?_
  subst k'
  cases v with
  | true => exact a2 e Λ α' F' σ H' r m' D S' hp
  | false => exact b2 e Λ α' F' σ H' r m' D S' hp
/-! ### while -/
def whileD (t : Bd) (b : Sd) : Nat → Sd
  | 0 => fun _ _ => .stuck
  | n + 1 => fun r m => (t r m).out fun c m1 => if c = true then (match b r m1 with
    | .nx r' m' => whileD t b n r' m'
    | .ct r' m' => whileD t b n r' m'
    | .bk r' m' => .nx r' m'
    | o => o) else .nx r m1
theorem qs_while (n : Nat) {c : Expr} {body : List Stmt} {t : Bd} {b : Sd} {pos : Pos} (hp : PassesOwn (model X.prog X.w) X.A X.env X.xe) (hc : QT X W c t) (hb : QSs X W body b) : QS X W (.While c body [] pos) (whileD t b n) := by
  obtain ⟨tc, c1, c2⟩ := hc.ex
  obtain ⟨tb, b1, b2⟩ := hb.ex
  refine ⟨_, ps_while hp c1 b1, fun e Λ α F σ H r m D S hq => ?_⟩
  refine ⟨fun k σ H => ∃ α F r m, Sig X.K X.mg e Λ α F σ H r m ∧ Post X.K X.mg W e Λ D (whileD t b k r m), ⟨n, α, F, r, m, S, hq⟩, ?_⟩
  rintro k σ1 H1 ⟨α1, F1, r1, m1, S1, q1⟩
  cases k with
  | zero => exact q1.elim
  | succ k =>
    refine At.out (c2 e Λ α1 F1 σ1 H1 r1 m1 S1) q1 fun d m' _ hp v α' F' H' S' s' k' => ?_
    subst k'
    cases v with
    | false => exact hp _ _ _ _ S'
    | true =>
      refine ⟨fun σ H => ∃ α F r m, Sig X.K X.mg e Λ α F σ H r m ∧ Post X.K X.mg W e Λ D (whileD t b k r m), fun σ' H' w => ⟨k, Nat.lt_succ_self k, w⟩, ?_⟩
      refine b2 e Λ α' F' σ1 H' r1 m' _ S' ?_
      rw [if_pos rfl] at hp
      cases hf : b r1 m' with
      | nx r' m2 => rw [hf] at hp; exact fun α2 F2 σ2 H2 S2 => ⟨α2, F2, r', m2, S2, hp⟩
      | ct r' m2 => rw [hf] at hp; exact fun α2 F2 σ2 H2 S2 => ⟨α2, F2, r', m2, S2, hp⟩
      | bk r' m2 => rw [hf] at hp; exact hp
      | stuck => rw [hf] at hp; exact hp
      | rt b d m2 => rw [hf] at hp; exact hp
      | exc n m2 => rw [hf] at hp; exact hp
end
end Q
end
section
set_option Elab.async false
set_option linter.all false
set_option maxRecDepth 100000
set_option maxHeartbeats 2000000
namespace Q
open PySem L2

/-! ### targets -/
abbrev Pat := D → Env → Option Env
def pN (i : Nat) : Pat := fun d r => some (r.set i (.dat d))
abbrev Pats := List D → Env → Option Env
def pNil : Pats := fun ds r => match ds with
  | [] => some r
  | _ => none
def pCons (p : Pat) (q : Pats) : Pats := fun ds r => match ds with
  | d :: ds => (p d r).bind fun r' => q ds r'
  | _ => none
def pT (q : Pats) : Pat := fun d r => match d with
  | .tup ds => q ds r
  | _ => none
theorem wipe_get (σ : L2.St) (j : Nat) : ∀ vs : List Nat, (wipe σ vs)[j]? = if j ∈ vs ∧ j < σ.length then some none else σ[j]?
  | [] => by simp [wipe]
  | v :: vs => by
    have ih := wipe_get σ j vs
    unfold wipe
    by_cases hv : v = j
    · subst hv
      by_cases hl : v < σ.length
      · rw [List.getElem?_set_self (by rw [wipe_length]; exact hl), if_pos ⟨by simp, hl⟩]
      · rw [List.getElem?_eq_none (by rw [List.length_set, wipe_length]; omega), if_neg (fun z => hl z.2), List.getElem?_eq_none (by omega)]
    · rw [List.getElem?_set_ne hv, ih]
      have e : (j ∈ v :: vs) ↔ j ∈ vs := by simp [Ne.symm hv]
      simp only [e]
theorem wipe_set {σ : L2.St} {i : Nat} {v : Option V} {vs : List Nat} (h : i ∈ vs) : wipe (σ.set i v) vs = wipe σ vs := by
  apply List.ext_getElem?
  intro j
  rw [wipe_get, wipe_get, List.length_set]
  by_cases hj : j ∈ vs ∧ j < σ.length
  · rw [if_pos hj, if_pos hj]
  · rw [if_neg hj, if_neg hj]
    by_cases e : i = j
    · subst e
      have hl : σ.length ≤ i := Nat.le_of_not_lt fun z => hj ⟨h, z⟩
      rw [List.getElem?_eq_none (by rw [List.length_set]; exact hl), List.getElem?_eq_none hl]
    · rw [List.getElem?_set_ne e]
def wipeR (r : Env) : List Nat → Env
  | [] => r
  | v :: vs => (wipeR r vs).set v .un
theorem wipeR_length (r : Env) : ∀ vs : List Nat, (wipeR r vs).length = r.length
  | [] => rfl
  | v :: vs => by unfold wipeR; rw [List.length_set, wipeR_length r vs]
theorem wipeR_get (r : Env) (j : Nat) : ∀ vs : List Nat, (wipeR r vs)[j]? = if j ∈ vs ∧ j < r.length then some .un else r[j]?
  | [] => by simp [wipeR]
  | v :: vs => by
    have ih := wipeR_get r j vs
    unfold wipeR
    by_cases hv : v = j
    · subst hv
      by_cases hl : v < r.length
      · rw [List.getElem?_set_self (by rw [wipeR_length]; exact hl), if_pos ⟨by simp, hl⟩]
      · rw [List.getElem?_eq_none (by rw [List.length_set, wipeR_length]; omega), if_neg (fun z => hl z.2), List.getElem?_eq_none (by omega)]
    · rw [List.getElem?_set_ne hv, ih]
      have e : (j ∈ v :: vs) ↔ j ∈ vs := by simp [Ne.symm hv]
      simp only [e]
section
variable {K : PySem.W.Frag} {mg : Str → Option Value} {W : WX} {e : En} {Λ : Nat → Option (V × D)} {α : List Addr} {F : Hp} {σ : L2.St} {H : Hp} {r : Env} {m : Sto}
theorem Sig.wipe (S : Sig K mg e Λ α F σ H r m) (vs : List Nat) : Sig K mg e Λ α F (wipe σ vs) H (wipeR r vs) m := by
  have un : ∀ {j : Nat} {z : Sl}, (wipeR r vs)[j]? = some z → z ≠ .un → r[j]? = some z ∧ (L2.wipe σ vs)[j]? = σ[j]? := fun {j z} h hz => by
    rw [wipeR_get] at h
    by_cases q : j ∈ vs ∧ j < r.length
    · rw [if_pos q] at h; exact absurd (Option.some.inj h).symm hz
    · rw [if_neg q] at h
      refine ⟨h, ?_⟩
      rw [wipe_get, S.len, if_neg q]
  refine ⟨S.g, S.st, by rw [wipe_length, wipeR_length]; exact S.len, fun j z hz => ?_, fun i j d d' a h1 h2 q1 q2 => ?_, fun i d h => ?_⟩
  · cases z with
    | un => trivial
    | dat d => obtain ⟨a, b⟩ := un hz (by intro z; cases z); rw [b]; exact S.sl j _ a
    | own d => obtain ⟨a, b⟩ := un hz (by intro z; cases z); rw [b]; exact S.sl j _ a
    | lok d => obtain ⟨a, b⟩ := un hz (by intro z; cases z); rw [b]; exact S.sl j _ a
  · have k1 : (r[i]? = some (.own d) ∨ r[i]? = some (.lok d)) ∧ (L2.wipe σ vs)[i]? = σ[i]? := by
      rcases h1 with h1 | h1
      · obtain ⟨a, b⟩ := un h1 (by intro z; cases z); exact ⟨.inl a, b⟩
      · obtain ⟨a, b⟩ := un h1 (by intro z; cases z); exact ⟨.inr a, b⟩
    have k2 : (r[j]? = some (.own d') ∨ r[j]? = some (.lok d')) ∧ (L2.wipe σ vs)[j]? = σ[j]? := by
      rcases h2 with h2 | h2
      · obtain ⟨a, b⟩ := un h2 (by intro z; cases z); exact ⟨.inl a, b⟩
      · obtain ⟨a, b⟩ := un h2 (by intro z; cases z); exact ⟨.inr a, b⟩
    rw [k1.2] at q1
    rw [k2.2] at q2
    exact S.dis i j d d' a k1.1 k2.1 q1 q2
  · obtain ⟨a, b⟩ := un h (by intro z; cases z)
    rw [b]
    exact S.lk i d a
end
def SndG (K : PySem.W.Frag) (mg : Str → Option Value) (is : List Nat) (t : TG) (p : Pat) : Prop :=
  ∀ e Λ α F σ H r m v d r', Sig K mg e Λ α F σ H r m → Rep K mg α F v d → p d r = some r' → ∀ Q : L2.St → Hp → Prop, (∀ σ', Sig K mg e Λ α F σ' H r' m → (∀ vs : List Nat, (∀ i ∈ is, i ∈ vs) → wipe σ' vs = wipe σ vs) → Q σ' H) → t v σ H Q
def SndGs (K : PySem.W.Frag) (mg : Str → Option Value) (is : List Nat) (t : TGs) (p : Pats) : Prop :=
  ∀ e Λ α F σ H r m vs ds r', Sig K mg e Λ α F σ H r m → RepL K mg α F vs ds → p ds r = some r' → ∀ Q : L2.St → Hp → Prop, (∀ σ', Sig K mg e Λ α F σ' H r' m → (∀ vs : List Nat, (∀ i ∈ is, i ∈ vs) → wipe σ' vs = wipe σ vs) → Q σ' H) → t vs σ H Q
structure QG (X : Cx) (tg : Expr) (is : List Nat) (p : Pat) : Prop where
  ex : ∃ t, PG X tg t ∧ SndG X.K X.mg is t p
structure QGs (X : Cx) (tgs : List Expr) (is : List Nat) (p : Pats) : Prop where
  ex : ∃ t, PGs X tgs t ∧ SndGs X.K X.mg is t p
section
variable {X : Cx}
theorem qg_n (i : Nat) {x : Str} {pos : Pos} (hN : X.N.Nodup) (hi : X.N[i]? = some x) (hx : Loc X.env.scope x) (hf : X.fn x = true ∨ X.env.scope.names.lookup x = some .local := by first | exact .inl rfl | exact .inr rfl | assumption) : QG X (.Name x pos) [i] (pN i) := by
  refine ⟨_, pg_name hN hi hx hf, fun e Λ α F σ H r m v d r' S k q Q w => ?_⟩
  cases q
  exact w _ (S.set k) fun vs hv => wipe_set (hv i (by simp))
theorem qgs_nil : QGs X [] [] pNil := by
  refine ⟨_, pgs_nil, fun e Λ α F σ H r m vs ds r' S k q Q w => ?_⟩
  unfold pNil at q
  split at q
  · cases q
    cases k
    exact ⟨rfl, w _ S fun _ _ => rfl⟩
  · cases q
theorem qgs_cons {t : Expr} {ts : List Expr} {is js : List Nat} {p : Pat} {q : Pats} (h : QG X t is p) (h' : QGs X ts js q) (hs : (assignEach (t :: ts) X.env).map (·.2) = assign t X.env :: (assignEach ts X.env).map (·.2) := by rfl) : QGs X (t :: ts) (is ++ js) (pCons p q) := by
  obtain ⟨t1, h1, h2⟩ := h.ex
  obtain ⟨t2, h3, h4⟩ := h'.ex
  refine ⟨_, pgs_cons h1 h3 hs, fun e Λ α F σ H r m vs ds r' S k z Q w => ?_⟩
  unfold pCons at z
  cases ds with
  | nil => cases z
  | cons d ds =>
    cases k with
    | cons k ks =>
      cases z1 : p d r with
      | none => simp only [z1] at z; cases z
      | some r1 =>
        simp only [z1] at z
        refine ⟨_, _, rfl, h2 e Λ α F σ H r m _ d r1 S k z1 _ fun σ1 S1 w1 => ?_⟩
        exact h4 e Λ α F σ1 H r1 m _ ds r' S1 ks z Q fun σ2 S2 w2 => w σ2 S2 fun vs hv => (w2 vs fun i hi => hv i (by simp [hi])).trans (w1 vs fun i hi => hv i (by simp [hi]))
theorem pats_len : ∀ {ts : List Expr} {is : List Nat} {q : Pats}, True := trivial
theorem qg_t {ts : List Expr} {k : Nat} {pos : Pos} {is : List Nat} {q : Pats} {n : Nat} (hc : X.calm = true) (h : QGs X ts is q) (hl : ∀ ds r r', q ds r = some r' → ds.length = n)
    (hn : (assignEach ts X.env).length = n := by rfl) (hst : (assignEach ts X.env).findIdx? (·.1) = none := by rfl) : QG X (.Tuple ts k pos) is (pT q) := by
  obtain ⟨t1, h1, h2⟩ := h.ex
  refine ⟨_, pg_tup hc h1 hn hst, fun e Λ α F σ H r m v d r' S k z Q w => ?_⟩
  unfold pT at z
  cases d with
  | tup ds =>
    cases k with
    | tup s rl => exact ⟨_, _, rfl, .inl (.inl (S.g.sub.tup s)), by rw [rl.length]; exact hl _ _ _ z, h2 e Λ α F σ H r m _ ds r' S rl z Q w⟩
  | _ => cases z
theorem pl_nil : ∀ (ds : List D) (r r' : Env), pNil ds r = some r' → ds.length = 0 := by
  intro ds r r' h
  cases ds with
  | nil => rfl
  | cons d ds => cases h
theorem pl_cons {p : Pat} {q : Pats} {n : Nat} (h : ∀ (ds : List D) (r r' : Env), q ds r = some r' → ds.length = n) : ∀ (ds : List D) (r r' : Env), pCons p q ds r = some r' → ds.length = n + 1 := by
  intro ds r r' z
  cases ds with
  | nil => cases z
  | cons d ds =>
    unfold pCons at z
    cases z1 : p d r with
    | none => simp only [z1] at z; cases z
    | some r1 => simp only [z1] at z; exact congrArg (· + 1) (h ds r1 r' z)
end

/-! ### what is walked -/
structure ItOk (K : PySem.W.Frag) (mg : Str → Option Value) (P : List Addr → Hp → Hp → Prop) (J : It) (items : List D) : Prop where
  st : ∀ α F H α' F' H', Stay α F H α' F' H' → P α F H → P α' F' H'
  go : ∀ α F H m i, G K mg α F H m → P α F H → i < items.length → J.go i H
  stop : ∀ α F H m, G K mg α F H m → P α F H → J.stop items.length H
  yld : ∀ α F H m i x H', G K mg α F H m → P α F H → i < items.length → J.yld i H x H' → ∃ F' d, G K mg α F' H' m ∧ Stay α F H α F' H' ∧ items[i]? = some d ∧ Rep K mg α F' x d
/-- it stands while the frozen part grows -/
def Stb (P : List Addr → Hp → Hp → Prop) : Prop := ∀ α F H Hb α' F' H', (∀ a o, F a = some o → Hb a = H a) → Stay α F Hb α' F' H' → P α F H → P α' F' H'
abbrev RlI (K : PySem.W.Frag) (mg : Str → Option Value) (z : Bool) : Hp → List Addr → Hp → Hp → It → List D → Prop := fun _ α F H J items => ∃ P, ItOk K mg P J items ∧ P α F H ∧ (z = true → Stb P)
theorem back_I {K : PySem.W.Frag} {mg : Str → Option Value} {z : Bool} : BackR (RlI K mg z) := fun _ _ _ _ _ _ _ _ _ _ _ _ h => h
abbrev Id' := Env → Sto → Res (List D)
structure QI (X : Cx) (W : WX) (z : Bool) (tg iter : Expr) (f : Id') : Prop where
  ex : ∃ t, PI X tg iter t ∧ Snd X.K X.mg W (RlI X.K X.mg z) t f
theorem QI.any {X : Cx} {W : WX} {tg iter : Expr} {f : Id'} (h : QI X W true tg iter f) : QI X W false tg iter f := by
  obtain ⟨t, h1, h2⟩ := h.ex
  refine ⟨t, h1, fun e Λ α F σ H r m S => ?_⟩
  have q := h2 e Λ α F σ H r m S
  cases hf : f r m with
  | stuck => trivial
  | exc n m' => rw [hf] at q; exact q
  | ok d m' => rw [hf] at q; exact fun Q w => q Q fun v α' F' H' S' s' ⟨P, a, b, c⟩ => w v α' F' H' S' s' ⟨P, a, b, fun z => Bool.noConfusion z⟩
section
variable {K : PySem.W.Frag} {mg : Str → Option Value}
theorem it_list {a : Addr} {ds : List D} : ItOk K mg (fun α F H => ∃ vs, SqL K F a vs ∧ RepL K mg α F vs ds) (Itl K a) ds where
  st := fun α F H α' F' H' s ⟨vs, h1, h2⟩ => ⟨vs, sqL_mono s.fz h1, h2.mono s.pre s.fz⟩
  go := fun α F H m i g ⟨vs, h1, h2⟩ hi => by
    have hl := h2.length
    exact ⟨vs, vs[i]'(by omega), g.sub.seqL h1, by simp⟩
  stop := fun α F H m g ⟨vs, h1, h2⟩ => ⟨vs, g.sub.seqL h1, by rw [h2.length]; exact Nat.le_refl _⟩
  yld := fun α F H m i x H' g ⟨vs, h1, h2⟩ hi ⟨e, q⟩ => by
    subst e
    obtain ⟨d, q1, q2⟩ := h2.get (q vs (g.sub.seqL h1))
    exact ⟨F, d, g, Stay.refl _ _ _, q1, q2⟩
theorem stb_list {a : Addr} {ds : List D} : Stb (fun α F H => ∃ vs, SqL K F a vs ∧ RepL K mg α F vs ds) := fun α F H Hb α' F' H' _ s ⟨vs, h1, h2⟩ => ⟨vs, sqL_mono s.fz h1, h2.mono s.pre s.fz⟩
theorem it_tup {a : Addr} {ds : List D} : ItOk K mg (fun α F H => ∃ vs, SqT K F a vs ∧ RepL K mg α F vs ds) (Itt K a) ds where
  st := fun α F H α' F' H' s ⟨vs, h1, h2⟩ => ⟨vs, sqT_mono s.fz h1, h2.mono s.pre s.fz⟩
  go := fun α F H m i g ⟨vs, h1, h2⟩ hi => by
    have hl := h2.length
    exact ⟨vs, vs[i]'(by omega), g.sub.seqT h1, by simp⟩
  stop := fun α F H m g ⟨vs, h1, h2⟩ => ⟨vs, g.sub.seqT h1, by rw [h2.length]; exact Nat.le_refl _⟩
  yld := fun α F H m i x H' g ⟨vs, h1, h2⟩ hi ⟨e, q⟩ => by
    subst e
    obtain ⟨d, q1, q2⟩ := h2.get (q vs (g.sub.seqT h1))
    exact ⟨F, d, g, Stay.refl _ _ _, q1, q2⟩
theorem stb_tup {a : Addr} {ds : List D} : Stb (fun α F H => ∃ vs, SqT K F a vs ∧ RepL K mg α F vs ds) := fun α F H Hb α' F' H' _ s ⟨vs, h1, h2⟩ => ⟨vs, sqT_mono s.fz h1, h2.mono s.pre s.fz⟩
/-- a list of our own, for an expression's time -/
theorem it_ownl {a : Addr} {ds : List D} : ItOk K mg (fun α F H => F a = none ∧ a ∉ α ∧ ∃ vs, Rd H a (.lst vs) ∧ RepL K mg α F vs ds) (Itl K a) ds where
  st := fun α F H α' F' H' s ⟨h1, h2, vs, h3, h4⟩ => by
    obtain ⟨u, hu, nt⟩ := (RepC.lst h4).rd h3
    exact ⟨s.out a u h1 hu nt, s.na h2 hu, vs, s.rd h2 h3, h4.mono s.pre s.fz⟩
  go := fun α F H m i g ⟨_, _, vs, h1, h2⟩ hi => by
    have hl := h2.length
    exact ⟨vs, vs[i]'(by omega), .inl h1, by simp⟩
  stop := fun α F H m g ⟨_, _, vs, h1, h2⟩ => ⟨vs, .inl h1, by rw [h2.length]; exact Nat.le_refl _⟩
  yld := fun α F H m i x H' g ⟨_, _, vs, h1, h2⟩ hi ⟨e, q⟩ => by
    subst e
    obtain ⟨d, q1, q2⟩ := h2.get (q vs (.inl h1))
    exact ⟨F, d, g, Stay.refl _ _ _, q1, q2⟩
/-- ints lo, lo + 1, .. -/
def rangeD (lo : Int) (n : Nat) : List D := (List.range n).map fun (i : Nat) => .int (lo + (i : Int))
theorem it_range {lo : Int} {n : Nat} : ItOk K mg (fun _ _ _ => True) (Itr lo n) (rangeD lo n) where
  st := fun _ _ _ _ _ _ _ _ => trivial
  go := fun α F H m i g _ hi => by unfold rangeD at hi; rw [List.length_map, List.length_range] at hi; exact hi
  stop := fun α F H m g _ => by unfold rangeD; rw [List.length_map, List.length_range]; exact Nat.le_refl _
  yld := fun α F H m i x H' g _ hi ⟨e, q⟩ => by
    subst e q
    unfold rangeD at hi ⊢
    rw [List.length_map, List.length_range] at hi
    exact ⟨F, _, g, Stay.refl _ _ _, by rw [List.getElem?_map, List.getElem?_range hi]; rfl, .int _⟩
end
/-- a list or a tuple, walked -/
def iSeq (K : PySem.W.Frag) (tl : TE) : TI := fun σ H R => tl σ H fun x H1 => ∃ a, x = .ref a ∧ (((∃ xs, SqL K H1 a xs) ∧ R (Itl K a) H1) ∨ ((∃ xs, SqT K H1 a xs) ∧ R (Itt K a) H1))
theorem pi_seq {X : Cx} {tg l : Expr} {tl : TE} (hl : PE X l tl) : PI X tg l (iSeq X.K tl) := by
  refine ⟨fun pins s σ H R I h => ?_⟩
  refine thn (hl.run pins s σ H _ I h) fun v s1 ⟨x, H1, I1, r1, q1⟩ => ?_
  obtain ⟨a, e, ⟨⟨xs, hq⟩, q⟩ | ⟨⟨xs, hq⟩, q⟩⟩ := q1
  · subst e
    cases r1
    obtain ⟨its, rv, p, hz⟩ := I1.list hq
    refine wpAny_pyIter_list p.isList ?_
    refine ⟨s1.heap.objs.size, [s1.heap.objs.size], _, _, H1, rfl, I1.kept (t' := s1.toks) fun b o e => Heap.get?_push_of_some _ e, turn_list a _, ⟨_, Heap.get?_push_size _ rfl, rfl, rfl⟩, fun b hb => ?_, q⟩
    have e : b = s1.heap.objs.size := by simpa using hb
    subst e
    exact I1.fpOk (Nat.le_refl _) (I1.hok.fresh (Nat.le_refl _))
  · subst e
    cases r1
    obtain ⟨its, rv, p, hz⟩ := I1.tuple hq
    refine wpAny_pyIter_tuple (show s1.heap.IsTuple a its.toArray from p) ?_
    refine ⟨s1.heap.objs.size, [s1.heap.objs.size], _, _, H1, rfl, I1.kept (t' := s1.toks) fun b o e => Heap.get?_push_of_some _ e, turn_tuple a _, ⟨_, Heap.get?_push_size _ rfl, rfl, rfl⟩, fun b hb => ?_, q⟩
    have e : b = s1.heap.objs.size := by simpa using hb
    subst e
    exact I1.fpOk (Nat.le_refl _) (I1.hok.fresh (Nat.le_refl _))
def iSq (f : Ed) : Id' := fun r m => (f r m).bind fun x m1 => match x with
  | .lst ds => .ok ds m1
  | .tup ds => .ok ds m1
  | .ktup ds => .ok ds m1
  | _ => .stuck
def iRg1 (f : Ed) : Id' := fun r m => (f r m).bind fun x m1 => match x with
  | .int j => if -(2 ^ 62) ≤ j ∧ j < 2 ^ 62 then .ok (rangeD 0 j.toNat) m1 else .stuck
  | _ => .stuck
def iRg2 (f g : Ed) : Id' := fun r m => (f r m).bind fun x m1 => (g r m1).bind fun y m2 => match x, y with
  | .int i, .int j => if -(2 ^ 62) ≤ i ∧ i < 2 ^ 62 ∧ -(2 ^ 62) ≤ j ∧ j < 2 ^ 62 then .ok (rangeD i (j - i).toNat) m2 else .stuck
  | _, _ => .stuck
section
variable {X : Cx} {W : WX} {tg : Expr}
theorem qi_seq {l : Expr} {f : Ed} (h : QE X W .froz l f) : QI X W true tg l (iSq f) := by
  obtain ⟨t, h1, h2⟩ := h.ex
  refine ⟨_, pi_seq h1, fun e Λ α F σ H r m S => ?_⟩
  refine At.bind (t := t σ H) (u := fun x H1 R => ∃ a, x = .ref a ∧ (((∃ xs, SqL X.K H1 a xs) ∧ R (Itl X.K a) H1) ∨ ((∃ xs, SqT X.K H1 a xs) ∧ R (Itt X.K a) H1))) (Rl' := RlI X.K X.mg true) back_I (h2 e Λ α F σ H r m S) fun x m1 _ v α1 F1 H1 S1 s1 k1 => ?_
  cases x with
  | lst ds =>
    cases k1 with
    | lst s rl => exact fun Q w => ⟨_, rfl, .inl ⟨⟨_, S1.g.sub.seqL (.inl (.inl s))⟩, w _ _ _ _ S1 (Stay.refl _ _ _) ⟨_, it_list (ds := ds), ⟨_, .inl (.inl s), rl⟩, fun _ => stb_list⟩⟩⟩
  | tup ds =>
    cases k1 with
    | tup s rl => exact fun Q w => ⟨_, rfl, .inr ⟨⟨_, .inl (.inl (S1.g.sub.tup s))⟩, w _ _ _ _ S1 (Stay.refl _ _ _) ⟨_, it_tup (ds := ds), ⟨_, .inl (.inl s), rl⟩, fun _ => stb_tup⟩⟩⟩
  | ktup ds =>
    cases k1 with
    | ktup s rl => exact fun Q w => ⟨_, rfl, .inr ⟨⟨_, sqT_k s⟩, w _ _ _ _ S1 (Stay.refl _ _ _) ⟨_, it_tup (ds := ds), ⟨_, sqT_k s, rl⟩, fun _ => stb_tup⟩⟩⟩
  | _ => trivial
theorem qi_seqB {l : Expr} {f : Ed} (h : QE X W .bor l f) : QI X W false tg l (iSq f) := by
  obtain ⟨t, h1, h2⟩ := h.ex
  refine ⟨_, pi_seq h1, fun e Λ α F σ H r m S => ?_⟩
  refine At.bind (t := t σ H) (u := fun x H1 R => ∃ a, x = .ref a ∧ (((∃ xs, SqL X.K H1 a xs) ∧ R (Itl X.K a) H1) ∨ ((∃ xs, SqT X.K H1 a xs) ∧ R (Itt X.K a) H1))) (Rl' := RlI X.K X.mg false) back_I (h2 e Λ α F σ H r m S) fun x m1 _ v α1 F1 H1 S1 s1 k1 => ?_
  cases x with
  | lst ds =>
    rcases k1 with k1 | ⟨a, ho, e1, e2, e3, e4, e5⟩
    · cases k1 with
      | lst s rl => exact fun Q w => ⟨_, rfl, .inl ⟨⟨_, S1.g.sub.seqL (.inl (.inl s))⟩, w _ _ _ _ S1 (Stay.refl _ _ _) ⟨_, it_list (ds := ds), ⟨_, .inl (.inl s), rl⟩, fun z => Bool.noConfusion z⟩⟩⟩
    · cases e5 with
      | lst rl => exact fun Q w => ⟨a, e1, .inl ⟨⟨_, .inl (.inl e2)⟩, w _ _ _ _ S1 (Stay.refl _ _ _) ⟨_, it_ownl (ds := ds), ⟨e3, e4, _, .inl e2, rl⟩, fun z => Bool.noConfusion z⟩⟩⟩
  | tup ds =>
    rcases k1 with k1 | ⟨a, ho, e1, e2, e3, e4, e5⟩
    · cases k1 with
      | tup s rl => exact fun Q w => ⟨_, rfl, .inr ⟨⟨_, .inl (.inl (S1.g.sub.tup s))⟩, w _ _ _ _ S1 (Stay.refl _ _ _) ⟨_, it_tup (ds := ds), ⟨_, .inl (.inl s), rl⟩, fun z => Bool.noConfusion z⟩⟩⟩
    · cases e5
  | ktup ds =>
    rcases k1 with k1 | ⟨a, ho, e1, e2, e3, e4, e5⟩
    · cases k1 with
      | ktup s rl => exact fun Q w => ⟨_, rfl, .inr ⟨⟨_, sqT_k s⟩, w _ _ _ _ S1 (Stay.refl _ _ _) ⟨_, it_tup (ds := ds), ⟨_, sqT_k s, rl⟩, fun z => Bool.noConfusion z⟩⟩⟩
    · cases e5
  | _ => trivial
theorem qi_range1 {a : Expr} {fa : Ed} {p pos : Pos} (hg : Gl X "range") (hm : X.mg "range" = none) (h : QE X W .froz a fa) (hs : starEach [a] X.env = [(false, eval a X.env)] := by rfl) : QI X W true tg (.Call (.Name "range" p) [a] [] pos) (iRg1 fa) := by
  obtain ⟨t, h1, h2⟩ := h.ex
  refine ⟨_, pi_range1 hg hm (pa_cons h1 pa_nil hs) hs, fun e Λ α F σ H r m S => ?_⟩
  refine At.bind (t := t σ H) (u := fun v H1 R => ∃ j : Int, [v] = [V.int j] ∧ -(2 ^ 62) ≤ j ∧ j < 2 ^ 62 ∧ R (Itr 0 j.toNat) H1) (Rl' := RlI X.K X.mg true) back_I (h2 e Λ α F σ H r m S) fun x m1 _ v α1 F1 H1 S1 s1 k1 => ?_
  cases x with
  | int j =>
    have z := k1.int_inv
    subst z
    show At _ _ _ _ _ _ _ _ _ _ _ _ (if _ then _ else _)
    split
    · rename_i z
      exact fun Q w => ⟨_, rfl, z.1, z.2, w _ _ _ _ S1 (Stay.refl _ _ _) ⟨_, it_range, trivial, fun _ _ _ _ _ _ _ _ _ _ _ => trivial⟩⟩
    · trivial
  | _ => trivial
theorem qi_range2 {a b : Expr} {fa fb : Ed} {p pos : Pos} (hg : Gl X "range") (hm : X.mg "range" = none) (h : QE X W .froz a fa) (h' : QE X W .froz b fb) (hs : starEach [a, b] X.env = [(false, eval a X.env), (false, eval b X.env)] := by rfl) (hs2 : starEach [b] X.env = [(false, eval b X.env)] := by rfl) :
    QI X W true tg (.Call (.Name "range" p) [a, b] [] pos) (iRg2 fa fb) := by
  obtain ⟨t, h1, h2⟩ := h.ex
  obtain ⟨u, h3, h4⟩ := h'.ex
  refine ⟨_, pi_range2 hg hm (pa_cons h1 (pa_cons h3 pa_nil hs2) (by rw [hs2]; exact hs)) hs hs2, fun e Λ α F σ H r m S => ?_⟩
  refine At.bind (t := t σ H) (u := fun v H1 R => u σ H1 fun w H2 => ∃ i j : Int, [v, w] = [V.int i, V.int j] ∧ (-(2 ^ 62) ≤ i ∧ i < 2 ^ 62 ∧ -(2 ^ 62) ≤ j ∧ j < 2 ^ 62) ∧ R (Itr i (j - i).toNat) H2) (Rl' := RlI X.K X.mg true) back_I (h2 e Λ α F σ H r m S) fun x m1 _ v α1 F1 H1 S1 s1 k1 => ?_
  refine At.bind (t := u σ H1) (u := fun w H2 R => ∃ i j : Int, [v, w] = [V.int i, V.int j] ∧ (-(2 ^ 62) ≤ i ∧ i < 2 ^ 62 ∧ -(2 ^ 62) ≤ j ∧ j < 2 ^ 62) ∧ R (Itr i (j - i).toNat) H2) (Rl' := RlI X.K X.mg true) back_I (h4 e Λ α1 F1 σ H1 r m1 S1) fun y m2 _ w α2 F2 H2 S2 s2 k2 => ?_
  split
  · split
    · rename_i z
      have z1 := k1.int_inv
      have z2 := k2.int_inv
      subst z1 z2
      exact fun Q w => ⟨_, _, rfl, z, w _ _ _ _ S2 (Stay.refl _ _ _) ⟨_, it_range, trivial, fun _ _ _ _ _ _ _ _ _ _ _ => trivial⟩⟩
    · trivial
  · trivial
end

/-! ### for -/
def forD (p : Pat) (b : Sd) : List D → Sd
  | [] => fun r m => .nx r m
  | d :: ds => fun r m => match p d r with
    | none => .stuck
    | some r' => match b r' m with
      | .nx r2 m2 => forD p b ds r2 m2
      | .ct r2 m2 => forD p b ds r2 m2
      | .bk r2 m2 => .nx r2 m2
      | o => o
def sFor (f : Id') (p : Pat) (b : Sd) : Sd := fun r m => (f r m).out fun ds m1 => forD p b ds r m1
/-- the heap without what the slots own -/
def base (H : Hp) (own : Addr → Prop) [DecidablePred own] : Hp := fun a => if own a then none else H a
section
variable {K : PySem.W.Frag} {mg : Str → Option Value} {W : WX} {e : En} {Λ : Nat → Option (V × D)} {α : List Addr} {F : Hp} {σ : L2.St} {H : Hp} {r : Env} {m : Sto}
theorem RK.h0 {H0 H1 : Hp} {v : V} {d : D} (h : ∀ a, H0 a = none → H1 a = none) : ∀ {k : Kd}, RK K mg H0 α F H v d k → RK K mg H1 α F H v d k
  | .froz, q => q
  | .bor, q => q
  | .fre, ⟨a, ho, h1, h2, h3, h4, h5, h6⟩ => ⟨a, ho, h1, h2, h3, h4, h a h5, h6⟩
/-- a later entry: all that the slots own is left out -/
theorem Sig.rebase (S : Sig K mg e Λ α F σ H r m) : ∃ e' : En, e'.α = α ∧ e'.F = F ∧ Sig K mg e' Λ α F σ H r m ∧ (∀ {α' F' σ' H' r' m'}, Sig K mg e' Λ α' F' σ' H' r' m' → Sig K mg e Λ α' F' σ' H' r' m') ∧
    (∀ {α' F' H'}, Stay e'.α e'.F e'.H α' F' H' → Stay e.α e.F e.H α' F' H') ∧ (∀ a, e'.H a = none → e.H a = none) ∧ ∀ a o, F a = some o → e'.H a = H a := by
  classical
  let own : Addr → Prop := fun a => ∃ (i : Nat) (d : D), (r[i]? = some (.own d) ∨ r[i]? = some (.lok d)) ∧ σ[i]? = some (some (.ref a))
  have own0 : ∀ a, own a → e.H a = none := fun a ⟨i, d, h, ha⟩ => by
    rcases h with h | h
    · obtain ⟨b, ho, q1, q2, q3⟩ := S.sl i _ h
      rw [ha] at q1; cases q1; exact q3.ne
    · obtain ⟨b, ho, q1, q2, q3⟩ := S.sl i _ h
      rw [ha] at q1; cases q1; exact q3.ne
  let Hb : Hp := fun a => if own a then none else H a
  have hb : ∀ a o, Hb a = some o → H a = some o ∧ ¬ own a := fun a o h => by
    by_cases q : own a
    · have h : (if own a then none else H a) = some o := h
      rw [if_pos q] at h; cases h
    · have h : (if own a then none else H a) = some o := h
      rw [if_neg q] at h; exact ⟨h, q⟩
  have hb' : ∀ a, ¬ own a → Hb a = H a := fun a q => if_neg q
  have hb0 : ∀ a, own a → Hb a = none := fun a q => if_pos q
  have s0 : Stay α F Hb α F H := ⟨⟨[], by simp⟩, fun _ _ h => h, fun a o _ h => (hb a o h).1, fun _ h => .inl h, fun _ _ h _ _ => h, fun a o h => ⟨o, (hb a o h).1, fun z => z⟩⟩
  have s1 : Stay e.α e.F e.H α F Hb := ⟨S.st.pre, S.st.fz, fun a o h1 h2 => by
      rw [hb' a (fun z => by rw [own0 a z] at h2; cases h2)]; exact S.st.keep a o h1 h2, S.st.new, S.st.out, fun a o h => by
      rw [hb' a (fun z => by rw [own0 a z] at h; cases h)]; exact S.st.there a o h⟩
  have e0 : ∀ a, Hb a = none → e.H a = none := fun a h => by
    by_cases q : own a
    · exact own0 a q
    · rw [hb' a q] at h; exact S.e0 h
  refine ⟨⟨α, F, Hb⟩, rfl, rfl, ⟨S.g, s0, S.len, fun i s h => ?_, S.dis, S.lk⟩, fun {α' F' σ' H' r' m'} S' => ⟨S'.g, s1.trans S'.st, S'.len, fun i s h => ?_, S'.dis, S'.lk⟩, fun {α' F' H'} sx => s1.trans sx, e0, fun a o ha => hb' a fun ⟨i, d, h, hz⟩ => ?_⟩
  · have q := S.sl i s h
    cases s with
    | un => trivial
    | dat d => exact q
    | own d => obtain ⟨a, ho, q1, q2, q3⟩ := q; exact ⟨a, ho, q1, q2, ⟨q3.nf, q3.na, hb0 a ⟨i, d, .inl h, q1⟩, q3.c⟩⟩
    | lok d => obtain ⟨a, ho, q1, q2, q3⟩ := q; exact ⟨a, ho, q1, q2, ⟨q3.nf, q3.na, hb0 a ⟨i, d, .inr h, q1⟩, q3.c⟩⟩
  · have q := S'.sl i s h
    cases s with
    | un => trivial
    | dat d => exact q
    | own d => obtain ⟨a, ho, q1, q2, q3⟩ := q; exact ⟨a, ho, q1, q2, ⟨q3.nf, q3.na, e0 a q3.ne, q3.c⟩⟩
    | lok d => obtain ⟨a, ho, q1, q2, q3⟩ := q; exact ⟨a, ho, q1, q2, ⟨q3.nf, q3.na, e0 a q3.ne, q3.c⟩⟩
  · rcases h with h | h
    · obtain ⟨b, ho, q1, q2, q3⟩ := S.sl i _ h
      rw [hz] at q1; cases q1; rw [q3.nf] at ha; cases ha
    · obtain ⟨b, ho, q1, q2, q3⟩ := S.sl i _ h
      rw [hz] at q1; cases q1; rw [q3.nf] at ha; cases ha
end
section
variable {X : Cx} {W : WX}
theorem qs_for {tg iter : Expr} {body : List Stmt} {f : Id'} {is : List Nat} {p : Pat} {b : Sd} {pos : Pos} (hp : PassesOwn (model X.prog X.w) X.A X.env X.xe) (hc : X.calm = true) (hi : QI X W true tg iter f) (hg : QG X tg is p) (hb : QSs X W body b)
    (hs : ∀ x, foldedSetIterable iter X.env x = pure x := by intro _; rfl) : QS X W (.For tg iter body [] pos) (sFor f p b) := by
  obtain ⟨wi, i1, i2⟩ := hi.ex
  obtain ⟨tg', g1, g2⟩ := hg.ex
  obtain ⟨tb, b1, b2⟩ := hb.ex
  refine ⟨_, ps_for hp hc i1 g1 b1 hs, fun e Λ α F σ H r m D S hq => ?_⟩
  refine At.out (t := wi σ H) (i2 e Λ α F σ H r m S) hq fun ds m1 _ hq J α1 F1 H1 S1 s1 ⟨P, ok, hP, st⟩ => ?_
  have st := st rfl
  refine ⟨fun i k σ H => k = ds.length - i ∧ i ≤ ds.length ∧ ∃ α F r m, Sig X.K X.mg e Λ α F σ H r m ∧ P α F H ∧ Post X.K X.mg W e Λ D (forD p b (ds.drop i) r m), ⟨_, rfl, Nat.zero_le _, α1, F1, r, m1, S1, hP, hq⟩, ?_⟩
  rintro i k σ2 H2 ⟨rfl, hi, α2, F2, r2, m2, S2, P2, q2⟩
  by_cases hlt : i < ds.length
  · rw [List.drop_eq_getElem_cons hlt] at q2
    refine .inr ⟨ok.go _ _ _ _ _ S2.g P2 hlt, fun σ H => i + 1 ≤ ds.length ∧ ∃ α F r m, Sig X.K X.mg e Λ α F σ H r m ∧ P α F H ∧ Post X.K X.mg W e Λ D (forD p b (ds.drop (i + 1)) r m), fun σ' H' w => ⟨ds.length - (i + 1), by omega, rfl, w.1, w.2⟩, fun x H3 hy => ?_⟩
    obtain ⟨F3, d, g3, s3, e3, rp⟩ := ok.yld _ _ _ _ _ _ _ S2.g P2 hlt hy
    have ed : ds[i] = d := by rw [List.getElem?_eq_getElem hlt] at e3; exact Option.some.inj e3
    rw [ed] at q2
    have S3 := S2.stay s3 g3
    obtain ⟨e', ea, ef, S3', back, stE, e0, eH⟩ := S3.rebase
    unfold forD at q2
    cases hpd : p d r2 with
    | none => rw [hpd] at q2; exact q2.elim
    | some r3 =>
      rw [hpd] at q2
      refine g2 e' Λ α2 F3 σ2 H3 r2 m2 x d r3 S3' rp hpd _ fun σ4 S4 _ => ?_
      refine b2 e' Λ α2 F3 σ4 H3 r3 m2 _ S4 ?_
      have P3 : ∀ {α' F' H'}, Stay e'.α e'.F e'.H α' F' H' → P α' F' H' := fun {α' F' H'} sx => by
        have P3 := ok.st _ _ _ _ _ _ s3 P2
        refine st _ _ H3 e'.H _ _ _ eH ?_ P3
        rw [← ea, ← ef]; exact sx
      dsimp only at q2
      cases hbo : b r3 m2 with
      | nx r5 m5 => rw [hbo] at q2; exact fun α5 F5 σ5 H5 S5 => ⟨hlt, α5, F5, r5, m5, back S5, P3 S5.st, q2⟩
      | ct r5 m5 => rw [hbo] at q2; exact fun α5 F5 σ5 H5 S5 => ⟨hlt, α5, F5, r5, m5, back S5, P3 S5.st, q2⟩
      | bk r5 m5 => rw [hbo] at q2; exact fun α5 F5 σ5 H5 S5 => q2 _ _ _ _ (back S5)
      | stuck => rw [hbo] at q2; exact q2
      | rt fb d5 m5 => rw [hbo] at q2; exact fun α5 F5 H5 v5 g5 st5 k5 => q2 _ _ _ _ g5 (stE st5) (k5.h0 e0)
      | exc n5 m5 => rw [hbo] at q2; exact fun a α5 F5 σ5 H5 ha g5 st5 => q2 _ _ _ _ _ ha g5 (stE st5)
  · have ei : i = ds.length := by omega
    subst ei
    rw [List.drop_length] at q2
    exact .inl ⟨ok.stop _ _ _ _ S2.g P2, q2 _ _ _ _ S2⟩
end
end Q
end
section
set_option Elab.async false
set_option linter.all false
set_option maxRecDepth 100000
set_option maxHeartbeats 2000000
namespace Q
open PySem L2
/-- in a block no error goes out -/
def Res.bindS {α β : Type} (x : Res α) (f : α → Sto → Res β) : Res β := match x with
  | .ok a m => f a m
  | _ => .stuck
def lcD (p : Pat) (t : Bd) (f : Ed) (r : Env) : List D → Sto → Res (List D)
  | [], m => .ok [] m
  | d :: ds, m => match p d r with
    | none => .stuck
    | some r' => (t r' m).bindS fun c m1 => if c = true then (f r' m1).bindS fun y m2 => (lcD p t f r ds m2).bindS fun ys m3 => .ok (y :: ys) m3 else lcD p t f r ds m1
def eLc (fi : Id') (p : Pat) (t : Bd) (f : Ed) (vs : List Nat) : Ed := fun r m => (fi r m).bind fun ds m1 => if ds.length ≤ SZ then (lcD p t f (wipeR r vs) ds m1).bindS fun ys m2 => .ok (.lst ys) m2 else .stuck
abbrev W0 : WX := fun _ _ _ _ => False
structure QTs (X : Cx) (W : WX) (es : List Expr) (f : Bd) : Prop where
  ex : ∃ t, PTs X es t ∧ SndT X.K X.mg W t f
def bYes : Bd := fun _ m => .ok true m
section
variable {X : Cx} {W : WX}
theorem qts_nil : QTs X W [] bYes := ⟨tYes, pts_nil, fun e Λ α F σ H r m S => At.ret (Rl := RlB) S rfl⟩
theorem qts_one {c : Expr} {f : Bd} (h : QT X W c f) : QTs X W [c] f := by
  obtain ⟨t, h1, h2⟩ := h.ex
  exact ⟨t, pts_one h1, h2⟩
/-- lc_list's bookkeeping over any iterator -/
theorem lc_any {J : It} {n : Nat} {g : TG} {tt : TT} {te : TE} {vs : List Nat} {σ : L2.St} {H1 : Hp} {D : Addr} {Qd : Hp → Prop} (Pv : Nat → Hp → Prop) (h0 : Pv 0 (upd H1 D (.lst []))) (hgo : ∀ i H, i < n → Pv i H → J.go i H) (hst : ∀ H, Pv n H → J.stop n H)
    (hs : ∀ i x H H', i < n → Pv i H → J.yld i H x H' → g x (wipe σ vs) H' fun σ2 H2 => wipe σ2 vs = wipe σ vs ∧ tt σ2 H2 fun b H3 =>
      if b = true then te σ2 H3 fun y H4 => ∃ acc, H4 D = some (.lst acc) ∧ acc.length < sizeLine ∧ Pv (i + 1) (upd H4 D (.lst (acc ++ [y]))) else Pv (i + 1) H3) (hd : ∀ H, Pv n H → Qd H) :
    ∃ W : Nat → Nat → Hp → Prop, (∃ m, W 0 m (upd H1 D (.lst []))) ∧ ∀ i m H, W i m H →
      (J.stop i H ∧ Qd H) ∨ (J.go i H ∧ ∃ Nx : Hp → Prop, (∀ H', Nx H' → ∃ m', m' < m ∧ W (i + 1) m' H') ∧ ∀ x H', J.yld i H x H' → g x (wipe σ vs) H' fun σ2 H2 => wipe σ2 vs = wipe σ vs ∧ tt σ2 H2 fun b H3 =>
        if b = true then te σ2 H3 fun y H4 => ∃ acc, H4 D = some (.lst acc) ∧ acc.length < sizeLine ∧ Nx (upd H4 D (.lst (acc ++ [y]))) else Nx H3) := by
  refine ⟨fun i m H => m = n - i ∧ i ≤ n ∧ Pv i H, ⟨n, by simp, Nat.zero_le _, h0⟩, ?_⟩
  rintro i m H ⟨rfl, hi, p⟩
  by_cases hlt : i < n
  · exact .inr ⟨hgo i H hlt p, Pv (i + 1), fun H' p' => ⟨n - (i + 1), by omega, rfl, hlt, p'⟩, fun x H' y => hs i x H H' hlt p y⟩
  · have e : i = n := by omega
    subst e
    exact .inl ⟨hst H p, hd H p⟩
/-- the list that a comprehension fills -/
structure Fill (K : PySem.W.Frag) (mg : Str → Option Value) (α0 : List Addr) (F0 H0 : Hp) (α : List Addr) (F H : Hp) (L : Addr) (acc : List D) : Prop where
  st : Stay α0 F0 H0 α F H
  nf : F L = none
  na : L ∉ α
  n0 : H0 L = none
  at' : ∃ vs, H L = some (.lst vs) ∧ RepL K mg α F vs acc
theorem Fill.stay {K : PySem.W.Frag} {mg : Str → Option Value} {α0 : List Addr} {F0 H0 : Hp} {α : List Addr} {F H : Hp} {L : Addr} {acc : List D} {α' : List Addr} {F' H' : Hp} (f : Fill K mg α0 F0 H0 α F H L acc) (s : Stay α F H α' F' H') : Fill K mg α0 F0 H0 α' F' H' L acc := by
  obtain ⟨vs, h1, h2⟩ := f.at'
  exact ⟨f.st.trans s, s.out L _ f.nf h1 (by intro xs z; cases z), s.na f.na h1, f.n0, vs, s.keep L _ f.na h1, h2.mono s.pre s.fz⟩
theorem Own.heap {K : PySem.W.Frag} {mg : Str → Option Value} {e : En} {α : List Addr} {F H H' : Hp} {a : Addr} {ho : HO} {d : D} (o : Own K mg e α F H a ho d) : Own K mg e α F H' a ho d := ⟨o.nf, o.na, o.ne, o.c⟩
/-- one more item -/
theorem Fill.add {K : PySem.W.Frag} {mg : Str → Option Value} {e : En} {Λ : Nat → Option (V × D)} {σ : L2.St} {r : Env} {m : Sto} {α0 : List Addr} {F0 H0 : Hp} {α : List Addr} {F H : Hp} {L : Addr} {acc : List D} {vs : List V} {y : V} {d : D} (f : Fill K mg α0 F0 H0 α F H L acc) (S : Sig K mg e Λ α F σ H r m)
    (hv : H L = some (.lst vs)) (rv : RepL K mg α F vs acc) (ry : Rep K mg α F y d) (hn : ∀ (j : Nat) (d' : D), (r[j]? = some (.own d') ∨ r[j]? = some (.lok d')) → σ[j]? ≠ some (some (.ref L))) (he : e.H L = none) :
    Sig K mg e Λ α F σ (upd H L (.lst (vs ++ [y]))) r m ∧ Fill K mg α0 F0 H0 α F (upd H L (.lst (vs ++ [y]))) L (acc ++ [d]) := by
  have kp : ∀ b o, b ≠ L → H b = some o → upd H L (.lst (vs ++ [y])) b = some o := fun b o hb q => by rw [upd_ne hb]; exact q
  have g : G K mg α F (upd H L (.lst (vs ++ [y]))) m := by
    refine ⟨fun b o q => ?_, S.g.len, S.g.nd, fun n b q => ?_⟩
    · have hb : b ≠ L := fun z => by
        have := f.nf
        rw [← z, q] at this; cases this
      rcases S.g.sub b o q with ⟨z, nd⟩ | ⟨z1, ob, z⟩
      · exact .inl ⟨kp _ _ hb z, nd⟩
      · exact .inr ⟨z1, ob, kp _ _ hb z⟩
    · obtain ⟨q1, ho, d', q2, q3, q4⟩ := S.g.cell n b q
      exact ⟨q1, ho, d', q2, kp _ _ (fun z => f.na (z ▸ List.mem_of_getElem? q)) q3, q4⟩
  have st : ∀ {α1 F1 H1}, H1 L = none → Stay α1 F1 H1 α F H → Stay α1 F1 H1 α F (upd H L (.lst (vs ++ [y]))) := fun {α1 F1 H1} h1 s =>
    ⟨s.pre, s.fz, fun a o q1 q2 => kp _ _ (fun z => by rw [z, h1] at q2; cases q2) (s.keep a o q1 q2), s.new, s.out, fun a o q => by
      obtain ⟨o', q1, q2⟩ := s.there a o q
      exact ⟨o', kp _ _ (fun z => by rw [z, h1] at q; cases q) q1, q2⟩⟩
  refine ⟨⟨g, st he S.st, S.len, fun i z h => ?_, S.dis, S.lk⟩, ⟨st f.n0 f.st, f.nf, f.na, f.n0, _, upd_same, rv.append (.cons ry .nil)⟩⟩
  have q := S.sl i z h
  cases z with
  | un => trivial
  | dat d => exact q
  | own d =>
    obtain ⟨a, ho, q1, q2, q3⟩ := q
    exact ⟨a, ho, q1, kp _ _ (fun z => hn i d (.inl h) (z ▸ q1)) q2, q3.heap⟩
  | lok d =>
    obtain ⟨a, ho, q1, q2, q3⟩ := q
    refine ⟨a, ho, q1, ?_, q3.heap⟩
    have ne : a ≠ L := fun z => hn i d (.inr h) (z ▸ q1)
    rcases q2 with q2 | ⟨ob, q2⟩
    · exact .inl (kp _ _ ne q2)
    · exact .inr ⟨ob, kp _ _ ne q2⟩
/-- the heap without L -/
def rmA (L : Addr) (H : Hp) : Hp := fun b => if b = L then none else H b
theorem rmA_ne {L b : Addr} {H : Hp} (h : b ≠ L) : rmA L H b = H b := if_neg h
theorem rmA_self {L : Addr} {H : Hp} : rmA L H L = none := if_pos rfl
theorem rmA_upd {L : Addr} {H : Hp} {o : HO} : rmA L (upd H L o) = rmA L H := by
  funext b
  by_cases h : b = L
  · subst h; rw [rmA_self, rmA_self]
  · rw [rmA_ne h, rmA_ne h, upd_ne h]
theorem rmA_none {L : Addr} {H : Hp} (h : H L = none) : rmA L H = H := by
  funext b
  by_cases e : b = L
  · subst e; rw [rmA_self, h]
  · rw [rmA_ne e]
theorem rmA_some {L b : Addr} {H : Hp} {o : HO} (h : rmA L H b = some o) : b ≠ L ∧ H b = some o := by
  by_cases e : b = L
  · subst e; rw [rmA_self] at h; cases h
  · rw [rmA_ne e] at h; exact ⟨e, h⟩
theorem Stay.rm {α α' : List Addr} {F F' H H' : Hp} (L : Addr) (s : Stay α F H α' F' H') : Stay α F (rmA L H) α' F' (rmA L H') := by
  refine ⟨s.pre, s.fz, fun a o h1 h2 => ?_, fun a h => ?_, fun a o h1 h2 h3 => ?_, fun a o h => ?_⟩
  · obtain ⟨ne, q⟩ := rmA_some h2
    rw [rmA_ne ne]; exact s.keep a o h1 q
  · rcases s.new a h with z | z
    · exact .inl z
    · by_cases e : a = L
      · subst e; exact .inr rmA_self
      · exact .inr (by rw [rmA_ne e]; exact z)
  · exact s.out a o h1 (rmA_some h2).2 h3
  · obtain ⟨ne, q⟩ := rmA_some h
    rw [rmA_ne ne]; exact s.there a o q
theorem Stay.unrm {α : List Addr} {F H : Hp} (L : Addr) : Stay α F (rmA L H) α F H :=
  ⟨⟨[], by simp⟩, fun _ _ h => h, fun a o _ h => (rmA_some h).2, fun _ h => .inl h, fun _ _ h _ _ => h, fun a o h => ⟨o, (rmA_some h).2, fun z => z⟩⟩

theorem snd_lc {K : PySem.W.Frag} {mg : Str → Option Value} {wi : TI} {g : TG} {tt : TT} {te : TE} {fi : Id'} {is : List Nat} {p : Pat} {t : Bd} {f : Ed} {vs : List Nat} {z : Bool} (i2 : Snd K mg W (RlI K mg z) wi fi) (g2 : SndG K mg is g p) (t2 : SndT K mg W0 tt t) (e2 : SndE K mg W0 .froz te f) (hv : ∀ i ∈ is, i ∈ vs) :
    SndE K mg W .fre (tLc wi g tt te vs) (eLc fi p t f vs) := by
  intro e Λ α F σ H r m S
  refine At.bind (t := wi σ H) (u := fun J H1 Q => ∀ D, H1 D = none → ∃ W : Nat → Nat → Hp → Prop, (∃ m, W 0 m (upd H1 D (.lst []))) ∧ ∀ i m H, W i m H →
    (J.stop i H ∧ Q (.ref D) H) ∨ (J.go i H ∧ ∃ Nx : Hp → Prop, (∀ H', Nx H' → ∃ m', m' < m ∧ W (i + 1) m' H') ∧ ∀ x H', J.yld i H x H' → g x (wipe σ vs) H' fun σ2 H2 => wipe σ2 vs = wipe σ vs ∧ tt σ2 H2 fun b H3 =>
      if b = true then te σ2 H3 fun y H4 => ∃ acc, H4 D = some (.lst acc) ∧ acc.length < sizeLine ∧ Nx (upd H4 D (.lst (acc ++ [y]))) else Nx H3)) (Rl' := RlK K mg .fre) back_K (i2 e Λ α F σ H r m S) fun ds m1 _ J α1 F1 H1 S1 s1 ⟨P, ok, hP, _⟩ => ?_
  by_cases hz : ds.length ≤ SZ
  · rw [if_pos hz]
    cases hl : lcD p t f (wipeR r vs) ds m1 with
    | stuck => trivial
    | exc n m2 => trivial
    | ok ys m2 =>
      intro Q w D hD
      refine lc_any (n := ds.length) (fun i H' => ∃ α2 F2 m' acc rest, Sig K mg e Λ α2 F2 (wipe σ vs) H' (wipeR r vs) m' ∧ Fill K mg α1 F1 H1 α2 F2 H' D acc ∧ P α2 F2 (rmA D H') ∧ acc.length ≤ i ∧ lcD p t f (wipeR r vs) (ds.drop i) m' = .ok rest m2 ∧ acc ++ rest = ys) ?_ ?_ ?_ ?_ ?_
      · obtain ⟨g', s', _⟩ := S1.g.fre (o := .lst []) (d := .lst []) hD (.lst .nil)
        refine ⟨α1, F1, m1, [], ys, (S1.stay s' g').wipe vs, ⟨s', S1.g.fno hD, S1.g.nin hD, hD, _, upd_same, .nil⟩, by rw [rmA_upd, rmA_none hD]; exact hP, Nat.le_refl _, hl, rfl⟩
      · rintro i H' hi ⟨α2, F2, m', acc, rest, S2, fl, P2, _⟩
        exact ok.go _ _ _ _ _ S2.g (ok.st _ _ _ _ _ _ (Stay.unrm D) P2) hi
      · rintro H' ⟨α2, F2, m', acc, rest, S2, fl, P2, _⟩
        exact ok.stop _ _ _ _ S2.g (ok.st _ _ _ _ _ _ (Stay.unrm D) P2)
      · rintro i x H2 H3 hi ⟨α2, F2, m', acc, rest, S2, fl, P2, hacc, hr, he⟩ hy
        obtain ⟨F3, d, g3, s3, e3, rp⟩ := ok.yld _ _ _ _ _ _ _ S2.g (ok.st _ _ _ _ _ _ (Stay.unrm D) P2) hi hy
        have ed : ds[i] = d := by rw [List.getElem?_eq_getElem hi] at e3; exact Option.some.inj e3
        rw [List.drop_eq_getElem_cons hi, ed] at hr
        unfold lcD at hr
        cases hpd : p d (wipeR r vs) with
        | none => rw [hpd] at hr; cases hr
        | some r' =>
          rw [hpd] at hr
          dsimp only at hr
          have S3 := S2.stay s3 g3
          refine g2 e Λ α2 F3 _ H3 _ m' x d r' S3 rp hpd _ fun σ4 S4 w4 => ⟨?_, ?_⟩
          · rw [w4 vs hv]
            apply List.ext_getElem?
            intro j
            rw [wipe_get, wipe_get, wipe_length]
            split <;> rfl
          · have q4 := t2 e Λ α2 F3 σ4 H3 r' m' S4
            have back : ∀ {α' F' H' m''}, G K mg α' F' H' m'' → Stay α2 F3 H3 α' F' H' → Sig K mg e Λ α' F' (wipe σ vs) H' (wipeR r vs) m'' := fun {α' F' H' m''} gx sx => S3.stay sx gx
            have fl3 := fl.stay s3
            have P3 := ok.st _ _ _ _ _ _ (s3.rm D) P2
            cases ht : t r' m' with
            | stuck => rw [ht] at hr; cases hr
            | exc n mx => rw [ht] at hr; cases hr
            | ok c m4 =>
              rw [ht] at hr q4
              refine q4 _ fun v α5 F5 H5 S5 s5 k5 => ?_
              subst k5
              have hr : (if v = true then (f r' m4).bindS fun y m2 => (lcD p t f (wipeR r vs) (ds.drop (i + 1)) m2).bindS fun ys m3 => .ok (y :: ys) m3 else lcD p t f (wipeR r vs) (ds.drop (i + 1)) m4) = .ok rest m2 := hr
              cases v with
              | false =>
                rw [if_neg Bool.false_ne_true] at hr ⊢
                exact ⟨α5, F5, m4, acc, rest, back S5.g s5, fl3.stay s5, ok.st _ _ _ _ _ _ (s5.rm D) P3, Nat.le_succ_of_le hacc, hr, he⟩
              | true =>
                rw [if_pos rfl] at hr ⊢
                have q5 := e2 e Λ α5 F5 σ4 H5 r' m4 S5
                cases hf : f r' m4 with
                | stuck => rw [hf] at hr; cases hr
                | exc n mx => rw [hf] at hr; cases hr
                | ok y m6 =>
                  rw [hf] at hr q5
                  have hr : ((lcD p t f (wipeR r vs) (ds.drop (i + 1)) m6).bindS fun ys m3 => Res.ok (y :: ys) m3) = .ok rest m2 := hr
                  cases hn : lcD p t f (wipeR r vs) (ds.drop (i + 1)) m6 with
                  | stuck => rw [hn] at hr; cases hr
                  | exc n mx => rw [hn] at hr; cases hr
                  | ok ys' m7 =>
                    rw [hn] at hr
                    cases hr
                    refine q5 _ fun yv α7 F7 H7 S7 s7 k7 => ?_
                    have fl7 := (fl3.stay s5).stay s7
                    obtain ⟨vs7, hv7, rv7⟩ := fl7.at'
                    have S7' := back S7.g (s5.trans s7)
                    have nown : ∀ (j : Nat) (d' : _root_.Q.D), ((wipeR r vs)[j]? = some (.own d') ∨ (wipeR r vs)[j]? = some (.lok d')) → (wipe σ vs)[j]? ≠ some (some (.ref D)) := fun j d' hj hz => by
                      obtain ⟨o, q⟩ := (S1.wipe vs).there hj hz
                      rw [hD] at q; cases q
                    obtain ⟨S8, fl8⟩ := fl7.add S7' hv7 rv7 k7 nown (S1.e0 hD)
                    have h1 := rv7.length
                    refine ⟨vs7, hv7, sz' (by omega), α7, F7, m6, acc ++ [y], ys', S8, fl8, by rw [rmA_upd]; exact ok.st _ _ _ _ _ _ (s7.rm D) (ok.st _ _ _ _ _ _ (s5.rm D) P3), by rw [List.length_append]; exact Nat.succ_le_succ hacc, hn, by rw [List.append_assoc]; exact he⟩
      · rintro H' ⟨α2, F2, m', acc, rest, S2, fl, P2, hacc, hr, he⟩
        rw [List.drop_length] at hr
        cases hr
        rw [List.append_nil] at he
        subst he
        obtain ⟨vs2, h1, h2⟩ := fl.at'
        exact w _ α2 F2 H' (S1.stay fl.st S2.g) fl.st ⟨D, _, rfl, h1, fl.nf, fl.na, fl.n0, .lst h2⟩
  · rw [if_neg hz]; trivial
/-- one reading for a family of contexts -/
theorem QE.unif {ι : Type} {Xs : ι → Cx} {K : PySem.W.Frag} {mg : Str → Option Value} {k : Kd} {e : Expr} {f : Ed} (hK : ∀ i, (Xs i).K = K) (hm : ∀ i, (Xs i).mg = mg) (h : ∀ i, QE (Xs i) W k e f) : ∃ t, (∀ i, PE (Xs i) e t) ∧ SndE K mg W k t f := by
  have h' : ∀ i, ∃ t, PE (Xs i) e t ∧ SndE K mg W k t f := fun i => by
    obtain ⟨t, h1, h2⟩ := (h i).ex
    rw [hK, hm] at h2
    exact ⟨t, h1, h2⟩
  refine ⟨fun σ H Q => ∀ i, (h' i).choose σ H Q, fun i => ⟨fun pins s σ H Q I q => (h' i).choose_spec.1.run pins s σ H Q I (q i)⟩, fun e Λ α F σ H r m S => ?_⟩
  have q := fun i => (h' i).choose_spec.2 e Λ α F σ H r m S
  cases hf : f r m with
  | stuck => trivial
  | ok d m' => exact fun Q w i => by have q := q i; rw [hf] at q; exact q Q w
  | exc n m' => exact fun w Q i => by have q := q i; rw [hf] at q; exact q w Q
theorem QTs.unif {ι : Type} {Xs : ι → Cx} {K : PySem.W.Frag} {mg : Str → Option Value} {e : List Expr} {f : Bd} (hK : ∀ i, (Xs i).K = K) (hm : ∀ i, (Xs i).mg = mg) (h : ∀ i, QTs (Xs i) W e f) : ∃ t, (∀ i, PTs (Xs i) e t) ∧ SndT K mg W t f := by
  have h' : ∀ i, ∃ t, PTs (Xs i) e t ∧ SndT K mg W t f := fun i => by
    obtain ⟨t, h1, h2⟩ := (h i).ex
    rw [hK, hm] at h2
    exact ⟨t, h1, h2⟩
  refine ⟨fun σ H Q => ∀ i, (h' i).choose σ H Q, fun i => ⟨fun pins s σ H Q I q => (h' i).choose_spec.1.run pins s σ H Q I (q i)⟩, fun e Λ α F σ H r m S => ?_⟩
  have q := fun i => (h' i).choose_spec.2 e Λ α F σ H r m S
  cases hf : f r m with
  | stuck => trivial
  | ok d m' => exact fun Q w i => by have q := q i; rw [hf] at q; exact q Q w
  | exc n m' => exact fun w Q i => by have q := q i; rw [hf] at q; exact q w Q
theorem QG.unif {ι : Type} {Xs : ι → Cx} {K : PySem.W.Frag} {mg : Str → Option Value} {e : Expr} {is : List Nat} {p : Pat} (hK : ∀ i, (Xs i).K = K) (hm : ∀ i, (Xs i).mg = mg) (h : ∀ i, QG (Xs i) e is p) : ∃ t, (∀ i, PG (Xs i) e t) ∧ SndG K mg is t p := by
  have h' : ∀ i, ∃ t, PG (Xs i) e t ∧ SndG K mg is t p := fun i => by
    obtain ⟨t, h1, h2⟩ := (h i).ex
    rw [hK, hm] at h2
    exact ⟨t, h1, h2⟩
  refine ⟨fun v σ H Q => ∀ i, (h' i).choose v σ H Q, fun i => ⟨fun pins s σ H v u Q I rv q => (h' i).choose_spec.1.run pins s σ H v u Q I rv (q i)⟩, fun e Λ α F σ H r m v d r' S k z Q w i => ?_⟩
  exact (h' i).choose_spec.2 e Λ α F σ H r m v d r' S k z Q w
abbrev Bk := Shared × Hp × Addr × List (Str × Addr) × List Addr
abbrev blkOf (X : Cx) (scope : Scope) : Bk → Cx := fun b => X.blk b.1 b.2.1 scope (compEnvC scope b.2.2.2.1 b.2.2.1 X.env) b.2.2.2.2
theorem qe_lc {elt tg iter : Expr} {ifs : List Expr} {scope : Scope} {own : List (Str × Nat)} {pos : Pos} {z : Bool} {fi : Id'} {is : List Nat} {p : Pat} {t : Bd} {f : Ed} (hc : X.calm = true) (hN : X.N.Nodup) (hi : QI X W z tg iter fi) (ok : BlkOk X.N X.env.scope scope own)
    (hg : ∀ b : Bk, QG (blkOf X scope b) tg is p) (ht : ∀ b : Bk, QTs (blkOf X scope b) W0 ifs t) (he : ∀ b : Bk, QE (blkOf X scope b) W0 .froz elt f) (hv : ∀ i ∈ is, i ∈ own.map (·.2) := by decide) (hs : ∀ x, foldedSetIterable iter X.env x = pure x := by intro _; rfl) :
    QE X W .fre (.ListComp elt [⟨tg, iter, ifs, 0⟩] scope pos) (eLc fi p t f (own.map (·.2))) := by
  obtain ⟨wi, i1, i2⟩ := hi.ex
  obtain ⟨g, g1, g2⟩ := QG.unif (Xs := blkOf X scope) (K := X.K) (mg := X.mg) (fun _ => rfl) (fun _ => rfl) hg
  obtain ⟨tt, t1, t2⟩ := QTs.unif (Xs := blkOf X scope) (K := X.K) (mg := X.mg) (fun _ => rfl) (fun _ => rfl) ht
  obtain ⟨te, e1, e2⟩ := QE.unif (Xs := blkOf X scope) (K := X.K) (mg := X.mg) (fun _ => rfl) (fun _ => rfl) he
  exact ⟨_, pe_lc hc hN i1 ok (fun s H C cl fp => g1 (s, H, C, cl, fp)) (fun s H C cl fp => t1 (s, H, C, cl, fp)) (fun s H C cl fp => e1 (s, H, C, cl, fp)) hs, snd_lc i2 g2 t2 e2 hv⟩
/-- name = [..] on one line -/
theorem qs_setLc {i : Nat} {y : Str} {py : Pos} {elt tg iter : Expr} {ifs : List Expr} {scope : Scope} {own : List (Str × Nat)} {pos spos : Pos} {z : Bool} {fi : Id'} {is : List Nat} {p : Pat} {t : Bd} {f : Ed} (hc : X.calm = true) (hN : X.N.Nodup) (hy : X.N[i]? = some y) (hyl : X.env.scope.names.lookup y = some .local)
    (hsw : swapsWith (.ListComp elt [⟨tg, iter, ifs, 0⟩] scope pos) (some (.Name y py)) spos.line X.env = pure true) (hi : QI X W z tg iter fi) (ok : BlkOk X.N X.env.scope scope own)
    (hg : ∀ b : Bk, QG (blkOf X scope b) tg is p) (ht : ∀ b : Bk, QTs (blkOf X scope b) W0 ifs t) (he : ∀ b : Bk, QE (blkOf X scope b) W0 .froz elt f) (hv : ∀ i ∈ is, i ∈ own.map (·.2) := by decide) (hs : ∀ x, foldedSetIterable iter X.env x = pure x := by intro _; rfl) :
    QS X W (.Assign [.Name y py] (.ListComp elt [⟨tg, iter, ifs, 0⟩] scope pos) spos) (sOwn i (eLc fi p t f (own.map (·.2)))) := by
  obtain ⟨wi, i1, i2⟩ := hi.ex
  obtain ⟨g, g1, g2⟩ := QG.unif (Xs := blkOf X scope) (K := X.K) (mg := X.mg) (fun _ => rfl) (fun _ => rfl) hg
  obtain ⟨tt, t1, t2⟩ := QTs.unif (Xs := blkOf X scope) (K := X.K) (mg := X.mg) (fun _ => rfl) (fun _ => rfl) ht
  obtain ⟨te, e1, e2⟩ := QE.unif (Xs := blkOf X scope) (K := X.K) (mg := X.mg) (fun _ => rfl) (fun _ => rfl) he
  refine ⟨_, ps_setLc hc hN hy hyl hsw i1 ok (fun s H C cl fp => g1 (s, H, C, cl, fp)) (fun s H C cl fp => t1 (s, H, C, cl, fp)) (fun s H C cl fp => e1 (s, H, C, cl, fp)) hs, fun e Λ α F σ H r m D S hp => ?_⟩
  refine At.out (snd_lc i2 g2 t2 e2 hv e Λ α F σ H r m S) hp fun d m' _ hp v α' F' H' S' s' ⟨a, ho, e1, e2, e3, e4, e5, e6⟩ => ?_
  subst e1
  refine hp _ _ _ _ (S'.setOwn e2 ⟨e3, e4, S.e0 e5, e6⟩ fun j d' _ hj hz => ?_)
  obtain ⟨o, z⟩ := S.there hj hz
  rw [e5] at z; cases z
end
end Q
end
section
set_option Elab.async false
set_option linter.all false
set_option maxRecDepth 100000
set_option maxHeartbeats 2000000
namespace Q
open PySem L2 PyProof.Rows
abbrev Fd := List D → Sto → Res D
def kdOf (fr : Bool) : Kd := if fr = true then .fre else .froz
/-- what a def promises: F of its arguments -/
def spQ (K : PySem.W.Frag) (mg : Str → Option Value) (n : Nat) (fr : Bool) (F : Fd) : Sp := fun vs H Q E => vs.length = n ∧ ∃ α F0 m args, G K mg α F0 H m ∧ RepL K mg α F0 vs args ∧ match F args m with
  | .stuck => False
  | .ok d m' => ∀ v α' F' H', G K mg α' F' H' m' → Stay α F0 H α' F' H' → RK K mg H α' F' H' v d (kdOf fr) → Q v H'
  | .exc x m' => ∀ a α' F' H', mg x = some (.ref a) → G K mg α' F' H' m' → Stay α F0 H α' F' H' → E (.ref a) none H'
/-- a def at its name -/
structure FnAt (P : Program) (w : World) (K : PySem.W.Frag) (mg : Str → Option Value) (base : Heap) (x : Str) (k : Nat) (ps : List Str) (fr : Bool) (F : Fd) : Prop where
  ex : ∃ f fd, mg x = some (.ref f) ∧ PySem.W.keepIn K (.ref f) = true ∧ Binds K fd ps [] ∧ FnOk P w K mg base (L2.CX P w) k f fd ps (spQ K mg ps.length fr F)
theorem FnAt.mono {P : Program} {w : World} {K : PySem.W.Frag} {mg : Str → Option Value} {base : Heap} {x : Str} {j k : Nat} {ps : List Str} {fr : Bool} {F : Fd} (h : FnAt P w K mg base x j ps fr F) (hk : j ≤ k) : FnAt P w K mg base x k ps fr F := by
  obtain ⟨f, fd, a, b, c, d⟩ := h.ex
  exact ⟨f, fd, a, b, c, d.mono hk⟩
/-- another function that tells no more -/
theorem FnAt.imp {P : Program} {w : World} {K : PySem.W.Frag} {mg : Str → Option Value} {base : Heap} {x : Str} {k : Nat} {ps : List Str} {fr : Bool} {F F' : Fd} (h : FnAt P w K mg base x k ps fr F) (he : ∀ args m, F' args m = .stuck ∨ F args m = F' args m) : FnAt P w K mg base x k ps fr F' := by
  obtain ⟨f, fd, a, b, c, d⟩ := h.ex
  refine ⟨f, fd, a, b, c, d.imp fun vs H Q E ⟨hl, α, F0, m, args, g, r, q⟩ => ⟨hl, α, F0, m, args, g, r, ?_⟩⟩
  rcases he args m with z | z
  · rw [z] at q; exact q.elim
  · rw [z]; exact q
def startR (n : Nat) (args : List D) : Env := args.map Sl.dat ++ List.replicate (n - args.length) .un
/-- a body, run -/
def bodyD (fr : Bool) (n : Nat) (b : Sd) : Fd := fun args m => match b (startR n args) m with
  | .rt f d m' => if fr = true then (if f = true then .ok d m' else .stuck) else (if f = true then .stuck else .ok d m')
  | .nx _ m' => if fr = true then .stuck else .ok .non m'
  | .exc x m' => .exc x m'
  | _ => .stuck
theorem kdOf_f : kdOf false = .froz := rfl
theorem kdOf_t : kdOf true = .fre := rfl
section
variable {P : Program} {w : World} {K : PySem.W.Frag} {mg : Str → Option Value} {base : Heap}
theorem sig_start {α : List Addr} {F0 H : Hp} {m : Sto} {vs : List V} {args : List D} {N : List Str} (g : G K mg α F0 H m) (r : RepL K mg α F0 vs args) : Sig K mg ⟨α, F0, H⟩ (fun _ => none) α F0 (L2.start N vs) H (startR N.length args) m := by
  have hl := r.length
  have no : ∀ (i : Nat) (z : Sl), (startR N.length args)[i]? = some z → z = .un ∨ ∃ d, args[i]? = some d ∧ z = .dat d := fun i z h => by
    unfold startR at h
    by_cases hi : i < args.length
    · rw [List.getElem?_append_left (by simpa using hi), List.getElem?_map] at h
      cases q : args[i]? with
      | none => rw [q] at h; cases h
      | some d => rw [q] at h; cases h; exact .inr ⟨d, rfl, rfl⟩
    · rw [List.getElem?_append_right (by simpa using Nat.le_of_not_lt hi)] at h
      left
      obtain ⟨h1, h2⟩ := List.getElem?_eq_some_iff.mp h
      rw [List.getElem_replicate] at h2
      exact h2.symm
  refine ⟨g, Stay.refl _ _ _, by simp [L2.start, startR, hl], fun i z h => ?_, fun i j d d' a h1 h2 _ _ => ?_, fun i d h => ?_⟩
  · rcases no i z h with rfl | ⟨d, h1, rfl⟩
    · trivial
    · obtain ⟨v, h2, h3⟩ := r.getD h1
      refine ⟨v, ?_, h3⟩
      unfold L2.start
      rw [List.getElem?_append_left (by rw [List.length_map]; exact (List.getElem?_eq_some_iff.mp h2).1), List.getElem?_map, h2]; rfl
  · rcases h1 with h1 | h1 <;> rcases no _ _ h1 with z | ⟨_, _, z⟩ <;> cases z
  · rcases no _ _ h with z | ⟨_, _, z⟩ <;> cases z
/-- a def by its body -/
theorem fnq {x qual : Str} {st : Stmt} {f : Addr} {fd : FuncData} {N ps : List Str} {k : Nat} {fr : Bool} {b : Sd} (F : Fun K x qual st f fd) (S : FnScope N ps (defScope st))
    (hb : ∀ (cdv : Value) (A : Around) (outer : List PySem.Env) (s : Shared) (H : Hp) (E : XK), Room k (A.deeper (envOfC qual (defScope st) s.heap.objs.size f cdv)) → Takes (cxOf (L2.CX P w) P w K mg base N qual (defScope st) f cdv A outer s H E) (fun cls d _ H => E cls d H) →
      QSs (cxOf (L2.CX P w) P w K mg base N qual (defScope st) f cdv A outer s H E) (fun cls d _ H => E cls d H) (defBody st) b) :
    FnOk P w K mg base (L2.CX P w) (k + 1) f fd ps (spQ K mg ps.length fr (bodyD fr N.length b)) := by
  refine F.okX S (fun vs H Q E h => h.1) fun cdv A outer s H vs Q E hr ⟨hl, α, F0, m, args, g, rl, hq⟩ => ?_
  obtain ⟨t, h1, h2⟩ := (hb cdv A outer s H E hr (takes_of rfl rfl rfl rfl)).ex
  refine ⟨t, h1, h2 ⟨α, F0, H⟩ (fun _ => none) α F0 (L2.start N vs) H _ m _ (sig_start g rl) ?_⟩
  unfold bodyD at hq
  cases hf : b (startR N.length args) m with
  | stuck => rw [hf] at hq; exact hq
  | bk r m' => rw [hf] at hq; exact hq.elim
  | ct r m' => rw [hf] at hq; exact hq.elim
  | exc n m' => rw [hf] at hq; exact fun a α' F' σ' H' ha g' s' => hq a α' F' H' ha g' s'
  | nx r m' =>
    rw [hf] at hq
    cases fr with
    | true => exact hq.elim
    | false => exact fun α' F' σ' H' S' => hq _ α' F' H' S'.g S'.st .non
  | rt b d m' =>
    rw [hf] at hq
    cases fr with
    | true =>
      cases b with
      | true => exact fun α' F' H' v g' s' k' => hq v α' F' H' g' s' k'
      | false => exact hq.elim
    | false =>
      cases b with
      | true => exact hq.elim
      | false => exact fun α' F' H' v g' s' k' => hq v α' F' H' g' s' k'
end
def callD (n : Nat) (F : Fd) (fa : Ad) : Ed := fun r m => (fa r m).bind fun args m1 => if args.length = n then F args m1 else .stuck
section
variable {X : Cx} {W : WX}
theorem qe_call {k : Nat} {ps : List Str} {fr : Bool} {F : Fd} {x : Str} {p pos : Pos} {e : Expr} {es : List Expr} {fa : Ad} (h : FnAt X.prog X.w X.K X.mg X.base x k ps fr F) (hr : Room k X.A) (tk : Takes X W) (hg : Gl X x) (ha : QA X W .froz (e :: es) fa)
    (hdb : (x == ("__debug__" : Str)) = false := by decide) (he : starEach (e :: es) X.env = (false, eval e X.env) :: starEach es X.env := by rfl) (hpl : (backTo pos (starEach es X.env)).any (·.1) = false := by rfl) : QE X W (kdOf fr) (.Call (.Name x p) (e :: es) [] pos) (callD ps.length F fa) := by
  obtain ⟨f, fd, a, b, c, d⟩ := h.ex
  obtain ⟨ta, a1, a2⟩ := ha.ex
  refine ⟨_, pe_callS d hr hg a b c (fun σ => passAt tk σ) a1 hdb he hpl, fun e0 Λ α F0 σ H r m S => ?_⟩
  refine At.bind (t := ta σ H) (u := fun vs H1 Q => spQ X.K X.mg ps.length fr F vs H1 Q (WE W σ)) (Rl' := RlK X.K X.mg (kdOf fr)) back_K (a2 e0 Λ α F0 σ H r m S) fun args m1 _ vs α1 F1 H1 S1 s1 k1 => ?_
  by_cases hlen : args.length = ps.length
  · rw [if_pos hlen]
    cases hf : F args m1 with
    | stuck => trivial
    | ok d m2 => exact fun Q w => ⟨by rw [k1.rep.length, hlen], α1, F1, m1, args, S1.g, k1.rep, by rw [hf]; exact fun v α' F' H' g' s' k' => w v α' F' H' (S1.stay s' g') s' k'⟩
    | exc n m2 => exact fun w Q => ⟨by rw [k1.rep.length, hlen], α1, F1, m1, args, S1.g, k1.rep, by rw [hf]; exact fun a α' F' H' ha g' s' => w a α' F' H' ha (S1.stay s' g')⟩
  · rw [if_neg hlen]; trivial
end
end Q
end
section
set_option Elab.async false
set_option linter.all false
set_option maxRecDepth 100000
set_option maxHeartbeats 2000000
namespace Q
open PySem L2 PyProof.Rows PySem.W

def D.pyD (d : D) : PyData := d.py.getD .none
mutual
theorem py_inj : ∀ {a b : D} {p : PyData}, a.py = some p → b.py = some p → a = b
  | .non, b, p, h, h' => by
    cases h
    cases b with
    | non => rfl
    | tup ys => unfold D.py at h'; cases z : D.pys ys <;> (rw [z] at h'; cases h')
    | lst ys => unfold D.py at h'; cases z : D.pys ys <;> (rw [z] at h'; cases h')
    | _ => cases h'
  | .bl c, b, p, h, h' => by
    cases h
    cases b with
    | bl d => cases h'; rfl
    | tup ys => unfold D.py at h'; cases z : D.pys ys <;> (rw [z] at h'; cases h')
    | lst ys => unfold D.py at h'; cases z : D.pys ys <;> (rw [z] at h'; cases h')
    | _ => cases h'
  | .int c, b, p, h, h' => by
    cases h
    cases b with
    | int d => cases h'; rfl
    | tup ys => unfold D.py at h'; cases z : D.pys ys <;> (rw [z] at h'; cases h')
    | lst ys => unfold D.py at h'; cases z : D.pys ys <;> (rw [z] at h'; cases h')
    | _ => cases h'
  | .str c, b, p, h, h' => by
    cases h
    cases b with
    | str d => cases h'; rfl
    | tup ys => unfold D.py at h'; cases z : D.pys ys <;> (rw [z] at h'; cases h')
    | lst ys => unfold D.py at h'; cases z : D.pys ys <;> (rw [z] at h'; cases h')
    | _ => cases h'
  | .tup xs, b, p, h, h' => by
    unfold D.py at h
    cases z : D.pys xs with
    | none => rw [z] at h; cases h
    | some ps =>
      rw [z] at h
      cases h
      cases b with
      | tup ys =>
        unfold D.py at h'
        cases z' : D.pys ys with
        | none => rw [z'] at h'; cases h'
        | some qs =>
          rw [z'] at h'
          cases h'
          rw [pys_inj z z']
      | lst ys => unfold D.py at h'; cases z : D.pys ys <;> (rw [z] at h'; cases h')
      | _ => cases h'
  | .lst xs, b, p, h, h' => by
    unfold D.py at h
    cases z : D.pys xs with
    | none => rw [z] at h; cases h
    | some ps =>
      rw [z] at h
      cases h
      cases b with
      | lst ys =>
        unfold D.py at h'
        cases z' : D.pys ys with
        | none => rw [z'] at h'; cases h'
        | some qs =>
          rw [z'] at h'
          cases h'
          rw [pys_inj z z']
      | tup ys => unfold D.py at h'; cases z : D.pys ys <;> (rw [z] at h'; cases h')
      | _ => cases h'
  | .dK _, _, _, h, _ => by cases h
  | .dT _, _, _, h, _ => by cases h
  | .cell _, _, _, h, _ => by cases h
  | .fn _, _, _, h, _ => by cases h
  | .ktup _, _, _, h, _ => by cases h
theorem pys_inj : ∀ {as bs : List D} {ps : List PyData}, D.pys as = some ps → D.pys bs = some ps → as = bs
  | [], [], _, _, _ => rfl
  | [], b :: bs, p, h, h' => by
    cases h
    unfold D.pys at h'
    cases z1 : D.py b <;> cases z2 : D.pys bs <;> (rw [z1, z2] at h'; cases h')
  | a :: as, [], p, h, h' => by
    cases h'
    unfold D.pys at h
    cases z1 : D.py a <;> cases z2 : D.pys as <;> (rw [z1, z2] at h; cases h)
  | a :: as, b :: bs, p, h, h' => by
    unfold D.pys at h h'
    cases z1 : D.py a with
    | none => rw [z1] at h; cases h
    | some pa =>
      cases z2 : D.pys as with
      | none => rw [z1, z2] at h; cases h
      | some qa =>
        rw [z1, z2] at h
        cases z3 : D.py b with
        | none => rw [z3] at h'; cases h'
        | some pb =>
          cases z4 : D.pys bs with
          | none => rw [z3, z4] at h'; cases h'
          | some qb =>
            rw [z3, z4] at h'
            cases h
            cases h'
            rw [py_inj z1 z3, pys_inj z2 z4]
end
theorem pys_get : ∀ {as : List D} {ps : List PyData} {i : Nat} {a : D}, D.pys as = some ps → as[i]? = some a → ∃ p, a.py = some p ∧ ps[i]? = some p
  | [], _, _, _, _, h => by simp at h
  | b :: bs, ps, i, a, h, h' => by
    unfold D.pys at h
    cases z1 : D.py b with
    | none => rw [z1] at h; cases h
    | some pb =>
      cases z2 : D.pys bs with
      | none => rw [z1, z2] at h; cases h
      | some qb =>
        rw [z1, z2] at h
        cases h
        cases i with
        | zero => simp at h'; subst h'; exact ⟨pb, z1, rfl⟩
        | succ i => obtain ⟨p, q1, q2⟩ := pys_get (i := i) z2 (by simpa using h'); exact ⟨p, q1, by simpa using q2⟩
theorem pys_all : ∀ {as : List D} {ps : List PyData}, D.pys as = some ps → ps = as.map D.pyD
  | [], _, h => by cases h; rfl
  | b :: bs, ps, h => by
    unfold D.pys at h
    cases z1 : D.py b with
    | none => rw [z1] at h; cases h
    | some pb =>
      cases z2 : D.pys bs with
      | none => rw [z1, z2] at h; cases h
      | some qb =>
        rw [z1, z2] at h
        cases h
        rw [List.map_cons, ← pys_all z2]
        show _ = (D.py b).getD .none :: qb
        rw [z1]; rfl

/-! ### <, <=, >, >= of data -/
def rCmpD (K : PySem.W.Frag) (f : PyData → PyData → Bool) : R2 := fun x y H Q => ∃ d e, Dp K H x d ∧ Dp K H y e ∧ alike d e = true ∧ d ≠ .none ∧ d.depth ≤ 60 ∧ Q (.bl (f d e)) H
section
variable {X : Cx}
theorem cmp_room {u d e : Nat} (hu : u + 64 < cLine) (h : d ≤ 60) : u + min d e < cLine := by
  have := Nat.min_le_left d e
  omega
theorem op_ltD (hu : X.A.units + 64 < cLine) : OpR X (compareOp .Lt) (rCmpD X.K dataLt) := by
  intro pins s σ H x y v u Q I rx ry ⟨d, e, hd, he, a, n, dp, q⟩
  obtain ⟨as, r1⟩ := Dp.reads I d x v hd rx
  obtain ⟨bs, r2⟩ := Dp.reads I e y u he ry
  exact lt_data r1 r2 a n (cmp_room hu dp) ⟨.bl _, H, I, rfl, q⟩
theorem op_gtD (hu : X.A.units + 64 < cLine) : OpR X (compareOp .Gt) (rCmpD X.K fun d e => dataLt e d) := by
  intro pins s σ H x y v u Q I rx ry ⟨d, e, hd, he, a, n, dp, q⟩
  obtain ⟨as, r1⟩ := Dp.reads I d x v hd rx
  obtain ⟨bs, r2⟩ := Dp.reads I e y u he ry
  exact gt_data r1 r2 a n (cmp_room hu dp) ⟨.bl _, H, I, rfl, q⟩
theorem op_leD (hu : X.A.units + 64 < cLine) : OpR X (compareOp .LtE) (rCmpD X.K fun d e => !dataLt e d) := by
  intro pins s σ H x y v u Q I rx ry ⟨d, e, hd, he, a, n, dp, q⟩
  obtain ⟨as, r1⟩ := Dp.reads I d x v hd rx
  obtain ⟨bs, r2⟩ := Dp.reads I e y u he ry
  exact le_data r1 r2 a n (cmp_room hu dp) ⟨.bl _, H, I, rfl, q⟩
theorem op_geD (hu : X.A.units + 64 < cLine) : OpR X (compareOp .GtE) (rCmpD X.K fun d e => !dataLt d e) := by
  intro pins s σ H x y v u Q I rx ry ⟨d, e, hd, he, a, n, dp, q⟩
  obtain ⟨as, r1⟩ := Dp.reads I d x v hd rx
  obtain ⟨bs, r2⟩ := Dp.reads I e y u he ry
  exact ge_data r1 r2 a n (cmp_room hu dp) ⟨.bl _, H, I, rfl, q⟩
/-! ### in, not in -/
def rInD (K : PySem.W.Frag) (neg : Bool) : R2 := fun x y H Q => ∃ d ds, Dp K H x d ∧ (Dp K H y (.list ds) ∨ Dp K H y (.tuple ds)) ∧ PyData.plainAll ds = true ∧ d.plain = true ∧ d.depth ≤ 60 ∧ Q (.bl (if neg then !(ds.any fun z => PyData.eqv z d) else ds.any fun z => PyData.eqv z d)) H
theorem in_room {u d e : Nat} (hu : u + 64 < cLine) (h : d ≤ 60) : u + 1 + min e d < cLine := by
  have := Nat.min_le_right e d
  omega
theorem op_inD (hu : X.A.units + 64 < cLine) : OpR X (compareOp .In) (rInD X.K false) := by
  intro pins s σ H x y v u Q I rx ry ⟨d, ds, hd, he, a, n, dp, q⟩
  obtain ⟨as, r1⟩ := Dp.reads I d x v hd rx
  rcases he with he | he
  · obtain ⟨bs, r2⟩ := Dp.reads I _ y u he ry
    exact PySem.SeqAt.in_list_data r2 r1 a n (in_room hu dp) ⟨.bl _, H, I, rfl, q⟩
  · obtain ⟨bs, r2⟩ := Dp.reads I _ y u he ry
    exact PySem.SeqAt.in_tuple_data r2 r1 a n (in_room hu dp) ⟨.bl _, H, I, rfl, q⟩
theorem op_ninD (hu : X.A.units + 64 < cLine) : OpR X (compareOp .NotIn) (rInD X.K true) := by
  intro pins s σ H x y v u Q I rx ry ⟨d, ds, hd, he, a, n, dp, q⟩
  obtain ⟨as, r1⟩ := Dp.reads I d x v hd rx
  rcases he with he | he
  · obtain ⟨bs, r2⟩ := Dp.reads I _ y u he ry
    exact PySem.SeqAt.notIn_list_data r2 r1 a n (in_room hu dp) ⟨.bl _, H, I, rfl, q⟩
  · obtain ⟨bs, r2⟩ := Dp.reads I _ y u he ry
    exact PySem.SeqAt.notIn_tuple_data r2 r1 a n (in_room hu dp) ⟨.bl _, H, I, rfl, q⟩
/-! ### min, max of a list or a tuple -/
def rBest (K : PySem.W.Frag) (f : PyData → List PyData → PyData) : List V → Hp → VK → Prop := fun vs H Q => ∃ a xs d ds, vs = [.ref a] ∧ (SqL K H a xs ∨ SqT K H a xs) ∧ DpAll K H xs (d :: ds) ∧ AlikeAll (d :: ds) ∧ PyData.depthAll (d :: ds) ≤ 60 ∧
  ∀ (i : Nat) x, xs[i]? = some x → (d :: ds)[i]? = some (f d ds) → Q x H
theorem dpAll_get {K : PySem.W.Frag} {H : Hp} : ∀ {xs : List V} {ds : List PyData} {i : Nat} {x : V}, DpAll K H xs ds → xs[i]? = some x → ∃ d, ds[i]? = some d ∧ Dp K H x d
  | _, _, _, _, .nil, h => by simp at h
  | _, _, 0, _, .cons r _, h => by simp at h; subst h; exact ⟨_, rfl, r⟩
  | _, _, i + 1, x, .cons _ t, h => by
    obtain ⟨d, h1, h2⟩ := dpAll_get (i := i) t (by simpa using h)
    exact ⟨d, by simpa using h1, h2⟩
theorem vals_back : ∀ {xs : List V} {us : List Value} {i : Nat} {u : Value}, Vals xs us → us[i]? = some u → ∃ x, xs[i]? = some x ∧ RelV x u
  | _, _, _, _, .nil, h => by simp at h
  | _, _, 0, _, .cons r _, h => by simp at h; subst h; exact ⟨_, rfl, r⟩
  | _, _, i + 1, u, .cons _ t, h => by
    obtain ⟨x, h1, h2⟩ := vals_back (i := i) t (by simpa using h)
    exact ⟨x, by simpa using h1, h2⟩
theorem alike_self_of {d : PyData} {ds : List PyData} (h : AlikeAll ds) (hd : d ∈ ds) : alike d d = true := h.1 d hd d hd
theorem best_core {f : PyData → List PyData → PyData} {pins : List (Addr × Obj)} {s : Shared} {σ : L2.St} {H : Hp} {Q : VK} {xs : List V} {its : List Value} {d : PyData} {ds : List PyData} (I : Inv X pins σ H s) (rv : Vals xs its) (hD : DpAll X.K H xs (d :: ds)) (ha : AlikeAll (d :: ds)) (hf : f d ds ∈ d :: ds)
    (q : ∀ (i : Nat) x, xs[i]? = some x → (d :: ds)[i]? = some (f d ds) → Q x H) (i : Nat) (v : Value) (h' : Heap) (tk : Nat) (bs : List Addr) (hv : its.toArray[i]? = some v) (r : Reads h' v (f d ds) bs) (hk : ∀ b o, s.heap.get? b = some o → h'.get? b = some o) : EP X pins σ Q v { s with heap := h', toks := tk } := by
  have hv' : its[i]? = some v := by simpa using hv
  obtain ⟨x, hx, rx⟩ := vals_back rv hv'
  obtain ⟨p, hp, dp⟩ := dpAll_get hD hx
  obtain ⟨as, r2⟩ := Dp.reads I p x v dp rx
  have e : p = f d ds := alike_unique p (f d ds) v as bs (ha.1 p (List.mem_of_getElem? hp) _ hf) (Reads.keeps hk r2) r
  exact ⟨x, H, I.kept hk, rx, q i x hx (by rw [hp, e])⟩
theorem minD_mem (x : PyData) : ∀ xs : List PyData, minD x xs ∈ x :: xs := by
  intro xs
  unfold minD
  induction xs generalizing x with
  | nil => simp
  | cons y ys ih =>
    rw [List.foldl_cons]
    split
    · have := ih y
      simp only [List.mem_cons] at this ⊢
      rcases this with h | h
      · exact .inr (.inl h)
      · exact .inr (.inr h)
    · have := ih x
      simp only [List.mem_cons] at this ⊢
      rcases this with h | h
      · exact .inl h
      · exact .inr (.inr h)
theorem maxD_mem (x : PyData) : ∀ xs : List PyData, maxD x xs ∈ x :: xs := by
  intro xs
  unfold maxD
  induction xs generalizing x with
  | nil => simp
  | cons y ys ih =>
    rw [List.foldl_cons]
    split
    · have := ih y
      simp only [List.mem_cons] at this ⊢
      rcases this with h | h
      · exact .inr (.inl h)
      · exact .inr (.inr h)
    · have := ih x
      simp only [List.mem_cons] at this ⊢
      rcases this with h | h
      · exact .inl h
      · exact .inr (.inr h)
theorem cr_minA (hc : X.calm = true) (hu : X.A.units + 64 < cLine) : CallR X (.builtin "min") (rBest X.K minD) := by
  intro pins s σ H vs us Q I r ⟨a, xs, d, ds, e, hs, hD, ha, hdp, q⟩
  subst e
  rw [Vals.ref1 r]
  have room : X.A.units + 1 + PyData.depthAll (d :: ds) < cLine := by omega
  rcases hs with hs | hs
  · obtain ⟨its, rv, hl, _⟩ := I.list hs
    obtain ⟨as, ra⟩ := Dp.readsAll I (d :: ds) xs its hD rv
    exact min_list_data (I.ok.hd hc) hl.isList ra ha room fun i v h' tk bs hv r hk => best_core I rv hD ha (minD_mem _ _) q i v h' tk bs hv r hk
  · obtain ⟨its, rv, hl, _⟩ := I.tuple hs
    obtain ⟨as, ra⟩ := Dp.readsAll I (d :: ds) xs its hD rv
    exact min_tuple_data (I.ok.hd hc) hl ra ha room fun i v h' tk bs hv r hk => best_core I rv hD ha (minD_mem _ _) q i v h' tk bs hv r hk
theorem cr_maxA (hc : X.calm = true) (hu : X.A.units + 64 < cLine) : CallR X (.builtin "max") (rBest X.K maxD) := by
  intro pins s σ H vs us Q I r ⟨a, xs, d, ds, e, hs, hD, ha, hdp, q⟩
  subst e
  rw [Vals.ref1 r]
  have room : X.A.units + 1 + PyData.depthAll (d :: ds) < cLine := by omega
  rcases hs with hs | hs
  · obtain ⟨its, rv, hl, _⟩ := I.list hs
    obtain ⟨as, ra⟩ := Dp.readsAll I (d :: ds) xs its hD rv
    exact max_list_data (I.ok.hd hc) hl.isList ra ha room fun i v h' tk bs hv r hk => best_core I rv hD ha (maxD_mem _ _) q i v h' tk bs hv r hk
  · obtain ⟨its, rv, hl, _⟩ := I.tuple hs
    obtain ⟨as, ra⟩ := Dp.readsAll I (d :: ds) xs its hD rv
    exact max_tuple_data (I.ok.hd hc) hl ra ha room fun i v h' tk bs hv r hk => best_core I rv hD ha (maxD_mem _ _) q i v h' tk bs hv r hk
/-! ### sorted of a list -/
def rSortD (K : PySem.W.Frag) : List V → Hp → VK → Prop := fun vs H Q => ∃ (a : Addr) (xs : List V) (bs : List D) (T : V → D → Prop), vs = [V.ref a] ∧ SqL K H a xs ∧ EachIs T xs bs ∧ EachIs (fun x b => Dp K H x b.pyD) xs bs ∧ AllAlike (bs.map D.pyD) ∧ Sortable (bs.map D.pyD) ∧ bs.length ≤ sizeLine ∧ (∀ b, b ∈ bs → b.pyD.depth ≤ 60) ∧
  ∀ (ys : List V) (p : Addr), EachIs T ys (bs.mergeSort (dataLe false D.pyD)) → H p = none → Q (.ref p) (upd H p (.lst ys))
theorem each_vals {T : V → D → Prop} : ∀ {xs : List V} {us : List Value} {bs : List D}, Vals xs us → EachIs T xs bs → EachIs (fun u b => ∃ x, RelV x u ∧ T x b) us bs
  | _, _, _, .nil, .nil => .nil
  | _, _, _, .cons r t, .cons a b => .cons ⟨_, r, a⟩ (each_vals t b)
theorem vals_each {T : V → D → Prop} : ∀ {us : List Value} {bs : List D}, EachIs (fun u b => ∃ x, RelV x u ∧ T x b) us bs → ∃ xs, Vals xs us ∧ EachIs T xs bs
  | _, _, .nil => ⟨[], .nil, .nil⟩
  | _, _, .cons ⟨x, r, t⟩ b => by
    obtain ⟨xs, h1, h2⟩ := vals_each b
    exact ⟨x :: xs, .cons r h1, .cons t h2⟩
theorem each_len {α β : Type} {T : α → β → Prop} : ∀ {xs : List α} {bs : List β}, EachIs T xs bs → xs.length = bs.length
  | _, _, .nil => rfl
  | _, _, .cons _ t => congrArg (· + 1) (each_len t)
theorem each_mono {α β : Type} {T T' : α → β → Prop} (h : ∀ a b, T a b → T' a b) : ∀ {xs : List α} {bs : List β}, EachIs T xs bs → EachIs T' xs bs
  | _, _, .nil => .nil
  | _, _, .cons a t => .cons (h _ _ a) (each_mono h t)
theorem cr_sortD (hu : X.A.units + 64 < cLine) : CallR X (.builtin "sorted") (rSortD X.K) := by
  intro pins s σ H vs us Q I r ⟨a, xs, bs, T, e, hs, hT, hD, hal, hso, hz, hdp, q⟩
  subst e
  rw [Vals.ref1 r]
  obtain ⟨its, rv, hl, _⟩ := I.list hs
  have e1 := each_vals rv hT
  have e2 : EachIs (fun v b => ∃ as, Reads s.heap v (D.pyD b) as) its bs := each_mono (fun u b ⟨x, r, d⟩ => Dp.reads I _ x u d r) (each_vals rv hD)
  refine sorted_data (enc := D.pyD) hl.isList e1 e2 hal hso hz (fun b hb => by have := hdp b hb; omega) fun out ho h => ?_
  obtain ⟨ys, h1, h2⟩ := vals_each h
  obtain ⟨ep, he'⟩ := PyProof.Rows.sortedAll_at s.heap its (List.toArray out)
  have hlen : ys.length ≤ sizeLine := by rw [h1.length, ho]; exact hz
  exact ⟨.ref _, upd H (s.heap.objs.size + 1) (.lst ys), I.laid (t' := s.toks) (fun _ _ => PyProof.Rows.sortedAll_old) (Nat.le_succ _) ⟨hlen, out, ep, h1, he'⟩, rfl, q ys _ h2 (I.hok.fresh (Nat.le_succ _))⟩
end
end Q
end
section
set_option Elab.async false
set_option linter.all false
set_option maxRecDepth 100000
set_option maxHeartbeats 2000000
namespace Q
open PySem L2 PyProof.Rows PySem.W

section
variable {K : PySem.W.Frag} {mg : Str → Option Value} {α α' : List Addr} {F F' H H' H0 : Hp} {m : Sto} {v : V} {x : D} {k : Kd}
/-! ### order of data -/
def notNone : PyData → Bool
  | .none => false
  | _ => true
theorem notNone_ne {d : PyData} (h : notNone d = true) : d ≠ .none := by
  intro z; subst z; cases h
def cmpD (f : PyData → PyData → Bool) (x y : D) : Option Bool := match x.py, y.py with
  | some a, some b => if (alike a b && notNone a && decide (a.depth ≤ 60)) = true then some (f a b) else none
  | _, _ => none
def gCmp (f : PyData → PyData → Bool) : Sto → D → D → Option D := fun m x y => match dr m x, dr m y with
  | some a, some b => (cmpD f a b).map .bl
  | _, _ => none
theorem snd_cmpD {f : PyData → PyData → Bool} : Snd2 K mg .froz (rCmpD K f) (gCmp f) := by
  intro α F H m v w x y d g h1 h2 e Q q
  unfold gCmp at e
  split at e
  · rename_i a b e1 e2
    unfold cmpD at e
    split at e
    · rename_i p p' z1 z2
      split at e
      · rename_i c
        cases e
        simp only [Bool.and_eq_true, decide_eq_true_eq] at c
        exact ⟨p, p', rb_dp g h1 (by rw [e1]; exact z1), rb_dp g h2 (by rw [e2]; exact z2), c.1.1, notNone_ne c.1.2, c.2, q _ _ _ _ g (Stay.refl _ _ _) (.bl _)⟩
      · cases e
    · cases e
  · cases e
abbrev gLt := gCmp dataLt
abbrev gGt := gCmp fun d e => dataLt e d
abbrev gLe := gCmp fun d e => !dataLt e d
abbrev gGe := gCmp fun d e => !dataLt d e
/-! ### in, not in -/
/-- the items of a list or a tuple -/
def seqOf (m : Sto) (x : D) : Option (List D) := match x with
  | .ktup ds => some ds
  | _ => match dr m x with
    | some (.lst ds) => some ds
    | some (.tup ds) => some ds
    | _ => none
theorem repL_dp {vs : List V} {ds : List D} {ps : List PyData} (g : G K mg α F H m) (r : RepL K mg α F vs ds) (h : D.pys ds = some ps) : DpAll K H vs ps := RepL.dp g.sub r h
theorem seq_dp {ds : List D} {ps : List PyData} (g : G K mg α F H m) (h : RB K mg α F H v x) (hs : seqOf m x = some ds) (hp : D.pys ds = some ps) : Dp K H v (.list ps) ∨ Dp K H v (.tuple ps) := by
  unfold seqOf at hs
  split at hs
  · cases hs
    obtain ⟨a, vs, rfl, s, r⟩ := cont_seqT g h (.inr rfl)
    exact .inr (.tup s (repL_dp g r hp))
  · split at hs
    · rename_i e
      cases hs
      obtain ⟨a, vs, rfl, s, r⟩ := cont_lst g h e
      exact .inl (.lst s (repL_dp g r hp))
    · rename_i e
      cases hs
      obtain ⟨_, a, vs, rfl, s, _, r⟩ := cont_tup g h e
      exact .inr (.tup (.inl (.inl s)) (repL_dp g r hp))
    · cases hs
theorem seq_at {ds : List D} (g : G K mg α F H m) (h : RB K mg α F H v x) (hs : seqOf m x = some ds) : ∃ a vs, v = .ref a ∧ (SqL K H a vs ∨ SqT K H a vs) ∧ RepL K mg α F vs ds := by
  unfold seqOf at hs
  split at hs
  · cases hs
    obtain ⟨a, vs, rfl, s, r⟩ := cont_seqT g h (.inr rfl)
    exact ⟨a, vs, rfl, .inr s, r⟩
  · split at hs
    · rename_i e
      cases hs
      obtain ⟨a, vs, rfl, s, r⟩ := cont_lst g h e
      exact ⟨a, vs, rfl, .inl s, r⟩
    · rename_i e
      cases hs
      obtain ⟨_, a, vs, rfl, s, _, r⟩ := cont_tup g h e
      exact ⟨a, vs, rfl, .inr (.inl (.inl s)), r⟩
    · cases hs
def inD (x : D) (ds : List D) : Option Bool := match x.py, D.pys ds with
  | some p, some ps => if (PyData.plainAll ps && p.plain && decide (p.depth ≤ 60)) = true then some (ps.any fun z => PyData.eqv z p) else none
  | _, _ => none
def gIn (neg : Bool) : Sto → D → D → Option D := fun m x y => match dr m x, seqOf m y with
  | some a, some ds => (inD a ds).map fun c => .bl (if neg then !c else c)
  | _, _ => none
theorem snd_in {neg : Bool} : Snd2 K mg .froz (rInD K neg) (gIn neg) := by
  intro α F H m v w x y d g h1 h2 e Q q
  unfold gIn at e
  split at e
  · rename_i a ds e1 e2
    cases hc : inD a ds with
    | none => rw [hc] at e; cases e
    | some c =>
      rw [hc] at e
      unfold inD at hc
      split at hc
      · rename_i p ps z1 z2
        split at hc
        · rename_i z
          cases hc
          cases e
          simp only [Bool.and_eq_true, decide_eq_true_eq] at z
          exact ⟨p, ps, rb_dp g h1 (by rw [e1]; exact z1), seq_dp g h2 e2 z2, z.1.1, z.1.2, z.2, q _ _ _ _ g (Stay.refl _ _ _) (.bl _)⟩
        · cases hc
      · cases hc
  · cases e
/-! ### min, max -/
def alikeB (ps : List PyData) : Bool := ps.all fun a => notNone a && ps.all fun b => alike a b
theorem alikeB_all {ps : List PyData} (h : alikeB ps = true) : AlikeAll ps := by
  unfold alikeB at h
  simp only [List.all_eq_true, Bool.and_eq_true] at h
  exact ⟨fun a ha b hb => (h a ha).2 b hb, fun a ha => notNone_ne (h a ha).1⟩
def bestD (lt : PyData → PyData → Bool) (x : D) (xs : List D) : D := xs.foldl (fun a y => if lt y.pyD a.pyD = true then y else a) x
theorem best_map (lt : PyData → PyData → Bool) (x : D) (xs : List D) : (bestD lt x xs).pyD = (xs.map D.pyD).foldl (fun a y => if lt y a = true then y else a) x.pyD := by
  unfold bestD
  induction xs generalizing x with
  | nil => rfl
  | cons y ys ih =>
    rw [List.foldl_cons, List.map_cons, List.foldl_cons, ih]
    congr 1
    split <;> rfl
theorem best_mem (lt : PyData → PyData → Bool) (x : D) (xs : List D) : bestD lt x xs ∈ x :: xs := by
  unfold bestD
  induction xs generalizing x with
  | nil => simp
  | cons y ys ih =>
    rw [List.foldl_cons]
    split
    · have := ih y
      simp only [List.mem_cons] at this ⊢
      rcases this with h | h
      · exact .inr (.inl h)
      · exact .inr (.inr h)
    · have := ih x
      simp only [List.mem_cons] at this ⊢
      rcases this with h | h
      · exact .inl h
      · exact .inr (.inr h)
def gBest (lt : PyData → PyData → Bool) : Sto → List D → Option D := fun m xs => match xs with
  | [x] => match seqOf m x with
    | some (d :: ds) => match D.pys (d :: ds) with
      | some ps => if (alikeB ps && decide (PyData.depthAll ps ≤ 60)) = true then some (bestD lt d ds) else none
      | none => none
    | _ => none
  | _ => none
theorem py_pyD {d : D} {p : PyData} (h : d.py = some p) : d.pyD = p := by unfold D.pyD; rw [h]; rfl
theorem snd_best {lt : PyData → PyData → Bool} {f : PyData → List PyData → PyData} (hf : ∀ x xs, f x xs = xs.foldl (fun a y => if lt y a = true then y else a) x) : SndN K mg .froz (rBest K f) (gBest lt) := by
  intro α F H m vs xs d g h e Q q
  unfold gBest at e
  split at e
  · cases h with
    | cons h1 h2 =>
      cases h2
      split at e
      · rename_i d0 ds e1
        obtain ⟨a, ws, rfl, s, r⟩ := seq_at g h1 e1
        split at e
        · rename_i ps e2
          split at e
          · rename_i c
            cases e
            simp only [Bool.and_eq_true, decide_eq_true_eq] at c
            cases ps with
            | nil => have := pys_all e2; cases this
            | cons p0 ps =>
              have e3 := pys_all e2
              rw [List.map_cons] at e3
              injection e3 with e4 e5
              refine ⟨a, ws, p0, ps, rfl, s, repL_dp g r e2, alikeB_all c.1, c.2, fun i x hx hp => ?_⟩
              obtain ⟨d', h1, h2⟩ := r.get hx
              obtain ⟨p', h3, h4⟩ := pys_get e2 h1
              rw [h4] at hp
              have e6 : p' = f p0 ps := Option.some.inj hp
              obtain ⟨j, hj⟩ := List.mem_iff_getElem?.mp (best_mem lt d0 ds)
              obtain ⟨p2, h5, h6⟩ := pys_get e2 hj
              have e7 : p2 = p' := by
                have := best_map lt d0 ds
                rw [py_pyD h5, ← e4, ← e5] at this
                rw [this, e6, hf]
              have e8 : d' = bestD lt d0 ds := py_inj h3 (e7 ▸ h5)
              rw [e8] at h2
              exact q _ _ _ _ g (Stay.refl _ _ _) h2
          · cases e
        · cases e
      · cases e
  · cases e
abbrev gMin := gBest dataLt
abbrev gMax := gBest fun a b => dataLt b a
theorem snd_min : SndN K mg .froz (rBest K minD) gMin := snd_best fun x xs => rfl
theorem snd_max : SndN K mg .froz (rBest K maxD) gMax := snd_best fun x xs => rfl
/-! ### sorted -/
def sortB (ps : List PyData) : Bool := (ps.all fun d => match d with
  | .tuple (_ :: _) => true
  | _ => false) || ps.all fun d => match d with
  | .none => false
  | .tuple _ => false
  | _ => true
theorem sortB_ok {ps : List PyData} (h : sortB ps = true) : Sortable ps := by
  unfold sortB at h
  rw [Bool.or_eq_true] at h
  rcases h with h | h
  · left
    intro d hd
    have := List.all_eq_true.mp h d hd
    split at this
    · exact ⟨_, _, rfl⟩
    · cases this
  · right
    intro d hd
    have := List.all_eq_true.mp h d hd
    constructor
    · rintro rfl; cases this
    · rintro xs rfl; cases this
def sortD (ds : List D) : List D := ds.mergeSort (dataLe false D.pyD)
def sortOk (ds : List D) : Bool := match D.pys ds with
  | some ps => alikeB' ps && sortB ps && ps.all fun p => decide (p.depth ≤ 60)
  | none => false
where alikeB' (ps : List PyData) : Bool := ps.all fun a => ps.all fun b => alike a b
def gSorted : Sto → List D → Option D := fun m xs => match xs with
  | [x] => match dr m x with
    | some (.lst ds) => if (sortOk ds && decide (ds.length ≤ SZ)) = true then some (.lst (sortD ds)) else none
    | _ => none
  | _ => none
theorem repL_each : ∀ {vs : List V} {ds : List D}, RepL K mg α F vs ds → EachIs (fun v d => Rep K mg α F v d) vs ds
  | _, _, .nil => .nil
  | _, _, .cons r t => .cons r (repL_each t)
theorem each_repL : ∀ {vs : List V} {ds : List D}, EachIs (fun v d => Rep K mg α F v d) vs ds → RepL K mg α F vs ds
  | _, _, .nil => .nil
  | _, _, .cons r t => .cons r (each_repL t)
theorem repL_eachDp (s : Sub F H) : ∀ {vs : List V} {ds : List D} {ps : List PyData}, RepL K mg α F vs ds → D.pys ds = some ps → EachIs (fun v d => Dp K H v d.pyD) vs ds
  | _, _, _, .nil, _ => .nil
  | _, d :: ds, _, .cons r t, h => by
    unfold D.pys at h
    cases z1 : D.py d with
    | none => rw [z1] at h; cases h
    | some p =>
      cases z2 : D.pys ds with
      | none => rw [z1, z2] at h; cases h
      | some qs =>
        refine .cons ?_ (repL_eachDp s t z2)
        rw [py_pyD z1]
        exact Rep.dp s r z1
theorem snd_sorted : SndN K mg .fre (rSortD K) gSorted := by
  intro α F H m vs xs d g h e Q q
  unfold gSorted at e
  split at e
  · cases h with
    | cons h1 h2 =>
      cases h2
      split at e
      · rename_i ds e1
        obtain ⟨a, ws, rfl, s, r⟩ := cont_lst g h1 e1
        split at e
        · rename_i c
          cases e
          rw [Bool.and_eq_true, decide_eq_true_eq] at c
          obtain ⟨c, hz⟩ := c
          unfold sortOk at c
          split at c
          · rename_i ps e2
            simp only [Bool.and_eq_true] at c
            have e3 := pys_all e2
            subst e3
            refine ⟨a, ws, ds, fun v d => Rep K mg α F v d, rfl, s, repL_each r, repL_eachDp g.sub r e2, fun p hp p' hp' => ?_, sortB_ok c.1.2, sz hz, fun b hb => ?_, fun ys p he hp => ?_⟩
            · have := c.1.1
              unfold sortOk.alikeB' at this
              exact List.all_eq_true.mp (List.all_eq_true.mp this p hp) p' hp'
            · have := List.all_eq_true.mp c.2 b.pyD (List.mem_map.mpr ⟨b, hb, rfl⟩)
              exact of_decide_eq_true this
            · obtain ⟨g', s', k'⟩ := g.fre hp (.lst (each_repL he))
              exact q _ _ _ _ g' s' k'
          · cases c
        · cases e
      · cases e
  · cases e
/-! ### isinstance -/
def tyD : D → Option String
  | .non => some "NoneType"
  | .bl _ => some "bool"
  | .int _ => some "int"
  | .str _ => some "str"
  | .tup _ => some "tuple"
  | .ktup _ => some "tuple"
  | .lst _ => some "list"
  | .dK _ => some "dict"
  | _ => none
def gIsi (T : String) : Sto → D → Option D := fun m x => match dr m x with
  | some d => ((tyD d).bind fun t => kitB t T).map .bl
  | none => none
theorem ty_x {d : D} {t : String} (g : G K mg α F H m) (h : RB K mg α F H v x) (e : dr m x = some d) (ht : tyD d = some t) : TyX K H v (.type t) := by
  cases d with
  | non => have q := dr_scal h g e trivial; subst q; have q := rb_non h; subst q; cases ht; exact .base .non
  | bl b => have q := dr_scal h g e trivial; subst q; have q := rb_bl h; subst q; cases ht; exact .base (.bl b)
  | int b => have q := dr_scal h g e trivial; subst q; have q := rb_int h; subst q; cases ht; exact .base (.int b)
  | str b => have q := dr_scal h g e trivial; subst q; have q := rb_str h; subst q; cases ht; exact .base (.str b)
  | tup ds =>
    obtain ⟨_, a, vs, rfl, s, _, r⟩ := cont_tup g h e
    cases ht
    exact .base (.tup s)
  | ktup ds =>
    have q := dr_scal h g e trivial
    obtain ⟨a, vs, rfl, s, r⟩ := cont_seqT g h (.inr q)
    cases ht
    rcases s with (s | ⟨o, s⟩) | ⟨o, its, n, s, c, _⟩
    · exact .base (.tup s)
    · exact .fTuple s
    · exact .kTuple s c
  | lst ds =>
    obtain ⟨a, vs, rfl, s, r⟩ := cont_lst g h e
    cases ht
    rcases s with (s | ⟨o, s⟩) | ⟨o, its, n, s, c, _⟩
    · exact .base (.lst s)
    · exact .base (.frz s)
    · exact .kList s c
  | dK ds =>
    obtain ⟨a, vs, rfl, s, r⟩ := cont_dK g h e
    cases ht
    rcases s with s | ⟨o, s⟩
    · exact .base (.dK s)
    · exact .fDict s
  | _ => cases ht
end
section
variable {X : Cx} {W : WX}
theorem qe_isi {T : String} {tn : Str} {a : Expr} {fa : Ed} {p p2 pos : Pos} {k : Kd} (ha : QE X W k a fa) (hg : Gl X "isinstance") (hm : X.mg "isinstance" = none) (hgT : Gl X tn) (hmT : X.mg tn = none) (hvT : bootBuiltins tn = some (.type T)) (hv : bootBuiltins "isinstance" = some (.builtin "isinstance") := by decide +kernel)
    (hn : tn ≠ "__name__" := by decide) (hd : (tn == ("__debug__" : Str)) = false := by decide) (hs : starEach [a, .Name tn p2] X.env = (false, eval a X.env) :: starEach [.Name tn p2] X.env := by rfl) (hs2 : starEach [Expr.Name tn p2] X.env = (false, eval (.Name tn p2) X.env) :: starEach [] X.env := by rfl)
    (hpl : (backTo pos (starEach [Expr.Name tn p2] X.env)).any (·.1) = false := by rfl) :
    QE X W .froz (.Call (.Name "isinstance" p) [a, .Name tn p2] [] pos) (op1 (gIsi T) fa) := by
  obtain ⟨ta, a1, a2⟩ := ha.bor.ex
  have pT : PE X (.Name tn p2) (tC (.ty T)) := pe_bltn hgT hmT hvT rfl hn hd
  refine ⟨_, pe_callB call_isi hg hm hv (pa_cons a1 (pa_cons pT pa_nil hs2) hs) (by decide) (by decide) hs hpl, fun e Λ α F σ H r m S => ?_⟩
  refine At.bind (t := ta σ H) (u := fun v H1 Q => rIsi X.K [v, .ty T] H1 Q) (Rl' := RlK X.K X.mg .froz) back_K (a2 e Λ α F σ H r m S) fun x m1 _ v α1 F1 H1 S1 s1 k1 => ?_
  unfold gIsi
  cases e1 : dr m1 x with
  | none => trivial
  | some d =>
    cases e2 : tyD d with
    | none => simp only [e2]; trivial
    | some t =>
      simp only [e2]
      show At _ _ _ _ _ _ _ _ _ _ _ _ (lift ((kitB t T).map .bl) m1)
      cases e3 : kitB t T with
      | none => trivial
      | some b => exact fun Q w => ⟨v, .ty T, .type t, .type T, b, rfl, .ty T, ty_x S1.g k1 e1 e2, kit_ty e3, w _ _ _ _ S1 (Stay.refl _ _ _) (.bl b)⟩
/-! ### is None, is True -/
def gIsN (neg : Bool) : Sto → D → D → Option D := fun _ x y => match y with
  | .non => some (.bl (match x with
    | .non => !neg
    | _ => neg))
  | _ => none
def gIsB (neg : Bool) : Sto → D → D → Option D := fun _ x y => match x, y with
  | .bl a, .bl b => some (.bl (if neg then !decide (a = b) else decide (a = b)))
  | _, _ => none
end
section
variable {K : PySem.W.Frag} {mg : Str → Option Value} {α α' : List Addr} {F F' H H' H0 : Hp} {m : Sto} {v : V} {x : D} {k : Kd}
theorem rb_non_iff (h : RB K mg α F H v x) : decide (v = V.non) = (match x with
    | .non => true
    | _ => false) := by
  rcases h with h | ⟨a, ho, rfl, h2, h3, h4, h5⟩
  · cases h <;> rfl
  · cases h5 <;> rfl
theorem snd_isN : Snd2 K mg .froz (fun x y H Q => y = .non ∧ Q (.bl (decide (x = .non))) H) (gIsN false) := by
  intro α F H m v w x y d g h1 h2 e Q q
  unfold gIsN at e
  split at e
  · have z := rb_non h2
    subst z
    refine ⟨rfl, ?_⟩
    rw [rb_non_iff h1]
    cases e
    refine q _ _ _ _ g (Stay.refl _ _ _) ?_
    cases x <;> exact .bl _
  · cases e
theorem snd_notN : Snd2 K mg .froz (fun x y H Q => y = .non ∧ Q (.bl (!decide (x = .non))) H) (gIsN true) := by
  intro α F H m v w x y d g h1 h2 e Q q
  unfold gIsN at e
  split at e
  · have z := rb_non h2
    subst z
    refine ⟨rfl, ?_⟩
    rw [rb_non_iff h1]
    cases e
    refine q _ _ _ _ g (Stay.refl _ _ _) ?_
    cases x <;> exact .bl _
  · cases e
theorem snd_isB : Snd2 K mg .froz rIsB (gIsB false) := by
  intro α F H m v w x y d g h1 h2 e Q q
  unfold gIsB at e
  split at e
  · have z := rb_bl h1
    have z2 := rb_bl h2
    subst z z2
    cases e
    exact ⟨_, _, rfl, rfl, q _ _ _ _ g (Stay.refl _ _ _) (.bl _)⟩
  · cases e
theorem snd_notB : Snd2 K mg .froz rNotB (gIsB true) := by
  intro α F H m v w x y d g h1 h2 e Q q
  unfold gIsB at e
  split at e
  · have z := rb_bl h1
    have z2 := rb_bl h2
    subst z z2
    cases e
    exact ⟨_, _, rfl, rfl, q _ _ _ _ g (Stay.refl _ _ _) (.bl _)⟩
  · cases e
/-! ### all, any, sum, abs, int -/
def blsOf : List D → Option (List Bool)
  | [] => some []
  | .bl b :: ds => (blsOf ds).map (b :: ·)
  | _ => none
def intsOf : List D → Option (List Int)
  | [] => some []
  | .int b :: ds => (intsOf ds).map (b :: ·)
  | _ => none
theorem bls_vals : ∀ {vs : List V} {ds : List D} {bs : List Bool}, RepL K mg α F vs ds → blsOf ds = some bs → vs = bs.map V.bl
  | _, _, _, .nil, h => by cases h; rfl
  | _, _, _, .cons (d := d) (ds := ds) r t, h => by
    cases d with
    | bl b =>
      unfold blsOf at h
      cases z : blsOf ds with
      | none => rw [z] at h; cases h
      | some bs => rw [z] at h; cases h; rw [r.bl_inv, bls_vals t z]; rfl
    | _ => cases h
theorem ints_vals : ∀ {vs : List V} {ds : List D} {bs : List Int}, RepL K mg α F vs ds → intsOf ds = some bs → vs = bs.map V.int
  | _, _, _, .nil, h => by cases h; rfl
  | _, _, _, .cons (d := d) (ds := ds) r t, h => by
    cases d with
    | int b =>
      unfold intsOf at h
      cases z : intsOf ds with
      | none => rw [z] at h; cases h
      | some bs => rw [z] at h; cases h; rw [r.int_inv, ints_vals t z]; rfl
    | _ => cases h
def gBls (f : List Bool → Bool) : Sto → List D → Option D := fun m xs => match xs with
  | [x] => match dr m x with
    | some (.lst ds) => (blsOf ds).map fun bs => .bl (f bs)
    | _ => none
  | _ => none
theorem snd_bls {f : List Bool → Bool} : SndN K mg .froz (fun vs H Q => ∃ (a : Addr) (bs : List Bool), vs = [V.ref a] ∧ SqL K H a (bs.map V.bl) ∧ Q (.bl (f bs)) H) (gBls f) := by
  intro α F H m vs xs d g h e Q q
  unfold gBls at e
  split at e
  · cases h with
    | cons h1 h2 =>
      cases h2
      split at e
      · rename_i ds e1
        obtain ⟨a, ws, rfl, s, r⟩ := cont_lst g h1 e1
        cases z : blsOf ds with
        | none => rw [z] at e; cases e
        | some bs =>
          rw [z] at e
          cases e
          have e2 := bls_vals r z
          subst e2
          exact ⟨a, bs, rfl, s, q _ _ _ _ g (Stay.refl _ _ _) (.bl _)⟩
      · cases e
  · cases e
abbrev gAll := gBls fun bs => bs.all id
abbrev gAny := gBls fun bs => bs.any id
theorem snd_all : SndN K mg .froz (rAll K) gAll := snd_bls
theorem snd_any : SndN K mg .froz (rAny K) gAny := snd_bls
def gSum : Sto → List D → Option D := fun m xs => match xs with
  | [x] => match dr m x with
    | some (.lst ds) => (intsOf ds).map fun bs => .int bs.sum
    | _ => none
  | _ => none
theorem snd_sum : SndN K mg .froz (rSum K) gSum := by
  intro α F H m vs xs d g h e Q q
  unfold gSum at e
  split at e
  · cases h with
    | cons h1 h2 =>
      cases h2
      split at e
      · rename_i ds e1
        obtain ⟨a, ws, rfl, s, r⟩ := cont_lst g h1 e1
        cases z : intsOf ds with
        | none => rw [z] at e; cases e
        | some bs =>
          rw [z] at e
          cases e
          have e2 := ints_vals r z
          subst e2
          exact ⟨a, bs, rfl, s, q _ _ _ _ g (Stay.refl _ _ _) (.int _)⟩
      · cases e
  · cases e
/-- a built-in of ints -/
def gI (f : List Int → Option Int) : Sto → List D → Option D := fun _ xs => ((intsOf xs).bind f).map .int
theorem rkl_ints : ∀ {vs : List V} {ds : List D} {bs : List Int}, RKL K mg .bor H0 α F H vs ds → intsOf ds = some bs → vs = bs.map V.int
  | _, _, _, .nil, h => by cases h; rfl
  | _, _, _, .cons (d := d) (ds := ds) r t, h => by
    cases d with
    | int b =>
      unfold intsOf at h
      cases z : intsOf ds with
      | none => rw [z] at h; cases h
      | some bs => rw [z] at h; cases h; rw [rb_int r, rkl_ints t z]; rfl
    | _ => cases h
def gAbs := gI fun l => match l with
  | [i] => some (if i < 0 then -i else i)
  | _ => none
def gMax2 := gI fun l => match l with
  | [i, j] => some (if j > i then j else i)
  | _ => none
def gMin2 := gI fun l => match l with
  | [i, j] => some (if j < i then j else i)
  | _ => none
theorem gI_some {f : List Int → Option Int} {ds : List D} {d : D} (h : gI f m ds = some d) : ∃ l i, intsOf ds = some l ∧ f l = some i ∧ d = .int i := by
  unfold gI at h
  cases z : intsOf ds with
  | none => rw [z] at h; cases h
  | some l =>
    rw [z] at h
    have h : (f l).map D.int = some d := h
    cases z2 : f l with
    | none => rw [z2] at h; cases h
    | some i => rw [z2] at h; cases h; exact ⟨l, i, rfl, z2, rfl⟩
theorem snd_abs : SndN K mg .froz (fun xs H Q => ∃ i, xs = [.int i] ∧ Q (.int (if i < 0 then -i else i)) H) gAbs := by
  intro α F H m vs xs d g h e Q q
  obtain ⟨l, i, h1, h2, rfl⟩ := gI_some e
  have e1 := rkl_ints h h1
  subst e1
  split at h2
  · cases h2; exact ⟨_, rfl, q _ _ _ _ g (Stay.refl _ _ _) (.int _)⟩
  · cases h2
theorem snd_max2 : SndN K mg .froz (fun xs H Q => ∃ i j, xs = [.int i, .int j] ∧ Q (.int (if j > i then j else i)) H) gMax2 := by
  intro α F H m vs xs d g h e Q q
  obtain ⟨l, i, h1, h2, rfl⟩ := gI_some e
  have e1 := rkl_ints h h1
  subst e1
  split at h2
  · cases h2; exact ⟨_, _, rfl, q _ _ _ _ g (Stay.refl _ _ _) (.int _)⟩
  · cases h2
theorem snd_min2 : SndN K mg .froz (fun xs H Q => ∃ i j, xs = [.int i, .int j] ∧ Q (.int (if j < i then j else i)) H) gMin2 := by
  intro α F H m vs xs d g h e Q q
  obtain ⟨l, i, h1, h2, rfl⟩ := gI_some e
  have e1 := rkl_ints h h1
  subst e1
  split at h2
  · cases h2; exact ⟨_, _, rfl, q _ _ _ _ g (Stay.refl _ _ _) (.int _)⟩
  · cases h2
def gInt : Sto → List D → Option D := fun _ xs => match xs with
  | [.int i] => some (.int i)
  | [.bl b] => some (.int (if b then 1 else 0))
  | _ => none
theorem snd_int : SndN K mg .froz (fun xs H Q => (∃ i, xs = [.int i] ∧ Q (.int i) H) ∨ ∃ k, xs = [.bl k] ∧ Q (.int (if k then 1 else 0)) H) gInt := by
  intro α F H m vs xs d g h e Q q
  unfold gInt at e
  split at e
  · cases h with
    | cons h1 h2 =>
      cases h2
      have z := rb_int h1
      subst z
      cases e
      exact .inl ⟨_, rfl, q _ _ _ _ g (Stay.refl _ _ _) (.int _)⟩
  · cases h with
    | cons h1 h2 =>
      cases h2
      have z := rb_bl h1
      subst z
      cases e
      exact .inr ⟨_, rfl, q _ _ _ _ g (Stay.refl _ _ _) (.int _)⟩
  · cases e
/-- list(x), tuple(x) of a list or a tuple -/
def gListOf : Sto → List D → Option D := fun m xs => match xs with
  | [x] => (seqOf m x).map .lst
  | _ => none
theorem snd_listOf : SndN K mg .fre (fun xs H Q => ∃ p ys, xs = [.ref p] ∧ (SqL K H p ys ∨ SqT K H p ys) ∧ ∀ l, H l = none → Q (.ref l) (upd H l (.lst ys))) gListOf := by
  intro α F H m vs xs d g h e Q q
  unfold gListOf at e
  split at e
  · rename_i x0
    cases h with
    | cons h1 h2 =>
      cases h2
      cases z : seqOf m x0 with
      | none => rw [z] at e; cases e
      | some ds =>
        rw [z] at e
        cases e
        obtain ⟨a, ws, rfl, s, r⟩ := seq_at g h1 z
        refine ⟨a, ws, rfl, s, fun l hl => ?_⟩
        obtain ⟨g', s', k'⟩ := g.fre hl (.lst r)
        exact q _ _ _ _ g' s' k'
  · cases e
def gTupleOf : Sto → List D → Option D := fun m xs => match xs with
  | [x] => match dr m x with
    | some (.lst ds) => some (.tup ds)
    | some (.tup ds) => some (.tup ds)
    | _ => none
  | _ => none
theorem snd_tupleOf : SndN K mg .froz (fun xs H Q => ∃ p ys, xs = [.ref p] ∧ ((SqL K H p ys ∧ ∀ l, H l = none → Q (.ref l) (upd H l (.tup ys))) ∨ (SqT K H p ys ∧ Q (.ref p) H))) gTupleOf := by
  intro α F H m vs xs d g h e Q q
  unfold gTupleOf at e
  split at e
  · cases h with
    | cons h1 h2 =>
      cases h2
      split at e
      · rename_i ds e1
        obtain ⟨a, ws, rfl, s, r⟩ := cont_lst g h1 e1
        cases e
        refine ⟨a, ws, rfl, .inl ⟨s, fun l hl => ?_⟩⟩
        obtain ⟨F', g', s', k'⟩ := g.tup hl r
        exact q _ _ F' _ g' s' k'
      · rename_i ds e1
        obtain ⟨_, a, ws, rfl, s, s2, r⟩ := cont_tup g h1 e1
        cases e
        exact ⟨a, ws, rfl, .inr ⟨.inl (.inl s), q _ _ _ _ g (Stay.refl _ _ _) (.tup s2 r)⟩⟩
      · cases e
  · cases e
end
end Q
end
section
set_option Elab.async false
set_option linter.all false
set_option maxRecDepth 100000
set_option maxHeartbeats 2000000
namespace Q
open PySem L2 PyProof.Rows HT
/-! ### t[lo::-1] of a tuple, by the model's own text -/
section
variable {prog : Program} {w : World} {A : Around} {E : Value → Shared → Prop} {s : Shared}
def revN (n : Nat) : Option Int → Nat
  | none => n
  | some v => if v < 0 then (v + (n : Int) + 1).toNat else min (v.toNat + 1) n
theorem adjust_rev (lo : Option Int) (n : Nat) : Builtin.Slice.sliceAdjust lo none (-1) (n : Int) = (((revN n lo : Nat) : Int) - 1, -1) := by
  unfold Builtin.Slice.sliceAdjust
  have h1 : ((-1 : Int) < 0) := by omega
  simp only [h1, if_true]
  refine Prod.ext ?_ rfl
  cases lo with
  | none => rfl
  | some v =>
    show (if v < 0 then max (v + (n : Int)) (-1) else min v ((n : Int) - 1)) = (((if v < 0 then (v + (n : Int) + 1).toNat else min (v.toNat + 1) n) : Nat) : Int) - 1
    by_cases hv : v < 0
    · rw [if_pos hv, if_pos hv]; omega
    · rw [if_neg hv, if_neg hv]; omega
theorem places_rev (k : Nat) : Builtin.Slice.slicePlaces ((k : Int) - 1) (-1) (-1) = k := by
  unfold Builtin.Slice.slicePlaces
  have h1 : ¬ ((-1 : Int) > 0) := by omega
  simp only [h1, if_false]
  have e : (- -1 : Int) = 1 := by decide
  rw [e, Int.ediv_one]
  split <;> omega
theorem pick_rev (xs : Array Value) (k : Nat) (hk : k ≤ xs.size) : ((List.range k).filterMap fun (m : Nat) => xs[(((k : Int) - 1) + (m : Int) * (-1)).toNat]?) = (xs.toList.take k).reverse := by
  have e : ∀ m, m < k → xs[(((k : Int) - 1) + (m : Int) * (-1)).toNat]? = (xs.toList.take k).reverse[m]? := fun m hm => by
    have e1 : (((k : Int) - 1) + (m : Int) * (-1)).toNat = k - 1 - m := by omega
    rw [e1, List.getElem?_reverse (by rw [List.length_take, Array.length_toList]; omega), List.length_take, Array.length_toList, Nat.min_eq_left hk, List.getElem?_take, if_pos (by omega), Array.getElem?_toList]
  have hl : (xs.toList.take k).reverse.length = k := by rw [List.length_reverse, List.length_take, Array.length_toList, Nat.min_eq_left hk]
  generalize (xs.toList.take k).reverse = ys at e hl
  have : ∀ (j : Nat) (zs : List Value), zs.length = j → (∀ m, m < j → (fun (m : Nat) => xs[(((k : Int) - 1) + (m : Int) * (-1)).toNat]?) (k - j + m) = zs[m]?) → j ≤ k → (List.range' (k - j) j).filterMap (fun (m : Nat) => xs[(((k : Int) - 1) + (m : Int) * (-1)).toNat]?) = zs := by
    intro j
    induction j with
    | zero => intro zs h _ _; rw [List.length_eq_zero_iff.mp h]; rfl
    | succ j ih =>
      intro zs h hm hj
      cases zs with
      | nil => cases h
      | cons z zs =>
        rw [List.range'_succ, List.filterMap_cons]
        have h0 := hm 0 (by omega)
        rw [Nat.add_zero] at h0
        dsimp only at h0
        rw [h0]
        show z :: _ = z :: zs
        congr 1
        have e3 : k - (j + 1) + 1 = k - j := by omega
        rw [e3]
        refine ih zs (by simpa using h) (fun m hm' => ?_) (by omega)
        have := hm (m + 1) (by omega)
        have e4 : k - (j + 1) + (m + 1) = k - j + m := by omega
        rw [e4] at this
        rw [this]; simp
  have q := this k ys hl (fun m hm => by rw [Nat.sub_self, Nat.zero_add]; exact e m hm) (Nat.le_refl _)
  rw [Nat.sub_self] at q
  rw [List.range_eq_range']
  exact q
theorem sliceApplied_rev {sl : Addr} {vl vu vs : Value} {lo : Option Int} {n : Nat} {Q : Int × Int × Nat → Shared → Prop} (hs : s.heap.IsSliceOf sl vl vu vs) (pl : IsPart vl lo) (pu : IsPart vu none) (ps : IsPart vs (some (-1)))
    (h : Q ((((revN n lo : Nat) : Int) - 1), -1, revN n lo) s) : wpAny (model prog w) A (Builtin.Slice.sliceApplied (.ref sl) (pure (n : Int))) Q E s := by
  obtain ⟨os, hos, hcs, hds⟩ := id hs
  unfold Builtin.Slice.sliceApplied Builtin.Slice.sliceFields
  refine wpAny_bind (wpAny_bind (wpAny_field hos hds (x := vl) rfl (wpAny_bind (wpAny_field hos hds (x := vu) rfl (wpAny_bind (wpAny_field hos hds (x := vs) rfl (wpAny_pure ?_)))))))
  refine wpAny_bind (HT.slicePart_ ps ?_)
  show wpAny _ _ (if ((-1 : Int) == 0) = true then _ else _) _ _ s
  rw [if_neg (by decide)]
  refine wpAny_bind (HT.slicePart_ pl (wpAny_bind (HT.slicePart_ pu (wpAny_bind (wpAny_pure ?_)))))
  show wpAny _ _ (match Builtin.Slice.sliceAdjust lo none (-1) (n : Int) with | (lo, hi) => pure (lo, (-1 : Int), Builtin.Slice.slicePlaces lo hi (-1))) _ _ s
  rw [adjust_rev lo n]
  show wpAny _ _ (pure ((((revN n lo : Nat) : Int) - 1), (-1 : Int), Builtin.Slice.slicePlaces (((revN n lo : Nat) : Int) - 1) (-1) (-1))) _ _ s
  rw [places_rev]
  exact wpAny_pure h
theorem revN_le (n : Nat) (lo : Option Int) (h : ∀ v, lo = some v → v < (n : Int) ∨ 0 ≤ v) : revN n lo ≤ n := by
  cases lo with
  | none => exact Nat.le_refl _
  | some v =>
    show (if v < 0 then (v + (n : Int) + 1).toNat else min (v.toNat + 1) n) ≤ n
    split <;> omega
theorem getItem_tuple_rev {t sl : Addr} {items : Array Value} {vl vu vs : Value} {lo : Option Int} {Q : Value → Shared → Prop} (ht : IsTup s.heap t items) (hs : s.heap.IsSliceOf sl vl vu vs) (pl : IsPart vl lo) (pu : IsPart vu none) (ps : IsPart vs (some (-1)))
    (h : Q (.ref s.heap.objs.size) { s with heap := s.heap.push { cls := .type "tuple", data := .seq ((items.toList.take (revN items.size lo)).reverse).toArray } })
    (hsz : items.size ≤ sizeLine) : wpAny (model prog w) A (getItem (.ref t) (.ref sl)) Q E s := by
  have hle : revN items.size lo ≤ items.size := by
    cases lo with
    | none => exact Nat.le_refl _
    | some v =>
      show (if v < 0 then (v + (items.size : Int) + 1).toNat else min (v.toNat + 1) items.size) ≤ items.size
      split <;> omega
  have htake : sizeOk (.seq ((items.toList.take (revN items.size lo)).reverse).toArray) := by
    show ((items.toList.take (revN items.size lo)).reverse).toArray.size ≤ sizeLine
    rw [List.size_toArray, List.length_reverse, List.length_take, Array.length_toList]
    omega
  obtain ⟨os, hos, hcs, hds⟩ := id hs
  have hTs : s.TypeIs (.ref sl) "slice" := ⟨os, hos, hcs⟩
  unfold getItem
  try with_reducible refine wpAny_holding ?_
  first | refine wpAny_bind (wpAny_pure ?_) | skip
  refine wpAny_bind (wpAny_sequenceKey ht.typeIs (by decide) ?_)
  refine wpAny_bind (wpAny_callSpecial?_slot (name := Str.ofString "__getitem__") ht.typeIs PyProof.Rows.slot_tuple_getitem
    (wpAny_call_entry PyProof.Rows.slot_tuple_getitem ht.typeIs entry_tuple_getitem ?_ (args_tuple_getitem _ _)))
  show wpAny _ _ (Builtin.Tuple.tupleItemsOf (.ref t) >>= _) _ _ s
  refine wpAny_bind (tupleItemsOf_ ht ?_)
  refine wpAny_bind (wpAny_typeOf hTs ?_)
  rw [if_pos (by decide)]
  refine wpAny_bind (sliceApplied_rev hs pl pu ps ?_)
  have hno : ¬ (((((revN items.size lo : Nat) : Int) - 1) == 0 && (-1 : Int) == 1 && (revN items.size lo) == items.size) = true) := by
    intro q
    rw [Bool.and_eq_true, Bool.and_eq_true] at q
    exact absurd q.1.2 (by decide)
  show wpAny _ _ (if ((((revN items.size lo : Nat) : Int) - 1) == 0 && (-1 : Int) == 1 && (revN items.size lo) == items.size) = true then _ else _) _ _ s
  rw [if_neg hno, pick_rev items _ hle]
  first
    | exact wpAny_bind (m := Builtin.Tuple.tupleExact _) (wpAny_newObj_type (wpAny_pure ⟨_, rfl, wpAny_pure h⟩) htake)
    | exact wpAny_bind (m := Builtin.Tuple.tupleExact _) (wpAny_newObj_type (wpAny_bind (wpAny_pure (wpAny_pure ⟨_, rfl, wpAny_pure h⟩))) htake)
    | exact wpAny_bind (wpAny_bind (m := Builtin.Tuple.tupleExact _) (wpAny_newObj_type (wpAny_pure (wpAny_pure ⟨_, rfl, wpAny_pure h⟩)) htake))
    | exact wpAny_bind (wpAny_bind (m := Builtin.Tuple.tupleExact _) (wpAny_newObj_type (wpAny_pure ⟨_, rfl, wpAny_pure h⟩) htake))
end
/-- x[lo::-1] of a list (lo left out) or a tuple -/
def rRev (K : PySem.W.Frag) : V → Option Int → Hp → VK → Prop := fun x lo H Q => ∃ a xs, x = .ref a ∧ ((lo = none ∧ SqL K H a xs ∧ ∀ p, H p = none → Q (.ref p) (upd H p (.lst xs.reverse))) ∨ (SqT K H a xs ∧ ∀ p, H p = none → Q (.ref p) (upd H p (.tup (xs.take (revN xs.length lo)).reverse))))
def tRev (K : PySem.W.Frag) (te : TE) (tl : TO) : TE := fun σ H Q => te σ H fun x H1 => tl σ H1 fun lo H2 => rRev K x lo H2 Q
theorem pe_rev {X : Cx} {e : Expr} {te : TE} {lo : Option Expr} {tl : TO} {k : Nat} {p1 p2 p3 pos : Pos} (he : PE X e te) (hl : PO X lo tl) : PE X (.Subscript e (.Slice lo none (some (.UnaryOp .USub (.Constant (.int 1) k p1) p2)) p3) pos) (tRev X.K te tl) := by
  refine ⟨fun pins s σ H Q I h => ?_⟩
  refine Subscript_ (thn (he.run pins s σ H _ I h) fun v s1 ⟨x, H1, I1, r1, q1⟩ => ?_)
  have hst : PO X (some (.UnaryOp .USub (.Constant (.int 1) k p1) p2)) (tPart (tUn (rU fun i => .int (-i)) (tC (.int 1)))) := po_some (pe_un un_neg pe_int)
  refine wpAny_Slice (thn (hl.run pins s1 σ H1 _ I1 q1) fun vl s2 ⟨l, H2, I2, pl, q2⟩ => ?_)
  refine thn (po_none.run pins s2 σ H2 (fun o H3 => o = none ∧ H3 = H2) I2 ⟨rfl, rfl⟩) fun vu s3 ⟨u, H3, I3, pu, eu, e3⟩ => ?_
  subst eu e3
  refine thn (hst.run pins s3 σ H3 (fun o H4 => o = some (-1) ∧ H4 = H3) I3 ⟨1, rfl, -1, rfl, rfl, rfl⟩) fun vs s4 ⟨o, H4, I4, ps, eo, e4⟩ => ?_
  subst eo e4
  obtain ⟨a, xs, ex, hx⟩ := q2
  subst ex
  cases r1
  have I5 : Inv X pins σ H4 { s4 with heap := s4.heap.push { cls := .type "slice", data := .fields #[vl, vu, vs] } } := I4.kept (t' := s4.toks) fun b ob q => Heap.get?_push_of_some _ q
  show wpAny (model X.prog X.w) X.A (subscriptTail e (.Slice lo none (some (.UnaryOp .USub (.Constant (.int 1) k p1) p2)) p3) (.ref a) (.ref s4.heap.objs.size)) (EP X pins σ Q) X.xe { s4 with heap := s4.heap.push { cls := .type "slice", data := .fields #[vl, vu, vs] } }
  rcases hx with ⟨el, hx, q⟩ | ⟨hx, q⟩
  · subst el
    obtain ⟨its, r, ht, hz⟩ := I5.list hx
    have hlen := r.length
    refine tail_any (ops := [.ref a, .ref s4.heap.objs.size]) ht.isList.typeIs (PySem.slot_list_getitem.lookup) ?_ (by with_unfolding_all rfl)
    refine wpAny_getItem_list_slice ht.isList (Heap.IsSliceOf.new _ vl vu vs) pl pu ps (by decide) ?_ (by rw [List.size_toArray]; omega)
    rw [PySem.W.krv_pick]
    refine ⟨.ref _, _, I5.laid (t' := s4.toks) (o := .lst xs.reverse) (fun b ob q => Heap.get?_push_of_some _ q) (Nat.le_refl _) ?_, rfl, q _ (I5.hok.fresh (Nat.le_refl _))⟩
    exact ⟨by rw [List.length_reverse]; exact hz, _, 0, r.reverse, Heap.get?_push_size _ rfl⟩
  · obtain ⟨its, r, ht, hz⟩ := I5.tuple hx
    have hlen := r.length
    refine tail_any (ops := [.ref a, .ref s4.heap.objs.size]) ht.typeIs (PyProof.Rows.slot_tuple_getitem.lookup) ?_ (by with_unfolding_all rfl)
    refine getItem_tuple_rev ht (Heap.IsSliceOf.new _ vl vu vs) pl pu ps ?_ (by rw [List.size_toArray]; omega)
    have e0 : its.toArray.size = xs.length := by rw [List.size_toArray, ← hlen]
    rw [e0]
    refine ⟨.ref _, _, I5.laid (t' := s4.toks) (o := .tup (xs.take (revN xs.length l)).reverse) (fun b ob q => Heap.get?_push_of_some _ q) (Nat.le_refl _) ?_, rfl, q _ (I5.hok.fresh (Nat.le_refl _))⟩
    have hll : (xs.take (revN xs.length l)).reverse.length ≤ xs.length := by rw [List.length_reverse, List.length_take]; exact Nat.min_le_right _ _
    exact ⟨Nat.le_trans hll hz, _, (r.take _).reverse, IsTup.new _ _⟩
/-! ### parts -/
abbrev RlO : Hp → List Addr → Hp → Hp → Option Int → Option Int → Prop := fun _ _ _ _ b c => b = c
theorem back_O : BackR RlO := fun _ _ _ _ _ _ _ _ _ _ _ _ h => h
abbrev Od := Env → Sto → Res (Option Int)
structure QO (X : Cx) (W : WX) (e : Option Expr) (f : Od) : Prop where
  ex : ∃ t, PO X e t ∧ Snd X.K X.mg W RlO t f
def oN : Od := fun _ m => .ok none m
def oS (f : Ed) : Od := fun r m => (f r m).bind fun x m1 => match x with
  | .int i => .ok (some i) m1
  | _ => .stuck
def cutD (xs : List D) (lo hi : Option Int) : List D := (xs.drop (HT.sIx xs.length 0 lo)).take (HT.sIx xs.length xs.length hi - HT.sIx xs.length 0 lo)
def gSl (x : D) (lo hi : Option Int) : Option D := match x with
  | .tup xs => some (.tup (cutD xs lo hi))
  | .lst xs => some (.lst (cutD xs lo hi))
  | .str z => if z.length ≤ SZ then some (.str (cutS z lo hi)) else none
  | _ => none
def eSl (f : Ed) (a b : Od) : Ed := fun r m => (f r m).bind fun x m1 => (a r m1).bind fun lo m2 => (b r m2).bind fun hi m3 => match dr m3 x with
  | some d => lift (gSl d lo hi) m3
  | none => .stuck
def gRv (x : D) (lo : Option Int) : Option D := match x with
  | .tup xs => some (.tup (xs.take (revN xs.length lo)).reverse)
  | .lst xs => match lo with
    | none => some (.lst xs.reverse)
    | some _ => none
  | _ => none
def eRv (f : Ed) (a : Od) : Ed := fun r m => (f r m).bind fun x m1 => (a r m1).bind fun lo m2 => match dr m2 x with
  | some d => lift (gRv d lo) m2
  | none => .stuck
section
variable {X : Cx} {W : WX}
theorem qo_none : QO X W none oN := ⟨_, po_none, fun e Λ α F σ H r m S => At.ret (Rl := RlO) S rfl⟩
theorem qo_some {e : Expr} {f : Ed} (h : QE X W .froz e f) : QO X W (some e) (oS f) := by
  obtain ⟨t, h1, h2⟩ := h.ex
  refine ⟨_, po_some h1, fun e Λ α F σ H r m S => ?_⟩
  refine At.bind (t := t σ H) (u := fun x H1 Q => ∃ i, x = .int i ∧ Q (some i) H1) (Rl' := RlO) back_O (h2 e Λ α F σ H r m S) fun x m1 _ v α1 F1 H1 S1 s1 k1 => ?_
  cases x with
  | int i =>
    have z := k1.int_inv
    subst z
    exact fun Q w => ⟨i, rfl, w _ _ _ _ S1 (Stay.refl _ _ _) rfl⟩
  | _ => trivial
theorem cut_rep {K : PySem.W.Frag} {mg : Str → Option Value} {α : List Addr} {F : Hp} {vs : List V} {ds : List D} (r : RepL K mg α F vs ds) (lo hi : Option Int) : RepL K mg α F (cutV vs lo hi) (cutD ds lo hi) := by
  unfold cutV cutD
  rw [r.length]
  exact (r.drop _).take _
theorem qe_slice {e : Expr} {lo hi : Option Expr} {f : Ed} {a b : Od} {p2 pos : Pos} (he : QE X W .bor e f) (hl : QO X W lo a) (hh : QO X W hi b) : QE X W .froz (.Subscript e (.Slice lo hi none p2) pos) (eSl f a b) := by
  obtain ⟨t, h1, h2⟩ := he.ex
  obtain ⟨tl, l1, l2⟩ := hl.ex
  obtain ⟨th, u1, u2⟩ := hh.ex
  refine ⟨_, pe_slice (L2.SlR.or sl_tupA (L2.SlR.or sl_list sl_str)) h1 l1 u1, fun e Λ α F σ H r m S => ?_⟩
  refine At.bind (t := t σ H) (u := fun x H1 Q => tl σ H1 fun l H2 => th σ H2 fun u H3 => (rSlA X.K x l u H3 Q ∨ rSlL X.K x l u H3 Q ∨ rSlS x l u H3 Q)) (Rl' := RlK X.K X.mg .froz) back_K (h2 e Λ α F σ H r m S) fun x m1 _ v α1 F1 H1 S1 s1 k1 => ?_
  refine At.bind (t := tl σ H1) (u := fun l H2 Q => th σ H2 fun u H3 => (rSlA X.K v l u H3 Q ∨ rSlL X.K v l u H3 Q ∨ rSlS v l u H3 Q)) (Rl' := RlK X.K X.mg .froz) back_K (l2 e Λ α1 F1 σ H1 r m1 S1) fun lo m2 _ l α2 F2 H2 S2 s2 k2 => ?_
  refine At.bind (t := th σ H2) (u := fun u H3 Q => (rSlA X.K v l u H3 Q ∨ rSlL X.K v l u H3 Q ∨ rSlS v l u H3 Q)) (Rl' := RlK X.K X.mg .froz) back_K (u2 e Λ α2 F2 σ H2 r m2 S2) fun hi m3 _ u α3 F3 H3 S3 s3 k3 => ?_
  subst k2 k3
  have k1 := (k1.stay s2).stay s3
  cases e1 : dr m3 x with
  | none => trivial
  | some d =>
    cases d with
    | tup ds =>
      obtain ⟨_, a, ws, rfl, s, sF, r⟩ := cont_tup S3.g k1 e1
      refine At.op S3 fun Q w => .inl ⟨a, ws, rfl, .inl (.inl s), fun hw => ?_, fun hw p hp => ?_⟩
      · refine w _ _ _ _ S3.g (Stay.refl _ _ _) ?_
        have e2 : cutD ds l u = ds := by
          unfold cutD
          rw [← r.length, hw.1, hw.2, r.length]
          simp
        rw [e2]
        exact .tup sF r
      · obtain ⟨F', g', s', rp⟩ := S3.g.tup hp (cut_rep r l u)
        exact w _ _ F' _ g' s' rp
    | lst ds =>
      obtain ⟨a, ws, rfl, s, r⟩ := cont_lst S3.g k1 e1
      refine At.op S3 fun Q w => .inr (.inl ⟨a, ws, rfl, s, fun p hp => ?_⟩)
      obtain ⟨F', g', s', rp⟩ := S3.g.con hp (cut_rep r l u)
      exact w _ _ F' _ g' s' rp
    | str z =>
      have q := dr_scal k1 S3.g e1 trivial
      subst q
      have q := rb_str k1
      subst q
      show At _ _ _ _ _ _ _ _ _ _ _ _ (lift (if z.length ≤ SZ then some (.str (cutS z l u)) else none) m3)
      split
      · rename_i hz
        exact fun Q w => .inr (.inr ⟨z, rfl, sz hz, w _ _ _ _ S3 (Stay.refl _ _ _) (.str _)⟩)
      · trivial
    | _ => trivial
theorem qe_rev {e : Expr} {lo : Option Expr} {f : Ed} {a : Od} {k : Nat} {p1 p2 p3 pos : Pos} (he : QE X W .bor e f) (hl : QO X W lo a) : QE X W .froz (.Subscript e (.Slice lo none (some (.UnaryOp .USub (.Constant (.int 1) k p1) p2)) p3) pos) (eRv f a) := by
  obtain ⟨t, h1, h2⟩ := he.ex
  obtain ⟨tl, l1, l2⟩ := hl.ex
  refine ⟨_, pe_rev h1 l1, fun e Λ α F σ H r m S => ?_⟩
  refine At.bind (t := t σ H) (u := fun x H1 Q => tl σ H1 fun l H2 => rRev X.K x l H2 Q) (Rl' := RlK X.K X.mg .froz) back_K (h2 e Λ α F σ H r m S) fun x m1 _ v α1 F1 H1 S1 s1 k1 => ?_
  refine At.bind (t := tl σ H1) (u := fun l H2 Q => rRev X.K v l H2 Q) (Rl' := RlK X.K X.mg .froz) back_K (l2 e Λ α1 F1 σ H1 r m1 S1) fun lo m2 _ l α2 F2 H2 S2 s2 k2 => ?_
  subst k2
  have k1 := k1.stay s2
  cases e1 : dr m2 x with
  | none => trivial
  | some d =>
    cases d with
    | tup ds =>
      obtain ⟨_, a, ws, rfl, s, sF, r⟩ := cont_tup S2.g k1 e1
      refine At.op S2 fun Q w => ⟨a, ws, rfl, .inr ⟨.inl (.inl s), fun p hp => ?_⟩⟩
      have rr : RepL X.K X.mg α2 F2 (ws.take (revN ws.length l)).reverse (ds.take (revN ds.length l)).reverse := by rw [r.length]; exact (r.take _).reverse
      obtain ⟨F', g', s', rp⟩ := S2.g.tup hp rr
      exact w _ _ F' _ g' s' rp
    | lst ds =>
      obtain ⟨a, ws, rfl, s, r⟩ := cont_lst S2.g k1 e1
      cases l with
      | some i => trivial
      | none =>
        refine At.op S2 fun Q w => ⟨a, ws, rfl, .inl ⟨rfl, s, fun p hp => ?_⟩⟩
        obtain ⟨F', g', s', rp⟩ := S2.g.con hp (r.reverse)
        exact w _ _ F' _ g' s' rp
    | _ => trivial
end
end Q
end
section
set_option Elab.async false
set_option linter.all false
set_option maxRecDepth 100000
set_option maxHeartbeats 2000000
namespace Q
open PySem L2 PySem.Spec PyProof.Rows

/-! ### keys, tables -/
def D.key : D → Option Key
  | .int i => some (.inl i)
  | .str x => some (.inr x)
  | _ => none
def D.keys : List D → Option (List Key)
  | [] => some []
  | x :: xs => match D.key x, D.keys xs with
    | some a, some b => some (a :: b)
    | _, _ => none
def keyD : Key → D
  | .inl i => .int i
  | .inr x => .str x
section
variable {κ : Type} [DecidableEq κ]
def getA (kvs : List (κ × D)) (k : κ) : Option D := (kvs.find? fun kv => decide (kv.1 = k)).map (·.2)
def putA (kvs : List (κ × D)) (k : κ) (v : D) : List (κ × D) := if (kvs.any fun kv => decide (kv.1 = k)) = true then kvs.map (fun kv => if kv.1 = k then (kv.1, v) else kv) else kvs ++ [(k, v)]
def dropA (kvs : List (κ × D)) (k : κ) : List (κ × D) := kvs.filter fun kv => decide (kv.1 ≠ k)
/-- tables that go together -/
inductive TR (R : V → D → Prop) : List (κ × V) → List (κ × D) → Prop where
  | nil : TR R [] []
  | cons {k : κ} {v : V} {d : D} {vs : List (κ × V)} {ds : List (κ × D)} : R v d → TR R vs ds → TR R ((k, v) :: vs) ((k, d) :: ds)
variable {R : V → D → Prop}
theorem TR.get {vs : List (κ × V)} {ds : List (κ × D)} (h : TR R vs ds) (k : κ) : match getA ds k with
  | none => valV vs k = none
  | some d => ∃ v, valV vs k = some v ∧ R v d := by
  induction h with
  | nil => rfl
  | @cons k' v d vs ds h t ih =>
    by_cases e : k' = k
    · subst e
      have e1 : getA ((k', d) :: ds) k' = some d := by simp [getA, List.find?_cons]
      rw [e1]
      exact ⟨v, valV_pos (p := (k', v)) rfl, h⟩
    · have e1 : getA ((k', d) :: ds) k = getA ds k := by simp [getA, List.find?_cons, e]
      have e2 : valV ((k', v) :: vs) k = valV vs k := valV_neg (p := (k', v)) e
      rw [e1, e2]; exact ih
theorem TR.getS {vs : List (κ × V)} {ds : List (κ × D)} (h : TR R vs ds) {k : κ} {d : D} (e : getA ds k = some d) : ∃ v, valV vs k = some v ∧ R v d := by
  have q := h.get k
  rw [e] at q; exact q
theorem TR.isS {vs : List (κ × V)} {ds : List (κ × D)} (h : TR R vs ds) (k : κ) : (valV vs k).isSome = (getA ds k).isSome := by
  have q := h.get k
  cases e : getA ds k with
  | none => rw [e] at q; rw [q]; rfl
  | some d => rw [e] at q; obtain ⟨v, q, _⟩ := q; rw [q]; rfl
theorem TR.any {vs : List (κ × V)} {ds : List (κ × D)} (h : TR R vs ds) (k : κ) : (vs.any fun kv => decide (kv.1 = k)) = (ds.any fun kv => decide (kv.1 = k)) := by
  induction h with
  | nil => rfl
  | cons h t ih => rw [List.any_cons, List.any_cons, ih]
theorem TR.map {vs : List (κ × V)} {ds : List (κ × D)} (h : TR R vs ds) (k : κ) {v : V} {d : D} (r : R v d) : TR R (vs.map fun kv => if kv.1 = k then (kv.1, v) else kv) (ds.map fun kv => if kv.1 = k then (kv.1, d) else kv) := by
  induction h with
  | nil => exact .nil
  | @cons k' v' d' vs ds h t ih =>
    rw [List.map_cons, List.map_cons]
    by_cases e : k' = k
    · rw [if_pos e, if_pos e]; exact .cons r ih
    · rw [if_neg e, if_neg e]; exact .cons h ih
theorem TR.app {vs ws : List (κ × V)} {ds es : List (κ × D)} (h : TR R vs ds) (h' : TR R ws es) : TR R (vs ++ ws) (ds ++ es) := by
  induction h with
  | nil => exact h'
  | cons r t ih => exact .cons r ih
theorem TR.put {vs : List (κ × V)} {ds : List (κ × D)} (h : TR R vs ds) (k : κ) {v : V} {d : D} (r : R v d) : TR R (putK vs k v) (putA ds k d) := by
  unfold putK putA
  rw [h.any k]
  by_cases e : (ds.any fun kv => decide (kv.1 = k)) = true
  · rw [if_pos e, if_pos e]; exact h.map k r
  · rw [if_neg e, if_neg e]; exact h.app (.cons r .nil)
theorem TR.drop {vs : List (κ × V)} {ds : List (κ × D)} (h : TR R vs ds) (k : κ) : TR R (dropK vs k) (dropA ds k) := by
  unfold dropK dropA
  induction h with
  | nil => exact .nil
  | @cons k' v' d' vs ds h t ih =>
    rw [List.filter_cons, List.filter_cons]
    by_cases e : k' = k
    · have a : ¬ decide (k' ≠ k) = true := by simp [e]
      rw [if_neg a, if_neg a]; exact ih
    · have a : decide (k' ≠ k) = true := by simp [e]
      rw [if_pos a, if_pos a]; exact .cons h ih
theorem TR.length {vs : List (κ × V)} {ds : List (κ × D)} (h : TR R vs ds) : vs.length = ds.length := by
  induction h with
  | nil => rfl
  | cons r t ih => exact congrArg (· + 1) ih
theorem TR.at {vs : List (κ × V)} {ds : List (κ × D)} (h : TR R vs ds) {i : Nat} {k : κ} {v : V} (e : vs[i]? = some (k, v)) : ∃ d, ds[i]? = some (k, d) ∧ R v d := by
  induction h generalizing i with
  | nil => simp at e
  | @cons k' v' d' vs ds h t ih =>
    cases i with
    | zero => simp at e; obtain ⟨rfl, rfl⟩ := e; exact ⟨d', rfl, h⟩
    | succ i => simp at e; obtain ⟨d, h1, h2⟩ := ih e; exact ⟨d, by simpa using h1, h2⟩
end
section
variable {K : PySem.W.Frag} {mg : Str → Option Value} {α α' : List Addr} {F F' H H' H0 : Hp} {m : Sto} {v : V} {x : D} {k : Kd}
theorem RepK.tr : ∀ {vs : List (Key × V)} {ds : List (Key × D)}, RepK K mg α F vs ds → TR (fun v d => Rep K mg α F v d) vs ds
  | _, _, .nil => .nil
  | _, _, .cons h t => .cons h (RepK.tr t)
theorem RepT.tr : ∀ {vs : List (List Key × V)} {ds : List (List Key × D)}, RepT K mg α F vs ds → TR (fun v d => Rep K mg α F v d) vs ds
  | _, _, .nil => .nil
  | _, _, .cons h t => .cons h (RepT.tr t)
theorem TR.repK {vs : List (Key × V)} {ds : List (Key × D)} (h : TR (fun v d => Rep K mg α F v d) vs ds) : RepK K mg α F vs ds := by
  induction h with
  | nil => exact .nil
  | cons r t ih => exact .cons r ih
theorem TR.repT {vs : List (List Key × V)} {ds : List (List Key × D)} (h : TR (fun v d => Rep K mg α F v d) vs ds) : RepT K mg α F vs ds := by
  induction h with
  | nil => exact .nil
  | cons r t ih => exact .cons r ih
theorem rb_key {y : D} {c : Key} (h : RB K mg α F H v y) (e : y.key = some c) : v = kV c := by
  cases y with
  | int i => cases e; exact rb_int h
  | str i => cases e; exact rb_str h
  | _ => cases e
theorem rep_keys : ∀ {vs : List V} {ds : List D} {ks : List Key}, RepL K mg α F vs ds → D.keys ds = some ks → vs = ks.map kV
  | _, _, _, .nil, e => by cases e; rfl
  | _, _, ks, .cons (d := d) (ds := ds) h t, e => by
    unfold D.keys at e
    cases z : D.key d with
    | none => rw [z] at e; cases e
    | some a =>
      cases z' : D.keys ds with
      | none => rw [z, z'] at e; cases e
      | some b =>
        rw [z, z'] at e
        cases e
        rw [rb_key (H := F) (.inl h) z, rep_keys t z']; rfl
theorem rb_keys {ys : List D} {ks : List Key} (g : G K mg α F H m) (h : RB K mg α F H v (.tup ys)) (e : D.keys ys = some ks) : ∃ b, v = .ref b ∧ H b = some (.tup (ks.map kV)) := by
  obtain ⟨_, a, vs, rfl, s1, f1, r1⟩ := cont_tup g h rfl
  rw [rep_keys r1 e] at s1
  exact ⟨a, rfl, s1⟩
/-- what stands under a key; outer none: no dict or no key -/
def lookD (m : Sto) (x y : D) : Option (Option D) := match dr m x, y with
  | some (.dK kvs), y => y.key.map (getA kvs)
  | some (.dT kvs), .tup ys => (D.keys ys).map (getA kvs)
  | _, _ => none
theorem look_get {w : V} {y : D} {o : Option D} (g : G K mg α F H m) (h1 : RB K mg α F H v x) (h2 : RB K mg α F H w y) (e : lookD m x y = some o) : ∃ a o', v = .ref a ∧ DGet H a w o' ∧ ((o = none ∧ o' = none) ∨ ∃ d u, o = some d ∧ o' = some u ∧ Rep K mg α F u d) := by
  have go : ∀ {κ : Type} [DecidableEq κ] {vs : List (κ × V)} {ds : List (κ × D)} (r : TR (fun v d => Rep K mg α F v d) vs ds) (c : κ), (getA ds c = none ∧ valV vs c = none) ∨ ∃ d u, getA ds c = some d ∧ valV vs c = some u ∧ Rep K mg α F u d := by
    intro κ _ vs ds r c
    have q := r.get c
    cases z : getA ds c with
    | none => rw [z] at q; exact .inl ⟨rfl, q⟩
    | some d => rw [z] at q; obtain ⟨u, q1, q2⟩ := q; exact .inr ⟨d, u, rfl, q1, q2⟩
  unfold lookD at e
  split at e
  · rename_i e1
    obtain ⟨a, vs, rfl, s1, r1⟩ := cont_dK g h1 e1
    obtain ⟨c, z, e⟩ := Option.map_eq_some_iff.mp e
    · cases e
      have := rb_key h2 z
      subst this
      exact ⟨a, _, rfl, .inl ⟨vs, c, s1, rfl, rfl⟩, go r1.tr c⟩
  · rename_i ys e1
    obtain ⟨a, vs, rfl, s1, r1⟩ := cont_dT g h1 e1
    cases z : D.keys ys with
    | none => rw [z] at e; cases e
    | some c =>
      rw [z] at e
      cases e
      obtain ⟨b, rfl, hb⟩ := rb_keys g h2 z
      exact ⟨a, _, rfl, .inr ⟨vs, c, b, s1, rfl, hb, rfl⟩, go r1.tr c⟩
  · cases e
def rDGet : R2 := fun x y H Q => ∃ a v, x = .ref a ∧ DGet H a y (some v) ∧ Q v H
def rDIn (neg : Bool) : R2 := fun x y H Q => ∃ a o, y = .ref a ∧ DGet H a x o ∧ Q (.bl (if neg = true then !o.isSome else o.isSome)) H
end
section
variable {X : Cx}
theorem ixR_dict (hu : X.A.units + 1 < cLine) : IxR X rDGet := by
  intro value slice pins s σ H x y v u Q I rx ry h hs
  obtain ⟨a, w, rfl, g, q⟩ := h
  obtain rfl : v = Value.ref a := rx
  have hT := dict_typeIs I g
  have h2 : wpAny (model X.prog X.w) X.A (getItem (.ref a) u) (EP X pins σ Q) X.xe s := d_getItem hu I g ry fun w' s3 I3 rw' => ⟨w, H, I3, rw', q⟩
  unfold subscriptTail
  refine wpAny_bind ?_
  rw [getitemInPython_of_ne hT.not_modules]
  refine wpAny_bind (wpAny_specialOf hT PySem.F.slot_dict_getitem.lookup ?_)
  have fin : wpAny (model X.prog X.w) X.A (subscripted slice false (.ref a) u) (fun r s₃ => wpAny (model X.prog X.w) X.A (letTemporaryGo value (.ref a) r >>= fun _ => pure r) (EP X pins σ Q) X.xe s₃) X.xe s := by
    rw [hs]
    exact wpAny_operating (wpAny_mono h2 (fun r s₃ h₃ => wpAny_bind (wpAny_letTemporaryGo (wpAny_pure h₃))) fun _ _ x => x)
  first
    | exact wpAny_pure (wpAny_bind fin)
    | exact wpAny_bind (wpAny_pure (wpAny_bind fin))
    | exact wpAny_bind fin
theorem op_dIn (hu : X.A.units + 1 < cLine) : OpR X (compareOp .In) (rDIn false) := by
  intro pins s σ H x y v u Q I rx ry h
  obtain ⟨a, o, rfl, g, q⟩ := h
  obtain rfl : u = Value.ref a := ry
  exact d_in hu I g rx fun s3 I3 => ⟨.bl o.isSome, H, I3, rfl, q⟩
theorem op_dNotIn (hu : X.A.units + 1 < cLine) : OpR X (compareOp .NotIn) (rDIn true) := by
  intro pins s σ H x y v u Q I rx ry h
  obtain ⟨a, o, rfl, g, q⟩ := h
  obtain rfl : u = Value.ref a := ry
  exact d_notIn hu I g rx fun s3 I3 => ⟨.bl (!o.isSome), H, I3, rfl, q⟩
end
/-- x[y], of anything -/
def gGet : Sto → D → D → Option D := fun m x y => match dr m x with
  | some (.dK _) => (lookD m x y).bind id
  | some (.dT _) => (lookD m x y).bind id
  | _ => gIx m x y
def rGet (K : PySem.W.Frag) : R2 := fun x y H Q => rIx K x y H Q ∨ rDGet x y H Q
theorem ix_get {X : Cx} (hu : X.A.units + 64 < cLine) : IxR X (rGet X.K) := ix_seq.or (ixR_dict (by omega))
/-- x in y, of anything -/
def gInA (neg : Bool) : Sto → D → D → Option D := fun m x y => match dr m y with
  | some (.dK _) => (lookD m y x).map fun o => .bl (if neg = true then !o.isSome else o.isSome)
  | some (.dT _) => (lookD m y x).map fun o => .bl (if neg = true then !o.isSome else o.isSome)
  | _ => gIn neg m x y
def rInA (K : PySem.W.Frag) (neg : Bool) : R2 := fun x y H Q => rInD K neg x y H Q ∨ rDIn neg x y H Q
theorem op_inA {X : Cx} (hu : X.A.units + 64 < cLine) : OpR X (compareOp .In) (rInA X.K false) := OpR.or (op_inD hu) (op_dIn (by omega))
theorem op_ninA {X : Cx} (hu : X.A.units + 64 < cLine) : OpR X (compareOp .NotIn) (rInA X.K true) := OpR.or (op_ninD hu) (op_dNotIn (by omega))
section
variable {K : PySem.W.Frag} {mg : Str → Option Value}
theorem snd_get : Snd2 K mg .froz (rGet K) gGet := by
  have go : ∀ {α F H m v w} {x y d : D}, G K mg α F H m → RB K mg α F H v x → RB K mg α F H w y → (lookD m x y).bind id = some d → ∀ Q : VK, (∀ u α' F' H', G K mg α' F' H' m → Stay α F H α' F' H' → RK K mg H α' F' H' u d .froz → Q u H') → rGet K v w H Q := by
    intro α F H m v w x y d g h1 h2 e Q q
    cases z : lookD m x y with
    | none => rw [z] at e; cases e
    | some o =>
      rw [z] at e
      cases o with
      | none => cases e
      | some d' =>
        cases e
        obtain ⟨a, o', rfl, k1, ⟨k2, _⟩ | ⟨_, u, k3, rfl, k2⟩⟩ := look_get g h1 h2 z
        · cases k2
        cases k3
        exact .inr ⟨a, u, rfl, k1, q _ _ _ _ g (Stay.refl _ _ _) k2⟩
  intro α F H m v w x y d g h1 h2 e Q q
  unfold gGet at e
  split at e
  · exact go g h1 h2 e Q q
  · exact go g h1 h2 e Q q
  · exact .inl (snd_ix _ _ _ _ _ _ _ _ _ g h1 h2 e Q q)
theorem snd_inA {neg : Bool} : Snd2 K mg .froz (rInA K neg) (gInA neg) := by
  have go : ∀ {α F H m v w} {x y d : D}, G K mg α F H m → RB K mg α F H v x → RB K mg α F H w y → ((lookD m y x).map fun o => D.bl (if neg = true then !o.isSome else o.isSome)) = some d → ∀ Q : VK, (∀ u α' F' H', G K mg α' F' H' m → Stay α F H α' F' H' → RK K mg H α' F' H' u d .froz → Q u H') → rInA K neg v w H Q := by
    intro α F H m v w x y d g h1 h2 e Q q
    cases z : lookD m y x with
    | none => rw [z] at e; cases e
    | some o =>
      rw [z] at e
      cases e
      obtain ⟨a, o', rfl, k1, k2⟩ := look_get g h2 h1 z
      have e' : o'.isSome = o.isSome := by
        rcases k2 with ⟨rfl, rfl⟩ | ⟨_, u, rfl, rfl, _⟩
        · rfl
        · rfl
      refine .inr ⟨a, o', rfl, k1, ?_⟩
      rw [e']
      exact q _ _ _ _ g (Stay.refl _ _ _) (.bl _)
  intro α F H m v w x y d g h1 h2 e Q q
  unfold gInA at e
  split at e
  · exact go g h1 h2 e Q q
  · exact go g h1 h2 e Q q
  · exact .inl (snd_in _ _ _ _ _ _ _ _ _ g h1 h2 e Q q)
end
end Q
end
section
set_option Elab.async false
set_option linter.all false
set_option maxRecDepth 100000
set_option maxHeartbeats 2000000
namespace Q
open PySem L2 PySem.Spec PyProof.Rows

/-! ### a container is changed in its place -/
def mutS (j : Nat) (g : D → Option D) (r : Env) (m : Sto) : Option (Env × Sto) := match r[j]? with
  | some (.own c) => (g c).map fun c' => (r.set j (.own c'), m)
  | some (.dat (.cell n)) => (m[n]?.bind g).map fun c' => (r, m.set n c')
  | _ => none
/-- what a container's slot holds -/
def contS (j : Nat) (r : Env) (m : Sto) : Option D := match r[j]? with
  | some (.own c) => some c
  | some (.dat (.cell n)) => m[n]?
  | _ => none
section
variable {K : PySem.W.Frag} {mg : Str → Option Value} {W : WX} {e : En} {Λ : Nat → Option (V × D)} {α : List Addr} {F : Hp} {σ : L2.St} {H : Hp} {r r' : Env} {m m' : Sto}
theorem cont_at (S : Sig K mg e Λ α F σ H r m) {j : Nat} {c : D} (h : contS j r m = some c) : ∃ a ho, σ[j]? = some (some (.ref a)) ∧ H a = some ho ∧ RepC K mg α F ho c := by
  unfold contS at h
  split at h
  · rename_i c' hr
    cases h
    obtain ⟨a, ho, h1, h2, h3⟩ := S.sl j _ hr
    exact ⟨a, ho, h1, h2, h3.c⟩
  · rename_i n hr
    obtain ⟨v, h1, h2⟩ := S.sl j _ hr
    cases h2 with
    | @cell _ a hn =>
    obtain ⟨q1, ho, d, q2, q3, q4⟩ := S.g.cell n a hn
    rw [q2] at h; cases h
    exact ⟨a, ho, h1, q3, q4⟩
  · cases h
theorem mut_at (S : Sig K mg e Λ α F σ H r m) {j : Nat} {g : D → Option D} (h : mutS j g r m = some (r', m')) : ∃ a ho c c', σ[j]? = some (some (.ref a)) ∧ H a = some ho ∧ RepC K mg α F ho c ∧ g c = some c' ∧ contS j r m = some c ∧
    ∀ ho', RepC K mg α F ho' c' → Sig K mg e Λ α F σ (upd H a ho') r' m' := by
  unfold mutS at h
  split at h
  · rename_i c hr
    obtain ⟨c', hc, h⟩ := Option.map_eq_some_iff.mp h
    cases h
    obtain ⟨a, ho, h1, h2, h3⟩ := S.sl j _ hr
    refine ⟨a, ho, c, c', h1, h2, h3.c, hc, by unfold contS; rw [hr], fun ho' rc => ?_⟩
    have hj : j < r.length := (List.getElem?_eq_some_iff.mp hr).1
    have g' : G K mg α F (upd H a ho') m := by
      refine ⟨fun b o q => ?_, S.g.len, S.g.nd, fun n b q => ?_⟩
      · have ne : b ≠ a := fun z => by rw [z, h3.nf] at q; cases q
        rw [upd_ne ne]; exact S.g.sub b o q
      · obtain ⟨q1, ho2, d', q2, q3, q4⟩ := S.g.cell n b q
        have ne : b ≠ a := fun z => h3.na (z ▸ List.mem_of_getElem? q)
        exact ⟨q1, ho2, d', q2, by rw [upd_ne ne]; exact q3, q4⟩
    have st : Stay e.α e.F e.H α F (upd H a ho') := by
      have ne : ∀ {b o}, e.H b = some o → b ≠ a := fun {b o} q z => by rw [z, h3.ne] at q; cases q
      exact ⟨S.st.pre, S.st.fz, fun b o h q => by rw [upd_ne (ne q)]; exact S.st.keep b o h q, S.st.new, S.st.out, fun b o q => by rw [upd_ne (ne q)]; exact S.st.there b o q⟩
    have old : ∀ {i : Nat} {z : Sl}, i ≠ j → (r.set j (.own c'))[i]? = some z → r[i]? = some z := fun {i z} hi q => by rw [List.getElem?_set_ne (Ne.symm hi)] at q; exact q
    have cont : ∀ {i : Nat} {d : D}, ((r.set j (Sl.own c'))[i]? = some (.own d) ∨ (r.set j (Sl.own c'))[i]? = some (.lok d)) → ∃ d', r[i]? = some (.own d') ∨ r[i]? = some (.lok d') := fun {i d} q => by
      by_cases hi : i = j
      · subst hi; exact ⟨c, .inl hr⟩
      · rcases q with q | q
        · exact ⟨d, .inl (old hi q)⟩
        · exact ⟨d, .inr (old hi q)⟩
    refine ⟨g', st, by rw [List.length_set]; exact S.len, fun i z q => ?_, fun i i' d d' b q1 q2 => ?_, fun i d q => ?_⟩
    · by_cases hi : i = j
      · subst hi
        rw [List.getElem?_set_self hj] at q
        cases q
        exact ⟨a, ho', h1, upd_same, h3.nf, h3.na, h3.ne, rc⟩
      · have q := old hi q
        have w := S.sl i z q
        cases z with
        | un => trivial
        | dat d => exact w
        | own d =>
          obtain ⟨b, hb, w1, w2, w3⟩ := w
          have ne : b ≠ a := fun z => hi (S.dis i j d c b (.inl q) (.inl hr) w1 (by rw [z]; exact h1))
          exact ⟨b, hb, w1, by rw [upd_ne ne]; exact w2, ⟨w3.nf, w3.na, w3.ne, w3.c⟩⟩
        | lok d =>
          obtain ⟨b, hb, w1, w2, w3⟩ := w
          have ne : b ≠ a := fun z => hi (S.dis i j d c b (.inr q) (.inl hr) w1 (by rw [z]; exact h1))
          have w2' : Rd (upd H a ho') b hb := by
            rcases w2 with w2 | ⟨o, w2⟩
            · exact .inl (by rw [upd_ne ne]; exact w2)
            · exact .inr ⟨o, by rw [upd_ne ne]; exact w2⟩
          exact ⟨b, hb, w1, w2', ⟨w3.nf, w3.na, w3.ne, w3.c⟩⟩
    · obtain ⟨d1, q1⟩ := cont q1
      obtain ⟨d2, q2⟩ := cont q2
      exact S.dis i i' d1 d2 b q1 q2
    · by_cases hi : i = j
      · subst hi
        rw [List.getElem?_set_self hj] at q; cases q
      · exact S.lk i d (old hi q)
  · rename_i n hr
    obtain ⟨c', hc, h⟩ := Option.map_eq_some_iff.mp h
    cases h
    obtain ⟨v, h1, h2⟩ := S.sl j _ hr
    cases h2 with
    | @cell _ a hn =>
    obtain ⟨q1, ho, d, q2, q3, q4⟩ := S.g.cell n a hn
    rw [q2] at hc
    have hc : g d = some c' := hc
    refine ⟨a, ho, d, c', h1, q3, q4, hc, by unfold contS; rw [hr]; exact q2, fun ho' rc => ?_⟩
    have mem : a ∈ α := List.mem_of_getElem? hn
    have hnl : n < m.length := (List.getElem?_eq_some_iff.mp q2).1
    have g' : G K mg α F (upd H a ho') (m.set n c') := by
      refine ⟨fun b o q => ?_, by rw [List.length_set]; exact S.g.len, S.g.nd, fun n' b q => ?_⟩
      · have ne : b ≠ a := fun z => by rw [z, q1] at q; cases q
        rw [upd_ne ne]; exact S.g.sub b o q
      · by_cases e : n' = n
        · subst e
          rw [hn] at q; cases q
          exact ⟨q1, ho', c', List.getElem?_set_self hnl, upd_same, rc⟩
        · obtain ⟨w1, ho2, d', w2, w3, w4⟩ := S.g.cell n' b q
          have ne : b ≠ a := fun z => by
            subst z
            exact e ((List.getElem?_inj (List.getElem?_eq_some_iff.mp q).1 S.g.nd).mp (q.trans hn.symm))
          exact ⟨w1, ho2, d', by rw [List.getElem?_set_ne (Ne.symm e)]; exact w2, by rw [upd_ne ne]; exact w3, w4⟩
    have st : Stay e.α e.F e.H α F (upd H a ho') := by
      refine ⟨S.st.pre, S.st.fz, fun b o h q => ?_, S.st.new, S.st.out, fun b o q => ?_⟩
      · have ne : b ≠ a := fun z => by
          subst z
          rcases S.st.new b mem with z | z
          · exact h z
          · rw [q] at z; cases z
        rw [upd_ne ne]; exact S.st.keep b o h q
      · by_cases ne : b = a
        · subst ne
          exact ⟨ho', upd_same, fun _ => rc.nt⟩
        · rw [upd_ne ne]; exact S.st.there b o q
    refine ⟨g', st, S.len, fun i z q => ?_, S.dis, S.lk⟩
    have w := S.sl i z q
    cases z with
    | un => trivial
    | dat d => exact w
    | own d =>
      obtain ⟨b, hb, w1, w2, w3⟩ := w
      have ne : b ≠ a := fun z => w3.na (z ▸ mem)
      exact ⟨b, hb, w1, by rw [upd_ne ne]; exact w2, ⟨w3.nf, w3.na, w3.ne, w3.c⟩⟩
    | lok d =>
      obtain ⟨b, hb, w1, w2, w3⟩ := w
      have ne : b ≠ a := fun z => w3.na (z ▸ mem)
      have w2' : Rd (upd H a ho') b hb := by
        rcases w2 with w2 | ⟨o, w2⟩
        · exact .inl (by rw [upd_ne ne]; exact w2)
        · exact .inr ⟨o, by rw [upd_ne ne]; exact w2⟩
      exact ⟨b, hb, w1, w2', ⟨w3.nf, w3.na, w3.ne, w3.c⟩⟩
  · cases h
end
/-- the name alone -/
theorem pe_nm {X : Cx} (i : Nat) {x : Str} {pos : Pos} (hN : X.N[i]? = some x := by rfl) (hv : Vis X.env.scope x := by first | exact Or.inl rfl | exact Or.inr (Or.inl rfl) | exact Or.inr (Or.inr rfl)) (hd : (x == ("__debug__" : Str)) = false := by decide)
    (hcd : (x == ("__classdict__" : Str)) = false := by decide) : PE X (.Name x pos) (tVar i) := pe_var hN hv hd hcd

/-! ### x[i] = v -/
def putD (i v : D) : D → Option D
  | .lst xs => match i with
    | .int k => (ixN xs.length k).map fun j => .lst (xs.set j v)
    | _ => none
  | .dK kvs => match i.key with
    | some k => if kvs.length < SZ then some (.dK (putA kvs k v)) else none
    | none => none
  | .dT kvs => match i with
    | .tup ys => match D.keys ys with
      | some k => if kvs.length < SZ then some (.dT (putA kvs k v)) else none
      | none => none
    | _ => none
  | _ => none
def rPutD : TSet := fun o i v H Q => ∃ a H', o = .ref a ∧ DPut H a i v H' ∧ Q H'
theorem set_dict {X : Cx} (hu : X.A.units + 64 < cLine) : PSet X rPutD := by
  intro pins s σ H o i v ov iv u Q I ro ri rv h
  obtain ⟨a, H', rfl, g, q⟩ := h
  obtain rfl : ov = Value.ref a := ro
  exact d_setItem (by omega) I g ri rv fun s4 I4 => ⟨H', I4, q⟩
def rPutA : TSet := fun o i v H Q => rSetL o i v H Q ∨ rPutD o i v H Q
theorem set_any {X : Cx} (hu : X.A.units + 64 < cLine) : PSet X rPutA := by
  intro pins s σ H o i v ov iv u Q I ro ri rv h
  rcases h with h | h
  · exact set_list pins s σ H o i v ov iv u Q I ro ri rv h
  · exact set_dict hu pins s σ H o i v ov iv u Q I ro ri rv h
section
variable {K : PySem.W.Frag} {mg : Str → Option Value} {W : WX} {e : En} {Λ : Nat → Option (V × D)} {α : List Addr} {F : Hp} {σ : L2.St} {H : Hp} {r r' : Env} {m m' : Sto}
theorem put_at (S : Sig K mg e Λ α F σ H r m) {j : Nat} {v i : V} {x y : D} (hv : Rep K mg α F v x) (hi : RB K mg α F H i y) (h : mutS j (putD y x) r m = some (r', m')) {Q : Hp → Prop} (q : ∀ H', Sig K mg e Λ α F σ H' r' m' → Q H') :
    ∃ o, σ[j]? = some (some o) ∧ rPutA o i v H Q := by
  obtain ⟨a, ho, c, c', h1, h2, h3, h4, h4', h5⟩ := mut_at S h
  clear h4'
  refine ⟨_, h1, ?_⟩
  cases h3 with
  | lst rl =>
    rename_i vs ds
    cases y with
    | int k =>
      obtain ⟨z, hz, h4⟩ := Option.map_eq_some_iff.mp (show Option.map (fun j => D.lst (ds.set j x)) (ixN ds.length k) = some c' from h4)
      cases h4
      have e := rb_int hi
      subst e
      exact .inl ⟨a, vs, k, z, rfl, rfl, h2, by rw [rl.length]; exact hz, q _ (h5 _ (.lst (rl.set z hv)))⟩
    | _ => cases h4
  | dK rl =>
    rename_i vs ds
    cases hk : y.key with
    | none => simp only [putD, hk] at h4; cases h4
    | some k =>
      simp only [putD, hk] at h4
      split at h4
      · rename_i hz
        cases h4
        have e := rb_key hi hk
        subst e
        exact .inr ⟨a, _, rfl, .inl ⟨vs, k, h2, rfl, by rw [rl.length]; exact sz' hz, rfl⟩, q _ (h5 _ (.dK (rl.tr.put k hv).repK))⟩
      · cases h4
  | dT rl =>
    rename_i vs ds
    cases y with
    | tup ys =>
      cases hk : D.keys ys with
      | none => simp only [putD, hk] at h4; cases h4
      | some k =>
        simp only [putD, hk] at h4
        split at h4
        · rename_i hz
          cases h4
          obtain ⟨b, rfl, hb⟩ := rb_keys S.g hi hk
          exact .inr ⟨a, _, rfl, .inr ⟨vs, k, b, h2, rfl, hb, by rw [rl.length]; exact sz' hz, rfl⟩, q _ (h5 _ (.dT (rl.tr.put k hv).repT))⟩
        · cases h4
    | _ => cases h4
/-- the slot of a container is set -/
theorem mut_nm (S : Sig K mg e Λ α F σ H r m) {j : Nat} {g : D → Option D} {m1 : Sto} (h : mutS j g r m1 = some (r', m')) : ∃ o', σ[j]? = some (some o') := by
  unfold mutS at h
  split at h
  · rename_i c hr
    obtain ⟨a, ho, h1, _⟩ := S.sl j _ hr
    exact ⟨_, h1⟩
  · rename_i n hr
    obtain ⟨v, h1, _⟩ := S.sl j _ hr
    exact ⟨_, h1⟩
  · cases h
end
def Opt.out {δ : Type} (x : Option δ) (f : δ → Out) : Out := match x with
  | none => .stuck
  | some d => f d
/-- no error comes of it -/
def Res.outS {δ : Type} (x : Res δ) (f : δ → Sto → Out) : Out := match x with
  | .ok d m => f d m
  | _ => .stuck
def sPut (j : Nat) (fi fv : Ed) : Sd := fun r m => (fv r m).out fun x m1 => (fi r m1).outS fun y m2 => Opt.out (mutS j (putD y x) r m2) fun p => .nx p.1 p.2
section
variable {X : Cx} {W : WX}
theorem qs_put (j : Nat) {o : Str} {i v : Expr} {fi fv : Ed} {po pt pos : Pos} (hu : X.A.units + 64 < cLine) (hv : QE X W .froz v fv) (hi : QE X W .bor i fi) (hN : X.N[j]? = some o := by rfl) (hvis : Vis X.env.scope o := by first | exact Or.inl rfl | exact Or.inr (Or.inl rfl) | exact Or.inr (Or.inr rfl))
    (ha : ∀ v, assign (.Subscript (.Name o po) i pt) X.env v = (do
      let ov ← holding [v] (eval (.Name o po) X.env)
      let iv ← holding [v, ov] (eval i X.env)
      standAt pt
      holding [v, ov, iv] (setItem ov iv v)
      release [v, ov, iv] []) := by intro _; rfl) (hd : (o == ("__debug__" : Str)) = false := by decide)
    (hcd : (o == ("__classdict__" : Str)) = false := by decide) (hs : swapsWithSole [.Subscript (.Name o po) i pt] v pos.line X.env = pure false := by rfl) (hw : swappedStores [.Subscript (.Name o po) i pt] v X.env = pure none := by rfl)
    (h1 : (assignEach [.Subscript (.Name o po) i pt] X.env).map (·.2) = [assign (.Subscript (.Name o po) i pt) X.env] := by rfl) : QS X W (.Assign [.Subscript (.Name o po) i pt] v pos) (sPut j fi fv) := by
  obtain ⟨tv, v1, v2⟩ := hv.ex
  obtain ⟨ti, i1, i2⟩ := hi.ex
  refine ⟨_, ps_asg v1 (pg_sub (pe_nm j hN hvis hd hcd) i1 (set_any hu) ha) hs hw h1, fun e Λ α F σ H r m D S hp => ?_⟩
  refine At.out (v2 e Λ α F σ H r m S) hp fun x m1 _ hp xv α1 F1 H1 S1 s1 k1 => ?_
  cases hy : fi r m1 with
  | stuck => rw [hy] at hp; exact hp.elim
  | exc n m2 => rw [hy] at hp; exact hp.elim
  | ok y m2 =>
    rw [hy] at hp
    cases hm : mutS j (putD y x) r m2 with
    | none => simp only [Res.outS, Opt.out, hm] at hp; exact hp.elim
    | some p =>
      obtain ⟨r', m'⟩ := p
      simp only [Res.outS, Opt.out, hm] at hp
      have q := i2 e Λ α1 F1 σ H1 r m1 S1
      rw [hy] at q
      obtain ⟨o', ho'⟩ := mut_nm S1 hm
      refine ⟨o', ho', q _ fun iv α2 F2 H2 S2 s2 k2 => ?_⟩
      obtain ⟨o2, e2, w⟩ := put_at S2 (RK.stay (k := .froz) s2 k1) k2 hm (Q := fun H3 => D.nx σ H3) fun H3 S3 => hp _ _ _ _ S3
      rw [ho'] at e2
      cases e2
      exact w
end
end Q
end
section
set_option Elab.async false
set_option linter.all false
set_option maxRecDepth 100000
set_option maxHeartbeats 2000000
namespace Q
open PySem L2 PySem.Spec PyProof.Rows

/-! ### methods that change a list -/
abbrev LMet := List D → List D → Option (D × List D)
/-- the method r does g: a result, the new list -/
def SndL (K : PySem.W.Frag) (mg : Str → Option Value) (r : V → List V → Hp → VK → Prop) (g : LMet) : Prop :=
  ∀ {α F H a vs xs us ys d zs}, RepL K mg α F us ys → H a = some (.lst vs) → RepL K mg α F vs xs → g ys xs = some (d, zs) → ∀ Q : VK, (∀ u ws, Rep K mg α F u d → RepL K mg α F ws zs → Q u (upd H a (.lst ws))) → r (.ref a) us H Q
def metA : LMet := fun ys xs => match ys with
  | [y] => if xs.length < SZ then some (.non, xs ++ [y]) else none
  | _ => none
def metP : LMet := fun ys xs => match ys with
  | [] => (xs[xs.length - 1]?).map fun y => (y, xs.dropLast)
  | _ => none
def metPA : LMet := fun ys xs => match ys with
  | [.int i] => if -(2 ^ 63) ≤ i ∧ i < 2 ^ 63 then (seqIndex? i xs.length).bind fun k => (xs[k]?).map fun y => (y, xs.eraseIdx k) else none
  | _ => none
section
variable {K : PySem.W.Frag} {mg : Str → Option Value}
theorem sm_append : SndL K mg rAppend metA := by
  intro α F H a vs xs us ys d zs r1 hH r2 e Q q
  unfold metA at e
  split at e
  · split at e
    · rename_i hz
      cases e
      cases r1 with
      | cons h t =>
        cases t
        exact ⟨a, vs, _, rfl, rfl, hH, by rw [r2.length]; exact sz' hz, q _ _ .non (r2.append (.cons h .nil))⟩
    · cases e
  · cases e
theorem sm_pop : SndL K mg rPop metP := by
  intro α F H a vs xs us ys d zs r1 hH r2 e Q q
  unfold metP at e
  split at e
  · obtain ⟨y, hy, e⟩ := Option.map_eq_some_iff.mp e
    cases e
    cases r1
    obtain ⟨v, hv, rv⟩ := r2.getD hy
    exact ⟨a, vs, v, rfl, rfl, hH, by rw [r2.length]; exact hv, q _ _ rv r2.dropLast⟩
  · cases e
theorem sm_popAt : SndL K mg rPopAt metPA := by
  intro α F H a vs xs us ys d zs r1 hH r2 e Q q
  unfold metPA at e
  split at e
  · rename_i i
    split at e
    · rename_i hz
      cases z : seqIndex? i xs.length with
      | none => rw [z] at e; cases e
      | some k =>
        rw [z] at e
        obtain ⟨y, hy, e⟩ := Option.map_eq_some_iff.mp (show Option.map _ _ = _ from e)
        cases e
        obtain ⟨v, hv, rv⟩ := r2.getD hy
        cases r1 with
        | cons h t =>
          cases t
          cases h
          exact ⟨a, vs, i, k, v, rfl, rfl, hH, hz.1, hz.2, by rw [r2.length]; exact z, hv, q _ _ rv (r2.eraseIdx k)⟩
    · cases e
  · cases e
end
def lstD (c : D) : Option (List D) := match c with
  | .lst xs => some xs
  | _ => none
def metD (j : Nat) (g : LMet) (ys : List D) (r : Env) (m : Sto) : Option (D × Env × Sto) := ((contS j r m).bind lstD).bind fun xs => (g ys xs).bind fun p => (mutS j (fun _ => some (.lst p.2)) r m).map fun q => (p.1, q)
theorem lstD_some {o : Option D} {xs : List D} (h : o.bind lstD = some xs) : o = some (.lst xs) := by
  cases o with
  | none => cases h
  | some c => cases c <;> first | (cases h; done) | (cases h; rfl)
def sMeth (j : Nat) (g : LMet) (fa : Ad) (k : D → Env → Sto → Out) : Sd := fun r m => match (contS j r m).bind lstD with
  | none => .stuck
  | some _ => (fa r m).outS fun ys m1 => match metD j g ys r m1 with
    | some (d, r', m') => k d r' m'
    | none => .stuck
section
variable {K : PySem.W.Frag} {mg : Str → Option Value} {W : WX} {e : En} {Λ : Nat → Option (V × D)} {α : List Addr} {F : Hp} {σ : L2.St} {H : Hp} {r r' : Env} {m m' : Sto}
theorem met_at {t : V → List V → Hp → VK → Prop} {g : LMet} (sm : SndL K mg t g) (S : Sig K mg e Λ α F σ H r m) {j : Nat} {us : List V} {ys : List D} (ru : RepL K mg α F us ys) {d : D} (h : metD j g ys r m = some (d, r', m')) {Q : VK}
    (q : ∀ u H', Sig K mg e Λ α F σ H' r' m' → Rep K mg α F u d → Q u H') : ∃ o, σ[j]? = some (some o) ∧ t o us H Q := by
  unfold metD at h
  obtain ⟨xs, hx, h⟩ := Option.bind_eq_some_iff.mp h
  obtain ⟨p, hp, h⟩ := Option.bind_eq_some_iff.mp h
  obtain ⟨z, hz, h⟩ := Option.map_eq_some_iff.mp h
  cases h
  obtain ⟨a, ho, c, c', h1, h2, h3, h4, h5, h6⟩ := mut_at S hz
  have hc := lstD_some hx
  rw [hc] at h5
  cases h5
  cases h4
  cases h3 with
  | lst rl => exact ⟨_, h1, sm ru h2 rl hp Q fun u ws r1 r2 => q u _ (h6 _ (.lst r2)) r1⟩
/-- the run of a method call -/
theorem meth_run {tA : TA} {fa : Ad} {t : V → List V → Hp → VK → Prop} {g : LMet} (sm : SndL K mg t g) (sa : SndA K mg W .froz tA fa) {j : Nat} {k : D → Env → Sto → Out} {D : Ends} (S : Sig K mg e Λ α F σ H r m) (hp : Post K mg W e Λ D (sMeth j g fa k r m)) {Q : VK}
    (q : ∀ d r' m', Post K mg W e Λ D (k d r' m') → ∀ u α F H, Sig K mg e Λ α F σ H r' m' → Rep K mg α F u d → Q u H) : tBM K "list" t (tVar j) tA σ H Q := by
  unfold sMeth at hp
  split at hp
  · exact hp.elim
  · rename_i xs hx
    obtain ⟨a, ho, h1, h2, h3⟩ := cont_at S (lstD_some hx)
    cases h3 with
    | lst rl =>
    refine ⟨_, h1, .inl ⟨rfl, _, .inl (.inl h2)⟩, ?_⟩
    have z := sa e Λ α F σ H r m S
    cases hf : fa r m with
    | stuck => rw [hf] at hp; exact hp.elim
    | exc n m1 => rw [hf] at hp; exact hp.elim
    | ok ys m1 =>
      rw [hf] at z hp
      refine z _ fun us α1 F1 H1 S1 s1 k1 => ?_
      unfold Res.outS at hp
      simp only at hp
      split at hp
      · rename_i d r' m' hm
        obtain ⟨o, e1, w⟩ := met_at sm S1 k1.rep hm (Q := Q) fun u H' S' r1 => q d r' m' hp u _ _ _ S' r1
        rw [h1] at e1
        cases e1
        exact w
      · exact hp.elim
end
section
variable {X : Cx} {W : WX} {t : V → List V → Hp → VK → Prop} {g : LMet}
/-- x.m(e ..) alone -/
theorem qs_meth (j : Nat) {name o : Str} {id : String} {e : Expr} {es : List Expr} {fa : Ad} {po apos cpos pos : Pos} (sm : SndL X.K X.mg t g) (slot : Slot "list" name id) (hty : typeOf (.builtin id) = pure (.type "method_descriptor")) (hm : MtR X id t) (ha : QA X W .froz (e :: es) fa)
    (hN : X.N[j]? = some o := by rfl) (hvis : Vis X.env.scope o := by first | exact Or.inl rfl | exact Or.inr (Or.inl rfl) | exact Or.inr (Or.inr rfl)) (hd : (o == ("__debug__" : Str)) = false := by decide) (hcd : (o == ("__classdict__" : Str)) = false := by decide)
    (hbase : attributeBase (.Name o po) name X.env (eval (.Name o po) X.env) = eval (.Name o po) X.env := by rfl)
    (hfew : ((backTo cpos (starEach (e :: es) X.env)).all (fun x => !x.1) && (backToKw cpos (keywordEach [] X.env)).all (fun x => x.1.isSome)
      && decide ((e :: es).length + ([] : List Keyword).length + (if ([] : List Keyword).isEmpty then 0 else 1) < 30)) = true := by rfl)
    (hline : (apos.endLine == cpos.line) = true := by rfl) (hs : starEach (e :: es) X.env = (false, eval e X.env) :: starEach es X.env := by rfl) (hplain : (backTo cpos (starEach es X.env)).any (·.1) = false := by rfl)
    (hsw : swapsWith (.Call (.Attribute (.Name o po) name apos) (e :: es) [] cpos) none pos.line X.env = pure false := by rfl) :
    QS X W (.Expr (.Call (.Attribute (.Name o po) name apos) (e :: es) [] cpos) pos) (sMeth j g fa fun _ r m => .nx r m) := by
  obtain ⟨ta, a1, a2⟩ := ha.ex
  exact ⟨_, ps_expr (pe_bm PySem.F.plainAttrs_list slot hty hm (pe_nm j hN hvis hd hcd) a1 hbase hfew hline hs hplain) hsw, fun e Λ α F σ H r m D S hp =>
    meth_run sm a2 S hp fun d r' m' hp u α' F' H' S' _ => hp _ _ _ _ S'⟩
/-- target = x.m(e ..) -/
theorem qs_methA (j : Nat) {tg : Expr} {is : List Nat} {pt : Pat} {name o : Str} {id : String} {e : Expr} {es : List Expr} {fa : Ad} {po apos cpos pos : Pos} (hg : QG X tg is pt) (sm : SndL X.K X.mg t g) (slot : Slot "list" name id) (hty : typeOf (.builtin id) = pure (.type "method_descriptor")) (hm : MtR X id t) (ha : QA X W .froz (e :: es) fa)
    (hN : X.N[j]? = some o := by rfl) (hvis : Vis X.env.scope o := by first | exact Or.inl rfl | exact Or.inr (Or.inl rfl) | exact Or.inr (Or.inr rfl)) (hd : (o == ("__debug__" : Str)) = false := by decide) (hcd : (o == ("__classdict__" : Str)) = false := by decide)
    (hbase : attributeBase (.Name o po) name X.env (eval (.Name o po) X.env) = eval (.Name o po) X.env := by rfl)
    (hfew : ((backTo cpos (starEach (e :: es) X.env)).all (fun x => !x.1) && (backToKw cpos (keywordEach [] X.env)).all (fun x => x.1.isSome)
      && decide ((e :: es).length + ([] : List Keyword).length + (if ([] : List Keyword).isEmpty then 0 else 1) < 30)) = true := by rfl)
    (hline : (apos.endLine == cpos.line) = true := by rfl) (hs : starEach (e :: es) X.env = (false, eval e X.env) :: starEach es X.env := by rfl) (hplain : (backTo cpos (starEach es X.env)).any (·.1) = false := by rfl)
    (hsw : swapsWithSole [tg] (.Call (.Attribute (.Name o po) name apos) (e :: es) [] cpos) pos.line X.env = pure false := by rfl) (hw : swappedStores [tg] (.Call (.Attribute (.Name o po) name apos) (e :: es) [] cpos) X.env = pure none := by rfl)
    (h1 : (assignEach [tg] X.env).map (·.2) = [assign tg X.env] := by rfl) :
    QS X W (.Assign [tg] (.Call (.Attribute (.Name o po) name apos) (e :: es) [] cpos) pos) (sMeth j g fa fun d r m => Opt.out (pt d r) fun r' => .nx r' m) := by
  obtain ⟨ta, a1, a2⟩ := ha.ex
  obtain ⟨tg', g1, g2⟩ := hg.ex
  refine ⟨_, ps_asg (pe_bm PySem.F.plainAttrs_list slot hty hm (pe_nm j hN hvis hd hcd) a1 hbase hfew hline hs hplain) g1 hsw hw h1, fun e Λ α F σ H r m D S hp =>
    meth_run sm a2 S hp fun d r' m' hp u α' F' H' S' ru => ?_⟩
  cases hpt : pt d r' with
  | none => rw [hpt] at hp; exact hp.elim
  | some r2 => rw [hpt] at hp; exact g2 e Λ α' F' σ H' r' m' u d r2 S' ru hpt _ fun σ' S2 _ => hp _ _ _ _ S2
/-- target = x.m() -/
theorem qs_methA0 (j : Nat) {tg : Expr} {is : List Nat} {pt : Pat} {name o : Str} {id : String} {po apos cpos pos : Pos} (hg : QG X tg is pt) (sm : SndL X.K X.mg t g) (slot : Slot "list" name id) (hty : typeOf (.builtin id) = pure (.type "method_descriptor")) (hm : MtR X id t)
    (hN : X.N[j]? = some o := by rfl) (hvis : Vis X.env.scope o := by first | exact Or.inl rfl | exact Or.inr (Or.inl rfl) | exact Or.inr (Or.inr rfl)) (hd : (o == ("__debug__" : Str)) = false := by decide) (hcd : (o == ("__classdict__" : Str)) = false := by decide)
    (hbase : attributeBase (.Name o po) name X.env (eval (.Name o po) X.env) = eval (.Name o po) X.env := by rfl) (hline : (apos.endLine == cpos.line) = true := by rfl)
    (hsw : swapsWithSole [tg] (.Call (.Attribute (.Name o po) name apos) [] [] cpos) pos.line X.env = pure false := by rfl) (hw : swappedStores [tg] (.Call (.Attribute (.Name o po) name apos) [] [] cpos) X.env = pure none := by rfl)
    (h1 : (assignEach [tg] X.env).map (·.2) = [assign tg X.env] := by rfl) :
    QS X W (.Assign [tg] (.Call (.Attribute (.Name o po) name apos) [] [] cpos) pos) (sMeth j g aN fun d r m => Opt.out (pt d r) fun r' => .nx r' m) := by
  obtain ⟨tg', g1, g2⟩ := hg.ex
  refine ⟨_, ps_asg (pe_bm0 PySem.F.plainAttrs_list slot hty hm (pe_nm j hN hvis hd hcd) hbase hline) g1 hsw hw h1, fun e Λ α F σ H r m D S hp => ?_⟩
  have z := meth_run (tA := tNil) (W := W) (Q := fun u H' => tg' u σ H' D.nx) sm (fun e Λ α F σ H r m S => At.ret (Rl := RlL X.K X.mg .froz) S .nil) S hp fun d r' m' hp u α' F' H' S' ru => by
    cases hpt : pt d r' with
    | none => rw [hpt] at hp; exact hp.elim
    | some r2 => rw [hpt] at hp; exact g2 e Λ α' F' σ H' r' m' u d r2 S' ru hpt _ fun σ' S2 _ => hp _ _ _ _ S2
  exact z
end
/-! ### what is not gone -/
def eStuck : Ed := fun _ _ => .stuck
def sStuck : Sd := fun _ _ => .stuck
section
variable {X : Cx} {W : WX} {k : Kd}
theorem qe_stuck {e : Expr} : QE X W k e eStuck := ⟨fun _ _ _ => False, ⟨fun _ _ _ _ _ _ h => h.elim⟩, fun _ _ _ _ _ _ _ _ _ => trivial⟩
theorem qs_stuck {s : Stmt} : QS X W s sStuck := ⟨fun _ _ _ => False, ⟨fun _ _ _ _ _ _ h => h.elim⟩, fun _ _ _ _ _ _ _ _ _ _ hp => hp⟩
theorem qss_stuck {s : List Stmt} : QSs X W s sStuck := ⟨fun _ _ _ => False, ⟨fun _ _ _ _ _ _ h => h.elim⟩, fun _ _ _ _ _ _ _ _ _ _ hp => hp⟩
/-! ### target = value -/
def sAsg (f : Ed) (p : Pat) : Sd := fun r m => (f r m).out fun d m' => Opt.out (p d r) fun r' => .nx r' m'
theorem qs_asg {tg e : Expr} {f : Ed} {is : List Nat} {p : Pat} {pos : Pos} (he : QE X W .froz e f) (hg : QG X tg is p) (hs : swapsWithSole [tg] e pos.line X.env = pure false := by rfl) (hw : swappedStores [tg] e X.env = pure none := by rfl)
    (h1 : (assignEach [tg] X.env).map (·.2) = [assign tg X.env] := by rfl) : QS X W (.Assign [tg] e pos) (sAsg f p) := by
  obtain ⟨t, t1, t2⟩ := he.ex
  obtain ⟨tg', g1, g2⟩ := hg.ex
  refine ⟨_, ps_asg t1 g1 hs hw h1, fun e Λ α F σ H r m D S hp => ?_⟩
  refine At.out (t2 e Λ α F σ H r m S) hp fun d m' _ hp v α' F' H' S' s' k' => ?_
  cases hpt : p d r with
  | none => rw [hpt] at hp; exact hp.elim
  | some r2 => rw [hpt] at hp; exact g2 e Λ α' F' σ H' r m' v d r2 S' k' hpt _ fun σ' S2 _ => hp _ _ _ _ S2
/-! ### raise -/
def sRaise (x : Str) : Sd := fun _ m => .exc x m
theorem qs_raise {C : Addr} {bmB : List Value} {B newId initId : String} {x msg : Str} {j : Nat} {p p2 cpos pos : Pos} (hc : X.calm = true) (tk : Takes X W) (F : ExcBaseFacts B newId initId bmB) (q : PySem.W.excIn X.K C bmB newId = true) (gC : X.mg x = some (.ref C)) (kC : PySem.W.keepIn X.K (.ref C) = true) (rs : Raises X (.ref C)) (hg : Gl X x)
    (hdb : (x == ("__debug__" : Str)) = false := by decide) : QS X W (.Raise (some (.Call (.Name x p) [.Constant (.str msg) j p2] [] cpos)) none pos) (sRaise x) :=
  ⟨_, ps_raise hc tk (pmk_own F q gC kC rs hg hdb), fun e Λ α F σ H r m D S hp => hp C α F σ H gC S.g S.st⟩
/-! ### a shared container -/
theorem qs_cell {i : Nat} {x : Str} {a : Expr} {f : Ed} {pos pos' : Pos} (hN : X.N.Nodup) (hi : X.N[i]? = some x) (hx : Loc X.env.scope x) (he : QE X W .fre a f) (hs : swapsWith a (some (.Name x pos')) pos.line X.env = pure false := by rfl) (hf : X.fn x = true ∨ X.env.scope.names.lookup x = some .local := by first | exact .inl rfl | exact .inr rfl | assumption) :
    QS X W (.Assign [.Name x pos'] a pos) (sCell i f) := by
  obtain ⟨t, h1, h2⟩ := he.ex
  refine ⟨_, ps_set hN hi hx h1 hs hf, fun e Λ α F σ H r m D S hp => ?_⟩
  refine At.out (h2 e Λ α F σ H r m S) hp fun d m' _ hp v α' F' H' S' s' ⟨a, ho, e1, e2, e3, e4, e5, e6⟩ => ?_
  subst e1
  have pre : ∃ β, α' ++ [a] = α' ++ β := ⟨[a], rfl⟩
  have no : ∀ {j : Nat} {d' : _root_.Q.D}, (r[j]? = some (.own d') ∨ r[j]? = some (.lok d')) → σ[j]? ≠ some (some (.ref a)) := fun {j d'} hj hz => by
    obtain ⟨o, z⟩ := S.there hj hz
    rw [e5] at z; cases z
  have st1 : Stay α' F' H' (α' ++ [a]) F' H' → True := fun _ => trivial
  have g2 : G X.K X.mg (α' ++ [a]) F' H' (m' ++ [d]) := by
    refine ⟨S'.g.sub, by rw [List.length_append, List.length_append, S'.g.len]; rfl, ?_, fun n b hb => ?_⟩
    · rw [List.nodup_append]
      exact ⟨S'.g.nd, by simp, fun x hx y hy => by simp at hy; subst hy; intro z; exact e4 (z ▸ hx)⟩
    · by_cases hn : n < α'.length
      · rw [List.getElem?_append_left hn] at hb
        obtain ⟨q1, ho', d', q2, q3, q4⟩ := S'.g.cell n b hb
        exact ⟨q1, ho', d', by rw [List.getElem?_append_left (by rw [← S'.g.len]; exact hn)]; exact q2, q3, q4.mono pre fun _ _ z => z⟩
      · rw [List.getElem?_append_right (by omega)] at hb
        have h0 : n - α'.length = 0 := by
          have := (List.getElem?_eq_some_iff.mp hb).1
          simp at this; omega
        rw [h0] at hb
        cases hb
        have hn' : n = m'.length := by rw [← S'.g.len]; omega
        exact ⟨e3, ho, d, by rw [hn', List.getElem?_append_right (Nat.le_refl _), Nat.sub_self]; rfl, e2, e6.mono pre fun _ _ z => z⟩
  have st2 : Stay e.α e.F e.H (α' ++ [a]) F' H' := by
    obtain ⟨β, hβ⟩ := S'.st.pre
    refine ⟨⟨β ++ [a], by rw [hβ, List.append_assoc]⟩, S'.st.fz, S'.st.keep, fun b hb => ?_, S'.st.out, S'.st.there⟩
    rcases List.mem_append.mp hb with hb | hb
    · exact S'.st.new b hb
    · simp at hb; subst hb; exact .inr (S.e0 e5)
  have S2 : Sig X.K X.mg e Λ (α' ++ [a]) F' σ H' r (m' ++ [d]) := by
    refine ⟨g2, st2, S'.len, fun j z hz => ?_, S'.dis, S'.lk⟩
    have w := S'.sl j z hz
    cases z with
    | un => trivial
    | dat d' => obtain ⟨v, w1, w2⟩ := w; exact ⟨v, w1, w2.mono pre fun _ _ z => z⟩
    | own d' =>
      obtain ⟨b, hb, w1, w2, w3⟩ := w
      exact ⟨b, hb, w1, w2, w3.nf, by simp; exact ⟨w3.na, fun z => no (.inl hz) (z ▸ w1)⟩, w3.ne, w3.c.mono pre fun _ _ z => z⟩
    | lok d' =>
      obtain ⟨b, hb, w1, w2, w3⟩ := w
      exact ⟨b, hb, w1, w2, w3.nf, by simp; exact ⟨w3.na, fun z => no (.inr hz) (z ▸ w1)⟩, w3.ne, w3.c.mono pre fun _ _ z => z⟩
  refine hp _ _ _ _ (S2.set (.cell ?_))
  rw [← S'.g.len, List.getElem?_append_right (Nat.le_refl _), Nat.sub_self]; rfl
/-! ### a container is frozen from here on -/
def sFrz (i : Nat) : Sd := fun r m => match r[i]? with
  | some (.own d) => .nx (r.set i (.dat d)) m
  | some (.dat d) => .nx r m
  | _ => .stuck
def tFzS (i : Nat) (t : TS) : TS := fun D σ H => t D σ H ∨ ∃ a u, σ[i]? = some (some (.ref a)) ∧ H a = some u ∧ ∀ ob, t D σ (upd H a (lockO ob u))
theorem ps_fz {i : Nat} {s : Stmt} {t : TS} (h : PS X s t) : PS X s (tFzS i t) := by
  refine ⟨fun pins s σ H D I hw => ?_⟩
  rcases hw with hw | ⟨a, u, _, hu, q⟩
  · exact h.run pins s σ H D I hw
  by_cases nd : IsDc u
  · have mu : Mut (some u) := by rcases nd with ⟨k, rfl⟩ | ⟨k, rfl⟩ <;> trivial
    obtain ⟨od, I2⟩ := I.lock hu mu
    have q := q od
    rw [lockO_d nd] at q
    exact h.run pins s σ _ D I2 q
  · have q := q default
    rw [lockO_nd nd, upd_self hu] at q
    exact h.run pins s σ H D I q
theorem qs_frz {i : Nat} {s : Stmt} {f : Sd} (h : QS X W s f) : QS X W s (sSeq (sFrz i) f) := by
  obtain ⟨t, h1, h2⟩ := h.ex
  refine ⟨_, ps_fz (i := i) h1, fun e Λ α F σ H r m D S hp => ?_⟩
  unfold sSeq sFrz at hp
  cases hr : r[i]? with
  | none => rw [hr] at hp; exact hp.elim
  | some z =>
    cases z with
    | own d =>
      rw [hr] at hp
      obtain ⟨a, ho, q1, q2, q3⟩ := S.sl i _ hr
      refine .inr ⟨a, ho, q1, q2, fun ob => h2 e Λ α (upd F a ho) σ _ (r.set i (.dat d)) m D ?_ hp⟩
      -- the slot lets it go first
      have S0 : Sig X.K X.mg e Λ α F σ H (r.set i .un) m := by
        have old : ∀ {j : Nat} {z : Sl}, (r.set i .un)[j]? = some z → z ≠ .un → j ≠ i ∧ r[j]? = some z := fun {j z} q hz => by
          by_cases ji : i = j
          · subst ji
            by_cases hl : i < r.length
            · rw [List.getElem?_set_self hl] at q; exact absurd (Option.some.inj q).symm hz
            · rw [List.getElem?_eq_none (by simpa using hl)] at q; cases q
          · rw [List.getElem?_set_ne ji] at q; exact ⟨Ne.symm ji, q⟩
        refine ⟨S.g, S.st, by rw [List.length_set]; exact S.len, fun j z q => ?_, fun j j' d1 d2 b k1 k2 => ?_, fun j d' q => S.lk j d' (old q (by intro z; cases z)).2⟩
        · cases z with
          | un => trivial
          | dat _ => exact S.sl j _ (old q (by intro z; cases z)).2
          | own _ => exact S.sl j _ (old q (by intro z; cases z)).2
          | lok _ => exact S.sl j _ (old q (by intro z; cases z)).2
        · refine S.dis j j' d1 d2 b ?_ ?_
          · rcases k1 with k | k
            · exact .inl (old k (by intro z; cases z)).2
            · exact .inr (old k (by intro z; cases z)).2
          · rcases k2 with k | k
            · exact .inl (old k (by intro z; cases z)).2
            · exact .inr (old k (by intro z; cases z)).2
      have hne : ∀ (j : Nat) (d' : _root_.Q.D), ((r.set i Sl.un)[j]? = some (.own d') ∨ (r.set i Sl.un)[j]? = some (.lok d')) → σ[j]? ≠ some (some (.ref a)) := fun j d' k hz => by
        have k' : j ≠ i ∧ (r[j]? = some (.own d') ∨ r[j]? = some (.lok d')) := by
          by_cases ji : i = j
          · subst ji
            by_cases hl : i < r.length
            · rw [List.getElem?_set_self hl] at k; rcases k with k | k <;> cases k
            · rw [List.getElem?_eq_none (by simpa using hl)] at k; rcases k with k | k <;> cases k
          · rw [List.getElem?_set_ne ji] at k; exact ⟨Ne.symm ji, k⟩
        exact k'.1 (S.dis j i d' d a k'.2 (.inl hr) hz q1)
      have S1 := S0.freeze ob q2 q3.nf q3.na q3.ne q3.c hne
      obtain ⟨_, rp, _⟩ := Q.freeze S.g ob q2 q3.nf q3.na q3.c
      have S2 := S1.set (i := i) (v := .ref a) rp
      have hi : i < σ.length := by rw [S.len]; exact (List.getElem?_eq_some_iff.mp hr).1
      have e1 : σ.set i (some (.ref a)) = σ := by
        apply List.ext_getElem?
        intro j
        by_cases ji : i = j
        · subst ji; rw [List.getElem?_set_self hi, q1]
        · rw [List.getElem?_set_ne ji]
      rw [e1, List.set_set] at S2
      exact S2
    | un => rw [hr] at hp; exact hp.elim
    | dat _ => rw [hr] at hp; exact .inl (h2 e Λ α F σ H r m D S hp)
    | lok _ => rw [hr] at hp; exact hp.elim
end
end Q
end
section
set_option Elab.async false
set_option linter.all false
set_option maxRecDepth 100000
set_option maxHeartbeats 2000000
namespace Q
open PySem L2 PySem.Spec PyProof.Rows

/-! ### enumerate of a tuple -/
theorem meets_enumerate_new1 {v : Value} {o : Obj} {H : Heap → Prop} (B : Begins v o H) :
    Meets (Builtin.«enumerate.__new__» ⟨[.type "enumerate", v], []⟩) (fun _ R s => H s.heap ∧
      R (.ok (.ret (.ref (s.heap.push o).objs.size))) { s with heap := (s.heap.push o).push { cls := .type "enumerate", data := .fields #[.none, .bool false, .ref s.heap.objs.size, rawInt 0, .none, .none] } }) :=
  .of_wp fun prog w A R s h => by
    obtain ⟨hp, g, d, tk, os⟩ := s; obtain ⟨h1, h⟩ := h
    have hsub := sub_enumerate
    have q1 : ∀ {A' : Around} {E : Value → Shared → Prop} {Q : Value → Shared → Prop}, Q (.ref hp.objs.size) ⟨hp.push o, g, d, tk, os⟩ → wpAny (model prog w) A' (pyIter v) Q E ⟨hp, g, d, tk, os⟩ :=
      fun q => B.iter prog w _ _ ⟨hp, g, d, tk, os⟩ _ h1 q
    wp_walk using q1
    refine wpAny_stack_any fun st => wpAny_pure ?_
    split
    · rename_i c _ _ _ _ _
      cases (c == Value.type "enumerate")
      · wp_walk using q1
        exact ⟨_, rfl, h⟩
      · wp_walk using q1
        exact ⟨_, rfl, h⟩
    · wp_walk using q1
      exact ⟨_, rfl, h⟩
theorem call_enumerate_any {prog : Program} {w : World} {A : Around} {E : Value → Shared → Prop} {s : Shared} {v : Value} {o : Obj} {H : Heap → Prop} {Q : Value → Shared → Prop} (B : Begins v o H) (h1 : H s.heap)
    (h : ∀ h', IsEnum h' (s.heap.objs.size + 1) s.heap.objs.size 0 .none → h'.get? s.heap.objs.size = some o → h'.objs.size = s.heap.objs.size + 2 →
      (∀ b o, s.heap.get? b = some o → h'.get? b = some o) → Q (.ref (s.heap.objs.size + 1)) { s with heap := h' }) :
    wpAny (model prog w) A (call (.type "enumerate") [v]) Q E s := by
  refine callType_new F.called_enumerate (by decide) (F.typeCall_enumerate_1 _) (F.newCall_enumerate_1 _) (fun obj => F.args_object_init_2 obj _) F.entry_enumerate_new
    (meets_enumerate_new1 B) ⟨h1, ?_⟩
  have hz : (s.heap.push o).objs.size = s.heap.objs.size + 1 := Heap.size_push ..
  show _ ∧ _
  rw [hz]
  have he : IsEnum ((s.heap.push o).push { cls := .type "enumerate", data := .fields #[.none, .bool false, .ref s.heap.objs.size, rawInt 0, .none, .none] }) (s.heap.objs.size + 1) s.heap.objs.size 0 .none := by
    have := Heap.get?_push_size (s.heap.push o) (o := { cls := .type "enumerate", data := .fields #[.none, .bool false, .ref s.heap.objs.size, rawInt 0, .none, .none] }) rfl
    rw [hz] at this; exact this
  refine ⟨⟨_, he, rfl⟩, h _ he (Heap.get?_push_of_some _ (Heap.get?_push_size _ B.free)) (by rw [Heap.size_push, hz]) fun b o x => Heap.get?_push_of_some _ (Heap.get?_push_of_some _ x)⟩
/-- the tuple at a, each item in a new pair -/
def IteT (K : PySem.W.Frag) (a : Addr) : It :=
  ⟨fun i H => ∃ (xs : List V) (x : V), SqT K H a xs ∧ xs[i]? = some x, fun i H v H' => ∃ T x, v = .ref T ∧ H T = none ∧ H' = upd H T (.tup [.int (i : Nat), x]) ∧ ∀ xs, SqT K H a xs → xs[i]? = some x, fun i H => ∃ xs : List V, SqT K H a xs ∧ xs.length ≤ i⟩
theorem turn_enumT {P : Program} {w : World} {K : PySem.W.Frag} {elts : List Expr} {kk : Nat} {tpos : Pos} (a e it : Addr) (hae : a ≠ e) (hai : a ≠ it) :
    Turn P w K (.Tuple elts kk tpos) (IteT K a) [e, it] e (fun i h => (∃ old, IsEnum h e it ((i : Nat) : Int) old) ∧ h.IsTupleIter it a i ∧ e ≠ it) where
  mem := by simp
  obj := fun i h st b hb => by
    obtain ⟨⟨old, he⟩, ⟨o, ho, hc, hd⟩, _⟩ := st
    have e' : b = e ∨ b = it := by simpa using hb
    rcases e' with z | z
    · rw [z]; exact ⟨_, he, fun v q => nomatch q⟩
    · rw [z]; exact ⟨o, ho, fun v q => by rw [hd] at q; cases q⟩
  keep := fun i h h' st k => let ⟨⟨old, he⟩, hi, hne⟩ := st; ⟨⟨old, k e (by simp) _ he⟩, hi.at fun o q => k it (by simp) o q, hne⟩
  item := by
    intro X hP hw hK hc i pins s σ H E I hf st hg
    subst hP hw hK
    obtain ⟨⟨old, he⟩, hit, hne⟩ := st
    obtain ⟨xs, x, hq, hx⟩ := hg
    obtain ⟨its, rv, p, hz⟩ := I.tuple hq
    obtain ⟨u, hu, ru⟩ := rv.get hx
    have hel : e < s.heap.objs.size := Heap.lt_size he
    have hil : it < s.heap.objs.size := by obtain ⟨_, q, _⟩ := hit; exact Heap.lt_size q
    have hlt : i < its.toArray.size := by simpa using (List.getElem?_eq_some_iff.mp hu).1
    refine wpAny_pyNext_enum_itemD (Draws.tuple (A := X.A.in1) (I.ok.hd hc) it a hai its.toArray) he ⟨hit, show s.heap.IsTuple a its.toArray from p⟩ hlt hne (by simp [Ne.symm hae, hne]) fun x' h' tk hx' ho hit' hT hsz hk => ?_
    have ex : x' = u := by
      have : its[i]? = some x' := by simpa using hx'
      rw [hu] at this; exact (Option.some.inj this).symm
    subst ex
    refine ⟨_, rfl, wpAny_letOwnedTupleGo_enum (s := { s with heap := h', toks := tk + 1 }) ho fun h'' he' sb => ?_⟩
    have hT2 : h''.get? s.heap.objs.size = some { cls := .type "tuple", data := .seq #[.int i tk, x'] } := (sb.2 _ (Nat.ne_of_gt hel)).trans hT
    have new : ObjOk X.prog X.w (upd H s.heap.objs.size (.tup [.int (i : Nat), x])) h'' s.heap.objs.size (.tup [.int (i : Nat), x]) :=
      ⟨by show 2 ≤ sizeLine; decide, [.int i tk, x'], .cons ⟨_, rfl⟩ (.cons ru .nil), ⟨_, hT2, rfl, _, rfl⟩⟩
    have I1 : Inv X pins σ (upd H s.heap.objs.size (.tup [.int (i : Nat), x])) { s with heap := h'', toks := tk + 1 } :=
      I.turnedNew (ch := [e, it]) (fun b ob hb q => (sb.2 b (fun z => hb (by simp [z]))).trans (hk b ob (fun z => hb (by simp [z])) (fun z => hb (by simp [z])) q)) hf (Nat.le_refl _) new
    refine ⟨.ref s.heap.objs.size, _, I1, rfl, ⟨_, x, rfl, I.hok.fresh (Nat.le_refl _), rfl, fun ys hy => by rw [I.tuple_inj hy hq]; exact hx⟩, ⟨⟨x', ?_⟩, hit'.1.at fun o q => (sb.2 it (Ne.symm hne)).trans q, hne⟩, fun b hb => ?_⟩
    · have e1 : ((i + 1 : Nat) : Int) = (i : Int) + 1 := by omega
      rw [e1]; exact he'
    · have hb' : b < s.heap.objs.size := by
        have e' : b = e ∨ b = it := by simpa using hb
        rcases e' with z | z
        · rw [z]; exact hel
        · rw [z]; exact hil
      rw [upd_ne (Nat.ne_of_lt hb')]
      exact (hf b hb).1
  done := by
    intro X hP hw hK hc i pins s σ H E I hf st hg
    subst hP hw hK
    obtain ⟨⟨old, he⟩, hit, hne⟩ := st
    obtain ⟨xs, hq, hx⟩ := hg
    obtain ⟨its, rv, p, hz⟩ := I.tuple hq
    obtain ⟨f0, f1, f2, f3, f4, f5⟩ := hf it (by simp)
    have hl := rv.length
    have ht : s.heap.IsTuple a its.toArray := p
    have hh : X.A.in1.handled = none := I.ok.hd hc
    have D : Draws X.prog X.w X.A.in1 it [it, a] i (fun _ _ => False) (fun j h => j = i ∧ h.IsTupleIter it a j ∧ h.IsTuple a its.toArray) :=
      { live := fun _ _ st => let ⟨_, ⟨o, ho, _⟩, _⟩ := st; ⟨o, ho⟩
        frame := fun _ _ _ st hk => ⟨st.1, st.2.1.at fun o e => hk it (by simp) o e, st.2.2.at fun o e => hk a (by simp) o e⟩
        item := fun j s Q E hj st _ => absurd st.1 (Nat.ne_of_lt hj)
        done := fun s Q E st hE => wpAny_nextOf_tuple_end hh st.2.1 st.2.2 (by simp; omega) hE }
    exact wpAny_pyNext_enum_endD D he ⟨rfl, hit, ht⟩ fun h' eb => ⟨rfl, I.turned (t' := s.toks) (fun b o hb q => eb b o hb q) f0 f1 f3 f4 f5⟩
  self := fun A i s Q E st h => let ⟨⟨_, he⟩, _⟩ := st; wpAny_pyIter_enum he h
/-- enumerate of a list or a tuple -/
def iEnumA (K : PySem.W.Frag) (ta : TA) : TI := fun σ H R => ta σ H fun vs H1 => ∃ a xs, vs = [.ref a] ∧ ((SqL K H1 a xs ∧ R (Ite K a) H1) ∨ (SqT K H1 a xs ∧ R (IteT K a) H1))
theorem pi_enumA {X : Cx} {e : Expr} {ta : TA} {p pos tpos : Pos} {elts : List Expr} {kk : Nat} (hg : Gl X "enumerate") (hm : X.mg "enumerate" = none) (ha : PA X [e] ta) (hs : starEach [e] X.env = [(false, eval e X.env)] := by rfl) :
    PI X (.Tuple elts kk tpos) (.Call (.Name "enumerate" p) [e] [] pos) (iEnumA X.K ta) := by
  refine ⟨fun pins s σ H R I h => ?_⟩
  refine Call_ (ld_blt I hg hm boot_enumerate (PyProof.Rows.callWith_type1 (thn (ha.run pos pins s σ H _ I h) fun us s1 ⟨vs, H1, I1, r1, q1⟩ => ?_) hs rfl))
  obtain ⟨a, xs, ex, q1⟩ := q1
  subst ex
  cases r1 with
  | cons r rr =>
    cases rr
    cases r
    rcases q1 with ⟨hq, q⟩ | ⟨hq, q⟩
    · obtain ⟨its, rv, p', hz⟩ := I1.list hq
      refine call_enumerate_list p'.isList fun h' he hit hsz hk => wpAny_pyIter_enum he ?_
      have I2 : Inv X pins σ H1 { s1 with heap := h' } := I1.kept (t' := s1.toks) hk
      refine ⟨s1.heap.objs.size + 1, [s1.heap.objs.size + 1, s1.heap.objs.size], _, _, H1, rfl, I2, turn_enum a (s1.heap.objs.size + 1) s1.heap.objs.size, ⟨⟨.none, he⟩, hit, Nat.succ_ne_self _⟩, fun b hb => ?_, q⟩
      have e' : b = s1.heap.objs.size + 1 ∨ b = s1.heap.objs.size := by simpa using hb
      have hle : s1.heap.objs.size ≤ b := by
        rcases e' with z | z
        · rw [z]; exact Nat.le_add_right _ _
        · rw [z]; exact Nat.le_refl _
      exact I1.fpOk hle (I1.hok.fresh hle)
    · obtain ⟨its, rv, p', hz⟩ := I1.tuple hq
      have ht : s1.heap.IsTuple a its.toArray := p'
      have hal : a < s1.heap.objs.size := by obtain ⟨o, ho, _⟩ := ht; exact Heap.lt_size ho
      refine call_enumerate_any (begins_tuple a its.toArray) ht fun h' he hit hsz hk => wpAny_pyIter_enum he ?_
      have I2 : Inv X pins σ H1 { s1 with heap := h' } := I1.kept (t' := s1.toks) hk
      refine ⟨s1.heap.objs.size + 1, [s1.heap.objs.size + 1, s1.heap.objs.size], _, _, H1, rfl, I2, turn_enumT a (s1.heap.objs.size + 1) s1.heap.objs.size (Nat.ne_of_lt (Nat.lt_succ_of_lt hal)) (Nat.ne_of_lt hal), ⟨⟨.none, he⟩, ⟨_, hit, rfl, rfl⟩, Nat.succ_ne_self _⟩, fun b hb => ?_, q⟩
      have e' : b = s1.heap.objs.size + 1 ∨ b = s1.heap.objs.size := by simpa using hb
      have hle : s1.heap.objs.size ≤ b := by
        rcases e' with z | z
        · rw [z]; exact Nat.le_add_right _ _
        · rw [z]; exact Nat.le_refl _
      exact I1.fpOk hle (I1.hok.fresh hle)
/-! ### what is walked: pairs, keys -/
def enumD (ds : List D) : List D := (List.range ds.length).map fun (i : Nat) => .tup [.int (i : Int), ds.getD i .non]
def zipD (xs ys : List D) : List D := (xs.zip ys).map fun p => .tup [p.1, p.2]
section
variable {K : PySem.W.Frag} {mg : Str → Option Value}
theorem G.pair {α : List Addr} {F H : Hp} {m : Sto} (g : G K mg α F H m) {T : Addr} (hT : H T = none) {v w : V} {x y : D} (rv : Rep K mg α F v x) (rw' : Rep K mg α F w y) :
    ∃ F', G K mg α F' (upd H T (.tup [v, w])) m ∧ Stay α F H α F' (upd H T (.tup [v, w])) ∧ Rep K mg α F' (.ref T) (.tup [x, y]) := g.tup hT (.cons rv (.cons rw' .nil))
theorem getD_get {ds : List D} {i : Nat} {d : D} (h : ds[i]? = some d) : ds.getD i .non = d := by
  rw [List.getD_eq_getElem?_getD, h]; rfl
theorem it_enumL {a : Addr} {ds : List D} : ItOk K mg (fun α F H => ∃ vs, SqL K F a vs ∧ RepL K mg α F vs ds) (Ite K a) (enumD ds) where
  st := fun α F H α' F' H' s ⟨vs, h1, h2⟩ => ⟨vs, sqL_mono s.fz h1, h2.mono s.pre s.fz⟩
  go := fun α F H m i g ⟨vs, h1, h2⟩ hi => by
    have hl := h2.length
    have hi : i < ds.length := by simpa [enumD] using hi
    exact ⟨vs, vs[i]'(by omega), g.sub.seqL h1, by simp⟩
  stop := fun α F H m g ⟨vs, h1, h2⟩ => ⟨vs, g.sub.seqL h1, by rw [h2.length]; simp [enumD]⟩
  yld := fun α F H m i x H' g ⟨vs, h1, h2⟩ hi ⟨T, y, e, hT, eH, q⟩ => by
    have hi : i < ds.length := by simpa [enumD] using hi
    subst e eH
    obtain ⟨d, q1, q2⟩ := h2.get (q vs (g.sub.seqL h1))
    obtain ⟨F', g', s', r'⟩ := g.pair hT (.int (i : Int)) q2
    exact ⟨F', _, g', s', by unfold enumD; rw [List.getElem?_map, List.getElem?_range hi]; simp [q1], r'⟩
theorem it_enumT {a : Addr} {ds : List D} : ItOk K mg (fun α F H => ∃ vs, SqT K F a vs ∧ RepL K mg α F vs ds) (IteT K a) (enumD ds) where
  st := fun α F H α' F' H' s ⟨vs, h1, h2⟩ => ⟨vs, sqT_mono s.fz h1, h2.mono s.pre s.fz⟩
  go := fun α F H m i g ⟨vs, h1, h2⟩ hi => by
    have hl := h2.length
    have hi : i < ds.length := by simpa [enumD] using hi
    exact ⟨vs, vs[i]'(by omega), g.sub.seqT h1, by simp⟩
  stop := fun α F H m g ⟨vs, h1, h2⟩ => ⟨vs, g.sub.seqT h1, by rw [h2.length]; simp [enumD]⟩
  yld := fun α F H m i x H' g ⟨vs, h1, h2⟩ hi ⟨T, y, e, hT, eH, q⟩ => by
    have hi : i < ds.length := by simpa [enumD] using hi
    subst e eH
    obtain ⟨d, q1, q2⟩ := h2.get (q vs (g.sub.seqT h1))
    obtain ⟨F', g', s', r'⟩ := g.pair hT (.int (i : Int)) q2
    exact ⟨F', _, g', s', by unfold enumD; rw [List.getElem?_map, List.getElem?_range hi]; simp [q1], r'⟩
/-- a list of our own, for an expression's time -/
theorem it_enumO {a : Addr} {ds : List D} : ItOk K mg (fun α F H => F a = none ∧ a ∉ α ∧ ∃ vs, Rd H a (.lst vs) ∧ RepL K mg α F vs ds) (Ite K a) (enumD ds) where
  st := it_ownl.st
  go := fun α F H m i g ⟨_, _, vs, h1, h2⟩ hi => by
    have hl := h2.length
    have hi : i < ds.length := by simpa [enumD] using hi
    exact ⟨vs, vs[i]'(by omega), .inl h1, by simp⟩
  stop := fun α F H m g ⟨_, _, vs, h1, h2⟩ => ⟨vs, .inl h1, by rw [h2.length]; simp [enumD]⟩
  yld := fun α F H m i x H' g ⟨_, _, vs, h1, h2⟩ hi ⟨T, y, e, hT, eH, q⟩ => by
    have hi : i < ds.length := by simpa [enumD] using hi
    subst e eH
    obtain ⟨d, q1, q2⟩ := h2.get (q vs (.inl h1))
    obtain ⟨F', g', s', r'⟩ := g.pair hT (.int (i : Int)) q2
    exact ⟨F', _, g', s', by unfold enumD; rw [List.getElem?_map, List.getElem?_range hi]; simp [q1], r'⟩
end
def iEn (f : Ed) : Id' := fun r m => (f r m).bind fun x m1 => match x with
  | .lst ds => .ok (enumD ds) m1
  | .tup ds => .ok (enumD ds) m1
  | .ktup ds => .ok (enumD ds) m1
  | _ => .stuck
theorem qi_enum {X : Cx} {W : WX} {e : Expr} {f : Ed} {p pos tpos : Pos} {elts : List Expr} {kk : Nat} (hg : Gl X "enumerate") (hm : X.mg "enumerate" = none) (he : QE X W .froz e f) (hs : starEach [e] X.env = [(false, eval e X.env)] := by rfl) :
    QI X W true (.Tuple elts kk tpos) (.Call (.Name "enumerate" p) [e] [] pos) (iEn f) := by
  obtain ⟨t, h1, h2⟩ := he.ex
  refine ⟨_, pi_enumA hg hm (pa_cons h1 pa_nil hs) hs, fun e Λ α F σ H r m S => ?_⟩
  refine At.bind (t := t σ H) (u := fun x H1 R => ∃ a xs, [x] = [V.ref a] ∧ ((SqL X.K H1 a xs ∧ R (Ite X.K a) H1) ∨ (SqT X.K H1 a xs ∧ R (IteT X.K a) H1))) (Rl' := RlI X.K X.mg true) back_I (h2 e Λ α F σ H r m S) fun x m1 _ v α1 F1 H1 S1 s1 k1 => ?_
  cases x with
  | lst ds =>
    cases k1 with
    | lst s rl => exact fun Q w => ⟨_, _, rfl, .inl ⟨S1.g.sub.seqL (.inl (.inl s)), w _ _ _ _ S1 (Stay.refl _ _ _) ⟨_, it_enumL (ds := ds), ⟨_, .inl (.inl s), rl⟩, fun _ => stb_list⟩⟩⟩
  | tup ds =>
    cases k1 with
    | tup s rl => exact fun Q w => ⟨_, _, rfl, .inr ⟨.inl (.inl (S1.g.sub.tup s)), w _ _ _ _ S1 (Stay.refl _ _ _) ⟨_, it_enumT (ds := ds), ⟨_, .inl (.inl s), rl⟩, fun _ => stb_tup⟩⟩⟩
  | ktup ds =>
    cases k1 with
    | ktup s rl => exact fun Q w => ⟨_, _, rfl, .inr ⟨sqT_k s, w _ _ _ _ S1 (Stay.refl _ _ _) ⟨_, it_enumT (ds := ds), ⟨_, sqT_k s, rl⟩, fun _ => stb_tup⟩⟩⟩
  | _ => trivial
theorem qi_enumB {X : Cx} {W : WX} {e : Expr} {f : Ed} {p pos tpos : Pos} {elts : List Expr} {kk : Nat} (hg : Gl X "enumerate") (hm : X.mg "enumerate" = none) (he : QE X W .bor e f) (hs : starEach [e] X.env = [(false, eval e X.env)] := by rfl) :
    QI X W false (.Tuple elts kk tpos) (.Call (.Name "enumerate" p) [e] [] pos) (iEn f) := by
  obtain ⟨t, h1, h2⟩ := he.ex
  refine ⟨_, pi_enumA hg hm (pa_cons h1 pa_nil hs) hs, fun e Λ α F σ H r m S => ?_⟩
  refine At.bind (t := t σ H) (u := fun x H1 R => ∃ a xs, [x] = [V.ref a] ∧ ((SqL X.K H1 a xs ∧ R (Ite X.K a) H1) ∨ (SqT X.K H1 a xs ∧ R (IteT X.K a) H1))) (Rl' := RlI X.K X.mg false) back_I (h2 e Λ α F σ H r m S) fun x m1 _ v α1 F1 H1 S1 s1 k1 => ?_
  cases x with
  | lst ds =>
    rcases k1 with k1 | ⟨a, ho, e1, e2, e3, e4, e5⟩
    · cases k1 with
      | lst s rl => exact fun Q w => ⟨_, _, rfl, .inl ⟨S1.g.sub.seqL (.inl (.inl s)), w _ _ _ _ S1 (Stay.refl _ _ _) ⟨_, it_enumL (ds := ds), ⟨_, .inl (.inl s), rl⟩, fun z => Bool.noConfusion z⟩⟩⟩
    · cases e5 with
      | lst rl => subst e1; exact fun Q w => ⟨_, _, rfl, .inl ⟨.inl (.inl e2), w _ _ _ _ S1 (Stay.refl _ _ _) ⟨_, it_enumO (ds := ds), ⟨e3, e4, _, .inl e2, rl⟩, fun z => Bool.noConfusion z⟩⟩⟩
  | tup ds =>
    rcases k1 with k1 | ⟨a, ho, e1, e2, e3, e4, e5⟩
    · cases k1 with
      | tup s rl => exact fun Q w => ⟨_, _, rfl, .inr ⟨.inl (.inl (S1.g.sub.tup s)), w _ _ _ _ S1 (Stay.refl _ _ _) ⟨_, it_enumT (ds := ds), ⟨_, .inl (.inl s), rl⟩, fun z => Bool.noConfusion z⟩⟩⟩
    · cases e5
  | ktup ds =>
    rcases k1 with k1 | ⟨a, ho, e1, e2, e3, e4, e5⟩
    · cases k1 with
      | ktup s rl => exact fun Q w => ⟨_, _, rfl, .inr ⟨sqT_k s, w _ _ _ _ S1 (Stay.refl _ _ _) ⟨_, it_enumT (ds := ds), ⟨_, sqT_k s, rl⟩, fun z => Bool.noConfusion z⟩⟩⟩
    · cases e5
  | _ => trivial
end Q
end
section
set_option Elab.async false
set_option linter.all false
set_option maxRecDepth 100000
set_option maxHeartbeats 2000000
namespace Q
open PySem L2 PySem.Spec PyProof.Rows

/-! ### zip -/
structure SqP (K : PySem.W.Frag) (mg : Str → Option Value) (tup : Bool) (a : Addr) (ds : List D) (P : List Addr → Hp → Hp → Prop) : Prop where
  st : ∀ α F H α' F' H', Stay α F H α' F' H' → P α F H → P α' F' H'
  rd : ∀ α F H m, G K mg α F H m → P α F H → ∃ vs, (if tup = true then SqT K H a vs else SqL K H a vs) ∧ RepL K mg α F vs ds
section
variable {K : PySem.W.Frag} {mg : Str → Option Value}
theorem sqp_l {a : Addr} {ds : List D} : SqP K mg false a ds (fun α F H => ∃ vs, SqL K F a vs ∧ RepL K mg α F vs ds) :=
  ⟨it_list.st, fun α F H m g ⟨vs, h1, h2⟩ => ⟨vs, g.sub.seqL h1, h2⟩⟩
theorem sqp_t {a : Addr} {ds : List D} : SqP K mg true a ds (fun α F H => ∃ vs, SqT K F a vs ∧ RepL K mg α F vs ds) :=
  ⟨it_tup.st, fun α F H m g ⟨vs, h1, h2⟩ => ⟨vs, g.sub.seqT h1, h2⟩⟩
theorem sqp_o {a : Addr} {ds : List D} : SqP K mg false a ds (fun α F H => F a = none ∧ a ∉ α ∧ ∃ vs, Rd H a (.lst vs) ∧ RepL K mg α F vs ds) :=
  ⟨it_ownl.st, fun α F H m g ⟨_, _, vs, h1, h2⟩ => ⟨vs, .inl h1, h2⟩⟩
theorem zip_at {xs ys : List D} {i : Nat} (h : i < (zipD xs ys).length) : i < xs.length ∧ i < ys.length := by
  simp [zipD] at h; omega
theorem zip_get {xs ys : List D} {i : Nat} {x y : D} (h : xs[i]? = some x) (h' : ys[i]? = some y) : (zipD xs ys)[i]? = some (.tup [x, y]) := by
  obtain ⟨l1, e1⟩ := List.getElem?_eq_some_iff.mp h
  obtain ⟨l2, e2⟩ := List.getElem?_eq_some_iff.mp h'
  unfold zipD
  rw [List.getElem?_map, List.getElem?_eq_getElem (by simp; omega)]
  simp [e1, e2]
theorem it_zipL {a b : Addr} {xs ys : List D} {P P' : List Addr → Hp → Hp → Prop} (p : SqP K mg false a xs P) (q : SqP K mg false b ys P') : ItOk K mg (fun α F H => P α F H ∧ P' α F H) (Itz K a b) (zipD xs ys) where
  st := fun α F H α' F' H' s ⟨h1, h2⟩ => ⟨p.st _ _ _ _ _ _ s h1, q.st _ _ _ _ _ _ s h2⟩
  go := fun α F H m i g ⟨h1, h2⟩ hi => by
    obtain ⟨vs, s1, r1⟩ := p.rd _ _ _ _ g h1
    obtain ⟨ws, s2, r2⟩ := q.rd _ _ _ _ g h2
    obtain ⟨i1, i2⟩ := zip_at hi
    have l1 := r1.length
    have l2 := r2.length
    exact ⟨vs, ws, vs[i]'(by omega), ws[i]'(by omega), s1, s2, by simp, by simp⟩
  stop := fun α F H m g ⟨h1, h2⟩ => by
    obtain ⟨vs, s1, r1⟩ := p.rd _ _ _ _ g h1
    obtain ⟨ws, s2, r2⟩ := q.rd _ _ _ _ g h2
    have l1 := r1.length
    have l2 := r2.length
    exact ⟨vs, ws, s1, s2, by simp [zipD]; omega⟩
  yld := fun α F H m i x H' g ⟨h1, h2⟩ hi ⟨T, y, z, e, hT, eH, k1, k2⟩ => by
    subst e eH
    obtain ⟨vs, s1, r1⟩ := p.rd _ _ _ _ g h1
    obtain ⟨ws, s2, r2⟩ := q.rd _ _ _ _ g h2
    obtain ⟨d, q1, q2⟩ := r1.get (k1 vs s1)
    obtain ⟨d', q1', q2'⟩ := r2.get (k2 ws s2)
    obtain ⟨F', g', s', r'⟩ := g.pair hT q2 q2'
    exact ⟨F', _, g', s', zip_get q1 q1', r'⟩
theorem it_zipT {a b : Addr} {xs ys : List D} {P P' : List Addr → Hp → Hp → Prop} (p : SqP K mg true a xs P) (q : SqP K mg true b ys P') : ItOk K mg (fun α F H => P α F H ∧ P' α F H) (RZ.ItzT K a b) (zipD xs ys) where
  st := fun α F H α' F' H' s ⟨h1, h2⟩ => ⟨p.st _ _ _ _ _ _ s h1, q.st _ _ _ _ _ _ s h2⟩
  go := fun α F H m i g ⟨h1, h2⟩ hi => by
    obtain ⟨vs, s1, r1⟩ := p.rd _ _ _ _ g h1
    obtain ⟨ws, s2, r2⟩ := q.rd _ _ _ _ g h2
    obtain ⟨i1, i2⟩ := zip_at hi
    have l1 := r1.length
    have l2 := r2.length
    exact ⟨vs, ws, vs[i]'(by omega), ws[i]'(by omega), s1, s2, by simp, by simp⟩
  stop := fun α F H m g ⟨h1, h2⟩ => by
    obtain ⟨vs, s1, r1⟩ := p.rd _ _ _ _ g h1
    obtain ⟨ws, s2, r2⟩ := q.rd _ _ _ _ g h2
    have l1 := r1.length
    have l2 := r2.length
    exact ⟨vs, ws, s1, s2, by simp [zipD]; omega⟩
  yld := fun α F H m i x H' g ⟨h1, h2⟩ hi ⟨T, y, z, e, hT, eH, k1, k2⟩ => by
    subst e eH
    obtain ⟨vs, s1, r1⟩ := p.rd _ _ _ _ g h1
    obtain ⟨ws, s2, r2⟩ := q.rd _ _ _ _ g h2
    obtain ⟨d, q1, q2⟩ := r1.get (k1 vs s1)
    obtain ⟨d', q1', q2'⟩ := r2.get (k2 ws s2)
    obtain ⟨F', g', s', r'⟩ := g.pair hT q2 q2'
    exact ⟨F', _, g', s', zip_get q1 q1', r'⟩
/-- what a sequence is, for zip -/
def sqD : D → Option (Bool × List D)
  | .lst ds => some (false, ds)
  | .tup ds => some (true, ds)
  | .ktup ds => some (true, ds)
  | _ => none
theorem rb_sqp {α : List Addr} {F H : Hp} {v : V} {x : D} {b : Bool} {ds : List D} (h : RB K mg α F H v x) (e : sqD x = some (b, ds)) : ∃ a P, v = .ref a ∧ SqP K mg b a ds P ∧ P α F H := by
  rcases h with h | ⟨a, ho, e1, e2, e3, e4, e5⟩
  · cases h with
    | lst s r => cases e; exact ⟨_, _, rfl, sqp_l, _, .inl (.inl s), r⟩
    | tup s r => cases e; exact ⟨_, _, rfl, sqp_t, _, .inl (.inl s), r⟩
    | ktup s r => cases e; exact ⟨_, _, rfl, sqp_t, _, sqT_k s, r⟩
    | _ => cases e
  · cases e5 with
    | lst r => cases e; exact ⟨a, _, e1, sqp_o, e3, e4, _, .inl e2, r⟩
    | dK r => cases e
    | dT r => cases e
theorem rep_sqp {α : List Addr} {F : Hp} {v : V} {x : D} {b : Bool} {ds : List D} (h : Rep K mg α F v x) (e : sqD x = some (b, ds)) : ∃ a P, v = .ref a ∧ SqP K mg b a ds P ∧ (∀ H, P α F H) ∧ Stb P := by
  cases h with
  | lst s r => cases e; exact ⟨_, _, rfl, sqp_l, fun _ => ⟨_, .inl (.inl s), r⟩, stb_list⟩
  | tup s r => cases e; exact ⟨_, _, rfl, sqp_t, fun _ => ⟨_, .inl (.inl s), r⟩, stb_tup⟩
  | ktup s r => cases e; exact ⟨_, _, rfl, sqp_t, fun _ => ⟨_, sqT_k s, r⟩, stb_tup⟩
  | _ => cases e
end
def iZp (f g : Ed) : Id' := fun r m => (f r m).bind fun x m1 => (g r m1).bind fun y m2 => match sqD x, sqD y with
  | some (false, xs), some (false, ys) => .ok (zipD xs ys) m2
  | some (true, xs), some (true, ys) => .ok (zipD xs ys) m2
  | _, _ => .stuck
section
variable {X : Cx} {W : WX}
theorem qi_zipB {a b : Expr} {fa fb : Ed} {p pos tpos : Pos} {elts : List Expr} {kk : Nat} (hg : Gl X "zip") (hm : X.mg "zip" = none) (h : QE X W .bor a fa) (h' : QE X W .bor b fb) (hs : starEach [a, b] X.env = (false, eval a X.env) :: starEach [b] X.env := by rfl) (hs2 : starEach [b] X.env = [(false, eval b X.env)] := by rfl)
    (hpl : (backTo pos (starEach [b] X.env)).any (·.1) = false := by rfl) : QI X W false (.Tuple elts kk tpos) (.Call (.Name "zip" p) [a, b] [] pos) (iZp fa fb) := by
  obtain ⟨t, h1, h2⟩ := h.ex
  obtain ⟨u, h3, h4⟩ := h'.ex
  refine ⟨_, RZ.pi_zipA hg hm (pa_cons h1 (pa_cons h3 pa_nil hs2) hs) hs hpl, fun e Λ α F σ H r m S => ?_⟩
  refine At.bind (t := t σ H) (u := fun v H1 R => u σ H1 fun w H2 => ∃ a b xs ys, [v, w] = [V.ref a, V.ref b] ∧ ((SqL X.K H2 a xs ∧ SqL X.K H2 b ys ∧ R (Itz X.K a b) H2) ∨ (SqT X.K H2 a xs ∧ SqT X.K H2 b ys ∧ R (RZ.ItzT X.K a b) H2))) (Rl' := RlI X.K X.mg false) back_I (h2 e Λ α F σ H r m S) fun x m1 _ v α1 F1 H1 S1 s1 k1 => ?_
  refine At.bind (t := u σ H1) (u := fun w H2 R => ∃ a b xs ys, [v, w] = [V.ref a, V.ref b] ∧ ((SqL X.K H2 a xs ∧ SqL X.K H2 b ys ∧ R (Itz X.K a b) H2) ∨ (SqT X.K H2 a xs ∧ SqT X.K H2 b ys ∧ R (RZ.ItzT X.K a b) H2))) (Rl' := RlI X.K X.mg false) back_I (h4 e Λ α1 F1 σ H1 r m1 S1) fun y m2 _ w α2 F2 H2 S2 s2 k2 => ?_
  have k1 : RB X.K X.mg α2 F2 H2 v x := (RK.stay s2 k1).bor
  have k2 : RB X.K X.mg α2 F2 H2 w y := k2.bor
  split
  · rename_i xs ys e1 e2
    obtain ⟨a, P, rfl, p1, p2⟩ := rb_sqp k1 e1
    obtain ⟨b, P', rfl, q1, q2⟩ := rb_sqp k2 e2
    obtain ⟨vs, z1, _⟩ := p1.rd _ _ _ _ S2.g p2
    obtain ⟨ws, z2, _⟩ := q1.rd _ _ _ _ S2.g q2
    exact fun Q w => ⟨a, b, vs, ws, rfl, .inl ⟨z1, z2, w _ _ _ _ S2 (Stay.refl _ _ _) ⟨_, it_zipL p1 q1, ⟨p2, q2⟩, fun z => Bool.noConfusion z⟩⟩⟩
  · rename_i xs ys e1 e2
    obtain ⟨a, P, rfl, p1, p2⟩ := rb_sqp k1 e1
    obtain ⟨b, P', rfl, q1, q2⟩ := rb_sqp k2 e2
    obtain ⟨vs, z1, _⟩ := p1.rd _ _ _ _ S2.g p2
    obtain ⟨ws, z2, _⟩ := q1.rd _ _ _ _ S2.g q2
    exact fun Q w => ⟨a, b, vs, ws, rfl, .inr ⟨z1, z2, w _ _ _ _ S2 (Stay.refl _ _ _) ⟨_, it_zipT p1 q1, ⟨p2, q2⟩, fun z => Bool.noConfusion z⟩⟩⟩
  · trivial
theorem qi_zip {a b : Expr} {fa fb : Ed} {p pos tpos : Pos} {elts : List Expr} {kk : Nat} (hg : Gl X "zip") (hm : X.mg "zip" = none) (h : QE X W .froz a fa) (h' : QE X W .froz b fb) (hs : starEach [a, b] X.env = (false, eval a X.env) :: starEach [b] X.env := by rfl) (hs2 : starEach [b] X.env = [(false, eval b X.env)] := by rfl)
    (hpl : (backTo pos (starEach [b] X.env)).any (·.1) = false := by rfl) : QI X W true (.Tuple elts kk tpos) (.Call (.Name "zip" p) [a, b] [] pos) (iZp fa fb) := by
  obtain ⟨t, h1, h2⟩ := h.ex
  obtain ⟨u, h3, h4⟩ := h'.ex
  refine ⟨_, RZ.pi_zipA hg hm (pa_cons h1 (pa_cons h3 pa_nil hs2) hs) hs hpl, fun e Λ α F σ H r m S => ?_⟩
  refine At.bind (t := t σ H) (u := fun v H1 R => u σ H1 fun w H2 => ∃ a b xs ys, [v, w] = [V.ref a, V.ref b] ∧ ((SqL X.K H2 a xs ∧ SqL X.K H2 b ys ∧ R (Itz X.K a b) H2) ∨ (SqT X.K H2 a xs ∧ SqT X.K H2 b ys ∧ R (RZ.ItzT X.K a b) H2))) (Rl' := RlI X.K X.mg true) back_I (h2 e Λ α F σ H r m S) fun x m1 _ v α1 F1 H1 S1 s1 k1 => ?_
  refine At.bind (t := u σ H1) (u := fun w H2 R => ∃ a b xs ys, [v, w] = [V.ref a, V.ref b] ∧ ((SqL X.K H2 a xs ∧ SqL X.K H2 b ys ∧ R (Itz X.K a b) H2) ∨ (SqT X.K H2 a xs ∧ SqT X.K H2 b ys ∧ R (RZ.ItzT X.K a b) H2))) (Rl' := RlI X.K X.mg true) back_I (h4 e Λ α1 F1 σ H1 r m1 S1) fun y m2 _ w α2 F2 H2 S2 s2 k2 => ?_
  have k1 : Rep X.K X.mg α2 F2 v x := RK.stay (k := .froz) s2 k1
  have k2 : Rep X.K X.mg α2 F2 w y := k2
  split
  · rename_i xs ys e1 e2
    obtain ⟨a, P, rfl, p1, p2, p3⟩ := rep_sqp k1 e1
    obtain ⟨b, P', rfl, q1, q2, q3⟩ := rep_sqp k2 e2
    obtain ⟨vs, z1, _⟩ := p1.rd _ _ _ _ S2.g (p2 H2)
    obtain ⟨ws, z2, _⟩ := q1.rd _ _ _ _ S2.g (q2 H2)
    exact fun Q w => ⟨a, b, vs, ws, rfl, .inl ⟨z1, z2, w _ _ _ _ S2 (Stay.refl _ _ _) ⟨_, it_zipL p1 q1, ⟨p2 _, q2 _⟩, fun _ α F H Hb α' F' H' h1 h2 ⟨h3, h4⟩ => ⟨p3 _ _ _ _ _ _ _ h1 h2 h3, q3 _ _ _ _ _ _ _ h1 h2 h4⟩⟩⟩⟩
  · rename_i xs ys e1 e2
    obtain ⟨a, P, rfl, p1, p2, p3⟩ := rep_sqp k1 e1
    obtain ⟨b, P', rfl, q1, q2, q3⟩ := rep_sqp k2 e2
    obtain ⟨vs, z1, _⟩ := p1.rd _ _ _ _ S2.g (p2 H2)
    obtain ⟨ws, z2, _⟩ := q1.rd _ _ _ _ S2.g (q2 H2)
    exact fun Q w => ⟨a, b, vs, ws, rfl, .inr ⟨z1, z2, w _ _ _ _ S2 (Stay.refl _ _ _) ⟨_, it_zipT p1 q1, ⟨p2 _, q2 _⟩, fun _ α F H Hb α' F' H' h1 h2 ⟨h3, h4⟩ => ⟨p3 _ _ _ _ _ _ _ h1 h2 h3, q3 _ _ _ _ _ _ _ h1 h2 h4⟩⟩⟩⟩
  · trivial
end

/-! ### the keys of a frozen dict, or a list, or a tuple -/
section
variable {K : PySem.W.Frag} {mg : Str → Option Value}
theorem kV_rep {α : List Addr} {F : Hp} (k : Key) : Rep K mg α F (kV k) (keyD k) := by
  cases k with
  | inl i => exact .int i
  | inr x => exact .str x
theorem kVs_rep {α : List Addr} {F : Hp} : ∀ ks : List Key, RepL K mg α F (ks.map kV) (ks.map keyD)
  | [] => .nil
  | k :: ks => .cons (kV_rep k) (kVs_rep ks)
/-- a tuple that stands is taken into the frozen part -/
theorem G.adopt {α : List Addr} {F H : Hp} {m : Sto} (g : G K mg α F H m) {q : Addr} {vs : List V} {ds : List D} (h : H q = some (.tup vs)) (r : RepL K mg α F vs ds) : ∃ F', G K mg α F' H m ∧ Stay α F H α F' H ∧ Rep K mg α F' (.ref q) (.tup ds) := by
  cases e : F q with
  | some o =>
    have : o = .tup vs := by
      rcases g.sub _ _ e with ⟨z, _⟩ | ⟨_, ob, z⟩
      · rw [h] at z; exact (Option.some.inj z).symm
      · rw [h] at z; cases z
    subst this
    exact ⟨F, g, Stay.refl _ _ _, .tup e r⟩
  | none =>
    have fz : ∀ b o, F b = some o → upd F q (.tup vs) b = some o := fun b o hb => by rw [upd_ne (ne_of_none hb e)]; exact hb
    have ct : ∀ n a, α[n]? = some a → a ≠ q := fun n a hn z => by
      obtain ⟨_, ho, d, _, q3, q4⟩ := g.cell n a hn
      subst z
      rw [h] at q3; cases q3; cases q4
    refine ⟨upd F q (.tup vs), ⟨fun b o hb => ?_, g.len, g.nd, fun n a hn => ?_⟩, ⟨⟨[], by simp⟩, fz, fun _ _ _ z => z, fun _ z => .inl z, fun b o z1 z2 z3 => ?_, fun b o z => ⟨o, z, fun z => z⟩⟩, .tup upd_same (r.mono ⟨[], by simp⟩ fz)⟩
    · by_cases z : b = q
      · subst z; rw [upd_same] at hb; cases hb; exact .inl ⟨h, by rintro (⟨_, z⟩ | ⟨_, z⟩) <;> cases z⟩
      · rw [upd_ne z] at hb; exact g.sub b o hb
    · obtain ⟨q1, ho, d, q2, q3, q4⟩ := g.cell n a hn
      exact ⟨by rw [upd_ne (ct n a hn)]; exact q1, ho, d, q2, q3, q4.mono ⟨[], by simp⟩ fz⟩
    · rw [upd_ne (fun z => by subst z; rw [h] at z2; cases z2; exact z3 _ rfl)]; exact z1
abbrev PKy (d : Addr) (o : Obj) (u : HO) : List Addr → Hp → Hp → Prop := fun α F H => F d = some u ∧ d ∉ α ∧ H d = some (.frz o u)
theorem pky_st {d : Addr} {o : Obj} {u : HO} {α : List Addr} {F H : Hp} {α' : List Addr} {F' H' : Hp} (s : Stay α F H α' F' H') (h : PKy d o u α F H) : PKy d o u α' F' H' := ⟨s.fz _ _ h.1, s.na h.2.1 h.2.2, s.keep _ _ h.2.1 h.2.2⟩
theorem pky_stb {d : Addr} {o : Obj} {u : HO} : Stb (PKy d o u) := fun α F H Hb α' F' H' e s h => pky_st (H := Hb) s ⟨h.1, h.2.1, by rw [e _ _ h.1]; exact h.2.2⟩
theorem it_keysK {d : Addr} {o : Obj} {kvs : List (Key × V)} {ds : List (Key × D)} (hl : kvs.map (·.1) = ds.map (·.1)) : ItOk K mg (PKy d o (.dK kvs)) (Itk d o kvs) (ds.map fun kv => keyD kv.1) where
  st := fun α F H α' F' H' s h => pky_st s h
  go := fun α F H m i g h hi => ⟨h.2.2, by have := congrArg List.length hl; simp at this hi; omega⟩
  stop := fun α F H m g h => ⟨h.2.2, by have := congrArg List.length hl; simp at this ⊢; omega⟩
  yld := fun α F H m i x H' g h hi ⟨e, k, v, e1, e2⟩ => by
    subst e e2
    refine ⟨F, keyD k, g, Stay.refl _ _ _, ?_, kV_rep k⟩
    have : (kvs.map (·.1))[i]? = some k := by rw [List.getElem?_map, e1]; rfl
    rw [hl, List.getElem?_map] at this
    obtain ⟨p, hp, e⟩ := Option.map_eq_some_iff.mp this
    rw [List.getElem?_map, hp, ← e]; rfl
theorem it_keysT {d : Addr} {o : Obj} {kvs : List (List Key × V)} {ds : List (List Key × D)} (hl : kvs.map (·.1) = ds.map (·.1)) : ItOk K mg (PKy d o (.dT kvs)) (Itkt d o kvs) (ds.map fun kv => .tup (kv.1.map keyD)) where
  st := fun α F H α' F' H' s h => pky_st s h
  go := fun α F H m i g h hi => ⟨h.2.2, by have := congrArg List.length hl; simp at this hi; omega⟩
  stop := fun α F H m g h => ⟨h.2.2, by have := congrArg List.length hl; simp at this ⊢; omega⟩
  yld := fun α F H m i x H' g h hi ⟨e, k, v, q, e1, e2, e3⟩ => by
    subst e e2
    obtain ⟨F', g', s', r'⟩ := g.adopt e3 (kVs_rep (K := K) (mg := mg) (α := α) (F := F) k)
    refine ⟨F', _, g', s', ?_, r'⟩
    have : (kvs.map (·.1))[i]? = some k := by rw [List.getElem?_map, e1]; rfl
    rw [hl, List.getElem?_map] at this
    obtain ⟨p, hp, e⟩ := Option.map_eq_some_iff.mp this
    rw [List.getElem?_map, hp, ← e]; rfl
theorem TR.keys {κ : Type} {R : V → D → Prop} {vs : List (κ × V)} {ds : List (κ × D)} (h : TR R vs ds) : vs.map (·.1) = ds.map (·.1) := by
  induction h with
  | nil => rfl
  | cons r t ih => simp [ih]
/-- the values of a frozen dict -/
theorem it_vals {d : Addr} {o : Obj} {kvs : List (Key × V)} {ds : List (Key × D)} : ItOk K mg (fun α F H => PKy d o (.dK kvs) α F H ∧ RepK K mg α F kvs ds) (Itd d o kvs) (ds.map (·.2)) where
  st := fun α F H α' F' H' s h => ⟨pky_st s h.1, h.2.mono s.pre s.fz⟩
  go := fun α F H m i g h hi => ⟨h.1.2.2, by have := h.2.length; simp at hi; omega⟩
  stop := fun α F H m g h => ⟨h.1.2.2, by have := h.2.length; simp; omega⟩
  yld := fun α F H m i x H' g h hi ⟨e, k, e1⟩ => by
    subst e
    obtain ⟨y, hy, r⟩ := h.2.tr.at e1
    exact ⟨F, y, g, Stay.refl _ _ _, by rw [List.getElem?_map, hy]; rfl, r⟩
/-- the pairs of a frozen dict -/
theorem it_items {d : Addr} {o : Obj} {kvs : List (Key × V)} {ds : List (Key × D)} : ItOk K mg (fun α F H => PKy d o (.dK kvs) α F H ∧ RepK K mg α F kvs ds) (Iti d o kvs) (ds.map fun kv => .tup [keyD kv.1, kv.2]) where
  st := fun α F H α' F' H' s h => ⟨pky_st s h.1, h.2.mono s.pre s.fz⟩
  go := fun α F H m i g h hi => ⟨h.1.2.2, by have := h.2.length; simp at hi; omega⟩
  stop := fun α F H m g h => ⟨h.1.2.2, by have := h.2.length; simp; omega⟩
  yld := fun α F H m i x H' g h hi ⟨T, k, v, e1, e2, hT, eH⟩ => by
    subst e2 eH
    obtain ⟨y, hy, r⟩ := h.2.tr.at e1
    obtain ⟨F', g', s', r'⟩ := g.pair hT (kV_rep k) r
    exact ⟨F', _, g', s', by rw [List.getElem?_map, hy]; rfl, r'⟩
theorem stb_vals {d : Addr} {o : Obj} {kvs : List (Key × V)} {ds : List (Key × D)} : Stb (fun α F H => PKy d o (.dK kvs) α F H ∧ RepK K mg α F kvs ds) := fun α F H Hb α' F' H' e s h => ⟨pky_stb _ _ _ _ _ _ _ e s h.1, h.2.mono s.pre s.fz⟩
end
/-- what a for walks over when it stands there itself -/
def iterD : D → Option (List D)
  | .lst ds => some ds
  | .tup ds => some ds
  | .ktup ds => some ds
  | .dK kvs => some (kvs.map fun kv => keyD kv.1)
  | .dT kvs => some (kvs.map fun kv => .tup (kv.1.map keyD))
  | _ => none
def iAny (f : Ed) : Id' := fun r m => (f r m).bind fun x m1 => match iterD x with
  | some ds => .ok ds m1
  | none => .stuck
/-- a list, a tuple, a dict, walked -/
def iAnyT (K : PySem.W.Frag) (tl : TE) : TI := fun σ H R => tl σ H fun x H1 => ∃ a, x = .ref a ∧ ((((∃ xs, SqL K H1 a xs) ∧ R (Itl K a) H1) ∨ ((∃ xs, SqT K H1 a xs) ∧ R (Itt K a) H1)) ∨
  ∃ o, ((∃ kvs, H1 a = some (.frz o (.dK kvs)) ∧ R (Itk a o kvs) H1) ∨ ∃ kvs, H1 a = some (.frz o (.dT kvs)) ∧ R (Itkt a o kvs) H1))
theorem pi_any {X : Cx} {tg l : Expr} {tl : TE} (hl : PE X l tl) : PI X tg l (iAnyT X.K tl) := by
  refine ⟨fun pins s σ H R I h => ?_⟩
  refine thn (hl.run pins s σ H _ I h) fun v s1 ⟨x, H1, I1, r1, q1⟩ => ?_
  obtain ⟨a, e, (⟨⟨xs, hq⟩, q⟩ | ⟨⟨xs, hq⟩, q⟩) | ⟨o, q⟩⟩ := q1
  · subst e
    cases r1
    obtain ⟨its, rv, p, hz⟩ := I1.list hq
    refine wpAny_pyIter_list p.isList ?_
    refine ⟨s1.heap.objs.size, [s1.heap.objs.size], _, _, H1, rfl, I1.kept (t' := s1.toks) fun b o e => Heap.get?_push_of_some _ e, turn_list a _, ⟨_, Heap.get?_push_size _ rfl, rfl, rfl⟩, fun b hb => ?_, q⟩
    have e : b = s1.heap.objs.size := by simpa using hb
    subst e
    exact I1.fpOk (Nat.le_refl _) (I1.hok.fresh (Nat.le_refl _))
  · subst e
    cases r1
    obtain ⟨its, rv, p, hz⟩ := I1.tuple hq
    refine wpAny_pyIter_tuple (show s1.heap.IsTuple a its.toArray from p) ?_
    refine ⟨s1.heap.objs.size, [s1.heap.objs.size], _, _, H1, rfl, I1.kept (t' := s1.toks) fun b o e => Heap.get?_push_of_some _ e, turn_tuple a _, ⟨_, Heap.get?_push_size _ rfl, rfl, rfl⟩, fun b hb => ?_, q⟩
    have e : b = s1.heap.objs.size := by simpa using hb
    subst e
    exact I1.fpOk (Nat.le_refl _) (I1.hok.fresh (Nat.le_refl _))
  · subst e
    cases r1
    rcases q with ⟨kvs, hd, q⟩ | ⟨kvs, hd, q⟩
    · obtain ⟨hs, hgd, hx, es, ep, vs, hdt, hsz, kv, hm⟩ := I1.frzK hd
      refine iter_keys hs hgd hx hdt (pi_one (tk := s1.toks) I1 _ (turn_keys _ hdt) ⟨_, Heap.get?_push_size _ rfl, rfl, ?_⟩ q)
      rw [hsz] <;> rfl
    · obtain ⟨hs, hgd, hx, es, ep, hdt, hsz, ent⟩ := I1.frzT hd
      refine iter_keys hs hgd hx hdt (pi_one (tk := s1.toks) I1 _ (turn_keysT _ hdt) ⟨_, Heap.get?_push_size _ rfl, rfl, ?_⟩ q)
      rw [hsz] <;> rfl
theorem frz_d {K : PySem.W.Frag} {mg : Str → Option Value} {α : List Addr} {F H : Hp} {m : Sto} (g : G K mg α F H m) {a : Addr} {u : HO} (h : F a = some u) (hd : IsDc u) : ∃ o, PKy a o u α F H := by
  have na : a ∉ α := fun z => by
    obtain ⟨n, hn⟩ := List.mem_iff_getElem?.mp z
    obtain ⟨q1, _⟩ := g.cell n a hn
    rw [q1] at h; cases h
  rcases g.sub _ _ h with ⟨_, nd⟩ | ⟨_, ob, z⟩
  · exact absurd hd nd
  · exact ⟨ob, h, na, z⟩
theorem qi_any {X : Cx} {W : WX} {tg l : Expr} {f : Ed} (h : QE X W .froz l f) : QI X W true tg l (iAny f) := by
  obtain ⟨t, h1, h2⟩ := h.ex
  refine ⟨_, pi_any h1, fun e Λ α F σ H r m S => ?_⟩
  refine At.bind (t := t σ H) (u := fun x H1 R => ∃ a, x = .ref a ∧ ((((∃ xs, SqL X.K H1 a xs) ∧ R (Itl X.K a) H1) ∨ ((∃ xs, SqT X.K H1 a xs) ∧ R (Itt X.K a) H1)) ∨
    ∃ o, ((∃ kvs, H1 a = some (.frz o (.dK kvs)) ∧ R (Itk a o kvs) H1) ∨ ∃ kvs, H1 a = some (.frz o (.dT kvs)) ∧ R (Itkt a o kvs) H1))) (Rl' := RlI X.K X.mg true) back_I (h2 e Λ α F σ H r m S) fun x m1 _ v α1 F1 H1 S1 s1 k1 => ?_
  have k1 : Rep X.K X.mg α1 F1 v x := k1
  cases k1 with
  | lst s rl => exact fun Q w => ⟨_, rfl, .inl (.inl ⟨⟨_, S1.g.sub.seqL (.inl (.inl s))⟩, w _ _ _ _ S1 (Stay.refl _ _ _) ⟨_, it_list, ⟨_, .inl (.inl s), rl⟩, fun _ => stb_list⟩⟩)⟩
  | tup s rl => exact fun Q w => ⟨_, rfl, .inl (.inr ⟨⟨_, .inl (.inl (S1.g.sub.tup s))⟩, w _ _ _ _ S1 (Stay.refl _ _ _) ⟨_, it_tup, ⟨_, .inl (.inl s), rl⟩, fun _ => stb_tup⟩⟩)⟩
  | ktup s rl => exact fun Q w => ⟨_, rfl, .inl (.inr ⟨⟨_, sqT_k s⟩, w _ _ _ _ S1 (Stay.refl _ _ _) ⟨_, it_tup, ⟨_, sqT_k s, rl⟩, fun _ => stb_tup⟩⟩)⟩
  | dK s rl =>
    obtain ⟨o, p⟩ := frz_d S1.g s (.inl ⟨_, rfl⟩)
    exact fun Q w => ⟨_, rfl, .inr ⟨o, .inl ⟨_, p.2.2, w _ _ _ _ S1 (Stay.refl _ _ _) ⟨_, it_keysK rl.tr.keys, p, fun _ => pky_stb⟩⟩⟩⟩
  | dT s rl =>
    obtain ⟨o, p⟩ := frz_d S1.g s (.inr ⟨_, rfl⟩)
    exact fun Q w => ⟨_, rfl, .inr ⟨o, .inr ⟨_, p.2.2, w _ _ _ _ S1 (Stay.refl _ _ _) ⟨_, it_keysT rl.tr.keys, p, fun _ => pky_stb⟩⟩⟩⟩
  | _ => trivial
/-- d.values(), d.items() of a frozen dict -/
def iVl (f : Ed) : Id' := fun r m => (f r m).bind fun x m1 => match x with
  | .dK kvs => .ok (kvs.map (·.2)) m1
  | _ => .stuck
def iIt (f : Ed) : Id' := fun r m => (f r m).bind fun x m1 => match x with
  | .dK kvs => .ok (kvs.map fun kv => .tup [keyD kv.1, kv.2]) m1
  | _ => .stuck
theorem qi_values {X : Cx} {W : WX} {tg e : Expr} {f : Ed} {apos cpos : Pos} (h : QE X W .froz e f) (hbase : attributeBase e "values" X.env (eval e X.env) = eval e X.env := by rfl) (hline : (apos.endLine == cpos.line) = true := by rfl) : QI X W true tg (.Call (.Attribute e "values" apos) [] [] cpos) (iVl f) := by
  obtain ⟨t, h1, h2⟩ := h.ex
  refine ⟨_, pi_values h1 hbase hline, fun e Λ α F σ H r m S => ?_⟩
  refine At.bind (t := t σ H) (u := fun x H1 R => ∃ d o kvs, x = .ref d ∧ H1 d = some (.frz o (.dK kvs)) ∧ R (Itd d o kvs) H1) (Rl' := RlI X.K X.mg true) back_I (h2 e Λ α F σ H r m S) fun x m1 _ v α1 F1 H1 S1 s1 k1 => ?_
  have k1 : Rep X.K X.mg α1 F1 v x := k1
  cases k1 with
  | dK s rl =>
    obtain ⟨o, p⟩ := frz_d S1.g s (.inl ⟨_, rfl⟩)
    exact fun Q w => ⟨_, o, _, rfl, p.2.2, w _ _ _ _ S1 (Stay.refl _ _ _) ⟨_, it_vals, ⟨p, rl⟩, fun _ => stb_vals⟩⟩
  | _ => trivial
theorem qi_items {X : Cx} {W : WX} {e : Expr} {f : Ed} {apos cpos tpos : Pos} {elts : List Expr} {kk : Nat} (h : QE X W .froz e f) (hbase : attributeBase e "items" X.env (eval e X.env) = eval e X.env := by rfl) (hline : (apos.endLine == cpos.line) = true := by rfl) : QI X W true (.Tuple elts kk tpos) (.Call (.Attribute e "items" apos) [] [] cpos) (iIt f) := by
  obtain ⟨t, h1, h2⟩ := h.ex
  refine ⟨_, pi_items h1 hbase hline, fun e Λ α F σ H r m S => ?_⟩
  refine At.bind (t := t σ H) (u := fun x H1 R => ∃ d o kvs, x = .ref d ∧ H1 d = some (.frz o (.dK kvs)) ∧ R (Iti d o kvs) H1) (Rl' := RlI X.K X.mg true) back_I (h2 e Λ α F σ H r m S) fun x m1 _ v α1 F1 H1 S1 s1 k1 => ?_
  have k1 : Rep X.K X.mg α1 F1 v x := k1
  cases k1 with
  | dK s rl =>
    obtain ⟨o, p⟩ := frz_d S1.g s (.inl ⟨_, rfl⟩)
    exact fun Q w => ⟨_, o, _, rfl, p.2.2, w _ _ _ _ S1 (Stay.refl _ _ _) ⟨_, it_items, ⟨p, rl⟩, fun _ => stb_vals⟩⟩
  | _ => trivial
end Q
end
section
set_option Elab.async false
set_option linter.all false
set_option maxRecDepth 100000
set_option maxHeartbeats 2000000
namespace Q
open PySem L2 PySem.Spec PyProof.Rows PySem.W

/-! ### sorted of a list, a tuple, a dict -/
theorem reads_there {h : Heap} {v : Value} {d : PyData} {as : List Addr} (r : Reads h v d as) : ∀ a ∈ as, ∃ o, h.get? a = some o := by
  refine Reads.rec (motive_1 := fun _ _ as _ => ∀ a ∈ as, ∃ o, h.get? a = some o) (motive_2 := fun _ _ as _ => ∀ a ∈ as, ∃ o, h.get? a = some o)
    ?none ?bool ?int ?str ?list ?tuple ?dict ?nil ?cons r
  case none => exact fun a ha => by cases ha
  case bool => exact fun _ a ha => by cases ha
  case int => exact fun _ _ a ha => by cases ha
  case str => exact fun _ _ a ha => by cases ha
  case list =>
    intro a o vs n xs as ho _ _ _ ih b hb
    rcases List.mem_cons.mp hb with rfl | hb
    · exact ⟨o, ho⟩
    · exact ih b hb
  case tuple => exact fun _ _ _ _ ih b hb => ih b hb
  case dict =>
    intro a o es n kvs as bs ho _ _ _ _ ih1 ih2 b hb
    rcases List.mem_cons.mp hb with rfl | hb
    · exact ⟨o, ho⟩
    · rcases List.mem_append.mp hb with hb | hb
      · exact ih1 b hb
      · exact ih2 b hb
  case nil => exact fun a ha => by cases ha
  case cons => exact fun _ _ ih1 ih2 b hb => (List.mem_append.mp hb).elim (ih1 b) (ih2 b)
section
variable {X : Cx}
theorem sorted_coll {pins : List (Addr × Obj)} {σ : L2.St} {H : Hp} {s : Shared} {u : Value} {Q : VK} {xs : List V} {bs : List D} {T : V → D → Prop} (hu : X.A.units + 64 < cLine) (I : Inv X pins σ H s)
    (hc : ∀ (R : List Value → Shared → Prop) (E' : Value → Shared → Prop), (∀ h' tk us, (∀ b o, s.heap.get? b = some o → h'.get? b = some o) → Vals xs us → R us { s with heap := h', toks := tk }) → wpAny (model X.prog X.w) X.A.in1 (collect u) R E' s)
    (hT : EachIs T xs bs) (hD : EachIs (fun x b => Dp X.K H x b.pyD) xs bs) (hal : AllAlike (bs.map D.pyD)) (hso : Sortable (bs.map D.pyD)) (hz : bs.length ≤ sizeLine) (hdp : ∀ b, b ∈ bs → b.pyD.depth ≤ 60)
    (q : ∀ (ys : List V) (p : Addr), EachIs T ys (bs.mergeSort (dataLe false D.pyD)) → H p = none → Q (.ref p) (upd H p (.lst ys))) : wpAny (model X.prog X.w) X.A (call (.builtin "sorted") [u]) (EP X pins σ Q) X.xe s := by
  refine Calls.call_function_entry PyProof.Rows.kind_sorted PyProof.Rows.plain_sorted PyProof.Rows.entry_sorted (PyProof.Rows.args_sorted1 _) ?_
  unfold Builtin.«sorted»
  refine wpAny_bind (m := checkCount "sorted" 1 1 _) (wpAny_pure ?_)
  refine wpAny_bind (hc _ _ fun h' tk us hk rv => ?_)
  have I1 : Inv X pins σ H { s with heap := h', toks := tk } := I.kept hk
  have hlen : us.length = bs.length := by rw [← rv.length, each_len hT]
  refine wpAny_bind (wpAny_newList ?_ (by rw [hlen]; exact hz))
  have hoL : (h'.push (seqObj "list" us.toArray 0)).get? h'.objs.size = some (seqObj "list" us.toArray 0) := Heap.get?_push_size _ rfl
  show wpAny _ _ _ _ _ { s with heap := h'.push (seqObj "list" us.toArray 0), toks := tk }
  have e1 := each_vals rv hT
  have kp : ∀ b o, h'.get? b = some o → (h'.push (seqObj "list" us.toArray 0)).get? b = some o := fun b o e => Heap.get?_push_of_some _ e
  have e2 : EachIs (fun v b => ∃ as, Reads (h'.push (seqObj "list" us.toArray 0)) v (D.pyD b) as ∧ h'.objs.size ∉ as) us bs := each_mono (fun u b ⟨x, r, d⟩ => by
    obtain ⟨as, ra⟩ := Dp.reads I1 _ x u d r
    refine ⟨as, PyProof.Rows.Reads.keeps kp ra, fun z => ?_⟩
    obtain ⟨o, ho⟩ := reads_there ra _ z
    exact absurd (Heap.lt_size ho) (Nat.lt_irrefl _)) (each_vals rv hD)
  refine wpAny_bind (wpAny_holding (list_sort_data (s := { s with heap := h'.push (seqObj "list" us.toArray 0), toks := tk }) (enc := D.pyD) hoL e1 e2 hal hso hz (fun b hb => by have := hdp b hb; show X.A.units + 1 + 1 + _ < _; omega) fun out ho h => ?_))
  obtain ⟨ys, h1, h2⟩ := vals_each h
  obtain ⟨ep, he'⟩ := PyProof.Rows.sortedHeap_at (vs := us) (out := List.toArray out) hoL
  have hl2 : ys.length ≤ sizeLine := by rw [h1.length, ho]; exact hz
  refine wpAny_pure ⟨_, rfl, .ref h'.objs.size, upd H h'.objs.size (.lst ys), I1.laid (t' := tk) (fun b u e => ?_) (Nat.le_refl _) (show ObjOk X.prog X.w _ _ _ (.lst ys) from ⟨hl2, out, ep, h1, he'⟩), rfl, q ys _ h2 (I1.hok.fresh (Nat.le_refl _))⟩
  have hb : b < h'.objs.size := Heap.lt_size e
  rw [PyProof.Rows.sortedHeap_old (Nat.ne_of_lt hb) (by rw [size_push']; exact Nat.lt_succ_of_lt hb)]
  exact Heap.get?_push_of_some _ e
/-- what is gone through: its items -/
def Src (K : PySem.W.Frag) (H : Hp) (a : Addr) (P : List V → Prop) : Prop :=
  (∃ xs, (SqL K H a xs ∨ SqT K H a xs) ∧ P xs) ∨ (∃ kvs, Rd H a (.dK kvs) ∧ P (kvs.map fun kv => kV kv.1)) ∨ ∃ kvs, Rd H a (.dT kvs) ∧ ∀ bs, IsKeys H kvs bs → P (bs.map V.ref)
def SortP (K : PySem.W.Frag) (H : Hp) (Q : VK) (xs : List V) : Prop := ∃ (bs : List D) (T : V → D → Prop), EachIs T xs bs ∧ EachIs (fun x b => Dp K H x b.pyD) xs bs ∧ AllAlike (bs.map D.pyD) ∧ Sortable (bs.map D.pyD) ∧ bs.length ≤ sizeLine ∧ (∀ b, b ∈ bs → b.pyD.depth ≤ 60) ∧
  ∀ (ys : List V) (p : Addr), EachIs T ys (bs.mergeSort (dataLe false D.pyD)) → H p = none → Q (.ref p) (upd H p (.lst ys))
def rSortS (K : PySem.W.Frag) : List V → Hp → VK → Prop := fun vs H Q => ∃ a, vs = [.ref a] ∧ Src K H a (SortP K H Q)
theorem cr_sortS (hc : X.calm = true) (hu : X.A.units + 64 < cLine) : CallR X (.builtin "sorted") (rSortS X.K) := by
  intro pins s σ H vs us Q I r ⟨a, e, h⟩
  subst e
  rw [Vals.ref1 r]
  rcases h with ⟨xs, hs, bs, T, hT, hD, hal, hso, hz, hdp, q⟩ | ⟨kvs, hd, bs, T, hT, hD, hal, hso, hz, hdp, q⟩ | ⟨kvs, hd, h⟩
  · refine sorted_coll hu I (fun R E' hR => ?_) hT hD hal hso hz hdp q
    have hl := each_len hT
    rcases hs with hs | hs
    · obtain ⟨its, rv, pl, hz'⟩ := I.list hs
      obtain ⟨o, ho, hc', n, hd⟩ := pl.isList
      have e : its.toArray.toList = its := by simp
      refine wpAny_collect_seq a (.inl rfl) ho hc' hd (fun h' hk => ?_) (by rw [List.size_toArray, ← rv.length, hl]; exact hz)
      rw [e]; exact hR h' s.toks its hk rv
    · obtain ⟨its, rv, pl, hz'⟩ := I.tuple hs
      obtain ⟨o, ho, hc', n, hd⟩ := (show s.heap.IsTuple a its.toArray from pl)
      have e : its.toArray.toList = its := by simp
      refine wpAny_collect_seq a (.inr rfl) ho hc' hd (fun h' hk => ?_) (by rw [List.size_toArray, ← rv.length, hl]; exact hz)
      rw [e]; exact hR h' s.toks its hk rv
  · refine sorted_coll hu I (fun R E' hR => ?_) hT hD hal hso hz hdp q
    obtain ⟨z, lo, vs, rel, dd⟩ := dk_rd I.hok hd
    obtain ⟨ep, hat⟩ := dd.dictAt
    have hl : kvs.length = vs.length := Paired.length rel
    refine PySem.W.kdu_collect (A := X.A.in1) (PySem.W.kdl_dict (knd := mixKind X.prog X.w) (kvs := vs) (ep := ep) lo) (I.ok.hd hc) hat (by rw [← hl]; exact z) fun h' tk acc hk hacc => hR h' tk _ hk ?_
    have el : acc.toList.length = acc.size := by simp
    refine vals_of_at (by rw [List.length_map, el, hacc.1, hl]) fun j x w h1 h2 => ?_
    obtain ⟨k, y, hky, hi⟩ := hacc.2 j w (by rw [← Array.getElem?_toList]; exact h2)
    have e1 : (kvs.map (·.1))[j]? = some k := by
      rw [KV.keys rel, List.getElem?_map, hky] <;> rfl
    have e2 : (kvs.map fun kv => kV kv.1)[j]? = some (kV k) := by
      have e3 : (kvs.map fun kv => kV kv.1) = (kvs.map (·.1)).map kV := by rw [List.map_map] <;> rfl
      rw [e3, List.getElem?_map, e1] <;> rfl
    rw [e2] at h1
    cases h1
    exact keyIs_rel hi
  · obtain ⟨z, hs, ks, pr, o, es, ep, ho, hx, hdt, he, hn⟩ := (show ObjOk X.prog X.w H s.heap a (.dT kvs) from hd.ok I.hok)
    have l1 : es.size = ks.length := size_of_entries he
    have l2 : kvs.length = ks.length := Paired.length pr
    obtain ⟨bs, T, hT, hD, hal, hso, hz, hdp, q⟩ := h _ (isKeys_of pr)
    refine sorted_coll hu I (fun R E' hR => ?_) hT hD hal hso hz hdp q
    refine PySem.W.kdu_collect (A := X.A.in1) (kdl_raw hs hx hdt) (I.ok.hd hc) ho (by omega) fun h' tk acc' kp it => hR h' tk _ kp ?_
    have ea : acc'.toList = ks.map fun x => Value.ref x.2.1 := by
      have hl : acc'.toList.length = ks.length := by rw [Array.length_toList, it.1]; exact l1
      apply List.ext_getElem?
      intro j
      rw [List.getElem?_map]
      cases hj : acc'.toList[j]? with
      | none =>
        have h1 := List.getElem?_eq_none_iff.mp hj
        rw [List.getElem?_eq_none (by omega)]
        all_goals rfl
      | some v =>
        obtain ⟨en, hen, hv⟩ := it.2 j v (by rw [← Array.getElem?_toList]; exact hj)
        have qe := entry_at he j
        rw [hen] at qe
        cases hb : ks[j]? with
        | none =>
          rw [hb] at qe
          exact nomatch (show some en = none from qe)
        | some b =>
          rw [hb] at qe
          have e2 : en = entryOfKey (tupleKind (mixKind X.prog X.w)) b := Option.some.inj qe
          rw [hv, e2]
          all_goals rfl
    have eb : acc'.toList = (ks.map fun x => x.2.1).map Value.ref := by rw [ea, List.map_map]; all_goals rfl
    rw [eb]; exact vals_refs _
end
def gSort : Sto → List D → Option D := fun m xs => match xs with
  | [x] => match (dr m x).bind iterD with
    | some ds => if (sortOk ds && decide (ds.length ≤ SZ)) = true then some (.lst (sortD ds)) else none
    | none => none
  | _ => none
section
variable {K : PySem.W.Frag} {mg : Str → Option Value} {α : List Addr} {F H : Hp} {m : Sto} {v : V} {x : D}
theorem adopt_keys : ∀ {kvs : List (List Key × V)} {bs : List Addr} {α : List Addr} {F H : Hp} {m : Sto}, G K mg α F H m → IsKeys H kvs bs → ∃ F', G K mg α F' H m ∧ Stay α F H α F' H ∧ RepL K mg α F' (bs.map V.ref) (kvs.map fun kv => .tup (kv.1.map keyD))
  | _, _, _, F, _, _, g, .nil => ⟨F, g, Stay.refl _ _ _, .nil⟩
  | _, _, α, F, H, m, g, .cons (a := p) (b := b) h t => by
    obtain ⟨F1, g1, s1, r1⟩ := g.adopt h (kVs_rep (K := K) (mg := mg) (α := α) (F := F) p.1)
    obtain ⟨F2, g2, s2, r2⟩ := adopt_keys g1 t
    exact ⟨F2, g2, s1.trans s2, .cons (r1.mono s2.pre s2.fz) r2⟩
/-- the items of what is gone through -/
theorem src_of {ds : List D} {P : List V → Prop} (g : G K mg α F H m) (h : RB K mg α F H v x) (e : (dr m x).bind iterD = some ds) (hp : ∀ F' xs, G K mg α F' H m → Stay α F H α F' H → RepL K mg α F' xs ds → P xs) : ∃ a, v = .ref a ∧ Src K H a P := by
  cases z : dr m x with
  | none => rw [z] at e; cases e
  | some d =>
    rw [z] at e
    cases d with
    | lst ys => cases e; obtain ⟨a, ws, rfl, s, r⟩ := cont_lst g h z; exact ⟨a, rfl, .inl ⟨ws, .inl s, hp F ws g (Stay.refl _ _ _) r⟩⟩
    | tup ys => cases e; obtain ⟨_, a, ws, rfl, s, _, r⟩ := cont_tup g h z; exact ⟨a, rfl, .inl ⟨ws, .inr (.inl (.inl s)), hp F ws g (Stay.refl _ _ _) r⟩⟩
    | ktup ys =>
      cases e
      have zz := dr_scal h g z trivial
      obtain ⟨a, ws, rfl, s, r⟩ := cont_seqT g h (.inr zz)
      exact ⟨a, rfl, .inl ⟨ws, .inr s, hp F ws g (Stay.refl _ _ _) r⟩⟩
    | dK kvs =>
      cases e
      obtain ⟨a, ws, rfl, s, r⟩ := cont_dK g h z
      refine ⟨a, rfl, .inr (.inl ⟨ws, s, hp F _ g (Stay.refl _ _ _) ?_⟩)⟩
      have := r.tr.keys
      have e1 : (ws.map fun kv => kV kv.1) = (ws.map (·.1)).map kV := by rw [List.map_map]; rfl
      have e2 : (kvs.map fun kv => keyD kv.1) = (kvs.map (·.1)).map keyD := by rw [List.map_map]; rfl
      rw [e1, e2, this]; exact kVs_rep _
    | dT kvs =>
      cases e
      obtain ⟨a, ws, rfl, s, r⟩ := cont_dT g h z
      refine ⟨a, rfl, .inr (.inr ⟨ws, s, fun bs hb => ?_⟩)⟩
      obtain ⟨F', g', s', r'⟩ := adopt_keys g hb
      refine hp F' _ g' s' ?_
      have := r.tr.keys
      have e1 : (ws.map fun kv => D.tup (kv.1.map keyD)) = (ws.map (·.1)).map fun k => D.tup (k.map keyD) := by rw [List.map_map]; rfl
      have e2 : (kvs.map fun kv => D.tup (kv.1.map keyD)) = (kvs.map (·.1)).map fun k => D.tup (k.map keyD) := by rw [List.map_map]; rfl
      rw [e1, this, ← e2] at r'
      exact r'
    | _ => cases e
theorem snd_sort : SndN K mg .fre (rSortS K) gSort := by
  intro α F H m vs xs d g h e Q q
  unfold gSort at e
  split at e
  · cases h with
    | cons h1 h2 =>
      cases h2
      split at e
      · rename_i ds e1
        split at e
        · rename_i c
          cases e
          rw [Bool.and_eq_true, decide_eq_true_eq] at c
          obtain ⟨c, hz⟩ := c
          unfold sortOk at c
          split at c
          · rename_i ps e2
            simp only [Bool.and_eq_true] at c
            have e3 := pys_all e2
            subst e3
            obtain ⟨a, rfl, hs⟩ := src_of (P := SortP K H Q) g h1 e1 fun F' ws g' s' r => by
              refine ⟨ds, fun v d => Rep K mg α F' v d, repL_each r, repL_eachDp g'.sub r e2, fun p hp p' hp' => ?_, sortB_ok c.1.2, sz hz, fun b hb => ?_, fun ys p he hp => ?_⟩
              · have := c.1.1
                unfold sortOk.alikeB' at this
                exact List.all_eq_true.mp (List.all_eq_true.mp this p hp) p' hp'
              · have := List.all_eq_true.mp c.2 b.pyD (List.mem_map.mpr ⟨b, hb, rfl⟩)
                exact of_decide_eq_true this
              · obtain ⟨g2, s2, k2⟩ := g'.fre hp (.lst (each_repL he))
                exact q _ _ _ _ g2 (s'.trans s2) k2
            exact ⟨a, rfl, hs⟩
          · cases c
        · cases e
      · cases e
  · cases e
end
end Q
end
section
set_option Elab.async false
set_option linter.all false
set_option maxRecDepth 100000
set_option maxHeartbeats 2000000
namespace Q
open PySem L2 PySem.Spec PyProof.Rows PySem.W

/-! ### d == {} -/
section
variable {prog : Program} {w : World} {A : Around} {E : Value → Shared → Prop} {s : Shared}
theorem samePairs0 {nm : String} {a b : Addr} {oa ob : Obj} {es es' : Array DictEntry} {ep ep' : Nat} {Q : Bool → Shared → Prop} (ha : (a == sysModules) = false) (hb : (b == sysModules) = false)
    (hoa : s.heap.get? a = some oa) (hda : oa.data = .dict es ep) (hob : s.heap.get? b = some ob) (hdb : ob.data = .dict es' ep') (hz : es'.size = 0) (h : Q (es.size == 0) s) : wpAny (model prog w) A (Builtin.Dict.samePairs nm a b) Q E s := by
  unfold Builtin.Dict.samePairs Builtin.Dict.showsAll
  rw [if_neg (show ¬ (a == sysModules) = true by rw [ha]; exact Bool.false_ne_true), if_neg (show ¬ (b == sysModules) = true by rw [hb]; exact Bool.false_ne_true)]
  refine wpAny_bind (wpAny_pure (wpAny_bind (wpAny_pure ?_)))
  refine wpAny_bind (wpAny_dictEntries hoa hda ?_)
  dsimp only
  refine wpAny_bind (wpAny_dictEntries hob hdb ?_)
  by_cases hsz : es.size = 0
  · rw [if_neg (by rw [hsz, hz]; simp)]
    refine wpAny_bind (wpAny_dictEpoch hoa hda ?_)
    refine wpAny_bind ?_
    rw [Std.Legacy.Range.forIn_eq_forIn_range']
    have e0 : List.range' 0 (Std.Legacy.Range.size [:es.size]) = [] := by
      simp [Std.Legacy.Range.size, hsz]
    have h : Q true s := by rw [hsz] at h; exact h
    simp only [hsz]
    exact wpAny_pure (wpAny_pure h)
  · rw [if_pos (by rw [hz]; simpa using hsz)]
    have hbf : (es.size == 0) = false := by simpa using hsz
    rw [hbf] at h
    exact wpAny_bind (wpAny_rule (wpAny_pure h))
end
section
variable {prog : Program} {w : World} {A : Around} {E : Value → Shared → Prop} {s : Shared} {a b : Addr} {oa ob : Obj} {es es' : Array DictEntry} {ep ep' : Nat} {Q : Value → Shared → Prop}
theorem rc_eq0 (ha : (a == sysModules) = false) (hb : (b == sysModules) = false) (ta : s.TypeIs (.ref a) "dict") (tb : s.TypeIs (.ref b) "dict")
    (hoa : s.heap.get? a = some oa) (hda : oa.data = .dict es ep) (hob : s.heap.get? b = some ob) (hdb : ob.data = .dict es' ep') (hz : es'.size = 0) (hu : A.units < cLine) (h : Q (.bool (es.size == 0)) s) : wpAny (model prog w) A (richCompare .Eq (.ref a) (.ref b)) Q E s := by
  refine wpAny_richCompare_same_room (op := .Eq) ta tb PySem.F.slot_dict_eq (wpAny_call_entry PySem.F.slot_dict_eq ta PySem.F.entry_dict_eq ?_ (PySem.F.args_dict_eq_2 _ _)) hu
  show wpAny _ _ (Builtin.Dict.dictSlotArgs "__eq__" ⟨[.ref a, .ref b], []⟩ >>= _) _ _ s
  refine wpAny_bind ?_
  unfold Builtin.Dict.dictSlotArgs
  refine wpAny_bind (wpAny_notOrdered_dict ta ?_)
  show wpAny _ _ (pure (Value.ref a, Value.ref b)) _ _ s
  refine wpAny_pure ?_
  refine wpAny_bind (wpAny_isInstance (T := "dict") tb PySem.F.sub_dict_dict ?_)
  simp only [Bool.not_true, Bool.false_eq_true, if_false]
  refine wpAny_bind (wpAny_pure (wpAny_bind (wpAny_pure ?_)))
  refine wpAny_bind (samePairs0 ha hb hoa hda hob hdb hz ?_)
  refine wpAny_pure ⟨_, rfl, ?_, ?_⟩
  · exact fun x => nomatch x
  · simpa using h
theorem rc_ne0 (ha : (a == sysModules) = false) (hb : (b == sysModules) = false) (ta : s.TypeIs (.ref a) "dict") (tb : s.TypeIs (.ref b) "dict")
    (hoa : s.heap.get? a = some oa) (hda : oa.data = .dict es ep) (hob : s.heap.get? b = some ob) (hdb : ob.data = .dict es' ep') (hz : es'.size = 0) (hu : A.units < cLine) (h : Q (.bool (!(es.size == 0))) s) : wpAny (model prog w) A (richCompare .NotEq (.ref a) (.ref b)) Q E s := by
  refine wpAny_richCompare_same_room (op := .NotEq) ta tb PySem.F.slot_dict_ne (wpAny_call_entry PySem.F.slot_dict_ne ta PySem.F.entry_dict_ne ?_ (PySem.F.args_dict_ne_2 _ _)) hu
  show wpAny _ _ (Builtin.Dict.dictSlotArgs "__ne__" ⟨[.ref a, .ref b], []⟩ >>= _) _ _ s
  refine wpAny_bind ?_
  unfold Builtin.Dict.dictSlotArgs
  refine wpAny_bind (wpAny_notOrdered_dict ta ?_)
  show wpAny _ _ (pure (Value.ref a, Value.ref b)) _ _ s
  refine wpAny_pure ?_
  refine wpAny_bind (wpAny_isInstance (T := "dict") tb PySem.F.sub_dict_dict ?_)
  simp only [Bool.not_true, Bool.false_eq_true, if_false]
  refine wpAny_bind (wpAny_pure (wpAny_bind (wpAny_pure ?_)))
  refine wpAny_bind (samePairs0 ha hb hoa hda hob hdb hz ?_)
  refine wpAny_pure ⟨_, rfl, ?_, ?_⟩
  · exact fun x => nomatch x
  · simpa using h
end
/-- a dict of n pairs -/
def SzD (H : Hp) (a : Addr) (n : Nat) : Prop := (∃ kvs, Rd H a (.dK kvs) ∧ kvs.length = n) ∨ ∃ kvs, Rd H a (.dT kvs) ∧ kvs.length = n
theorem szd_at {X : Cx} {pins : List (Addr × Obj)} {σ : L2.St} {H : Hp} {s : Shared} {a : Addr} {n : Nat} (I : Inv X pins σ H s) (h : SzD H a n) : (a == sysModules) = false ∧ s.TypeIs (.ref a) "dict" ∧ ∃ oa es ep, s.heap.get? a = some oa ∧ oa.data = .dict es ep ∧ es.size = n := by
  rcases h with ⟨kvs, hd, rfl⟩ | ⟨kvs, hd, rfl⟩
  · obtain ⟨z, hs, vs, rel, dd⟩ := dk_rd I.hok hd
    have l2 : kvs.length = vs.length := Paired.length rel
    have ht := dd.typeIs
    obtain ⟨oa, es, ep, hoa, _, hda, hka, hpa, _⟩ := dd
    have hla : vs.length = es.size := by rw [← hpa.length]; exact Array.length_toList
    exact ⟨hs, ht, oa, es, ep, hoa, hda, by omega⟩
  · obtain ⟨z, hs, ks, pr, o, es, ep, ho, hx, hdt, he, hn⟩ := (show ObjOk X.prog X.w H s.heap a (.dT kvs) from hd.ok I.hok)
    have l1 : es.size = ks.length := size_of_entries he
    have l2 : kvs.length = ks.length := Paired.length pr
    exact ⟨hs, ⟨o, ho, hx.1⟩, o, es, ep, ho, hdt, by omega⟩
def rEq0 (neg : Bool) : R2 := fun x y H Q => ∃ a b n, x = .ref a ∧ y = .ref b ∧ SzD H a n ∧ SzD H b 0 ∧ Q (.bl (if neg = true then !(n == 0) else n == 0)) H
theorem op_eq0 {X : Cx} (hu : X.A.units + 64 < cLine) : OpR X (compareOp .Eq) (rEq0 false) := by
  intro pins s σ H x y v u Q I rx ry ⟨a, b, n, ea, eb, h1, h2, q⟩
  subst ea eb
  obtain rfl : v = Value.ref a := rx
  obtain rfl : u = Value.ref b := ry
  obtain ⟨p1, p2, oa, es, ep, p3, p4, p5⟩ := szd_at I h1
  obtain ⟨q1, q2, ob, es', ep', q3, q4, q5⟩ := szd_at I h2
  exact rc_eq0 p1 q1 p2 q2 p3 p4 q3 q4 q5 (by omega) ⟨.bl (n == 0), H, I, by rw [p5]; rfl, q⟩
theorem op_ne0 {X : Cx} (hu : X.A.units + 64 < cLine) : OpR X (compareOp .NotEq) (rEq0 true) := by
  intro pins s σ H x y v u Q I rx ry ⟨a, b, n, ea, eb, h1, h2, q⟩
  subst ea eb
  obtain rfl : v = Value.ref a := rx
  obtain rfl : u = Value.ref b := ry
  obtain ⟨p1, p2, oa, es, ep, p3, p4, p5⟩ := szd_at I h1
  obtain ⟨q1, q2, ob, es', ep', q3, q4, q5⟩ := szd_at I h2
  exact rc_ne0 p1 q1 p2 q2 p3 p4 q3 q4 q5 (by omega) ⟨.bl (!(n == 0)), H, I, by rw [p5]; rfl, q⟩
/-- how many pairs a dict has -/
def dSize (m : Sto) (x : D) : Option Nat := match dr m x with
  | some (.dK kvs) => some kvs.length
  | some (.dT kvs) => some kvs.length
  | _ => none
/-- ==, !=: of data; of a dict and {} -/
def gEqA (neg : Bool) : Sto → D → D → Option D := fun m x y => match dSize m x, dSize m y with
  | some n, some 0 => some (.bl (if neg = true then !(n == 0) else n == 0))
  | _, _ => if neg = true then gNe m x y else gEq m x y
def rEqA (K : PySem.W.Frag) : R2 := fun x y H Q => rEqD K x y H Q ∨ rEq0 false x y H Q
def rNeA (K : PySem.W.Frag) : R2 := fun x y H Q => rNeD K x y H Q ∨ rEq0 true x y H Q
theorem op_eqA {X : Cx} (hu : X.A.units + 64 < cLine) : OpR X (compareOp .Eq) (rEqA X.K) := OpR.or (op_eqD hu) (op_eq0 hu)
theorem op_neA {X : Cx} (hu : X.A.units + 64 < cLine) : OpR X (compareOp .NotEq) (rNeA X.K) := OpR.or (op_neD hu) (op_ne0 hu)
section
variable {K : PySem.W.Frag} {mg : Str → Option Value}
theorem size_at {α : List Addr} {F H : Hp} {m : Sto} {v : V} {x : D} {n : Nat} (g : G K mg α F H m) (h : RB K mg α F H v x) (e : dSize m x = some n) : ∃ a, v = .ref a ∧ SzD H a n := by
  unfold dSize at e
  split at e
  · rename_i kvs e1
    cases e
    obtain ⟨a, vs, rfl, s, r⟩ := cont_dK g h e1
    exact ⟨a, rfl, .inl ⟨vs, s, r.length⟩⟩
  · rename_i kvs e1
    cases e
    obtain ⟨a, vs, rfl, s, r⟩ := cont_dT g h e1
    exact ⟨a, rfl, .inr ⟨vs, s, r.length⟩⟩
  · cases e
theorem snd_eqA : Snd2 K mg .froz (rEqA K) (gEqA false) := by
  intro α F H m v w x y d g h1 h2 e Q q
  unfold gEqA at e
  split at e
  · rename_i n e1 e2
    cases e
    obtain ⟨a, rfl, s1⟩ := size_at g h1 e1
    obtain ⟨b, rfl, s2⟩ := size_at g h2 e2
    exact .inr ⟨a, b, n, rfl, rfl, s1, s2, q _ _ _ _ g (Stay.refl _ _ _) (.bl _)⟩
  · exact .inl (snd_eq _ _ _ _ _ _ _ _ _ g h1 h2 e Q q)
theorem snd_neA : Snd2 K mg .froz (rNeA K) (gEqA true) := by
  intro α F H m v w x y d g h1 h2 e Q q
  unfold gEqA at e
  split at e
  · rename_i n e1 e2
    cases e
    obtain ⟨a, rfl, s1⟩ := size_at g h1 e1
    obtain ⟨b, rfl, s2⟩ := size_at g h2 e2
    exact .inr ⟨a, b, n, rfl, rfl, s1, s2, q _ _ _ _ g (Stay.refl _ _ _) (.bl _)⟩
  · exact .inl (snd_ne _ _ _ _ _ _ _ _ _ g h1 h2 e Q q)
/-! ### str() -/
def gStr : Sto → List D → Option D := fun _ xs => match xs with
  | [.str x] => some (.str x)
  | [.int i] => if i.natAbs < 2 ^ 64 then some (.str (toString i)) else none
  | _ => none
theorem snd_str : SndN K mg .froz (fun xs H Q => (∃ a, xs = [.str a] ∧ Q (.str a) H) ∨ ∃ i, xs = [.int i] ∧ i.natAbs.log2 < 1920 ∧ Q (.str (toString i)) H) gStr := by
  intro α F H m vs xs d g h e Q q
  unfold gStr at e
  split at e
  · cases h with
    | cons h1 h2 =>
      cases h2
      cases e
      have z := rb_str h1
      subst z
      exact .inl ⟨_, rfl, q _ _ _ _ g (Stay.refl _ _ _) (.str _)⟩
  · cases h with
    | cons h1 h2 =>
      cases h2
      split at e
      · rename_i i _ hz
        cases e
        have z := rb_int h1
        subst z
        refine .inr ⟨i, rfl, ?_, q _ _ _ _ g (Stay.refl _ _ _) (.str _)⟩
        by_cases h0 : i.natAbs = 0
        · rw [h0]; decide
        · have := (Nat.log2_lt h0).mpr hz
          omega
      · cases e
  · cases e
end
theorem call_strA {X : Cx} : CallR X (.type "str") (fun xs H Q => (∃ a, xs = [.str a] ∧ Q (.str a) H) ∨ ∃ i, xs = [.int i] ∧ i.natAbs.log2 < 1920 ∧ Q (.str (toString i)) H) := CallR.or SkE.call_str_str call_str_int

/-! ### len(set(xs)), xs a list of tuples of ints -/
def intsT : D → Option (List Int)
  | .tup xs => intsOf xs
  | _ => none
def intsTs : List D → Option (List (List Int))
  | [] => some []
  | x :: xs => match intsT x, intsTs xs with
    | some a, some b => some (a :: b)
    | _, _ => none
/-- how many are there, each counted once -/
def dedupL : List (List Int) → List (List Int)
  | [] => []
  | x :: xs => if x ∈ xs then dedupL xs else x :: dedupL xs
theorem dedupL_ok : ∀ l : List (List Int), (dedupL l).Nodup ∧ ∀ k, k ∈ dedupL l ↔ k ∈ l
  | [] => ⟨List.nodup_nil, fun _ => Iff.rfl⟩
  | x :: xs => by
    obtain ⟨h1, h2⟩ := dedupL_ok xs
    unfold dedupL
    by_cases h : x ∈ xs
    · rw [if_pos h]
      refine ⟨h1, fun k => ?_⟩
      rw [h2, List.mem_cons]
      exact ⟨.inr, fun z => z.elim (fun z => z ▸ h) id⟩
    · rw [if_neg h]
      refine ⟨List.nodup_cons.mpr ⟨fun z => h ((h2 x).mp z), h1⟩, fun k => ?_⟩
      rw [List.mem_cons, List.mem_cons, h2]
def countD (l : List (List Int)) : Nat := (dedupL l).length
def tLenSetT (K : PySem.W.Frag) (ta : TE) : TE := fun σ H Q => ta σ H fun x H1 => ∃ (l : Addr) (ks : List (Addr × List Int)), x = V.ref l ∧ SqL K H1 l (ks.map fun p => V.ref p.1) ∧ (∀ p ∈ ks, SqT K H1 p.1 (p.2.map V.int)) ∧ ks.length < 64 ∧ ∀ n : Nat, (∃ L : List (List Int), L.Nodup ∧ L.length = n ∧ ∀ k, k ∈ L ↔ k ∈ ks.map (·.2)) → Q (.int n) H1
theorem pe_lenSetT {X : Cx} {a : Expr} {ta : TE} {p p2 q pos : Pos} (hc : X.calm = true) (hu : X.A.units + 64 < cLine) (hg : Gl X "len") (hm : X.mg "len" = none) (hg2 : Gl X "set") (hm2 : X.mg "set" = none) (ha : PE X a ta)
    (na : starEach [a] X.env = (false, eval a X.env) :: starEach [] X.env := by rfl) : PE X (.Call (.Name "len" p) [.Call (.Name "set" p2) [a] [] q] [] pos) (tLenSetT X.K ta) := by
  refine ⟨fun pins s σ H Q I h => ?_⟩
  refine Call_ (ld_blt I hg hm PySem.boot_len ?_)
  refine PyProof.Rows.callWith_builtin1 (PyProof.Rows.args_cons ?_ rfl) rfl rfl
  refine Call_ (ld_blt I hg2 hm2 PyProof.Rows.boot_set ?_)
  refine PyProof.Rows.callWith_type1 (PyProof.Rows.args_cons (thn (ha.run pins s σ H _ I h) fun v s1 ⟨x, H1, I1, r1, q1⟩ => PyProof.Rows.args_nil ?_) na) na rfl
  obtain ⟨l, ks, rfl, hl, hk, hf, q1⟩ := q1
  cases r1
  obtain ⟨its, rv, pl, hz⟩ := I1.list hl
  refine call_set_tups (P := X.prog) (w := X.w) ks (I1.ok.hd hc) pl.isList (by simpa using refs_of_vals rv) (fun p hp => I1.isT (hk p hp)) hf (by omega) fun h' tk L es ep t R g k => ?_
  refine PyProof.Rows.args_nil ?_
  have I2 : Inv X pins σ H1 { s1 with heap := h', toks := tk } := I1.kept fun b o e => k b o e
  obtain ⟨o, ho, hex, hd⟩ := R.ob
  have hs := SetTR.size (s := { s1 with heap := h', toks := tk }) R
  have hfw := R.few
  refine call_len_set (s := { s1 with heap := h', toks := tk }) ho hex hd (SetTR.fits (s := { s1 with heap := h', toks := tk }) R) (by rw [hs]; omega) ⟨.int L.length, H1, I2.tok _, ⟨_, by rw [hs]⟩, q1 _ ⟨L.map (·.2), R.nd, by rw [List.length_map], fun z => ⟨fun hz => ?_, fun hz => ?_⟩⟩⟩
  · obtain ⟨p, hp, e⟩ := List.mem_map.mp hz
    exact List.mem_map.mpr ⟨p, List.mem_of_mem_take (g.sub p hp), e⟩
  · obtain ⟨p, hp, e⟩ := List.mem_map.mp hz
    rw [← e]
    exact g.all p (by rw [List.take_length]; exact hp)
theorem nodup_len {l l' : List (List Int)} (h1 : l.Nodup) (h2 : l'.Nodup) (h : ∀ k, k ∈ l ↔ k ∈ l') : l.length = l'.length := (List.perm_ext_iff_of_nodup h1 h2 |>.mpr h).length_eq
def eLenSet (f : Ed) : Ed := fun r m => (f r m).bind fun x m1 => match dr m1 x with
  | some (.lst ds) => match intsTs ds with
    | some l => if l.length < 64 then .ok (.int (countD l)) m1 else .stuck
    | none => .stuck
  | _ => .stuck
section
variable {K : PySem.W.Frag} {mg : Str → Option Value}
theorem intsTs_reps {α : List Addr} {F : Hp} : ∀ {vs : List V} {ds : List D} {l : List (List Int)}, RepL K mg α F vs ds → intsTs ds = some l → ∃ ks : List (Addr × List Int), vs = ks.map (fun p => V.ref p.1) ∧ ks.map (·.2) = l ∧ ∀ p ∈ ks, SqT K F p.1 (p.2.map V.int)
  | _, _, _, .nil, e => by cases e; exact ⟨[], rfl, rfl, fun p h => by cases h⟩
  | _, _, _, .cons (d := d) (ds := ds) r t, e => by
    unfold intsTs at e
    cases z : intsT d with
    | none => rw [z] at e; cases e
    | some a =>
      cases z' : intsTs ds with
      | none => rw [z, z'] at e; cases e
      | some b =>
        rw [z, z'] at e
        cases e
        obtain ⟨ks, h1, h2, h3⟩ := intsTs_reps t z'
        cases r with
        | @tup ad ws es s rl =>
          have hi : intsOf es = some a := z
          have e2 := ints_vals rl hi
          refine ⟨(ad, a) :: ks, by rw [h1]; rfl, by rw [List.map_cons, h2], fun p hp => ?_⟩
          rcases List.mem_cons.mp hp with rfl | hp
          · exact .inl (.inl (by rw [← e2]; exact s))
          · exact h3 p hp
        | _ => cases z
end
theorem qe_lenSet {X : Cx} {W : WX} {a : Expr} {f : Ed} {p p2 q pos : Pos} (hc : X.calm = true) (hu : X.A.units + 64 < cLine) (hg : Gl X "len") (hm : X.mg "len" = none) (hg2 : Gl X "set") (hm2 : X.mg "set" = none) (ha : QE X W .bor a f)
    (na : starEach [a] X.env = (false, eval a X.env) :: starEach [] X.env := by rfl) : QE X W .froz (.Call (.Name "len" p) [.Call (.Name "set" p2) [a] [] q] [] pos) (eLenSet f) := by
  obtain ⟨t, h1, h2⟩ := ha.ex
  refine ⟨_, pe_lenSetT hc hu hg hm hg2 hm2 h1 na, fun e Λ α F σ H r m S => ?_⟩
  refine At.bind (t := t σ H) (u := fun x H1 Q => ∃ (l : Addr) (ks : List (Addr × List Int)), x = V.ref l ∧ SqL X.K H1 l (ks.map fun p => V.ref p.1) ∧ (∀ p ∈ ks, SqT X.K H1 p.1 (p.2.map V.int)) ∧ ks.length < 64 ∧ ∀ n : Nat, (∃ L : List (List Int), L.Nodup ∧ L.length = n ∧ ∀ k, k ∈ L ↔ k ∈ ks.map (·.2)) → Q (.int n) H1) (Rl' := RlK X.K X.mg .froz) back_K (h2 e Λ α F σ H r m S) fun x m1 _ v α1 F1 H1 S1 s1 k1 => ?_
  split
  · rename_i ds e1
    split
    · rename_i l e2
      split
      · rename_i hl
        obtain ⟨b, vs, rfl, s, rl⟩ := cont_lst S1.g k1 e1
        obtain ⟨ks, g1, g2, g3⟩ := intsTs_reps rl e2
        subst g1 g2
        refine fun Q w => ⟨b, ks, rfl, s, fun p hp => S1.g.sub.seqT (g3 p hp), by simpa using hl, fun n ⟨L, n1, n2, n3⟩ => ?_⟩
        have : n = countD (ks.map (·.2)) := by
          rw [← n2]
          obtain ⟨q1, q2⟩ := dedupL_ok (ks.map (·.2))
          exact nodup_len n1 q1 fun k => (n3 k).trans (q2 k).symm
        rw [this]
        exact w _ _ _ _ S1 (Stay.refl _ _ _) (.int _)
      · trivial
    · trivial
  · trivial
end Q
end
section
set_option Elab.async false
set_option linter.all false
set_option maxRecDepth 100000
set_option maxHeartbeats 2000000
namespace Q
open PySem L2 PySem.Spec PyProof.Rows

/-! ### names of the module -/
theorem qe_globI {X : Cx} {W : WX} {x : Str} {i : Int} {t : Tok} {pos : Pos} (hg : Gl X x) (hm : X.mg x = some (.int i t)) (hd : (x == ("__debug__" : Str)) = false := by decide) : QE X W .froz (.Name x pos) (eC (.int i)) :=
  qe_c (pe_glob (v := .int i) hg hm ⟨t, rfl⟩ hd) fun _ _ => .int i
theorem qe_globS {X : Cx} {W : WX} {x y : Str} {t : Tok} {pos : Pos} (hg : Gl X x) (hm : X.mg x = some (.str y t)) (hd : (x == ("__debug__" : Str)) = false := by decide) : QE X W .froz (.Name x pos) (eC (.str y)) :=
  qe_c (pe_glob (v := .str y) hg hm ⟨t, rfl⟩ hd) fun _ _ => .str y
theorem qe_globT {X : Cx} {W : WX} {x : Str} {a : Addr} {vs : List V} {ds : List D} {pos : Pos} (hg : Gl X x) (hm : X.mg x = some (.ref a)) (hq : SqT X.K (fun _ => none) a vs) (hr : ∀ α F, RepL X.K X.mg α F vs ds) (hd : (x == ("__debug__" : Str)) = false := by decide) : QE X W .froz (.Name x pos) (eC (.ktup ds)) :=
  qe_c (pe_glob (v := .ref a) hg hm rfl hd) fun _ _ => .ktup hq (hr _ _)
/-- a def as a value -/
theorem qe_globF {X : Cx} {W : WX} {x : Str} {a : Addr} {pos : Pos} (hg : Gl X x) (hm : X.mg x = some (.ref a)) (hd : (x == ("__debug__" : Str)) = false := by decide) : QE X W .froz (.Name x pos) (eC (.fn x)) :=
  qe_c (pe_glob (v := .ref a) hg hm rfl hd) fun _ _ => .fn hm

/-! ### {} -/
theorem qe_newK {X : Cx} {W : WX} {pos : Pos} : QE X W .fre (.Dict [] [] pos) (eC (.dK [])) :=
  ⟨_, pe_dnewK, fun e Λ α F σ H r m S Q w p hp => by
    obtain ⟨g', s', k'⟩ := S.g.fre hp (.dK .nil)
    exact w _ _ _ _ (S.stay s' g') s' k'⟩
theorem qe_newT {X : Cx} {W : WX} {pos : Pos} : QE X W .fre (.Dict [] [] pos) (eC (.dT [])) :=
  ⟨_, pe_dnewT, fun e Λ α F σ H r m S Q w p hp => by
    obtain ⟨g', s', k'⟩ := S.g.fre hp (.dT .nil)
    exact w _ _ _ _ (S.stay s' g') s' k'⟩

/-! ### a op b op c -/
def eChain (g g' : Sto → D → D → Option D) (fa fb fc : Ed) : Ed := fun r m => (fa r m).bind fun x m1 => (fb r m1).bind fun y m2 => match g m2 x y with
  | some (.bl true) => (fc r m2).bind fun z m3 => lift (g' m3 y z) m3
  | some (.bl false) => .ok (.bl false) m2
  | _ => .stuck
theorem snd_chain {K : PySem.W.Frag} {mg : Str → Option Value} {W : WX} {r r' : R2} {g g' : Sto → D → D → Option D} (hs : Snd2 K mg .froz r g) (hs' : Snd2 K mg .froz r' g') {ta tb tc : TE} {fa fb fc : Ed} (ha : SndE K mg W .bor ta fa) (hb : SndE K mg W .bor tb fb) (hc : SndE K mg W .bor tc fc) : SndE K mg W .froz (tChain r r' ta tb tc) (eChain g g' fa fb fc) := by
  intro e Λ α F σ H ρ m S
  refine At.bind (t := ta σ H) (u := fun x H1 Q => tb σ H1 fun y H2 => r x y H2 fun z H3 => ∃ k, z = .bl k ∧ (if k = true then tc σ H3 fun w' H4 => r' y w' H4 Q else Q (.bl false) H3)) back_K (ha e Λ α F σ H ρ m S) fun x m1 _ v α1 F1 H1 S1 s1 k1 => ?_
  refine At.bind (t := tb σ H1) (u := fun y H2 Q => r v y H2 fun z H3 => ∃ k, z = .bl k ∧ (if k = true then tc σ H3 fun w' H4 => r' y w' H4 Q else Q (.bl false) H3)) back_K (hb e Λ α1 F1 σ H1 ρ m1 S1) fun y m2 _ w α2 F2 H2 S2 s2 k2 => ?_
  have kv : RB K mg α2 F2 H2 v x := (k1.stay s2)
  have run : ∀ {d : D} {R : VK}, g m2 x y = some d → (∀ u α' F' H', G K mg α' F' H' m2 → Stay α2 F2 H2 α' F' H' → RK K mg H2 α' F' H' u d .froz → R u H') → r v w H2 R := fun {d R} q w' => hs _ _ _ _ _ _ _ _ _ S2.g kv k2 q R w'
  split
  · rename_i q
    cases hf : fc ρ m2 with
    | stuck => trivial
    | exc n m3 =>
      intro wx Q
      refine run q fun u α3 F3 H3 g3 s3 k3 => ?_
      have e3 : u = .bl true := Rep.bl_inv k3
      refine ⟨true, e3, ?_⟩
      rw [if_pos rfl]
      have z := hc e Λ α3 F3 σ H3 ρ m2 (S2.stay s3 g3)
      rw [hf] at z
      exact z wx _
    | ok z3 m3 =>
      show At _ _ _ _ _ _ _ _ _ _ _ _ (lift (g' m3 y z3) m3)
      cases hg : g' m3 y z3 with
      | none => trivial
      | some d =>
        intro Q wq
        refine run q fun u α3 F3 H3 g3 s3 k3 => ?_
        have e3 : u = .bl true := Rep.bl_inv k3
        refine ⟨true, e3, ?_⟩
        rw [if_pos rfl]
        have z := hc e Λ α3 F3 σ H3 ρ m2 (S2.stay s3 g3)
        rw [hf] at z
        refine z _ fun w3 α4 F4 H4 S4 s4 k4 => ?_
        exact hs' _ _ _ _ _ _ _ _ _ S4.g ((k2.stay s3).stay s4).bor k4.bor hg Q fun u5 α5 F5 H5 g5 s5 k5 => wq u5 α5 F5 H5 (S4.stay s5 g5) ((s3.trans s4).trans s5) k5
  · rename_i q
    intro Q wq
    refine run q fun u α3 F3 H3 g3 s3 k3 => ?_
    have e3 : u = .bl false := Rep.bl_inv k3
    refine ⟨false, e3, ?_⟩
    rw [if_neg Bool.false_ne_true]
    exact wq _ _ _ _ (S2.stay s3 g3) s3 (.bl false)
  · trivial
section
variable {X : Cx} {W : WX} {op op' : CmpOp} {r r' : R2} {g g' : Sto → D → D → Option D} {a b c : Expr} {fa fb fc : Ed} {pos : Pos}
theorem qe_chain (ho : OpR X (compareOp op) r) (ho' : OpR X (compareOp op') r') (hs : Snd2 X.K X.mg .froz r g) (hs' : Snd2 X.K X.mg .froz r' g') (ha : QE X W .bor a fa) (hb : QE X W .bor b fb) (hc : QE X W .bor c fc)
    (hm : lastMarks [op, op'] [b, c] = false := by with_unfolding_all rfl) : QE X W .froz (.Compare a [op, op'] [b, c] pos) (eChain g g' fa fb fc) := by
  obtain ⟨ta, a1, a2⟩ := ha.ex
  obtain ⟨tb, b1, b2⟩ := hb.ex
  obtain ⟨tc, c1, c2⟩ := hc.ex
  exact ⟨_, pe_chain ho ho' a1 b1 c1 hm, snd_chain hs hs' a2 b2 c2⟩
theorem qt_chain (ho : OpR X (compareOp op) r) (ho' : OpR X (compareOp op') r') (hs : Snd2 X.K X.mg .froz r g) (hs' : Snd2 X.K X.mg .froz r' g') (ha : QE X W .bor a fa) (hb : QE X W .bor b fb) (hc : QE X W .bor c fc)
    (hm : lastMarks [op, op'] [b, c] = false := by with_unfolding_all rfl) : QT X W (.Compare a [op, op'] [b, c] pos) (bE (eChain g g' fa fb fc)) := by
  obtain ⟨ta, a1, a2⟩ := ha.ex
  obtain ⟨tb, b1, b2⟩ := hb.ex
  obtain ⟨tc, c1, c2⟩ := hc.ex
  exact ⟨_, pt_chain ho ho' a1 b1 c1 hm, snd_tB (snd_chain hs hs' a2 b2 c2)⟩
end

/-! ### a, b = x, y -/
def slK (fr : Bool) (d : D) : Sl := if fr = true then .own d else .dat d
section
variable {K : PySem.W.Frag} {mg : Str → Option Value} {e : En} {Λ : Nat → Option (V × D)} {α : List Addr} {F : Hp} {σ : L2.St} {H : Hp} {r : Env} {m : Sto}
theorem Sig.setK (S : Sig K mg e Λ α F σ H r m) {fr : Bool} {i : Nat} {v : V} {d : D} {H0 : Hp} (k : RK K mg H0 α F H v d (kdOf fr)) (h0 : ∀ a, H0 a = none → e.H a = none)
    (hn : ∀ a (j : Nat) (d' : D), H0 a = none → (r[j]? = some (.own d') ∨ r[j]? = some (.lok d')) → σ[j]? ≠ some (some (.ref a))) : Sig K mg e Λ α F (σ.set i (some v)) H (r.set i (slK fr d)) m := by
  cases fr with
  | false => exact S.set k
  | true =>
    obtain ⟨a, ho, e1, e2, e3, e4, e5, e6⟩ := k
    subst e1
    exact S.setOwn e2 ⟨e3, e4, h0 a e5, e6⟩ fun j d' _ hj => hn a j d' e5 hj
/-- the slots behind a store -/
theorem slot_set {i j : Nat} {fr : Bool} {d d' : D} {v : V} {a : Addr} (h : (r.set i (slK fr d))[j]? = some (.own d') ∨ (r.set i (slK fr d))[j]? = some (.lok d')) (hz : (σ.set i (some v))[j]? = some (some (.ref a))) :
    (i = j ∧ v = .ref a ∧ fr = true) ∨ ((r[j]? = some (.own d') ∨ r[j]? = some (.lok d')) ∧ σ[j]? = some (some (.ref a))) := by
  by_cases ij : i = j
  · subst ij
    by_cases hl : i < r.length
    · rw [List.getElem?_set_self hl] at h
      by_cases hs : i < σ.length
      · rw [List.getElem?_set_self hs] at hz
        cases hz
        cases fr with
        | true => exact .inl ⟨rfl, rfl, rfl⟩
        | false => rcases h with h | h <;> cases h
      · rw [List.getElem?_eq_none (by simpa using hs)] at hz; cases hz
    · rw [List.getElem?_eq_none (by simpa using hl)] at h
      rcases h with h | h <;> cases h
  · rw [List.getElem?_set_ne ij] at h hz
    exact .inr ⟨h, hz⟩
theorem rk_at {H0 : Hp} {v : V} {d : D} {fr : Bool} {a : Addr} (k : RK K mg H0 α F H v d (kdOf fr)) (hf : fr = true) (hv : v = .ref a) : ∃ o, H a = some o := by
  subst hf hv
  obtain ⟨b, ho, e1, e2, _⟩ := k
  cases e1
  exact ⟨_, e2⟩
end
def sPar2 (i j : Nat) (ka kb : Bool) (fa fb : Ed) : Sd := fun r m => (fa r m).out fun x m1 => (fb r m1).out fun y m2 => .nx ((r.set i (slK ka x)).set j (slK kb y)) m2
def sPar3 (i j l : Nat) (ka kb kc : Bool) (fa fb fc : Ed) : Sd := fun r m => (fa r m).out fun x m1 => (fb r m1).out fun y m2 => (fc r m2).out fun z m3 => .nx (((r.set i (slK ka x)).set j (slK kb y)).set l (slK kc z)) m3
section
variable {X : Cx} {W : WX}
theorem qs_par2 (i j : Nat) (ka kb : Bool) {x y : Str} {a b : Expr} {fa fb : Ed} {px py pt pos : Pos} {kt k2 pt2} (hc : X.calm = true) (hN : X.N.Nodup) (hx : X.env.scope.names.lookup x = some .local) (hy : X.env.scope.names.lookup y = some .local) (ha : QE X W (kdOf ka) a fa) (hb : QE X W (kdOf kb) b fb)
    (hw : swappedStores [.Tuple [.Name x px, .Name y py] kt pt] (.Tuple [a, b] k2 pt2) X.env = pure (some [x, y])) (hi : X.N[i]? = some x := by rfl) (hj : X.N[j]? = some y := by rfl) (hij : i ≠ j := by decide)
    (hs : swapsWithSole [.Tuple [.Name x px, .Name y py] kt pt] (.Tuple [a, b] k2 pt2) pos.line X.env = pure false := by rfl) (h1 : starEach [a, b] X.env = (false, eval a X.env) :: starEach [b] X.env := by rfl) (h2 : starEach [b] X.env = (false, eval b X.env) :: starEach [] X.env := by rfl) :
    QS X W (.Assign [.Tuple [.Name x px, .Name y py] kt pt] (.Tuple [a, b] k2 pt2) pos) (sPar2 i j ka kb fa fb) := by
  obtain ⟨ta, a1, a2⟩ := ha.ex
  obtain ⟨tb, b1, b2⟩ := hb.ex
  refine ⟨_, ps_par hc hN hi hj hij hx hy (pa_cons a1 (pa_cons b1 pa_nil h2) h1) hw hs, fun e Λ α F σ H r m D S hp => ?_⟩
  refine At.out (t := ta σ H) (a2 e Λ α F σ H r m S) hp fun d1 m1 _ hp v α1 F1 H1 S1 s1 k1 => ?_
  show tb σ H1 fun w H2 => ∃ v' w', [v, w] = [v', w'] ∧ D.nx ((σ.set i (some v')).set j (some w')) H2
  refine At.out (t := tb σ H1) (b2 e Λ α1 F1 σ H1 r m1 S1) hp fun d2 m2 _ hp w α2 F2 H2 S2 s2 k2 => ⟨v, w, rfl, hp α2 F2 _ _ ?_⟩
  have S3 := S2.setK (i := i) (H0 := H) (k1.stay s2) (fun a => S.e0) fun a j' d' h hj' hz => by
    obtain ⟨o, q⟩ := S.there hj' hz
    rw [h] at q; cases q
  refine S3.setK (i := j) (H0 := H1) k2 (fun a => S1.e0) fun a j' d' h hj' hz => ?_
  rcases slot_set hj' hz with ⟨_, ev, hf⟩ | ⟨q1, q2⟩
  · obtain ⟨o, q⟩ := rk_at k1 hf ev
    rw [h] at q; cases q
  · obtain ⟨o, q⟩ := S1.there q1 q2
    rw [h] at q; cases q
theorem qs_par3 (i j l : Nat) (ka kb kc : Bool) {x y z : Str} {a b c : Expr} {fa fb fc : Ed} {px py pz pt pos : Pos} {kt k2 pt2} (hc : X.calm = true) (hN : X.N.Nodup) (hx : X.env.scope.names.lookup x = some .local) (hy : X.env.scope.names.lookup y = some .local) (hz : X.env.scope.names.lookup z = some .local) (ha : QE X W (kdOf ka) a fa) (hb : QE X W (kdOf kb) b fb) (hcc : QE X W (kdOf kc) c fc)
    (hw : swappedStores [.Tuple [.Name x px, .Name y py, .Name z pz] kt pt] (.Tuple [a, b, c] k2 pt2) X.env = pure (some [x, y, z])) (hi : X.N[i]? = some x := by rfl) (hj : X.N[j]? = some y := by rfl) (hl : X.N[l]? = some z := by rfl) (hij : i ≠ j := by decide) (hil : i ≠ l := by decide) (hjl : j ≠ l := by decide)
    (hs : swapsWithSole [.Tuple [.Name x px, .Name y py, .Name z pz] kt pt] (.Tuple [a, b, c] k2 pt2) pos.line X.env = pure false := by rfl) (h1 : starEach [a, b, c] X.env = (false, eval a X.env) :: starEach [b, c] X.env := by rfl) (h2 : starEach [b, c] X.env = (false, eval b X.env) :: starEach [c] X.env := by rfl) (h3 : starEach [c] X.env = (false, eval c X.env) :: starEach [] X.env := by rfl) :
    QS X W (.Assign [.Tuple [.Name x px, .Name y py, .Name z pz] kt pt] (.Tuple [a, b, c] k2 pt2) pos) (sPar3 i j l ka kb kc fa fb fc) := by
  obtain ⟨ta, a1, a2⟩ := ha.ex
  obtain ⟨tb, b1, b2⟩ := hb.ex
  obtain ⟨tc, c1, c2⟩ := hcc.ex
  refine ⟨_, ps_par3 hc hN hi hj hl hij hil hjl hx hy hz (pa_cons a1 (pa_cons b1 (pa_cons c1 pa_nil h3) h2) h1) hw hs, fun e Λ α F σ H r m D S hp => ?_⟩
  refine At.out (t := ta σ H) (a2 e Λ α F σ H r m S) hp fun d1 m1 _ hp v α1 F1 H1 S1 s1 k1 => ?_
  show tb σ H1 fun w H2 => tc σ H2 fun u H3 => ∃ v' w' u', [v, w, u] = [v', w', u'] ∧ D.nx (((σ.set i (some v')).set j (some w')).set l (some u')) H3
  refine At.out (t := tb σ H1) (b2 e Λ α1 F1 σ H1 r m1 S1) hp fun d2 m2 _ hp w α2 F2 H2 S2 s2 k2 => ?_
  refine At.out (t := tc σ H2) (c2 e Λ α2 F2 σ H2 r m2 S2) hp fun d3 m3 _ hp u α3 F3 H3 S3 s3 k3 => ⟨v, w, u, rfl, hp α3 F3 _ _ ?_⟩
  have T1 := S3.setK (i := i) (H0 := H) (k1.stay (s2.trans s3)) (fun a => S.e0) fun a j' d' h hj' hz => by
    obtain ⟨o, q⟩ := S.there hj' hz
    rw [h] at q; cases q
  have T2 := T1.setK (i := j) (H0 := H1) (k2.stay s3) (fun a => S1.e0) fun a j' d' h hj' hz => by
    rcases slot_set hj' hz with ⟨_, ev, hf⟩ | ⟨q1, q2⟩
    · obtain ⟨o, q⟩ := rk_at k1 hf ev
      rw [h] at q; cases q
    · obtain ⟨o, q⟩ := S1.there q1 q2
      rw [h] at q; cases q
  refine T2.setK (i := l) (H0 := H2) k3 (fun a => S2.e0) fun a j' d' h hj' hz => ?_
  rcases slot_set hj' hz with ⟨_, ev, hf⟩ | ⟨q1, q2⟩
  · obtain ⟨o, q⟩ := rk_at k2 hf ev
    rw [h] at q; cases q
  · rcases slot_set q1 q2 with ⟨_, ev, hf⟩ | ⟨p1, p2⟩
    · obtain ⟨o, q⟩ := rk_at (k1.stay s2) hf ev
      rw [h] at q; cases q
    · obtain ⟨o, q⟩ := S2.there p1 p2
      rw [h] at q; cases q
/-! ### x op= e -/
def sAug (i : Nat) (g : Sto → D → D → Option D) (fe : Ed) : Sd := fun r m => match r[i]? with
  | some (.dat x) => (fe r m).out fun y m1 => Opt.out (g m1 x y) fun d => .nx (r.set i (.dat d)) m1
  | _ => .stuck
theorem qs_aug (i : Nat) {x : Str} {e : Expr} {fe : Ed} {op : Operator} {t : R2} {g : Sto → D → D → Option D} {pos' pos : Pos} (hN : X.N.Nodup) (hx : Loc X.env.scope x) (ho : OpR X (inplaceOp op) t) (hs : Snd2 X.K X.mg .froz t g) (he : QE X W .bor e fe) (hi : X.N[i]? = some x := by rfl) (hf : X.fn x = true ∨ X.env.scope.names.lookup x = some .local := by first | exact .inl rfl | exact .inr rfl | assumption) :
    QS X W (.AugAssign (.Name x pos') op e pos) (sAug i g fe) := by
  obtain ⟨te, e1, e2⟩ := he.ex
  refine ⟨_, ps_aug hN hi hx e1 ho hf, fun e Λ α F σ H r m D S hp => ?_⟩
  unfold sAug at hp
  split at hp
  · rename_i x hr
    obtain ⟨v, h1, h2⟩ := S.sl i _ hr
    refine ⟨v, h1, ?_⟩
    refine At.out (t := te σ H) (e2 e Λ α F σ H r m S) hp fun y m1 _ hp w α1 F1 H1 S1 s1 k1 => ?_
    cases hg : g m1 x y with
    | none => rw [hg] at hp; exact hp.elim
    | some d =>
      rw [hg] at hp
      exact hs _ _ _ _ _ _ _ _ _ S1.g (.inl (h2.mono s1.pre s1.fz)) k1.bor hg _ fun u α2 F2 H2 g2 s2 k2 => hp _ _ _ _ ((S1.stay s2 g2).set k2)
  · exact hp.elim
end
end Q
end
section
set_option Elab.async false
set_option linter.all false
set_option maxRecDepth 100000
set_option maxHeartbeats 2000000
namespace Q
open PySem L2 PySem.Spec PyProof.Rows

/-! ### + of anything -/
theorem op_addA {X : Cx} : OpR X (binaryOp .Add) (rAddA X.K) := OpR.or (OpR.or (OpR.or op_add op_add_str) op_catA) op_cat
theorem op_catL {X : Cx} : OpR X (binaryOp .Add) (rAddL X.K) := op_cat
/-! ### <, .. of ints, of other data -/
def gOA (f : Int → Int → Bool) (h : PyData → PyData → Bool) : Sto → D → D → Option D := fun m x y => match x, y with
  | .int i, .int j => some (.bl (f i j))
  | _, _ => gCmp h m x y
def rOA (K : PySem.W.Frag) (f : Int → Int → Bool) (h : PyData → PyData → Bool) : R2 := fun x y H Q => rI0 (fun i j => .bl (f i j)) x y H Q ∨ rCmpD K h x y H Q
theorem snd_OA {K : PySem.W.Frag} {mg : Str → Option Value} {f : Int → Int → Bool} {h : PyData → PyData → Bool} : Snd2 K mg .froz (rOA K f h) (gOA f h) := by
  intro α F H m v w x y d g h1 h2 e Q q
  unfold gOA at e
  split at e
  · exact .inl (snd_O _ _ _ _ _ _ _ _ _ g h1 h2 (by simpa [gO] using e) Q q)
  · exact .inr (snd_cmpD _ _ _ _ _ _ _ _ _ g h1 h2 e Q q)
abbrev gLtA := gOA (fun i j => decide (i < j)) W.dataLt
abbrev gLeA := gOA (fun i j => decide (i ≤ j)) fun d e => !W.dataLt e d
abbrev gGtA := gOA (fun i j => decide (j < i)) fun d e => W.dataLt e d
abbrev gGeA := gOA (fun i j => decide (j ≤ i)) fun d e => !W.dataLt d e
theorem op_ltA {X : Cx} (hu : X.A.units + 64 < cLine) : OpR X (compareOp .Lt) (rOA X.K (fun i j => decide (i < j)) W.dataLt) := OpR.or op_lt (op_ltD hu)
theorem op_leA {X : Cx} (hu : X.A.units + 64 < cLine) : OpR X (compareOp .LtE) (rOA X.K (fun i j => decide (i ≤ j)) fun d e => !W.dataLt e d) := OpR.or op_le (op_leD hu)
theorem op_gtA {X : Cx} (hu : X.A.units + 64 < cLine) : OpR X (compareOp .Gt) (rOA X.K (fun i j => decide (j < i)) fun d e => W.dataLt e d) := OpR.or op_gt (op_gtD hu)
theorem op_geA {X : Cx} (hu : X.A.units + 64 < cLine) : OpR X (compareOp .GtE) (rOA X.K (fun i j => decide (j ≤ i)) fun d e => !W.dataLt d e) := OpR.or op_ge (op_geD hu)
/-! ### list(x) -/
def gListA : Sto → List D → Option D := fun m xs => match xs with
  | [.klst ds] => some (.lst ds)
  | _ => gListOf m xs
theorem snd_listA {K : PySem.W.Frag} {mg : Str → Option Value} : SndN K mg .fre (fun xs H Q => ∃ p ys, xs = [.ref p] ∧ (SqL K H p ys ∨ SqT K H p ys) ∧ ∀ l, H l = none → Q (.ref l) (upd H l (.lst ys))) gListA := by
  intro α F H m vs xs d g h e Q q
  unfold gListA at e
  split at e
  · cases h with
    | cons h1 h2 =>
      cases h2
      cases e
      rcases h1 with h1 | ⟨a, ho, e1, e2, e3, e4, e5⟩
      · cases h1 with
        | klst s r =>
          refine ⟨_, _, rfl, .inl (g.sub.seqL s), fun l hl => ?_⟩
          obtain ⟨g', s', k'⟩ := g.fre hl (.lst r)
          exact q _ _ _ _ g' s' k'
      · cases e5
  · exact snd_listOf _ _ _ _ _ _ _ g h e Q q
/-! ### defs, classes, as the top has made them -/
structure DefAt (K : PySem.W.Frag) (mg : Str → Option Value) (x : Str) (st : Stmt) (ps : List Str) : Prop where
  ex : ∃ f fd, mg x = some (.ref f) ∧ PySem.W.keepIn K (.ref f) = true ∧ Binds K fd ps [] ∧ Fun K x x st f fd
structure ClsAt (K : PySem.W.Frag) (mg : Str → Option Value) (x : Str) : Prop where
  ex : ∃ C bmB B newId initId, ExcBaseFacts B newId initId bmB ∧ PySem.W.excIn K C bmB newId = true ∧ mg x = some (.ref C) ∧ PySem.W.keepIn K (.ref C) = true ∧ PySem.W.subIn K (.ref C) (.type "BaseException") = some true ∧ PySem.W.typeIn K (.ref C) = some (.type "type")
section
variable {P : Program} {w : World} {K : PySem.W.Frag} {mg : Str → Option Value} {base : Heap}
theorem DefAt.at {x : Str} {st : Stmt} {ps N : List Str} {k : Nat} {fr : Bool} {b : Sd} (h : DefAt K mg x st ps) (S : FnScope N ps (defScope st))
    (hb : ∀ (f : Addr) (cdv : Value) (A : Around) (outer : List PySem.Env) (s : Shared) (H : Hp) (E : XK), Room k (A.deeper (envOfC x (defScope st) s.heap.objs.size f cdv)) → Takes (cxOf (L2.CX P w) P w K mg base N x (defScope st) f cdv A outer s H E) (fun cls d _ H => E cls d H) →
      QSs (cxOf (L2.CX P w) P w K mg base N x (defScope st) f cdv A outer s H E) (fun cls d _ H => E cls d H) (defBody st) b) : FnAt P w K mg base x (k + 1) ps fr (bodyD fr N.length b) := by
  obtain ⟨f, fd, h1, h2, h3, h4⟩ := h.ex
  exact ⟨f, fd, h1, h2, h3, fnq h4 S fun cdv A outer s H E hr tk => hb f cdv A outer s H E hr tk⟩
/-- at no depth: nothing is told -/
theorem DefAt.at0 {x : Str} {st : Stmt} {ps N : List Str} {k : Nat} {fr : Bool} (h : DefAt K mg x st ps) (S : FnScope N ps (defScope st)) : FnAt P w K mg base x (k + 1) ps fr (fun _ _ => .stuck) := by
  refine FnAt.imp (F := bodyD fr N.length sStuck) (h.at S fun f cdv A outer s H E hr tk => qss_stuck) fun args m => .inl rfl
end
theorem qs_raiseC {X : Cx} {W : WX} {x msg : Str} {j : Nat} {p p2 cpos pos : Pos} (hc : X.calm = true) (tk : Takes X W) (h : ClsAt X.K X.mg x) (hg : Gl X x)
    (hdb : (x == ("__debug__" : Str)) = false := by decide) : QS X W (.Raise (some (.Call (.Name x p) [.Constant (.str msg) j p2] [] cpos)) none pos) (sRaise x) := by
  obtain ⟨C, bmB, B, newId, initId, F, q, gC, kC, b, t⟩ := h.ex
  exact qs_raise hc tk F q gC kC (raises_own b t) hg hdb
/-- name = [..] on one line, the list frozen -/
theorem qs_setLcF {X : Cx} {W : WX} {i : Nat} {y : Str} {py : Pos} {elt tg iter : Expr} {ifs : List Expr} {scope : Scope} {own : List (Str × Nat)} {pos spos : Pos} {z : Bool} {fi : Id'} {is : List Nat} {p : Pat} {t : Bd} {f : Ed} (hc : X.calm = true) (hN : X.N.Nodup) (hyl : X.env.scope.names.lookup y = some .local)
    (hi : QI X W z tg iter fi) (ok : BlkOk X.N X.env.scope scope own)
    (hg : ∀ b : Bk, QG (blkOf X scope b) tg is p) (ht : ∀ b : Bk, QTs (blkOf X scope b) W0 ifs t) (he : ∀ b : Bk, QE (blkOf X scope b) W0 .froz elt f) (hy : X.N[i]? = some y := by rfl)
    (hsw : swapsWith (.ListComp elt [⟨tg, iter, ifs, 0⟩] scope pos) (some (.Name y py)) spos.line X.env = pure true := by rfl) (hv : ∀ i ∈ is, i ∈ own.map (·.2) := by decide) (hs : ∀ x, foldedSetIterable iter X.env x = pure x := by intro _; rfl) :
    QS X W (.Assign [.Name y py] (.ListComp elt [⟨tg, iter, ifs, 0⟩] scope pos) spos) (sSet i (eLc fi p t f (own.map (·.2)))) := by
  obtain ⟨wi, i1, i2⟩ := hi.ex
  obtain ⟨g, g1, g2⟩ := QG.unif (Xs := blkOf X scope) (K := X.K) (mg := X.mg) (fun _ => rfl) (fun _ => rfl) hg
  obtain ⟨tt, t1, t2⟩ := QTs.unif (Xs := blkOf X scope) (K := X.K) (mg := X.mg) (fun _ => rfl) (fun _ => rfl) ht
  obtain ⟨te, e1, e2⟩ := QE.unif (Xs := blkOf X scope) (K := X.K) (mg := X.mg) (fun _ => rfl) (fun _ => rfl) he
  refine ⟨_, ps_setLc hc hN hy hyl hsw i1 ok (fun s H C cl fp => g1 (s, H, C, cl, fp)) (fun s H C cl fp => t1 (s, H, C, cl, fp)) (fun s H C cl fp => e1 (s, H, C, cl, fp)) hs, fun e Λ α F σ H r m D S hp => ?_⟩
  refine At.out (snd_lc i2 g2 t2 e2 hv e Λ α F σ H r m S) hp fun d m' hd hp v α' F' H' S' s' ⟨a, ho, e1, e2, e3, e4, e5, e6⟩ => ?_
  subst e1
  have nd : ¬ IsDc ho := by
    have hl : ∃ l, d = .lst l := by
      unfold eLc at hd
      cases hq : fi r m with
      | stuck => rw [hq] at hd; cases hd
      | exc n m2 => rw [hq] at hd; cases hd
      | ok ds m2 =>
        rw [hq] at hd
        simp only [Res.bind] at hd
        split at hd
        · cases hz : lcD p t f (wipeR r (own.map (·.2))) ds m2 with
          | stuck => rw [hz] at hd; cases hd
          | exc n m3 => rw [hz] at hd; cases hd
          | ok l m3 => rw [hz] at hd; cases hd; exact ⟨_, rfl⟩
        · cases hd
    obtain ⟨l, rfl⟩ := hl
    cases e6
    rintro (⟨_, z⟩ | ⟨_, z⟩) <;> cases z
  have hne : ∀ (j : Nat) (d' : _root_.Q.D), (r[j]? = some (.own d') ∨ r[j]? = some (.lok d')) → σ[j]? ≠ some (some (.ref a)) := fun j d' hj hz => by
    obtain ⟨o, z⟩ := S.there hj hz
    rw [e5] at z; cases z
  have S1 := S'.freeze default e2 e3 e4 (S.e0 e5) e6 hne
  obtain ⟨_, rp, _⟩ := Q.freeze S'.g default e2 e3 e4 e6
  rw [lockO_nd nd, upd_self e2] at S1
  exact hp _ _ _ _ (S1.set rp)
/-! ### *, += -/
abbrev gMulA := gMul
theorem op_mulA {X : Cx} : OpR X (binaryOp .Mult) (rI CMul fun i j => .int (i * j)) := op_mul
theorem snd_mulA {K : PySem.W.Frag} {mg : Str → Option Value} : Snd2 K mg .froz (rI CMul fun i j => .int (i * j)) gMulA := snd_mul
def gIAdd : Sto → D → D → Option D := fun _ x y => match x, y with
  | .int i, .int j => some (.int (i + j))
  | _, _ => none
theorem snd_iadd {K : PySem.W.Frag} {mg : Str → Option Value} : Snd2 K mg .froz (rI0 fun i j => .int (i + j)) gIAdd := by
  intro α F H m v w x y d g h1 h2 e Q q
  unfold gIAdd at e
  split at e
  · have e1 := rb_int h1
    have e2 := rb_int h2
    subst e1 e2
    cases e
    exact ⟨_, _, rfl, rfl, q _ _ _ _ g (Stay.refl _ _ _) (.int _)⟩
  · cases e
/-! ### d.get(k), d.get(k, x) -/
def isDt (m : Sto) (x : D) : Bool := match dr m x with
  | some (.dK _) => true
  | some (.dT _) => true
  | _ => false
def eGet1 (fd fk : Ed) : Ed := fun r m => (fd r m).bind fun x m1 => if isDt m1 x = true then (fk r m1).bind fun y m2 => match lookD m2 x y with
  | some (some d) => .ok d m2
  | some none => .ok .non m2
  | none => .stuck else .stuck
def eGet2 (fd fk fx : Ed) : Ed := fun r m => (fd r m).bind fun x m1 => if isDt m1 x = true then (fk r m1).bind fun y m2 => (fx r m2).bind fun z m3 => match lookD m3 x y with
  | some (some d) => .ok d m3
  | some none => .ok z m3
  | none => .stuck else .stuck
section
variable {K : PySem.W.Frag} {mg : Str → Option Value} {α : List Addr} {F H : Hp} {m : Sto} {v : V} {x : D}
theorem isd_at (g : G K mg α F H m) (h : RB K mg α F H v x) (e : isDt m x = true) : ∃ a, v = .ref a ∧ IsD H a := by
  unfold isDt at e
  split at e
  · rename_i kvs z
    obtain ⟨a, vs, rfl, s, r⟩ := cont_dK g h z
    exact ⟨a, rfl, .inl ⟨vs, s⟩⟩
  · rename_i kvs z
    obtain ⟨a, vs, rfl, s, r⟩ := cont_dT g h z
    exact ⟨a, rfl, .inr ⟨vs, s⟩⟩
  · cases e
end
section
variable {X : Cx} {W : WX} {o e f : Expr} {fo fe ff : Ed} {apos cpos : Pos}
theorem qe_get1 (hu : X.A.units + 64 < cLine) (ho : QE X W .bor o fo) (he : QE X W .froz e fe) (m : M1 X o "get" apos e cpos := by exact ⟨rfl, rfl, rfl, rfl⟩) : QE X W .froz (.Call (.Attribute o "get" apos) [e] [] cpos) (eGet1 fo fe) := by
  obtain ⟨ta, a1, a2⟩ := ho.ex
  obtain ⟨tb, b1, b2⟩ := he.ex
  refine ⟨_, pe_dget1 (by omega) a1 b1 m, fun e Λ α F σ H r m S => ?_⟩
  refine At.bind (t := ta σ H) (u := fun x H1 Q => ∃ a, x = .ref a ∧ IsD H1 a ∧ tb σ H1 fun y H2 => ∃ o, DGet H2 a y o ∧ Q (o.getD .non) H2) (Rl' := RlK X.K X.mg .froz) back_K (a2 e Λ α F σ H r m S) fun x m1 _ v α1 F1 H1 S1 s1 k1 => ?_
  by_cases hd : isDt m1 x = true
  · rw [if_pos hd]
    obtain ⟨a, rfl, ia⟩ := isd_at S1.g k1 hd
    have hb := b2 e Λ α1 F1 σ H1 r m1 S1
    cases hf : fe r m1 with
    | stuck => trivial
    | exc n m2 => rw [hf] at hb; exact fun w Q => ⟨a, rfl, ia, hb w _⟩
    | ok y m2 =>
      rw [hf] at hb
      show At _ _ _ _ _ _ _ _ _ _ _ _ (match lookD m2 x y with | some (some d) => Res.ok d m2 | some none => .ok .non m2 | none => .stuck)
      cases hl : lookD m2 x y with
      | none => trivial
      | some od =>
        cases od with
        | some d =>
          refine fun Q w => ⟨a, rfl, ia, hb _ fun u α2 F2 H2 S2 s2 k2 => ?_⟩
          obtain ⟨a', o', e1, q1, ⟨q2, _⟩ | ⟨_, u', q2, rfl, q3⟩⟩ := look_get S2.g (RK.stay (k := .bor) s2 k1) (.inl k2) hl
          · cases q2
          · cases e1; cases q2; exact ⟨_, q1, w _ _ _ _ S2 s2 q3⟩
        | none =>
          refine fun Q w => ⟨a, rfl, ia, hb _ fun u α2 F2 H2 S2 s2 k2 => ?_⟩
          obtain ⟨a', o', e1, q1, ⟨_, rfl⟩ | ⟨_, u', q2, _, q3⟩⟩ := look_get S2.g (RK.stay (k := .bor) s2 k1) (.inl k2) hl
          · cases e1; exact ⟨_, q1, w _ _ _ _ S2 s2 .non⟩
          · cases q2
  · rw [if_neg hd]; trivial
theorem qe_get2 (hu : X.A.units + 64 < cLine) (ho : QE X W .bor o fo) (he : QE X W .froz e fe) (hf : QE X W .froz f ff) (m : M2 X o "get" apos e f cpos := by exact ⟨rfl, rfl, rfl, rfl⟩) : QE X W .froz (.Call (.Attribute o "get" apos) [e, f] [] cpos) (eGet2 fo fe ff) := by
  obtain ⟨ta, a1, a2⟩ := ho.ex
  obtain ⟨tb, b1, b2⟩ := he.ex
  obtain ⟨tc, c1, c2⟩ := hf.ex
  refine ⟨_, pe_dget2 (by omega) a1 b1 c1 m, fun e Λ α F σ H r m S => ?_⟩
  refine At.bind (t := ta σ H) (u := fun x H1 Q => ∃ a, x = .ref a ∧ IsD H1 a ∧ tb σ H1 fun y H2 => tc σ H2 fun z H3 => ∃ o, DGet H3 a y o ∧ Q (o.getD z) H3) (Rl' := RlK X.K X.mg .froz) back_K (a2 e Λ α F σ H r m S) fun x m1 _ v α1 F1 H1 S1 s1 k1 => ?_
  by_cases hd : isDt m1 x = true
  · rw [if_pos hd]
    obtain ⟨a, rfl, ia⟩ := isd_at S1.g k1 hd
    have hb := b2 e Λ α1 F1 σ H1 r m1 S1
    cases hf : fe r m1 with
    | stuck => trivial
    | exc n m2 => rw [hf] at hb; exact fun w Q => ⟨a, rfl, ia, hb w _⟩
    | ok y m2 =>
      rw [hf] at hb
      show At _ _ _ _ _ _ _ _ _ _ _ _ ((ff r m2).bind fun z m3 => match lookD m3 x y with | some (some d) => Res.ok d m3 | some none => .ok z m3 | none => .stuck)
      cases hg : ff r m2 with
      | stuck => trivial
      | exc n m3 =>
        refine fun w Q => ⟨a, rfl, ia, hb _ fun u α2 F2 H2 S2 s2 k2 => ?_⟩
        have hc := c2 e Λ α2 F2 σ H2 r m2 S2
        rw [hg] at hc
        exact hc w _
      | ok z m3 =>
        show At _ _ _ _ _ _ _ _ _ _ _ _ (match lookD m3 x y with | some (some d) => Res.ok d m3 | some none => .ok z m3 | none => .stuck)
        cases hl : lookD m3 x y with
        | none => trivial
        | some od =>
          cases od with
          | some d =>
            refine fun Q w => ⟨a, rfl, ia, hb _ fun u α2 F2 H2 S2 s2 k2 => ?_⟩
            have hc := c2 e Λ α2 F2 σ H2 r m2 S2
            rw [hg] at hc
            refine hc _ fun z' α3 F3 H3 S3 s3 k3 => ?_
            obtain ⟨a', o', e1, q1, ⟨q2, _⟩ | ⟨_, u', q2, rfl, q3⟩⟩ := look_get S3.g (RK.stay (k := .bor) (s2.trans s3) k1) (.inl (RK.stay (k := .froz) s3 k2)) hl
            · cases q2
            · cases e1; cases q2; exact ⟨_, q1, w _ _ _ _ S3 (s2.trans s3) q3⟩
          | none =>
            refine fun Q w => ⟨a, rfl, ia, hb _ fun u α2 F2 H2 S2 s2 k2 => ?_⟩
            have hc := c2 e Λ α2 F2 σ H2 r m2 S2
            rw [hg] at hc
            refine hc _ fun z' α3 F3 H3 S3 s3 k3 => ?_
            obtain ⟨a', o', e1, q1, ⟨_, rfl⟩ | ⟨_, u', q2, _, q3⟩⟩ := look_get S3.g (RK.stay (k := .bor) (s2.trans s3) k1) (.inl (RK.stay (k := .froz) s3 k2)) hl
            · cases e1; exact ⟨_, q1, w _ _ _ _ S3 (s2.trans s3) k3⟩
            · cases q2
  · rw [if_neg hd]; trivial
end
end Q
end
section
set_option Elab.async false
set_option linter.all false
set_option maxRecDepth 100000
set_option maxHeartbeats 2000000
namespace Q
open PySem L2 PySem.Spec PyProof.Rows

/-- what is asked of law -/
def spLaw (K : PySem.W.Frag) : Sp := fun vs H Q _ => ∃ (a : Addr) (ns : List Int), vs = [.ref a] ∧ SqL K H a (ns.map V.int) ∧ ns.length ≤ 63 ∧ (∀ z ∈ ns, Builtin.Int.intBits z ≤ 1048576) ∧ ∀ v H', v = V.bl true → Q v H'
section
variable {P : Program} {w : World} {K : PySem.W.Frag} {mg : Str → Option Value} {base : Heap}
theorem ints_rep {α : List Addr} {F : Hp} : ∀ ns : List Int, RepL K mg α F (ns.map V.int) (ns.map D.int)
  | [] => .nil
  | n :: ns => .cons (.int n) (ints_rep ns)
/-- law by what it is worth -/
theorem law_end {f : Addr} {fd : FuncData} {k : Nat} {x : Str} {F : Fd} (h : FnOk P w K mg base (L2.CX P w) k f fd [x] (spQ K mg 1 false F))
    (hp : ∀ ns : List Int, ns.length ≤ 63 → (∀ z ∈ ns, Builtin.Int.intBits z ≤ 1048576) → ∃ m, F [.klst (ns.map D.int)] [] = .ok (.bl true) m) : FnOk P w K mg base (L2.CX P w) k f fd [x] (spLaw K) := by
  refine h.imp fun vs H Q E ⟨a, ns, e, hs, hl, hb, q⟩ => ?_
  subst e
  obtain ⟨m, hm⟩ := hp ns hl hb
  let F0 : Hp := fun b => if b = a then (match H a with
    | some (.lst xs) => some (.lst xs)
    | some (.frz o (.lst xs)) => some (.frz o (.lst xs))
    | _ => none) else none
  have hF : ∀ b o, F0 b = some o → H b = some o ∧ ¬ IsDc o := fun b o hb => by
    by_cases e : b = a
    · subst e
      have hb : (match H b with
        | some (.lst xs) => some (.lst xs)
        | some (.frz o (.lst xs)) => some (.frz o (.lst xs))
        | _ => none) = some o := by simpa [F0] using hb
      split at hb
      · rename_i xs hx; cases hb; exact ⟨hx, by rintro (⟨_, z⟩ | ⟨_, z⟩) <;> cases z⟩
      · rename_i o' xs hx; cases hb; exact ⟨hx, by rintro (⟨_, z⟩ | ⟨_, z⟩) <;> cases z⟩
      · cases hb
    · have hb : (if b = a then _ else none) = some o := hb
      rw [if_neg e] at hb; cases hb
  have hq : SqL K F0 a (ns.map V.int) := by
    rcases hs with (hs | ⟨o, hs⟩) | hs
    · exact .inl (.inl (by simp [F0, hs]))
    · exact .inl (.inr ⟨o, by simp [F0, hs]⟩)
    · exact .inr hs
  refine ⟨rfl, [], F0, [], [.klst (ns.map D.int)], ⟨fun b o hb => .inl (hF b o hb), rfl, List.nodup_nil, fun n b hb => by simp at hb⟩, .cons (.klst hq (ints_rep ns)) .nil, ?_⟩
  rw [hm]
  exact fun v α' F' H' g' s' k' => q v H' (Rep.bl_inv k')
theorem DefAt.mk' {x : Str} {st : Stmt} {ps : List Str} {f : Addr} {fd : FuncData} (h1 : mg x = some (.ref f)) (h2 : PySem.W.keepIn K (.ref f) = true) (F : Fun K x x st f fd) (hb : Binds K fd ps []) : DefAt K mg x st ps := ⟨f, fd, h1, h2, hb, F⟩
theorem ClsAt.mk' {x : Str} {C : Addr} {B newId initId : String} {bm : List Value} (F : ExcBaseFacts B newId initId bm) (h1 : mg x = some (.ref C)) (h2 : PySem.W.excIn K C bm newId = true) (h3 : PySem.W.keepIn K (.ref C) = true) (h4 : PySem.W.subIn K (.ref C) (.type "BaseException") = some true) (h5 : PySem.W.typeIn K (.ref C) = some (.type "type")) : ClsAt K mg x :=
  ⟨C, bm, B, newId, initId, F, h2, h1, h3, h4, h5⟩
end
theorem walk {l : PySem.W.OpenLaw} {k : Nat} {q : Program} {loose : List Str} {XP : (Str → Option Value) → Heap → Prop} {YP : World → Heap → Prop} {d : DefRec} {K : Params → PySem.W.Frag} (hn : l.most = some 63) (hdf : d.params.defaults = []) (hr : Room k callerA)
    (hY : ∀ (w : World) (h : Heap), YP w h → (K w.params).In h)
    (F : ∀ (w : World) (mg : Str → Option Value) (fa : Addr) (h : Heap), (K w.params).In h → h.Ns mainGlobals mg → mg d.name = some (.ref fa) →
      ∃ fd : FuncData, (∀ (s : Shared) (u : Value), BindsTo s fd ⟨[u], []⟩ [("script", u)]) ∧ ∀ base : Heap, (K w.params).In base → base.Ns mainGlobals mg → FnOk l.prog w (K w.params) mg base (L2.CX l.prog w) k fa fd ["script"] (spLaw (K w.params))) :
    PySem.W.WalkO q loose XP YP l.row.toRowW d [] (fun f vs => PySem.call f vs) :=
  L2.walk_ofB (n := 63) (k := k) (x := "script") (CX := fun w => L2.CX l.prog w) (sp := fun w => spLaw (K w.params)) hn (by decide) hdf hr hY F (fun _ _ a ns hl hb _ hS => ⟨a, ns, rfl, hS, hl, hb, fun _ _ e => e⟩) fun w H s e s' ⟨_, _, _, _, _, _, _, _, _, _, _, _, z⟩ => z
end Q
end
section
set_option Elab.async false
set_option linter.all false
namespace Q
open PySem L2
/-! ### the denotations, run by rewriting: an applied combinator first, then what its arguments came to -/
def getV : Option Sl → Sto → Res D
  | some (.dat d), m => .ok d m
  | _, _ => .stuck
def getB : Option Sl → Sto → Res D
  | some (.dat d), m => .ok d m
  | some (.own d), m => .ok d m
  | _, _ => .stuck
def getO : Option Sl → Sto → Res D
  | some (.own d), m => .ok d m
  | _, _ => .stuck
section
variable {r : Env} {m : Sto} {i j n : Nat} {d x y : D} {f g h : Ed} {fa : Ad} {a : Sd} {b : Sd} {t u : Bd}
@[simp] theorem eC_ap : eC d r m = .ok d m := rfl
@[simp] theorem eV_ap : eV i r m = getV r[i]? m := by unfold eV; generalize r[i]? = z; cases z with | none => rfl | some z => cases z <;> rfl
@[simp] theorem eB_ap : eB i r m = getB r[i]? m := by unfold eB; generalize r[i]? = z; cases z with | none => rfl | some z => cases z <;> rfl
@[simp] theorem eOwn_ap : eOwn i r m = getO r[i]? m := by unfold eOwn; generalize r[i]? = z; cases z with | none => rfl | some z => cases z <;> rfl
@[simp] theorem getV_dat : getV (some (.dat d)) m = .ok d m := rfl
@[simp] theorem getB_dat : getB (some (.dat d)) m = .ok d m := rfl
@[simp] theorem getB_own : getB (some (.own d)) m = .ok d m := rfl
@[simp] theorem getO_own : getO (some (.own d)) m = .ok d m := rfl
def o1 (q : Sto → D → Option D) (x : Res D) : Res D := x.bind fun x m1 => lift (q m1 x) m1
@[simp] theorem op1_ap {q} : op1 q f r m = o1 q (f r m) := rfl
@[simp] theorem o1_ok {q} : o1 q (.ok x m) = lift (q m x) m := rfl
def o2 (q : Sto → D → D → Option D) (x : Res D) (fb : Ed) (r : Env) : Res D := x.bind fun x m1 => (fb r m1).bind fun y m2 => lift (q m2 x y) m2
def o2' (q : Sto → D → D → Option D) (x : D) (y : Res D) : Res D := y.bind fun y m2 => lift (q m2 x y) m2
@[simp] theorem op2_ap {q} : op2 q f g r m = o2 q (f r m) g r := rfl
@[simp] theorem o2_ok {q} : o2 q (.ok x m) g r = o2' q x (g r m) := rfl
@[simp] theorem o2'_ok {q} : o2' q x (.ok y m) = lift (q m x y) m := rfl
def oN' (q : Sto → List D → Option D) (x : Res (List D)) : Res D := x.bind fun x m1 => lift (q m1 x) m1
@[simp] theorem opN_ap {q} : opN q fa r m = oN' q (fa r m) := rfl
@[simp] theorem oN'_ok {q} {xs : List D} : oN' q (.ok xs m) = lift (q m xs) m := rfl
@[simp] theorem lift_some : lift (some d) m = .ok d m := rfl
@[simp] theorem aN_ap : aN r m = .ok [] m := rfl
def aC1 (x : Res D) (fr : Ad) (r : Env) : Res (List D) := x.bind fun x m1 => (fr r m1).bind fun xs m2 => .ok (x :: xs) m2
def aC2 (x : D) (y : Res (List D)) : Res (List D) := y.bind fun xs m2 => .ok (x :: xs) m2
@[simp] theorem aC_ap : aC f fa r m = aC1 (f r m) fa r := rfl
@[simp] theorem aC1_ok : aC1 (.ok x m) fa r = aC2 x (fa r m) := rfl
@[simp] theorem aC2_ok {xs : List D} : aC2 x (.ok xs m) = .ok (x :: xs) m := rfl
def call1 (n : Nat) (F : Fd) (x : Res (List D)) : Res D := x.bind fun args m1 => if args.length = n then F args m1 else .stuck
@[simp] theorem callD_ap {F : Fd} : callD n F fa r m = call1 n F (fa r m) := rfl
@[simp] theorem call1_ok {F : Fd} {xs : List D} (h : xs.length = n) : call1 n F (.ok xs m) = F xs m := if_pos h
def bE1 (x : Res D) : Res Bool := x.bind fun x m1 => match x with
  | .bl b => .ok b m1
  | _ => .stuck
@[simp] theorem bE_ap : bE f r m = bE1 (f r m) := rfl
@[simp] theorem bE1_ok {c : Bool} : bE1 (.ok (.bl c) m) = .ok c m := rfl
def and1 (x : Res Bool) (g : Bd) (r : Env) : Res Bool := x.bind fun b m1 => if b = true then g r m1 else .ok false m1
@[simp] theorem bAnd_ap : bAnd t u r m = and1 (t r m) u r := rfl
@[simp] theorem and1_t : and1 (.ok true m) t r = t r m := rfl
@[simp] theorem and1_f : and1 (.ok false m) t r = .ok false m := rfl
def or1 (x : Res Bool) (g : Bd) (r : Env) : Res Bool := x.bind fun b m1 => if b = true then .ok true m1 else g r m1
@[simp] theorem bOr_ap : bOr t u r m = or1 (t r m) u r := rfl
@[simp] theorem or1_t : or1 (.ok true m) t r = .ok true m := rfl
@[simp] theorem or1_f : or1 (.ok false m) t r = t r m := rfl
def not1 (x : Res Bool) : Res Bool := x.bind fun b m1 => .ok (!b) m1
@[simp] theorem bNot_ap : bNot t r m = not1 (t r m) := rfl
@[simp] theorem not1_ok {c : Bool} : not1 (.ok c m) = .ok (!c) m := rfl
def eand1 (x : Res D) (g : Ed) (r : Env) : Res D := x.bind fun x m1 => match x with
  | .bl b => if b = true then g r m1 else .ok (.bl false) m1
  | _ => .stuck
@[simp] theorem eAnd_ap : eAnd f g r m = eand1 (f r m) g r := rfl
@[simp] theorem eand1_t : eand1 (.ok (.bl true) m) g r = g r m := rfl
@[simp] theorem eand1_f : eand1 (.ok (.bl false) m) g r = .ok (.bl false) m := rfl
def eor1 (x : Res D) (g : Ed) (r : Env) : Res D := x.bind fun x m1 => match x with
  | .bl b => if b = true then .ok (.bl true) m1 else g r m1
  | _ => .stuck
@[simp] theorem eOr_ap : eOr f g r m = eor1 (f r m) g r := rfl
@[simp] theorem eor1_t : eor1 (.ok (.bl true) m) g r = .ok (.bl true) m := rfl
@[simp] theorem eor1_f : eor1 (.ok (.bl false) m) g r = g r m := rfl
def enot1 (x : Res D) : Res D := x.bind fun x m1 => match x with
  | .bl b => .ok (.bl (!b)) m1
  | _ => .stuck
@[simp] theorem eNot_ap : eNot f r m = enot1 (f r m) := rfl
@[simp] theorem enot1_ok {c : Bool} : enot1 (.ok (.bl c) m) = .ok (.bl (!c)) m := rfl
def eif1 (x : Res Bool) (f g : Ed) (r : Env) : Res D := x.bind fun b m1 => if b = true then f r m1 else g r m1
@[simp] theorem eIf_ap : eIf t f g r m = eif1 (t r m) f g r := rfl
@[simp] theorem eif1_t : eif1 (.ok true m) f g r = f r m := rfl
@[simp] theorem eif1_f : eif1 (.ok false m) f g r = g r m := rfl
def ch1 (q q' : Sto → D → D → Option D) (x : Res D) (fb fc : Ed) (r : Env) : Res D := x.bind fun x m1 => (fb r m1).bind fun y m2 => match q m2 x y with
  | some (.bl true) => (fc r m2).bind fun z m3 => lift (q' m3 y z) m3
  | some (.bl false) => .ok (.bl false) m2
  | _ => .stuck
def ch2 (q q' : Sto → D → D → Option D) (x : D) (y : Res D) (fc : Ed) (r : Env) : Res D := y.bind fun y m2 => match q m2 x y with
  | some (.bl true) => (fc r m2).bind fun z m3 => lift (q' m3 y z) m3
  | some (.bl false) => .ok (.bl false) m2
  | _ => .stuck
def ch3 (q' : Sto → D → D → Option D) (c : Option D) (y : D) (fc : Ed) (r : Env) (m2 : Sto) : Res D := match c with
  | some (.bl true) => (fc r m2).bind fun z m3 => lift (q' m3 y z) m3
  | some (.bl false) => .ok (.bl false) m2
  | _ => .stuck
@[simp] theorem eChain_ap {q q'} : eChain q q' f g h r m = ch1 q q' (f r m) g h r := rfl
@[simp] theorem ch1_ok {q q'} : ch1 q q' (.ok x m) g h r = ch2 q q' x (g r m) h r := rfl
@[simp] theorem ch2_ok {q q'} : ch2 q q' x (.ok y m) h r = ch3 q' (q m x y) y h r m := rfl
@[simp] theorem ch3_t {q'} : ch3 q' (some (.bl true)) y h r m = o2' q' y (h r m) := rfl
@[simp] theorem ch3_f {q'} : ch3 q' (some (.bl false)) y h r m = .ok (.bl false) m := rfl
/-! statements -/
def seq1 (o : Out) (g : Sd) : Out := o.seq g
@[simp] theorem sSeq_ap : sSeq a b r m = seq1 (a r m) b := rfl
@[simp] theorem seq1_nx : seq1 (.nx r m) b = b r m := rfl
@[simp] theorem seq1_rt {c : Bool} : seq1 (.rt c d m) b = .rt c d m := rfl
@[simp] theorem seq1_exc {z} : seq1 (.exc z m) b = .exc z m := rfl
@[simp] theorem seq1_bk : seq1 (.bk r m) b = .bk r m := rfl
@[simp] theorem seq1_ct : seq1 (.ct r m) b = .ct r m := rfl
def set1 (i : Nat) (x : Res D) (r : Env) : Out := x.out fun d m' => .nx (r.set i (.dat d)) m'
@[simp] theorem sSet_ap : sSet i f r m = set1 i (f r m) r := rfl
@[simp] theorem set1_ok : set1 i (.ok d m) r = .nx (r.set i (.dat d)) m := rfl
@[simp] theorem set1_exc {z} : set1 i (.exc z m) r = .exc z m := rfl
def own1 (i : Nat) (x : Res D) (r : Env) : Out := x.out fun d m' => .nx (r.set i (.own d)) m'
@[simp] theorem sOwn_ap : sOwn i f r m = own1 i (f r m) r := rfl
@[simp] theorem own1_ok : own1 i (.ok d m) r = .nx (r.set i (.own d)) m := rfl
def cell1 (i : Nat) (x : Res D) (r : Env) : Out := x.out fun d m' => .nx (r.set i (.dat (.cell m'.length))) (m' ++ [d])
@[simp] theorem sCell_ap : sCell i f r m = cell1 i (f r m) r := rfl
@[simp] theorem cell1_ok : cell1 i (.ok d m) r = .nx (r.set i (.dat (.cell m.length))) (m ++ [d]) := rfl
def ret1 (b : Bool) (x : Res D) : Out := x.out fun d m' => .rt b d m'
@[simp] theorem sRet_ap : sRet f r m = ret1 false (f r m) := rfl
@[simp] theorem sRetF_ap : sRetF f r m = ret1 true (f r m) := rfl
@[simp] theorem ret1_ok {c : Bool} : ret1 c (.ok d m) = .rt c d m := rfl
@[simp] theorem ret1_exc {c : Bool} {z} : ret1 c (.exc z m) = .exc z m := rfl
def ex1 (x : Res D) (r : Env) : Out := x.out fun _ m' => .nx r m'
@[simp] theorem sExpr_ap : sExpr f r m = ex1 (f r m) r := rfl
@[simp] theorem ex1_ok : ex1 (.ok d m) r = .nx r m := rfl
@[simp] theorem ex1_exc {z} : ex1 (.exc z m) r = .exc z m := rfl
def if1 (x : Res Bool) (a b : Sd) (r : Env) : Out := x.out fun c m' => if c = true then a r m' else b r m'
@[simp] theorem sIf_ap : sIf t a b r m = if1 (t r m) a b r := rfl
@[simp] theorem if1_t : if1 (.ok true m) a b r = a r m := rfl
@[simp] theorem if1_f : if1 (.ok false m) a b r = b r m := rfl
@[simp] theorem sNext_ap : sNext r m = .nx r m := rfl
@[simp] theorem sBreak_ap : sBreak r m = .bk r m := rfl
@[simp] theorem sCont_ap : sCont r m = .ct r m := rfl
@[simp] theorem sRaise_ap {z} : sRaise z r m = .exc z m := rfl
def put1 (j : Nat) (fi : Ed) (x : Res D) (r : Env) : Out := x.out fun x m1 => (fi r m1).outS fun y m2 => Opt.out (mutS j (putD y x) r m2) fun p => .nx p.1 p.2
def put2 (j : Nat) (x : D) (y : Res D) (r : Env) : Out := y.outS fun y m2 => Opt.out (mutS j (putD y x) r m2) fun p => .nx p.1 p.2
def put3 (x : Option (Env × Sto)) : Out := Opt.out x fun p => .nx p.1 p.2
@[simp] theorem sPut_ap : sPut j f g r m = put1 j f (g r m) r := rfl
@[simp] theorem put1_ok : put1 j f (.ok x m) r = put2 j x (f r m) r := rfl
@[simp] theorem put2_ok : put2 j x (.ok y m) r = put3 (mutS j (putD y x) r m) := rfl
@[simp] theorem put3_some {r' : Env} {m' : Sto} : put3 (some (r', m')) = .nx r' m' := rfl
def mut1 (s : Option Sl) (j : Nat) (q : D → Option D) (r : Env) (m : Sto) : Option (Env × Sto) := match s with
  | some (.own c) => (q c).map fun c' => (r.set j (.own c'), m)
  | some (.dat (.cell n)) => (m[n]?.bind q).map fun c' => (r, m.set n c')
  | _ => none
@[simp] theorem mutS_ap {q} : mutS j q r m = mut1 r[j]? j q r m := by unfold mutS; generalize r[j]? = z; cases z with | none => rfl | some z => cases z with | dat d => cases d <;> rfl | _ => rfl
@[simp] theorem mut1_own {q} : mut1 (some (.own d)) j q r m = (q d).map fun c' => (r.set j (.own c'), m) := rfl
@[simp] theorem mut1_cell {q} : mut1 (some (.dat (.cell n))) j q r m = (m[n]?.bind q).map fun c' => (r, m.set n c') := rfl
def asg1 (p : Pat) (x : Res D) (r : Env) : Out := x.out fun d m' => Opt.out (p d r) fun r' => .nx r' m'
@[simp] theorem sAsg_ap {p : Pat} : sAsg f p r m = asg1 p (f r m) r := rfl
def opt1 (x : Option Env) (m : Sto) : Out := Opt.out x fun r' => .nx r' m
@[simp] theorem asg1_ok {p : Pat} : asg1 p (.ok d m) r = opt1 (p d r) m := rfl
@[simp] theorem opt1_some {r' : Env} : opt1 (some r') m = .nx r' m := rfl
def for1 (x : Res (List D)) (p : Pat) (b : Sd) (r : Env) : Out := x.out fun ds m1 => forD p b ds r m1
@[simp] theorem sFor_ap {q : Id'} {p : Pat} : sFor q p b r m = for1 (q r m) p b r := rfl
@[simp] theorem for1_ok {p : Pat} {ds : List D} : for1 (.ok ds m) p b r = forD p b ds r m := rfl
def par1 (i j : Nat) (ka kb : Bool) (x : Res D) (fb : Ed) (r : Env) : Out := x.out fun x m1 => (fb r m1).out fun y m2 => .nx ((r.set i (slK ka x)).set j (slK kb y)) m2
def par2 (i j : Nat) (ka kb : Bool) (x : D) (y : Res D) (r : Env) : Out := y.out fun y m2 => .nx ((r.set i (slK ka x)).set j (slK kb y)) m2
@[simp] theorem sPar2_ap {ka kb} : sPar2 i j ka kb f g r m = par1 i j ka kb (f r m) g r := rfl
@[simp] theorem par1_ok {ka kb} : par1 i j ka kb (.ok x m) g r = par2 i j ka kb x (g r m) r := rfl
@[simp] theorem par2_ok {ka kb} : par2 i j ka kb x (.ok y m) r = .nx ((r.set i (slK ka x)).set j (slK kb y)) m := rfl
@[simp] theorem slK_t : slK true d = .own d := rfl
@[simp] theorem slK_f : slK false d = .dat d := rfl
def frz1 (i : Nat) (s : Option Sl) (r : Env) (m : Sto) : Out := match s with
  | some (.own d) => .nx (r.set i (.dat d)) m
  | some (.dat d) => .nx r m
  | _ => .stuck
@[simp] theorem sFrz_ap : sFrz i r m = frz1 i r[i]? r m := by unfold sFrz; generalize r[i]? = z; cases z with | none => rfl | some z => cases z <;> rfl
@[simp] theorem frz1_own : frz1 i (some (.own d)) r m = .nx (r.set i (.dat d)) m := rfl
@[simp] theorem frz1_dat : frz1 i (some (.dat d)) r m = .nx r m := rfl
def body1 (fr : Bool) (o : Out) : Res D := match o with
  | .rt f d m' => if fr = true then (if f = true then .ok d m' else .stuck) else (if f = true then .stuck else .ok d m')
  | .nx _ m' => if fr = true then .stuck else .ok .non m'
  | .exc x m' => .exc x m'
  | _ => .stuck
@[simp] theorem bodyD_ap {fr : Bool} {args : List D} : bodyD fr n b args m = body1 fr (b (startR n args) m) := by unfold bodyD body1; cases b (startR n args) m <;> rfl
@[simp] theorem body1_f : body1 false (.rt false d m) = .ok d m := rfl
@[simp] theorem body1_t : body1 true (.rt true d m) = .ok d m := rfl
@[simp] theorem body1_n : body1 false (.nx r m) = .ok .non m := rfl
@[simp] theorem body1_e {fr z} : body1 fr (.exc z m) = .exc z m := rfl
/-! what is walked -/
def it1 (x : Res D) : Res (List D) := x.bind fun x m1 => match iterD x with
  | some ds => .ok ds m1
  | none => .stuck
def it2 (x : Option (List D)) (m : Sto) : Res (List D) := match x with
  | some ds => .ok ds m
  | none => .stuck
@[simp] theorem iAny_ap : iAny f r m = it1 (f r m) := rfl
@[simp] theorem it1_ok : it1 (.ok x m) = it2 (iterD x) m := rfl
@[simp] theorem it2_some {ds} : it2 (some ds) m = .ok ds m := rfl
@[simp] theorem iterD_lst {xs} : iterD (.lst xs) = some xs := rfl
@[simp] theorem iterD_tup {xs} : iterD (.tup xs) = some xs := rfl
@[simp] theorem iterD_ktup {xs} : iterD (.ktup xs) = some xs := rfl
@[simp] theorem iterD_dT {xs} : iterD (.dT xs) = some (xs.map fun kv => .tup (kv.1.map keyD)) := rfl
@[simp] theorem iterD_dK {xs} : iterD (.dK xs) = some (xs.map fun kv => keyD kv.1) := rfl
def sq1 (x : Res D) : Res (List D) := x.bind fun x m1 => match x with
  | .lst ds => .ok ds m1
  | .tup ds => .ok ds m1
  | .ktup ds => .ok ds m1
  | _ => .stuck
@[simp] theorem iSq_ap : iSq f r m = sq1 (f r m) := rfl
@[simp] theorem sq1_lst {ds} : sq1 (.ok (.lst ds) m) = .ok ds m := rfl
@[simp] theorem sq1_tup {ds} : sq1 (.ok (.tup ds) m) = .ok ds m := rfl
def rg1 (x : Res D) : Res (List D) := x.bind fun x m1 => match x with
  | .int j => if -(2 ^ 62) ≤ j ∧ j < 2 ^ 62 then .ok (rangeD 0 j.toNat) m1 else .stuck
  | _ => .stuck
@[simp] theorem iRg1_ap : iRg1 f r m = rg1 (f r m) := rfl
@[simp] theorem rg1_ok {k : Int} (h : -(2 ^ 62) ≤ k ∧ k < 2 ^ 62) : rg1 (.ok (.int k) m) = .ok (rangeD 0 k.toNat) m := if_pos h
def rg2 (x : Res D) (g : Ed) (r : Env) : Res (List D) := x.bind fun x m1 => (g r m1).bind fun y m2 => match x, y with
  | .int i, .int j => if -(2 ^ 62) ≤ i ∧ i < 2 ^ 62 ∧ -(2 ^ 62) ≤ j ∧ j < 2 ^ 62 then .ok (rangeD i (j - i).toNat) m2 else .stuck
  | _, _ => .stuck
def rg3 (x : D) (y : Res D) : Res (List D) := y.bind fun y m2 => match x, y with
  | .int i, .int j => if -(2 ^ 62) ≤ i ∧ i < 2 ^ 62 ∧ -(2 ^ 62) ≤ j ∧ j < 2 ^ 62 then .ok (rangeD i (j - i).toNat) m2 else .stuck
  | _, _ => .stuck
@[simp] theorem iRg2_ap : iRg2 f g r m = rg2 (f r m) g r := rfl
@[simp] theorem rg2_ok : rg2 (.ok x m) g r = rg3 x (g r m) := rfl
@[simp] theorem rg3_ok {k l : Int} (h : -(2 ^ 62) ≤ k ∧ k < 2 ^ 62 ∧ -(2 ^ 62) ≤ l ∧ l < 2 ^ 62) : rg3 (.int k) (.ok (.int l) m) = .ok (rangeD k (l - k).toNat) m := if_pos h
def en1 (x : Res D) : Res (List D) := x.bind fun x m1 => match x with
  | .lst ds => .ok (enumD ds) m1
  | .tup ds => .ok (enumD ds) m1
  | .ktup ds => .ok (enumD ds) m1
  | _ => .stuck
@[simp] theorem iEn_ap : iEn f r m = en1 (f r m) := rfl
@[simp] theorem en1_lst {ds} : en1 (.ok (.lst ds) m) = .ok (enumD ds) m := rfl
@[simp] theorem en1_tup {ds} : en1 (.ok (.tup ds) m) = .ok (enumD ds) m := rfl
def zp1 (x : Res D) (g : Ed) (r : Env) : Res (List D) := x.bind fun x m1 => (g r m1).bind fun y m2 => match sqD x, sqD y with
  | some (false, xs), some (false, ys) => .ok (zipD xs ys) m2
  | some (true, xs), some (true, ys) => .ok (zipD xs ys) m2
  | _, _ => .stuck
def zp2 (x : D) (y : Res D) : Res (List D) := y.bind fun y m2 => match sqD x, sqD y with
  | some (false, xs), some (false, ys) => .ok (zipD xs ys) m2
  | some (true, xs), some (true, ys) => .ok (zipD xs ys) m2
  | _, _ => .stuck
@[simp] theorem iZp_ap : iZp f g r m = zp1 (f r m) g r := rfl
@[simp] theorem zp1_ok : zp1 (.ok x m) g r = zp2 x (g r m) := rfl
@[simp] theorem zp2_tup {xs ys} : zp2 (.tup xs) (.ok (.tup ys) m) = .ok (zipD xs ys) m := rfl
@[simp] theorem zp2_lst {xs ys} : zp2 (.lst xs) (.ok (.lst ys) m) = .ok (zipD xs ys) m := rfl
def lc1 (x : Res (List D)) (p : Pat) (t : Bd) (f : Ed) (vs : List Nat) (r : Env) : Res D := x.bind fun ds m1 => if ds.length ≤ SZ then (lcD p t f (wipeR r vs) ds m1).bindS fun ys m2 => .ok (.lst ys) m2 else .stuck
def lc2 (x : Res (List D)) : Res D := x.bindS fun ys m2 => .ok (.lst ys) m2
@[simp] theorem eLc_ap {q : Id'} {p : Pat} {vs} : eLc q p t f vs r m = lc1 (q r m) p t f vs r := rfl
@[simp] theorem lc1_ok {p : Pat} {vs} {ds : List D} (h : ds.length ≤ SZ) : lc1 (.ok ds m) p t f vs r = lc2 (lcD p t f (wipeR r vs) ds m) := if_pos h
@[simp] theorem lc2_ok {ys} : lc2 (.ok ys m) = .ok (.lst ys) m := rfl
@[simp] theorem oN_ap : oN r m = .ok none m := rfl
def os1 (x : Res D) : Res (Option Int) := x.bind fun x m1 => match x with
  | .int i => .ok (some i) m1
  | _ => .stuck
@[simp] theorem os1_ok {i : Int} : os1 (.ok (.int i) m) = .ok (some i) m := rfl
def sl1 (x : Res D) (a b : Od) (r : Env) : Res D := x.bind fun x m1 => (a r m1).bind fun lo m2 => (b r m2).bind fun hi m3 => match dr m3 x with
  | some d => lift (gSl d lo hi) m3
  | none => .stuck
def sl2 (x : D) (y : Res (Option Int)) (b : Od) (r : Env) : Res D := y.bind fun lo m2 => (b r m2).bind fun hi m3 => match dr m3 x with
  | some d => lift (gSl d lo hi) m3
  | none => .stuck
def sl3 (x : D) (lo : Option Int) (z : Res (Option Int)) : Res D := z.bind fun hi m3 => match dr m3 x with
  | some d => lift (gSl d lo hi) m3
  | none => .stuck
def sl4 (o : Option D) (lo hi : Option Int) (m : Sto) : Res D := match o with
  | some d => lift (gSl d lo hi) m
  | none => .stuck
@[simp] theorem eSl_ap {a b : Od} : eSl f a b r m = sl1 (f r m) a b r := rfl
@[simp] theorem sl1_ok {a b : Od} : sl1 (.ok x m) a b r = sl2 x (a r m) b r := rfl
@[simp] theorem sl2_ok {b : Od} {lo} : sl2 x (.ok lo m) b r = sl3 x lo (b r m) := rfl
@[simp] theorem sl3_ok {lo hi} : sl3 x lo (.ok hi m) = sl4 (dr m x) lo hi m := rfl
@[simp] theorem sl4_some {lo hi} : sl4 (some x) lo hi m = lift (gSl x lo hi) m := rfl
def rv1 (x : Res D) (a : Od) (r : Env) : Res D := x.bind fun x m1 => (a r m1).bind fun lo m2 => match dr m2 x with
  | some d => lift (gRv d lo) m2
  | none => .stuck
def rv2 (x : D) (y : Res (Option Int)) : Res D := y.bind fun lo m2 => match dr m2 x with
  | some d => lift (gRv d lo) m2
  | none => .stuck
def rv3 (o : Option D) (lo : Option Int) (m : Sto) : Res D := match o with
  | some d => lift (gRv d lo) m
  | none => .stuck
@[simp] theorem eRv_ap {a : Od} : eRv f a r m = rv1 (f r m) a r := rfl
@[simp] theorem rv1_ok {a : Od} : rv1 (.ok x m) a r = rv2 x (a r m) := rfl
@[simp] theorem rv2_ok {lo} : rv2 x (.ok lo m) = rv3 (dr m x) lo m := rfl
@[simp] theorem rv3_some {lo} : rv3 (some x) lo m = lift (gRv x lo) m := rfl
@[simp] theorem oS_ap : oS f r m = os1 (f r m) := rfl
end
end Q
end
section
set_option Elab.async false
set_option linter.all false
namespace Q
open PySem L2
/-! ### a test that is split -/
section
variable {r : Env} {m : Sto} {a b : Sd} {f g : Ed} {t : Bd} {c : Prop} [Decidable c]
theorem if1_d : if1 (.ok (decide c) m) a b r = if c then a r m else b r m := by by_cases h : c <;> simp [h]
theorem eif1_d : eif1 (.ok (decide c) m) f g r = if c then f r m else g r m := by by_cases h : c <;> simp [h]
theorem and1_d : and1 (.ok (decide c) m) t r = if c then t r m else .ok false m := by by_cases h : c <;> simp [h]
theorem or1_d : or1 (.ok (decide c) m) t r = if c then .ok true m else t r m := by by_cases h : c <;> simp [h]
end
/-! ### values -/
section
variable {m : Sto} {i j : Int} {x y : D} {xs ys : List D} {n : Nat} {s t : Str}
@[simp] theorem startR_ap {args : List D} : startR n args = args.map Sl.dat ++ List.replicate (n - args.length) .un := rfl
@[simp] theorem dr_int : dr m (.int i) = some (.int i) := rfl
@[simp] theorem dr_str : dr m (.str s) = some (.str s) := rfl
@[simp] theorem dr_non : dr m .non = some .non := rfl
@[simp] theorem dr_bl {b : Bool} : dr m (.bl b) = some (.bl b) := rfl
@[simp] theorem dr_tup : dr m (.tup xs) = some (.tup xs) := rfl
@[simp] theorem dr_lst : dr m (.lst xs) = some (.lst xs) := rfl
@[simp] theorem dr_ktup : dr m (.ktup xs) = some (.ktup xs) := rfl
@[simp] theorem dr_dT {k} : dr m (.dT k) = some (.dT k) := rfl
@[simp] theorem dr_dK {k} : dr m (.dK k) = some (.dK k) := rfl
@[simp] theorem dr_cell : dr m (.cell n) = m[n]? := rfl
@[simp] theorem SZ_eq : SZ = 100000 := rfl
@[simp] theorem gSub_i : gSub m (.int i) (.int j) = some (.int (i - j)) := rfl
@[simp] theorem gNeg_i : gNeg m (.int i) = some (.int (-i)) := rfl
theorem gMul_l (h : -(2 ^ 64) < i ∧ i < 2 ^ 64) : gMulA m (.int i) (.int j) = some (.int (i * j)) := by
  show (if (decide ((-(2 ^ 64) < i ∧ i < 2 ^ 64) ∨ (-(2 ^ 64) < j ∧ j < 2 ^ 64))) = true then some (D.int (i * j)) else none) = _
  rw [if_pos (decide_eq_true (.inl h))]
theorem gMul_r (h : -(2 ^ 64) < j ∧ j < 2 ^ 64) : gMulA m (.int i) (.int j) = some (.int (i * j)) := by
  show (if (decide ((-(2 ^ 64) < i ∧ i < 2 ^ 64) ∨ (-(2 ^ 64) < j ∧ j < 2 ^ 64))) = true then some (D.int (i * j)) else none) = _
  rw [if_pos (decide_eq_true (.inr h))]
theorem gDiv_i (h : 0 < j ∧ j < 1073741824) : gDiv m (.int i) (.int j) = some (.int (i / j)) := by
  show (if (decide (0 < j ∧ j < 1073741824)) = true then some (D.int (i / j)) else none) = _
  rw [if_pos (decide_eq_true h)]
theorem gMod_i (h : 0 < j) : gMod m (.int i) (.int j) = some (.int (i % j)) := by
  show (if (decide (0 < j)) = true then some (D.int (i % j)) else none) = _
  rw [if_pos (decide_eq_true h)]
theorem gPow_i (h : 0 ≤ j ∧ j ≤ 1000000 ∧ i.natAbs < 2 ^ 64) : gPow m (.int i) (.int j) = some (.int (i ^ j.toNat)) := by
  show (if (decide (0 ≤ j ∧ j ≤ 1000000 ∧ i.natAbs < 2 ^ 64)) = true then some (D.int (i ^ j.toNat)) else none) = _
  rw [if_pos (decide_eq_true h)]
@[simp] theorem gAdd_i : gAdd m (.int i) (.int j) = some (.int (i + j)) := rfl
@[simp] theorem gIAdd_i : gIAdd m (.int i) (.int j) = some (.int (i + j)) := rfl
theorem gAdd_t (h : xs.length + ys.length ≤ SZ) : gAdd m (.tup xs) (.tup ys) = some (.tup (xs ++ ys)) := if_pos h
theorem gAdd_l (h : xs.length + ys.length ≤ SZ) : gAdd m (.lst xs) (.lst ys) = some (.lst (xs ++ ys)) := if_pos h
theorem gCat_l (h : xs.length + ys.length ≤ SZ) : gCat m (.lst xs) (.lst ys) = some (.lst (xs ++ ys)) := if_pos h
theorem gTup_ok (h : xs.length ≤ SZ) : gTup m xs = some (.tup xs) := if_pos h
theorem gLst_ok (h : xs.length ≤ SZ) : gLst m xs = some (.lst xs) := if_pos h
@[simp] theorem gOA_i {f h} : gOA f h m (.int i) (.int j) = some (.bl (f i j)) := rfl
@[simp] theorem gGet_t : gGet m (.tup xs) (.int i) = atI xs i := rfl
@[simp] theorem gGet_l : gGet m (.lst xs) (.int i) = atI xs i := rfl
@[simp] theorem gGet_kt : gGet m (.ktup xs) (.int i) = atI xs i := rfl
theorem gGet_c (h : m[n]? = some (.lst xs)) : gGet m (.cell n) (.int i) = atI xs i := by unfold gGet gIx; simp [dr, h]
@[simp] theorem gLen_t : gLen m [.tup xs] = some (.int xs.length) := rfl
@[simp] theorem gLen_l : gLen m [.lst xs] = some (.int xs.length) := rfl
@[simp] theorem gLen_dT {k} : gLen m [.dT k] = some (.int k.length) := rfl
@[simp] theorem gInt_i : gInt m [.int i] = some (.int i) := rfl
@[simp] theorem gAbs_i : gAbs m [.int i] = some (.int (if i < 0 then -i else i)) := rfl
@[simp] theorem gListA_k : gListA m [.klst xs] = some (.lst xs) := rfl
@[simp] theorem gIsNf {b} : gIsN b m .non .non = some (.bl (!b)) := by cases b <;> rfl
theorem atI_nat {k : Nat} (h : xs[k]? = some x) : atI xs (k : Int) = some x := by
  unfold atI
  have hl := (List.getElem?_eq_some_iff.mp h).1
  have : ixN xs.length (k : Int) = some k := by
    unfold ixN
    rw [if_pos (by omega), if_pos (by omega)]
    simp
  rw [this]; exact h
@[simp] theorem atI_0 : atI (x :: xs) 0 = some x := atI_nat (k := 0) rfl
@[simp] theorem atI_1 {a : D} : atI (a :: x :: xs) 1 = some x := atI_nat (k := 1) rfl
@[simp] theorem atI_2 {a b : D} : atI (a :: b :: x :: xs) 2 = some x := atI_nat (k := 2) rfl
@[simp] theorem atI_3 {a b c : D} : atI (a :: b :: c :: x :: xs) 3 = some x := atI_nat (k := 3) rfl
@[simp] theorem putD_l0 : putD (.int 0) y (.lst (x :: xs)) = some (.lst (y :: xs)) := by
  show (ixN (x :: xs).length 0).map _ = _
  rw [show ixN (x :: xs).length 0 = some 0 from by unfold ixN; simp]; rfl
@[simp] theorem putD_l1 {a : D} : putD (.int 1) y (.lst (a :: x :: xs)) = some (.lst (a :: y :: xs)) := by
  show (ixN (a :: x :: xs).length 1).map _ = _
  rw [show ixN (a :: x :: xs).length 1 = some 1 from by unfold ixN; simp; omega]; rfl
end
end Q
end
section
set_option Elab.async false
set_option linter.all false
set_option maxRecDepth 100000
set_option maxHeartbeats 4000000
namespace L2
open PySem PySem.Spec PyProof.Rows HT
section
variable {prog : Program} {w : World} {A : Around} {E : Value → Shared → Prop} {s : Shared}
theorem noI_tuple_add : typeLookup (.type "tuple") (dunderI "add") = pure none := by rw [typeLookup_type, builtinLookup_eq_fast]; kernel_rfl
theorem iconcat_meets {T id : String} {B : Builtin} {a b : Value} {S : PySem.Spec} {Q : Value → Shared → Prop} (ha : s.TypeIs a T) (hb : s.TypeIs b T) (hno : typeLookup (.type T) (dunderI "add") = pure none)
    (hfill : fillsNumberSlot (.type T) "add" = pure false) (hseq : seqSlot? (.type T) "__add__" = pure (some (.builtin id))) (slot : Slot T "__add__" id)
    (entry : entryFor table id = some B) (args : argsOk id ⟨[a, b], []⟩) (g : Meets (B ⟨[a, b], []⟩) S) (h : S A (wants Q E) s) : wpAny (model prog w) A (inplaceOp .Add a b) Q E s :=
  wpAny_inplaceOp_concat ha hb hno hfill hseq (call_meets slot ha entry args g h)
theorem icat_tup0 {t b : Addr} {ws : List Value} {Q : Value → Shared → Prop} (ht : IsTup s.heap t ([] : List Value).toArray) (hb : IsTup s.heap b ws.toArray) (h : Q (.ref b) s) : wpAny (model prog w) A (inplaceOp .Add (.ref t) (.ref b)) Q E s := by
  obtain ⟨⟨cls, dd, data, sl⟩, ho, hc, n, hd⟩ := id ht
  obtain ⟨⟨cls2, dd2, data2, sl2⟩, ho2, hc2, n2, hd2⟩ := id hb
  simp only at hc hd hc2 hd2
  subst hc hd hc2 hd2
  exact iconcat_meets ⟨_, ho, rfl⟩ ⟨_, ho2, rfl⟩ noI_tuple_add noFill_tuple_add seq_tuple_add PySem.F.slot_tuple_add PySem.F.entry_tuple_add (PySem.F.args_tuple_add_2 _ _)
    (tuple_addW0 t b ([] : List Value).toArray ws.toArray n n2 dd dd2 sl sl2 (by simp)) ⟨ho, ho2, h⟩
theorem icat_tup {t b : Addr} {vs ws : List Value} {Q : Value → Shared → Prop} (ht : IsTup s.heap t vs.toArray) (hb : IsTup s.heap b ws.toArray) (hv : vs ≠ [])
    (h1 : ws = [] → Q (.ref t) s) (h2 : ws ≠ [] → Q (.ref s.heap.objs.size) { s with heap := s.heap.push { cls := .type "tuple", data := .seq (vs ++ ws).toArray } })
    (hsz : vs.length + ws.length ≤ sizeLine) : wpAny (model prog w) A (inplaceOp .Add (.ref t) (.ref b)) Q E s := by
  obtain ⟨⟨cls, dd, data, sl⟩, ho, hc, n, hd⟩ := id ht
  obtain ⟨⟨cls2, dd2, data2, sl2⟩, ho2, hc2, n2, hd2⟩ := id hb
  simp only at hc hd hc2 hd2
  subst hc hd hc2 hd2
  have e : vs.toArray ++ ws.toArray = (vs ++ ws).toArray := by simp
  by_cases hw : ws = []
  · exact iconcat_meets ⟨_, ho, rfl⟩ ⟨_, ho2, rfl⟩ noI_tuple_add noFill_tuple_add seq_tuple_add PySem.F.slot_tuple_add PySem.F.entry_tuple_add (PySem.F.args_tuple_add_2 _ _)
      (tuple_addW1 t b vs.toArray ws.toArray n n2 dd dd2 sl sl2 (by simpa using hv) (by simp [hw])) ⟨ho, ho2, h1 hw⟩
  · refine iconcat_meets ⟨_, ho, rfl⟩ ⟨_, ho2, rfl⟩ noI_tuple_add noFill_tuple_add seq_tuple_add PySem.F.slot_tuple_add PySem.F.entry_tuple_add (PySem.F.args_tuple_add_2 _ _)
      (tuple_addW2 t b vs.toArray ws.toArray n n2 dd dd2 sl sl2 (by simpa using hv) (by simpa using hw) (by rw [List.size_toArray, List.size_toArray]; exact hsz)) ⟨ho, ho2, ?_⟩
    rw [e]
    exact h2 hw
end
section
variable {X : Cx}
theorem iop_catA : OpR X (inplaceOp .Add) (rCatA X.K) := by
  intro pins s σ H x y v u Q I rx ry h
  obtain ⟨a, b, xs, ys, rfl, rfl, ha, hb, hz, q0, q1, q2⟩ := h
  cases rx
  cases ry
  obtain ⟨its, r1, p1, _⟩ := I.tuple ha
  obtain ⟨its2, r2, p2, _⟩ := I.tuple hb
  by_cases hx : xs = []
  · subst hx
    cases r1
    exact icat_tup0 p1 p2 ⟨.ref b, H, I, rfl, q0 rfl⟩
  · refine icat_tup p1 p2 (fun z => hx (r1.nil_iff.mp z)) (fun z => ⟨.ref a, H, I, rfl, q1 hx (r2.nil_iff.mp z)⟩) (fun z => ?_) (by rw [← r1.length, ← r2.length]; exact hz)
    refine ⟨.ref s.heap.objs.size, _, I.laid (t' := s.toks) (o := .tup (xs ++ ys)) (fun b ob q => Heap.get?_push_of_some _ q) (Nat.le_refl _) ?_, rfl, q2 hx (fun w => z (r2.nil_iff.mpr w)) _ (I.hok.fresh (Nat.le_refl _))⟩
    exact ⟨by rw [List.length_append]; exact hz, _, r1.append r2, IsTup.new _ _⟩
end
end L2
namespace Q
open PySem L2 PySem.Spec
section
variable {K : PySem.W.Frag} {mg : Str → Option Value} {α α' : List Addr} {F F' H H' H0 : Hp} {m : Sto} {v : V} {x : D} {k : Kd}
def gIAddT : Sto → D → D → Option D := fun m x y => match dr m x, dr m y with
  | some (.tup a), some (.tup b) => if a.length + b.length ≤ SZ then some (.tup (a ++ b)) else none
  | _, _ => none
theorem snd_iaddT : Snd2 K mg .froz (rCatA K) gIAddT := by
  intro α F H m v w x y d g h1 h2 e Q q
  unfold gIAddT at e
  split at e
  · rename_i a b e1 e2
    obtain ⟨rfl, p1, vs, rfl, s1, f1, r1⟩ := cont_tup g h1 e1
    obtain ⟨rfl, p2, ws, rfl, s2, f2, r2⟩ := cont_tup g h2 e2
    split at e
    · rename_i hz
      cases e
      have l1 := r1.length
      have l2 := r2.length
      refine ⟨p1, p2, vs, ws, rfl, rfl, .inl (.inl s1), .inl (.inl s2), by rw [l1, l2]; exact sz hz, fun z => ?_, fun z z' => ?_, fun z z' p hp => ?_⟩
      · subst z
        cases r1
        exact q _ _ _ _ g (Stay.refl _ _ _) (.tup f2 r2)
      · subst z'
        cases r2
        exact q _ _ _ _ g (Stay.refl _ _ _) (by rw [List.append_nil]; exact .tup f1 r1)
      · obtain ⟨F', g', s', rp⟩ := g.tup hp (r1.append r2)
        exact q _ _ F' _ g' s' rp
    · cases e
  · cases e
theorem RepL.rep {vs : List V} {ds : List D} (r : RepL K mg α F vs ds) : ∀ n : Nat, RepL K mg α F (List.replicate n vs).flatten (List.replicate n ds).flatten
  | 0 => .nil
  | n + 1 => by
    rw [List.replicate_succ, List.replicate_succ, List.flatten_cons, List.flatten_cons]
    exact r.append (r.rep n)
/-- tuple * int -/
def gMulT : Sto → D → D → Option D := fun m x y => match dr m x, y with
  | some (.tup a), .int k => if (decide (1 ≤ a.length ∧ 2 ≤ k ∧ k ≤ 1000 ∧ a.length ≤ 1000)) = true then some (.tup (List.replicate k.toNat a).flatten) else none
  | _, _ => none
theorem snd_repT : Snd2 K mg .froz (rRepT K) gMulT := by
  intro α F H m v w x y d g h1 h2 e Q q
  unfold gMulT at e
  split at e
  · rename_i a k e1
    obtain ⟨rfl, p1, vs, rfl, s1, f1, r1⟩ := cont_tup g h1 e1
    have z2 := rb_int h2
    subst z2
    split at e
    · rename_i hz
      cases e
      simp only [decide_eq_true_eq] at hz
      have l1 := r1.length
      refine ⟨p1, k, vs, rfl, rfl, .inl (.inl s1), fun z => ?_, hz.2.1, hz.2.2.1, by rw [l1]; exact hz.2.2.2, fun p hp => ?_⟩
      · subst z
        have := hz.1
        rw [← l1] at this
        simp at this
      · obtain ⟨F', g', s', rp⟩ := g.tup hp (r1.rep k.toNat)
        exact q _ _ F' _ g' s' rp
    · cases e
  · cases e
end
section
variable {m : Sto} {i j : Int} {x y : D} {xs ys : List D} {n : Nat}
theorem gIAddT_t (h : xs.length + ys.length ≤ SZ) : gIAddT m (.tup xs) (.tup ys) = some (.tup (xs ++ ys)) := if_pos h
theorem gMulT_t {k : Int} (h : 1 ≤ xs.length ∧ 2 ≤ k ∧ k ≤ 1000 ∧ xs.length ≤ 1000) : gMulT m (.tup xs) (.int k) = some (.tup (List.replicate k.toNat xs).flatten) := if_pos (decide_eq_true h)
def aug1 (i : Nat) (g : Sto → D → D → Option D) (x : Option Sl) (fe : Ed) (r : Env) (m : Sto) : Out := match x with
  | some (.dat x) => (fe r m).out fun y m1 => Opt.out (g m1 x y) fun d => .nx (r.set i (.dat d)) m1
  | _ => .stuck
theorem sAug_ap {g : Sto → D → D → Option D} {fe : Ed} {r : Env} : sAug i.toNat g fe r m = aug1 i.toNat g r[i.toNat]? fe r m := rfl
theorem sAug_ok {a : Nat} {g : Sto → D → D → Option D} {fe : Ed} {r : Env} {m m' : Sto} {x y d : D} (h1 : r[a]? = some (.dat x)) (h2 : fe r m = .ok y m') (h3 : g m' x y = some d) : sAug a g fe r m = .nx (r.set a (.dat d)) m' := by
  unfold sAug
  rw [h1]
  simp only [h2]
  show Opt.out (g m' x y) (fun d => Out.nx (r.set a (.dat d)) m') = _
  rw [h3]; rfl
end
end Q
end
section
set_option Elab.async false
set_option linter.all false
set_option maxRecDepth 100000
set_option maxHeartbeats 4000000
/-! zip of a tuple and a list (turned from the ways of two tuples and of two lists) -/
namespace RZ
open PySem
open PySem.Sem (wp)
section
variable {prog : Program} {w : World} {A : Around} {E : Value → Shared → Prop} {s : Shared}
theorem zipM_next_item {z TI TO i1 i2 l1 l2 : Addr} {k1 k2 : Nat} {xs ys : Array Value} {x y a b : Value} {Q : Value → Shared → Prop} (D : ZipApart z TI TO i1 i2 l1 l2)
    (hz : IsZip s.heap z TI TO .none) (hTI : IsPair s.heap TI (.ref i1) (.ref i2)) (hTO : IsPair s.heap TO a b)
    (h1 : s.heap.IsTupleIter i1 l1 k1) (h2 : s.heap.IsListIter i2 l2 k2) (hl1 : s.heap.IsTuple l1 xs) (hl2 : s.heap.IsList l2 ys) (hx : xs[k1]? = some x) (hy : ys[k2]? = some y)
    (hQ : ∀ h', IsZip h' z TI TO (rawInt s.heap.objs.size) → IsPair h' TO x y → h'.IsTupleIter i1 l1 (k1 + 1) → h'.IsListIter i2 l2 (k2 + 1) → IsPair h' s.heap.objs.size x y → h'.objs.size = s.heap.objs.size + 1 →
      (∀ c o, c ≠ z → c ≠ TO → c ≠ i1 → c ≠ i2 → s.heap.get? c = some o → h'.get? c = some o) → Q (.ref s.heap.objs.size) { s with heap := h' }) :
    wpAny (model prog w) A (Builtin.«zip.__next__» ⟨[.ref z], []⟩) (fun fin s' => ∃ v, fin = .done (.ret v) ∧ Q v s') E s := by
  show wpAny _ _ (field (.ref z) 2 >>= _) _ _ _
  refine wpAny_bind (wpAny_field hz rfl (x := .bool false) rfl ?_)
  show wpAny _ _ (field (.ref z) 3 >>= _) _ _ _
  refine wpAny_bind (wpAny_field hz rfl (x := .ref TI) rfl ?_)
  refine wpAny_bind (wpAny_seqItems hTI rfl ?_)
  show wpAny _ _ (Builtin.SmallTypes.ownedTupleIsFree (.ref z) >>= _) _ _ _
  refine wpAny_bind ?_
  unfold Builtin.SmallTypes.ownedTupleIsFree
  refine wpAny_bind (wpAny_field hz rfl (x := .none) rfl (wpAny_pure ?_))
  simp only [if_true]
  refine wpAny_bind (wpAny_rule ?_)
  refine wpAny_bind (wpAny_field hz rfl (x := .ref TO) rfl ?_)
  refine wpAny_bind (wpAny_setField_rec hz (by simp) fun h₁ hz₁ hs₁ => ?_)
  replace hz₁ : IsZip h₁ z TI TO .ellipsis := hz₁
  refine wpAny_bind ?_
  simp only [List.zipIdx_cons, List.zipIdx_nil, List.forIn_cons, List.forIn_nil]

  refine wpAny_bind (wpAny_bind (wpAny_onRaise ?_))
  show wpAny _ _ (Builtin.SmallTypes.nextOf (.ref i1) >>= _) _ _ _
  refine wpAny_bind (nextOf_tuple_item (h1.extBut hs₁.extBut D.i1z) (hl1.extBut hs₁.extBut D.l1z) hx fun h₂ h1₂ hs₂ => wpAny_pure ?_)
  have hTO₂ : IsPair h₂ TO a b := hs₂.extBut _ _ D.TOi1 (hs₁.extBut _ _ D.TOz hTO)
  refine wpAny_bind (wpAny_seqItems hTO₂ rfl ?_)
  refine wpAny_bind (wpAny_updateSeq_pair hTO₂ fun h₃ hTO₃ hs₃ => ?_)
  replace hTO₃ : IsPair h₃ TO x b := hTO₃
  refine wpAny_bind (wpAny_letGo (wpAny_pure ?_))

  refine wpAny_bind (wpAny_bind (wpAny_onRaise ?_))
  show wpAny _ _ (Builtin.SmallTypes.nextOf (.ref i2) >>= _) _ _ _
  refine wpAny_bind (wpAny_nextOf_list_item (((h2.extBut hs₁.extBut D.i2z).extBut hs₂.extBut D.i12.symm).extBut hs₃.extBut D.TOi2.symm)
    (((hl2.extBut hs₁.extBut D.l2z).extBut hs₂.extBut D.l2i1).extBut hs₃.extBut D.l2TO) hy fun h₄ h2₄ hs₄ => wpAny_pure ?_)
  have hTO₄ : IsPair h₄ TO x b := hs₄.extBut _ _ D.TOi2 hTO₃
  refine wpAny_bind (wpAny_seqItems hTO₄ rfl ?_)
  refine wpAny_bind (wpAny_updateSeq_pair hTO₄ fun h₅ hTO₅ hs₅ => ?_)
  replace hTO₅ : IsPair h₅ TO x y := hTO₅
  refine wpAny_bind (wpAny_letGo (wpAny_pure (wpAny_pure ?_)))

  refine wpAny_bind (wpAny_seqItems hTO₅ rfl ?_)
  refine wpAny_bind (wpAny_newTuple ?_)
  have hsz : h₅.objs.size = s.heap.objs.size := by rw [hs₅.1, hs₄.1, hs₃.1, hs₂.1, hs₁.1]
  have hz₅ : IsZip h₅ z TI TO .ellipsis := hs₅.extBut _ _ D.TOz.symm (hs₄.extBut _ _ D.i2z.symm (hs₃.extBut _ _ D.TOz.symm (hs₂.extBut _ _ D.i1z.symm hz₁)))
  have hk₅ : ∀ c o, c ≠ z → c ≠ TO → c ≠ i1 → c ≠ i2 → s.heap.get? c = some o → h₅.get? c = some o := fun c o c1 c2 c3 c4 e =>
    hs₅.extBut _ _ c2 (hs₄.extBut _ _ c4 (hs₃.extBut _ _ c2 (hs₂.extBut _ _ c3 (hs₁.extBut _ _ c1 e))))
  have h1₅ : h₅.IsTupleIter i1 l1 (k1 + 1) := ((h1₂.extBut hs₃.extBut D.TOi1.symm).extBut hs₄.extBut D.i12).extBut hs₅.extBut D.TOi1.symm
  have h2₅ : h₅.IsListIter i2 l2 (k2 + 1) := h2₄.extBut hs₅.extBut D.TOi2.symm
  have hzlt : z < h₅.objs.size := Heap.lt_size hz₅
  have hTOlt : TO < h₅.objs.size := Heap.lt_size hTO₅
  have hi1lt : i1 < h₅.objs.size := by obtain ⟨_, e, _⟩ := h1₅; exact Heap.lt_size e
  have hi2lt : i2 < h₅.objs.size := by obtain ⟨_, e, _⟩ := h2₅; exact Heap.lt_size e
  show wpAny _ _ (Builtin.SmallTypes.ownedTupleHandOut (.ref z) (.ref h₅.objs.size) >>= _) _ _ _
  refine wpAny_bind ?_
  unfold Builtin.SmallTypes.ownedTupleHandOut
  have hz₆ : IsZip (h₅.push { cls := .type "tuple", data := .seq #[x, y] }) z TI TO .ellipsis := Heap.get?_push_of_some _ hz₅
  refine wpAny_bind (wpAny_setField_rec hz₆ (by simp) fun h₇ hz₇ hs₇ => ?_)
  replace hz₇ : IsZip h₇ z TI TO (rawInt h₅.objs.size) := hz₇
  refine wpAny_setField_rec hz₇ (by simp) fun h₈ hz₈ hs₈ => ?_
  replace hz₈ : IsZip h₈ z TI TO (rawInt h₅.objs.size) := hz₈
  have up : ∀ c o, c ≠ z → h₅.get? c = some o → h₈.get? c = some o := fun c o c1 e => hs₈.extBut _ _ c1 (hs₇.extBut _ _ c1 (Heap.get?_push_of_some _ e))
  have hT₈ : IsPair h₈ h₅.objs.size x y := hs₈.extBut _ _ (Nat.ne_of_gt hzlt) (hs₇.extBut _ _ (Nat.ne_of_gt hzlt) (Heap.get?_push_size _ rfl))
  have hz8 : h₈.objs.size = h₅.objs.size + 1 := by rw [hs₈.1, hs₇.1, Heap.size_push]
  rw [hsz] at hz₈ hT₈ hz8
  refine wpAny_pure ⟨_, rfl, ?_⟩
  show Q (.ref h₅.objs.size) _
  rw [hsz]
  exact hQ h₈ hz₈ (up _ _ D.TOz hTO₅) (h1₅.at fun o e => up _ o D.i1z e) (h2₅.at fun o e => up _ o D.i2z e) hT₈ hz8 fun c o c1 c2 c3 c4 e => up c o c1 (hk₅ c o c1 c2 c3 c4 e)

theorem zipM_next_end {z TI TO i1 i2 l1 l2 : Addr} {k1 k2 : Nat} {xs ys : Array Value} {a b : Value} {Q : Fin → Shared → Prop} (hh : A.handled = none) (D : ZipApart z TI TO i1 i2 l1 l2)
    (hz : IsZip s.heap z TI TO .none) (hTI : IsPair s.heap TI (.ref i1) (.ref i2)) (hTO : IsPair s.heap TO a b)
    (h1 : s.heap.IsTupleIter i1 l1 k1) (h2 : s.heap.IsListIter i2 l2 k2) (hl1 : s.heap.IsTuple l1 xs) (hl2 : s.heap.IsList l2 ys) (hend : xs[k1]? = none ∨ ys[k2]? = none)
    (hE : ∀ h' e, (∀ c o, c ≠ z → c ≠ TO → c ≠ i1 → c ≠ i2 → s.heap.get? c = some o → h'.get? c = some o) → (∃ o, h'.get? e = some o ∧ o.cls = .type "StopIteration") → E (.ref e) { s with heap := h' }) :
    wpAny (model prog w) A (Builtin.«zip.__next__» ⟨[.ref z], []⟩) Q E s := by
  show wpAny _ _ (field (.ref z) 2 >>= _) _ _ _
  refine wpAny_bind (wpAny_field hz rfl (x := .bool false) rfl ?_)
  show wpAny _ _ (field (.ref z) 3 >>= _) _ _ _
  refine wpAny_bind (wpAny_field hz rfl (x := .ref TI) rfl ?_)
  refine wpAny_bind (wpAny_seqItems hTI rfl ?_)
  show wpAny _ _ (Builtin.SmallTypes.ownedTupleIsFree (.ref z) >>= _) _ _ _
  refine wpAny_bind ?_
  unfold Builtin.SmallTypes.ownedTupleIsFree
  refine wpAny_bind (wpAny_field hz rfl (x := .none) rfl (wpAny_pure ?_))
  simp only [if_true]
  refine wpAny_bind (wpAny_rule ?_)
  refine wpAny_bind (wpAny_field hz rfl (x := .ref TO) rfl ?_)
  refine wpAny_bind (wpAny_setField_rec hz (by simp) fun h₁ hz₁ hs₁ => ?_)
  replace hz₁ : IsZip h₁ z TI TO .ellipsis := hz₁
  refine wpAny_bind ?_
  simp only [List.zipIdx_cons, List.zipIdx_nil, List.forIn_cons, List.forIn_nil]
  refine wpAny_bind (wpAny_bind (wpAny_onRaise ?_))
  show wpAny _ _ (Builtin.SmallTypes.nextOf (.ref i1) >>= _) _ _ _
  cases hx : xs[k1]? with
  | none =>
    refine wpAny_bind (nextOf_tuple_end hh (h1.extBut hs₁.extBut D.i1z) (hl1.extBut hs₁.extBut D.l1z) hx fun h₂ e hs₂ he => ?_)
    obtain ⟨oe, hoe, hce⟩ := he
    have hz₂ : IsZip h₂ z TI TO .ellipsis := hs₂ _ _ D.i1z.symm hz₁
    have hez : e ≠ z := fun x => by subst x; rw [hz₂] at hoe; cases hoe; simp at hce
    refine wpAny_setField_rec hz₂ (by simp) fun h₃ _ hs₃ => hE h₃ e (fun c o c1 _ c3 _ x => hs₃.extBut _ _ c1 (hs₂ _ _ c3 (hs₁.extBut _ _ c1 x))) ⟨oe, hs₃.extBut _ _ hez hoe, hce⟩
  | some x =>
    have hy : ys[k2]? = none := by rcases hend with h | h; rw [hx] at h; cases h; exact h
    refine wpAny_bind (nextOf_tuple_item (h1.extBut hs₁.extBut D.i1z) (hl1.extBut hs₁.extBut D.l1z) hx fun h₂ h1₂ hs₂ => wpAny_pure ?_)
    have hTO₂ : IsPair h₂ TO a b := hs₂.extBut _ _ D.TOi1 (hs₁.extBut _ _ D.TOz hTO)
    refine wpAny_bind (wpAny_seqItems hTO₂ rfl ?_)
    refine wpAny_bind (wpAny_updateSeq_pair hTO₂ fun h₃ hTO₃ hs₃ => ?_)
    refine wpAny_bind (wpAny_letGo (wpAny_pure ?_))
    refine wpAny_bind (wpAny_bind (wpAny_onRaise ?_))
    show wpAny _ _ (Builtin.SmallTypes.nextOf (.ref i2) >>= _) _ _ _
    refine wpAny_bind (wpAny_nextOf_list_end hh (((h2.extBut hs₁.extBut D.i2z).extBut hs₂.extBut D.i12.symm).extBut hs₃.extBut D.TOi2.symm)
      (((hl2.extBut hs₁.extBut D.l2z).extBut hs₂.extBut D.l2i1).extBut hs₃.extBut D.l2TO) hy fun h₄ e hs₄ he => ?_)
    obtain ⟨oe, hoe, hce⟩ := he
    have hz₄ : IsZip h₄ z TI TO .ellipsis := hs₄ _ _ D.i2z.symm (hs₃.extBut _ _ D.TOz.symm (hs₂.extBut _ _ D.i1z.symm hz₁))
    have hez : e ≠ z := fun x => by subst x; rw [hz₄] at hoe; cases hoe; simp at hce
    refine wpAny_setField_rec hz₄ (by simp) fun h₅ _ hs₅ => hE h₅ e (fun c o c1 c2 c3 c4 x => hs₅.extBut _ _ c1 (hs₄ _ _ c4 (hs₃.extBut _ _ c2 (hs₂.extBut _ _ c3 (hs₁.extBut _ _ c1 x))))) ⟨oe, hs₅.extBut _ _ hez hoe, hce⟩

theorem pyNext_zipM_item {z TI TO i1 i2 l1 l2 : Addr} {k1 k2 : Nat} {xs ys : Array Value} {x y a b : Value} {Q : Option Value → Shared → Prop} (D : ZipApart z TI TO i1 i2 l1 l2)
    (hz : IsZip s.heap z TI TO .none) (hTI : IsPair s.heap TI (.ref i1) (.ref i2)) (hTO : IsPair s.heap TO a b)
    (h1 : s.heap.IsTupleIter i1 l1 k1) (h2 : s.heap.IsListIter i2 l2 k2) (hl1 : s.heap.IsTuple l1 xs) (hl2 : s.heap.IsList l2 ys) (hx : xs[k1]? = some x) (hy : ys[k2]? = some y)
    (hQ : ∀ h', IsZip h' z TI TO (rawInt s.heap.objs.size) → IsPair h' TO x y → h'.IsTupleIter i1 l1 (k1 + 1) → h'.IsListIter i2 l2 (k2 + 1) → IsPair h' s.heap.objs.size x y → h'.objs.size = s.heap.objs.size + 1 →
      (∀ c o, c ≠ z → c ≠ TO → c ≠ i1 → c ≠ i2 → s.heap.get? c = some o → h'.get? c = some o) → Q (some (.ref s.heap.objs.size)) { s with heap := h' }) :
    wpAny (model prog w) A (pyNext (.ref z)) Q E s := by
  have hT : s.TypeIs (.ref z) "zip" := ⟨_, hz, rfl⟩
  unfold pyNext
  exact wpAny_bind (wpAny_attempt (wpAny_callSpecial?_slot (name := Str.ofString "__next__") hT F.slot_zip_next
    (wpAny_call_entry F.slot_zip_next hT F.entry_zip_next
      (zipM_next_item D hz hTI hTO h1 h2 hl1 hl2 hx hy fun h' a1 a2 a3 a4 a5 a6 a7 => wpAny_pure (hQ h' a1 a2 a3 a4 a5 a6 a7)) (F.args_zip_next_1 _))))

theorem pyNext_zipM_end {z TI TO i1 i2 l1 l2 : Addr} {k1 k2 : Nat} {xs ys : Array Value} {a b : Value} {Q : Option Value → Shared → Prop} (hh : A.handled = none) (D : ZipApart z TI TO i1 i2 l1 l2)
    (hz : IsZip s.heap z TI TO .none) (hTI : IsPair s.heap TI (.ref i1) (.ref i2)) (hTO : IsPair s.heap TO a b)
    (h1 : s.heap.IsTupleIter i1 l1 k1) (h2 : s.heap.IsListIter i2 l2 k2) (hl1 : s.heap.IsTuple l1 xs) (hl2 : s.heap.IsList l2 ys) (hend : xs[k1]? = none ∨ ys[k2]? = none)
    (hQ : ∀ h', (∀ c o, c ≠ z → c ≠ TO → c ≠ i1 → c ≠ i2 → s.heap.get? c = some o → h'.get? c = some o) → Q none { s with heap := h' }) : wpAny (model prog w) A (pyNext (.ref z)) Q E s := by
  have hT : s.TypeIs (.ref z) "zip" := ⟨_, hz, rfl⟩
  unfold pyNext
  refine wpAny_bind (wpAny_attempt (wpAny_callSpecial?_slot (name := Str.ofString "__next__") hT F.slot_zip_next
    (wpAny_call_entry F.slot_zip_next hT F.entry_zip_next (zipM_next_end hh D hz hTI hTO h1 h2 hl1 hl2 hend fun h' e hk he => ?_) (F.args_zip_next_1 _))))
  obtain ⟨o, ho, hc⟩ := he
  refine wpAny_bind (wpAny_isInstance (T := "StopIteration") (b := true) ⟨o, ho, hc⟩ isSubtype_stop ?_)
  exact wpAny_pure (hQ _ hk)
end
abbrev zipMH1 (h : Heap) (l1 : Addr) : Heap := h.push { cls := .type "tuple_iterator", data := .fields #[.ref l1, .int 0 0] }
abbrev zipMH2 (h : Heap) (l1 l2 : Addr) : Heap := (zipMH1 h l1).push { cls := .type "list_iterator", data := .fields #[.ref l2, .int 0 0] }
abbrev zipMH3 (h : Heap) (l1 l2 : Addr) : Heap := (zipMH2 h l1 l2).push { cls := .type "tuple", data := .seq #[.ref h.objs.size, .ref (zipMH1 h l1).objs.size] }
abbrev zipMH4 (h : Heap) (l1 l2 : Addr) : Heap := (zipMH3 h l1 l2).push { cls := .type "tuple", data := .seq #[.none, .none] }
abbrev zipMH5 (h : Heap) (l1 l2 : Addr) : Heap := (zipMH4 h l1 l2).push { cls := .type "zip", data := .fields #[.none, .bool false, .bool false, .ref (zipMH2 h l1 l2).objs.size, .ref (zipMH3 h l1 l2).objs.size] }

theorem meets_zipM_new (l1 l2 : Addr) (xs ys : Array Value) :
    Meets (Builtin.«zip.__new__» ⟨[.type "zip", .ref l1, .ref l2], []⟩) (fun _ R s => s.heap.IsTuple l1 xs ∧ s.heap.IsList l2 ys ∧
      R (.ok (.ret (.ref (zipMH4 s.heap l1 l2).objs.size))) { s with heap := zipMH5 s.heap l1 l2 }) :=
  .of_wp fun prog w A R s h => by
    obtain ⟨hp, g, d, tk, os⟩ := s; obtain ⟨hl1, hl2, h⟩ := h
    have hsub := sub_zip
    have hL1 : Heap.IsTuple (Shared.heap ⟨hp, g, d, tk, os⟩) l1 xs := hl1
    have hL2 : Heap.IsList (Shared.heap ⟨hp.push { cls := .type "tuple_iterator", data := .fields #[.ref l1, .int 0 0] }, g, d, tk, os⟩) l2 ys := Heap.IsList.push hl2 _
    wp_walk using wpAny_pyIter_tuple hL1, wpAny_pyIter_list hL2
    exact ⟨_, rfl, h⟩

section
variable {prog : Program} {w : World} {A : Around} {E : Value → Shared → Prop} {s : Shared}
theorem call_zipM {l1 l2 : Addr} {xs ys : Array Value} {Q : Value → Shared → Prop} (hl1 : s.heap.IsTuple l1 xs) (hl2 : s.heap.IsList l2 ys)
    (h : ∀ h', IsZip h' (s.heap.objs.size + 4) (s.heap.objs.size + 2) (s.heap.objs.size + 3) .none → IsPair h' (s.heap.objs.size + 2) (.ref s.heap.objs.size) (.ref (s.heap.objs.size + 1)) →
      IsPair h' (s.heap.objs.size + 3) .none .none → h'.IsTupleIter s.heap.objs.size l1 0 → h'.IsListIter (s.heap.objs.size + 1) l2 0 → h'.objs.size = s.heap.objs.size + 5 →
      (∀ c o, s.heap.get? c = some o → h'.get? c = some o) → Q (.ref (s.heap.objs.size + 4)) { s with heap := h' }) :
    wpAny (model prog w) A (call (.type "zip") [.ref l1, .ref l2]) Q E s := by
  refine callType_new F.called_zip (by decide) (F.typeCall_zip_2 _ _) (F.newCall_zip_2 _ _) (fun obj => F.args_object_init_3 obj _ _) F.entry_zip_new
    (meets_zipM_new l1 l2 xs ys) ⟨hl1, hl2, ?_⟩
  have z1 : (zipMH1 s.heap l1).objs.size = s.heap.objs.size + 1 := Heap.size_push ..
  have z2 : (zipMH2 s.heap l1 l2).objs.size = s.heap.objs.size + 2 := by rw [Heap.size_push, z1]
  have z3 : (zipMH3 s.heap l1 l2).objs.size = s.heap.objs.size + 3 := by rw [Heap.size_push, z2]
  have z4 : (zipMH4 s.heap l1 l2).objs.size = s.heap.objs.size + 4 := by rw [Heap.size_push, z3]
  have z5 : (zipMH5 s.heap l1 l2).objs.size = s.heap.objs.size + 5 := by rw [Heap.size_push, z4]
  have g5 : (zipMH5 s.heap l1 l2).get? (zipMH4 s.heap l1 l2).objs.size = some _ := Heap.get?_push_size _ rfl
  have g4 : (zipMH5 s.heap l1 l2).get? (zipMH3 s.heap l1 l2).objs.size = some _ := Heap.get?_push_of_some _ (Heap.get?_push_size _ rfl)
  have g3 : (zipMH5 s.heap l1 l2).get? (zipMH2 s.heap l1 l2).objs.size = some _ := Heap.get?_push_of_some _ (Heap.get?_push_of_some _ (Heap.get?_push_size _ rfl))
  have g2 : (zipMH5 s.heap l1 l2).get? (zipMH1 s.heap l1).objs.size = some _ := Heap.get?_push_of_some _ (Heap.get?_push_of_some _ (Heap.get?_push_of_some _ (Heap.get?_push_size _ rfl)))
  have g1 : (zipMH5 s.heap l1 l2).get? s.heap.objs.size = some _ := Heap.get?_push_of_some _ (Heap.get?_push_of_some _ (Heap.get?_push_of_some _ (Heap.get?_push_of_some _ (Heap.get?_push_size _ rfl))))
  show _ ∧ _
  rw [z2, z3, z4] at g5
  rw [z1, z2] at g3
  rw [z3] at g4
  rw [z1] at g2
  rw [z4]
  exact ⟨⟨_, g5, rfl⟩, h _ g5 g3 g4 ⟨_, g1, rfl, rfl⟩ ⟨_, g2, rfl, rfl⟩ z5 fun c o x =>
    Heap.get?_push_of_some _ (Heap.get?_push_of_some _ (Heap.get?_push_of_some _ (Heap.get?_push_of_some _ (Heap.get?_push_of_some _ x))))⟩
end
end RZ
namespace RZ
open PySem PySem.Spec PyProof.Rows L2
/-- the tuples at a and b as they stand at each turn, the items in new pairs -/
def ItzM (K : PySem.W.Frag) (a b : Addr) : It :=
  ⟨fun i H => ∃ (xs ys : List V) (x y : V), SqT K H a xs ∧ SqL K H b ys ∧ xs[i]? = some x ∧ ys[i]? = some y,
    fun i H v H' => ∃ T x y, v = .ref T ∧ H T = none ∧ H' = upd H T (.tup [x, y]) ∧ (∀ xs, SqT K H a xs → xs[i]? = some x) ∧ ∀ ys, SqL K H b ys → ys[i]? = some y,
    fun i H => ∃ xs ys : List V, SqT K H a xs ∧ SqL K H b ys ∧ (xs.length ≤ i ∨ ys.length ≤ i)⟩
theorem turn_zipM {P : Program} {w : World} {K : PySem.W.Frag} {elts : List Expr} {kk : Nat} {tpos : Pos} {a b z TI TO i1 i2 : Addr} (D : ZipApart z TI TO i1 i2 a b) :
    Turn P w K (.Tuple elts kk tpos) (ItzM K a b) [z, TI, TO, i1, i2] z (fun i h => IsZip h z TI TO .none ∧ IsPair h TI (.ref i1) (.ref i2) ∧ (∃ x y, IsPair h TO x y) ∧ h.IsTupleIter i1 a i ∧ h.IsListIter i2 b i) where
  mem := by simp
  obj := fun i h st c hc => by
    obtain ⟨hz, hTI, ⟨x, y, hTO⟩, ⟨o1, e1, _, d1⟩, ⟨o2, e2, _, d2⟩⟩ := st
    have e' : c = z ∨ c = TI ∨ c = TO ∨ c = i1 ∨ c = i2 := by simpa using hc
    rcases e' with q | q | q | q | q
    · rw [q]; exact ⟨_, hz, fun v q => nomatch q⟩
    · rw [q]; exact ⟨_, hTI, fun v q => nomatch q⟩
    · rw [q]; exact ⟨_, hTO, fun v q => nomatch q⟩
    · rw [q]; exact ⟨o1, e1, fun v q => by rw [d1] at q; cases q⟩
    · rw [q]; exact ⟨o2, e2, fun v q => by rw [d2] at q; cases q⟩
  keep := fun i h h' st k => by
    obtain ⟨hz, hTI, ⟨x, y, hTO⟩, h1, h2⟩ := st
    exact ⟨k z (by simp) _ hz, k TI (by simp) _ hTI, ⟨x, y, k TO (by simp) _ hTO⟩, h1.at fun o q => k i1 (by simp) o q, h2.at fun o q => k i2 (by simp) o q⟩
  item := by
    intro X hP hw hK hc i pins s σ H E I hf st hg
    subst hP hw hK
    obtain ⟨hz, hTI, ⟨x0, y0, hTO⟩, h1, h2⟩ := st
    obtain ⟨xs, ys, x, y, hqx, hqy, hx, hy⟩ := hg
    obtain ⟨its, rv, p, _⟩ := I.tuple hqx
    obtain ⟨its2, rv2, p2, _⟩ := I.list hqy
    obtain ⟨u, hu, ru⟩ := rv.get hx
    obtain ⟨u2, hu2, ru2⟩ := rv2.get hy
    have hzl : z < s.heap.objs.size := Heap.lt_size hz
    refine pyNext_zipM_item D hz hTI hTO h1 h2 p p2.isList (x := u) (y := u2) (by simpa using hu) (by simpa using hu2) fun h' z' TO' h1' h2' hT hsz hk => ?_
    refine ⟨_, rfl, wpAny_letOwnedTupleGo_zip (s := { s with heap := h' }) z' fun h'' z'' sb => ?_⟩
    have hT2 : h''.get? s.heap.objs.size = some { cls := .type "tuple", data := .seq #[u, u2] } := (sb.2 _ (Nat.ne_of_gt hzl)).trans hT
    have new : ObjOk X.prog X.w (upd H s.heap.objs.size (.tup [x, y])) h'' s.heap.objs.size (.tup [x, y]) :=
      ⟨by show 2 ≤ sizeLine; decide, [u, u2], .cons ru (.cons ru2 .nil), ⟨_, hT2, rfl, _, rfl⟩⟩
    have I1 : Inv X pins σ (upd H s.heap.objs.size (.tup [x, y])) { s with heap := h'' } :=
      I.turnedNew (t' := s.toks) (ch := [z, TI, TO, i1, i2]) (fun c o hb q => (sb.2 c (fun q' => hb (by simp [q']))).trans (hk c o (fun q' => hb (by simp [q'])) (fun q' => hb (by simp [q'])) (fun q' => hb (by simp [q'])) (fun q' => hb (by simp [q'])) q)) hf (Nat.le_refl _) new
    refine ⟨.ref s.heap.objs.size, _, I1, rfl, ⟨_, x, y, rfl, I.hok.fresh (Nat.le_refl _), rfl, fun l hl => by rw [I.tuple_inj hl hqx]; exact hx, fun l hl => by rw [I.list_inj hl hqy]; exact hy⟩, ⟨z'', ?_, ⟨u, u2, ?_⟩, ?_, ?_⟩, fun c hcm => ?_⟩
    · exact (sb.2 _ D.TIz).trans (hk _ _ D.TIz D.TITO D.TIi1 D.TIi2 hTI)
    · exact (sb.2 _ D.TOz).trans TO'
    · exact h1'.at fun o q => (sb.2 _ D.i1z).trans q
    · exact h2'.at fun o q => (sb.2 _ D.i2z).trans q
    · have hlt : c < s.heap.objs.size := by
        have e' : c = z ∨ c = TI ∨ c = TO ∨ c = i1 ∨ c = i2 := by simpa using hcm
        rcases e' with q | q | q | q | q
        · rw [q]; exact hzl
        · rw [q]; exact Heap.lt_size hTI
        · rw [q]; exact Heap.lt_size hTO
        · rw [q]; obtain ⟨_, e1, _⟩ := h1; exact Heap.lt_size e1
        · rw [q]; obtain ⟨_, e2, _⟩ := h2; exact Heap.lt_size e2
      rw [upd_ne (Nat.ne_of_lt hlt)]
      exact (hf c hcm).1
  done := by
    intro X hP hw hK hc i pins s σ H E I hf st hg
    subst hP hw hK
    obtain ⟨hz, hTI, ⟨x0, y0, hTO⟩, h1, h2⟩ := st
    obtain ⟨xs, ys, hqx, hqy, hend⟩ := hg
    obtain ⟨its, rv, p, _⟩ := I.tuple hqx
    obtain ⟨its2, rv2, p2, _⟩ := I.list hqy
    have l1 := rv.length
    have l2 := rv2.length
    have he : its.toArray[i]? = none ∨ its2.toArray[i]? = none := by
      rcases hend with q | q
      · exact .inl (by simp; omega)
      · exact .inr (by simp; omega)
    exact pyNext_zipM_end (I.ok.hd hc) D hz hTI hTO h1 h2 p p2.isList he fun h' hk => ⟨rfl, I.turnedL (t' := s.toks) (ch := [z, TI, TO, i1, i2]) (fun c o hb q =>
      hk c o (fun q' => hb (by simp [q'])) (fun q' => hb (by simp [q'])) (fun q' => hb (by simp [q'])) (fun q' => hb (by simp [q'])) q) hf⟩
  self := fun A i s Q E st h => wpAny_pyIter_zip st.1 h

end RZ
namespace Q
open PySem L2 PySem.Spec PyProof.Rows
def iZipX (K : PySem.W.Frag) (ta : TA) : TI := fun σ H R => ta σ H fun vs H1 => ∃ a b xs ys, vs = [.ref a, .ref b] ∧
  ((SqL K H1 a xs ∧ SqL K H1 b ys ∧ R (Itz K a b) H1) ∨ (SqT K H1 a xs ∧ SqT K H1 b ys ∧ R (RZ.ItzT K a b) H1) ∨ (SqT K H1 a xs ∧ SqL K H1 b ys ∧ R (RZ.ItzM K a b) H1))
theorem pi_zipX {X : Cx} {e e2 : Expr} {ta : TA} {p pos tpos : Pos} {elts : List Expr} {kk : Nat} (hg : Gl X "zip") (hm : X.mg "zip" = none) (ha : PA X [e, e2] ta)
    (hs : starEach [e, e2] X.env = (false, eval e X.env) :: starEach [e2] X.env := by rfl) (hpl : (backTo pos (starEach [e2] X.env)).any (·.1) = false := by rfl) :
    PI X (.Tuple elts kk tpos) (.Call (.Name "zip" p) [e, e2] [] pos) (iZipX X.K ta) := by
  refine ⟨fun pins s σ H R I h => ?_⟩
  refine Call_ (ld_blt I hg hm PyProof.Rows.boot_zip (PyProof.Rows.callWith_type1 (thn (ha.run pos pins s σ H _ I h) fun us s1 ⟨vs, H1, I1, r1, q1⟩ => ?_) hs hpl))
  obtain ⟨a, b, xs, ys, ex, q1⟩ := q1
  subst ex
  cases r1 with
  | cons r rr =>
    cases rr with
    | cons r' rr =>
      cases rr
      cases r
      cases r'
      have fresh5 : ∀ c, c ∈ [s1.heap.objs.size + 4, s1.heap.objs.size + 2, s1.heap.objs.size + 3, s1.heap.objs.size, s1.heap.objs.size + 1] → FpOk X pins H1 c := fun c hcm => by
        have e' : c = s1.heap.objs.size + 4 ∨ c = s1.heap.objs.size + 2 ∨ c = s1.heap.objs.size + 3 ∨ c = s1.heap.objs.size ∨ c = s1.heap.objs.size + 1 := by simpa using hcm
        have hle : s1.heap.objs.size ≤ c := by
          rcases e' with z | z | z | z | z
          · rw [z]; exact Nat.le_add_right _ _
          · rw [z]; exact Nat.le_add_right _ _
          · rw [z]; exact Nat.le_add_right _ _
          · rw [z]; exact Nat.le_refl _
          · rw [z]; exact Nat.le_add_right _ _
        exact I1.fpOk hle (I1.hok.fresh hle)
      rcases q1 with ⟨hqx, hqy, q⟩ | ⟨hqx, hqy, q⟩ | ⟨hqx, hqy, q⟩
      · obtain ⟨its, rv, p1, _⟩ := I1.list hqx
        obtain ⟨its2, rv2, p2, _⟩ := I1.list hqy
        refine call_zip_2 p1.isList p2.isList fun h' hz hTI hTO h1 h2 hsz hk => wpAny_pyIter_zip hz ?_
        have I2 : Inv X pins σ H1 { s1 with heap := h' } := I1.kept (t' := s1.toks) hk
        exact ⟨s1.heap.objs.size + 4, [s1.heap.objs.size + 4, s1.heap.objs.size + 2, s1.heap.objs.size + 3, s1.heap.objs.size, s1.heap.objs.size + 1], _, _, H1, rfl, I2, turn_zip (PySem.W.ktu_apart s1.heap.objs.size a b p1.lt p2.lt), ⟨hz, hTI, ⟨_, _, hTO⟩, h1, h2⟩, fresh5, q⟩
      · obtain ⟨its, rv, p1, _⟩ := I1.tuple hqx
        obtain ⟨its2, rv2, p2, _⟩ := I1.tuple hqy
        obtain ⟨o1, ho1, _⟩ := id p1
        obtain ⟨o2, ho2, _⟩ := id p2
        refine RZ.call_zipT (show s1.heap.IsTuple a its.toArray from p1) (show s1.heap.IsTuple b its2.toArray from p2) fun h' hz hTI hTO h1 h2 hsz hk => wpAny_pyIter_zip hz ?_
        have I2 : Inv X pins σ H1 { s1 with heap := h' } := I1.kept (t' := s1.toks) hk
        exact ⟨s1.heap.objs.size + 4, [s1.heap.objs.size + 4, s1.heap.objs.size + 2, s1.heap.objs.size + 3, s1.heap.objs.size, s1.heap.objs.size + 1], _, _, H1, rfl, I2, RZ.turn_zipT (PySem.W.ktu_apart s1.heap.objs.size a b (Heap.lt_size ho1) (Heap.lt_size ho2)), ⟨hz, hTI, ⟨_, _, hTO⟩, h1, h2⟩, fresh5, q⟩
      · obtain ⟨its, rv, p1, _⟩ := I1.tuple hqx
        obtain ⟨its2, rv2, p2, _⟩ := I1.list hqy
        obtain ⟨o1, ho1, _⟩ := id p1
        refine RZ.call_zipM (show s1.heap.IsTuple a its.toArray from p1) p2.isList fun h' hz hTI hTO h1 h2 hsz hk => wpAny_pyIter_zip hz ?_
        have I2 : Inv X pins σ H1 { s1 with heap := h' } := I1.kept (t' := s1.toks) hk
        exact ⟨s1.heap.objs.size + 4, [s1.heap.objs.size + 4, s1.heap.objs.size + 2, s1.heap.objs.size + 3, s1.heap.objs.size, s1.heap.objs.size + 1], _, _, H1, rfl, I2, RZ.turn_zipM (PySem.W.ktu_apart s1.heap.objs.size a b (Heap.lt_size ho1) p2.lt), ⟨hz, hTI, ⟨_, _, hTO⟩, h1, h2⟩, fresh5, q⟩
section
variable {K : PySem.W.Frag} {mg : Str → Option Value}
theorem it_zipM {a b : Addr} {xs ys : List D} {P P' : List Addr → Hp → Hp → Prop} (p : SqP K mg true a xs P) (q : SqP K mg false b ys P') : ItOk K mg (fun α F H => P α F H ∧ P' α F H) (RZ.ItzM K a b) (zipD xs ys) where
  st := fun α F H α' F' H' s ⟨h1, h2⟩ => ⟨p.st _ _ _ _ _ _ s h1, q.st _ _ _ _ _ _ s h2⟩
  go := fun α F H m i g ⟨h1, h2⟩ hi => by
    obtain ⟨vs, s1, r1⟩ := p.rd _ _ _ _ g h1
    obtain ⟨ws, s2, r2⟩ := q.rd _ _ _ _ g h2
    obtain ⟨i1, i2⟩ := zip_at hi
    have l1 := r1.length
    have l2 := r2.length
    exact ⟨vs, ws, vs[i]'(by omega), ws[i]'(by omega), s1, s2, by simp, by simp⟩
  stop := fun α F H m g ⟨h1, h2⟩ => by
    obtain ⟨vs, s1, r1⟩ := p.rd _ _ _ _ g h1
    obtain ⟨ws, s2, r2⟩ := q.rd _ _ _ _ g h2
    have l1 := r1.length
    have l2 := r2.length
    exact ⟨vs, ws, s1, s2, by simp [zipD]; omega⟩
  yld := fun α F H m i x H' g ⟨h1, h2⟩ hi ⟨T, y, z, e, hT, eH, k1, k2⟩ => by
    subst e eH
    obtain ⟨vs, s1, r1⟩ := p.rd _ _ _ _ g h1
    obtain ⟨ws, s2, r2⟩ := q.rd _ _ _ _ g h2
    obtain ⟨d, q1, q2⟩ := r1.get (k1 vs s1)
    obtain ⟨d', q1', q2'⟩ := r2.get (k2 ws s2)
    obtain ⟨F', g', s', r'⟩ := g.pair hT q2 q2'
    exact ⟨F', _, g', s', zip_get q1 q1', r'⟩
end
def iZpX (f g : Ed) : Id' := fun r m => (f r m).bind fun x m1 => (g r m1).bind fun y m2 => match sqD x, sqD y with
  | some (false, xs), some (false, ys) => .ok (zipD xs ys) m2
  | some (true, xs), some (true, ys) => .ok (zipD xs ys) m2
  | some (true, xs), some (false, ys) => .ok (zipD xs ys) m2
  | _, _ => .stuck
section
variable {X : Cx} {W : WX}
theorem qi_zipXB {a b : Expr} {fa fb : Ed} {p pos tpos : Pos} {elts : List Expr} {kk : Nat} (hg : Gl X "zip") (hm : X.mg "zip" = none) (h : QE X W .bor a fa) (h' : QE X W .bor b fb) (hs : starEach [a, b] X.env = (false, eval a X.env) :: starEach [b] X.env := by rfl) (hs2 : starEach [b] X.env = [(false, eval b X.env)] := by rfl)
    (hpl : (backTo pos (starEach [b] X.env)).any (·.1) = false := by rfl) : QI X W false (.Tuple elts kk tpos) (.Call (.Name "zip" p) [a, b] [] pos) (iZpX fa fb) := by
  obtain ⟨t, h1, h2⟩ := h.ex
  obtain ⟨u, h3, h4⟩ := h'.ex
  refine ⟨_, pi_zipX hg hm (pa_cons h1 (pa_cons h3 pa_nil hs2) hs) hs hpl, fun e Λ α F σ H r m S => ?_⟩
  refine At.bind (t := t σ H) (u := fun v H1 R => u σ H1 fun w H2 => ∃ a b xs ys, [v, w] = [V.ref a, V.ref b] ∧ ((SqL X.K H2 a xs ∧ SqL X.K H2 b ys ∧ R (Itz X.K a b) H2) ∨ (SqT X.K H2 a xs ∧ SqT X.K H2 b ys ∧ R (RZ.ItzT X.K a b) H2) ∨ (SqT X.K H2 a xs ∧ SqL X.K H2 b ys ∧ R (RZ.ItzM X.K a b) H2))) (Rl' := RlI X.K X.mg false) back_I (h2 e Λ α F σ H r m S) fun x m1 _ v α1 F1 H1 S1 s1 k1 => ?_
  refine At.bind (t := u σ H1) (u := fun w H2 R => ∃ a b xs ys, [v, w] = [V.ref a, V.ref b] ∧ ((SqL X.K H2 a xs ∧ SqL X.K H2 b ys ∧ R (Itz X.K a b) H2) ∨ (SqT X.K H2 a xs ∧ SqT X.K H2 b ys ∧ R (RZ.ItzT X.K a b) H2) ∨ (SqT X.K H2 a xs ∧ SqL X.K H2 b ys ∧ R (RZ.ItzM X.K a b) H2))) (Rl' := RlI X.K X.mg false) back_I (h4 e Λ α1 F1 σ H1 r m1 S1) fun y m2 _ w α2 F2 H2 S2 s2 k2 => ?_
  have k1 : RB X.K X.mg α2 F2 H2 v x := (RK.stay s2 k1).bor
  have k2 : RB X.K X.mg α2 F2 H2 w y := k2.bor
  split
  · rename_i xs ys e1 e2
    obtain ⟨a, P, rfl, p1, p2⟩ := rb_sqp k1 e1
    obtain ⟨b, P', rfl, q1, q2⟩ := rb_sqp k2 e2
    obtain ⟨vs, z1, _⟩ := p1.rd _ _ _ _ S2.g p2
    obtain ⟨ws, z2, _⟩ := q1.rd _ _ _ _ S2.g q2
    exact fun Q w => ⟨a, b, vs, ws, rfl, .inl ⟨z1, z2, w _ _ _ _ S2 (Stay.refl _ _ _) ⟨_, it_zipL p1 q1, ⟨p2, q2⟩, fun z => Bool.noConfusion z⟩⟩⟩
  · rename_i xs ys e1 e2
    obtain ⟨a, P, rfl, p1, p2⟩ := rb_sqp k1 e1
    obtain ⟨b, P', rfl, q1, q2⟩ := rb_sqp k2 e2
    obtain ⟨vs, z1, _⟩ := p1.rd _ _ _ _ S2.g p2
    obtain ⟨ws, z2, _⟩ := q1.rd _ _ _ _ S2.g q2
    exact fun Q w => ⟨a, b, vs, ws, rfl, .inr (.inl ⟨z1, z2, w _ _ _ _ S2 (Stay.refl _ _ _) ⟨_, it_zipT p1 q1, ⟨p2, q2⟩, fun z => Bool.noConfusion z⟩⟩)⟩
  · rename_i xs ys e1 e2
    obtain ⟨a, P, rfl, p1, p2⟩ := rb_sqp k1 e1
    obtain ⟨b, P', rfl, q1, q2⟩ := rb_sqp k2 e2
    obtain ⟨vs, z1, _⟩ := p1.rd _ _ _ _ S2.g p2
    obtain ⟨ws, z2, _⟩ := q1.rd _ _ _ _ S2.g q2
    exact fun Q w => ⟨a, b, vs, ws, rfl, .inr (.inr ⟨z1, z2, w _ _ _ _ S2 (Stay.refl _ _ _) ⟨_, it_zipM p1 q1, ⟨p2, q2⟩, fun z => Bool.noConfusion z⟩⟩)⟩
  · trivial
theorem qi_zipX {a b : Expr} {fa fb : Ed} {p pos tpos : Pos} {elts : List Expr} {kk : Nat} (hg : Gl X "zip") (hm : X.mg "zip" = none) (h : QE X W .froz a fa) (h' : QE X W .froz b fb) (hs : starEach [a, b] X.env = (false, eval a X.env) :: starEach [b] X.env := by rfl) (hs2 : starEach [b] X.env = [(false, eval b X.env)] := by rfl)
    (hpl : (backTo pos (starEach [b] X.env)).any (·.1) = false := by rfl) : QI X W true (.Tuple elts kk tpos) (.Call (.Name "zip" p) [a, b] [] pos) (iZpX fa fb) := by
  obtain ⟨t, h1, h2⟩ := h.ex
  obtain ⟨u, h3, h4⟩ := h'.ex
  refine ⟨_, pi_zipX hg hm (pa_cons h1 (pa_cons h3 pa_nil hs2) hs) hs hpl, fun e Λ α F σ H r m S => ?_⟩
  refine At.bind (t := t σ H) (u := fun v H1 R => u σ H1 fun w H2 => ∃ a b xs ys, [v, w] = [V.ref a, V.ref b] ∧ ((SqL X.K H2 a xs ∧ SqL X.K H2 b ys ∧ R (Itz X.K a b) H2) ∨ (SqT X.K H2 a xs ∧ SqT X.K H2 b ys ∧ R (RZ.ItzT X.K a b) H2) ∨ (SqT X.K H2 a xs ∧ SqL X.K H2 b ys ∧ R (RZ.ItzM X.K a b) H2))) (Rl' := RlI X.K X.mg true) back_I (h2 e Λ α F σ H r m S) fun x m1 _ v α1 F1 H1 S1 s1 k1 => ?_
  refine At.bind (t := u σ H1) (u := fun w H2 R => ∃ a b xs ys, [v, w] = [V.ref a, V.ref b] ∧ ((SqL X.K H2 a xs ∧ SqL X.K H2 b ys ∧ R (Itz X.K a b) H2) ∨ (SqT X.K H2 a xs ∧ SqT X.K H2 b ys ∧ R (RZ.ItzT X.K a b) H2) ∨ (SqT X.K H2 a xs ∧ SqL X.K H2 b ys ∧ R (RZ.ItzM X.K a b) H2))) (Rl' := RlI X.K X.mg true) back_I (h4 e Λ α1 F1 σ H1 r m1 S1) fun y m2 _ w α2 F2 H2 S2 s2 k2 => ?_
  have k1 : Rep X.K X.mg α2 F2 v x := RK.stay (k := .froz) s2 k1
  have k2 : Rep X.K X.mg α2 F2 w y := k2
  split
  · rename_i xs ys e1 e2
    obtain ⟨a, P, rfl, p1, p2, p3⟩ := rep_sqp k1 e1
    obtain ⟨b, P', rfl, q1, q2, q3⟩ := rep_sqp k2 e2
    obtain ⟨vs, z1, _⟩ := p1.rd _ _ _ _ S2.g (p2 H2)
    obtain ⟨ws, z2, _⟩ := q1.rd _ _ _ _ S2.g (q2 H2)
    exact fun Q w => ⟨a, b, vs, ws, rfl, .inl ⟨z1, z2, w _ _ _ _ S2 (Stay.refl _ _ _) ⟨_, it_zipL p1 q1, ⟨p2 _, q2 _⟩, fun _ α F H Hb α' F' H' h1 h2 ⟨h3, h4⟩ => ⟨p3 _ _ _ _ _ _ _ h1 h2 h3, q3 _ _ _ _ _ _ _ h1 h2 h4⟩⟩⟩⟩
  · rename_i xs ys e1 e2
    obtain ⟨a, P, rfl, p1, p2, p3⟩ := rep_sqp k1 e1
    obtain ⟨b, P', rfl, q1, q2, q3⟩ := rep_sqp k2 e2
    obtain ⟨vs, z1, _⟩ := p1.rd _ _ _ _ S2.g (p2 H2)
    obtain ⟨ws, z2, _⟩ := q1.rd _ _ _ _ S2.g (q2 H2)
    exact fun Q w => ⟨a, b, vs, ws, rfl, .inr (.inl ⟨z1, z2, w _ _ _ _ S2 (Stay.refl _ _ _) ⟨_, it_zipT p1 q1, ⟨p2 _, q2 _⟩, fun _ α F H Hb α' F' H' h1 h2 ⟨h3, h4⟩ => ⟨p3 _ _ _ _ _ _ _ h1 h2 h3, q3 _ _ _ _ _ _ _ h1 h2 h4⟩⟩⟩)⟩
  · rename_i xs ys e1 e2
    obtain ⟨a, P, rfl, p1, p2, p3⟩ := rep_sqp k1 e1
    obtain ⟨b, P', rfl, q1, q2, q3⟩ := rep_sqp k2 e2
    obtain ⟨vs, z1, _⟩ := p1.rd _ _ _ _ S2.g (p2 H2)
    obtain ⟨ws, z2, _⟩ := q1.rd _ _ _ _ S2.g (q2 H2)
    exact fun Q w => ⟨a, b, vs, ws, rfl, .inr (.inr ⟨z1, z2, w _ _ _ _ S2 (Stay.refl _ _ _) ⟨_, it_zipM p1 q1, ⟨p2 _, q2 _⟩, fun _ α F H Hb α' F' H' h1 h2 ⟨h3, h4⟩ => ⟨p3 _ _ _ _ _ _ _ h1 h2 h3, q3 _ _ _ _ _ _ _ h1 h2 h4⟩⟩⟩)⟩
  · trivial
end
section
variable {f g : Ed} {r : Env} {m : Sto} {x : D}
def zpx1 (x : Res D) (g : Ed) (r : Env) : Res (List D) := x.bind fun x m1 => (g r m1).bind fun y m2 => match sqD x, sqD y with
  | some (false, xs), some (false, ys) => .ok (zipD xs ys) m2
  | some (true, xs), some (true, ys) => .ok (zipD xs ys) m2
  | some (true, xs), some (false, ys) => .ok (zipD xs ys) m2
  | _, _ => .stuck
def zpx2 (x : D) (y : Res D) : Res (List D) := y.bind fun y m2 => match sqD x, sqD y with
  | some (false, xs), some (false, ys) => .ok (zipD xs ys) m2
  | some (true, xs), some (true, ys) => .ok (zipD xs ys) m2
  | some (true, xs), some (false, ys) => .ok (zipD xs ys) m2
  | _, _ => .stuck
@[simp] theorem iZpX_ap : iZpX f g r m = zpx1 (f r m) g r := rfl
@[simp] theorem zpx1_ok : zpx1 (.ok x m) g r = zpx2 x (g r m) := rfl
@[simp] theorem zpx2_tup {xs ys} : zpx2 (.tup xs) (.ok (.tup ys) m) = .ok (zipD xs ys) m := rfl
@[simp] theorem zpx2_lst {xs ys} : zpx2 (.lst xs) (.ok (.lst ys) m) = .ok (zipD xs ys) m := rfl
@[simp] theorem zpx2_tl {xs ys} : zpx2 (.tup xs) (.ok (.lst ys) m) = .ok (zipD xs ys) m := rfl
end
end Q
end
section
set_option Elab.async false
set_option linter.all false
set_option maxRecDepth 100000
set_option maxHeartbeats 4000000
/-! zip of two sequences walked by a name: the pair that was handed out may still be held -/
namespace RZ
open PySem
open PySem.Sem (wp)
/-- a zip whatever it has handed out -/
abbrev IsZipG (h : Heap) (z TI TO : Addr) (F0 : Value) (f : Bool) : Prop :=
  h.get? z = some { cls := .type "zip", dict := none, data := .fields #[F0, .bool f, .bool false, .ref TI, .ref TO], slots := #[] }
def Held0 (v : Value) : Prop := v = .none ∨ ∃ T : Addr, v = rawInt T
/-- one side of a zip: an iterator i over l with the items xs, at its state -/
structure Side (prog : Program) (w : World) (i l : Addr) (xs : Array Value) (S : Nat → Heap → Prop) : Prop where
  item : ∀ (A : Around) (E : Value → Shared → Prop) (s : Shared) (k : Nat) (x : Value) (Q : Value → Shared → Prop), S k s.heap → xs[k]? = some x → (∀ h', S (k + 1) h' → Heap.SameBut i s.heap h' → Q x { s with heap := h' }) →
    wpAny (model prog w) A (Builtin.SmallTypes.nextOf (.ref i)) Q E s
  fin : ∀ (A : Around) (E : Value → Shared → Prop) (s : Shared) (k : Nat) (Q : Value → Shared → Prop), A.handled = none → S k s.heap → xs[k]? = none → (∀ h' e, Heap.ExtBut i s.heap h' → (∃ o, h'.get? e = some o ∧ o.cls = .type "StopIteration") → E (.ref e) { s with heap := h' }) →
    wpAny (model prog w) A (Builtin.SmallTypes.nextOf (.ref i)) Q E s
  keep : ∀ (k : Nat) (h h' : Heap), S k h → (∀ c o, (c = i ∨ c = l) → h.get? c = some o → h'.get? c = some o) → S k h'
  lt : ∀ (k : Nat) (h : Heap), S k h → i < h.objs.size
theorem side_t {prog : Program} {w : World} {i l : Addr} {xs : Array Value} : Side prog w i l xs (fun k h => h.IsTupleIter i l k ∧ h.IsTuple l xs ∧ l ≠ i) where
  item := fun A E s k x Q st hx h => nextOf_tuple_item st.1 st.2.1 hx fun h' a b => h h' ⟨a, st.2.1.extBut b.extBut st.2.2, st.2.2⟩ b
  fin := fun A E s k Q hh st hx h => nextOf_tuple_end hh st.1 st.2.1 hx h
  keep := fun k h h' st q => ⟨st.1.at fun o e => q i o (.inl rfl) e, st.2.1.at fun o e => q l o (.inr rfl) e, st.2.2⟩
  lt := fun k h st => by obtain ⟨_, e, _⟩ := st.1; exact Heap.lt_size e
theorem side_l {prog : Program} {w : World} {i l : Addr} {xs : Array Value} : Side prog w i l xs (fun k h => h.IsListIter i l k ∧ h.IsList l xs ∧ l ≠ i) where
  item := fun A E s k x Q st hx h => wpAny_nextOf_list_item st.1 st.2.1 hx fun h' a b => h h' ⟨a, st.2.1.extBut b.extBut st.2.2, st.2.2⟩ b
  fin := fun A E s k Q hh st hx h => wpAny_nextOf_list_end hh st.1 st.2.1 hx h
  keep := fun k h h' st q => ⟨st.1.at fun o e => q i o (.inl rfl) e, st.2.1.at fun o e => q l o (.inr rfl) e, st.2.2⟩
  lt := fun k h st => by obtain ⟨_, e, _⟩ := st.1; exact Heap.lt_size e
section
variable {prog : Program} {w : World} {A : Around} {E : Value → Shared → Prop} {s : Shared}
theorem look_any {a : Addr} {Q : Option Obj → Shared → Prop} (h : Q (s.heap.get? a) s) : wpAny (model prog w) A (loadIfAlive a) Q E s := fun _ _ _ => h
theorem free_any {z TI TO : Addr} {F0 : Value} {f : Bool} {Q : Bool → Shared → Prop} (hf : Held0 F0) (hz : IsZipG s.heap z TI TO F0 f)
    (h : ∀ b f' h', IsZipG h' z TI TO F0 f' → Heap.SameBut z s.heap h' → Q b { s with heap := h' }) : wpAny (model prog w) A (Builtin.SmallTypes.ownedTupleIsFree (.ref z)) Q E s := by
  unfold Builtin.SmallTypes.ownedTupleIsFree
  rcases hf with rfl | ⟨T, rfl⟩
  · exact wpAny_bind (wpAny_field hz rfl (x := .none) rfl (wpAny_pure (h true f s.heap hz (Heap.SameBut.refl _ _))))
  · refine wpAny_bind (wpAny_field hz rfl (x := rawInt T) rfl ?_)
    show wpAny _ _ (loadIfAlive ((T : Int).toNat) >>= _) _ _ _
    rw [Int.toNat_natCast]
    refine wpAny_bind (look_any ?_)
    cases hT : s.heap.get? T with
    | none =>
      simp only [Option.isNone_none, if_true]
      exact wpAny_pure (h true f s.heap hz (Heap.SameBut.refl _ _))
    | some oT =>
      simp only [Option.isNone_some, Bool.false_eq_true, if_false]
      refine wpAny_bind (wpAny_field hz rfl (x := .bool f) rfl ?_)
      cases f with
      | true =>
        rw [if_neg (show ¬ ((Value.bool true != Value.bool true) = true) from Bool.false_ne_true)]
        exact wpAny_pure (h false true s.heap hz (Heap.SameBut.refl _ _))
      | false =>
        rw [if_pos (show (Value.bool false != Value.bool true) = true from rfl)]
        exact wpAny_bind (wpAny_setField_rec hz (by simp) fun h₁ hz₁ hs₁ => wpAny_pure (h false true h₁ hz₁ hs₁))
theorem zipG_item {z TI TO i1 i2 l1 l2 : Addr} {F0 : Value} {f : Bool} {k1 k2 : Nat} {xs ys : Array Value} {x y a b : Value} {S1 S2 : Nat → Heap → Prop} {Q : Value → Shared → Prop} (D : ZipApart z TI TO i1 i2 l1 l2) (d1 : Side prog w i1 l1 xs S1) (d2 : Side prog w i2 l2 ys S2) (hf : Held0 F0)
    (hz : IsZipG s.heap z TI TO F0 f) (hTI : IsPair s.heap TI (.ref i1) (.ref i2)) (hTO : IsPair s.heap TO a b)
    (h1 : S1 k1 s.heap) (h2 : S2 k2 s.heap) (hx : xs[k1]? = some x) (hy : ys[k2]? = some y)
    (hQ : ∀ h' F0' f' a' b', Held0 F0' → IsZipG h' z TI TO F0' f' → IsPair h' TO a' b' → S1 (k1 + 1) h' → S2 (k2 + 1) h' → IsPair h' s.heap.objs.size x y → h'.objs.size = s.heap.objs.size + 1 →
      (∀ c o, c ≠ z → c ≠ TO → c ≠ i1 → c ≠ i2 → s.heap.get? c = some o → h'.get? c = some o) → Q (.ref s.heap.objs.size) { s with heap := h' }) :
    wpAny (model prog w) A (Builtin.«zip.__next__» ⟨[.ref z], []⟩) (fun fin s' => ∃ v, fin = .done (.ret v) ∧ Q v s') E s := by
  show wpAny _ _ (field (.ref z) 2 >>= _) _ _ _
  refine wpAny_bind (wpAny_field hz rfl (x := .bool false) rfl ?_)
  show wpAny _ _ (field (.ref z) 3 >>= _) _ _ _
  refine wpAny_bind (wpAny_field hz rfl (x := .ref TI) rfl ?_)
  refine wpAny_bind (wpAny_seqItems hTI rfl ?_)
  show wpAny _ _ (Builtin.SmallTypes.ownedTupleIsFree (.ref z) >>= _) _ _ _
  refine wpAny_bind (free_any hf hz fun fr f' h₀ hz₀ hs₀ => ?_)
  have kp : ∀ {hA hB : Heap} {j : Addr} {k : Nat}, Heap.ExtBut j hA hB → j ≠ i1 → j ≠ l1 → S1 k hA → S1 k hB := fun e n1 n2 st => d1.keep _ _ _ st fun c o hc g => e _ _ (by rcases hc with rfl | rfl; exact n1.symm; exact n2.symm) g
  have kp2 : ∀ {hA hB : Heap} {j : Addr} {k : Nat}, Heap.ExtBut j hA hB → j ≠ i2 → j ≠ l2 → S2 k hA → S2 k hB := fun e n1 n2 st => d2.keep _ _ _ st fun c o hc g => e _ _ (by rcases hc with rfl | rfl; exact n1.symm; exact n2.symm) g
  have h1₀ : S1 k1 h₀ := kp hs₀.extBut D.i1z.symm D.l1z.symm h1
  have h2₀ : S2 k2 h₀ := kp2 hs₀.extBut D.i2z.symm D.l2z.symm h2
  have hTO₀ : IsPair h₀ TO a b := hs₀.extBut _ _ D.TOz hTO
  cases fr with
  | true =>
    simp only [if_true]
    refine wpAny_bind (wpAny_rule ?_)
    refine wpAny_bind (wpAny_field hz₀ rfl (x := .ref TO) rfl ?_)
    refine wpAny_bind (wpAny_setField_rec hz₀ (by simp) fun h₁ hz₁ hs₁ => ?_)
    replace hz₁ : IsZipG h₁ z TI TO .ellipsis f' := hz₁
    refine wpAny_bind ?_
    simp only [List.zipIdx_cons, List.zipIdx_nil, List.forIn_cons, List.forIn_nil]
    refine wpAny_bind (wpAny_bind (wpAny_onRaise ?_))
    show wpAny _ _ (Builtin.SmallTypes.nextOf (.ref i1) >>= _) _ _ _
    refine wpAny_bind (d1.item _ _ { s with heap := h₁ } k1 x _ (kp hs₁.extBut D.i1z.symm D.l1z.symm h1₀) hx fun h₂ h1₂ hs₂ => wpAny_pure ?_)
    have hTO₂ : IsPair h₂ TO a b := hs₂.extBut _ _ D.TOi1 (hs₁.extBut _ _ D.TOz hTO₀)
    refine wpAny_bind (wpAny_seqItems hTO₂ rfl ?_)
    refine wpAny_bind (wpAny_updateSeq_pair hTO₂ fun h₃ hTO₃ hs₃ => ?_)
    replace hTO₃ : IsPair h₃ TO x b := hTO₃
    refine wpAny_bind (wpAny_letGo (wpAny_pure ?_))
    refine wpAny_bind (wpAny_bind (wpAny_onRaise ?_))
    show wpAny _ _ (Builtin.SmallTypes.nextOf (.ref i2) >>= _) _ _ _
    refine wpAny_bind (d2.item _ _ { s with heap := h₃ } k2 y _ (kp2 hs₃.extBut D.TOi2 D.l2TO.symm (kp2 hs₂.extBut D.i12 D.l2i1.symm (kp2 hs₁.extBut D.i2z.symm D.l2z.symm h2₀))) hy fun h₄ h2₄ hs₄ => wpAny_pure ?_)
    have hTO₄ : IsPair h₄ TO x b := hs₄.extBut _ _ D.TOi2 hTO₃
    refine wpAny_bind (wpAny_seqItems hTO₄ rfl ?_)
    refine wpAny_bind (wpAny_updateSeq_pair hTO₄ fun h₅ hTO₅ hs₅ => ?_)
    replace hTO₅ : IsPair h₅ TO x y := hTO₅
    refine wpAny_bind (wpAny_letGo (wpAny_pure (wpAny_pure ?_)))
    refine wpAny_bind (wpAny_seqItems hTO₅ rfl ?_)
    refine wpAny_bind (wpAny_newTuple ?_)
    have hsz : h₅.objs.size = s.heap.objs.size := by rw [hs₅.1, hs₄.1, hs₃.1, hs₂.1, hs₁.1, hs₀.1]
    have hz₅ : IsZipG h₅ z TI TO .ellipsis f' := hs₅.extBut _ _ D.TOz.symm (hs₄.extBut _ _ D.i2z.symm (hs₃.extBut _ _ D.TOz.symm (hs₂.extBut _ _ D.i1z.symm hz₁)))
    have hk₅ : ∀ c o, c ≠ z → c ≠ TO → c ≠ i1 → c ≠ i2 → s.heap.get? c = some o → h₅.get? c = some o := fun c o c1 c2 c3 c4 e =>
      hs₅.extBut _ _ c2 (hs₄.extBut _ _ c4 (hs₃.extBut _ _ c2 (hs₂.extBut _ _ c3 (hs₁.extBut _ _ c1 (hs₀.extBut _ _ c1 e)))))
    have h1₅ : S1 (k1 + 1) h₅ := kp hs₅.extBut D.TOi1 D.l1TO.symm (kp hs₄.extBut D.i12.symm D.l1i2.symm (kp hs₃.extBut D.TOi1 D.l1TO.symm h1₂))
    have h2₅ : S2 (k2 + 1) h₅ := kp2 hs₅.extBut D.TOi2 D.l2TO.symm h2₄
    have hzlt : z < h₅.objs.size := Heap.lt_size hz₅
    show wpAny _ _ (Builtin.SmallTypes.ownedTupleHandOut (.ref z) (.ref h₅.objs.size) >>= _) _ _ _
    refine wpAny_bind ?_
    unfold Builtin.SmallTypes.ownedTupleHandOut
    have hz₆ : IsZipG (h₅.push { cls := .type "tuple", data := .seq #[x, y] }) z TI TO .ellipsis f' := Heap.get?_push_of_some _ hz₅
    refine wpAny_bind (wpAny_setField_rec hz₆ (by simp) fun h₇ hz₇ hs₇ => ?_)
    replace hz₇ : IsZipG h₇ z TI TO (rawInt h₅.objs.size) f' := hz₇
    refine wpAny_setField_rec hz₇ (by simp) fun h₈ hz₈ hs₈ => ?_
    replace hz₈ : IsZipG h₈ z TI TO (rawInt h₅.objs.size) false := hz₈
    have up : ∀ c o, c ≠ z → h₅.get? c = some o → h₈.get? c = some o := fun c o c1 e => hs₈.extBut _ _ c1 (hs₇.extBut _ _ c1 (Heap.get?_push_of_some _ e))
    have hT₈ : IsPair h₈ h₅.objs.size x y := hs₈.extBut _ _ (Nat.ne_of_gt hzlt) (hs₇.extBut _ _ (Nat.ne_of_gt hzlt) (Heap.get?_push_size _ rfl))
    have hz8 : h₈.objs.size = h₅.objs.size + 1 := by rw [hs₈.1, hs₇.1, Heap.size_push]
    rw [hsz] at hz₈ hT₈ hz8
    refine wpAny_pure ⟨_, rfl, ?_⟩
    show Q (.ref h₅.objs.size) _
    rw [hsz]
    exact hQ h₈ _ _ _ _ (.inr ⟨_, rfl⟩) hz₈ (up _ _ D.TOz hTO₅) (d1.keep _ _ _ h1₅ fun c o hc g => up _ o (by rcases hc with rfl | rfl; exact D.i1z; exact D.l1z) g) (d2.keep _ _ _ h2₅ fun c o hc g => up _ o (by rcases hc with rfl | rfl; exact D.i2z; exact D.l2z) g) hT₈ hz8 fun c o c1 c2 c3 c4 e => up c o c1 (hk₅ c o c1 c2 c3 c4 e)
  | false =>
    simp only [Bool.false_eq_true, if_false]
    refine wpAny_bind ?_
    rw [← Array.forIn_toList]
    simp only [List.forIn_cons, List.forIn_nil]
    refine wpAny_bind (wpAny_bind (wpAny_holding ?_))
    show wpAny _ _ (Builtin.SmallTypes.nextOf (.ref i1) >>= _) _ _ _
    refine wpAny_bind (d1.item _ _ { s with heap := h₀ } k1 x _ h1₀ hx fun h₂ h1₂ hs₂ => wpAny_pure ?_)
    refine wpAny_pure ?_
    refine wpAny_bind (wpAny_bind (wpAny_holding ?_))
    show wpAny _ _ (Builtin.SmallTypes.nextOf (.ref i2) >>= _) _ _ _
    refine wpAny_bind (d2.item _ _ { s with heap := h₂ } k2 y _ (kp2 hs₂.extBut D.i12 D.l2i1.symm h2₀) hy fun h₃ h2₃ hs₃ => wpAny_pure ?_)
    refine wpAny_pure (wpAny_pure ?_)
    show wpAny _ _ (newTuple [x, y] >>= _) _ _ _
    refine wpAny_bind (wpAny_newTuple ?_)
    have hsz : h₃.objs.size = s.heap.objs.size := by rw [hs₃.1, hs₂.1, hs₀.1]
    have hz₃ : IsZipG h₃ z TI TO F0 f' := hs₃.extBut _ _ D.i2z.symm (hs₂.extBut _ _ D.i1z.symm hz₀)
    have hk : ∀ c o, c ≠ z → c ≠ i1 → c ≠ i2 → s.heap.get? c = some o → h₃.get? c = some o := fun c o c1 c2 c3 e => hs₃.extBut _ _ c3 (hs₂.extBut _ _ c2 (hs₀.extBut _ _ c1 e))
    have h1₃ : S1 (k1 + 1) h₃ := kp hs₃.extBut D.i12.symm D.l1i2.symm h1₂
    refine wpAny_pure ⟨_, rfl, ?_⟩
    show Q (.ref h₃.objs.size) _
    have hp : IsPair (h₃.push { cls := .type "tuple", data := .seq #[x, y] }) h₃.objs.size x y := Heap.get?_push_size _ rfl
    have hz4 : (h₃.push { cls := .type "tuple", data := .seq #[x, y] }).objs.size = h₃.objs.size + 1 := Heap.size_push ..
    rw [hsz] at hp hz4 ⊢
    exact hQ _ _ _ _ _ hf (Heap.get?_push_of_some _ hz₃) (Heap.get?_push_of_some _ (hk _ _ D.TOz D.TOi1 D.TOi2 hTO)) (d1.keep _ _ _ h1₃ fun c o _ g => Heap.get?_push_of_some _ g) (d2.keep _ _ _ h2₃ fun c o _ g => Heap.get?_push_of_some _ g) hp hz4 fun c o c1 _ c2 c3 e => Heap.get?_push_of_some _ (hk c o c1 c2 c3 e)
theorem zipG_end {z TI TO i1 i2 l1 l2 : Addr} {F0 : Value} {f : Bool} {k1 k2 : Nat} {xs ys : Array Value} {a b : Value} {S1 S2 : Nat → Heap → Prop} {Q : Fin → Shared → Prop} (hh : A.handled = none) (D : ZipApart z TI TO i1 i2 l1 l2) (d1 : Side prog w i1 l1 xs S1) (d2 : Side prog w i2 l2 ys S2) (hf : Held0 F0)
    (hz : IsZipG s.heap z TI TO F0 f) (hTI : IsPair s.heap TI (.ref i1) (.ref i2)) (hTO : IsPair s.heap TO a b)
    (h1 : S1 k1 s.heap) (h2 : S2 k2 s.heap) (hend : xs[k1]? = none ∨ ys[k2]? = none)
    (hE : ∀ h' e, (∀ c o, c ≠ z → c ≠ TO → c ≠ i1 → c ≠ i2 → s.heap.get? c = some o → h'.get? c = some o) → (∃ o, h'.get? e = some o ∧ o.cls = .type "StopIteration") → E (.ref e) { s with heap := h' }) :
    wpAny (model prog w) A (Builtin.«zip.__next__» ⟨[.ref z], []⟩) Q E s := by
  show wpAny _ _ (field (.ref z) 2 >>= _) _ _ _
  refine wpAny_bind (wpAny_field hz rfl (x := .bool false) rfl ?_)
  show wpAny _ _ (field (.ref z) 3 >>= _) _ _ _
  refine wpAny_bind (wpAny_field hz rfl (x := .ref TI) rfl ?_)
  refine wpAny_bind (wpAny_seqItems hTI rfl ?_)
  show wpAny _ _ (Builtin.SmallTypes.ownedTupleIsFree (.ref z) >>= _) _ _ _
  refine wpAny_bind (free_any hf hz fun fr f' h₀ hz₀ hs₀ => ?_)
  have kp : ∀ {hA hB : Heap} {j : Addr} {k : Nat}, Heap.ExtBut j hA hB → j ≠ i1 → j ≠ l1 → S1 k hA → S1 k hB := fun e n1 n2 st => d1.keep _ _ _ st fun c o hc g => e _ _ (by rcases hc with rfl | rfl; exact n1.symm; exact n2.symm) g
  have kp2 : ∀ {hA hB : Heap} {j : Addr} {k : Nat}, Heap.ExtBut j hA hB → j ≠ i2 → j ≠ l2 → S2 k hA → S2 k hB := fun e n1 n2 st => d2.keep _ _ _ st fun c o hc g => e _ _ (by rcases hc with rfl | rfl; exact n1.symm; exact n2.symm) g
  have h1₀ : S1 k1 h₀ := kp hs₀.extBut D.i1z.symm D.l1z.symm h1
  have h2₀ : S2 k2 h₀ := kp2 hs₀.extBut D.i2z.symm D.l2z.symm h2
  have hTO₀ : IsPair h₀ TO a b := hs₀.extBut _ _ D.TOz hTO
  cases fr with
  | true =>
    simp only [if_true]
    refine wpAny_bind (wpAny_rule ?_)
    refine wpAny_bind (wpAny_field hz₀ rfl (x := .ref TO) rfl ?_)
    refine wpAny_bind (wpAny_setField_rec hz₀ (by simp) fun h₁ hz₁ hs₁ => ?_)
    replace hz₁ : IsZipG h₁ z TI TO .ellipsis f' := hz₁
    refine wpAny_bind ?_
    simp only [List.zipIdx_cons, List.zipIdx_nil, List.forIn_cons, List.forIn_nil]
    refine wpAny_bind (wpAny_bind (wpAny_onRaise ?_))
    show wpAny _ _ (Builtin.SmallTypes.nextOf (.ref i1) >>= _) _ _ _
    cases hx : xs[k1]? with
    | none =>
      refine wpAny_bind (d1.fin _ _ { s with heap := h₁ } k1 _ hh (kp hs₁.extBut D.i1z.symm D.l1z.symm h1₀) hx fun h₂ e hs₂ he => ?_)
      obtain ⟨oe, hoe, hce⟩ := he
      have hz₂ : IsZipG h₂ z TI TO .ellipsis f' := hs₂ _ _ D.i1z.symm hz₁
      have hez : e ≠ z := fun x => by subst x; rw [hz₂] at hoe; cases hoe; simp at hce
      refine wpAny_setField_rec hz₂ (by simp) fun h₃ _ hs₃ => hE h₃ e (fun c o c1 _ c3 _ x => hs₃.extBut _ _ c1 (hs₂ _ _ c3 (hs₁.extBut _ _ c1 (hs₀.extBut _ _ c1 x)))) ⟨oe, hs₃.extBut _ _ hez hoe, hce⟩
    | some x =>
      have hy : ys[k2]? = none := by rcases hend with h | h; rw [hx] at h; cases h; exact h
      refine wpAny_bind (d1.item _ _ { s with heap := h₁ } k1 x _ (kp hs₁.extBut D.i1z.symm D.l1z.symm h1₀) hx fun h₂ h1₂ hs₂ => wpAny_pure ?_)
      have hTO₂ : IsPair h₂ TO a b := hs₂.extBut _ _ D.TOi1 (hs₁.extBut _ _ D.TOz hTO₀)
      refine wpAny_bind (wpAny_seqItems hTO₂ rfl ?_)
      refine wpAny_bind (wpAny_updateSeq_pair hTO₂ fun h₃ hTO₃ hs₃ => ?_)
      refine wpAny_bind (wpAny_letGo (wpAny_pure ?_))
      refine wpAny_bind (wpAny_bind (wpAny_onRaise ?_))
      show wpAny _ _ (Builtin.SmallTypes.nextOf (.ref i2) >>= _) _ _ _
      refine wpAny_bind (d2.fin _ _ { s with heap := h₃ } k2 _ hh (kp2 hs₃.extBut D.TOi2 D.l2TO.symm (kp2 hs₂.extBut D.i12 D.l2i1.symm (kp2 hs₁.extBut D.i2z.symm D.l2z.symm h2₀))) hy fun h₄ e hs₄ he => ?_)
      obtain ⟨oe, hoe, hce⟩ := he
      have hz₄ : IsZipG h₄ z TI TO .ellipsis f' := hs₄ _ _ D.i2z.symm (hs₃.extBut _ _ D.TOz.symm (hs₂.extBut _ _ D.i1z.symm hz₁))
      have hez : e ≠ z := fun x => by subst x; rw [hz₄] at hoe; cases hoe; simp at hce
      refine wpAny_setField_rec hz₄ (by simp) fun h₅ _ hs₅ => hE h₅ e (fun c o c1 c2 c3 c4 x => hs₅.extBut _ _ c1 (hs₄ _ _ c4 (hs₃.extBut _ _ c2 (hs₂.extBut _ _ c3 (hs₁.extBut _ _ c1 (hs₀.extBut _ _ c1 x)))))) ⟨oe, hs₅.extBut _ _ hez hoe, hce⟩
  | false =>
    simp only [Bool.false_eq_true, if_false]
    refine wpAny_bind ?_
    rw [← Array.forIn_toList]
    simp only [List.forIn_cons, List.forIn_nil]
    refine wpAny_bind (wpAny_bind (wpAny_holding ?_))
    show wpAny _ _ (Builtin.SmallTypes.nextOf (.ref i1) >>= _) _ _ _
    cases hx : xs[k1]? with
    | none =>
      refine wpAny_bind (d1.fin _ _ { s with heap := h₀ } k1 _ hh h1₀ hx fun h₂ e hs₂ he => ?_)
      exact hE h₂ e (fun c o c1 _ c2 _ x => hs₂ _ _ c2 (hs₀.extBut _ _ c1 x)) he
    | some x =>
      have hy : ys[k2]? = none := by rcases hend with h | h; rw [hx] at h; cases h; exact h
      refine wpAny_bind (d1.item _ _ { s with heap := h₀ } k1 x _ h1₀ hx fun h₂ h1₂ hs₂ => wpAny_pure ?_)
      refine wpAny_pure ?_
      refine wpAny_bind (wpAny_bind (wpAny_holding ?_))
      show wpAny _ _ (Builtin.SmallTypes.nextOf (.ref i2) >>= _) _ _ _
      refine wpAny_bind (d2.fin _ _ { s with heap := h₂ } k2 _ hh (kp2 hs₂.extBut D.i12 D.l2i1.symm h2₀) hy fun h₃ e hs₃ he => ?_)
      exact hE h₃ e (fun c o c1 _ c2 c3 x => hs₃ _ _ c3 (hs₂.extBut _ _ c2 (hs₀.extBut _ _ c1 x))) he
theorem nextG_item {z TI TO i1 i2 l1 l2 : Addr} {F0 : Value} {f : Bool} {k1 k2 : Nat} {xs ys : Array Value} {x y a b : Value} {S1 S2 : Nat → Heap → Prop} {Q : Option Value → Shared → Prop} (D : ZipApart z TI TO i1 i2 l1 l2) (d1 : Side prog w i1 l1 xs S1) (d2 : Side prog w i2 l2 ys S2) (hf : Held0 F0)
    (hz : IsZipG s.heap z TI TO F0 f) (hTI : IsPair s.heap TI (.ref i1) (.ref i2)) (hTO : IsPair s.heap TO a b)
    (h1 : S1 k1 s.heap) (h2 : S2 k2 s.heap) (hx : xs[k1]? = some x) (hy : ys[k2]? = some y)
    (hQ : ∀ h' F0' f' a' b', Held0 F0' → IsZipG h' z TI TO F0' f' → IsPair h' TO a' b' → S1 (k1 + 1) h' → S2 (k2 + 1) h' → IsPair h' s.heap.objs.size x y → h'.objs.size = s.heap.objs.size + 1 →
      (∀ c o, c ≠ z → c ≠ TO → c ≠ i1 → c ≠ i2 → s.heap.get? c = some o → h'.get? c = some o) → Q (some (.ref s.heap.objs.size)) { s with heap := h' }) :
    wpAny (model prog w) A (pyNext (.ref z)) Q E s := by
  have hT : s.TypeIs (.ref z) "zip" := ⟨_, hz, rfl⟩
  unfold pyNext
  exact wpAny_bind (wpAny_attempt (wpAny_callSpecial?_slot (name := Str.ofString "__next__") hT F.slot_zip_next
    (wpAny_call_entry F.slot_zip_next hT F.entry_zip_next
      (zipG_item D d1 d2 hf hz hTI hTO h1 h2 hx hy fun h' F0' f' a' b' a0 a1 a2 a3 a4 a5 a6 a7 => wpAny_pure (hQ h' F0' f' a' b' a0 a1 a2 a3 a4 a5 a6 a7)) (F.args_zip_next_1 _))))
theorem nextG_end {z TI TO i1 i2 l1 l2 : Addr} {F0 : Value} {f : Bool} {k1 k2 : Nat} {xs ys : Array Value} {a b : Value} {S1 S2 : Nat → Heap → Prop} {Q : Option Value → Shared → Prop} (hh : A.handled = none) (D : ZipApart z TI TO i1 i2 l1 l2) (d1 : Side prog w i1 l1 xs S1) (d2 : Side prog w i2 l2 ys S2) (hf : Held0 F0)
    (hz : IsZipG s.heap z TI TO F0 f) (hTI : IsPair s.heap TI (.ref i1) (.ref i2)) (hTO : IsPair s.heap TO a b)
    (h1 : S1 k1 s.heap) (h2 : S2 k2 s.heap) (hend : xs[k1]? = none ∨ ys[k2]? = none)
    (hQ : ∀ h', (∀ c o, c ≠ z → c ≠ TO → c ≠ i1 → c ≠ i2 → s.heap.get? c = some o → h'.get? c = some o) → Q none { s with heap := h' }) : wpAny (model prog w) A (pyNext (.ref z)) Q E s := by
  have hT : s.TypeIs (.ref z) "zip" := ⟨_, hz, rfl⟩
  unfold pyNext
  refine wpAny_bind (wpAny_attempt (wpAny_callSpecial?_slot (name := Str.ofString "__next__") hT F.slot_zip_next
    (wpAny_call_entry F.slot_zip_next hT F.entry_zip_next (zipG_end hh D d1 d2 hf hz hTI hTO h1 h2 hend fun h' e hk he => ?_) (F.args_zip_next_1 _))))
  obtain ⟨o, ho, hc⟩ := he
  refine wpAny_bind (wpAny_isInstance (T := "StopIteration") (b := true) ⟨o, ho, hc⟩ isSubtype_stop ?_)
  exact wpAny_pure (hQ _ hk)
theorem iterG {z TI TO : Addr} {F0 : Value} {f : Bool} {Q : Value → Shared → Prop} (hz : IsZipG s.heap z TI TO F0 f) (h : Q (.ref z) s) : wpAny (model prog w) A (pyIter (.ref z)) Q E s := by
  have hT : s.TypeIs (.ref z) "zip" := ⟨_, hz, rfl⟩
  refine wpAny_pyIter_slot hT F.slot_zip_iter (wpAny_call_entry F.slot_zip_iter hT F.entry_zip_iter ?_ (F.args_zip_iter_1 _))
  show wpAny _ _ (ret (.ref z)) _ _ s
  exact wpAny_pure ⟨_, rfl, "zip", _, hT, F.slot_zip_next.lookup, h⟩
end
end RZ
end
section
set_option Elab.async false
set_option linter.all false
set_option maxRecDepth 100000
set_option maxHeartbeats 4000000
namespace RZ
open PySem PySem.Spec PyProof.Rows L2
theorem turnN_T {P : Program} {w : World} {K : PySem.W.Frag} {yn : Str} {py : Pos} {a b z TI TO i1 i2 : Addr} (D : ZipApart z TI TO i1 i2 a b) :
    Turn P w K (.Name yn py) (ItzT K a b) [z, TI, TO, i1, i2] z (fun i h => (∃ F0 f, Held0 F0 ∧ IsZipG h z TI TO F0 f) ∧ IsPair h TI (.ref i1) (.ref i2) ∧ (∃ x y, IsPair h TO x y) ∧ h.IsTupleIter i1 a i ∧ h.IsTupleIter i2 b i) where
  mem := by simp
  obj := fun i h st c hc => by
    obtain ⟨⟨F0, f, hF, hz⟩, hTI, ⟨x, y, hTO⟩, ⟨o1, e1, _, d1⟩, ⟨o2, e2, _, d2⟩⟩ := st
    have e' : c = z ∨ c = TI ∨ c = TO ∨ c = i1 ∨ c = i2 := by simpa using hc
    rcases e' with q | q | q | q | q
    · rw [q]; exact ⟨_, hz, fun v q => nomatch q⟩
    · rw [q]; exact ⟨_, hTI, fun v q => nomatch q⟩
    · rw [q]; exact ⟨_, hTO, fun v q => nomatch q⟩
    · rw [q]; exact ⟨o1, e1, fun v q => by rw [d1] at q; cases q⟩
    · rw [q]; exact ⟨o2, e2, fun v q => by rw [d2] at q; cases q⟩
  keep := fun i h h' st k => by
    obtain ⟨⟨F0, f, hF, hz⟩, hTI, ⟨x, y, hTO⟩, h1, h2⟩ := st
    exact ⟨⟨F0, f, hF, k z (by simp) _ hz⟩, k TI (by simp) _ hTI, ⟨x, y, k TO (by simp) _ hTO⟩, h1.at fun o q => k i1 (by simp) o q, h2.at fun o q => k i2 (by simp) o q⟩
  item := by
    intro X hP hw hK hc i pins s σ H E I hf st hg
    subst hP hw hK
    obtain ⟨⟨F0, f, hF, hz⟩, hTI, ⟨x0, y0, hTO⟩, h1, h2⟩ := st
    obtain ⟨xs, ys, x, y, hqx, hqy, hx, hy⟩ := hg
    obtain ⟨its, rv, p, _⟩ := I.tuple hqx
    obtain ⟨its2, rv2, p2, _⟩ := I.tuple hqy
    obtain ⟨u, hu, ru⟩ := rv.get hx
    obtain ⟨u2, hu2, ru2⟩ := rv2.get hy
    have hzl : z < s.heap.objs.size := Heap.lt_size hz
    refine nextG_item D side_t side_t hF hz hTI hTO ⟨h1, p, D.l1i1⟩ ⟨h2, p2, D.l2i2⟩ (x := u) (y := u2) (by simpa using hu) (by simpa using hu2) fun h' F0' f' a' b' hF' z' TO' s1' s2' hT hsz hk => ?_
    refine ⟨_, rfl, wpAny_pure ?_⟩
    have new : ObjOk X.prog X.w (upd H s.heap.objs.size (.tup [x, y])) h' s.heap.objs.size (.tup [x, y]) :=
      ⟨by show 2 ≤ sizeLine; decide, [u, u2], .cons ru (.cons ru2 .nil), ⟨_, hT, rfl, _, rfl⟩⟩
    have I1 : Inv X pins σ (upd H s.heap.objs.size (.tup [x, y])) { s with heap := h' } :=
      I.turnedNew (t' := s.toks) (ch := [z, TI, TO, i1, i2]) (fun c o hb q => hk c o (fun q' => hb (by simp [q'])) (fun q' => hb (by simp [q'])) (fun q' => hb (by simp [q'])) (fun q' => hb (by simp [q'])) q) hf (Nat.le_refl _) new
    refine ⟨.ref s.heap.objs.size, _, I1, rfl, ⟨_, x, y, rfl, I.hok.fresh (Nat.le_refl _), rfl, fun l hl => by rw [I.tuple_inj hl hqx]; exact hx, fun l hl => by rw [I.tuple_inj hl hqy]; exact hy⟩, ⟨⟨F0', f', hF', z'⟩, hk _ _ D.TIz D.TITO D.TIi1 D.TIi2 hTI, ⟨_, _, TO'⟩, s1'.1, s2'.1⟩, fun c hcm => ?_⟩
    have hlt : c < s.heap.objs.size := by
      have e' : c = z ∨ c = TI ∨ c = TO ∨ c = i1 ∨ c = i2 := by simpa using hcm
      rcases e' with q | q | q | q | q
      · rw [q]; exact hzl
      · rw [q]; exact Heap.lt_size hTI
      · rw [q]; exact Heap.lt_size hTO
      · rw [q]; obtain ⟨_, e1, _⟩ := h1; exact Heap.lt_size e1
      · rw [q]; obtain ⟨_, e2, _⟩ := h2; exact Heap.lt_size e2
    rw [upd_ne (Nat.ne_of_lt hlt)]
    exact (hf c hcm).1
  done := by
    intro X hP hw hK hc i pins s σ H E I hf st hg
    subst hP hw hK
    obtain ⟨⟨F0, f, hF, hz⟩, hTI, ⟨x0, y0, hTO⟩, h1, h2⟩ := st
    obtain ⟨xs, ys, hqx, hqy, hend⟩ := hg
    obtain ⟨its, rv, p, _⟩ := I.tuple hqx
    obtain ⟨its2, rv2, p2, _⟩ := I.tuple hqy
    have l1 := rv.length
    have l2 := rv2.length
    have he : its.toArray[i]? = none ∨ its2.toArray[i]? = none := by
      rcases hend with q | q
      · exact .inl (by simp; omega)
      · exact .inr (by simp; omega)
    exact nextG_end (I.ok.hd hc) D side_t side_t hF hz hTI hTO ⟨h1, p, D.l1i1⟩ ⟨h2, p2, D.l2i2⟩ he fun h' hk => ⟨rfl, I.turnedL (t' := s.toks) (ch := [z, TI, TO, i1, i2]) (fun c o hb q =>
      hk c o (fun q' => hb (by simp [q'])) (fun q' => hb (by simp [q'])) (fun q' => hb (by simp [q'])) (fun q' => hb (by simp [q'])) q) hf⟩
  self := fun A i s Q E st h => by
    obtain ⟨⟨_, _, _, hz⟩, _⟩ := st
    exact iterG hz h
theorem turnN_L {P : Program} {w : World} {K : PySem.W.Frag} {yn : Str} {py : Pos} {a b z TI TO i1 i2 : Addr} (D : ZipApart z TI TO i1 i2 a b) :
    Turn P w K (.Name yn py) (Itz K a b) [z, TI, TO, i1, i2] z (fun i h => (∃ F0 f, Held0 F0 ∧ IsZipG h z TI TO F0 f) ∧ IsPair h TI (.ref i1) (.ref i2) ∧ (∃ x y, IsPair h TO x y) ∧ h.IsListIter i1 a i ∧ h.IsListIter i2 b i) where
  mem := by simp
  obj := fun i h st c hc => by
    obtain ⟨⟨F0, f, hF, hz⟩, hTI, ⟨x, y, hTO⟩, ⟨o1, e1, _, d1⟩, ⟨o2, e2, _, d2⟩⟩ := st
    have e' : c = z ∨ c = TI ∨ c = TO ∨ c = i1 ∨ c = i2 := by simpa using hc
    rcases e' with q | q | q | q | q
    · rw [q]; exact ⟨_, hz, fun v q => nomatch q⟩
    · rw [q]; exact ⟨_, hTI, fun v q => nomatch q⟩
    · rw [q]; exact ⟨_, hTO, fun v q => nomatch q⟩
    · rw [q]; exact ⟨o1, e1, fun v q => by rw [d1] at q; cases q⟩
    · rw [q]; exact ⟨o2, e2, fun v q => by rw [d2] at q; cases q⟩
  keep := fun i h h' st k => by
    obtain ⟨⟨F0, f, hF, hz⟩, hTI, ⟨x, y, hTO⟩, h1, h2⟩ := st
    exact ⟨⟨F0, f, hF, k z (by simp) _ hz⟩, k TI (by simp) _ hTI, ⟨x, y, k TO (by simp) _ hTO⟩, h1.at fun o q => k i1 (by simp) o q, h2.at fun o q => k i2 (by simp) o q⟩
  item := by
    intro X hP hw hK hc i pins s σ H E I hf st hg
    subst hP hw hK
    obtain ⟨⟨F0, f, hF, hz⟩, hTI, ⟨x0, y0, hTO⟩, h1, h2⟩ := st
    obtain ⟨xs, ys, x, y, hqx, hqy, hx, hy⟩ := hg
    obtain ⟨its, rv, p, _⟩ := I.list hqx
    obtain ⟨its2, rv2, p2, _⟩ := I.list hqy
    obtain ⟨u, hu, ru⟩ := rv.get hx
    obtain ⟨u2, hu2, ru2⟩ := rv2.get hy
    have hzl : z < s.heap.objs.size := Heap.lt_size hz
    refine nextG_item D side_l side_l hF hz hTI hTO ⟨h1, p.isList, D.l1i1⟩ ⟨h2, p2.isList, D.l2i2⟩ (x := u) (y := u2) (by simpa using hu) (by simpa using hu2) fun h' F0' f' a' b' hF' z' TO' s1' s2' hT hsz hk => ?_
    refine ⟨_, rfl, wpAny_pure ?_⟩
    have new : ObjOk X.prog X.w (upd H s.heap.objs.size (.tup [x, y])) h' s.heap.objs.size (.tup [x, y]) :=
      ⟨by show 2 ≤ sizeLine; decide, [u, u2], .cons ru (.cons ru2 .nil), ⟨_, hT, rfl, _, rfl⟩⟩
    have I1 : Inv X pins σ (upd H s.heap.objs.size (.tup [x, y])) { s with heap := h' } :=
      I.turnedNew (t' := s.toks) (ch := [z, TI, TO, i1, i2]) (fun c o hb q => hk c o (fun q' => hb (by simp [q'])) (fun q' => hb (by simp [q'])) (fun q' => hb (by simp [q'])) (fun q' => hb (by simp [q'])) q) hf (Nat.le_refl _) new
    refine ⟨.ref s.heap.objs.size, _, I1, rfl, ⟨_, x, y, rfl, I.hok.fresh (Nat.le_refl _), rfl, fun l hl => by rw [I.list_inj hl hqx]; exact hx, fun l hl => by rw [I.list_inj hl hqy]; exact hy⟩, ⟨⟨F0', f', hF', z'⟩, hk _ _ D.TIz D.TITO D.TIi1 D.TIi2 hTI, ⟨_, _, TO'⟩, s1'.1, s2'.1⟩, fun c hcm => ?_⟩
    have hlt : c < s.heap.objs.size := by
      have e' : c = z ∨ c = TI ∨ c = TO ∨ c = i1 ∨ c = i2 := by simpa using hcm
      rcases e' with q | q | q | q | q
      · rw [q]; exact hzl
      · rw [q]; exact Heap.lt_size hTI
      · rw [q]; exact Heap.lt_size hTO
      · rw [q]; obtain ⟨_, e1, _⟩ := h1; exact Heap.lt_size e1
      · rw [q]; obtain ⟨_, e2, _⟩ := h2; exact Heap.lt_size e2
    rw [upd_ne (Nat.ne_of_lt hlt)]
    exact (hf c hcm).1
  done := by
    intro X hP hw hK hc i pins s σ H E I hf st hg
    subst hP hw hK
    obtain ⟨⟨F0, f, hF, hz⟩, hTI, ⟨x0, y0, hTO⟩, h1, h2⟩ := st
    obtain ⟨xs, ys, hqx, hqy, hend⟩ := hg
    obtain ⟨its, rv, p, _⟩ := I.list hqx
    obtain ⟨its2, rv2, p2, _⟩ := I.list hqy
    have l1 := rv.length
    have l2 := rv2.length
    have he : its.toArray[i]? = none ∨ its2.toArray[i]? = none := by
      rcases hend with q | q
      · exact .inl (by simp; omega)
      · exact .inr (by simp; omega)
    exact nextG_end (I.ok.hd hc) D side_l side_l hF hz hTI hTO ⟨h1, p.isList, D.l1i1⟩ ⟨h2, p2.isList, D.l2i2⟩ he fun h' hk => ⟨rfl, I.turnedL (t' := s.toks) (ch := [z, TI, TO, i1, i2]) (fun c o hb q =>
      hk c o (fun q' => hb (by simp [q'])) (fun q' => hb (by simp [q'])) (fun q' => hb (by simp [q'])) (fun q' => hb (by simp [q'])) q) hf⟩
  self := fun A i s Q E st h => by
    obtain ⟨⟨_, _, _, hz⟩, _⟩ := st
    exact iterG hz h
theorem turnN_M {P : Program} {w : World} {K : PySem.W.Frag} {yn : Str} {py : Pos} {a b z TI TO i1 i2 : Addr} (D : ZipApart z TI TO i1 i2 a b) :
    Turn P w K (.Name yn py) (ItzM K a b) [z, TI, TO, i1, i2] z (fun i h => (∃ F0 f, Held0 F0 ∧ IsZipG h z TI TO F0 f) ∧ IsPair h TI (.ref i1) (.ref i2) ∧ (∃ x y, IsPair h TO x y) ∧ h.IsTupleIter i1 a i ∧ h.IsListIter i2 b i) where
  mem := by simp
  obj := fun i h st c hc => by
    obtain ⟨⟨F0, f, hF, hz⟩, hTI, ⟨x, y, hTO⟩, ⟨o1, e1, _, d1⟩, ⟨o2, e2, _, d2⟩⟩ := st
    have e' : c = z ∨ c = TI ∨ c = TO ∨ c = i1 ∨ c = i2 := by simpa using hc
    rcases e' with q | q | q | q | q
    · rw [q]; exact ⟨_, hz, fun v q => nomatch q⟩
    · rw [q]; exact ⟨_, hTI, fun v q => nomatch q⟩
    · rw [q]; exact ⟨_, hTO, fun v q => nomatch q⟩
    · rw [q]; exact ⟨o1, e1, fun v q => by rw [d1] at q; cases q⟩
    · rw [q]; exact ⟨o2, e2, fun v q => by rw [d2] at q; cases q⟩
  keep := fun i h h' st k => by
    obtain ⟨⟨F0, f, hF, hz⟩, hTI, ⟨x, y, hTO⟩, h1, h2⟩ := st
    exact ⟨⟨F0, f, hF, k z (by simp) _ hz⟩, k TI (by simp) _ hTI, ⟨x, y, k TO (by simp) _ hTO⟩, h1.at fun o q => k i1 (by simp) o q, h2.at fun o q => k i2 (by simp) o q⟩
  item := by
    intro X hP hw hK hc i pins s σ H E I hf st hg
    subst hP hw hK
    obtain ⟨⟨F0, f, hF, hz⟩, hTI, ⟨x0, y0, hTO⟩, h1, h2⟩ := st
    obtain ⟨xs, ys, x, y, hqx, hqy, hx, hy⟩ := hg
    obtain ⟨its, rv, p, _⟩ := I.tuple hqx
    obtain ⟨its2, rv2, p2, _⟩ := I.list hqy
    obtain ⟨u, hu, ru⟩ := rv.get hx
    obtain ⟨u2, hu2, ru2⟩ := rv2.get hy
    have hzl : z < s.heap.objs.size := Heap.lt_size hz
    refine nextG_item D side_t side_l hF hz hTI hTO ⟨h1, p, D.l1i1⟩ ⟨h2, p2.isList, D.l2i2⟩ (x := u) (y := u2) (by simpa using hu) (by simpa using hu2) fun h' F0' f' a' b' hF' z' TO' s1' s2' hT hsz hk => ?_
    refine ⟨_, rfl, wpAny_pure ?_⟩
    have new : ObjOk X.prog X.w (upd H s.heap.objs.size (.tup [x, y])) h' s.heap.objs.size (.tup [x, y]) :=
      ⟨by show 2 ≤ sizeLine; decide, [u, u2], .cons ru (.cons ru2 .nil), ⟨_, hT, rfl, _, rfl⟩⟩
    have I1 : Inv X pins σ (upd H s.heap.objs.size (.tup [x, y])) { s with heap := h' } :=
      I.turnedNew (t' := s.toks) (ch := [z, TI, TO, i1, i2]) (fun c o hb q => hk c o (fun q' => hb (by simp [q'])) (fun q' => hb (by simp [q'])) (fun q' => hb (by simp [q'])) (fun q' => hb (by simp [q'])) q) hf (Nat.le_refl _) new
    refine ⟨.ref s.heap.objs.size, _, I1, rfl, ⟨_, x, y, rfl, I.hok.fresh (Nat.le_refl _), rfl, fun l hl => by rw [I.tuple_inj hl hqx]; exact hx, fun l hl => by rw [I.list_inj hl hqy]; exact hy⟩, ⟨⟨F0', f', hF', z'⟩, hk _ _ D.TIz D.TITO D.TIi1 D.TIi2 hTI, ⟨_, _, TO'⟩, s1'.1, s2'.1⟩, fun c hcm => ?_⟩
    have hlt : c < s.heap.objs.size := by
      have e' : c = z ∨ c = TI ∨ c = TO ∨ c = i1 ∨ c = i2 := by simpa using hcm
      rcases e' with q | q | q | q | q
      · rw [q]; exact hzl
      · rw [q]; exact Heap.lt_size hTI
      · rw [q]; exact Heap.lt_size hTO
      · rw [q]; obtain ⟨_, e1, _⟩ := h1; exact Heap.lt_size e1
      · rw [q]; obtain ⟨_, e2, _⟩ := h2; exact Heap.lt_size e2
    rw [upd_ne (Nat.ne_of_lt hlt)]
    exact (hf c hcm).1
  done := by
    intro X hP hw hK hc i pins s σ H E I hf st hg
    subst hP hw hK
    obtain ⟨⟨F0, f, hF, hz⟩, hTI, ⟨x0, y0, hTO⟩, h1, h2⟩ := st
    obtain ⟨xs, ys, hqx, hqy, hend⟩ := hg
    obtain ⟨its, rv, p, _⟩ := I.tuple hqx
    obtain ⟨its2, rv2, p2, _⟩ := I.list hqy
    have l1 := rv.length
    have l2 := rv2.length
    have he : its.toArray[i]? = none ∨ its2.toArray[i]? = none := by
      rcases hend with q | q
      · exact .inl (by simp; omega)
      · exact .inr (by simp; omega)
    exact nextG_end (I.ok.hd hc) D side_t side_l hF hz hTI hTO ⟨h1, p, D.l1i1⟩ ⟨h2, p2.isList, D.l2i2⟩ he fun h' hk => ⟨rfl, I.turnedL (t' := s.toks) (ch := [z, TI, TO, i1, i2]) (fun c o hb q =>
      hk c o (fun q' => hb (by simp [q'])) (fun q' => hb (by simp [q'])) (fun q' => hb (by simp [q'])) (fun q' => hb (by simp [q'])) q) hf⟩
  self := fun A i s Q E st h => by
    obtain ⟨⟨_, _, _, hz⟩, _⟩ := st
    exact iterG hz h
end RZ
namespace Q
open PySem L2 PySem.Spec PyProof.Rows
theorem pi_zipN {X : Cx} {e e2 : Expr} {ta : TA} {p pos tpos : Pos} {yn : Str} (hg : Gl X "zip") (hm : X.mg "zip" = none) (ha : PA X [e, e2] ta)
    (hs : starEach [e, e2] X.env = (false, eval e X.env) :: starEach [e2] X.env := by rfl) (hpl : (backTo pos (starEach [e2] X.env)).any (·.1) = false := by rfl) :
    PI X (.Name yn tpos) (.Call (.Name "zip" p) [e, e2] [] pos) (iZipX X.K ta) := by
  refine ⟨fun pins s σ H R I h => ?_⟩
  refine Call_ (ld_blt I hg hm PyProof.Rows.boot_zip (PyProof.Rows.callWith_type1 (thn (ha.run pos pins s σ H _ I h) fun us s1 ⟨vs, H1, I1, r1, q1⟩ => ?_) hs hpl))
  obtain ⟨a, b, xs, ys, ex, q1⟩ := q1
  subst ex
  cases r1 with
  | cons r rr =>
    cases rr with
    | cons r' rr =>
      cases rr
      cases r
      cases r'
      have fresh5 : ∀ c, c ∈ [s1.heap.objs.size + 4, s1.heap.objs.size + 2, s1.heap.objs.size + 3, s1.heap.objs.size, s1.heap.objs.size + 1] → FpOk X pins H1 c := fun c hcm => by
        have e' : c = s1.heap.objs.size + 4 ∨ c = s1.heap.objs.size + 2 ∨ c = s1.heap.objs.size + 3 ∨ c = s1.heap.objs.size ∨ c = s1.heap.objs.size + 1 := by simpa using hcm
        have hle : s1.heap.objs.size ≤ c := by
          rcases e' with z | z | z | z | z
          · rw [z]; exact Nat.le_add_right _ _
          · rw [z]; exact Nat.le_add_right _ _
          · rw [z]; exact Nat.le_add_right _ _
          · rw [z]; exact Nat.le_refl _
          · rw [z]; exact Nat.le_add_right _ _
        exact I1.fpOk hle (I1.hok.fresh hle)
      rcases q1 with ⟨hqx, hqy, q⟩ | ⟨hqx, hqy, q⟩ | ⟨hqx, hqy, q⟩
      · obtain ⟨its, rv, p1, _⟩ := I1.list hqx
        obtain ⟨its2, rv2, p2, _⟩ := I1.list hqy
        refine call_zip_2 p1.isList p2.isList fun h' hz hTI hTO h1 h2 hsz hk => wpAny_pyIter_zip hz ?_
        have I2 : Inv X pins σ H1 { s1 with heap := h' } := I1.kept (t' := s1.toks) hk
        exact ⟨s1.heap.objs.size + 4, [s1.heap.objs.size + 4, s1.heap.objs.size + 2, s1.heap.objs.size + 3, s1.heap.objs.size, s1.heap.objs.size + 1], _, _, H1, rfl, I2, RZ.turnN_L (PySem.W.ktu_apart s1.heap.objs.size a b p1.lt p2.lt), ⟨⟨.none, false, .inl rfl, hz⟩, hTI, ⟨_, _, hTO⟩, h1, h2⟩, fresh5, q⟩
      · obtain ⟨its, rv, p1, _⟩ := I1.tuple hqx
        obtain ⟨its2, rv2, p2, _⟩ := I1.tuple hqy
        obtain ⟨o1, ho1, _⟩ := id p1
        obtain ⟨o2, ho2, _⟩ := id p2
        refine RZ.call_zipT (show s1.heap.IsTuple a its.toArray from p1) (show s1.heap.IsTuple b its2.toArray from p2) fun h' hz hTI hTO h1 h2 hsz hk => wpAny_pyIter_zip hz ?_
        have I2 : Inv X pins σ H1 { s1 with heap := h' } := I1.kept (t' := s1.toks) hk
        exact ⟨s1.heap.objs.size + 4, [s1.heap.objs.size + 4, s1.heap.objs.size + 2, s1.heap.objs.size + 3, s1.heap.objs.size, s1.heap.objs.size + 1], _, _, H1, rfl, I2, RZ.turnN_T (PySem.W.ktu_apart s1.heap.objs.size a b (Heap.lt_size ho1) (Heap.lt_size ho2)), ⟨⟨.none, false, .inl rfl, hz⟩, hTI, ⟨_, _, hTO⟩, h1, h2⟩, fresh5, q⟩
      · obtain ⟨its, rv, p1, _⟩ := I1.tuple hqx
        obtain ⟨its2, rv2, p2, _⟩ := I1.list hqy
        obtain ⟨o1, ho1, _⟩ := id p1
        refine RZ.call_zipM (show s1.heap.IsTuple a its.toArray from p1) p2.isList fun h' hz hTI hTO h1 h2 hsz hk => wpAny_pyIter_zip hz ?_
        have I2 : Inv X pins σ H1 { s1 with heap := h' } := I1.kept (t' := s1.toks) hk
        exact ⟨s1.heap.objs.size + 4, [s1.heap.objs.size + 4, s1.heap.objs.size + 2, s1.heap.objs.size + 3, s1.heap.objs.size, s1.heap.objs.size + 1], _, _, H1, rfl, I2, RZ.turnN_M (PySem.W.ktu_apart s1.heap.objs.size a b (Heap.lt_size ho1) p2.lt), ⟨⟨.none, false, .inl rfl, hz⟩, hTI, ⟨_, _, hTO⟩, h1, h2⟩, fresh5, q⟩
section
variable {X : Cx} {W : WX}
theorem qi_zipNB {a b : Expr} {fa fb : Ed} {p pos tpos : Pos} {yn : Str} (hg : Gl X "zip") (hm : X.mg "zip" = none) (h : QE X W .bor a fa) (h' : QE X W .bor b fb) (hs : starEach [a, b] X.env = (false, eval a X.env) :: starEach [b] X.env := by rfl) (hs2 : starEach [b] X.env = [(false, eval b X.env)] := by rfl)
    (hpl : (backTo pos (starEach [b] X.env)).any (·.1) = false := by rfl) : QI X W false (.Name yn tpos) (.Call (.Name "zip" p) [a, b] [] pos) (iZpX fa fb) := by
  obtain ⟨t, h1, h2⟩ := h.ex
  obtain ⟨u, h3, h4⟩ := h'.ex
  refine ⟨_, pi_zipN hg hm (pa_cons h1 (pa_cons h3 pa_nil hs2) hs) hs hpl, fun e Λ α F σ H r m S => ?_⟩
  refine At.bind (t := t σ H) (u := fun v H1 R => u σ H1 fun w H2 => ∃ a b xs ys, [v, w] = [V.ref a, V.ref b] ∧ ((SqL X.K H2 a xs ∧ SqL X.K H2 b ys ∧ R (Itz X.K a b) H2) ∨ (SqT X.K H2 a xs ∧ SqT X.K H2 b ys ∧ R (RZ.ItzT X.K a b) H2) ∨ (SqT X.K H2 a xs ∧ SqL X.K H2 b ys ∧ R (RZ.ItzM X.K a b) H2))) (Rl' := RlI X.K X.mg false) back_I (h2 e Λ α F σ H r m S) fun x m1 _ v α1 F1 H1 S1 s1 k1 => ?_
  refine At.bind (t := u σ H1) (u := fun w H2 R => ∃ a b xs ys, [v, w] = [V.ref a, V.ref b] ∧ ((SqL X.K H2 a xs ∧ SqL X.K H2 b ys ∧ R (Itz X.K a b) H2) ∨ (SqT X.K H2 a xs ∧ SqT X.K H2 b ys ∧ R (RZ.ItzT X.K a b) H2) ∨ (SqT X.K H2 a xs ∧ SqL X.K H2 b ys ∧ R (RZ.ItzM X.K a b) H2))) (Rl' := RlI X.K X.mg false) back_I (h4 e Λ α1 F1 σ H1 r m1 S1) fun y m2 _ w α2 F2 H2 S2 s2 k2 => ?_
  have k1 : RB X.K X.mg α2 F2 H2 v x := (RK.stay s2 k1).bor
  have k2 : RB X.K X.mg α2 F2 H2 w y := k2.bor
  split
  · rename_i xs ys e1 e2
    obtain ⟨a, P, rfl, p1, p2⟩ := rb_sqp k1 e1
    obtain ⟨b, P', rfl, q1, q2⟩ := rb_sqp k2 e2
    obtain ⟨vs, z1, _⟩ := p1.rd _ _ _ _ S2.g p2
    obtain ⟨ws, z2, _⟩ := q1.rd _ _ _ _ S2.g q2
    exact fun Q w => ⟨a, b, vs, ws, rfl, .inl ⟨z1, z2, w _ _ _ _ S2 (Stay.refl _ _ _) ⟨_, it_zipL p1 q1, ⟨p2, q2⟩, fun z => Bool.noConfusion z⟩⟩⟩
  · rename_i xs ys e1 e2
    obtain ⟨a, P, rfl, p1, p2⟩ := rb_sqp k1 e1
    obtain ⟨b, P', rfl, q1, q2⟩ := rb_sqp k2 e2
    obtain ⟨vs, z1, _⟩ := p1.rd _ _ _ _ S2.g p2
    obtain ⟨ws, z2, _⟩ := q1.rd _ _ _ _ S2.g q2
    exact fun Q w => ⟨a, b, vs, ws, rfl, .inr (.inl ⟨z1, z2, w _ _ _ _ S2 (Stay.refl _ _ _) ⟨_, it_zipT p1 q1, ⟨p2, q2⟩, fun z => Bool.noConfusion z⟩⟩)⟩
  · rename_i xs ys e1 e2
    obtain ⟨a, P, rfl, p1, p2⟩ := rb_sqp k1 e1
    obtain ⟨b, P', rfl, q1, q2⟩ := rb_sqp k2 e2
    obtain ⟨vs, z1, _⟩ := p1.rd _ _ _ _ S2.g p2
    obtain ⟨ws, z2, _⟩ := q1.rd _ _ _ _ S2.g q2
    exact fun Q w => ⟨a, b, vs, ws, rfl, .inr (.inr ⟨z1, z2, w _ _ _ _ S2 (Stay.refl _ _ _) ⟨_, it_zipM p1 q1, ⟨p2, q2⟩, fun z => Bool.noConfusion z⟩⟩)⟩
  · trivial
theorem qi_zipN {a b : Expr} {fa fb : Ed} {p pos tpos : Pos} {yn : Str} (hg : Gl X "zip") (hm : X.mg "zip" = none) (h : QE X W .froz a fa) (h' : QE X W .froz b fb) (hs : starEach [a, b] X.env = (false, eval a X.env) :: starEach [b] X.env := by rfl) (hs2 : starEach [b] X.env = [(false, eval b X.env)] := by rfl)
    (hpl : (backTo pos (starEach [b] X.env)).any (·.1) = false := by rfl) : QI X W true (.Name yn tpos) (.Call (.Name "zip" p) [a, b] [] pos) (iZpX fa fb) := by
  obtain ⟨t, h1, h2⟩ := h.ex
  obtain ⟨u, h3, h4⟩ := h'.ex
  refine ⟨_, pi_zipN hg hm (pa_cons h1 (pa_cons h3 pa_nil hs2) hs) hs hpl, fun e Λ α F σ H r m S => ?_⟩
  refine At.bind (t := t σ H) (u := fun v H1 R => u σ H1 fun w H2 => ∃ a b xs ys, [v, w] = [V.ref a, V.ref b] ∧ ((SqL X.K H2 a xs ∧ SqL X.K H2 b ys ∧ R (Itz X.K a b) H2) ∨ (SqT X.K H2 a xs ∧ SqT X.K H2 b ys ∧ R (RZ.ItzT X.K a b) H2) ∨ (SqT X.K H2 a xs ∧ SqL X.K H2 b ys ∧ R (RZ.ItzM X.K a b) H2))) (Rl' := RlI X.K X.mg true) back_I (h2 e Λ α F σ H r m S) fun x m1 _ v α1 F1 H1 S1 s1 k1 => ?_
  refine At.bind (t := u σ H1) (u := fun w H2 R => ∃ a b xs ys, [v, w] = [V.ref a, V.ref b] ∧ ((SqL X.K H2 a xs ∧ SqL X.K H2 b ys ∧ R (Itz X.K a b) H2) ∨ (SqT X.K H2 a xs ∧ SqT X.K H2 b ys ∧ R (RZ.ItzT X.K a b) H2) ∨ (SqT X.K H2 a xs ∧ SqL X.K H2 b ys ∧ R (RZ.ItzM X.K a b) H2))) (Rl' := RlI X.K X.mg true) back_I (h4 e Λ α1 F1 σ H1 r m1 S1) fun y m2 _ w α2 F2 H2 S2 s2 k2 => ?_
  have k1 : Rep X.K X.mg α2 F2 v x := RK.stay (k := .froz) s2 k1
  have k2 : Rep X.K X.mg α2 F2 w y := k2
  split
  · rename_i xs ys e1 e2
    obtain ⟨a, P, rfl, p1, p2, p3⟩ := rep_sqp k1 e1
    obtain ⟨b, P', rfl, q1, q2, q3⟩ := rep_sqp k2 e2
    obtain ⟨vs, z1, _⟩ := p1.rd _ _ _ _ S2.g (p2 H2)
    obtain ⟨ws, z2, _⟩ := q1.rd _ _ _ _ S2.g (q2 H2)
    exact fun Q w => ⟨a, b, vs, ws, rfl, .inl ⟨z1, z2, w _ _ _ _ S2 (Stay.refl _ _ _) ⟨_, it_zipL p1 q1, ⟨p2 _, q2 _⟩, fun _ α F H Hb α' F' H' h1 h2 ⟨h3, h4⟩ => ⟨p3 _ _ _ _ _ _ _ h1 h2 h3, q3 _ _ _ _ _ _ _ h1 h2 h4⟩⟩⟩⟩
  · rename_i xs ys e1 e2
    obtain ⟨a, P, rfl, p1, p2, p3⟩ := rep_sqp k1 e1
    obtain ⟨b, P', rfl, q1, q2, q3⟩ := rep_sqp k2 e2
    obtain ⟨vs, z1, _⟩ := p1.rd _ _ _ _ S2.g (p2 H2)
    obtain ⟨ws, z2, _⟩ := q1.rd _ _ _ _ S2.g (q2 H2)
    exact fun Q w => ⟨a, b, vs, ws, rfl, .inr (.inl ⟨z1, z2, w _ _ _ _ S2 (Stay.refl _ _ _) ⟨_, it_zipT p1 q1, ⟨p2 _, q2 _⟩, fun _ α F H Hb α' F' H' h1 h2 ⟨h3, h4⟩ => ⟨p3 _ _ _ _ _ _ _ h1 h2 h3, q3 _ _ _ _ _ _ _ h1 h2 h4⟩⟩⟩)⟩
  · rename_i xs ys e1 e2
    obtain ⟨a, P, rfl, p1, p2, p3⟩ := rep_sqp k1 e1
    obtain ⟨b, P', rfl, q1, q2, q3⟩ := rep_sqp k2 e2
    obtain ⟨vs, z1, _⟩ := p1.rd _ _ _ _ S2.g (p2 H2)
    obtain ⟨ws, z2, _⟩ := q1.rd _ _ _ _ S2.g (q2 H2)
    exact fun Q w => ⟨a, b, vs, ws, rfl, .inr (.inr ⟨z1, z2, w _ _ _ _ S2 (Stay.refl _ _ _) ⟨_, it_zipM p1 q1, ⟨p2 _, q2 _⟩, fun _ α F H Hb α' F' H' h1 h2 ⟨h3, h4⟩ => ⟨p3 _ _ _ _ _ _ _ h1 h2 h3, q3 _ _ _ _ _ _ _ h1 h2 h4⟩⟩⟩)⟩
  · trivial
end
end Q
end
section
set_option Elab.async false
set_option linter.all false
set_option maxRecDepth 100000
set_option maxHeartbeats 4000000
/-! a display of a dict with keys that are ints and texts -/
namespace Q
open PySem L2 PySem.Spec PyProof.Rows
section
variable {K : PySem.W.Frag} {mg : Str → Option Value} {W : WX} {e : En} {Λ : Nat → Option (V × D)} {α α' : List Addr} {F F' : Hp} {σ : L2.St} {H H' : Hp} {r : Env} {m : Sto}
theorem Rd.updNe {a p : Addr} {o u : HO} (h : a ≠ p) (d : Rd H a u) : Rd (upd H p o) a u := by
  rcases d with d | ⟨x, d⟩
  · exact .inl (by rw [upd_ne h]; exact d)
  · exact .inr ⟨x, by rw [upd_ne h]; exact d⟩
theorem G.wr (g : G K mg α F H m) {p : Addr} (o : HO) (hf : F p = none) (ha : p ∉ α) : G K mg α F (upd H p o) m where
  sub := fun a u h => by
    rw [upd_ne (ne_of_none h hf)]
    exact g.sub a u h
  len := g.len
  nd := g.nd
  cell := fun n a h => by
    obtain ⟨q1, ho, d, q2, q3, q4⟩ := g.cell n a h
    exact ⟨q1, ho, d, q2, by rw [upd_ne fun z => ha (by rw [← z]; exact List.mem_of_getElem? h)]; exact q3, q4⟩
theorem Stay.wr {H0 : Hp} (s : Stay α F H0 α' F' H') {p : Addr} (o : HO) (hp : H0 p = none) : Stay α F H0 α' F' (upd H' p o) where
  pre := s.pre
  fz := s.fz
  keep := fun a u ha h => by rw [upd_ne (ne_of_none h hp)]; exact s.keep a u ha h
  new := s.new
  out := s.out
  there := fun a u h => by rw [upd_ne (ne_of_none h hp)]; exact s.there a u h
theorem Sig.wr (S : Sig K mg e Λ α F σ H r m) {p : Addr} (o : HO) (hf : F p = none) (ha : p ∉ α) (he : e.H p = none) (hs : ∀ (i : Nat) (d : D), (r[i]? = some (.own d) ∨ r[i]? = some (.lok d)) → σ[i]? ≠ some (some (.ref p))) : Sig K mg e Λ α F σ (upd H p o) r m where
  g := S.g.wr o hf ha
  st := S.st.wr o he
  len := S.len
  sl := fun i s h => by
    have q := S.sl i s h
    cases s with
    | un => trivial
    | dat d => exact q
    | own d =>
      obtain ⟨a, ho, q1, q2, q3⟩ := q
      have hn : a ≠ p := fun z => hs i d (.inl h) (by rw [q1, z])
      exact ⟨a, ho, q1, by rw [upd_ne hn]; exact q2, ⟨q3.nf, q3.na, q3.ne, q3.c⟩⟩
    | lok d =>
      obtain ⟨a, ho, q1, q2, q3⟩ := q
      have hn : a ≠ p := fun z => hs i d (.inr h) (by rw [q1, z])
      exact ⟨a, ho, q1, Rd.updNe hn q2, ⟨q3.nf, q3.na, q3.ne, q3.c⟩⟩
  dis := S.dis
  lk := S.lk
/-- pairs that lie frozen -/
inductive RKP (K : PySem.W.Frag) (mg : Str → Option Value) (α : List Addr) (F : Hp) : List (V × V) → List (D × D) → Prop where
  | nil : RKP K mg α F [] []
  | cons {v v' : V} {d d' : D} {vs : List (V × V)} {ds : List (D × D)} : Rep K mg α F v d → Rep K mg α F v' d' → RKP K mg α F vs ds → RKP K mg α F ((v, v') :: vs) ((d, d') :: ds)
abbrev RlP (K : PySem.W.Frag) (mg : Str → Option Value) : Hp → List Addr → Hp → Hp → List (V × V) → List (D × D) → Prop := fun _ α F _ v d => RKP K mg α F v d
theorem back_P : BackR (RlP K mg) := fun _ _ _ _ _ _ _ _ _ _ _ _ h => h
def kOf : D → Option Key
  | .int i => some (.inl i)
  | .str s => some (.inr s)
  | _ => none
def kvOf : List (D × D) → Option (List (Key × D))
  | [] => some []
  | (k, v) :: l => match kOf k, kvOf l with
    | some k, some l => some ((k, v) :: l)
    | _, _ => none
def mergeD (acc : List (Key × D)) (l : List (Key × D)) : List (Key × D) := l.foldl (fun acc kv => putA acc kv.1 kv.2) acc
theorem kv_rep : ∀ {vs : List (V × V)} {ds : List (D × D)} {l : List (Key × D)}, RKP K mg α F vs ds → kvOf ds = some l → ∃ kvs : List (Key × V), vs = kvs.map (fun kv => (kV kv.1, kv.2)) ∧ kvs.length = l.length ∧ RepK K mg α F kvs l
  | _, _, _, .nil, h => by cases h; exact ⟨[], rfl, rfl, .nil⟩
  | _, _, _, .cons (v := v) (d := d) (ds := ds) r1 r2 t, h => by
    unfold kvOf at h
    split at h
    · rename_i k l hk hl
      cases h
      obtain ⟨kvs, e1, e2, e3⟩ := kv_rep t hl
      have : v = kV k := by
        cases d with
        | int i => cases hk; cases r1; rfl
        | str s => cases hk; cases r1; rfl
        | _ => cases hk
      exact ⟨(k, _) :: kvs, by rw [List.map_cons, this, e1], by rw [List.length_cons, List.length_cons, e2], .cons r2 e3⟩
    · cases h
theorem merge_tr {more : List (Key × V)} {l : List (Key × D)} (h : TR (fun v d => Rep K mg α F v d) more l) : ∀ {acc : List (Key × V)} {dc : List (Key × D)}, TR (fun v d => Rep K mg α F v d) acc dc → TR (fun v d => Rep K mg α F v d) (mergeK acc more) (mergeD dc l) := by
  induction h with
  | nil => exact fun q => q
  | cons r t ih => exact fun q => ih (TR.put q _ r)
theorem merge_rep {more : List (Key × V)} {l : List (Key × D)} {acc : List (Key × V)} {dc : List (Key × D)} (h : RepK K mg α F more l) (q : RepK K mg α F acc dc) : RepK K mg α F (mergeK acc more) (mergeD dc l) := TR.repK (merge_tr h.tr q.tr)
end
def eDisp (fp : Env → Sto → Res (List (D × D))) : Ed := fun r m => (fp r m).bind fun ds m1 => match kvOf ds with
  | some l => if l.length ≤ 15 then .ok (.dK (mergeD [] l)) m1 else .stuck
  | none => .stuck
structure QPs (X : Cx) (W : WX) (pos : Pos) (keys : List (Option Expr)) (values : List Expr) (f : Env → Sto → Res (List (D × D))) : Prop where
  ex : ∃ trs, PPs X pos keys values trs ∧ ∀ e Λ α F σ H r m, Sig X.K X.mg e Λ α F σ H r m → At X.K X.mg W (RlP X.K X.mg) e Λ α F σ H r (tPairs trs σ H) (f r m)
def pN0 : Env → Sto → Res (List (D × D)) := fun _ m => .ok [] m
def pC0 (fk fv : Ed) (fr : Env → Sto → Res (List (D × D))) : Env → Sto → Res (List (D × D)) := fun r m => (fk r m).bind fun k m1 => (fv r m1).bind fun v m2 => (fr r m2).bind fun l m3 => .ok ((k, v) :: l) m3
section
variable {X : Cx} {W : WX} {pos : Pos}
theorem qps_nil : QPs X W pos [] [] pN0 := ⟨[], pps_nil, fun e Λ α F σ H r m S => At.ret (Rl := RlP X.K X.mg) S .nil⟩
theorem qps_cons {k v : Expr} {ks : List (Option Expr)} {vs : List Expr} {fk fv : Ed} {fr : Env → Sto → Res (List (D × D))} (hk : QE X W .froz k fk) (hv : QE X W .froz v fv) (hr : QPs X W pos ks vs fr) : QPs X W pos (some k :: ks) (v :: vs) (pC0 fk fv fr) := by
  obtain ⟨tk, k1, k2⟩ := hk.ex
  obtain ⟨tv, v1, v2⟩ := hv.ex
  obtain ⟨tr, r1, r2⟩ := hr.ex
  refine ⟨(tk, tv) :: tr, pps_cons k1 v1 r1, fun e Λ α F σ H r m S => ?_⟩
  refine At.bind (t := tk σ H) (u := fun x H1 Q => tv σ H1 fun y H2 => tPairs tr σ H2 fun ps H3 => Q ((x, y) :: ps) H3) (Rl' := RlP X.K X.mg) back_P (k2 e Λ α F σ H r m S) fun x m1 _ a α1 F1 H1 S1 s1 q1 => ?_
  refine At.bind (t := tv σ H1) (u := fun y H2 Q => tPairs tr σ H2 fun ps H3 => Q ((a, y) :: ps) H3) (Rl' := RlP X.K X.mg) back_P (v2 e Λ α1 F1 σ H1 r m1 S1) fun y m2 _ b α2 F2 H2 S2 s2 q2 => ?_
  refine At.bind (t := tPairs tr σ H2) (u := fun ps H3 Q => Q ((a, b) :: ps) H3) (Rl' := RlP X.K X.mg) back_P (r2 e Λ α2 F2 σ H2 r m2 S2) fun l m3 _ ps α3 F3 H3 S3 s3 q3 => ?_
  have p1 : Rep X.K X.mg α3 F3 a x := RK.stay (k := .froz) (H0 := H) (s2.trans s3) q1
  have p2 : Rep X.K X.mg α3 F3 b y := RK.stay (k := .froz) (H0 := H) s3 q2
  exact At.ret (Rl := RlP X.K X.mg) S3 (.cons p1 p2 q3)
theorem qe_disp {keys : List (Option Expr)} {values : List Expr} {f : Env → Sto → Res (List (D × D))} (h : QPs X W pos keys values f) (hall : keys.all (·.isSome) = true := by rfl) (hl : keys.length = values.length := by rfl) (h0 : keys ≠ [] := by exact List.cons_ne_nil _ _)
    (h15 : keys.length ≤ 15 := by decide) : QE X W .fre (.Dict keys values pos) (eDisp f) := by
  obtain ⟨trs, t1, t2⟩ := h.ex
  refine ⟨tDisp trs, pe_disp t1 hall hl h0 h15, fun e Λ α F σ H r m S => ?_⟩
  unfold eDisp
  cases hf : f r m with
  | stuck => trivial
  | exc n m' =>
    intro w Q p hp
    obtain ⟨g1, s1⟩ := S.g.new (o := .dK []) hp
    have q := t2 e Λ α F σ (upd H p (.dK [])) r m (S.stay s1 g1)
    rw [hf] at q
    exact q w _
  | ok ds m' =>
    show At X.K X.mg W (RlK X.K X.mg .fre) e Λ α F σ H r _ (match kvOf ds with | some l => if l.length ≤ 15 then Res.ok (.dK (mergeD [] l)) m' else .stuck | none => .stuck)
    cases hk : kvOf ds with
    | none => trivial
    | some l =>
      show At X.K X.mg W (RlK X.K X.mg .fre) e Λ α F σ H r _ (if l.length ≤ 15 then Res.ok (.dK (mergeD [] l)) m' else .stuck)
      by_cases hle : l.length ≤ 15
      · rw [if_pos hle]
        intro Q w p hp
        obtain ⟨g1, s1⟩ := S.g.new (o := .dK []) hp
        have q := t2 e Λ α F σ (upd H p (.dK [])) r m (S.stay s1 g1)
        rw [hf] at q
        refine q _ fun ps α' F' H' S' s' k' => ?_
        have np : p ∉ α := S.g.nin hp
        have fp : F p = none := S.g.fno hp
        have hp1 : H' p = some (.dK []) := s'.keep p _ np upd_same
        have fp' : F' p = none := s'.out p _ fp upd_same (fun _ z => by cases z)
        have np' : p ∉ α' := fun z => by
          rcases s'.new p z with z | z
          · exact np z
          · rw [upd_same] at z; cases z
        obtain ⟨kvs, e1, e2, e3⟩ := kv_rep k' hk
        refine ⟨hp1, kvs, e1, by rw [e2]; exact hle, ?_⟩
        refine w (.ref p) α' F' (upd H' p (.dK (mergeK [] kvs))) (S'.wr _ fp' np' (S.e0 hp) fun i d hd hz => ?_) ((s1.trans s').wr _ hp) ⟨p, _, rfl, upd_same, fp', np', hp, .dK (merge_rep e3 .nil)⟩
        obtain ⟨o, z⟩ := S.there hd hz
        rw [hp] at z; cases z
      · rw [if_neg hle]; trivial
end
section
variable {r : Env} {m m1 m2 m3 : Sto} {fk fv : Ed} {fp fr : Env → Sto → Res (List (D × D))} {k v : D} {ds : List (D × D)}
theorem pN0_at : pN0 r m = .ok [] m := rfl
theorem pC0_at (h1 : fk r m = .ok k m1) (h2 : fv r m1 = .ok v m2) (h3 : fr r m2 = .ok ds m3) : pC0 fk fv fr r m = .ok ((k, v) :: ds) m3 := by
  unfold pC0; rw [h1]; simp only [Res.bind, h2, h3]
theorem disp_at {l : List (Key × D)} (h : fp r m = .ok ds m1) (hk : kvOf ds = some l) (hl : l.length ≤ 15) : eDisp fp r m = .ok (.dK (mergeD [] l)) m1 := by
  unfold eDisp; rw [h]; simp only [Res.bind, hk]; rw [if_pos hl]
end
end Q
end
section
set_option Elab.async false
set_option linter.all false
set_option maxRecDepth 100000
set_option maxHeartbeats 4000000
/-! sorted(d.items()) of a dict whose keys are tuples -/
namespace Q
open PySem L2 PySem.Spec PyProof.Rows PySem.W L2.DX
/-- pairs laid at ts -/
def putP : Hp → List Addr → List (Addr × V) → Hp
  | H, t :: ts, p :: ps => putP (upd H t (.tup [.ref p.1, p.2])) ts ps
  | H, _, _ => H
section
variable {X : Cx}
theorem put_inv {pins : List (Addr × Obj)} {σ : L2.St} {H : Hp} {s : Shared} {h' : Heap} {tk : Nat} (I0 : Inv X pins σ H s) : ∀ (ts : List Addr) (ps : List (Addr × V)) (H1 : Hp), Inv X pins σ H1 { s with heap := h', toks := tk } → ts.Nodup →
    (∀ (j : Nat) (t : Addr) (p : Addr × V), ts[j]? = some t → ps[j]? = some p → s.heap.objs.size ≤ t ∧ H1 t = none ∧ ∀ H2, ObjOk X.prog X.w H2 h' t (.tup [.ref p.1, p.2])) → Inv X pins σ (putP H1 ts ps) { s with heap := h', toks := tk }
  | [], _, H1, I1, _, _ => by unfold putP; exact I1
  | _ :: _, [], H1, I1, _, _ => by unfold putP; exact I1
  | t :: ts, p :: ps, H1, I1, hn, h => by
    obtain ⟨hb, hnone, ok⟩ := h 0 t p rfl rfl
    have I2 : Inv X pins σ (upd H1 t (.tup [.ref p.1, p.2])) { s with heap := h', toks := tk } := I1.take (h' := h') (t' := tk) (fun b ob _ e => e) (I0.fpOk hb hnone) (ok _)
    rw [List.nodup_cons] at hn
    exact put_inv I0 ts ps _ I2 hn.2 fun j t' p' h1 h2 => by
      obtain ⟨c1, c2, c3⟩ := h (j + 1) t' p' (by simpa using h1) (by simpa using h2)
      exact ⟨c1, by rw [upd_ne (fun z => hn.1 (by rw [← z]; exact List.mem_of_getElem? h1))]; exact c2, c3⟩
theorem sorted_coll2 {pins : List (Addr × Obj)} {σ : L2.St} {H : Hp} {s : Shared} {u : Value} {Q : VK} (hu : X.A.units + 64 < cLine) (I : Inv X pins σ H s)
    (hc : ∀ (R : List Value → Shared → Prop) (E' : Value → Shared → Prop), (∀ h' tk us H' xs, Inv X pins σ H' { s with heap := h', toks := tk } → Vals xs us → SortP X.K H' Q xs → R us { s with heap := h', toks := tk }) → wpAny (model X.prog X.w) X.A.in1 (collect u) R E' s) :
    wpAny (model X.prog X.w) X.A (call (.builtin "sorted") [u]) (EP X pins σ Q) X.xe s := by
  refine Calls.call_function_entry PyProof.Rows.kind_sorted PyProof.Rows.plain_sorted PyProof.Rows.entry_sorted (PyProof.Rows.args_sorted1 _) ?_
  unfold Builtin.«sorted»
  refine wpAny_bind (m := checkCount "sorted" 1 1 _) (wpAny_pure ?_)
  refine wpAny_bind (hc _ _ fun h' tk us H' xs I1 rv ⟨bs, T, hT, hD, hal, hso, hz, hdp, q⟩ => ?_)
  have hlen : us.length = bs.length := by rw [← rv.length, each_len hT]
  refine wpAny_bind (wpAny_newList ?_ (by rw [hlen]; exact hz))
  have hoL : (h'.push (seqObj "list" us.toArray 0)).get? h'.objs.size = some (seqObj "list" us.toArray 0) := Heap.get?_push_size _ rfl
  show wpAny _ _ _ _ _ { s with heap := h'.push (seqObj "list" us.toArray 0), toks := tk }
  have e1 := each_vals rv hT
  have kp : ∀ b o, h'.get? b = some o → (h'.push (seqObj "list" us.toArray 0)).get? b = some o := fun b o e => Heap.get?_push_of_some _ e
  have e2 : EachIs (fun v b => ∃ as, Reads (h'.push (seqObj "list" us.toArray 0)) v (D.pyD b) as ∧ h'.objs.size ∉ as) us bs := each_mono (fun u b ⟨x, r, d⟩ => by
    obtain ⟨as, ra⟩ := Dp.reads I1 _ x u d r
    refine ⟨as, PyProof.Rows.Reads.keeps kp ra, fun z => ?_⟩
    obtain ⟨o, ho⟩ := reads_there ra _ z
    exact absurd (Heap.lt_size ho) (Nat.lt_irrefl _)) (each_vals rv hD)
  refine wpAny_bind (wpAny_holding (list_sort_data (s := { s with heap := h'.push (seqObj "list" us.toArray 0), toks := tk }) (enc := D.pyD) hoL e1 e2 hal hso hz (fun b hb => by have := hdp b hb; show X.A.units + 1 + 1 + _ < _; omega) fun out ho h => ?_))
  obtain ⟨ys, h1, h2⟩ := vals_each h
  obtain ⟨ep, he'⟩ := PyProof.Rows.sortedHeap_at (vs := us) (out := List.toArray out) hoL
  have hl2 : ys.length ≤ sizeLine := by rw [h1.length, ho]; exact hz
  refine wpAny_pure ⟨_, rfl, .ref h'.objs.size, upd H' h'.objs.size (.lst ys), I1.laid (t' := tk) (fun b u e => ?_) (Nat.le_refl _) (show ObjOk X.prog X.w _ _ _ (.lst ys) from ⟨hl2, out, ep, h1, he'⟩), rfl, q ys _ h2 (I1.hok.fresh (Nat.le_refl _))⟩
  have hb : b < h'.objs.size := Heap.lt_size e
  rw [PyProof.Rows.sortedHeap_old (Nat.ne_of_lt hb) (by rw [size_push']; exact Nat.lt_succ_of_lt hb)]
  exact Heap.get?_push_of_some _ e
def rSortV (K : PySem.W.Frag) : List V → Hp → VK → Prop := fun vs H Q => ∃ (p a : Addr) (kvs : List (List Key × V)), vs = [.ref p] ∧ H p = some (itemsO p a) ∧ H a = some (.dT kvs) ∧
  ∀ bs, IsKeys H kvs bs → ∀ ts : List Addr, ts.length = kvs.length → (∀ t ∈ ts, H t = none) → ts.Nodup → SortP K (putP H ts (bs.zip (kvs.map (·.2)))) Q (ts.map V.ref)
theorem cr_sortV (hc : X.calm = true) (hu : X.A.units + 64 < cLine) : CallR X (.builtin "sorted") (rSortV X.K) := by
  intro pins s σ H xs us Q I r h
  obtain ⟨p, a, kvs, rfl, hp, ha, h⟩ := h
  obtain rfl := Vals.ref1 r
  have view : s.heap.IsItemsView p a := (show ObjOk X.prog X.w H s.heap p (itemsO p a) from I.hok p _ hp).1
  obtain ⟨z, hd, xs', rel, o, es, ep, ho, hx, hdat, hes, his, hn⟩ := dt_of I.hok ha
  have l1 : kvs.length = xs'.length := Paired.length rel
  have l2 : es.size = xs'.length := size_of_entries hes
  have hh : X.A.handled = none := I.ok.hd hc
  refine sorted_coll2 hu I fun R E' hR => ?_
  refine DT.collectI (A := X.A.in1) (es := es) (ep := ep) hh view ⟨o, ho, hx, hdat⟩ (by omega) fun h' tk as hk hlt hl hG => ?_
  have nd : as.Nodup := List.Pairwise.imp (fun h => Nat.ne_of_lt h) hG.rise
  have I1 : Inv X pins σ H { s with heap := h', toks := tk } := I.kept hk
  have fr : ∀ t ∈ as, H t = none := fun t ht => I.hok.fresh (Nat.le_of_lt (hG.above t ht))
  refine hR h' tk _ (putP H as ((xs'.map fun x => x.2.1).zip (kvs.map (·.2)))) (as.map V.ref) (put_inv I as _ H I1 nd fun j t q ht hq => ⟨Nat.le_of_lt (hG.above t (List.mem_of_getElem? ht)), fr t (List.mem_of_getElem? ht), fun H2 => ?_⟩) (vals_refs as) (h _ (isKeys_of rel) as (by omega) fr nd)
  obtain ⟨en, he, hg⟩ := hG.pairs j t ht
  rw [entry_at hes j] at he
  rw [List.getElem?_zip_eq_some] at hq
  obtain ⟨q1, q2⟩ := hq
  rw [List.getElem?_map] at q1 q2
  obtain ⟨x, hxj, ex⟩ := Option.map_eq_some_iff.mp q1
  obtain ⟨e0', he0', ev⟩ := Option.map_eq_some_iff.mp q2
  rw [hxj] at he
  have een : entryOfKey (tupleKind (mixKind X.prog X.w)) x = en := Option.some.inj he
  obtain ⟨e0, he0, r1, r2, r3⟩ := pget rel hxj
  rw [he0] at he0'
  cases he0'
  refine ⟨by show 2 ≤ sizeLine; decide, [Value.ref x.2.1, x.2.2], .cons (by rw [← ex]; rfl) (.cons (by rw [← ev]; exact r3) .nil), ⟨_, hg, rfl, 0, ?_⟩⟩
  rw [← een]; rfl
end
section
variable {K : PySem.W.Frag} {mg : Str → Option Value} {α : List Addr} {F H : Hp} {m : Sto}
def pairI (kv : List Key × D) : D := .tup [.tup (kv.1.map keyD), kv.2]
theorem putP_off : ∀ (ts : List Addr) (ps : List (Addr × V)) (H : Hp) (b : Addr), b ∉ ts → putP H ts ps b = H b
  | [], _, H, b, _ => by unfold putP; rfl
  | _ :: _, [], H, b, _ => by unfold putP; rfl
  | t :: ts, p :: ps, H, b, h => by
    show putP (upd H t (.tup [.ref p.1, p.2])) ts ps b = H b
    rw [putP_off ts ps _ b (fun z => h (List.mem_cons_of_mem _ z)), upd_ne (fun z => h (by rw [z]; exact List.mem_cons_self))]
theorem lay_pairs : ∀ (kvs : List (List Key × V)) (ds : List (List Key × D)) (bs ts : List Addr) (F H : Hp), G K mg α F H m → RepT K mg α F kvs ds → IsKeys H kvs bs → ts.length = kvs.length → (∀ t ∈ ts, H t = none) → ts.Nodup →
    ∃ F', G K mg α F' (putP H ts (bs.zip (kvs.map (·.2)))) m ∧ Stay α F H α F' (putP H ts (bs.zip (kvs.map (·.2)))) ∧ RepL K mg α F' (ts.map V.ref) (ds.map pairI)
  | [], _, bs, ts, F, H, g, r, hk, hl, hf, hn => by
    cases r
    have : ts = [] := List.length_eq_zero_iff.mp hl
    subst this
    exact ⟨F, g, Stay.refl _ _ _, .nil⟩
  | (k, v) :: kvs, _, bs, ts, F, H, g, r, hk, hl, hf, hn => by
    cases r with
    | @cons _ _ _ d ds r1 r2 =>
      cases hk with
      | @cons _ b _ bs hb hk =>
        cases ts with
        | nil => simp at hl
        | cons t ts =>
          rw [List.nodup_cons] at hn
          obtain ⟨F1, g1, s1, q1⟩ := g.adopt hb (kVs_rep (K := K) (mg := mg) (α := α) (F := F) k)
          have ht : H t = none := hf t (by simp)
          have q1' : Rep K mg α F1 (.ref b) (.tup (k.map keyD)) := q1
          obtain ⟨F2, g2, s2, q2⟩ := g1.tup ht (.cons q1' (.cons (r1.mono s1.pre s1.fz) .nil))
          have hk2 : IsKeys (upd H t (.tup [.ref b, v])) kvs bs := by
            unfold IsKeys
            clear r2 hl hf
            induction hk with
            | nil => exact Paired.nil
            | cons h t' ih => exact Paired.cons (by rw [upd_ne (ne_of_none h ht)]; exact h) ih
          obtain ⟨F3, g3, s3, q3⟩ := lay_pairs kvs ds bs ts F2 (upd H t (.tup [.ref b, v])) g2 (r2.mono (s1.trans s2).pre (s1.trans s2).fz) hk2 (by simpa using hl) (fun t' h' => by
            rw [upd_ne (fun z => hn.1 (by rw [← z]; exact h'))]; exact hf t' (by simp [h'])) hn.2
          exact ⟨F3, g3, (s1.trans s2).trans s3, .cons (q2.mono s3.pre s3.fz) q3⟩
def gSortI : Sto → D → Option D := fun _ x => match x with
  | .dT kvs => if (sortOk (kvs.map pairI) && decide ((kvs.map pairI).length ≤ SZ)) = true then some (.lst (sortD (kvs.map pairI))) else none
  | _ => none
end
section
variable {X : Cx} {W : WX}
theorem qe_sortItems (hc : X.calm = true) (hu : X.A.units + 64 < cLine) {e : Expr} {fe : Ed} {p apos cpos pos : Pos} (hg : Gl X "sorted") (hm : X.mg "sorted" = none) (he : QE X W .fre e fe)
    (hbase : attributeBase e "items" X.env (eval e X.env) = eval e X.env := by rfl) (hline : (apos.endLine == cpos.line) = true := by rfl)
    (hs : starEach [.Call (.Attribute e "items" apos) [] [] cpos] X.env = (false, eval (.Call (.Attribute e "items" apos) [] [] cpos) X.env) :: starEach [] X.env := by rfl) (hpl : (backTo pos (starEach [] X.env)).any (·.1) = false := by rfl) :
    QE X W .fre (.Call (.Name "sorted" p) [.Call (.Attribute e "items" apos) [] [] cpos] [] pos) (op1 gSortI fe) := by
  obtain ⟨te, h1, h2⟩ := he.ex
  refine ⟨_, pe_callB (cr_sortV hc hu) hg hm (by decide +kernel) (pa_cons (pe_bm0 PySem.F.plainAttrs_dict PySem.F.slot_dict_items PySem.F.type_dict_items mt_itemsT h1 hbase hline) pa_nil hs) (by decide) (by decide) hs hpl, fun en Λ α F σ H r m S => ?_⟩
  refine At.bind (t := te σ H) (u := fun x H1 Q => tyV X.K "dict" x H1 ∧ rItemsT x [] H1 fun y H2 => rSortV X.K [y] H2 Q) (Rl' := RlK X.K X.mg .fre) back_K (h2 en Λ α F σ H r m S) fun x m1 _ v α1 F1 H1 S1 s1 k1 => ?_
  cases hg' : gSortI m1 x with
  | none => trivial
  | some d =>
    refine At.op S1 fun Q q => ?_
    obtain ⟨a, ho, rfl, ha, fa, na, _, rc⟩ := k1
    unfold gSortI at hg'
    cases rc with
    | lst _ => cases hg'
    | dK _ => cases hg'
    | @dT kvs ds rt =>
      simp only at hg'
      split at hg'
      · rename_i c
        cases hg'
        rw [Bool.and_eq_true, decide_eq_true_eq] at c
        obtain ⟨c, hz⟩ := c
        unfold sortOk at c
        split at c
        · rename_i ps e2
          simp only [Bool.and_eq_true] at c
          have e3 := pys_all e2
          subst e3
          refine ⟨.inr (.inr (.inl ⟨rfl, .inr ⟨kvs, ha⟩⟩)), a, kvs, rfl, rfl, ha, fun p hp => ?_⟩
          obtain ⟨g1, st1⟩ := S1.g.new (o := itemsO p a) hp
          refine ⟨p, a, kvs, rfl, upd_same, by rw [upd_ne (ne_of_none ha hp)]; exact ha, fun bs hk ts hl hf hn => ?_⟩
          obtain ⟨F', g', s', rl⟩ := lay_pairs kvs ds bs ts F1 _ g1 rt hk hl hf hn
          refine ⟨ds.map pairI, fun v d => Rep X.K X.mg α1 F' v d, repL_each rl, repL_eachDp g'.sub rl e2, fun p hp p' hp' => ?_, sortB_ok c.1.2, sz hz, fun b hb => ?_, fun ys p he hp => ?_⟩
          · have := c.1.1
            unfold sortOk.alikeB' at this
            exact List.all_eq_true.mp (List.all_eq_true.mp this p hp) p' hp'
          · have := List.all_eq_true.mp c.2 b.pyD (List.mem_map.mpr ⟨b, hb, rfl⟩)
            exact of_decide_eq_true this
          · obtain ⟨g2, s2, k2⟩ := g'.fre hp (.lst (each_repL he))
            exact q _ _ _ _ g2 ((st1.trans s').trans s2) (RK.back (H1 := H1) (st1.trans s') k2)
        · cases c
      · cases hg'
end
end Q
end
section
set_option Elab.async false
set_option linter.all false
set_option maxRecDepth 100000
set_option maxHeartbeats 4000000
/-! xs += ys of an own list -/
namespace Q
open PySem L2 PySem.Spec PyProof.Rows
def extD (ys : List D) (c : D) : Option D := match c with
  | .lst xs => if xs.length + ys.length ≤ SZ then some (.lst (xs ++ ys)) else none
  | _ => none
def ext2 (i : Nat) (o : Option D) (r : Env) (m : Sto) : Out := match o with
  | some (.lst ys) => match mutS i (extD ys) r m with
    | some (r', m') => .nx r' m'
    | none => .stuck
  | _ => .stuck
def sExt (i : Nat) (fe : Ed) : Sd := fun r m => match r[i]? with
  | some (.own _) => (fe r m).out fun y m1 => ext2 i (dr m1 y) r m1
  | _ => .stuck
theorem set_same {σ : L2.St} {i : Nat} {x : Option V} (h : σ[i]? = some x) : σ.set i x = σ := by
  apply List.ext_getElem?
  intro j
  by_cases e : i = j
  · subst e
    have := (List.getElem?_eq_some_iff.mp h).1
    rw [List.getElem?_set_self this, h]
  · rw [List.getElem?_set_ne e]
theorem qs_ext {X : Cx} {W : WX} (i : Nat) {x : Str} {e : Expr} {fe : Ed} {pos' pos : Pos} (hN : X.N.Nodup) (hx : Loc X.env.scope x) (he : QE X W .bor e fe) (hi : X.N[i]? = some x := by rfl) (hf : X.fn x = true ∨ X.env.scope.names.lookup x = some .local := by first | exact .inl rfl | exact .inr rfl | assumption) :
    QS X W (.AugAssign (.Name x pos') .Add e pos) (sExt i fe) := by
  obtain ⟨te, e1, e2⟩ := he.ex
  refine ⟨_, ps_aug hN hi hx e1 iop_ext hf, fun en Λ α F σ H r m D S hp => ?_⟩
  unfold sExt at hp
  split at hp
  · rename_i c hr
    obtain ⟨a, ho, h1, h2, h3⟩ := S.sl i _ hr
    refine ⟨.ref a, h1, ?_⟩
    refine At.out (t := te σ H) (e2 en Λ α F σ H r m S) hp fun y m1 _ hp w α1 F1 H1 S1 s1 k1 => ?_
    unfold ext2 at hp
    split at hp
    · rename_i ys hy
      split at hp
      · rename_i r' m' hm
        obtain ⟨a', ho', c1, c2, q1, q2, q3, q4, _, q5⟩ := mut_at S1 hm
        rw [h1] at q1
        cases q1
        obtain ⟨p, ws, rfl, hs, rs⟩ := cont_lstX S1.g k1.bor hy
        unfold extD at q4
        cases q3 with
        | @lst vs xs rv =>
          simp only at q4
          split at q4
          · rename_i hz
            cases q4
            have l1 := rv.length
            have l2 := rs.length
            refine ⟨a, p, vs, ws, rfl, rfl, q2, hs, by rw [l1, l2]; exact sz hz, ?_⟩
            show D.nx (σ.set i (some (V.ref a))) (upd H1 a (.lst (vs ++ ws)))
            rw [set_same h1]
            exact hp _ _ _ _ (q5 _ (.lst (rv.append rs)))
          · cases q4
        | _ => cases q4
      · exact hp.elim
    · exact hp.elim
  · exact hp.elim
theorem ext_to {i : Nat} {fe : Ed} {r r1 : Env} {m m1 : Sto} {xs ys : List D} {y : D} (h : r[i]? = some (.own (.lst xs))) (e : fe r m = .ok y m1) (ey : dr m1 y = some (.lst ys)) (hz : xs.length + ys.length ≤ SZ) (er : r.set i (.own (.lst (xs ++ ys))) = r1) : sExt i fe r m = .nx r1 m1 := by
  unfold sExt
  rw [h]
  show (fe r m).out (fun y m1 => ext2 i (dr m1 y) r m1) = _
  rw [e]
  show ext2 i (dr m1 y) r m1 = _
  rw [ey]
  have e2 : extD ys (.lst xs) = some (.lst (xs ++ ys)) := if_pos hz
  unfold ext2 mutS
  rw [h]
  show (match ((extD ys (.lst xs)).map fun c' => (r.set i (.own c'), m1)) with | some (r', m') => Out.nx r' m' | none => .stuck) = _
  rw [e2]
  show Out.nx (r.set i (.own (.lst (xs ++ ys)))) m1 = _
  rw [er]
end Q
end
section
set_option Elab.async false
set_option linter.all false
set_option maxRecDepth 100000
set_option maxHeartbeats 4000000
/-! a, b = a list -/
namespace Q
open PySem L2 PySem.Spec PyProof.Rows
def pTL (q : Pats) : Pat := fun d r => match d with
  | .lst ds => q ds r
  | _ => none
theorem qg_tl {X : Cx} {ts : List Expr} {k : Nat} {pos : Pos} {is : List Nat} {q : Pats} {n : Nat} (hc : X.calm = true) (h : QGs X ts is q) (hl : ∀ ds r r', q ds r = some r' → ds.length = n)
    (hn : (assignEach ts X.env).length = n := by rfl) (hst : (assignEach ts X.env).findIdx? (·.1) = none := by rfl) : QG X (.Tuple ts k pos) is (pTL q) := by
  obtain ⟨t1, h1, h2⟩ := h.ex
  refine ⟨_, pg_lst hc h1 hn hst, fun e Λ α F σ H r m v d r' S k z Q w => ?_⟩
  unfold pTL at z
  cases d with
  | lst ds =>
    cases k with
    | lst s rl => exact ⟨_, _, rfl, .inl (.inl (S.g.sub.lst s)), by rw [rl.length]; exact hl _ _ _ z, h2 e Λ α F σ H r m _ ds r' S rl z Q w⟩
  | _ => cases z
end Q
end
section
set_option Elab.async false
set_option linter.all false
set_option maxRecDepth 100000
set_option maxHeartbeats 4000000
/-! a, b = x, y by way of a tuple; x[i] = d.pop(k); list(range(..)), tuple(range(..)) -/
namespace Q
open PySem L2 PySem.Spec PyProof.Rows
section
variable {X : Cx} {W : WX}
theorem qs_par2T (i j : Nat) (ka kb : Bool) {x y : Str} {a b : Expr} {fa fb : Ed} {px py pt pos : Pos} {kt k2 pt2} (hc : X.calm = true) (hN : X.N.Nodup) (hx : Loc X.env.scope x) (hy : Loc X.env.scope y) (ha : QE X W (kdOf ka) a fa) (hb : QE X W (kdOf kb) b fb)
    (hi : X.N[i]? = some x := by rfl) (hj : X.N[j]? = some y := by rfl) (hfx : X.fn x = true ∨ X.env.scope.names.lookup x = some .local := by first | exact .inl rfl | exact .inr rfl | assumption) (hfy : X.fn y = true ∨ X.env.scope.names.lookup y = some .local := by first | exact .inl rfl | exact .inr rfl | assumption)
    (hs : swapsWithSole [.Tuple [.Name x px, .Name y py] kt pt] (.Tuple [a, b] k2 pt2) pos.line X.env = pure false := by rfl) (hw : swappedStores [.Tuple [.Name x px, .Name y py] kt pt] (.Tuple [a, b] k2 pt2) X.env = pure none := by rfl)
    (h0 : (assignEach [.Tuple [.Name x px, .Name y py] kt pt] X.env).map (·.2) = [assign (.Tuple [.Name x px, .Name y py] kt pt) X.env] := by rfl)
    (h1 : starEach [a, b] X.env = (false, eval a X.env) :: starEach [b] X.env := by rfl) (h2 : starEach [b] X.env = (false, eval b X.env) :: starEach [] X.env := by rfl)
    (g1 : (assignEach [.Name x px, .Name y py] X.env).map (·.2) = assign (.Name x px) X.env :: (assignEach [.Name y py] X.env).map (·.2) := by rfl) (g2 : (assignEach [.Name y py] X.env).map (·.2) = assign (.Name y py) X.env :: (assignEach [] X.env).map (·.2) := by rfl)
    (hn : (assignEach [.Name x px, .Name y py] X.env).length = 2 := by rfl) (hst : (assignEach [.Name x px, .Name y py] X.env).findIdx? (·.1) = none := by rfl) :
    QS X W (.Assign [.Tuple [.Name x px, .Name y py] kt pt] (.Tuple [a, b] k2 pt2) pos) (sPar2 i j ka kb fa fb) := by
  obtain ⟨ta, a1, a2⟩ := ha.ex
  obtain ⟨tb, b1, b2⟩ := hb.ex
  refine ⟨_, ps_asg (pe_tup (pa_cons a1 (pa_cons b1 pa_nil h2) h1)) (pg_tup hc (pgs_cons (pg_name hN hi hx hfx) (pgs_cons (pg_name hN hj hy hfy) pgs_nil g2) g1) hn hst) hs hw h0, fun e Λ α F σ H r m D S hp => ?_⟩
  refine At.out (t := ta σ H) (a2 e Λ α F σ H r m S) hp fun d1 m1 _ hp v α1 F1 H1 S1 s1 k1 => ?_
  refine At.out (t := tb σ H1) (b2 e Λ α1 F1 σ H1 r m1 S1) hp fun d2 m2 _ hp w α2 F2 H2 S2 s2 k2 => ?_
  refine ⟨by rw [sizeLine_eq]; show 2 ≤ _; decide, fun p np => ?_⟩
  obtain ⟨g', s'⟩ := S2.g.new (o := .tup [v, w]) np
  have S2' := S2.stay s' g'
  refine ⟨p, [v, w], rfl, .inl (.inl upd_same), rfl, _, _, rfl, ?_⟩
  refine ⟨_, _, rfl, rfl, hp α2 F2 _ _ ?_⟩
  have S3 := S2'.setK (i := i) (H0 := H) (k1.stay (s2.trans s')) (fun a => S.e0) fun a j' d' h hj' hz => by
    obtain ⟨o, q⟩ := S.there hj' hz
    rw [h] at q; cases q
  refine S3.setK (i := j) (H0 := H1) (k2.stay s') (fun a => S1.e0) fun a j' d' h hj' hz => ?_
  rcases slot_set hj' hz with ⟨_, ev, hf⟩ | ⟨q1, q2⟩
  · obtain ⟨o, q⟩ := rk_at k1 hf ev
    rw [h] at q; cases q
  · obtain ⟨o, q⟩ := S1.there q1 q2
    rw [h] at q; cases q
/-! ### x[i] = d.pop(k) -/
def popD (y c : D) : Option D := match c, y.key with
  | .dK kvs, some k => match getA kvs k with
    | some _ => some (.dK (dropA kvs k))
    | none => none
  | _, _ => none
def popV (y c : D) : D := match c, y.key with
  | .dK kvs, some k => (getA kvs k).getD .non
  | _, _ => .non
/-- the own dict l gives up a key, what stood there goes to x[i] -/
def sPutPop (j l : Nat) (fi fk : Ed) : Sd := fun r m => match r[l]? with
  | some (.own (.dK kvs)) => (fk r m).out fun y m1 => Opt.out (mutS l (popD y) r m1) fun p => (fi p.1 p.2).outS fun z m2 => Opt.out (mutS j (putD z (popV y (.dK kvs))) p.1 m2) fun q => .nx q.1 q.2
  | _ => .stuck
theorem qs_putPop (j l : Nat) {o o2 : Str} {i k : Expr} {fi fk : Ed} {po pt pos p2 apos cpos : Pos} (hu : X.A.units + 64 < cLine) (hk : QE X W .bor k fk) (hi : QE X W .bor i fi) (hN : X.N[j]? = some o := by rfl) (hvis : Vis X.env.scope o := by first | exact Or.inl rfl | exact Or.inr (Or.inl rfl) | exact Or.inr (Or.inr rfl))
    (hN2 : X.N[l]? = some o2 := by rfl) (hvis2 : Vis X.env.scope o2 := by first | exact Or.inl rfl | exact Or.inr (Or.inl rfl) | exact Or.inr (Or.inr rfl)) (m : M1 X (.Name o2 p2) "pop" apos k cpos := by exact ⟨rfl, rfl, rfl, rfl⟩)
    (ha : ∀ v, assign (.Subscript (.Name o po) i pt) X.env v = (do
      let ov ← holding [v] (eval (.Name o po) X.env)
      let iv ← holding [v, ov] (eval i X.env)
      standAt pt
      holding [v, ov, iv] (setItem ov iv v)
      release [v, ov, iv] []) := by intro _; rfl) (hd : (o == ("__debug__" : Str)) = false := by decide)
    (hcd : (o == ("__classdict__" : Str)) = false := by decide) (hd2 : (o2 == ("__debug__" : Str)) = false := by decide) (hcd2 : (o2 == ("__classdict__" : Str)) = false := by decide)
    (hs : swapsWithSole [.Subscript (.Name o po) i pt] (.Call (.Attribute (.Name o2 p2) "pop" apos) [k] [] cpos) pos.line X.env = pure false := by rfl) (hw : swappedStores [.Subscript (.Name o po) i pt] (.Call (.Attribute (.Name o2 p2) "pop" apos) [k] [] cpos) X.env = pure none := by rfl)
    (h1 : (assignEach [.Subscript (.Name o po) i pt] X.env).map (·.2) = [assign (.Subscript (.Name o po) i pt) X.env] := by rfl) : QS X W (.Assign [.Subscript (.Name o po) i pt] (.Call (.Attribute (.Name o2 p2) "pop" apos) [k] [] cpos) pos) (sPutPop j l fi fk) := by
  obtain ⟨tk, v1, v2⟩ := hk.ex
  obtain ⟨ti, i1, i2⟩ := hi.ex
  refine ⟨_, ps_asg (pe_dpop1 (pe_nm l hN2 hvis2 hd2 hcd2) v1 m) (pg_sub (pe_nm j hN hvis hd hcd) i1 (set_any hu) ha) hs hw h1, fun e Λ α F σ H r m D S hp => ?_⟩
  unfold sPutPop at hp
  split at hp
  · rename_i kvs hr
    obtain ⟨a, ho, e1, e2, e3⟩ := S.sl l _ hr
    have isd : IsD H a := by
      cases e3.c with
      | dK rl => exact .inl ⟨_, .inl e2⟩
    refine ⟨.ref a, e1, a, rfl, isd, ?_⟩
    refine At.out (t := tk σ H) (v2 e Λ α F σ H r m S) hp fun y m1 _ hp yv α1 F1 H1 S1 s1 k1 => ?_
    cases hm1 : mutS l (popD y) r m1 with
    | none => simp only [Opt.out, hm1] at hp; exact hp.elim
    | some p =>
      obtain ⟨r1, m1'⟩ := p
      simp only [Opt.out, hm1] at hp
      obtain ⟨a', ho', c, c', f1, f2, f3, f4, f5, f6⟩ := mut_at S1 hm1
      rw [e1] at f1
      cases f1
      have hc : c = .dK kvs := by
        unfold contS at f5
        rw [hr] at f5
        exact (Option.some.inj f5).symm
      subst hc
      cases f3 with
      | @dK vs _ rl =>
        cases hk : y.key with
        | none => simp only [popD, hk] at f4; cases f4
        | some kk =>
          simp only [popD, hk] at f4
          have tr := rl.tr
          have tg := tr.get kk
          cases hg : getA kvs kk with
          | none => rw [hg] at f4; cases f4
          | some d =>
            rw [hg] at f4 tg
            cases f4
            obtain ⟨u, hu1, hu2⟩ := tg
            have ek := rb_key k1 hk
            have ev : popV y (.dK kvs) = d := by
              unfold popV
              simp only [hk, hg]; rfl
            rw [ev] at hp
            refine ⟨vs, kk, u, f2, ek, hu1, ?_⟩
            have S3 := f6 _ (.dK (tr.drop kk).repK)
            cases hy : fi r1 m1' with
            | stuck => rw [hy] at hp; exact hp.elim
            | exc n m2 => rw [hy] at hp; exact hp.elim
            | ok z m2 =>
              rw [hy] at hp
              cases hm : mutS j (putD z d) r1 m2 with
              | none => simp only [Res.outS, hm] at hp; exact hp.elim
              | some p =>
                obtain ⟨r', m'⟩ := p
                simp only [Res.outS, hm] at hp
                have q := i2 e Λ α1 F1 σ _ r1 m1' S3
                rw [hy] at q
                obtain ⟨o', ho'⟩ := mut_nm S3 hm
                refine ⟨o', ho', q _ fun iv α2 F2 H2 S2 s2 k2 => ?_⟩
                obtain ⟨o2, e2, w⟩ := put_at S2 (RK.stay (k := .froz) (H0 := H1) s2 hu2) k2 hm (Q := fun H3 => D.nx σ H3) fun H3 S3 => hp _ _ _ _ S3
                rw [ho'] at e2
                cases e2
                exact w
  · exact hp.elim
/-! ### list(range(..)), tuple(range(..)) -/
def rgE (t : Bool) (x y : D) (m : Sto) : Res D := match x, y with
  | .int i, .int j => if -(2 ^ 62) ≤ i ∧ i < 2 ^ 62 ∧ -(2 ^ 62) ≤ j ∧ j < 2 ^ 62 ∧ (j - i).toNat ≤ 100000 then .ok (if t = true then .tup (rangeD i (j - i).toNat) else .lst (rangeD i (j - i).toNat)) m else .stuck
  | _, _ => .stuck
def eRgA (t : Bool) (f : Ed) : Ed := fun r m => (f r m).bind fun y m1 => rgE t (.int 0) y m1
def eRgB (t : Bool) (f g : Ed) : Ed := fun r m => (f r m).bind fun x m1 => (g r m1).bind fun y m2 => rgE t x y m2
def kRg (t : Bool) : Kd := if t = true then .froz else .fre
theorem rg_rep {K : PySem.W.Frag} {mg : Str → Option Value} {α : List Addr} {F : Hp} (i j : Int) : RepL K mg α F (rgV i j) (rangeD i (j - i).toNat) := by
  unfold rgV rangeD
  induction List.range (j - i).toNat with
  | nil => exact .nil
  | cons a l ih => exact .cons (.int _) ih
def tRgK (t : Bool) (te : L2.St → Hp → (Int → Int → Hp → Prop) → Prop) : TE := if t = true then tTupRg te else tLstRg te
theorem rg_fin {K : PySem.W.Frag} {mg : Str → Option Value} {e : En} {Λ : Nat → Option (V × D)} {α : List Addr} {F : Hp} {σ : L2.St} {H : Hp} {r : Env} {m : Sto} (S : Sig K mg e Λ α F σ H r m) (t : Bool) {i j : Int} (h : -(2 ^ 62) ≤ i ∧ i < 2 ^ 62 ∧ -(2 ^ 62) ≤ j ∧ j < 2 ^ 62 ∧ (j - i).toNat ≤ 100000) :
    At K mg W (RlK K mg (kRg t)) e Λ α F σ H r (fun Q => RgOk i j ∧ ∀ q, H q = none → Q (.ref q) (upd H q (if t = true then .tup (rgV i j) else .lst (rgV i j)))) (.ok (if t = true then .tup (rangeD i (j - i).toNat) else .lst (rangeD i (j - i).toNat)) m) := by
  obtain ⟨h1, h2, h3, h4, h5⟩ := h
  refine fun Q w => ⟨⟨h1, h2, h3, h4, by omega⟩, fun q hq => ?_⟩
  cases t with
  | true =>
    obtain ⟨F', g', s', rp⟩ := S.g.tup hq (rg_rep (K := K) (mg := mg) (α := α) (F := F) i j)
    exact w _ _ _ _ (S.stay s' g') s' rp
  | false =>
    obtain ⟨g', s', rp⟩ := S.g.fre hq (.lst (rg_rep (K := K) (mg := mg) (α := α) (F := F) i j))
    exact w _ _ _ _ (S.stay s' g') s' rp
theorem rgE_ok {i j : Int} {m : Sto} {t : Bool} (h : -(2 ^ 62) ≤ i ∧ i < 2 ^ 62 ∧ -(2 ^ 62) ≤ j ∧ j < 2 ^ 62 ∧ (j - i).toNat ≤ 100000) : rgE t (.int i) (.int j) m = .ok (if t = true then .tup (rangeD i (j - i).toNat) else .lst (rangeD i (j - i).toNat)) m := by
  unfold rgE
  exact if_pos h
theorem rgE_bad {x y : D} {m : Sto} {t : Bool} (h : ∀ i j, x = .int i → y = .int j → ¬ (-(2 ^ 62) ≤ i ∧ i < 2 ^ 62 ∧ -(2 ^ 62) ≤ j ∧ j < 2 ^ 62 ∧ (j - i).toNat ≤ 100000)) : rgE t x y m = .stuck := by
  unfold rgE
  split
  · rename_i i j
    exact if_neg (h i j rfl rfl)
  · rfl
theorem qe_rgA (t : Bool) {f : Str} {a : Expr} {fa : Ed} {p pos p2 pos2 : Pos} (hc : X.calm = true) (hg : Gl X "range") (hm : X.mg "range" = none) (hf : f = if t = true then "tuple" else "list") (hg2 : Gl X f) (hm2 : X.mg f = none) (ha : QE X W .bor a fa) (na : starEach [a] X.env = (false, eval a X.env) :: starEach [] X.env := by rfl)
    (nb : starEach [.Call (.Name "range" p) [a] [] pos] X.env = (false, eval (.Call (.Name "range" p) [a] [] pos) X.env) :: starEach [] X.env := by rfl) :
    QE X W (kRg t) (.Call (.Name f p2) [.Call (.Name "range" p) [a] [] pos] [] pos2) (eRgA t fa) := by
  obtain ⟨ta, a1, a2⟩ := ha.ex
  have key : SndE X.K X.mg W (kRg t) (fun σ H Q => tRg1 ta σ H fun i j H1 => RgOk i j ∧ ∀ q, H1 q = none → Q (.ref q) (upd H1 q (if t = true then .tup (rgV i j) else .lst (rgV i j)))) (eRgA t fa) := by
    intro e Λ α F σ H r m S
    refine At.bind (t := ta σ H) (u := fun x H1 Q => ∃ n, x = .int n ∧ RgOk 0 n ∧ ∀ q, H1 q = none → Q (.ref q) (upd H1 q (if t = true then .tup (rgV 0 n) else .lst (rgV 0 n)))) back_K (a2 e Λ α F σ H r m S) fun x m1 _ v α1 F1 H1 S1 s1 k1 => ?_
    cases x with
    | int n =>
      by_cases hz : -(2 ^ 62) ≤ (0 : Int) ∧ (0 : Int) < 2 ^ 62 ∧ -(2 ^ 62) ≤ n ∧ n < 2 ^ 62 ∧ (n - 0).toNat ≤ 100000
      · have ev := rb_int k1
        subst ev
        have := rg_fin (W := W) S1 t hz
        rw [rgE_ok hz]
        exact fun Q w => ⟨n, rfl, this Q w⟩
      · rw [rgE_bad fun i j e1 e2 => by cases e1; cases e2; exact hz]; trivial
    | _ => trivial
  subst hf
  cases t with
  | true => exact ⟨_, pe_tupRg hc hg2 hm2 (prg_1 hg hm a1 na) nb, key⟩
  | false => exact ⟨_, pe_listRg hc hg2 hm2 (prg_1 hg hm a1 na) nb, key⟩
theorem qe_rgB (t : Bool) {f : Str} {a b : Expr} {fa fb : Ed} {p pos p2 pos2 : Pos} (hc : X.calm = true) (hg : Gl X "range") (hm : X.mg "range" = none) (hf : f = if t = true then "tuple" else "list") (hg2 : Gl X f) (hm2 : X.mg f = none) (ha : QE X W .bor a fa) (hb : QE X W .bor b fb) (na : starEach [a, b] X.env = (false, eval a X.env) :: starEach [b] X.env := by rfl)
    (na2 : starEach [b] X.env = (false, eval b X.env) :: starEach [] X.env := by rfl) (hp : (backTo pos (starEach [b] X.env)).any (·.1) = false := by rfl)
    (nb : starEach [.Call (.Name "range" p) [a, b] [] pos] X.env = (false, eval (.Call (.Name "range" p) [a, b] [] pos) X.env) :: starEach [] X.env := by rfl) :
    QE X W (kRg t) (.Call (.Name f p2) [.Call (.Name "range" p) [a, b] [] pos] [] pos2) (eRgB t fa fb) := by
  obtain ⟨ta, a1, a2⟩ := ha.ex
  obtain ⟨tb, b1, b2⟩ := hb.ex
  have key : SndE X.K X.mg W (kRg t) (fun σ H Q => tRg2 ta tb σ H fun i j H1 => RgOk i j ∧ ∀ q, H1 q = none → Q (.ref q) (upd H1 q (if t = true then .tup (rgV i j) else .lst (rgV i j)))) (eRgB t fa fb) := by
    intro e Λ α F σ H r m S
    refine At.bind (t := ta σ H) (u := fun x H1 Q => tb σ H1 fun y H2 => ∃ i j, x = .int i ∧ y = .int j ∧ RgOk i j ∧ ∀ q, H2 q = none → Q (.ref q) (upd H2 q (if t = true then .tup (rgV i j) else .lst (rgV i j)))) back_K (a2 e Λ α F σ H r m S) fun x m1 _ v α1 F1 H1 S1 s1 k1 => ?_
    refine At.bind (t := tb σ H1) (u := fun y H2 Q => ∃ i j, v = .int i ∧ y = .int j ∧ RgOk i j ∧ ∀ q, H2 q = none → Q (.ref q) (upd H2 q (if t = true then .tup (rgV i j) else .lst (rgV i j)))) back_K (b2 e Λ α1 F1 σ H1 r m1 S1) fun y m2 _ w α2 F2 H2 S2 s2 k2 => ?_
    cases x with
    | int i =>
      cases y with
      | int j =>
        by_cases hz : -(2 ^ 62) ≤ i ∧ i < 2 ^ 62 ∧ -(2 ^ 62) ≤ j ∧ j < 2 ^ 62 ∧ (j - i).toNat ≤ 100000
        · have ev := rb_int k1
          have ew := rb_int k2
          subst ev ew
          have := rg_fin (W := W) S2 t hz
          rw [rgE_ok hz]
          exact fun Q w => ⟨i, j, rfl, rfl, this Q w⟩
        · rw [rgE_bad fun i j e1 e2 => by cases e1; cases e2; exact hz]; trivial
      | _ => trivial
    | _ => trivial
  subst hf
  cases t with
  | true => exact ⟨_, pe_tupRg hc hg2 hm2 (prg_2 hg hm a1 b1 na na2 hp) nb, key⟩
  | false => exact ⟨_, pe_listRg hc hg2 hm2 (prg_2 hg hm a1 b1 na na2 hp) nb, key⟩
end
end Q
end
section
set_option Elab.async false
set_option linter.all false
set_option maxRecDepth 100000
set_option maxHeartbeats 4000000
/-! [(d[k], k) for k in d] of an own dict -/
namespace Q
open PySem L2 PySem.Spec PyProof.Rows
def pairsOf (kvs : List (Key × D)) : List D := kvs.map fun kv => .tup [(getA kvs kv.1).getD .non, keyD kv.1]
def eDp (i j : Nat) : Ed := fun r m => match r[i]? with
  | some (.own (.dK kvs)) => if kvs.length ≤ SZ ∧ j < r.length ∧ i ≠ j then .ok (.lst (pairsOf kvs)) m else .stuck
  | _ => .stuck
section
variable {K : PySem.W.Frag} {mg : Str → Option Value} {e : En} {Λ : Nat → Option (V × D)} {α : List Addr} {F : Hp} {σ : L2.St} {H : Hp} {r : Env} {m : Sto}
theorem Sig.un (S : Sig K mg e Λ α F σ H r m) (i : Nat) : Sig K mg e Λ α F σ H (r.set i .un) m := by
  have old : ∀ {j : Nat} {z : Sl}, (r.set i .un)[j]? = some z → z ≠ .un → j ≠ i ∧ r[j]? = some z := fun {j z} q hz => by
    by_cases ji : i = j
    · subst ji
      by_cases hl : i < r.length
      · rw [List.getElem?_set_self hl] at q; exact absurd (Option.some.inj q).symm hz
      · rw [List.getElem?_eq_none (by simpa using hl)] at q; cases q
    · rw [List.getElem?_set_ne ji] at q; exact ⟨Ne.symm ji, q⟩
  refine ⟨S.g, S.st, by rw [List.length_set]; exact S.len, fun j z q => ?_, fun j j' d1 d2 b k1 k2 => ?_, fun j d' q => S.lk j d' (old q (by intro z; cases z)).2⟩
  · cases z with
    | un => trivial
    | dat _ => exact S.sl j _ (old q (by intro z; cases z)).2
    | own _ => exact S.sl j _ (old q (by intro z; cases z)).2
    | lok _ => exact S.sl j _ (old q (by intro z; cases z)).2
  · refine S.dis j j' d1 d2 b ?_ ?_
    · rcases k1 with k | k
      · exact .inl (old k (by intro z; cases z)).2
      · exact .inr (old k (by intro z; cases z)).2
    · rcases k2 with k | k
      · exact .inl (old k (by intro z; cases z)).2
      · exact .inr (old k (by intro z; cases z)).2
theorem un_old {i j : Nat} {z : Sl} (q : (r.set i .un)[j]? = some z) (hz : z ≠ .un) : j ≠ i ∧ r[j]? = some z := by
  by_cases ji : i = j
  · subst ji
    by_cases hl : i < r.length
    · rw [List.getElem?_set_self hl] at q; exact absurd (Option.some.inj q).symm hz
    · rw [List.getElem?_eq_none (by simpa using hl)] at q; cases q
  · rw [List.getElem?_set_ne ji] at q; exact ⟨Ne.symm ji, q⟩
theorem val_of {vs : List (Key × V)} {k : Key} {p : Nat} {v : V} (h : vs[p]? = some (k, v)) : ∃ u, valV vs k = some u := by
  unfold valV
  have : (vs.find? fun kv => decide (kv.1 = k)).isSome = true := by
    rw [List.find?_isSome]
    exact ⟨(k, v), List.mem_of_getElem? h, by simp⟩
  obtain ⟨u, hu⟩ := Option.isSome_iff_exists.mp this
  exact ⟨u.2, by rw [hu]; rfl⟩
abbrev tDp (i j : Nat) : TE := tTup (tCons (tDGet (tVar i) (tVar j)) (tCons (tVar j) tNil))
theorem snd_dp {W : WX} {i j : Nat} : SndE K mg W .fre (tLockE (tLc (iAnyT K (tVar i)) (gName j) tYes (tDp i j) [j])) (eDp i j) := by
  intro e Λ α F σ H r m S
  unfold eDp
  split
  · rename_i kvs hr
    by_cases hz : kvs.length ≤ SZ ∧ j < r.length ∧ i ≠ j
    · rw [if_pos hz]
      obtain ⟨hz, hjl, hij⟩ := hz
      obtain ⟨a, ho, e1, e2, e3⟩ := S.sl i _ hr
      obtain ⟨o1, o2, o3, oc⟩ := e3
      cases oc with
      | @dK vs _ rl =>
        have hlen := rl.length
        refine fun Q w => ⟨a, .dK vs, e2, trivial, fun od => ?_⟩
        have own0 : ∀ (k : Nat) (d : D), ((r.set i .un)[k]? = some (.own d) ∨ (r.set i .un)[k]? = some (.lok d)) → σ[k]? ≠ some (some (.ref a)) := fun k d q z => by
          rcases q with q | q
          · obtain ⟨n1, q⟩ := un_old q (by intro z; cases z)
            exact n1 (S.dis k i d _ a (.inl q) (.inl hr) z e1)
          · obtain ⟨n1, q⟩ := un_old q (by intro z; cases z)
            exact n1 (S.dis k i d _ a (.inr q) (.inl hr) z e1)
        have S1 := (S.un i).wr (.frz od (.dK vs)) o1 o2 o3 own0
        refine ⟨.ref a, e1, a, rfl, .inr ⟨od, .inl ⟨vs, upd_same, fun L hL => ?_⟩⟩⟩
        have aL : a ≠ L := fun z => by rw [← z, upd_same] at hL; cases hL
        refine lc_any (n := vs.length) (fun k H' => ∃ F' acc, Sig K mg e Λ α F' σ H' (r.set i .un) m ∧ Fill K mg α F (upd H a (.frz od (.dK vs))) α F' H' L acc ∧ H' a = some (.frz od (.dK vs)) ∧ acc = (pairsOf kvs).take k) ?_ ?_ ?_ ?_ ?_
        · obtain ⟨g', s', _⟩ := S1.g.fre (o := .lst []) (d := .lst []) hL (.lst .nil)
          exact ⟨F, [], S1.stay s' g', ⟨s', S1.g.fno hL, S1.g.nin hL, hL, _, upd_same, .nil⟩, by rw [upd_ne aL]; exact upd_same, by simp⟩
        · rintro k H' hk ⟨F', acc, S2, fl, ha, _⟩
          exact ⟨ha, hk⟩
        · rintro H' ⟨F', acc, S2, fl, ha, _⟩
          exact ⟨ha, Nat.le_refl _⟩
        · rintro k x H2 H3 hk ⟨F', acc, S2, fl, ha, hacc⟩ ⟨rfl, key, v, hkv, rfl⟩
          have hjs : j < σ.length := by rw [S.len]; exact hjl
          have si : ((wipe σ [j]).set j (some (kV key)))[i]? = some (some (.ref a)) := by
            rw [List.getElem?_set_ne (Ne.symm hij), wipe_get, if_neg (by simp [hij])]
            exact e1
          have sj : ((wipe σ [j]).set j (some (kV key)))[j]? = some (some (kV key)) := by
            rw [List.getElem?_set_self (by rw [wipe_length]; exact hjs)]
          obtain ⟨u, hu⟩ := val_of hkv
          have tg := rl.tr.get key
          cases hg : getA kvs key with
          | none => rw [hg] at tg; rw [hu] at tg; cases tg
          | some d =>
            rw [hg] at tg
            obtain ⟨u', hu1, hu2⟩ := tg
            rw [hu] at hu1
            cases hu1
            refine ⟨?_, ?_⟩
            · apply List.ext_getElem?
              intro q
              rw [wipe_get, wipe_get, List.length_set, wipe_length]
              by_cases qj : q = j
              · subst qj; simp [hjs]
              · rw [if_neg (by simp [qj]), if_neg (by simp [qj]), List.getElem?_set_ne (Ne.symm qj), wipe_get, if_neg (by simp [qj])]
            · unfold tYes
              dsimp only
              rw [if_pos rfl]
              refine ⟨.ref a, si, kV key, sj, a, u, rfl, .inl ⟨vs, key, .inr ⟨od, ha⟩, rfl, hu.symm⟩, kV key, sj, by rw [sizeLine_eq]; show 2 ≤ _; decide, fun p np => ?_⟩
              obtain ⟨F2, g2, s2, rp⟩ := S2.g.tup np (.cons (hu2.mono fl.st.pre fl.st.fz) (.cons (kV_rep key) .nil))
              have fl2 := fl.stay s2
              have S3 := S2.stay s2 g2
              obtain ⟨ws, hw, rw'⟩ := fl2.at'
              have nown : ∀ (k : Nat) (d' : D), ((r.set i .un)[k]? = some (.own d') ∨ (r.set i .un)[k]? = some (.lok d')) → σ[k]? ≠ some (some (.ref L)) := fun k d' q z => by
                obtain ⟨o, q⟩ := S1.there q z
                rw [hL] at q; cases q
              obtain ⟨S4, fl4⟩ := fl2.add S3 hw rw' rp nown (S1.e0 hL)
              have hl1 := rw'.length
              have hacc2 : acc.length ≤ k := by rw [hacc, List.length_take]; omega
              refine ⟨ws, hw, sz' (by rw [hl1]; omega), F2, acc ++ [.tup [d, keyD key]], S4, fl4, ?_, ?_⟩
              · rw [upd_ne aL]
                exact s2.keep a _ o2 ha
              · have hk' : kvs[k]? = some (kvs[k]'(by omega)) := List.getElem?_eq_getElem (by omega)
                have ek : (kvs[k]'(by omega)).1 = key := by
                  have h1 := rl.tr.keys
                  have h2 : (vs.map (·.1))[k]? = some key := by rw [List.getElem?_map, hkv]; rfl
                  rw [h1, List.getElem?_map, hk'] at h2
                  exact Option.some.inj h2
                rw [hacc, List.take_add_one]
                congr 1
                unfold pairsOf
                rw [List.getElem?_map, hk']
                show [D.tup [d, keyD key]] = [D.tup [(getA kvs (kvs[k]'(by omega)).1).getD .non, keyD (kvs[k]'(by omega)).1]]
                rw [ek, hg]; rfl
        · rintro H' ⟨F', acc, S2, fl, ha, hacc⟩
          refine ⟨ha, ?_⟩
          rw [List.take_of_length_le (by unfold pairsOf; rw [List.length_map]; omega)] at hacc
          subst hacc
          obtain ⟨ws, hw, rw'⟩ := fl.at'
          have nf' : F' a = none := fl.st.out a _ o1 upd_same (by intro xs z; cases z)
          have S3 := S2.wr (.dK vs) nf' o2 o3 own0
          have S4 := S3.setOwn (i := i) (a := a) (ho := .dK vs) (d := .dK kvs) upd_same ⟨nf', o2, o3, .dK (rl.mono fl.st.pre fl.st.fz)⟩ fun k d' _ q z => own0 k d' q z
          rw [set_same e1] at S4
          have er : ((r.set i .un).set i (.own (.dK kvs))) = r := by
            apply List.ext_getElem?
            intro q
            by_cases qi : i = q
            · subst qi
              have := (List.getElem?_eq_some_iff.mp hr).1
              rw [List.getElem?_set_self (by rw [List.length_set]; exact this), hr]
            · rw [List.getElem?_set_ne qi, List.getElem?_set_ne qi]
          rw [er] at S4
          have hne : ∀ b, b ≠ a → upd H a (.frz od (.dK vs)) b = H b := fun b z => upd_ne z
          have stt : Stay α F H α F' (upd H' a (.dK vs)) := by
            refine ⟨fl.st.pre, fl.st.fz, fun b o q1 q2 => ?_, fun b hb => .inl hb, fun b o q1 q2 q3 => ?_, fun b o q => ?_⟩
            · by_cases z : b = a
              · subst z; rw [upd_same, ← e2]; exact q2
              · rw [upd_ne z]; exact fl.st.keep b o q1 (by rw [hne b z]; exact q2)
            · by_cases z : b = a
              · subst z; exact nf'
              · exact fl.st.out b o q1 (by rw [hne b z]; exact q2) q3
            · by_cases z : b = a
              · subst z
                rw [e2] at q; cases q
                exact ⟨_, upd_same, fun z => z⟩
              · rw [upd_ne z]
                exact fl.st.there b o (by rw [hne b z]; exact q)
          refine w _ α F' _ S4 stt ⟨L, _, rfl, by rw [upd_ne (Ne.symm aL)]; exact hw, fl.nf, fl.na, ?_, .lst rw'⟩
          have := fl.n0
          rwa [upd_ne (Ne.symm aL)] at this
    · rw [if_neg hz]; trivial
  · trivial
end
section
variable {X : Cx} {W : WX}
theorem qe_dPairs (i j : Nat) {x y : Str} {p1 p2 p3 p4 p5 p6 p7 pos : Pos} {kk : Nat} {scope : Scope} (hu : X.A.units + 64 < cLine) (hc : X.calm = true) (hN : X.N.Nodup) (ok : BlkOk X.N X.env.scope scope [(y, j)]) (hx : X.N[i]? = some x := by rfl) (hy : X.N[j]? = some y := by rfl)
    (hv : Vis X.env.scope x := by first | exact Or.inl rfl | exact Or.inr (Or.inl rfl) | exact Or.inr (Or.inr rfl))
    (hvb : ∀ b : Bk, Vis (blkOf X scope b).env.scope x := by intro _; first | exact Or.inl rfl | exact Or.inr (Or.inl rfl) | exact Or.inr (Or.inr rfl))
    (hvy : ∀ b : Bk, Vis (blkOf X scope b).env.scope y := by intro _; first | exact Or.inl rfl | exact Or.inr (Or.inl rfl) | exact Or.inr (Or.inr rfl))
    (hly : ∀ b : Bk, Loc (blkOf X scope b).env.scope y := by intro _; first | exact Or.inl rfl | exact Or.inr rfl)
    (hfy : ∀ b : Bk, (blkOf X scope b).fn y = true ∨ (blkOf X scope b).env.scope.names.lookup y = some .local := by intro _; first | exact .inl rfl | exact .inr rfl)
    (ns : NoSl (.Name y p4) := by intro _ _; rfl) (dx : (x == ("__debug__" : Str)) = false := by decide) (dcx : (x == ("__classdict__" : Str)) = false := by decide) (dy : (y == ("__debug__" : Str)) = false := by decide) (dcy : (y == ("__classdict__" : Str)) = false := by decide)
    (h1 : ∀ b : Bk, starEach [.Subscript (.Name x p3) (.Name y p4) p5, .Name y p6] (blkOf X scope b).env = (false, eval (.Subscript (.Name x p3) (.Name y p4) p5) (blkOf X scope b).env) :: starEach [.Name y p6] (blkOf X scope b).env := by intro _; rfl)
    (h2 : ∀ b : Bk, starEach [.Name y p6] (blkOf X scope b).env = (false, eval (.Name y p6) (blkOf X scope b).env) :: starEach [] (blkOf X scope b).env := by intro _; rfl)
    (hs : ∀ z, foldedSetIterable (.Name x p2) X.env z = pure z := by intro _; rfl) :
    QE X W .fre (.ListComp (.Tuple [.Subscript (.Name x p3) (.Name y p4) p5, .Name y p6] kk p7) [⟨.Name y p1, .Name x p2, [], 0⟩] scope pos) (eDp i j) := by
  refine ⟨_, pe_lock (pe_lc hc hN (pi_any (pe_nm i hx hv dx dcx)) ok (fun s H C cl fp => pg_name (i := j) hN hy (hly (s, H, C, cl, fp)) (hfy (s, H, C, cl, fp))) (fun s H C cl fp => pts_nil) (fun s H C cl fp => pe_tup (pa_cons (pe_dget (show X.A.units + 1 < cLine by omega) (pe_nm (X := blkOf X scope (s, H, C, cl, fp)) i hx (hvb (s, H, C, cl, fp)) dx dcx) (pe_nm (X := blkOf X scope (s, H, C, cl, fp)) j hy (hvy (s, H, C, cl, fp)) dy dcy) ns) (pa_cons (pe_nm (X := blkOf X scope (s, H, C, cl, fp)) j hy (hvy (s, H, C, cl, fp)) dy dcy) pa_nil (h2 (s, H, C, cl, fp))) (h1 (s, H, C, cl, fp)))) hs), snd_dp⟩
end
end Q
end
section
set_option Elab.async false
set_option linter.all false
set_option maxRecDepth 100000
namespace T
open PySem L2 Q
def cup (a b : Int) : Sto := [.lst [.int a, .int b]]
class Roll where
  f : Fd
  ok : ∀ a b many : Int, 0 < many → many < 1073741824 → ∃ v a' b', f [.cell 0, .int many] (cup a b) = .ok (.int v) (cup a' b') ∧ 0 ≤ v ∧ v < many
abbrev d__law_roll [R : Roll] : Fd := R.f
theorem roll_at [R : Roll] (a b many : Int) (h1 : 0 < many) (h2 : many < 1073741824) : ∃ v a' b', d__law_roll [.cell 0, .int many] (cup a b) = .ok (.int v) (cup a' b') ∧ 0 ≤ v ∧ v < many := R.ok a b many h1 h2
def k_KINDS : List D := [(.str "lane"), (.str "narrow"), (.str "wide")]
def b_is_tuple_of : Sd :=
  (sRet (eAnd (op1 (gIsi "tuple") (eB 0)) (eChain gLeA gLeA (eB 1) (opN gLen (aC (eB 0) aN)) (eB 2))))
def d_is_tuple_of : Fd := bodyD false 3 b_is_tuple_of
def b_is_whole : Sd :=
  (sRet (eAnd (op1 (gIsi "int") (eB 0)) (eAnd (eNot (op1 (gIsi "bool") (eB 0))) (eChain gLeA gLeA (eB 1) (eB 0) (eB 2)))))
def d_is_whole : Fd := bodyD false 3 b_is_whole
def b_fits_street : Sd :=
  (sSeq (sIf (bOr (bNot (bE (callD 3 d_is_tuple_of (aC (eV 1) (aC (eC (.int 4)) (aC (eC (.int 4)) aN)))))) (bNot (bE (opN gAll (aC (eLc (iAny (eSl (eB 1) oN (oS (eC (.int 2))))) (pN 2) bYes (callD 3 d_is_whole (aC (eV 2) (aC (eC (.int 0)) (aC (op2 gSub (eB 0) (eC (.int 1))) aN)))) [2]) aN)))))
  (sRet (eC (.bl false)))
  sNext)
  (sSeq (sIf (bOr (bNot (bE (callD 3 d_is_whole (aC (op2 gGet (eB 1) (eC (.int 2))) (aC (eC (.int 1)) (aC (eC (.int 9)) aN)))))) (bOr (bNot (bE (op1 (gIsi "str") (op2 gGet (eB 1) (eC (.int 3)))))) (bE (op2 (gInA true) (op2 gGet (eB 1) (eC (.int 3))) (eC (.ktup k_KINDS))))))
  (sRet (eC (.bl false)))
  sNext)
  (sRet (eOr (op2 gLtA (op2 gGet (eB 1) (eC (.int 0))) (op2 gGet (eB 1) (eC (.int 1)))) (eAnd (op2 (gEqA false) (op2 gGet (eB 1) (eC (.int 3))) (eC (.str "lane"))) (op2 (gEqA true) (op2 gGet (eB 1) (eC (.int 0))) (op2 gGet (eB 1) (eC (.int 1)))))))))
def d_fits_street : Fd := bodyD false 3 b_fits_street
def b_fits_town : Sd :=
  (sSeq (sIf (bOr (bNot (bE (callD 3 d_is_tuple_of (aC (eV 0) (aC (eC (.int 2)) (aC (eC (.int 2)) aN)))))) (bOr (bNot (bE (callD 3 d_is_whole (aC (op2 gGet (eB 0) (eC (.int 0))) (aC (eC (.int 2)) (aC (eC (.int 8)) aN)))))) (bNot (bE (callD 3 d_is_tuple_of (aC (op2 gGet (eB 0) (eC (.int 1))) (aC (eC (.int 1)) (aC (eC (.int 12)) aN))))))))
  (sRet (eC (.bl false)))
  sNext)
  (sSeq (sIf (bNot (bE (opN gAll (aC (eLc (iAny (op2 gGet (eB 0) (eC (.int 1)))) (pN 2) bYes (callD 2 d_fits_street (aC (op2 gGet (eB 0) (eC (.int 0))) (aC (eV 2) aN))) [2]) aN))))
  (sRet (eC (.bl false)))
  sNext)
  (sSeq (sSet 1 (eLc (iAny (op2 gGet (eB 0) (eC (.int 1)))) (pN 2) bYes (opN gTup (aC (opN gMin (aC (eSl (eB 2) oN (oS (eC (.int 2)))) aN)) (aC (opN gMax (aC (eSl (eB 2) oN (oS (eC (.int 2)))) aN)) aN))) [2]))
  (sRet (eAnd (op2 (gEqA false) (eLenSet (eB 1)) (opN gLen (aC (eB 1) aN))) (opN gAll (aC (eLc (iZpX (op2 gGet (eB 0) (eC (.int 1))) (eSl (op2 gGet (eB 0) (eC (.int 1))) (oS (eC (.int 1))) oN)) (pT (pCons (pN 3) (pCons (pN 4) pNil))) bYes (op2 gLtA (eB 3) (eB 4)) [3, 4]) aN)))))))
def d_fits_town : Fd := bodyD false 5 b_fits_town
def b_is_town : Sd :=
  (sRet (callD 1 d_fits_town (aC (eV 0) aN)))
def d_is_town : Fd := bodyD false 1 b_is_town
def b__law_same (df : Fd) : Sd :=
  (sSeq (sIf (bE (op1 (gIsi "tuple") (eB 1)))
  (sSeq (sIf (bOr (bNot (bE (op1 (gIsi "tuple") (eB 0)))) (bE (op2 (gEqA true) (opN gLen (aC (eB 0) aN)) (opN gLen (aC (eB 1) aN)))))
  (sRet (eC (.bl false)))
  sNext)
  (sRet (opN gAll (aC (eLc (iRg1 (opN gLen (aC (eB 1) aN))) (pN 2) bYes (callD 2 (df) (aC (op2 gGet (eB 0) (eB 2)) (aC (op2 gGet (eB 1) (eB 2)) aN))) [2]) aN))))
  sNext)
  (sSeq (sIf (bE (op2 (gIsN false) (eB 1) (eC .non)))
  (sRet (op2 (gIsN false) (eB 0) (eC .non)))
  sNext)
  (sSeq (sIf (bE (op1 (gIsi "bool") (eB 1)))
  (sRet (eIf (bE (eV 1)) (op2 (gIsB false) (eB 0) (eC (.bl true))) (op2 (gIsB false) (eB 0) (eC (.bl false)))))
  sNext)
  (sSeq (sIf (bE (op1 (gIsi "int") (eB 1)))
  (sRet (eAnd (op1 (gIsi "int") (eB 0)) (eAnd (eNot (op1 (gIsi "bool") (eB 0))) (op2 (gEqA false) (opN gInt (aC (eB 0) aN)) (eB 1)))))
  sNext)
  (sRet (eAnd (op1 (gIsi "str") (eB 0)) (op2 (gEqA false) (opN gStr (aC (eB 0) aN)) (eB 1))))))))
def f__law_same : Nat → Fd
  | 0 => fun _ _ => .stuck
  | k + 1 => bodyD false 3 (b__law_same (f__law_same k))
abbrev d__law_same : Fd := f__law_same 7
def b_need_town : Sd :=
  (sIf (bNot (bE (callD 1 d_fits_town (aC (eV 0) aN))))
  (sRaise "InvalidTown")
  sNext)
def d_need_town : Fd := bodyD false 1 b_need_town
def b_need_corner : Sd :=
  (sIf (bNot (bE (callD 3 d_is_whole (aC (eV 1) (aC (eC (.int 0)) (aC (op2 gSub (op2 gGet (eB 0) (eC (.int 0))) (eC (.int 1))) aN))))))
  (sRaise "InvalidCorner")
  sNext)
def d_need_corner : Fd := bodyD false 2 b_need_corner
def b_need_at : Sd :=
  (sSeq (sExpr (callD 1 d_need_town (aC (eV 0) aN)))
  (sExpr (callD 2 d_need_corner (aC (eV 0) (aC (eV 1) aN)))))
def d_need_at : Fd := bodyD false 2 b_need_at
def b_steps_in : Sd :=
  (sSeq (sOwn 1 (eC (.dT [])))
  (sSeq (sFor (iEn (op2 gGet (eB 0) (eC (.int 1)))) (pT (pCons (pN 2) (pCons (pT (pCons (pN 3) (pCons (pN 4) (pCons (pN 5) (pCons (pN 6) pNil))))) pNil)))
  (sSeq (sPut 1 (opN gTup (aC (eV 3) (aC (eV 4) aN))) (eV 2))
  (sIf (bE (op2 (gEqA true) (eB 6) (eC (.str "lane"))))
  (sPut 1 (opN gTup (aC (eV 4) (aC (eV 3) aN))) (eV 2))
  sNext)))
  (sSeq (sFrz 1) (sRet (eV 1)))))
def d_steps_in : Fd := bodyD false 7 b_steps_in
def b_nexts_in : Sd :=
  (sSeq (sSet 2 (callD 1 d_steps_in (aC (eV 0) aN)))
  (sRet (opN gSort (aC (eLc (iAny (eV 2)) (pT (pCons (pN 3) (pCons (pN 4) pNil))) (bE (op2 (gEqA false) (eB 3) (eB 1))) (opN gTup (aC (eV 4) (aC (op2 gGet (op2 gGet (op2 gGet (eB 0) (eC (.int 1))) (op2 gGet (eB 2) (opN gTup (aC (eV 3) (aC (eV 4) aN))))) (eC (.int 2))) aN))) [3, 4]) aN))))
def d_nexts_in : Fd := bodyD false 5 b_nexts_in
def b_steps_from : Sd :=
  (sSeq (sExpr (callD 2 d_need_at (aC (eV 0) (aC (eV 1) aN))))
  (sRet (opN gTupleOf (aC (callD 2 d_nexts_in (aC (eV 0) (aC (eV 1) aN))) aN))))
def d_steps_from : Fd := bodyD false 2 b_steps_from
def b__law_step : Sd :=
  (sSeq (sFor (iRg1 (opN gLen (aC (op2 gGet (eB 0) (eC (.int 1))) aN))) (pN 3)
  (sSeq (sSet 4 (op2 gGet (op2 gGet (eB 0) (eC (.int 1))) (eB 3)))
  (sIf (bOr (bE (op2 (gEqA false) (eSl (eB 4) oN (oS (eC (.int 2)))) (opN gTup (aC (eV 1) (aC (eV 2) aN))))) (bAnd (bE (op2 (gEqA false) (eSl (eB 4) oN (oS (eC (.int 2)))) (opN gTup (aC (eV 2) (aC (eV 1) aN))))) (bE (op2 (gEqA true) (op2 gGet (eB 4) (eC (.int 3))) (eC (.str "lane"))))))
  (sRet (eV 3))
  sNext)))
  (sRet (eC .non)))
def d__law_step : Fd := bodyD false 5 b__law_step
def b__law_next : Sd :=
  (sRet (eLc (iRg1 (op2 gGet (eB 0) (eC (.int 0)))) (pN 2) (bAnd (bE (op2 (gEqA true) (eB 2) (eB 1))) (bE (op2 (gIsN true) (callD 3 d__law_step (aC (eV 0) (aC (eV 1) (aC (eV 2) aN)))) (eC .non)))) (eV 2) [2]))
def d__law_next : Fd := bodyD false 3 b__law_next
def b__law_tasks : Sd :=
  (sSeq (sSet 1 (opN gLst aN))
  (sSeq (sFor (iRg1 (opN gLen (aC (op2 gGet (eB 0) (eC (.int 1))) aN))) (pN 2)
  (sSeq (sSet 3 (op2 gGet (op2 gGet (op2 gGet (eB 0) (eC (.int 1))) (eB 2)) (eC (.int 3))))
  (sSet 1 (op2 gAdd (eB 1) (eIf (bE (op2 (gEqA false) (eB 3) (eC (.str "lane")))) (opN gLst (aC (opN gTup (aC (eV 2) (aC (eC (.int 1)) aN))) aN)) (eIf (bE (op2 (gEqA false) (eB 3) (eC (.str "narrow")))) (opN gLst (aC (opN gTup (aC (eV 2) (aC (eC (.int 0)) aN))) aN)) (opN gLst (aC (opN gTup (aC (eV 2) (aC (op1 gNeg (eC (.int 1))) aN))) (aC (opN gTup (aC (eV 2) (aC (eC (.int 1)) aN))) aN)))))))))
  (sRet (eV 1))))
def d__law_tasks : Fd := bodyD false 4 b__law_tasks
def b_fits_drive : Sd :=
  (sSeq (sIf (bOr (bNot (bE (callD 3 d_is_tuple_of (aC (eV 1) (aC (eC (.int 1)) (aC (eC (.int 400)) aN)))))) (bNot (bE (opN gAll (aC (eLc (iAny (eV 1)) (pN 4) bYes (callD 3 d_is_whole (aC (eV 4) (aC (eC (.int 0)) (aC (op2 gSub (op2 gGet (eB 0) (eC (.int 0))) (eC (.int 1))) aN)))) [4]) aN)))))
  (sRet (eC (.bl false)))
  sNext)
  (sSeq (sSet 2 (callD 1 d_steps_in (aC (eV 0) aN)))
  (sRet (opN gAll (aC (eLc (iZpX (eB 1) (eSl (eB 1) (oS (eC (.int 1))) oN)) (pN 3) bYes (op2 (gInA false) (eB 3) (eB 2)) [3]) aN)))))
def d_fits_drive : Fd := bodyD false 5 b_fits_drive
def b_is_drive : Sd :=
  (sSeq (sExpr (callD 1 d_need_town (aC (eV 0) aN)))
  (sRet (callD 2 d_fits_drive (aC (eV 0) (aC (eV 1) aN)))))
def d_is_drive : Fd := bodyD false 2 b_is_drive
def b_need_drive : Sd :=
  (sSeq (sExpr (callD 1 d_need_town (aC (eV 0) aN)))
  (sIf (bNot (bE (callD 2 d_fits_drive (aC (eV 0) (aC (eV 1) aN)))))
  (sRaise "InvalidDrive")
  sNext))
def d_need_drive : Fd := bodyD false 2 b_need_drive
def b_length_in : Sd :=
  (sSeq (sSet 2 (callD 1 d_steps_in (aC (eV 0) aN)))
  (sRet (opN gSum (aC (eLc (iZpX (eB 1) (eSl (eB 1) (oS (eC (.int 1))) oN)) (pN 3) bYes (op2 gGet (op2 gGet (op2 gGet (eB 0) (eC (.int 1))) (op2 gGet (eB 2) (eB 3))) (eC (.int 2))) [3]) aN))))
def d_length_in : Fd := bodyD false 4 b_length_in
def b_length_of : Sd :=
  (sSeq (sExpr (callD 2 d_need_drive (aC (eV 0) (aC (eV 1) aN))))
  (sRet (callD 2 d_length_in (aC (eV 0) (aC (eV 1) aN)))))
def d_length_of : Fd := bodyD false 2 b_length_of
def b_task_of : Sd :=
  (sSeq (sSet 3 (op2 gGet (eB 1) (eB 2)))
  (sSeq (sIf (bE (op2 (gEqA false) (op2 gGet (op2 gGet (op2 gGet (eB 0) (eC (.int 1))) (eB 3)) (eC (.int 3))) (eC (.str "narrow"))))
  (sRet (opN gTup (aC (eV 3) (aC (eC (.int 0)) aN))))
  sNext)
  (sRet (opN gTup (aC (eV 3) (aC (eIf (bE (op2 (gEqA false) (op2 gGet (eB 2) (eC (.int 0))) (op2 gGet (op2 gGet (op2 gGet (eB 0) (eC (.int 1))) (eB 3)) (eC (.int 0))))) (eC (.int 1)) (op1 gNeg (eC (.int 1)))) aN))))))
def d_task_of : Fd := bodyD false 4 b_task_of
def b_done_in : Sd :=
  (sSeq (sPar2 2 3 false true (callD 1 d_steps_in (aC (eV 0) aN)) (eC (.dT [])))
  (sSeq (sFor (iZpX (eV 1) (eSl (eB 1) (oS (eC (.int 1))) oN)) (pN 4)
  (sSeq (sSet 5 (callD 3 d_task_of (aC (eV 0) (aC (eV 2) (aC (eV 4) aN)))))
  (sPut 3 (eB 5) (op2 gAdd (eGet2 (eB 3) (eV 5) (eC (.int 0))) (eC (.int 1))))))
  (sRetF (eOwn 3))))
def d_done_in : Fd := bodyD true 6 b_done_in
def b_done_by : Sd :=
  (sSeq (sExpr (callD 2 d_need_drive (aC (eV 0) (aC (eV 1) aN))))
  (sRet (opN gTupleOf (aC (op1 gSortI (callD 2 d_done_in (aC (eV 0) (aC (eV 1) aN)))) aN))))
def d_done_by : Fd := bodyD false 2 b_done_by
def b__law_done : Sd :=
  (sSeq (sOwn 2 (eC (.dT [])))
  (sSeq (sFor (iZpX (eV 1) (eSl (eB 1) (oS (eC (.int 1))) oN)) (pT (pCons (pN 3) (pCons (pN 4) pNil)))
  (sSeq (sSet 5 (callD 3 d__law_step (aC (eV 0) (aC (eV 3) (aC (eV 4) aN)))))
  (sSeq (sSet 6 (opN gTup (aC (eV 5) (aC (eIf (bE (op2 (gEqA false) (op2 gGet (op2 gGet (op2 gGet (eB 0) (eC (.int 1))) (eB 5)) (eC (.int 3))) (eC (.str "narrow")))) (eC (.int 0)) (eIf (bE (op2 (gEqA false) (op2 gGet (op2 gGet (op2 gGet (eB 0) (eC (.int 1))) (eB 5)) (eC (.int 0))) (eB 3))) (eC (.int 1)) (op1 gNeg (eC (.int 1))))) aN))))
  (sPut 2 (eB 6) (op2 gAdd (eGet2 (eB 2) (eV 6) (eC (.int 0))) (eC (.int 1)))))))
  (sSeq (sFrz 2) (sRet (eV 2)))))
def d__law_done : Fd := bodyD false 7 b__law_done
def b_tasks_in : Sd :=
  (sSeq (sOwn 1 (opN gLst aN))
  (sSeq (sFor (iEn (op2 gGet (eB 0) (eC (.int 1)))) (pT (pCons (pN 2) (pCons (pN 3) pNil)))
  (sExt 1 (op2 gGet (eDisp (pC0 (eC (.str "lane")) (opN gLst (aC (opN gTup (aC (eV 2) (aC (eC (.int 1)) aN))) aN)) (pC0 (eC (.str "narrow")) (opN gLst (aC (opN gTup (aC (eV 2) (aC (eC (.int 0)) aN))) aN)) (pC0 (eC (.str "wide")) (opN gLst (aC (opN gTup (aC (eV 2) (aC (op1 gNeg (eC (.int 1))) aN))) (aC (opN gTup (aC (eV 2) (aC (eC (.int 1)) aN))) aN))) pN0)))) (op2 gGet (eB 3) (eC (.int 3))))))
  (sSeq (sFrz 1) (sRet (eV 1)))))
def d_tasks_in : Fd := bodyD false 4 b_tasks_in
def b_tasks : Sd :=
  (sSeq (sExpr (callD 1 d_need_town (aC (eV 0) aN)))
  (sRet (opN gTupleOf (aC (callD 1 d_tasks_in (aC (eV 0) aN)) aN))))
def d_tasks : Fd := bodyD false 1 b_tasks
def b_duty : Sd :=
  (sSeq (sExpr (callD 1 d_need_town (aC (eV 0) aN)))
  (sRet (opN gSum (aC (eLc (iAny (callD 1 d_tasks_in (aC (eV 0) aN))) (pT (pCons (pN 1) (pCons (pN 2) pNil))) bYes (op2 gGet (op2 gGet (op2 gGet (eB 0) (eC (.int 1))) (eB 1)) (eC (.int 2))) [1, 2]) aN))))
def d_duty : Fd := bodyD false 3 b_duty
def b__law_length : Sd :=
  (sRet (opN gSum (aC (eLc (iZpX (eB 1) (eSl (eB 1) (oS (eC (.int 1))) oN)) (pT (pCons (pN 2) (pCons (pN 3) pNil))) bYes (op2 gGet (op2 gGet (op2 gGet (eB 0) (eC (.int 1))) (callD 3 d__law_step (aC (eV 0) (aC (eV 2) (aC (eV 3) aN))))) (eC (.int 2))) [2, 3]) aN)))
def d__law_length : Fd := bodyD false 4 b__law_length
def b_left_by : Sd :=
  (sSeq (sExpr (callD 2 d_need_drive (aC (eV 0) (aC (eV 1) aN))))
  (sSeq (sSet 2 (callD 2 d_done_in (aC (eV 0) (aC (eV 1) aN))))
  (sRet (opN gTupleOf (aC (eLc (iAny (callD 1 d_tasks_in (aC (eV 0) aN))) (pN 3) (bE (op2 (gInA true) (eB 3) (eB 2))) (eV 3) [3]) aN)))))
def d_left_by : Fd := bodyD false 4 b_left_by
def b__law_far : Sd :=
  (sSeq (sOwn 2 (eDisp (pC0 (eV 1) (eC (.int 0)) pN0)))
  (sSeq (sFor (iRg1 (op2 gGet (eB 0) (eC (.int 0)))) (pN 3)
  (sFor (iRg1 (op2 gGet (eB 0) (eC (.int 0)))) (pN 4)
  (sFor (iAny (eIf (bE (op2 (gInA false) (eB 4) (eB 2))) (callD 2 d__law_next (aC (eV 0) (aC (eV 4) aN))) (opN gLst aN))) (pN 5)
  (sSeq (sSet 6 (op2 gAdd (op2 gGet (eB 2) (eB 4)) (op2 gGet (op2 gGet (op2 gGet (eB 0) (eC (.int 1))) (callD 3 d__law_step (aC (eV 0) (aC (eV 4) (aC (eV 5) aN))))) (eC (.int 2)))))
  (sPut 2 (eB 5) (opN gMin2 (aC (eB 6) (aC (eGet2 (eB 2) (eV 5) (eV 6)) aN))))))))
  (sSeq (sFrz 2) (sRet (eV 2)))))
def d__law_far : Fd := bodyD false 7 b__law_far
def b_far_in : Sd :=
  (sSeq (sPar2 2 3 true true (eC (.dK [])) (eDisp (pC0 (eV 1) (eC (.int 0)) pN0)))
  (sSeq (whileD (bE (op2 (gEqA true) (eB 3) (eC (.dK []))))
  (sSeq (sSet 4 (op2 gGet (opN gMin (aC (eDp 3 7) aN)) (eC (.int 1))))
  (sSeq (sPutPop 2 3 (eB 4) (eB 4))
  (sFor (iAny (callD 2 d_nexts_in (aC (eV 0) (aC (eV 4) aN)))) (pT (pCons (pN 5) (pCons (pN 6) pNil)))
  (sIf (bE (op2 (gInA true) (eB 5) (eB 2)))
  (sPut 3 (eB 5) (opN gMin2 (aC (op2 gAdd (op2 gGet (eB 2) (eB 4)) (eB 6)) (aC (eGet2 (eB 3) (eV 5) (op2 gAdd (op2 gGet (eB 2) (eB 4)) (eB 6))) aN))))
  sNext)))) 2000)
  (sSeq (sFrz 2) (sRet (eV 2)))))
def d_far_in : Fd := bodyD false 8 b_far_in
def b_distance : Sd :=
  (sSeq (sExpr (callD 2 d_need_at (aC (eV 0) (aC (eV 1) aN))))
  (sSeq (sExpr (callD 2 d_need_corner (aC (eV 0) (aC (eV 2) aN))))
  (sRet (eGet1 (callD 2 d_far_in (aC (eV 0) (aC (eV 1) aN))) (eV 2)))))
def d_distance : Fd := bodyD false 3 b_distance
def b_shortest_drive : Sd :=
  (sSeq (sExpr (callD 2 d_need_at (aC (eV 0) (aC (eV 1) aN))))
  (sSeq (sExpr (callD 2 d_need_corner (aC (eV 0) (aC (eV 2) aN))))
  (sSeq (sIf (bE (op2 (gInA true) (eB 2) (callD 2 d_far_in (aC (eV 0) (aC (eV 1) aN)))))
  (sRet (eC .non))
  sNext)
  (sSeq (sSet 3 (opN gTup (aC (eV 1) aN)))
  (sSeq (whileD (bE (op2 (gEqA true) (op2 gGet (eB 3) (op1 gNeg (eC (.int 1)))) (eB 2)))
  (sSeq (sAsg (opN gTup (aC (op2 gGet (eB 3) (op1 gNeg (eC (.int 1)))) (aC (op2 gGet (callD 2 d_far_in (aC (eV 0) (aC (op2 gGet (eB 3) (op1 gNeg (eC (.int 1)))) aN))) (eB 2)) aN))) (pT (pCons (pN 4) (pCons (pN 5) pNil))))
  (sSeq (sSet 6 (eLc (iAny (callD 2 d_nexts_in (aC (eV 0) (aC (eV 4) aN)))) (pT (pCons (pN 7) (pCons (pN 8) pNil))) bYes (opN gTup (aC (eV 7) (aC (eGet1 (callD 2 d_far_in (aC (eV 0) (aC (eV 7) aN))) (eV 2)) (aC (eV 8) aN)))) [7, 8]))
  (sAug 3 gIAddT (opN gTup (aC (op2 gGet (eLc (iAny (eV 6)) (pT (pCons (pN 7) (pCons (pN 9) (pCons (pN 8) pNil)))) (bAnd (bE (op2 (gIsN true) (eB 9) (eC .non))) (bE (op2 (gEqA false) (op2 gAdd (eB 9) (eB 8)) (eB 5)))) (eV 7) [7, 9, 8]) (eC (.int 0))) aN))))) 2000)
  (sRet (eV 3)))))))
def d_shortest_drive : Fd := bodyD false 10 b_shortest_drive
variable [Roll]
def b__law_some : Sd :=
  (sRet (op2 gGet (eB 1) (callD 2 d__law_roll (aC (eV 0) (aC (opN gLen (aC (eB 1) aN)) aN)))))
def d__law_some : Fd := bodyD false 2 b__law_some
def b__law_town : Sd :=
  (sSeq (sPar2 3 4 false true (op2 gAdd (eC (.int 2)) (callD 2 d__law_roll (aC (eV 0) (aC (op2 gSub (eB 1) (eC (.int 1))) aN)))) (eC (.dT [])))
  (sSeq (sFor (iRg2 (eC (.int 1)) (eV 3)) (pN 5)
  (sIf (bE (op2 gGtA (callD 2 d__law_roll (aC (eV 0) (aC (eC (.int 9)) aN))) (eC (.int 0))))
  (sPut 4 (opN gTup (aC (callD 2 d__law_roll (aC (eV 0) (aC (eV 5) aN))) (aC (eV 5) aN))) (op2 gAdd (eC (.int 1)) (callD 2 d__law_roll (aC (eV 0) (aC (callD 2 d__law_some (aC (eV 0) (aC (opN gLst (aC (eC (.int 3)) (aC (eC (.int 9)) aN))) aN))) aN)))))
  sNext))
  (sSeq (sFor (iRg1 (callD 2 d__law_roll (aC (eV 0) (aC (eC (.int 6)) aN)))) (pN 6)
  (sSeq (sPar2 7 8 false false (callD 2 d__law_roll (aC (eV 0) (aC (eV 3) aN))) (callD 2 d__law_roll (aC (eV 0) (aC (eV 3) aN))))
  (sIf (bAnd (bE (op2 gLtA (eB 7) (eB 8))) (bE (op2 gLtA (opN gLen (aC (eB 4) aN)) (eC (.int 12)))))
  (sPut 4 (opN gTup (aC (eV 7) (aC (eV 8) aN))) (op2 gAdd (eC (.int 1)) (callD 2 d__law_roll (aC (eV 0) (aC (eC (.int 9)) aN)))))
  sNext)))
  (sSeq (sIf (bE (op2 (gEqA false) (eB 4) (eC (.dK []))))
  (sPut 4 (opN gTup (aC (eC (.int 0)) (aC (eC (.int 1)) aN))) (op2 gAdd (eC (.int 1)) (callD 2 d__law_roll (aC (eV 0) (aC (eC (.int 9)) aN)))))
  sNext)
  (sSeq (sOwn 9 (opN gLst aN))
  (sSeq (sFor (iAny (opN gSort (aC (eB 4) aN))) (pN 10)
  (sSeq (sSet 11 (callD 2 d__law_some (aC (eV 0) (aC (eV 2) aN))))
  (sSeq (sSet 12 (eIf (bAnd (bE (op2 (gEqA false) (eB 11) (eC (.str "lane")))) (bE (op2 (gEqA false) (callD 2 d__law_roll (aC (eV 0) (aC (eC (.int 2)) aN))) (eC (.int 0))))) (eRv (eB 10) oN) (eV 10)))
  (sMeth 9 metA (aC (op2 gAdd (eB 12) (opN gTup (aC (op2 gGet (eB 4) (eB 10)) (aC (eV 11) aN)))) aN) fun _ r m => .nx r m))))
  (sRet (opN gTup (aC (eV 3) (aC (opN gTupleOf (aC (opN gSort (aC (eB 9) aN)) aN)) aN))))))))))
def d__law_town : Fd := bodyD false 13 b__law_town
end T
end
section
set_option Elab.async false
set_option linter.all false
set_option maxRecDepth 100000
namespace Q
open PySem L2
variable {m : Sto} {i : Int} {s : Str} {xs : List D} {b : Bool}
@[simp] theorem isi_int_int : gIsi "int" m (.int i) = some (.bl true) := by rfl
@[simp] theorem isi_int_str : gIsi "int" m (.str s) = some (.bl false) := by rfl
@[simp] theorem isi_int_bl : gIsi "int" m (.bl b) = some (.bl true) := by rfl
@[simp] theorem isi_int_tup : gIsi "int" m (.tup xs) = some (.bl false) := by rfl
@[simp] theorem isi_int_non : gIsi "int" m .non = some (.bl false) := by rfl
theorem forD_inv {p : Pat} {b : Sd} (I : Nat → Env → Sto → Prop) : ∀ (ds : List D) (k : Nat) (r : Env) (m : Sto), (∀ i d r m, ds[i]? = some d → I (k + i) r m → ∃ r', p d r = some r' ∧ ∃ r2 m2, (b r' m = .nx r2 m2 ∨ b r' m = .ct r2 m2) ∧ I (k + i + 1) r2 m2) → I k r m → ∃ r' m', forD p b ds r m = .nx r' m' ∧ I (k + ds.length) r' m'
  | [], k, r, m, _, h => ⟨r, m, rfl, h⟩
  | d :: ds, k, r, m, hs, h => by
    obtain ⟨r', h1, r2, m2, h2, h3⟩ := hs 0 d r m rfl h
    obtain ⟨r3, m3, h4, h5⟩ := forD_inv I ds (k + 1) r2 m2 (fun i d r m hd hi => by
      have := hs (i + 1) d r m (by simpa using hd) (by rw [show k + (i + 1) = k + 1 + i by omega]; exact hi)
      rw [show k + (i + 1) + 1 = k + 1 + i + 1 by omega] at this
      exact this) h3
    refine ⟨r3, m3, ?_, by rw [List.length_cons, show k + (ds.length + 1) = k + 1 + ds.length by omega]; exact h5⟩
    unfold forD
    rw [h1]
    rcases h2 with h2 | h2 <;> (simp only [h2]; exact h4)
theorem lcD_pure {p : Pat} {t : Bd} {f : Ed} {r : Env} {m : Sto} (c : D → Bool) (g : D → D) : ∀ ds : List D, (∀ d ∈ ds, ∃ r', p d r = some r' ∧ t r' m = .ok (c d) m ∧ (c d = true → f r' m = .ok (g d) m)) → lcD p t f r ds m = .ok ((ds.filter c).map g) m
  | [], _ => rfl
  | d :: ds, h => by
    obtain ⟨r', h1, h2, h3⟩ := h d (by simp)
    have ih := lcD_pure c g ds fun d hd => h d (by simp [hd])
    unfold lcD
    simp only [h1, h2, Res.bindS]
    cases hc : c d with
    | true => simp [hc, h3 hc, Res.bindS, ih]
    | false => simp [hc, ih]
end Q
namespace Q
open PySem L2
section
variable {m : Sto} {i : Int} {s : Str} {xs : List D} {b : Bool}
@[simp] theorem isi_int_lst : gIsi "int" m (.lst xs) = some (.bl false) := by rfl
@[simp] theorem isi_bool_int : gIsi "bool" m (.int i) = some (.bl false) := by rfl
@[simp] theorem isi_bool_bl : gIsi "bool" m (.bl b) = some (.bl true) := by rfl
@[simp] theorem isi_bool_str : gIsi "bool" m (.str s) = some (.bl false) := by rfl
@[simp] theorem isi_str_str : gIsi "str" m (.str s) = some (.bl true) := by rfl
@[simp] theorem isi_str_int : gIsi "str" m (.int i) = some (.bl false) := by rfl
@[simp] theorem isi_str_non : gIsi "str" m .non = some (.bl false) := by rfl
@[simp] theorem isi_tup_tup : gIsi "tuple" m (.tup xs) = some (.bl true) := by rfl
@[simp] theorem isi_tup_lst : gIsi "tuple" m (.lst xs) = some (.bl false) := by rfl
@[simp] theorem isi_tup_int : gIsi "tuple" m (.int i) = some (.bl false) := by rfl
@[simp] theorem isi_tup_str : gIsi "tuple" m (.str s) = some (.bl false) := by rfl
@[simp] theorem isi_tup_non : gIsi "tuple" m .non = some (.bl false) := by rfl
/-- a chain of ints -/
theorem ch3_d {q' : Sto → D → D → Option D} {c : Prop} [Decidable c] {y : D} {h : Ed} {r : Env} : ch3 q' (some (.bl (decide c))) y h r m = if c then o2' q' y (h r m) else .ok (.bl false) m := by by_cases z : c <;> simp [z]
end
end Q
namespace T
open PySem L2 Q
variable {m : Sto}
theorem whole_i (v a b : Int) : d_is_whole [.int v, .int a, .int b] m = .ok (.bl (decide (a ≤ v) && decide (v ≤ b))) m := by
  simp [d_is_whole, b_is_whole, ch3_d]
  by_cases h : a ≤ v <;> simp [h]
theorem whole_bl (v : Bool) (a b : Int) : d_is_whole [.bl v, .int a, .int b] m = .ok (.bl false) m := by simp [d_is_whole, b_is_whole]
theorem whole_non (a b : Int) : d_is_whole [.non, .int a, .int b] m = .ok (.bl false) m := by simp [d_is_whole, b_is_whole]
theorem tof_t (xs : List D) (a b : Int) : d_is_tuple_of [.tup xs, .int a, .int b] m = .ok (.bl (decide (a ≤ (xs.length : Int)) && decide ((xs.length : Int) ≤ b))) m := by
  simp [d_is_tuple_of, b_is_tuple_of, ch3_d]
  by_cases h : a ≤ (xs.length : Int) <;> simp [h]
theorem tof_l (xs : List D) (a b : Int) : d_is_tuple_of [.lst xs, .int a, .int b] m = .ok (.bl false) m := by simp [d_is_tuple_of, b_is_tuple_of]
theorem tof_i (i : Int) (a b : Int) : d_is_tuple_of [.int i, .int a, .int b] m = .ok (.bl false) m := by simp [d_is_tuple_of, b_is_tuple_of]
theorem tof_s (i : Str) (a b : Int) : d_is_tuple_of [.str i, .int a, .int b] m = .ok (.bl false) m := by simp [d_is_tuple_of, b_is_tuple_of]
theorem tof_n (a b : Int) : d_is_tuple_of [.non, .int a, .int b] m = .ok (.bl false) m := by simp [d_is_tuple_of, b_is_tuple_of]
end T
namespace Q
open PySem L2
section
variable {m : Sto} {i j : Int} {s t : Str} {xs ys : List D} {b : Bool}
theorem shaped_i : SeqAt.shaped (.int i) = true := by rfl
theorem shaped_n : SeqAt.shaped .none = true := by rfl
theorem shaped_b : SeqAt.shaped (.bool b) = true := by rfl
theorem deq_i : deq (.int i) (.int j) = some (decide (i = j)) := by
  unfold deq
  show (if (SeqAt.shaped (.int i) && SeqAt.shaped (.int j)) = true then some (PyData.eqv (.int i) (.int j)) else none) = _
  rw [shaped_i, shaped_i]
  simp [PyData.eqv]
  by_cases h : i = j <;> simp [h]
theorem deq_s (hs : SeqAt.shaped (.str s) = true) (ht : SeqAt.shaped (.str t) = true) : deq (.str s) (.str t) = some (decide (s = t)) := by
  unfold deq
  show (if (SeqAt.shaped (.str s) && SeqAt.shaped (.str t)) = true then some (PyData.eqv (.str s) (.str t)) else none) = _
  rw [hs, ht]
  simp [PyData.eqv]
  by_cases h : s = t <;> simp [h]
@[simp] theorem gEq_i : gEqA false m (.int i) (.int j) = some (.bl (decide (i = j))) := by
  show (deq (.int i) (.int j)).map D.bl = _
  rw [deq_i]; rfl
@[simp] theorem gNe_i : gEqA true m (.int i) (.int j) = some (.bl (!decide (i = j))) := by
  show (deq (.int i) (.int j)).map (fun c => D.bl (!c)) = _
  rw [deq_i]; rfl
theorem gEq_s (hs : SeqAt.shaped (.str s) = true) (ht : SeqAt.shaped (.str t) = true) : gEqA false m (.str s) (.str t) = some (.bl (decide (s = t))) := by
  show (deq (.str s) (.str t)).map D.bl = _
  rw [deq_s hs ht]; rfl
theorem gNe_s (hs : SeqAt.shaped (.str s) = true) (ht : SeqAt.shaped (.str t) = true) : gEqA true m (.str s) (.str t) = some (.bl (!decide (s = t))) := by
  show (deq (.str s) (.str t)).map (fun c => D.bl (!c)) = _
  rw [deq_s hs ht]; rfl
theorem gSl_hi (k : Nat) : gSl (.tup xs) none (some (k : Int)) = some (.tup (xs.take k)) := by
  show some (D.tup (cutD xs none (some (k : Int)))) = _
  unfold cutD
  rw [HT.sIx_none, HT.sIx_nat, List.drop_zero, Nat.sub_zero, ← List.take_take, List.take_length]
theorem gSl_lo (k : Nat) : gSl (.tup xs) (some (k : Int)) none = some (.tup (xs.drop k)) := by
  show some (D.tup (cutD xs (some (k : Int)) none)) = _
  unfold cutD
  rw [HT.sIx_none, HT.sIx_nat]
  congr 2
  rw [List.take_of_length_le (by simp)]
  by_cases h : k ≤ xs.length
  · rw [Nat.min_eq_left h]
  · rw [Nat.min_eq_right (by omega), List.drop_length, List.drop_of_length_le (by omega)]
@[simp] theorem gSl_2 {a b : D} : gSl (.tup (a :: b :: xs)) none (some 2) = some (.tup [a, b]) := gSl_hi 2
@[simp] theorem gSl_1 : gSl (.tup xs) (some 1) none = some (.tup (xs.drop 1)) := gSl_lo 1
theorem gAll_l {bs : List Bool} : gAll m [.lst (bs.map D.bl)] = some (.bl (bs.all id)) := by
  have h : blsOf (bs.map D.bl) = some bs := by
    induction bs with
    | nil => rfl
    | cons b bs ih => simp [blsOf, ih]
  show (blsOf (bs.map D.bl)).map _ = _
  rw [h]; rfl
@[simp] theorem gAll_2 {a b : Bool} : gAll m [.lst [.bl a, .bl b]] = some (.bl (a && b)) := by
  have := gAll_l (m := m) (bs := [a, b])
  simpa using this
theorem lane_s : SeqAt.shaped (.str ("lane" : Str)) = true := by decide +kernel
theorem narrow_s : SeqAt.shaped (.str ("narrow" : Str)) = true := by decide +kernel
theorem wide_s : SeqAt.shaped (.str ("wide" : Str)) = true := by decide +kernel
end
end Q
namespace T
open PySem L2 Q
variable {m : Sto}
def kinds : List Str := ["lane", "narrow", "wide"]
theorem kind_s {k : Str} (h : k ∈ kinds) : SeqAt.shaped (.str k) = true := by
  simp [kinds] at h
  rcases h with rfl | rfl | rfl
  · exact lane_s
  · exact narrow_s
  · exact wide_s
theorem kind_in {k : Str} (h : k ∈ kinds) : gInA true m (.str k) (.ktup k_KINDS) = some (.bl false) := by
  have e : ∀ k ∈ kinds, inD (.str k) k_KINDS = some true := by
    intro k h
    simp [kinds] at h
    rcases h with rfl | rfl | rfl <;> decide +kernel
  show (inD (.str k) k_KINDS).map (fun c => D.bl (if true = true then !c else c)) = _
  rw [e k h]; rfl
theorem street_ok (n x y l : Int) (k : Str) (hk : k ∈ kinds) : d_fits_street [.int n, .tup [.int x, .int y, .int l, .str k]] m = .ok (.bl (decide (0 ≤ x ∧ x < n ∧ 0 ≤ y ∧ y < n ∧ 1 ≤ l ∧ l ≤ 9 ∧ (x < y ∨ (k = "lane" ∧ x ≠ y))))) m := by
  have h1 : lcD (pN 2) bYes (callD 3 d_is_whole (aC (eV 2) (aC (eC (D.int 0)) (aC (op2 Q.gSub (eB 0) (eC (D.int 1))) aN)))) [Sl.dat (D.int n), Sl.dat (D.tup [D.int x, D.int y, D.int l, D.str k]), Sl.un] [.int x, .int y] m = .ok [.bl (decide (0 ≤ x) && decide (x ≤ n - 1)), .bl (decide (0 ≤ y) && decide (y ≤ n - 1))] m := by
    simp [lcD, pN, bYes, Res.bindS, whole_i]
  have w : ∀ v, wipeR [Sl.dat (D.int n), v, Sl.un] [2] = [Sl.dat (D.int n), v, Sl.un] := fun v => rfl
  have i1 : ∀ z : Int, (z ≤ n - 1) = (z < n) := fun z => propext ⟨fun h => by omega, fun h => by omega⟩
  simp only [i1] at h1
  by_cases e1 : 0 ≤ x ∧ x < n ∧ 0 ≤ y ∧ y < n
  · obtain ⟨a1, a2, a3, a4⟩ := e1
    by_cases e2 : 1 ≤ l ∧ l ≤ 9
    · obtain ⟨b1, b2⟩ := e2
      by_cases e3 : x < y
      · simp [d_fits_street, b_fits_street, tof_t, h1, w, whole_i, kind_in hk, gEq_s (kind_s hk) lane_s, a1, a2, a3, a4, b1, b2, e3]
      · by_cases e4 : k = ("lane" : Str)
        · subst e4
          simp [d_fits_street, b_fits_street, tof_t, h1, w, whole_i, kind_in hk, gEq_s (kind_s hk) lane_s, a1, a2, a3, a4, b1, b2, e3]
        · simp [d_fits_street, b_fits_street, tof_t, h1, w, whole_i, kind_in hk, gEq_s (kind_s hk) lane_s, a1, a2, a3, a4, b1, b2, e3, e4]
    · have e2' : (decide (1 ≤ l) && decide (l ≤ 9)) = false := by
        rw [← Bool.not_eq_true, Bool.and_eq_true, decide_eq_true_eq, decide_eq_true_eq]; exact e2
      have e3 : decide (0 ≤ x ∧ x < n ∧ 0 ≤ y ∧ y < n ∧ 1 ≤ l ∧ l ≤ 9 ∧ (x < y ∨ (k = "lane" ∧ x ≠ y))) = false := decide_eq_false fun z => e2 ⟨z.2.2.2.2.1, z.2.2.2.2.2.1⟩
      rw [e3]
      simp [d_fits_street, b_fits_street, tof_t, h1, w, whole_i, kind_in hk, gEq_s (kind_s hk) lane_s, a1, a2, a3, a4, e2']
  · have e2 : decide (0 ≤ x ∧ x < n ∧ 0 ≤ y ∧ y < n ∧ 1 ≤ l ∧ l ≤ 9 ∧ (x < y ∨ (k = "lane" ∧ x ≠ y))) = false := decide_eq_false fun z => e1 ⟨z.1, z.2.1, z.2.2.1, z.2.2.2.1⟩
    have e3 : (decide (0 ≤ x) && decide (x < n) && (decide (0 ≤ y) && decide (y < n))) = false := by
      rw [← Bool.not_eq_true]
      simp
      intro q1 q2 q3
      exact Int.not_lt.mp fun q4 => e1 ⟨q1, q2, q3, q4⟩
    rw [e2]
    simp only [d_fits_street, b_fits_street]
    simp [tof_t, h1, w, - Bool.and_eq_true, e3, -Bool.not_and]
end T
namespace Q
open PySem L2
section
variable {m : Sto} {a b : Int} {xs ys : List D}
theorem dedupL_nd : ∀ {l : List (List Int)}, l.Nodup → dedupL l = l
  | [], _ => rfl
  | x :: xs, h => by
    obtain ⟨h1, h2⟩ := List.nodup_cons.mp h
    unfold dedupL
    rw [if_neg h1, dedupL_nd h2]
theorem gMin_t2 : gMin m [.tup [.int a, .int b]] = some (.int (if b < a then b else a)) := by
  have e : D.pys [.int a, .int b] = some [.int a, .int b] := rfl
  show (match D.pys [.int a, .int b] with
    | some ps => if (alikeB ps && decide (PyData.depthAll ps ≤ 60)) = true then some (bestD (fun y a => W.dataLt y a) (.int a) [.int b]) else none
    | none => none) = _
  rw [e]
  show (if _ then some (if W.dataLt (.int b) (.int a) = true then D.int b else D.int a) else none) = _
  rw [if_pos (by rfl), W.dataLt_int]
  by_cases h : b < a <;> simp [h]
theorem gMax_t2 : gMax m [.tup [.int a, .int b]] = some (.int (if a < b then b else a)) := by
  have e : D.pys [.int a, .int b] = some [.int a, .int b] := rfl
  show (match D.pys [.int a, .int b] with
    | some ps => if (alikeB ps && decide (PyData.depthAll ps ≤ 60)) = true then some (bestD (fun y a => W.dataLt a y) (.int a) [.int b]) else none
    | none => none) = _
  rw [e]
  show (if _ then some (if W.dataLt (.int a) (.int b) = true then D.int b else D.int a) else none) = _
  rw [if_pos (by rfl), W.dataLt_int]
  by_cases h : a < b <;> simp [h]
theorem lenSet_ok {f : Ed} {r : Env} {ds : List D} {l : List (List Int)} {m' : Sto} (h : f r m' = .ok (.lst ds) m) (h2 : intsTs ds = some l) (h3 : l.length < 64) (h4 : l.Nodup) : eLenSet f r m' = .ok (.int (l.length : Nat)) m := by
  unfold eLenSet
  rw [h]
  simp only [Res.bind, dr_lst, h2]
  rw [if_pos h3]
  unfold countD
  rw [dedupL_nd h4]
theorem zip_next {ds : List D} {e : D} (h : e ∈ zipD ds (ds.drop 1)) : ∃ i x y, ds[i]? = some x ∧ ds[i + 1]? = some y ∧ e = .tup [x, y] := by
  unfold zipD at h
  obtain ⟨p, hp, rfl⟩ := List.mem_map.mp h
  obtain ⟨i, hi⟩ := List.mem_iff_getElem?.mp hp
  rw [List.getElem?_zip_eq_some] at hi
  obtain ⟨h1, h2⟩ := hi
  rw [List.getElem?_drop] at h2
  exact ⟨i, p.1, p.2, h1, by rw [Nat.add_comm]; exact h2, rfl⟩
theorem all_t {n : Nat} : gAll m [.lst (List.replicate n (.bl true))] = some (.bl true) := by
  have := gAll_l (m := m) (bs := List.replicate n true)
  rw [List.map_replicate] at this
  rw [this]
  simp
theorem map_const {α β : Type} (l : List α) (b : β) : l.map (fun _ => b) = List.replicate l.length b := by
  induction l with
  | nil => rfl
  | cons x xs ih => simp [ih, List.replicate_succ]
theorem filter_t {α : Type} (l : List α) : l.filter (fun _ => true) = l := by simp
end
end Q
namespace T
open PySem L2 Q
abbrev Stt := Int × Int × Int × Str
def sD (s : Stt) : D := .tup [.int s.1, .int s.2.1, .int s.2.2.1, .str s.2.2.2]
def sP (s : Stt) : PyData := .tuple [.int s.1, .int s.2.1, .int s.2.2.1, .str s.2.2.2]
def townD (n : Int) (ss : List Stt) : D := .tup [.int n, .tup (ss.map sD)]
def OkS (n : Int) (s : Stt) : Prop := s.2.2.2 ∈ kinds ∧ 0 ≤ s.1 ∧ s.1 < n ∧ 0 ≤ s.2.1 ∧ s.2.1 < n ∧ 1 ≤ s.2.2.1 ∧ s.2.2.1 ≤ 9 ∧ (s.1 < s.2.1 ∨ (s.2.2.2 = "lane" ∧ s.1 ≠ s.2.1))
def ends (s : Stt) : List Int := [if s.2.1 < s.1 then s.2.1 else s.1, if s.1 < s.2.1 then s.2.1 else s.1]
structure OkT (n : Int) (ss : List Stt) : Prop where
  n2 : 2 ≤ n
  n8 : n ≤ 8
  l1 : 1 ≤ ss.length
  l12 : ss.length ≤ 12
  ok : ∀ s ∈ ss, OkS n s
  nd : (ss.map ends).Nodup
  up : ∀ i a b, ss[i]? = some a → ss[i + 1]? = some b → W.dataLt (sP a) (sP b) = true
theorem sD_py (s : Stt) : (sD s).py = some (sP s) := rfl
theorem lt_s (m : Sto) (a b : Stt) : gLtA m (sD a) (sD b) = some (.bl (W.dataLt (sP a) (sP b))) := by
  show (cmpD W.dataLt (sD a) (sD b)).map D.bl = _
  unfold cmpD
  rw [sD_py, sD_py]
  show Option.map D.bl (if _ then some (W.dataLt (sP a) (sP b)) else none) = _
  rw [if_pos (by rfl)]; rfl
theorem ends_ints : ∀ ss : List Stt, intsTs (ss.map fun s => .tup ((ends s).map D.int)) = some (ss.map ends)
  | [] => rfl
  | s :: ss => by
    have ih := ends_ints ss
    unfold intsTs
    rw [List.map_cons]
    simp only [ih]
    rfl
theorem fits_ok {m : Sto} {n : Int} {ss : List Stt} (h : OkT n ss) : d_fits_town [townD n ss] m = .ok (.bl true) m := by
  have w : ∀ z : Sl, wipeR [Sl.dat (townD n ss), z, .un, .un, .un] [2] = [Sl.dat (townD n ss), z, .un, .un, .un] := fun z => rfl
  have w2 : ∀ z : Sl, wipeR [Sl.dat (townD n ss), z, .un, .un, .un] [3, 4] = [Sl.dat (townD n ss), z, .un, .un, .un] := fun z => rfl
  have c1 : lcD (pN 2) bYes (callD 2 d_fits_street (aC (op2 gGet (eB 0) (eC (.int 0))) (aC (eV 2) aN))) [Sl.dat (townD n ss), .un, .un, .un, .un] (ss.map sD) m = .ok (List.replicate ss.length (.bl true)) m := by
    rw [lcD_pure (fun _ => true) (fun _ => .bl true)]
    · rw [filter_t, map_const, List.length_map]
    · intro d hd
      obtain ⟨s, hs, rfl⟩ := List.mem_map.mp hd
      refine ⟨_, rfl, rfl, fun _ => ?_⟩
      obtain ⟨k, p1, p2, p3, p4, p5, p6, p7⟩ := h.ok s hs
      have := street_ok (m := m) n s.1 s.2.1 s.2.2.1 s.2.2.2 k
      rw [decide_eq_true ⟨p1, p2, p3, p4, p5, p6, p7⟩] at this
      simp [townD]
      exact this
  have c2 : lcD (pN 2) bYes (opN gTup (aC (opN gMin (aC (eSl (eB 2) oN (oS (eC (.int 2)))) aN)) (aC (opN gMax (aC (eSl (eB 2) oN (oS (eC (.int 2)))) aN)) aN))) [Sl.dat (townD n ss), .un, .un, .un, .un] (ss.map sD) m = .ok (ss.map fun s => .tup ((ends s).map D.int)) m := by
    rw [lcD_pure (fun _ => true) (fun d => match d with
      | .tup (.int a :: .int b :: _) => .tup [.int (if b < a then b else a), .int (if a < b then b else a)]
      | _ => .non)]
    · rw [filter_t, List.map_map]; rfl
    · intro d hd
      obtain ⟨s, hs, rfl⟩ := List.mem_map.mp hd
      refine ⟨_, rfl, rfl, fun _ => ?_⟩
      simp [sD, gMin_t2, gMax_t2, gTup_ok]
  have c3 : lcD (pT (pCons (pN 3) (pCons (pN 4) pNil))) bYes (op2 gLtA (eB 3) (eB 4)) [Sl.dat (townD n ss), .dat (.lst (ss.map fun s => .tup ((ends s).map D.int))), .un, .un, .un] (zipD (ss.map sD) ((ss.map sD).drop 1)) m = .ok (List.replicate (zipD (ss.map sD) ((ss.map sD).drop 1)).length (.bl true)) m := by
    rw [lcD_pure (fun _ => true) (fun _ => .bl true)]
    · rw [filter_t, map_const]
    · intro d hd
      obtain ⟨i, x, y, hx, hy, rfl⟩ := zip_next hd
      rw [List.getElem?_map] at hx hy
      obtain ⟨a, ha, rfl⟩ := Option.map_eq_some_iff.mp hx
      obtain ⟨b, hb, rfl⟩ := Option.map_eq_some_iff.mp hy
      refine ⟨_, rfl, rfl, fun _ => ?_⟩
      simp [lt_s, h.up i a b ha hb, -gOA_i]
  have e1 := ends_ints ss
  have hl := h.l1
  have hl2 := h.l12
  have g1 := h.n2
  have g2 := h.n8
  have t1 : (townD n ss) = .tup [.int n, .tup (ss.map sD)] := rfl
  have e2 : ∀ r : Q.Env, r[1]? = some (Sl.dat (.lst (ss.map fun s => .tup ((ends s).map D.int)))) → eLenSet (eB 1) r m = .ok (.int (ss.length : Nat)) m := fun r hr => by
    have := lenSet_ok (f := eB 1) (r := r) (m' := m) (m := m) (by rw [eB_ap, hr]; rfl) e1 (by rw [List.length_map]; omega) h.nd
    rw [List.length_map] at this
    exact this
  have f1 : decide ((1 : Int) ≤ (ss.length : Int)) = true := decide_eq_true (by omega)
  have f2 : decide ((ss.length : Int) ≤ 12) = true := decide_eq_true (by omega)
  have f3 : (ss.map sD).length ≤ SZ := by rw [List.length_map]; show ss.length ≤ 100000; omega
  have f4 : (zipD (ss.map sD) ((ss.map sD).drop 1)).length ≤ SZ := by unfold zipD; simp; omega
  have q0 : gGet m (townD n ss) (.int 0) = some (.int n) := by rw [t1]; simp
  have q1 : gGet m (townD n ss) (.int 1) = some (.tup (ss.map sD)) := by rw [t1]; simp
  have q2 : d_is_tuple_of [townD n ss, .int 2, .int 2] m = .ok (.bl true) m := by rw [t1, tof_t]; rfl
  have q3 : d_is_tuple_of [.tup (ss.map sD), .int 1, .int 12] m = .ok (.bl true) m := by rw [tof_t, List.length_map, f1, f2]; rfl
  have q4 : d_is_whole [.int n, .int 2, .int 8] m = .ok (.bl true) m := by rw [whole_i, decide_eq_true g1, decide_eq_true g2]; rfl
  simp only [d_fits_town, b_fits_town]
  have f5 : ss.length ≤ 100000 := by omega
  have f6 : (zipD (ss.map sD) ((ss.map sD).drop 1)).length ≤ 100000 := f4
  simp only [List.drop_one] at c3 f6
  simp [q0, q1, q2, q3, q4, w, w2, c1, c2, c3, all_t, f5, f6, e2]
end T
end
section
set_option Elab.async false
set_option linter.all false
set_option maxRecDepth 100000
namespace Q
open PySem L2
section
variable {κ : Type} [DecidableEq κ]
theorem putA_keys (kvs : List (κ × D)) (k : κ) (v : D) : ((putA kvs k v).map (·.1)) = if k ∈ kvs.map (·.1) then kvs.map (·.1) else kvs.map (·.1) ++ [k] := by
  unfold putA
  have e : (kvs.any fun kv => decide (kv.1 = k)) = true ↔ k ∈ kvs.map (·.1) := by
    simp [List.any_eq_true]
  by_cases h : k ∈ kvs.map (·.1)
  · rw [if_pos (e.mpr h), if_pos h, List.map_map]
    congr 1
    funext kv
    simp only [Function.comp]
    split <;> rfl
  · rw [if_neg (fun z => h (e.mp z)), if_neg h, List.map_append]; rfl
theorem putA_nd {kvs : List (κ × D)} {k : κ} {v : D} (h : (kvs.map (·.1)).Nodup) : ((putA kvs k v).map (·.1)).Nodup := by
  rw [putA_keys]
  split
  · exact h
  · rename_i z
    rw [List.nodup_append]
    exact ⟨h, by simp, fun a ha b hb => by simp at hb; subst hb; intro e; exact z (e ▸ ha)⟩
theorem putA_mem {kvs : List (κ × D)} {k : κ} {v : D} {p : κ × D} (h : p ∈ putA kvs k v) : p ∈ kvs ∨ p = (k, v) := by
  unfold putA at h
  split at h
  · obtain ⟨q, hq, e⟩ := List.mem_map.mp h
    split at e
    · rename_i z; right; rw [← e, ← z]
    · left; rw [← e]; exact hq
  · rcases List.mem_append.mp h with h | h
    · exact .inl h
    · simp at h; exact .inr h
theorem putA_len (kvs : List (κ × D)) (k : κ) (v : D) : (putA kvs k v).length ≤ kvs.length + 1 ∧ 1 ≤ (putA kvs k v).length := by
  have e := congrArg List.length (putA_keys kvs k v)
  rw [List.length_map] at e
  rw [e]
  split
  · rename_i h
    have : 1 ≤ (kvs.map (·.1)).length := List.length_pos_of_mem h
    rw [List.length_map] at this ⊢
    omega
  · rw [List.length_append, List.length_map]; simp
theorem getA_of {kvs : List (κ × D)} {k : κ} {v : D} (h : (kvs.map (·.1)).Nodup) (hm : (k, v) ∈ kvs) : getA kvs k = some v := by
  unfold getA
  induction kvs with
  | nil => cases hm
  | cons q kvs ih =>
    obtain ⟨h1, h2⟩ := List.nodup_cons.mp h
    rcases List.mem_cons.mp hm with e | hm
    · subst e; simp [List.find?_cons]
    · have ne : q.1 ≠ k := fun z => h1 (List.mem_map.mpr ⟨_, hm, z.symm⟩)
      rw [List.find?_cons, decide_eq_false ne]
      exact ih h2 hm
end
section
variable {m : Sto}
@[simp] theorem gEq_dT0 {kvs : List (List Key × D)} : gEqA false m (.dT kvs) (.dK []) = some (.bl (kvs.length == 0)) := rfl
@[simp] theorem putD_T {kvs : List (List Key × D)} {ys : List D} {k : List Key} {v : D} (h : D.keys ys = some k) (hl : kvs.length < SZ) : putD (.tup ys) v (.dT kvs) = some (.dT (putA kvs k v)) := by
  show (match D.keys ys with
    | some k => if kvs.length < SZ then some (D.dT (putA kvs k v)) else none
    | none => none) = _
  rw [h]
  exact if_pos hl
theorem gGet_T {kvs : List (List Key × D)} {ys : List D} {k : List Key} {v : D} (h : D.keys ys = some k) (hv : getA kvs k = some v) : gGet m (.dT kvs) (.tup ys) = some v := by
  show ((D.keys ys).map (getA kvs)).bind id = _
  rw [h]
  show (some (getA kvs k)).bind id = _
  rw [hv]; rfl
end
theorem mem_range {lo : Int} {n i : Nat} {d : D} (h : (rangeD lo n)[i]? = some d) : i < n ∧ d = .int (lo + (i : Int)) := by
  unfold rangeD at h
  rw [List.getElem?_map] at h
  obtain ⟨j, hj, rfl⟩ := Option.map_eq_some_iff.mp h
  obtain ⟨h1, h2⟩ := List.getElem?_eq_some_iff.mp hj
  simp at h1 h2
  subst h2
  exact ⟨h1, rfl⟩
theorem range_len {lo : Int} {n : Nat} : (rangeD lo n).length = n := by unfold rangeD; simp
end Q
namespace T
open PySem L2 Q
theorem some_at [Roll] (a b : Int) (xs : List D) (h1 : 0 < xs.length) (h2 : xs.length < 1073741824) : ∃ x a' b', d__law_some [.cell 0, .lst xs] (cup a b) = .ok x (cup a' b') ∧ x ∈ xs := by
  obtain ⟨v, a', b', e, v0, v1⟩ := roll_at a b xs.length (by omega) (by omega)
  obtain ⟨k, rfl⟩ := Int.eq_ofNat_of_zero_le v0
  have hk : k < xs.length := by omega
  refine ⟨xs[k], a', b', ?_, List.getElem_mem hk⟩
  have := atI_nat (xs := xs) (k := k) (x := xs[k]) (by simp [hk])
  simp [d__law_some, b__law_some, e, this]
structure KOk (n : Int) (kvs : List (List Key × D)) : Prop where
  nd : (kvs.map (·.1)).Nodup
  ok : ∀ p ∈ kvs, ∃ x y l : Int, p = ([.inl x, .inl y], .int l) ∧ 0 ≤ x ∧ x < y ∧ y < n ∧ 1 ≤ l ∧ l ≤ 9
theorem KOk.put {n : Int} {kvs : List (List Key × D)} (h : KOk n kvs) {x y l : Int} (h1 : 0 ≤ x) (h2 : x < y) (h3 : y < n) (h4 : 1 ≤ l) (h5 : l ≤ 9) : KOk n (putA kvs [.inl x, .inl y] (.int l)) := by
  refine ⟨putA_nd h.nd, fun p hp => ?_⟩
  rcases putA_mem hp with hp | hp
  · exact h.ok p hp
  · exact ⟨x, y, l, hp, h1, h2, h3, h4, h5⟩
/-- the kinds that a town is drawn of -/
class Kds where
  Ks : List Str
  ne : 0 < Ks.length
  lt : Ks.length < 1000
  sub : ∀ k ∈ Ks, k ∈ kinds
def KL [Kds] : D := .lst (Kds.Ks.map D.str)
end T
end
section
set_option Elab.async false
set_option linter.all false
set_option maxRecDepth 100000
namespace T
open PySem L2 Q
/-- whether a corner is at some end -/
def tch (es : List (List Int)) (c : Int) : Bool := es.any fun e => e.contains c
def unt (es : List (List Int)) (n : Nat) : Nat := (List.range n).countP fun c : Nat => !tch es (c : Int)
theorem tch_iff {es : List (List Int)} {c : Int} : tch es c = true ↔ ∃ e ∈ es, c ∈ e := by
  unfold tch; simp [List.any_eq_true]
theorem cnt_lt {p q : Nat → Bool} {n a : Nat} (h : ∀ c, c < n → q c = true → p c = true) (ha : a < n) (pa : p a = true) (qa : q a = false) : (List.range n).countP q + 1 ≤ (List.range n).countP p := by
  induction n with
  | zero => omega
  | succ n ih =>
    rw [List.range_succ, List.countP_append, List.countP_append]
    by_cases e : a = n
    · subst e
      have : (List.range a).countP q ≤ (List.range a).countP p := List.countP_mono_left fun x hx => h x (by have := List.mem_range.mp hx; omega)
      simp [List.countP_cons, pa, qa]; omega
    · have i := ih (fun c hc => h c (by omega)) (by omega)
      have : [n].countP q ≤ [n].countP p := List.countP_mono_left fun x hx => h x (by simp at hx; omega)
      omega
theorem cnt_le {p : Nat → Bool} {n : Nat} : (List.range n).countP p ≤ n := by
  have := List.countP_le_length (p := p) (l := List.range n)
  rwa [List.length_range] at this
theorem cnt_2 {q : Nat → Bool} {n a b : Nat} (ha : a < n) (hb : b < n) (ne : a ≠ b) (qa : q a = false) (qb : q b = false) : (List.range n).countP q + 2 ≤ n := by
  have h1 := cnt_lt (p := fun c => decide (c ≠ b)) (q := q) (n := n) (a := a) (fun c _ hq => by
    refine decide_eq_true fun e => ?_
    subst e; rw [qb] at hq; cases hq) ha (decide_eq_true ne) qa
  have h2 := cnt_lt (p := fun _ => true) (q := fun c => decide (c ≠ b)) (n := n) (a := b) (fun c _ _ => rfl) hb rfl (by simp)
  have h3 := cnt_le (p := fun _ => true) (n := n)
  omega
theorem unt_mono {es es' : List (List Int)} {n : Nat} (h : ∀ c, tch es c = true → tch es' c = true) : unt es' n ≤ unt es n :=
  List.countP_mono_left fun x _ hx => by
    cases e : tch es (x : Int) with
    | false => rfl
    | true => rw [h _ e] at hx; exact hx
theorem unt_congr {es es' : List (List Int)} {n : Nat} (h : ∀ c, tch es c = true ↔ tch es' c = true) : unt es n = unt es' n :=
  Nat.le_antisymm (unt_mono fun c => (h c).mpr) (unt_mono fun c => (h c).mp)
theorem unt_succ {es : List (List Int)} {n : Nat} : unt es (n + 1) = unt es n + if tch es (n : Int) = true then 0 else 1 := by
  unfold unt
  rw [List.range_succ, List.countP_append, List.countP_cons, List.countP_nil]
  cases tch es (n : Int) <;> simp
theorem unt_lt {es es' : List (List Int)} {n a : Nat} (h : ∀ c, tch es c = true → tch es' c = true) (ha : a < n) (h1 : tch es (a : Int) = false) (h2 : tch es' (a : Int) = true) : unt es' n + 1 ≤ unt es n :=
  cnt_lt (fun c _ hq => by
    cases e : tch es (c : Int) with
    | false => rfl
    | true => rw [h _ e] at hq; exact hq) ha (by rw [h1]; rfl) (by rw [h2]; rfl)
theorem unt_2 {es : List (List Int)} {n : Nat} {x y : Int} (hx : 0 ≤ x) (hxy : x < y) (hy : y < (n : Int)) (h1 : tch es x = true) (h2 : tch es y = true) : unt es n + 2 ≤ n := by
  refine cnt_2 (a := x.toNat) (b := y.toNat) (by omega) (by omega) (by omega) ?_ ?_
  · rw [show ((x.toNat : Nat) : Int) = x by omega, h1]; rfl
  · rw [show ((y.toNat : Nat) : Int) = y by omega, h2]; rfl
def kE (k : List Key) : List Int := k.filterMap fun | .inl z => some z | _ => none
def kEs (kvs : List (List Key × D)) : List (List Int) := (kvs.map (·.1)).map kE
theorem tch_put {kvs : List (List Key × D)} {x y : Int} {v : D} {c : Int} : tch (kEs (putA kvs [.inl x, .inl y] v)) c = true ↔ tch (kEs kvs) c = true ∨ c = x ∨ c = y := by
  unfold kEs
  rw [putA_keys]
  split
  · rename_i h
    constructor
    · exact .inl
    · rintro (h1 | h1)
      · exact h1
      · refine tch_iff.mpr ⟨kE [.inl x, .inl y], List.mem_map.mpr ⟨_, h, rfl⟩, ?_⟩
        show c ∈ [x, y]
        simp; exact h1
  · unfold tch
    rw [List.map_append, List.any_append, Bool.or_eq_true]
    have : (List.map kE [[Sum.inl x, Sum.inl y]]).any (fun e => e.contains c) = true ↔ (c = x ∨ c = y) := by
      show ([[x, y]] : List (List Int)).any (fun e => e.contains c) = true ↔ _
      simp
    rw [this]
/-- the sum of keys and corners apart -/
def Pot (kvs : List (List Key × D)) (n b : Nat) : Prop := kvs = [] ∨ kvs.length + unt (kEs kvs) n ≤ b
theorem Pot.put {kvs : List (List Key × D)} {n b : Nat} (h : Pot kvs n b) {x y : Int} {v : D} (hx : 0 ≤ x) (hxy : x < y) (hy : y < (n : Int)) (hb : n ≤ b + 2) : Pot (putA kvs [.inl x, .inl y] v) n (b + 1) := by
  right
  have hl := (putA_len kvs [.inl x, .inl y] v).1
  rcases h with rfl | h
  · have := unt_2 (n := n) hx hxy hy (tch_put.mpr (.inr (.inl rfl)) : tch (kEs (putA [] [.inl x, .inl y] v)) x = true) (tch_put.mpr (.inr (.inr rfl)))
    simp at hl
    omega
  · have := unt_mono (n := n) (es := kEs kvs) (es' := kEs (putA kvs [.inl x, .inl y] v)) fun c hc => tch_put.mpr (.inl hc)
    omega
end T
end
section
set_option Elab.async false
set_option linter.all false
set_option maxRecDepth 100000
namespace T
open PySem L2 Q
/-- the slots of _law_town -/
def tE [Kds] (most n : Int) (kvs : List (List Key × D)) (z5 z6 z7 z8 : Sl) : Q.Env := [.dat (.cell 0), .dat (.int most), .dat KL, .dat (.int n), .own (.dT kvs), z5, z6, z7, z8, .un, .un, .un, .un]
def t1b [Roll] : Sd := sIf (bE (op2 gGtA (callD 2 d__law_roll (aC (eV 0) (aC (eC (.int 9)) aN))) (eC (.int 0))))
  (sPut 4 (opN gTup (aC (callD 2 d__law_roll (aC (eV 0) (aC (eV 5) aN))) (aC (eV 5) aN))) (op2 gAdd (eC (.int 1)) (callD 2 d__law_roll (aC (eV 0) (aC (callD 2 d__law_some (aC (eV 0) (aC (opN gLst (aC (eC (.int 3)) (aC (eC (.int 9)) aN))) aN))) aN)))))
  sNext
def I1 [Kds] (most n : Int) : Nat → Q.Env → Sto → Prop := fun i r m => ∃ kvs z5 a b, r = tE most n kvs z5 .un .un .un ∧ m = cup a b ∧ KOk n kvs ∧ kvs.length ≤ i ∧ Pot kvs (i + 1) i
theorem loop1 [Roll] [Kds] (most n : Int) (h2 : 2 ≤ n) (h8 : n ≤ 8) (a b : Int) : ∃ kvs z5 a' b', forD (pN 5) t1b (rangeD 1 (n - 1).toNat) (tE most n [] .un .un .un .un) (cup a b) = .nx (tE most n kvs z5 .un .un .un) (cup a' b') ∧ KOk n kvs ∧ kvs.length ≤ 7 ∧ Pot kvs n.toNat (n.toNat - 1) := by
  have step : ∀ (i : Nat) (d : D) (r : Q.Env) (m : Sto), (rangeD 1 (n - 1).toNat)[i]? = some d → I1 most n (0 + i) r m →
      ∃ r', pN 5 d r = some r' ∧ ∃ r2 m2, (t1b r' m = .nx r2 m2 ∨ t1b r' m = .ct r2 m2) ∧ I1 most n (0 + i + 1) r2 m2 := by
    rintro i d r m hd ⟨kvs, z5, a, b, rfl, rfl, hk, hl, hp⟩
    rw [Nat.zero_add] at hp
    obtain ⟨hi, rfl⟩ := mem_range hd
    obtain ⟨v, a1, b1, e1, v0, v9⟩ := roll_at a b 9 (by decide) (by decide)
    refine ⟨_, rfl, ?_⟩
    by_cases hv : 0 < v
    · obtain ⟨x, a2, b2, e2, x1⟩ := some_at a1 b1 [.int 3, .int 9] (by decide) (by decide)
      have hx : ∃ q : Int, x = .int q ∧ 0 < q ∧ q ≤ 9 := by
        simp at x1
        rcases x1 with rfl | rfl
        · exact ⟨3, rfl, by decide, by decide⟩
        · exact ⟨9, rfl, by decide, by decide⟩
      obtain ⟨q, rfl, q0, q9⟩ := hx
      obtain ⟨y, a3, b3, e3, y0, y1⟩ := roll_at a2 b2 q q0 (by omega)
      obtain ⟨u, a4, b4, e4, u0, u1⟩ := roll_at a3 b3 (1 + (i : Int)) (by omega) (by omega)
      refine ⟨tE most n (putA kvs [.inl u, .inl (1 + (i : Int))] (.int (1 + y))) (.dat (.int (1 + (i : Int)))) .un .un .un, cup a4 b4, .inl ?_, _, _, _, _, rfl, rfl, hk.put u0 u1 (by omega) (by omega) (by omega), ?_, ?_⟩
      · have hz : kvs.length < SZ := by show kvs.length < 100000; omega
        have pd : putD (.tup [.int u, .int (1 + (i : Int))]) (.int (1 + y)) (.dT kvs) = some (.dT (putA kvs [.inl u, .inl (1 + (i : Int))] (.int (1 + y)))) := putD_T rfl hz
        simp [t1b, tE, e1, e2, e3, e4, hv, gLst_ok, gTup_ok, pd]
      · have := (putA_len kvs [.inl u, .inl (1 + (i : Int))] (.int (1 + y))).1
        omega
      · rw [Nat.zero_add]
        rcases hp with rfl | hp
        · exact Pot.put (b := i) (.inl rfl) u0 u1 (by omega) (by omega)
        · right
          have q1 := (putA_len kvs [.inl u, .inl (1 + (i : Int))] (.int (1 + y))).1
          have q2 := unt_mono (n := i + 1) (es := kEs kvs) (es' := kEs (putA kvs [.inl u, .inl (1 + (i : Int))] (.int (1 + y)))) fun c hc => tch_put.mpr (.inl hc)
          rw [unt_succ, if_pos (tch_put.mpr (.inr (.inr (by omega))))]
          omega
    · refine ⟨tE most n kvs (.dat (.int (1 + (i : Int)))) .un .un .un, cup a1 b1, .inl ?_, kvs, _, _, _, rfl, rfl, hk, by omega, ?_⟩
      rotate_left
      · rw [Nat.zero_add]
        rcases hp with hp | hp
        · exact .inl hp
        · right
          rw [unt_succ]
          split <;> omega
      simp [t1b, tE, e1, hv]
  obtain ⟨r', m', e, kvs, z5, a', b', rfl, rfl, hk, hl, hp⟩ := forD_inv (I1 most n) _ 0 _ _ step ⟨[], .un, a, b, rfl, rfl, ⟨List.nodup_nil, fun p hp => by cases hp⟩, Nat.le_refl _, .inl rfl⟩
  rw [range_len] at hl hp
  refine ⟨kvs, z5, a', b', e, hk, by omega, ?_⟩
  rw [show n.toNat = 0 + (n - 1).toNat + 1 by omega, show 0 + (n - 1).toNat + 1 - 1 = 0 + (n - 1).toNat by omega]
  exact hp
def t2b [Roll] : Sd := sSeq (sPar2 7 8 false false (callD 2 d__law_roll (aC (eV 0) (aC (eV 3) aN))) (callD 2 d__law_roll (aC (eV 0) (aC (eV 3) aN))))
  (sIf (bAnd (bE (op2 gLtA (eB 7) (eB 8))) (bE (op2 gLtA (opN gLen (aC (eB 4) aN)) (eC (.int 12)))))
  (sPut 4 (opN gTup (aC (eV 7) (aC (eV 8) aN))) (op2 gAdd (eC (.int 1)) (callD 2 d__law_roll (aC (eV 0) (aC (eC (.int 9)) aN)))))
  sNext)
def I2 [Kds] (most n : Int) : Nat → Q.Env → Sto → Prop := fun i r m => ∃ kvs z5 z6 z7 z8 a b, r = tE most n kvs z5 z6 z7 z8 ∧ m = cup a b ∧ KOk n kvs ∧ kvs.length ≤ 12 ∧ Pot kvs n.toNat (n.toNat - 1 + i)
theorem loop2 [Roll] [Kds] (most n : Int) (h2 : 2 ≤ n) (h8 : n ≤ 8) (kvs : List (List Key × D)) (z5 : Sl) (hk : KOk n kvs) (hl : kvs.length ≤ 7) (hp : Pot kvs n.toNat (n.toNat - 1)) (a b : Int) (k : Nat) : ∃ kv2 y5 z6 z7 z8 a' b', forD (pN 6) t2b (rangeD 0 k) (tE most n kvs z5 .un .un .un) (cup a b) = .nx (tE most n kv2 y5 z6 z7 z8) (cup a' b') ∧ KOk n kv2 ∧ kv2.length ≤ 12 ∧ Pot kv2 n.toNat (n.toNat - 1 + k) := by
  have step : ∀ (i : Nat) (d : D) (r : Q.Env) (m : Sto), (rangeD 0 k)[i]? = some d → I2 most n (0 + i) r m →
      ∃ r', pN 6 d r = some r' ∧ ∃ r2 m2, (t2b r' m = .nx r2 m2 ∨ t2b r' m = .ct r2 m2) ∧ I2 most n (0 + i + 1) r2 m2 := by
    rintro i d r m hd ⟨kvs, z5, z6, z7, z8, a, b, rfl, rfl, hk, hl, hp⟩
    have hp1 : Pot kvs n.toNat (n.toNat - 1 + (0 + i + 1)) := hp.imp id fun h => by omega
    obtain ⟨x, a1, b1, e1, x0, x1⟩ := roll_at a b n (by omega) (by omega)
    obtain ⟨y, a2, b2, e2, y0, y1⟩ := roll_at a1 b1 n (by omega) (by omega)
    refine ⟨_, rfl, ?_⟩
    by_cases hxy : x < y
    · by_cases h12 : (kvs.length : Int) < 12
      · obtain ⟨v, a3, b3, e3, v0, v9⟩ := roll_at a2 b2 9 (by decide) (by decide)
        have hz : kvs.length < SZ := by show kvs.length < 100000; omega
        have pd : putD (.tup [.int x, .int y]) (.int (1 + v)) (.dT kvs) = some (.dT (putA kvs [.inl x, .inl y] (.int (1 + v)))) := putD_T rfl hz
        refine ⟨tE most n (putA kvs [.inl x, .inl y] (.int (1 + v))) z5 (.dat d) (.dat (.int x)) (.dat (.int y)), cup a3 b3, .inl ?_, _, _, _, _, _, _, _, rfl, rfl, hk.put x0 hxy y1 (by omega) (by omega), ?_, hp.put x0 hxy (by omega) (by omega)⟩
        · simp [t2b, tE, e1, e2, e3, hxy, h12, gTup_ok, pd]
        · have := (putA_len kvs [.inl x, .inl y] (.int (1 + v))).1
          omega
      · refine ⟨tE most n kvs z5 (.dat d) (.dat (.int x)) (.dat (.int y)), cup a2 b2, .inl ?_, _, _, _, _, _, _, _, rfl, rfl, hk, hl, hp1⟩
        simp [t2b, tE, e1, e2, hxy, h12]
    · refine ⟨tE most n kvs z5 (.dat d) (.dat (.int x)) (.dat (.int y)), cup a2 b2, .inl ?_, _, _, _, _, _, _, _, rfl, rfl, hk, hl, hp1⟩
      simp [t2b, tE, e1, e2, hxy]
  obtain ⟨r', m', e, kvs, z5, z6, z7, z8, a', b', rfl, rfl, hk, hl, hp⟩ := forD_inv (I2 most n) _ 0 _ _ step ⟨kvs, z5, .un, .un, .un, a, b, rfl, rfl, hk, by omega, by rw [Nat.add_zero]; exact hp⟩
  rw [range_len, Nat.zero_add] at hp
  exact ⟨kvs, z5, z6, z7, z8, a', b', e, hk, hl, hp⟩
end T
end
section
set_option Elab.async false
set_option linter.all false
set_option maxRecDepth 100000
namespace Q
open PySem L2
theorem pys_map {β : Type} {f : β → D} {g : β → PyData} (hf : ∀ b, (f b).py = some (g b)) : ∀ l : List β, D.pys (l.map f) = some (l.map g)
  | [] => rfl
  | b :: l => by
    rw [List.map_cons, List.map_cons]
    unfold D.pys
    rw [hf b, pys_map hf l]
theorem sort_map {β : Type} {f : β → D} {g : β → PyData} (hf : ∀ b, (f b).py = some (g b)) (ha : ∀ a b, W.alike (g a) (g b) = true) (ht : ∀ b, ∃ x r, g b = .tuple (x :: r)) (hd : ∀ b, (g b).depth ≤ 60) (l : List β) :
    sortOk (l.map f) = true ∧ sortD (l.map f) = (l.mergeSort fun a b => !W.dataLt (g b) (g a)).map f := by
  constructor
  · unfold sortOk
    rw [pys_map hf]
    simp only [Bool.and_eq_true]
    refine ⟨⟨?_, ?_⟩, ?_⟩
    · unfold sortOk.alikeB'
      rw [List.all_eq_true]
      intro p hp
      rw [List.all_eq_true]
      intro q hq
      obtain ⟨a, _, rfl⟩ := List.mem_map.mp hp
      obtain ⟨b, _, rfl⟩ := List.mem_map.mp hq
      exact ha a b
    · unfold sortB
      rw [Bool.or_eq_true]
      left
      rw [List.all_eq_true]
      intro p hp
      obtain ⟨a, _, rfl⟩ := List.mem_map.mp hp
      obtain ⟨x, r, e⟩ := ht a
      rw [e]
    · rw [List.all_eq_true]
      intro p hp
      obtain ⟨a, _, rfl⟩ := List.mem_map.mp hp
      exact decide_eq_true (hd a)
  · unfold sortD
    rw [List.map_mergeSort]
    intro a _ b _
    rw [W.dataLe_eq]
    show _ = !W.dataLt (f b).pyD (f a).pyD
    rw [py_pyD (hf a), py_pyD (hf b)]
theorem le_total {β : Type} (g : β → PyData) (a b : β) : ((!W.dataLt (g b) (g a)) || (!W.dataLt (g a) (g b))) = true := by
  cases h : W.dataLt (g b) (g a) with
  | false => rfl
  | true =>
    cases h2 : W.dataLt (g a) (g b) with
    | false => rfl
    | true =>
      have := PyProof.Rows.lex_trans _ _ _ h h2
      rw [PyProof.Rows.lex_irrefl] at this
      cases this
theorem le_trans {β : Type} (g : β → PyData) (a b c : β) (h1 : (!W.dataLt (g b) (g a)) = true) (h2 : (!W.dataLt (g c) (g b)) = true) : (!W.dataLt (g c) (g a)) = true := by
  cases h : W.dataLt (g c) (g a) with
  | false => rfl
  | true =>
    have h1 : W.dataLt (g b) (g a) = false := by simpa using h1
    have h2 : W.dataLt (g c) (g b) = false := by simpa using h2
    cases h3 : W.dataLt (g a) (g b) with
    | true =>
      have := PyProof.Rows.lex_trans _ _ _ h h3
      rw [show PyProof.Rows.lexLt _ _ _ = W.dataLt (g c) (g b) from rfl, h2] at this
      cases this
    | false =>
      have e := PyProof.Rows.lex_total _ _ h1 h3
      have : W.dataLt (g c) (g b) = true := by
        unfold W.dataLt
        rw [e]; exact h
      rw [h2] at this; cases this
theorem sorted_up {β : Type} (g : β → PyData) (l : List β) : (l.mergeSort fun a b => !W.dataLt (g b) (g a)).Pairwise fun a b => W.dataLt (g b) (g a) = false := by
  have := List.pairwise_mergeSort (le := fun a b => !W.dataLt (g b) (g a)) (fun a b c h1 h2 => le_trans g a b c h1 h2) (fun a b => le_total g a b) l
  exact this.imp fun h => by simpa using h
end Q
namespace Q
open PySem L2
theorem sMeth_own {j : Nat} {g : LMet} {fa : Ad} {k : D → Q.Env → Sto → Out} {r : Q.Env} {m m1 : Sto} {xs ys zs : List D} {d : D} (h : r[j]? = some (.own (.lst xs))) (ha : fa r m = .ok ys m1) (hg : g ys xs = some (d, zs)) :
    sMeth j g fa k r m = k d (r.set j (.own (.lst zs))) m1 := by
  have c : ∀ m, contS j r m = some (.lst xs) := fun m => by unfold contS; rw [h]
  unfold sMeth
  rw [c m]
  show (fa r m).outS _ = _
  rw [ha]
  show (match metD j g ys r m1 with
    | some (d, r', m') => k d r' m'
    | none => .stuck) = _
  have : metD j g ys r m1 = some (d, r.set j (.own (.lst zs)), m1) := by
    unfold metD
    rw [c m1]
    show (g ys xs).bind _ = _
    rw [hg]
    show (mutS j (fun _ => some (.lst zs)) r m1).map _ = _
    rw [mutS_ap, h]; rfl
  rw [this]
theorem metA_one {x : D} {xs : List D} (h : xs.length < SZ) : metA [x] xs = some (.non, xs ++ [x]) := if_pos h
theorem gRv_2 {a b : D} : gRv (.tup [a, b]) none = some (.tup [b, a]) := rfl
theorem gTupleOf_l {m : Sto} {xs : List D} : gTupleOf m [.lst xs] = some (.tup xs) := rfl
theorem gSort_of {m : Sto} {x : D} {ds : List D} (h : (dr m x).bind iterD = some ds) (h1 : sortOk ds = true) (h2 : ds.length ≤ SZ) : gSort m [x] = some (.lst (sortD ds)) := by
  show (match (dr m x).bind iterD with
    | some ds => if (sortOk ds && decide (ds.length ≤ SZ)) = true then some (D.lst (sortD ds)) else none
    | none => none) = _
  rw [h]
  show (if _ then _ else _) = _
  rw [if_pos (by rw [h1, decide_eq_true h2]; rfl)]
def pairD (p : Int × Int) : D := .tup [.int p.1, .int p.2]
def pairP (p : Int × Int) : PyData := .tuple [.int p.1, .int p.2]
theorem sort_pairs (l : List (Int × Int)) : sortOk (l.map pairD) = true ∧ sortD (l.map pairD) = (l.mergeSort fun a b => !W.dataLt (pairP b) (pairP a)).map pairD :=
  sort_map (g := pairP) (fun _ => rfl) (fun _ _ => rfl) (fun _ => ⟨_, _, rfl⟩) (fun _ => by show 1 ≤ 60; decide) l
end Q
namespace T
open PySem L2 Q
theorem sort_streets (l : List Stt) : sortOk (l.map sD) = true ∧ sortD (l.map sD) = (l.mergeSort fun a b => !W.dataLt (sP b) (sP a)).map sD :=
  sort_map (g := sP) (fun _ => rfl) (fun _ _ => rfl) (fun _ => ⟨_, _, rfl⟩) (fun _ => by show 1 ≤ 60; decide) l
def tF [Kds] (most n : Int) (kvs : List (List Key × D)) (z5 z6 z7 z8 : Sl) (acc : List D) (z10 z11 z12 : Sl) : Q.Env := [.dat (.cell 0), .dat (.int most), .dat KL, .dat (.int n), .own (.dT kvs), z5, z6, z7, z8, .own (.lst acc), z10, z11, z12]
def t3b [Roll] : Sd := sSeq (sSet 11 (callD 2 d__law_some (aC (eV 0) (aC (eV 2) aN))))
  (sSeq (sSet 12 (eIf (bAnd (bE (op2 (gEqA false) (eB 11) (eC (.str "lane")))) (bE (op2 (gEqA false) (callD 2 d__law_roll (aC (eV 0) (aC (eC (.int 2)) aN))) (eC (.int 0))))) (eRv (eB 10) oN) (eV 10)))
  (sMeth 9 metA (aC (op2 gAdd (eB 12) (opN gTup (aC (op2 gGet (eB 4) (eB 10)) (aC (eV 11) aN)))) aN) fun _ r m => .nx r m))
def I3 [Kds] (most n : Int) (kvs : List (List Key × D)) (z5 z6 z7 z8 : Sl) (L : List (Int × Int)) : Nat → Q.Env → Sto → Prop := fun i r m => ∃ (ss : List Stt) (z10 z11 z12 : Sl) (a b : Int), r = tF most n kvs z5 z6 z7 z8 (ss.map sD) z10 z11 z12 ∧ m = cup a b ∧ (∀ s ∈ ss, OkS n s) ∧ ss.map ends = (L.take i).map fun p => [p.1, p.2]
theorem loop3 [Roll] [Kds] (most n : Int) (kvs : List (List Key × D)) (z5 z6 z7 z8 : Sl) (hk : KOk n kvs) (L : List (Int × Int)) (hL : ∀ p ∈ L, [.inl p.1, .inl p.2] ∈ kvs.map (·.1)) (hl : L.length ≤ 12) (a b : Int) :
    ∃ (ss : List Stt) (z10 z11 z12 : Sl) (a' b' : Int), forD (pN 10) t3b (L.map pairD) (tF most n kvs z5 z6 z7 z8 [] .un .un .un) (cup a b) = .nx (tF most n kvs z5 z6 z7 z8 (ss.map sD) z10 z11 z12) (cup a' b') ∧ (∀ s ∈ ss, OkS n s) ∧ ss.map ends = L.map fun p => [p.1, p.2] := by
  have step : ∀ (i : Nat) (d : D) (r : Q.Env) (m : Sto), (L.map pairD)[i]? = some d → I3 most n kvs z5 z6 z7 z8 L (0 + i) r m →
      ∃ r', pN 10 d r = some r' ∧ ∃ r2 m2, (t3b r' m = .nx r2 m2 ∨ t3b r' m = .ct r2 m2) ∧ I3 most n kvs z5 z6 z7 z8 L (0 + i + 1) r2 m2 := by
    rintro i d r m hd ⟨ss, z10, z11_, z12_, a, b, rfl, rfl, hs, he⟩
    rw [Nat.zero_add] at he ⊢
    rw [List.getElem?_map] at hd
    obtain ⟨p, hp, rfl⟩ := Option.map_eq_some_iff.mp hd
    obtain ⟨x, y⟩ := p
    obtain ⟨q, hq, eq⟩ := List.mem_map.mp (hL _ (List.mem_of_getElem? hp))
    obtain ⟨x', y', l, rfl, k1, k2, k3, k4, k5⟩ := hk.ok q hq
    simp at eq
    obtain ⟨rfl, rfl⟩ := eq
    have hg : gGet (cup a b) (.dT kvs) (.tup [.int x', .int y']) = some (.int l) := gGet_T (k := [.inl x', .inl y']) rfl (getA_of hk.nd hq)
    obtain ⟨kd, a1, b1, e1, hkd⟩ := some_at a b (Kds.Ks.map D.str) (by rw [List.length_map]; exact Kds.ne) (by rw [List.length_map]; have := Kds.lt; omega)
    obtain ⟨k, rfl, hkk⟩ : ∃ k : Str, kd = .str k ∧ k ∈ kinds := by
      obtain ⟨k, hk, rfl⟩ := List.mem_map.mp hkd
      exact ⟨k, rfl, Kds.sub k hk⟩
    have hlen : ss.length ≤ 12 := by
      have := congrArg List.length he
      simp at this
      omega
    have hz : (ss.map sD).length < SZ := by rw [List.length_map]; show ss.length < 100000; omega
    have ht : (L.take (i + 1)).map (fun p => [p.1, p.2]) = (L.take i).map (fun p => [p.1, p.2]) ++ [[x', y']] := by
      rw [List.take_add_one, hp]; simp
    refine ⟨_, rfl, ?_⟩
    have fin : ∀ (s : Stt) (z11 z12 : Sl) (a2 b2 : Int), OkS n s → ends s = [x', y'] → t3b (tF most n kvs z5 z6 z7 z8 (ss.map sD) (.dat (pairD (x', y'))) z11_ z12_) (cup a b) = .nx (tF most n kvs z5 z6 z7 z8 (ss.map sD ++ [sD s]) (.dat (pairD (x', y'))) z11 z12) (cup a2 b2) →
        ∃ r2 m2, (t3b (tF most n kvs z5 z6 z7 z8 (ss.map sD) (.dat (pairD (x', y'))) z11_ z12_) (cup a b) = .nx r2 m2 ∨ t3b (tF most n kvs z5 z6 z7 z8 (ss.map sD) (.dat (pairD (x', y'))) z11_ z12_) (cup a b) = .ct r2 m2) ∧ I3 most n kvs z5 z6 z7 z8 L (i + 1) r2 m2 := by
      intro s z11 z12 a2 b2 ok en ev
      refine ⟨_, _, .inl ev, ss ++ [s], _, z11, z12, a2, b2, by rw [List.map_append]; rfl, rfl, fun s' hs' => ?_, ?_⟩
      · rcases List.mem_append.mp hs' with hs' | hs'
        · exact hs s' hs'
        · simp at hs'; subst hs'; exact ok
      · rw [ht, ← he, List.map_append]
        simp [en]
    have app : ∀ (d1 d2 : D) (m' : Sto) (r : Q.Env), r[9]? = some (.own (.lst (ss.map sD))) → r[12]? = some (.dat (.tup [d1, d2])) → r[4]? = some (.own (.dT kvs)) → r[10]? = some (.dat (.tup [.int x', .int y'])) → r[11]? = some (.dat (.str k)) → gGet m' (.dT kvs) (.tup [.int x', .int y']) = some (.int l) →
        sMeth 9 metA (aC (op2 gAdd (eB 12) (opN gTup (aC (op2 gGet (eB 4) (eB 10)) (aC (eV 11) aN)))) aN) (fun _ r m => .nx r m) r m' = .nx (r.set 9 (.own (.lst (ss.map sD ++ [.tup [d1, d2, .int l, .str k]])))) m' := by
      intro d1 d2 m' r h9 h12 h4 h10 h11 hg
      refine sMeth_own h9 (ys := [.tup [d1, d2, .int l, .str k]]) ?_ (metA_one hz)
      simp [h12, h4, h10, h11, hg, gTup_ok, gAdd_t]
    have hg' : ∀ m : Sto, gGet m (.dT kvs) (.tup [.int x', .int y']) = some (.int l) := fun m => gGet_T (k := [.inl x', .inl y']) rfl (getA_of hk.nd hq)
    by_cases hln : k = ("lane" : Str)
    · obtain ⟨v, a2, b2, e2, v0, v1⟩ := roll_at a1 b1 2 (by decide) (by decide)
      have gl : ∀ m : Sto, gEqA false m (.str k) (.str ("lane" : Str)) = some (.bl true) := fun m => by rw [gEq_s (kind_s hkk) lane_s, decide_eq_true hln]
      by_cases hv : v = 0
      · refine fin (y', x', l, k) (.dat (.str k)) (.dat (.tup [.int y', .int x'])) a2 b2 ⟨hkk, by show (0 : Int) ≤ y'; omega, k3, k1, by show x' < n; omega, k4, k5, .inr ⟨hln, by show y' ≠ x'; omega⟩⟩ ?_ ?_
        · simp [ends, k2]; omega
        · simp [t3b, tF, KL, e1, e2, hv, gl, pairD, gRv_2]
          rw [app (.int y') (.int x')] <;> simp [hg', sD]
      · refine fin (x', y', l, k) (.dat (.str k)) (.dat (.tup [.int x', .int y'])) a2 b2 ⟨hkk, k1, by show x' < n; omega, by show (0 : Int) ≤ y'; omega, k3, k4, k5, .inl k2⟩ ?_ ?_
        · simp [ends, k2]; omega
        · simp [t3b, tF, KL, e1, e2, hv, gl, pairD, gRv_2]
          rw [app (.int x') (.int y')] <;> simp [hg', sD]
    · refine fin (x', y', l, k) (.dat (.str k)) (.dat (.tup [.int x', .int y'])) a1 b1 ⟨hkk, k1, by show x' < n; omega, by show (0 : Int) ≤ y'; omega, k3, k4, k5, .inl k2⟩ ?_ ?_
      · simp [ends, k2]; omega
      · simp [t3b, tF, KL, e1, gEq_s (kind_s hkk) lane_s, hln, pairD, gRv_2]
        rw [app (.int x') (.int y')] <;> simp [hg', sD]
  obtain ⟨r', m', e, ss, z10, z11, z12, a', b', rfl, rfl, hs, he⟩ := forD_inv (I3 most n kvs z5 z6 z7 z8 L) _ 0 _ _ step ⟨[], .un, .un, .un, a, b, rfl, rfl, fun s hs => (by cases hs), rfl⟩
  refine ⟨ss, z10, z11, z12, a', b', e, hs, ?_⟩
  rw [he, List.length_map, Nat.zero_add, List.take_length]
end T
end
section
set_option Elab.async false
set_option linter.all false
set_option maxRecDepth 100000
namespace T
open PySem L2 Q
/-- the pairs of a table -/
theorem pairs_of {n : Int} : ∀ {kvs : List (List Key × D)}, KOk n kvs → ∃ L : List (Int × Int), kvs.map (fun kv => D.tup (kv.1.map keyD)) = L.map pairD ∧ kvs.map (·.1) = L.map (fun p => [.inl p.1, .inl p.2])
  | [], _ => ⟨[], rfl, rfl⟩
  | q :: kvs, h => by
    obtain ⟨L, h1, h2⟩ := pairs_of (kvs := kvs) ⟨(List.nodup_cons.mp h.nd).2, fun p hp => h.ok p (by simp [hp])⟩
    obtain ⟨x, y, l, rfl, _⟩ := h.ok q (by simp)
    exact ⟨(x, y) :: L, by rw [List.map_cons, List.map_cons, h1]; rfl, by rw [List.map_cons, List.map_cons, h2]⟩
theorem sP_inj {a b : Stt} (h : W.keyToks (sP a) = W.keyToks (sP b)) : a = b := by
  obtain ⟨a1, a2, a3, a4⟩ := a
  obtain ⟨b1, b2, b3, b4⟩ := b
  have h' : W.keyToksAll [.int a1, .int a2, .int a3, .str a4] = W.keyToksAll [.int b1, .int b2, .int b3, .str b4] := by
    have := h
    unfold sP at this
    simpa [W.keyToks] using this
  simp [W.keyToksAll, W.keyToks] at h'
  obtain ⟨rfl, rfl, rfl, h4⟩ := h'
  have e : a4 = b4 := W.str_of_cps (by simpa using h4)
  rw [e]
theorem okT_sort {n : Int} {ss : List Stt} (h2 : 2 ≤ n) (h8 : n ≤ 8) (hl : 1 ≤ ss.length) (hl2 : ss.length ≤ 12) (hs : ∀ s ∈ ss, OkS n s) (hn : (ss.map ends).Nodup) : OkT n (ss.mergeSort fun a b => !W.dataLt (sP b) (sP a)) := by
  have pm := List.mergeSort_perm ss fun a b => !W.dataLt (sP b) (sP a)
  refine ⟨h2, h8, by rw [pm.length_eq]; exact hl, by rw [pm.length_eq]; exact hl2, fun s h => hs s (pm.mem_iff.mp h), (pm.map ends).nodup_iff.mpr hn, fun i a b ha hb => ?_⟩
  have pw := sorted_up sP ss
  have nd := (pm.map ends).nodup_iff.mpr hn
  have lt : W.dataLt (sP b) (sP a) = false := by
    obtain ⟨i1, e1⟩ := List.getElem?_eq_some_iff.mp ha
    obtain ⟨i2, e2⟩ := List.getElem?_eq_some_iff.mp hb
    have := List.pairwise_iff_getElem.mp pw i (i + 1) i1 i2 (by omega)
    rw [e1, e2] at this
    exact this
  cases h : W.dataLt (sP a) (sP b) with
  | true => rfl
  | false =>
    have e := PyProof.Rows.lex_total _ _ h lt
    have eab := sP_inj e
    subst eab
    exfalso
    have q1 : ((ss.mergeSort fun a b => !W.dataLt (sP b) (sP a)).map ends)[i]? = some (ends a) := by rw [List.getElem?_map, ha]; rfl
    have q2 : ((ss.mergeSort fun a b => !W.dataLt (sP b) (sP a)).map ends)[i + 1]? = some (ends a) := by rw [List.getElem?_map, hb]; rfl
    have := (List.getElem?_inj (List.getElem?_eq_some_iff.mp q1).1 nd).mp (q1.trans q2.symm)
    omega
end T
namespace T
open PySem L2 Q
theorem town_at [Roll] [Kds] (a b most : Int) (h3 : 2 ≤ most) (h8 : most ≤ 8) : ∃ n ss a' b', d__law_town [.cell 0, .int most, KL] (cup a b) = .ok (townD n ss) (cup a' b') ∧ OkT n ss ∧ n ≤ most ∧ ss.length + unt (ss.map ends) n.toNat ≤ 12 := by
  obtain ⟨v, a1, b1, e1, v0, v1⟩ := roll_at a b (most - 1) (by omega) (by omega)
  have n2 : 2 ≤ 2 + v := by omega
  have n8 : 2 + v ≤ 8 := by omega
  obtain ⟨kvs, z5, a2, b2, e2, hk, hl, hp⟩ := loop1 most (2 + v) n2 n8 a1 b1
  obtain ⟨w, a3, b3, e3, w0, w1⟩ := roll_at a2 b2 6 (by decide) (by decide)
  obtain ⟨kv2, y5, z6, z7, z8, a4, b4, e4, hk2, hl2, hp2⟩ := loop2 most (2 + v) n2 n8 kvs z5 hk hl hp a3 b3 w.toNat
  -- at least one street
  have one : ∃ kv3 a5 b5, (sSeq (sIf (bE (op2 (gEqA false) (eB 4) (eC (.dK []))))
      (sPut 4 (opN gTup (aC (eC (.int 0)) (aC (eC (.int 1)) aN))) (op2 gAdd (eC (.int 1)) (callD 2 d__law_roll (aC (eV 0) (aC (eC (.int 9)) aN)))))
      sNext) (sOwn 9 (opN gLst aN))) (tE most (2 + v) kv2 y5 z6 z7 z8) (cup a4 b4) = .nx (tF most (2 + v) kv3 y5 z6 z7 z8 [] .un .un .un) (cup a5 b5) ∧ KOk (2 + v) kv3 ∧ kv3.length ≤ 12 ∧ 1 ≤ kv3.length ∧ kv3.length + unt (kEs kv3) (2 + v).toNat ≤ 12 := by
    by_cases h0 : kv2.length = 0
    · obtain ⟨u, a5, b5, e5, u0, u1⟩ := roll_at a4 b4 9 (by decide) (by decide)
      have pd : putD (.tup [.int 0, .int 1]) (.int (1 + u)) (.dT kv2) = some (.dT (putA kv2 [.inl 0, .inl 1] (.int (1 + u)))) := putD_T rfl (by show kv2.length < 100000; omega)
      have pl := putA_len kv2 [.inl 0, .inl 1] (.int (1 + u))
      refine ⟨putA kv2 [.inl 0, .inl 1] (.int (1 + u)), a5, b5, ?_, hk2.put (by decide) (by decide) (by omega) (by omega) (by omega), by omega, pl.2, ?_⟩
      rotate_left
      · have h0' : kv2 = [] := List.length_eq_zero_iff.mp h0
        subst h0'
        have q := Pot.put (kvs := []) (n := (2 + v).toNat) (b := (2 + v).toNat) (x := 0) (y := 1) (v := .int (1 + u)) (.inl rfl) (by decide) (by decide) (by omega) (by omega)
        rcases q with q | q
        · have := pl.2; rw [q] at this; simp at this
        · omega
      have h0' : kv2 = [] := List.length_eq_zero_iff.mp h0
      subst h0'
      simp [tE, tF, e5, gTup_ok, gLst_ok, pd]
    · have h0' : (kv2.length == 0) = false := by simpa using h0
      refine ⟨kv2, a4, b4, ?_, hk2, hl2, by omega, ?_⟩
      rotate_left
      · rcases hp2 with hp2 | hp2
        · rw [hp2] at h0; exact absurd rfl h0
        · omega
      simp [tE, tF, h0', gLst_ok, -List.length_eq_zero_iff, -beq_iff_eq]
      try (simp [h0'])
  obtain ⟨kv3, a5, b5, e5, hk3, hl3, hl1, hpp⟩ := one
  obtain ⟨L, p1, p2⟩ := pairs_of hk3
  have hLl : L.length = kv3.length := by
    have := congrArg List.length p1
    simpa using this.symm
  have srt := sort_pairs L
  obtain ⟨ss, z10, z11, z12, a6, b6, e6, hs, he⟩ := loop3 most (2 + v) kv3 y5 z6 z7 z8 hk3 (L.mergeSort fun a b => !W.dataLt (pairP b) (pairP a)) (fun p hp => by
    rw [p2]
    exact List.mem_map.mpr ⟨p, (List.mergeSort_perm L _).mem_iff.mp hp, rfl⟩) (by rw [(List.mergeSort_perm L _).length_eq]; omega) a5 b5
  have hsl : ss.length = kv3.length := by
    have := congrArg List.length he
    rw [List.length_map, List.length_map, (List.mergeSort_perm L _).length_eq, hLl] at this
    exact this
  have hnd : (ss.map ends).Nodup := by
    rw [he]
    have q : (kv3.map (·.1)).Nodup := hk3.nd
    rw [p2] at q
    have q2 : L.Nodup := List.Pairwise.of_map (fun p : Int × Int => ([.inl p.1, .inl p.2] : List Key)) (fun a b hne e => hne (by rw [e])) q
    have q3 : (L.mergeSort fun a b => !W.dataLt (pairP b) (pairP a)).Nodup := (List.mergeSort_perm L _).nodup_iff.mpr q2
    unfold List.Nodup
    rw [List.pairwise_map]
    exact q3.imp fun hne e => hne (by simp at e; exact Prod.ext e.1 e.2)
  have st := sort_streets ss
  refine ⟨2 + v, ss.mergeSort fun a b => !W.dataLt (sP b) (sP a), a6, b6, ?_, okT_sort n2 n8 (by omega) (by omega) hs hnd, by omega, ?_⟩
  rotate_left
  · rw [(List.mergeSort_perm ss _).length_eq, hsl]
    have hu : unt ((ss.mergeSort fun a b => !W.dataLt (sP b) (sP a)).map ends) (2 + v).toNat = unt (kEs kv3) (2 + v).toNat := by
      refine unt_congr fun c => ?_
      rw [tch_iff, tch_iff]
      have pm : ((ss.mergeSort fun a b => !W.dataLt (sP b) (sP a)).map ends).Perm ((L.map fun p => [p.1, p.2])) := by
        refine ((List.mergeSort_perm ss _).map ends).trans ?_
        rw [he]
        exact (List.mergeSort_perm L _).map _
      have ek : kEs kv3 = L.map fun p => [p.1, p.2] := by unfold kEs; rw [p2, List.map_map]; rfl
      rw [ek]
      exact ⟨fun ⟨e, h, z⟩ => ⟨e, pm.mem_iff.mp h, z⟩, fun ⟨e, h, z⟩ => ⟨e, pm.mem_iff.mpr h, z⟩⟩
    omega
  have g1 : gSort (cup a5 b5) [.dT kv3] = some (.lst ((L.mergeSort fun a b => !W.dataLt (pairP b) (pairP a)).map pairD)) := by
    rw [← srt.2]
    refine gSort_of (ds := L.map pairD) ?_ srt.1 (by rw [List.length_map]; show L.length ≤ 100000; omega)
    show some (kv3.map fun kv => D.tup (kv.1.map keyD)) = _
    rw [p1]
  have g2 : gSort (cup a6 b6) [.lst (ss.map sD)] = some (.lst ((ss.mergeSort fun a b => !W.dataLt (sP b) (sP a)).map sD)) := by
    rw [← st.2]
    exact gSort_of (ds := ss.map sD) rfl st.1 (by rw [List.length_map]; show ss.length ≤ 100000; omega)
  have hb : b__law_town = sSeq (sPar2 3 4 false true (op2 gAdd (eC (.int 2)) (callD 2 d__law_roll (aC (eV 0) (aC (op2 gSub (eB 1) (eC (.int 1))) aN)))) (eC (.dT [])))
      (sSeq (sFor (iRg2 (eC (.int 1)) (eV 3)) (pN 5) t1b) (sSeq (sFor (iRg1 (callD 2 d__law_roll (aC (eV 0) (aC (eC (.int 6)) aN)))) (pN 6) t2b)
      (sSeq (sIf (bE (op2 (gEqA false) (eB 4) (eC (.dK []))))
        (sPut 4 (opN gTup (aC (eC (.int 0)) (aC (eC (.int 1)) aN))) (op2 gAdd (eC (.int 1)) (callD 2 d__law_roll (aC (eV 0) (aC (eC (.int 9)) aN)))))
        sNext) (sSeq (sOwn 9 (opN gLst aN)) (sSeq (sFor (iAny (opN gSort (aC (eB 4) aN))) (pN 10) t3b)
      (sRet (opN gTup (aC (eV 3) (aC (opN gTupleOf (aC (opN gSort (aC (eB 9) aN)) aN)) aN))))))))) := rfl
  have r1 : d__law_roll [.cell 0, .int (most - 1)] (cup a b) = .ok (.int v) (cup a1 b1) := e1
  have s1 : sPar2 3 4 false true (op2 gAdd (eC (.int 2)) (callD 2 d__law_roll (aC (eV 0) (aC (op2 Q.gSub (eB 1) (eC (.int 1))) aN)))) (eC (.dT [])) (startR 13 [.cell 0, .int most, KL]) (cup a b) = .nx (tE most (2 + v) [] .un .un .un .un) (cup a1 b1) := by
    simp [tE, r1, List.replicate]
  have s2 : sFor (iRg2 (eC (.int 1)) (eV 3)) (pN 5) t1b (tE most (2 + v) [] .un .un .un .un) (cup a1 b1) = .nx (tE most (2 + v) kvs z5 .un .un .un) (cup a2 b2) := by
    rw [sFor_ap, iRg2_ap, eC_ap, rg2_ok, eV_ap]
    show for1 (rg3 (.int 1) (.ok (.int (2 + v)) (cup a1 b1))) _ _ _ = _
    rw [rg3_ok (by omega), for1_ok]
    exact e2
  have s3 : sFor (iRg1 (callD 2 d__law_roll (aC (eV 0) (aC (eC (.int 6)) aN)))) (pN 6) t2b (tE most (2 + v) kvs z5 .un .un .un) (cup a2 b2) = .nx (tE most (2 + v) kv2 y5 z6 z7 z8) (cup a4 b4) := by
    rw [sFor_ap, iRg1_ap]
    have : callD 2 d__law_roll (aC (eV 0) (aC (eC (.int 6)) aN)) (tE most (2 + v) kvs z5 .un .un .un) (cup a2 b2) = .ok (.int w) (cup a3 b3) := by simp [tE, e3]
    rw [this, rg1_ok (by omega), for1_ok]
    exact e4
  have s6 : sFor (iAny (opN gSort (aC (eB 4) aN))) (pN 10) t3b (tF most (2 + v) kv3 y5 z6 z7 z8 [] .un .un .un) (cup a5 b5) = .nx (tF most (2 + v) kv3 y5 z6 z7 z8 (ss.map sD) z10 z11 z12) (cup a6 b6) := by
    rw [sFor_ap, iAny_ap]
    have : opN gSort (aC (eB 4) aN) (tF most (2 + v) kv3 y5 z6 z7 z8 [] .un .un .un) (cup a5 b5) = .ok (.lst ((L.mergeSort fun a b => !W.dataLt (pairP b) (pairP a)).map pairD)) (cup a5 b5) := by simp [tF, g1]
    rw [this, it1_ok, iterD_lst, it2_some, for1_ok]
    exact e6
  have s7 : sRet (opN gTup (aC (eV 3) (aC (opN gTupleOf (aC (opN gSort (aC (eB 9) aN)) aN)) aN))) (tF most (2 + v) kv3 y5 z6 z7 z8 (ss.map sD) z10 z11 z12) (cup a6 b6) = .rt false (townD (2 + v) (ss.mergeSort fun a b => !W.dataLt (sP b) (sP a))) (cup a6 b6) := by
    simp [tF, g2, gTupleOf_l, gTup_ok, townD]
  have assoc : ∀ (f g h : Sd) (r : Q.Env) (m : Sto), sSeq f (sSeq g h) r m = seq1 (sSeq f g r m) h := fun f g h r m => by
    rw [sSeq_ap, sSeq_ap]
    cases f r m <;> rfl
  unfold d__law_town
  rw [bodyD_ap, hb, sSeq_ap, s1, seq1_nx, sSeq_ap, s2, seq1_nx, sSeq_ap, s3, seq1_nx, assoc, e5, seq1_nx, sSeq_ap, s6, seq1_nx, s7]
  rfl
theorem town_of [Roll] (Ks : List Str) (h1 : 0 < Ks.length) (h2 : Ks.length < 1000) (h3 : ∀ k ∈ Ks, k ∈ kinds) (a b most : Int) (h4 : 2 ≤ most) (h8 : most ≤ 8) : ∃ n ss a' b', d__law_town [.cell 0, .int most, .lst (Ks.map D.str)] (cup a b) = .ok (townD n ss) (cup a' b') ∧ OkT n ss ∧ n ≤ most ∧ ss.length + unt (ss.map ends) n.toNat ≤ 12 :=
  @town_at _ ⟨Ks, h1, h2, h3⟩ a b most h4 h8
end T
end
section
set_option Elab.async false
set_option linter.all false
set_option maxRecDepth 100000
namespace T
open PySem L2 Q
def hasStep (x y : Int) (s : Stt) : Bool := (s.1 == x && s.2.1 == y) || (s.1 == y && s.2.1 == x && !(s.2.2.2 == ("lane" : Str)))
def findAt (ss : List Stt) (x y : Int) : Option Nat := ss.findIdx? (hasStep x y)
theorem step_ends {x y : Int} {s : Stt} (h : hasStep x y s = true) : ends s = [if y < x then y else x, if x < y then y else x] := by
  unfold hasStep at h
  simp at h
  unfold ends
  rcases h with ⟨rfl, rfl⟩ | ⟨⟨h1, h2⟩, _⟩
  · rfl
  · rw [h1, h2]
    by_cases h3 : x < y
    · rw [if_pos h3, if_neg (by omega), if_neg (by omega), if_pos h3]
    · by_cases h4 : y < x
      · rw [if_neg h3, if_pos h4, if_pos h4, if_neg h3]
      · have : x = y := by omega
        subst this; simp
theorem find_uniq {ss : List Stt} (hn : (ss.map ends).Nodup) {x y : Int} {i : Nat} {s : Stt} (hi : ss[i]? = some s) (h : hasStep x y s = true) : findAt ss x y = some i := by
  unfold findAt
  obtain ⟨hl, e⟩ := List.getElem?_eq_some_iff.mp hi
  rw [List.findIdx?_eq_some_iff_getElem]
  refine ⟨hl, by rw [e]; exact h, fun j hj hp => ?_⟩
  have q1 : (ss.map ends)[i]? = some [if y < x then y else x, if x < y then y else x] := by rw [List.getElem?_map, hi, Option.map_some, step_ends h]
  have q2 : (ss.map ends)[j]? = some [if y < x then y else x, if x < y then y else x] := by rw [List.getElem?_map, List.getElem?_eq_getElem (by omega), Option.map_some, step_ends hp]
  have := (List.getElem?_inj (List.getElem?_eq_some_iff.mp q1).1 hn).mp (q1.trans q2.symm)
  omega
theorem find_some {ss : List Stt} {x y : Int} {i : Nat} (h : findAt ss x y = some i) : ∃ s, ss[i]? = some s ∧ hasStep x y s = true := by
  unfold findAt at h
  rw [List.findIdx?_eq_some_iff_getElem] at h
  obtain ⟨hl, hp, _⟩ := h
  exact ⟨ss[i], by simp [hl], hp⟩
/-- the table of steps -/
structure SOk (ss : List Stt) (k : Nat) (kvs : List (List Key × D)) : Prop where
  nd : (kvs.map (·.1)).Nodup
  ok : ∀ p ∈ kvs, ∃ (x y : Int) (i : Nat), p = ([.inl x, .inl y], .int (i : Int)) ∧ findAt ss x y = some i
  all : ∀ (x y : Int) (i : Nat), findAt ss x y = some i → i < k → [.inl x, .inl y] ∈ kvs.map (·.1)
theorem putA_key {kvs : List (List Key × D)} {k k' : List Key} {v : D} (h : k' ∈ kvs.map (·.1) ∨ k' = k) : k' ∈ (putA kvs k v).map (·.1) := by
  rw [putA_keys]
  split
  · rename_i z
    rcases h with h | h
    · exact h
    · rw [h]; exact z
  · rcases h with h | h
    · exact List.mem_append_left _ h
    · rw [h]; simp
def sE (n : Int) (ss : List Stt) (kvs : List (List Key × D)) (z2 z3 z4 z5 z6 : Sl) : Q.Env := [.dat (townD n ss), .own (.dT kvs), z2, z3, z4, z5, z6]
def stb : Sd := sSeq (sPut 1 (opN gTup (aC (eV 3) (aC (eV 4) aN))) (eV 2))
  (sIf (bE (op2 (gEqA true) (eB 6) (eC (.str "lane"))))
  (sPut 1 (opN gTup (aC (eV 4) (aC (eV 3) aN))) (eV 2))
  sNext)
def stp : Pat := pT (pCons (pN 2) (pCons (pT (pCons (pN 3) (pCons (pN 4) (pCons (pN 5) (pCons (pN 6) pNil))))) pNil))
def IS (n : Int) (ss : List Stt) (m0 : Sto) : Nat → Q.Env → Sto → Prop := fun i r m => ∃ kvs z2 z3 z4 z5 z6, r = sE n ss kvs z2 z3 z4 z5 z6 ∧ m = m0 ∧ SOk ss i kvs ∧ kvs.length ≤ 2 * i
theorem enum_get {ds : List D} {i : Nat} {d : D} (h : (enumD ds)[i]? = some d) : ∃ x, ds[i]? = some x ∧ d = .tup [.int (i : Int), x] := by
  unfold enumD at h
  rw [List.getElem?_map] at h
  obtain ⟨j, hj, rfl⟩ := Option.map_eq_some_iff.mp h
  obtain ⟨h1, h2⟩ := List.getElem?_eq_some_iff.mp hj
  simp at h1 h2
  subst h2
  refine ⟨ds[i], by simp [h1], ?_⟩
  rw [List.getD_eq_getElem?_getD, List.getElem?_eq_getElem h1]; rfl
theorem steps_at {n : Int} {ss : List Stt} (h : OkT n ss) (m : Sto) : ∃ kvs, d_steps_in [townD n ss] m = .ok (.dT kvs) m ∧ SOk ss ss.length kvs ∧ kvs.length ≤ 24 := by
  have step : ∀ (i : Nat) (d : D) (r : Q.Env) (m' : Sto), (enumD (ss.map sD))[i]? = some d → IS n ss m (0 + i) r m' →
      ∃ r', stp d r = some r' ∧ ∃ r2 m2, (stb r' m' = .nx r2 m2 ∨ stb r' m' = .ct r2 m2) ∧ IS n ss m (0 + i + 1) r2 m2 := by
    rintro i d r m' hd ⟨kvs, z2, z3, z4, z5, z6, rfl, rfl, hk, hl⟩
    rw [Nat.zero_add] at hk hl ⊢
    obtain ⟨x, hx, rfl⟩ := enum_get hd
    rw [List.getElem?_map] at hx
    obtain ⟨s, hs, rfl⟩ := Option.map_eq_some_iff.mp hx
    obtain ⟨a, b, l, k⟩ := s
    have hi : i < ss.length := (List.getElem?_eq_some_iff.mp hs).1
    have h12 := h.l12
    have hkk : k ∈ kinds := (h.ok _ (List.mem_of_getElem? hs)).1
    refine ⟨_, rfl, ?_⟩
    have f1 : findAt ss a b = some i := find_uniq h.nd hs (by simp [hasStep])
    have pd : ∀ (kv : List (List Key × D)) (u w : Int), kv.length ≤ 100 → putD (.tup [.int u, .int w]) (.int (i : Int)) (.dT kv) = some (.dT (putA kv [.inl u, .inl w] (.int (i : Int)))) := fun kv u w hkv => putD_T rfl (by show kv.length < 100000; omega)
    have p1 := putA_len kvs [.inl a, .inl b] (.int (i : Int))
    by_cases hln : k = ("lane" : Str)
    · have gl : ∀ m : Sto, gEqA true m (.str k) (.str ("lane" : Str)) = some (.bl false) := fun m => by rw [gNe_s (kind_s hkk) lane_s, decide_eq_true hln]; rfl
      refine ⟨sE n ss (putA kvs [.inl a, .inl b] (.int (i : Int))) (.dat (.int (i : Int))) (.dat (.int a)) (.dat (.int b)) (.dat (.int l)) (.dat (.str k)), m', .inl ?_, _, _, _, _, _, _, rfl, rfl, ⟨putA_nd hk.nd, fun p hp => ?_, fun x y j hj hjk => ?_⟩, by omega⟩
      · simp [stb, sE, sD, gTup_ok, pd kvs a b (by omega), gl]
      · rcases putA_mem hp with hp | hp
        · exact hk.ok p hp
        · exact ⟨a, b, i, hp, f1⟩
      · rcases Nat.lt_or_ge j i with c | c
        · exact putA_key (.inl (hk.all x y j hj c))
        · have : j = i := by omega
          subst this
          obtain ⟨s', hs', hst⟩ := find_some hj
          rw [hs] at hs'; cases hs'
          unfold hasStep at hst
          simp [hln] at hst
          exact putA_key (.inr (by rw [hst.1, hst.2]))
    · have gl : ∀ m : Sto, gEqA true m (.str k) (.str ("lane" : Str)) = some (.bl true) := fun m => by rw [gNe_s (kind_s hkk) lane_s, decide_eq_false hln]; rfl
      have f2 : findAt ss b a = some i := find_uniq h.nd hs (by simp [hasStep, hln])
      have p2 := putA_len (putA kvs [.inl a, .inl b] (.int (i : Int))) [.inl b, .inl a] (.int (i : Int))
      refine ⟨sE n ss (putA (putA kvs [.inl a, .inl b] (.int (i : Int))) [.inl b, .inl a] (.int (i : Int))) (.dat (.int (i : Int))) (.dat (.int a)) (.dat (.int b)) (.dat (.int l)) (.dat (.str k)), m', .inl ?_, _, _, _, _, _, _, rfl, rfl, ⟨putA_nd (putA_nd hk.nd), fun p hp => ?_, fun x y j hj hjk => ?_⟩, by omega⟩
      · simp [stb, sE, sD, gTup_ok, pd kvs a b (by omega), pd _ b a (show (putA kvs [.inl a, .inl b] (.int (i : Int))).length ≤ 100 by omega), gl]
      · rcases putA_mem hp with hp | hp
        · rcases putA_mem hp with hp | hp
          · exact hk.ok p hp
          · exact ⟨a, b, i, hp, f1⟩
        · exact ⟨b, a, i, hp, f2⟩
      · rcases Nat.lt_or_ge j i with c | c
        · exact putA_key (.inl (putA_key (.inl (hk.all x y j hj c))))
        · have : j = i := by omega
          subst this
          obtain ⟨s', hs', hst⟩ := find_some hj
          rw [hs] at hs'; cases hs'
          unfold hasStep at hst
          simp [hln] at hst
          rcases hst with hst | hst
          · exact putA_key (.inl (putA_key (.inr (by rw [hst.1, hst.2]))))
          · exact putA_key (.inr (by rw [hst.1, hst.2]))
  have i0 : IS n ss m 0 (sE n ss [] .un .un .un .un .un) m := ⟨[], .un, .un, .un, .un, .un, rfl, rfl, ⟨List.nodup_nil, fun p hp => (by cases hp), fun _ _ _ _ h => (by omega)⟩, by simp⟩
  obtain ⟨r', m', e, kvs, z2, z3, z4, z5, z6, rfl, rfl, hk, hl⟩ := forD_inv (p := stp) (b := stb) (IS n ss m) (enumD (ss.map sD)) 0 _ _ step i0
  have hle : (enumD (ss.map sD)).length = ss.length := by unfold enumD; simp
  rw [hle, Nat.zero_add] at hk hl
  have h12 := h.l12
  refine ⟨kvs, ?_, hk, by omega⟩
  have hb : b_steps_in = sSeq (sOwn 1 (eC (.dT []))) (sSeq (sFor (iEn (op2 gGet (eB 0) (eC (.int 1)))) stp stb) (sSeq (sFrz 1) (sRet (eV 1)))) := rfl
  have q1 : gGet m' (townD n ss) (.int 1) = some (.tup (ss.map sD)) := by unfold townD; simp
  have s1 : sFor (iEn (op2 gGet (eB 0) (eC (.int 1)))) stp stb (sE n ss [] .un .un .un .un .un) m' = .nx (sE n ss kvs z2 z3 z4 z5 z6) m' := by
    rw [sFor_ap, iEn_ap]
    have : op2 gGet (eB 0) (eC (.int 1)) (sE n ss [] .un .un .un .un .un) m' = .ok (.tup (ss.map sD)) m' := by simp [sE, q1]
    rw [this, en1_tup, for1_ok]
    exact e
  unfold d_steps_in
  rw [bodyD_ap, hb, sSeq_ap]
  have s0 : sOwn 1 (eC (.dT [])) (startR 7 [townD n ss]) m' = .nx (sE n ss [] .un .un .un .un .un) m' := by simp [sE, List.replicate]
  rw [s0, seq1_nx, sSeq_ap, s1, seq1_nx]
  simp [sE]
end T
namespace T
open PySem L2 Q
def lenAt (ss : List Stt) (c y : Int) : Int := match findAt ss c y with
  | some i => (match ss[i]? with
    | some s => s.2.2.1
    | none => 0)
  | none => 0
/-- the steps from c: pairs of corner and length, in the table's order -/
def stepsP (ss : List Stt) (c : Int) (kvs : List (List Key × D)) : List (Int × Int) := kvs.filterMap fun kv => match kv.1 with
  | [.inl x, .inl y] => if x = c then some (y, lenAt ss c y) else none
  | _ => none
theorem lc_filterMap {p : Pat} {t : Bd} {f : Ed} {r : Q.Env} {m : Sto} {α β : Type} (dA : α → D) (dB : β → D) (g : α → Option β) : ∀ l : List α, (∀ a ∈ l, ∃ r', p (dA a) r = some r' ∧ ((g a = none ∧ t r' m = .ok false m) ∨ ∃ b, g a = some b ∧ t r' m = .ok true m ∧ f r' m = .ok (dB b) m)) → lcD p t f r (l.map dA) m = .ok ((l.filterMap g).map dB) m
  | [], _ => rfl
  | a :: l, h => by
    have ih := lc_filterMap dA dB g l fun a ha => h a (by simp [ha])
    obtain ⟨r', h1, h2⟩ := h a (by simp)
    rw [List.map_cons]
    unfold lcD
    simp only [h1]
    rcases h2 with ⟨h2, h3⟩ | ⟨b, h2, h3, h4⟩
    · rw [h3]
      simp only [Res.bindS]
      rw [List.filterMap_cons, h2]
      simpa using ih
    · rw [h3]
      simp only [Res.bindS, if_true, h4, ih]
      rw [List.filterMap_cons, h2]; rfl
theorem nexts_at {n : Int} {ss : List Stt} (h : OkT n ss) (c : Int) (m : Sto) : ∃ kvs, SOk ss ss.length kvs ∧ d_nexts_in [townD n ss, .int c] m = .ok (.lst (((stepsP ss c kvs).mergeSort fun a b => !W.dataLt (pairP b) (pairP a)).map pairD)) m := by
  obtain ⟨kvs, e, hk, hl⟩ := steps_at h m
  refine ⟨kvs, hk, ?_⟩
  have q1 : gGet m (townD n ss) (.int 1) = some (.tup (ss.map sD)) := by unfold townD; simp
  have hlc : lcD (pT (pCons (pN 3) (pCons (pN 4) pNil))) (bE (op2 (gEqA false) (eB 3) (eB 1))) (opN gTup (aC (eV 4) (aC (op2 gGet (op2 gGet (op2 gGet (eB 0) (eC (.int 1))) (op2 gGet (eB 2) (opN gTup (aC (eV 3) (aC (eV 4) aN))))) (eC (.int 2))) aN)))
      [.dat (townD n ss), .dat (.int c), .dat (.dT kvs), .un, .un] (kvs.map fun kv => D.tup (kv.1.map keyD)) m = .ok ((stepsP ss c kvs).map pairD) m := by
    refine lc_filterMap _ pairD _ kvs fun kv hkv => ?_
    obtain ⟨x, y, i, rfl, hi⟩ := hk.ok kv hkv
    refine ⟨_, rfl, ?_⟩
    by_cases hx : x = c
    · subst hx
      right
      obtain ⟨s, hs, _⟩ := find_some hi
      refine ⟨(y, lenAt ss x y), by simp, by simp [keyD], ?_⟩
      have g1 : gGet m (.dT kvs) (.tup [.int x, .int y]) = some (.int (i : Int)) := gGet_T (k := [.inl x, .inl y]) rfl (getA_of hk.nd hkv)
      have g2 : atI (ss.map sD) (i : Int) = some (sD s) := Q.atI_nat (by rw [List.getElem?_map, hs]; rfl)
      have g3 : lenAt ss x y = s.2.2.1 := by unfold lenAt; rw [hi]; simp [hs]
      simp [keyD, gTup_ok, q1, g1, g2, g3, pairD, sD]
    · left
      simp [hx, keyD]
  have hpl : (stepsP ss c kvs).length ≤ 100000 := by
    have : (stepsP ss c kvs).length ≤ kvs.length := List.length_filterMap_le _ _
    omega
  have st := sort_pairs (stepsP ss c kvs)
  have g4 : gSort m [.lst ((stepsP ss c kvs).map pairD)] = some (.lst (((stepsP ss c kvs).mergeSort fun a b => !W.dataLt (pairP b) (pairP a)).map pairD)) := by
    rw [← st.2]
    exact gSort_of (ds := (stepsP ss c kvs).map pairD) rfl st.1 (by rw [List.length_map]; exact hpl)
  have w : wipeR [.dat (townD n ss), .dat (.int c), .dat (.dT kvs), .un, .un] [3, 4] = [.dat (townD n ss), .dat (.int c), .dat (.dT kvs), .un, .un] := rfl
  have hkl : kvs.length ≤ 100000 := by omega
  simp only [d_nexts_in, b_nexts_in]
  simp [e, w, hlc, g4, hkl, List.replicate]
theorem from_at {n : Int} {ss : List Stt} (h : OkT n ss) {c : Int} (c0 : 0 ≤ c) (c1 : c < n) (m : Sto) : ∃ kvs, SOk ss ss.length kvs ∧ d_steps_from [townD n ss, .int c] m = .ok (.tup (((stepsP ss c kvs).mergeSort fun a b => !W.dataLt (pairP b) (pairP a)).map pairD)) m := by
  obtain ⟨kvs, hk, e⟩ := nexts_at h c m
  refine ⟨kvs, hk, ?_⟩
  have q0 : gGet m (townD n ss) (.int 0) = some (.int n) := by unfold townD; simp
  have t1 : d_need_town [townD n ss] m = .ok .non m := by simp [d_need_town, b_need_town, fits_ok h]
  have t2 : d_need_corner [townD n ss, .int c] m = .ok .non m := by
    have : (decide (0 ≤ c) && decide (c ≤ n - 1)) = true := by simp; omega
    simp [d_need_corner, b_need_corner, q0, whole_i, -Bool.and_eq_true, this]
  have t3 : d_need_at [townD n ss, .int c] m = .ok .non m := by simp [d_need_at, b_need_at, t1, t2]
  simp [d_steps_from, b_steps_from, t3, e, gTupleOf_l]
end T
end
section
set_option Elab.async false
set_option linter.all false
set_option maxRecDepth 100000
namespace Q
open PySem L2
theorem gEq_pair {m : Sto} {a b c d : Int} : gEqA false m (.tup [.int a, .int b]) (.tup [.int c, .int d]) = some (.bl (a == c && b == d)) := by
  show (deq (.tup [.int a, .int b]) (.tup [.int c, .int d])).map D.bl = _
  have : deq (.tup [.int a, .int b]) (.tup [.int c, .int d]) = some (a == c && b == d) := by
    unfold deq
    show (if (SeqAt.shaped (.tuple [.int a, .int b]) && SeqAt.shaped (.tuple [.int c, .int d])) = true then some (PyData.eqv (.tuple [.int a, .int b]) (.tuple [.int c, .int d])) else none) = _
    rw [if_pos (by rfl)]
    simp [PyData.eqv, PyData.eqvAll]
  rw [this]; rfl
theorem forD_find {p : Pat} {b : Sd} {m : Sto} (I : Q.Env → Prop) (c : Nat → Bool) (res : Nat → D) : ∀ (ds : List D) (k : Nat) (r : Q.Env), I r →
    (∀ i d r, ds[i]? = some d → I r → ∃ r', p d r = some r' ∧ ((c (k + i) = true ∧ b r' m = .rt false (res (k + i)) m) ∨ (c (k + i) = false ∧ ∃ r2, b r' m = .nx r2 m ∧ I r2))) →
    (∃ i, i < ds.length ∧ c (k + i) = true ∧ (∀ j, j < i → c (k + j) = false) ∧ forD p b ds r m = .rt false (res (k + i)) m) ∨ ((∀ i, i < ds.length → c (k + i) = false) ∧ ∃ r', forD p b ds r m = .nx r' m ∧ I r')
  | [], k, r, h, _ => .inr ⟨fun i hi => by simp at hi, r, rfl, h⟩
  | d :: ds, k, r, h, hs => by
    obtain ⟨r', h1, h2⟩ := hs 0 d r rfl h
    rcases h2 with ⟨h2, h3⟩ | ⟨h2, r2, h3, h4⟩
    · refine .inl ⟨0, by simp, h2, fun j hj => by omega, ?_⟩
      unfold forD
      rw [h1]
      simp only [h3]
    · have ih := forD_find I c res ds (k + 1) r2 h4 (fun i d r hd hi => by
        have := hs (i + 1) d r (by simpa using hd) hi
        rw [show k + (i + 1) = k + 1 + i by omega] at this
        exact this)
      have e : forD p b (d :: ds) r m = forD p b ds r2 m := by
        simp only [forD, h1, h3]
      rcases ih with ⟨i, q1, q2, q3, q4⟩ | ⟨q1, r3, q2, q3⟩
      · refine .inl ⟨i + 1, by simp; omega, by rw [show k + (i + 1) = k + 1 + i by omega]; exact q2, fun j hj => ?_, by rw [e, q4, show k + (i + 1) = k + 1 + i by omega]⟩
        cases j with
        | zero => exact h2
        | succ j => rw [show k + (j + 1) = k + 1 + j by omega]; exact q3 j (by omega)
      · refine .inr ⟨fun i hi => ?_, r3, by rw [e]; exact q2, q3⟩
        cases i with
        | zero => exact h2
        | succ i => rw [show k + (i + 1) = k + 1 + i by omega]; exact q1 i (by simp at hi; omega)
end Q
namespace T
open PySem L2 Q
def foundD (o : Option Nat) : D := match o with
  | some i => .int (i : Int)
  | none => .non
def lsb : Sd := sSeq (sSet 4 (op2 gGet (op2 gGet (eB 0) (eC (.int 1))) (eB 3)))
  (sIf (bOr (bE (op2 (gEqA false) (eSl (eB 4) oN (oS (eC (.int 2)))) (opN gTup (aC (eV 1) (aC (eV 2) aN))))) (bAnd (bE (op2 (gEqA false) (eSl (eB 4) oN (oS (eC (.int 2)))) (opN gTup (aC (eV 2) (aC (eV 1) aN))))) (bE (op2 (gEqA true) (op2 gGet (eB 4) (eC (.int 3))) (eC (.str "lane"))))))
  (sRet (eV 3))
  sNext)
theorem step_at {n : Int} {ss : List Stt} (h : OkT n ss) (x y : Int) (m : Sto) : d__law_step [townD n ss, .int x, .int y] m = .ok (foundD (findAt ss x y)) m := by
  have q1 : gGet m (townD n ss) (.int 1) = some (.tup (ss.map sD)) := by unfold townD; simp
  have h12 := h.l12
  have key := forD_find (p := pN 3) (b := lsb) (m := m) (fun r => ∃ z3 z4, r = [.dat (townD n ss), .dat (.int x), .dat (.int y), z3, z4]) (fun i => match ss[i]? with
    | some s => hasStep x y s
    | none => false) (fun i => .int (i : Int)) (rangeD 0 ss.length) 0 [.dat (townD n ss), .dat (.int x), .dat (.int y), .un, .un] ⟨_, _, rfl⟩ (by
    rintro i d r hd ⟨z3, z4, rfl⟩
    rw [Nat.zero_add]
    obtain ⟨hi, rfl⟩ := mem_range hd
    refine ⟨_, rfl, ?_⟩
    have hs : ss[i]? = some ss[i] := by simp [hi]
    obtain ⟨s, hse⟩ : ∃ s, ss[i] = s := ⟨_, rfl⟩
    rw [hse] at hs
    obtain ⟨a, b, l, k⟩ := s
    have hkk : k ∈ kinds := (h.ok _ (List.mem_of_getElem? hs)).1
    have g2 : atI (ss.map sD) (i : Int) = some (sD (a, b, l, k)) := Q.atI_nat (by rw [List.getElem?_map, hs]; rfl)
    rw [hs]
    have ev : lsb (List.set [.dat (townD n ss), .dat (.int x), .dat (.int y), z3, z4] 3 (.dat (.int (0 + (i : Int))))) m = if hasStep x y (a, b, l, k) = true then .rt false (.int (i : Int)) m else .nx [.dat (townD n ss), .dat (.int x), .dat (.int y), .dat (.int (i : Int)), .dat (sD (a, b, l, k))] m := by
      by_cases c1 : a = x ∧ b = y
      · obtain ⟨rfl, rfl⟩ := c1
        simp [lsb, q1, g2, hasStep, sD, gTup_ok, gEq_pair]
      · have c1' : (a == x && b == y) = false := by
          rw [← Bool.not_eq_true]; simpa using c1
        by_cases c2 : a = y ∧ b = x
        · obtain ⟨rfl, rfl⟩ := c2
          by_cases c3 : k = ("lane" : Str)
          · have gl : ∀ m : Sto, gEqA true m (.str k) (.str ("lane" : Str)) = some (.bl false) := fun m => by rw [gNe_s (kind_s hkk) lane_s, decide_eq_true c3]; rfl
            simp [lsb, q1, g2, hasStep, sD, gTup_ok, gEq_pair, c1', gl, -Bool.and_eq_true]
            simp [c3, c1']
          · have gl : ∀ m : Sto, gEqA true m (.str k) (.str ("lane" : Str)) = some (.bl true) := fun m => by rw [gNe_s (kind_s hkk) lane_s, decide_eq_false c3]; rfl
            simp [lsb, q1, g2, hasStep, sD, gTup_ok, gEq_pair, c1', gl, c3]
        · have c2' : (a == y && b == x) = false := by
            rw [← Bool.not_eq_true]; simpa using c2
          have hst : hasStep x y (a, b, l, k) = false := by
            unfold hasStep
            simp only [c1', c2']; rfl
          rw [hst]
          simp [lsb, q1, g2, sD, gTup_ok, gEq_pair, c1', c2']
    cases hst : hasStep x y (a, b, l, k) with
    | true => left; exact ⟨hst, by rw [hst] at ev; exact ev⟩
    | false => right; exact ⟨hst, _, by rw [hst] at ev; exact ev, _, _, rfl⟩)
  simp only [Nat.zero_add, range_len] at key
  have hb : b__law_step = sSeq (sFor (iRg1 (opN gLen (aC (op2 gGet (eB 0) (eC (.int 1))) aN))) (pN 3) lsb) (sRet (eC .non)) := rfl
  have s0 : iRg1 (opN gLen (aC (op2 gGet (eB 0) (eC (.int 1))) aN)) [.dat (townD n ss), .dat (.int x), .dat (.int y), .un, .un] m = .ok (rangeD 0 ss.length) m := by
    rw [iRg1_ap]
    have : opN gLen (aC (op2 gGet (eB 0) (eC (.int 1))) aN) [.dat (townD n ss), .dat (.int x), .dat (.int y), .un, .un] m = .ok (.int (ss.length : Nat)) m := by simp [q1]
    rw [this, rg1_ok (by omega)]; simp
  unfold d__law_step
  rw [bodyD_ap, hb, sSeq_ap, sFor_ap]
  show body1 false (seq1 (for1 (iRg1 (opN gLen (aC (op2 gGet (eB 0) (eC (.int 1))) aN)) [.dat (townD n ss), .dat (.int x), .dat (.int y), .un, .un] m) (pN 3) lsb [.dat (townD n ss), .dat (.int x), .dat (.int y), .un, .un]) _) = _
  rw [s0, for1_ok]
  rcases key with ⟨i, k1, k2, k3, k4⟩ | ⟨k1, r', k2, z3, z4, rfl⟩
  · have hs : ss[i]? = some ss[i] := by simp [k1]
    rw [hs] at k2
    rw [k4, find_uniq h.nd hs k2]
    rfl
  · have : findAt ss x y = none := by
      unfold findAt
      rw [List.findIdx?_eq_none_iff]
      intro s hs
      obtain ⟨i, hi⟩ := List.mem_iff_getElem?.mp hs
      have := k1 i (List.getElem?_eq_some_iff.mp hi).1
      rw [hi] at this
      exact this
    rw [k2, this]
    rfl
end T
namespace T
open PySem L2 Q
@[simp] theorem isn_n (m : Sto) : gIsN true m .non .non = some (.bl false) := rfl
@[simp] theorem isn_i (m : Sto) (i : Int) : gIsN true m (.int i) .non = some (.bl true) := rfl
theorem s1 {n : Int} {ss : List Stt} (h : OkT n ss) (c y : Int) (m : Sto) : callD 3 d__law_step (aC (eV 0) (aC (eV 1) (aC (eV 2) aN))) [.dat (townD n ss), .dat (.int c), .dat (.int y)] m = .ok (foundD (findAt ss c y)) m := by
  simp [step_at h]
theorem s2 {n : Int} {ss : List Stt} (h : OkT n ss) (c y : Int) (m : Sto) : bE (op2 (gIsN true) (callD 3 d__law_step (aC (eV 0) (aC (eV 1) (aC (eV 2) aN)))) (eC .non)) [.dat (townD n ss), .dat (.int c), .dat (.int y)] m = .ok (findAt ss c y).isSome m := by
  have := s1 h c y m
  rw [bE_ap, op2_ap, this]
  cases findAt ss c y with
  | none => rfl
  | some j => rfl
theorem s3 {n : Int} {ss : List Stt} (h : OkT n ss) (c y : Int) (m : Sto) : bAnd (bE (op2 (gEqA true) (eB 2) (eB 1))) (bE (op2 (gIsN true) (callD 3 d__law_step (aC (eV 0) (aC (eV 1) (aC (eV 2) aN)))) (eC .non))) [.dat (townD n ss), .dat (.int c), .dat (.int y)] m = .ok (decide (y ≠ c) && (findAt ss c y).isSome) m := by
  have q1 : bE (op2 (gEqA true) (eB 2) (eB 1)) [.dat (townD n ss), .dat (.int c), .dat (.int y)] m = .ok (!decide (y = c)) m := by simp
  rw [bAnd_ap, q1]
  by_cases e : y = c
  · rw [decide_eq_true e]; subst e; simp
  · rw [decide_eq_false e]
    show and1 (.ok true m) _ _ = _
    rw [and1_t, s2 h]; simp [e]
def nextG (ss : List Stt) (c : Int) (i : Nat) : Option Int := if (i : Int) ≠ c ∧ (findAt ss c (i : Int)).isSome = true then some (i : Int) else none
def nextL (n : Int) (ss : List Stt) (c : Int) : List Int := (List.range n.toNat).filterMap (nextG ss c)
def dueL (n : Int) (ss : List Stt) (c : Int) : List (Int × Int) := (nextL n ss c).map fun y => (y, lenAt ss c y)
theorem next_at {n : Int} {ss : List Stt} (h : OkT n ss) (c : Int) (m : Sto) : d__law_next [townD n ss, .int c] m = .ok (.lst ((nextL n ss c).map D.int)) m := by
  have q0 : gGet m (townD n ss) (.int 0) = some (.int n) := by unfold townD; simp
  have n8 := h.n8
  have n2 := h.n2
  have w : wipeR [.dat (townD n ss), .dat (.int c), .un] [2] = [.dat (townD n ss), .dat (.int c), .un] := rfl
  have hl : lcD (pN 2) (bAnd (bE (op2 (gEqA true) (eB 2) (eB 1))) (bE (op2 (gIsN true) (callD 3 d__law_step (aC (eV 0) (aC (eV 1) (aC (eV 2) aN)))) (eC .non)))) (eV 2) [.dat (townD n ss), .dat (.int c), .un] (rangeD 0 n.toNat) m = .ok (.map D.int (nextL n ss c)) m := by
    refine lc_filterMap (fun i : Nat => D.int (0 + (i : Int))) D.int (nextG ss c) _ fun i _ => ⟨[.dat (townD n ss), .dat (.int c), .dat (.int (i : Int))], by rw [Int.zero_add]; rfl, ?_⟩
    rw [s3 h]
    unfold nextG
    by_cases h1 : (i : Int) ≠ c ∧ (findAt ss c (i : Int)).isSome = true
    · right
      refine ⟨(i : Int), if_pos h1, ?_, rfl⟩
      rw [decide_eq_true h1.1, h1.2]; rfl
    · left
      refine ⟨if_neg h1, ?_⟩
      by_cases h2 : (i : Int) = c
      · rw [decide_eq_false (fun z => z h2)]; rfl
      · rw [decide_eq_true h2, Bool.eq_false_iff.mpr fun z => h1 ⟨h2, z⟩]; rfl
  have s0 : iRg1 (op2 gGet (eB 0) (eC (.int 0))) [.dat (townD n ss), .dat (.int c), .un] m = .ok (rangeD 0 n.toNat) m := by
    rw [iRg1_ap]
    have : op2 gGet (eB 0) (eC (.int 0)) [.dat (townD n ss), .dat (.int c), .un] m = .ok (.int n) m := by simp [q0]
    rw [this, rg1_ok (by omega)]
  unfold d__law_next b__law_next
  rw [bodyD_ap, sRet_ap, eLc_ap]
  show body1 false (ret1 false (lc1 (iRg1 (op2 gGet (eB 0) (eC (.int 0))) [.dat (townD n ss), .dat (.int c), .un] m) _ _ _ _ [.dat (townD n ss), .dat (.int c), .un])) = _
  rw [s0, lc1_ok (by rw [range_len]; show n.toNat ≤ 100000; omega), w, hl]
  rfl
theorem mem_steps {ss : List Stt} {c : Int} {kvs : List (List Key × D)} (hk : SOk ss ss.length kvs) (p : Int × Int) : p ∈ stepsP ss c kvs ↔ (findAt ss c p.1).isSome = true ∧ p.2 = lenAt ss c p.1 := by
  unfold stepsP
  rw [List.mem_filterMap]
  constructor
  · rintro ⟨kv, hkv, e⟩
    obtain ⟨x, y, i, rfl, hi⟩ := hk.ok kv hkv
    simp at e
    obtain ⟨rfl, rfl⟩ := e
    exact ⟨by rw [hi]; rfl, rfl⟩
  · rintro ⟨h1, h2⟩
    obtain ⟨i, hi⟩ := Option.isSome_iff_exists.mp h1
    obtain ⟨s, hs, _⟩ := find_some hi
    have := hk.all c p.1 i hi (List.getElem?_eq_some_iff.mp hs).1
    obtain ⟨kv, hkv, e⟩ := List.mem_map.mp this
    refine ⟨kv, hkv, ?_⟩
    rw [e]
    simp [← h2]
theorem nd_steps {ss : List Stt} {c : Int} {kvs : List (List Key × D)} (hk : SOk ss ss.length kvs) : (stepsP ss c kvs).Nodup := by
  unfold stepsP List.Nodup
  rw [List.pairwise_filterMap]
  have := hk.nd
  unfold List.Nodup at this
  rw [List.pairwise_map] at this
  refine this.imp_of_mem fun {a b} ha hb hne p hp q hq e => ?_
  obtain ⟨x, y, i, rfl, _⟩ := hk.ok a ha
  obtain ⟨x', y', i', rfl, _⟩ := hk.ok b hb
  simp at hp hq
  obtain ⟨rfl, rfl⟩ := hp
  obtain ⟨rfl, rfl⟩ := hq
  simp at e
  exact hne (by simp [e.1])
theorem mem_due {n : Int} {ss : List Stt} (h : OkT n ss) {c : Int} (p : Int × Int) : p ∈ dueL n ss c ↔ (findAt ss c p.1).isSome = true ∧ p.2 = lenAt ss c p.1 := by
  unfold dueL nextL
  rw [List.mem_map]
  constructor
  · rintro ⟨y, hy, rfl⟩
    obtain ⟨i, hi, e⟩ := List.mem_filterMap.mp hy
    unfold nextG at e
    split at e
    · rename_i z; cases e; exact ⟨z.2, rfl⟩
    · cases e
  · rintro ⟨h1, h2⟩
    obtain ⟨i, hi⟩ := Option.isSome_iff_exists.mp h1
    obtain ⟨s, hs, hst⟩ := find_some hi
    obtain ⟨_, o1, o2, o3, o4, _, _, o5⟩ := h.ok s (List.mem_of_getElem? hs)
    have hy : 0 ≤ p.1 ∧ p.1 < n ∧ p.1 ≠ c := by
      unfold hasStep at hst
      simp at hst
      rcases hst with ⟨rfl, e⟩ | ⟨⟨e, rfl⟩, _⟩
      · rw [← e]
        refine ⟨o3, o4, fun z => ?_⟩
        rcases o5 with o5 | o5
        · omega
        · exact o5.2 z.symm
      · rw [← e]
        refine ⟨o1, o2, fun z => ?_⟩
        rcases o5 with o5 | o5
        · omega
        · exact o5.2 z
    refine ⟨p.1, List.mem_filterMap.mpr ⟨p.1.toNat, List.mem_range.mpr (by omega), ?_⟩, by rw [← h2]⟩
    have e : ((p.1.toNat : Nat) : Int) = p.1 := by omega
    unfold nextG
    rw [e, if_pos ⟨hy.2.2, h1⟩]
theorem due_up {n : Int} {ss : List Stt} {c : Int} : (dueL n ss c).Pairwise fun a b => a.1 < b.1 := by
  unfold dueL nextL
  rw [List.pairwise_map, List.pairwise_filterMap]
  have : (List.range n.toNat).Pairwise (· < ·) := List.pairwise_lt_range
  refine this.imp fun {a b} hab p hp q hq => ?_
  unfold nextG at hp hq
  split at hp
  · split at hq
    · cases hp; cases hq; show (a : Int) < (b : Int); omega
    · cases hq
  · cases hp
theorem pair_le {a b : Int × Int} (h : a.1 < b.1) : W.dataLt (pairP b) (pairP a) = false := by
  unfold pairP
  rw [W.dataLt_ii]
  exact decide_eq_false (by omega)
theorem sorted_due {n : Int} {ss : List Stt} (h : OkT n ss) {c : Int} {kvs : List (List Key × D)} (hk : SOk ss ss.length kvs) : ((stepsP ss c kvs).mergeSort fun a b => !W.dataLt (pairP b) (pairP a)) = dueL n ss c := by
  have pm := List.mergeSort_perm (stepsP ss c kvs) fun a b => !W.dataLt (pairP b) (pairP a)
  have nd2 : (dueL n ss c).Nodup := due_up.imp fun hab e => by rw [e] at hab; omega
  have pq : (stepsP ss c kvs).Perm (dueL n ss c) := (List.perm_ext_iff_of_nodup (nd_steps hk) nd2).mpr fun p => (mem_steps hk p).trans (mem_due h p).symm
  refine List.Perm.eq_of_pairwise (le := fun a b => W.dataLt (pairP b) (pairP a) = false) (fun a b _ _ h1 h2 => ?_) (sorted_up pairP _) (due_up.imp fun hab => pair_le hab) (pm.trans pq)
  unfold pairP at h1 h2
  rw [W.dataLt_ii] at h1 h2
  have h1 := of_decide_eq_false h1
  have h2 := of_decide_eq_false h2
  exact Prod.ext (by omega) (by omega)
end T
end
section
set_option Elab.async false
set_option linter.all false
set_option maxRecDepth 100000
namespace T
open PySem L2 Q
theorem same_int (k : Nat) (i : Int) (m : Sto) : f__law_same (k + 1) [.int i, .int i] m = .ok (.bl true) m := by
  have e : gIsN false m (.int i) .non = some (.bl false) := rfl
  simp [f__law_same, b__law_same, e]
theorem sameA (k : Nat) (xs : List D) (m : Sto) (i : Nat) (h1 : i < xs.length) (h : f__law_same k [xs[i], xs[i]] m = .ok (.bl true) m) : callD 2 (f__law_same k) (aC (op2 gGet (eB 0) (eB 2)) (aC (op2 gGet (eB 1) (eB 2)) aN)) [.dat (.tup xs), .dat (.tup xs), .dat (.int (i : Int))] m = .ok (.bl true) m := by
  have g : gGet m (.tup xs) (.int (i : Int)) = some xs[i] := by rw [gGet_t]; exact Q.atI_nat (List.getElem?_eq_getElem h1)
  have q0 : op2 gGet (eB 0) (eB 2) [.dat (.tup xs), .dat (.tup xs), .dat (.int (i : Int))] m = .ok xs[i] m := by simp [g, -gGet_t]
  have q1 : op2 gGet (eB 1) (eB 2) [.dat (.tup xs), .dat (.tup xs), .dat (.int (i : Int))] m = .ok xs[i] m := by simp [g, -gGet_t]
  simp [q0, q1, h, -op2_ap]
end T
namespace T
open PySem L2 Q
def smR (xs : List D) : Q.Env := [.dat (.tup xs), .dat (.tup xs), .un]
theorem sameB (k : Nat) (xs : List D) (m : Sto) (hl : xs.length < 100000) : iRg1 (opN gLen (aC (eB 1) aN)) (smR xs) m = .ok (rangeD 0 xs.length) m := by
    rw [iRg1_ap]
    have : opN gLen (aC (eB 1) aN) (smR xs) m = .ok (.int (xs.length : Nat)) m := by unfold smR; simp
    rw [this, rg1_ok (by omega)]; rfl
theorem sameC (k : Nat) (xs : List D) (m : Sto) (hl : xs.length < 100000) (h : ∀ x ∈ xs, f__law_same k [x, x] m = .ok (.bl true) m) : eLc (iRg1 (opN gLen (aC (eB 1) aN))) (pN 2) bYes (callD 2 (f__law_same k) (aC (op2 gGet (eB 0) (eB 2)) (aC (op2 gGet (eB 1) (eB 2)) aN))) [2] (smR xs) m = .ok (.lst (List.replicate xs.length (.bl true))) m := by
  have hlc : lcD (pN 2) bYes (callD 2 (f__law_same k) (aC (op2 gGet (eB 0) (eB 2)) (aC (op2 gGet (eB 1) (eB 2)) aN))) (smR xs) (rangeD 0 xs.length) m = .ok (List.replicate xs.length (.bl true)) m := by
    rw [lcD_pure (fun _ => true) (fun _ => .bl true) (rangeD 0 xs.length) ?_, filter_t, map_const, range_len]
    intro d hd
    obtain ⟨i, hi⟩ := List.getElem?_of_mem hd
    obtain ⟨h1, rfl⟩ := mem_range hi
    exact ⟨[.dat (.tup xs), .dat (.tup xs), .dat (.int (i : Int))], by rw [Int.zero_add]; rfl, rfl, fun _ => sameA k xs m i h1 (h xs[i] (List.getElem_mem h1))⟩
  rw [eLc_ap, sameB k xs m hl, lc1_ok (by rw [range_len]; show xs.length ≤ 100000; omega)]
  rw [show wipeR (smR xs) [2] = smR xs from rfl, hlc]; rfl
theorem same_tup (k : Nat) (xs : List D) (m : Sto) (hl : xs.length < 100000) (h : ∀ x ∈ xs, f__law_same k [x, x] m = .ok (.bl true) m) : f__law_same (k + 1) [.tup xs, .tup xs] m = .ok (.bl true) m := by
  have e1 : bE (op1 (gIsi "tuple") (eB 1)) (smR xs) m = .ok true m := by unfold smR; simp
  have e2 : sIf (bOr (bNot (bE (op1 (gIsi "tuple") (eB 0)))) (bE (op2 (gEqA true) (opN gLen (aC (eB 0) aN)) (opN gLen (aC (eB 1) aN))))) (sRet (eC (.bl false))) sNext (smR xs) m = .nx (smR xs) m := by unfold smR; simp
  unfold f__law_same b__law_same
  rw [bodyD_ap, sSeq_ap, sIf_ap, show startR 3 [D.tup xs, .tup xs] = smR xs from rfl, e1, if1_t, sSeq_ap, e2, seq1_nx, sRet_ap, opN_ap, aC_ap, sameC k xs m hl h]
  show body1 false (seq1 (ret1 false (oN' gAll (.ok [.lst (List.replicate xs.length (.bl true))] m))) _) = _
  rw [oN'_ok, all_t]; rfl
theorem same_due (l : List (Int × Int)) (m : Sto) (hl : l.length < 100000) : d__law_same [.tup (l.map pairD), .tup (l.map pairD)] m = .ok (.bl true) m := by
  refine same_tup 6 _ m (by rw [List.length_map]; exact hl) fun x hx => ?_
  obtain ⟨p, _, rfl⟩ := List.mem_map.mp hx
  refine same_tup 5 _ m (by show 2 < 100000; decide) fun x hx => ?_
  simp at hx
  rcases hx with rfl | rfl <;> exact same_int 4 _ m
end T
end
section
set_option Elab.async false
set_option linter.all false
set_option maxRecDepth 100000
namespace T
open PySem L2 Q
theorem lenSet_at {m : Sto} {f : Ed} {r : Q.Env} {ds : List D} {l : List (List Int)} {m' : Sto} (h : f r m' = .ok (.lst ds) m) (h2 : intsTs ds = some l) (h3 : l.length < 64) : eLenSet f r m' = .ok (.int (countD l)) m := by
  unfold eLenSet
  rw [h]
  simp only [Res.bind, dr_lst, h2]
  rw [if_pos h3]
theorem map_bl {α : Type} (l : List α) (c : α → Bool) : l.map (fun x => D.bl (c x)) = (l.map c).map D.bl := by rw [List.map_map]; rfl
theorem lcD_map {p : Pat} {f : Ed} {r : Q.Env} {m : Sto} {α : Type} (d : α → D) (g : α → D) (l : List α) (h : ∀ a ∈ l, ∃ r', p (d a) r = some r' ∧ f r' m = .ok (g a) m) : lcD p bYes f r (l.map d) m = .ok (l.map g) m := by
  have := lc_filterMap (p := p) (t := bYes) (f := f) (r := r) (m := m) d (id : D → D) (fun a => some (g a)) l fun a ha => by
    obtain ⟨r', h1, h2⟩ := h a ha
    exact ⟨r', h1, .inr ⟨g a, rfl, rfl, h2⟩⟩
  rw [this, List.filterMap_eq_map', List.map_id]
theorem lcD_bl {p : Pat} {f : Ed} {r : Q.Env} {m : Sto} {α : Type} (d : α → D) (c : α → Bool) (l : List α) (h : ∀ a ∈ l, ∃ r', p (d a) r = some r' ∧ f r' m = .ok (.bl (c a)) m) : lcD p bYes f r (l.map d) m = .ok ((l.map c).map D.bl) m := by
  rw [lcD_map d (fun a => D.bl (c a)) l h, map_bl]
theorem lcD_flt {p : Pat} {t : Bd} {f : Ed} {r : Q.Env} {m : Sto} {α : Type} (d : α → D) (c : α → Bool) (l : List α) (h : ∀ a ∈ l, ∃ r', p (d a) r = some r' ∧ t r' m = .ok (c a) m ∧ f r' m = .ok (d a) m) : lcD p t f r (l.map d) m = .ok ((l.filter c).map d) m := by
  have := lc_filterMap (p := p) (t := t) (f := f) (r := r) (m := m) d d (fun a => if c a = true then some a else none) l fun a ha => by
    obtain ⟨r', h1, h2, h3⟩ := h a ha
    refine ⟨r', h1, ?_⟩
    cases hc : c a with
    | true => exact .inr ⟨a, by simp, by rw [h2, hc], h3⟩
    | false => exact .inl ⟨by simp, by rw [h2, hc]⟩
  rw [this]
  congr 2
  clear this h
  induction l with
  | nil => rfl
  | cons a l ih => cases hc : c a <;> simp [List.filterMap_cons, List.filter_cons, hc, ih]
theorem none_of {t : Bd} {r : Q.Env} {m : Sto} (j : Nat) (f : Ed) : ∀ l : List D, (∀ x ∈ l, ∃ r', pN j x r = some r' ∧ t r' m = .ok false m) → lcD (pN j) t f r l m = .ok [] m := by
  intro l h
  have := lc_filterMap (p := pN j) (t := t) (f := f) (r := r) (m := m) (id : D → D) (id : D → D) (fun _ => none) l fun a ha => by
    obtain ⟨r', h1, h2⟩ := h a ha
    exact ⟨r', h1, .inl ⟨rfl, h2⟩⟩
  rw [List.map_id] at this
  rw [this, List.filterMap_eq_nil_iff.mpr fun _ _ => rfl]; rfl
/-- a range by its numbers -/
theorem range_map (k : Nat) : rangeD 0 k = (List.range k).map fun i : Nat => D.int (i : Int) := by
  unfold rangeD
  exact List.map_congr_left fun i _ => by rw [Int.zero_add]
/-! what each value is, for is_whole -/
def whD (x : D) (a b : Int) : Bool := match x with
  | .int v => decide (a ≤ v) && decide (v ≤ b)
  | _ => false
def Pl (x : D) : Prop := match x with
  | .int _ => True
  | .bl _ => True
  | .non => True
  | .str _ => True
  | .tup _ => True
  | _ => False
theorem whole_any {m : Sto} {x : D} (h : Pl x) (a b : Int) : d_is_whole [x, .int a, .int b] m = .ok (.bl (whD x a b)) m := by
  cases x with
  | int v => exact whole_i v a b
  | bl v => exact whole_bl v a b
  | non => exact whole_non a b
  | str s => simp [d_is_whole, b_is_whole, whD]
  | tup xs => simp [d_is_whole, b_is_whole, whD]
  | _ => exact h.elim
/-! _law_same of a value and itself -/
theorem same_bl (k : Nat) (b : Bool) (m : Sto) : f__law_same (k + 1) [.bl b, .bl b] m = .ok (.bl true) m := by
  cases b <;> rfl
theorem same_non (k : Nat) (m : Sto) : f__law_same (k + 1) [.non, .non] m = .ok (.bl true) m := rfl
/-- plain values of some depth -/
inductive Sm : Nat → D → Prop
  | int (k : Nat) (i : Int) : Sm (k + 1) (.int i)
  | bl (k : Nat) (i : Bool) : Sm (k + 1) (.bl i)
  | non (k : Nat) : Sm (k + 1) .non
  | tup (k : Nat) (xs : List D) (hl : xs.length < 100000) (h : ∀ x ∈ xs, Sm k x) : Sm (k + 1) (.tup xs)
theorem same_sm : ∀ {k : Nat} {x : D}, Sm k x → ∀ m, f__law_same k [x, x] m = .ok (.bl true) m
  | _, _, .int k i, m => same_int k i m
  | _, _, .bl k i, m => same_bl k i m
  | _, _, .non k, m => same_non k m
  | _, _, .tup k xs hl h, m => same_tup k xs m hl fun x hx => same_sm (h x hx) m
end T
end
section
set_option Elab.async false
set_option linter.all false
set_option maxRecDepth 100000
namespace T
open PySem L2 Q
/-! rows of ints as data -/
def rowL (l : List Int) : D := .lst (l.map D.int)
def rowT (l : List Int) : D := .tup (l.map D.int)
def pInts (l : List Int) : List PyData := l.map PyData.int
theorem ints_pys (l : List Int) : D.pys (l.map D.int) = some (pInts l) := pys_map (fun _ => rfl) l
theorem rowL_py (l : List Int) : (rowL l).py = some (.list (pInts l)) := by
  show (D.pys (l.map D.int)).map PyData.list = _
  rw [ints_pys]; rfl
theorem rowT_py (l : List Int) : (rowT l).py = some (.tuple (pInts l)) := by
  show (D.pys (l.map D.int)).map PyData.tuple = _
  rw [ints_pys]; rfl
theorem ints_plain (l : List Int) : PyData.plainAll (pInts l) = true := by
  unfold pInts
  induction l with
  | nil => rfl
  | cons a l ih => simp [PyData.plainAll, PyData.plain, ih]
theorem ints_lay (l : List Int) : PyData.canLayAll0 (pInts l) = true := by
  unfold pInts
  induction l with
  | nil => rfl
  | cons a l ih => simp [PyData.canLayAll0, PyData.canLay0, ih]
theorem ints_depth (l : List Int) : PyData.depthAll (pInts l) ≤ 1 := by
  unfold pInts
  induction l with
  | nil => simp [PyData.depthAll]
  | cons a l ih => simp [PyData.depthAll, PyData.depth]; exact ih
theorem ints_eqv : ∀ (a b : List Int), PyData.eqvAll (pInts a) (pInts b) = decide (a = b)
  | [], [] => rfl
  | [], _ :: _ => by simp [pInts, PyData.eqvAll]
  | _ :: _, [] => by simp [pInts, PyData.eqvAll]
  | x :: a, y :: b => by
    have ih := ints_eqv a b
    unfold pInts at ih ⊢
    simp only [List.map_cons, PyData.eqvAll, PyData.eqv, ih]
    by_cases h : x = y
    · subst h; simp
    · simp [h]
theorem ints_alike : ∀ (a b : List Int), W.alikeAll (pInts a) (pInts b) = true
  | [], [] => rfl
  | [], _ :: _ => by simp [pInts, W.alikeAll]
  | _ :: _, [] => by simp [pInts, W.alikeAll]
  | x :: a, y :: b => by
    have ih := ints_alike a b
    unfold pInts at ih ⊢
    simp [W.alikeAll, W.alike, ih]
theorem nil_in (R : List (List Int)) (h : [] ∉ R) : inD (.lst []) (R.map rowL) = some false := by
  have e : D.pys (R.map rowL) = some (R.map fun l => .list (pInts l)) := pys_map rowL_py R
  have pa : PyData.plainAll (R.map fun l => .list (pInts l)) = true := by
    clear e h
    induction R with
    | nil => rfl
    | cons a l ih => simp [PyData.plainAll, PyData.plain, ih, ints_plain]
  unfold inD
  rw [e]
  show (if (PyData.plainAll _ && PyData.plain (.list []) && decide (PyData.depth (.list []) ≤ 60)) = true then some _ else none) = _
  rw [pa]
  show some ((R.map fun l => PyData.list (pInts l)).any fun z => PyData.eqv z (.list [])) = _
  congr 1
  rw [List.any_eq_false]
  intro z hz
  obtain ⟨l, hl, rfl⟩ := List.mem_map.mp hz
  cases l with
  | nil => exact absurd hl h
  | cons a l => simp [pInts, PyData.eqv, PyData.eqvAll]
end T
end
section
set_option Elab.async false
set_option linter.all false
set_option maxRecDepth 100000
/-! rules to build an evaluation from its parts -/
namespace Q
open PySem L2
section
variable {r r1 r2 : Env} {m m1 m2 m3 m4 : Sto} {f g h k : Ed} {x y z u d : D} {i : Nat} {a b : Sd} {t t' : Bd} {F : Fd} {o o1 : Out}
theorem v_at (e : r[i]? = some (.dat d)) : eV i r m = .ok d m := by rw [eV_ap, e]; rfl
theorem b_at (e : r[i]? = some (.dat d)) : eB i r m = .ok d m := by rw [eB_ap, e]; rfl
theorem b_own (e : r[i]? = some (.own d)) : eB i r m = .ok d m := by rw [eB_ap, e]; rfl
theorem c_at : eC d r m = .ok d m := rfl
theorem op1_at {q} (e : f r m = .ok x m1) (eq : q m1 x = some d) : op1 q f r m = .ok d m1 := by rw [op1_ap, e, o1_ok, eq]; rfl
theorem op2_at {q} (e : f r m = .ok x m1) (e2 : g r m1 = .ok y m2) (eq : q m2 x y = some d) : op2 q f g r m = .ok d m2 := by rw [op2_ap, e, o2_ok, e2, o2'_ok, eq]; rfl
theorem a0_at : aN r m = .ok [] m := rfl
theorem a1_at (e : f r m = .ok x m1) {fa : Ad} {xs : List D} (e2 : fa r m1 = .ok xs m2) : aC f fa r m = .ok (x :: xs) m2 := by rw [aC_ap, e, aC1_ok, e2]; rfl
theorem opN_at {q} {fa : Ad} {xs : List D} (e : fa r m = .ok xs m1) (eq : q m1 xs = some d) : opN q fa r m = .ok d m1 := by rw [opN_ap, e, oN'_ok, eq]; rfl
theorem opN1_at {q} (e : f r m = .ok x m1) (eq : q m1 [x] = some d) : opN q (aC f aN) r m = .ok d m1 := opN_at (a1_at e a0_at) eq
theorem opN2_at {q} (e : f r m = .ok x m1) (e2 : g r m1 = .ok y m2) (eq : q m2 [x, y] = some d) : opN q (aC f (aC g aN)) r m = .ok d m2 := opN_at (a1_at e (a1_at e2 a0_at)) eq
theorem opN3_at {q} (e : f r m = .ok x m1) (e2 : g r m1 = .ok y m2) (e3 : h r m2 = .ok z m3) (eq : q m3 [x, y, z] = some d) : opN q (aC f (aC g (aC h aN))) r m = .ok d m3 := opN_at (a1_at e (a1_at e2 (a1_at e3 a0_at))) eq
theorem opN4_at {q} (e : f r m = .ok x m1) (e2 : g r m1 = .ok y m2) (e3 : h r m2 = .ok z m3) (e4 : k r m3 = .ok u m4) (eq : q m4 [x, y, z, u] = some d) : opN q (aC f (aC g (aC h (aC k aN)))) r m = .ok d m4 := opN_at (a1_at e (a1_at e2 (a1_at e3 (a1_at e4 a0_at)))) eq
theorem call_at {n : Nat} {fa : Ad} {xs : List D} {R : Res D} (e : fa r m = .ok xs m1) (hn : xs.length = n) (eF : F xs m1 = R) : callD n F fa r m = R := by rw [callD_ap, e, call1_ok hn, eF]
theorem call1_at {R : Res D} (e : f r m = .ok x m1) (eF : F [x] m1 = R) : callD 1 F (aC f aN) r m = R := call_at (a1_at e a0_at) rfl eF
theorem call2_at {R : Res D} (e : f r m = .ok x m1) (e2 : g r m1 = .ok y m2) (eF : F [x, y] m2 = R) : callD 2 F (aC f (aC g aN)) r m = R := call_at (a1_at e (a1_at e2 a0_at)) rfl eF
theorem call3_at {R : Res D} (e : f r m = .ok x m1) (e2 : g r m1 = .ok y m2) (e3 : h r m2 = .ok z m3) (eF : F [x, y, z] m3 = R) : callD 3 F (aC f (aC g (aC h aN))) r m = R := call_at (a1_at e (a1_at e2 (a1_at e3 a0_at))) rfl eF
theorem bE_at {c : Bool} (e : f r m = .ok (.bl c) m1) : bE f r m = .ok c m1 := by rw [bE_ap, e]; rfl
theorem not_at {c : Bool} (e : t r m = .ok c m1) : bNot t r m = .ok (!c) m1 := by rw [bNot_ap, e]; rfl
theorem and_t (e : t r m = .ok true m1) {c : Bool} (e2 : t' r m1 = .ok c m2) : bAnd t t' r m = .ok c m2 := by rw [bAnd_ap, e, and1_t, e2]
theorem and_f (e : t r m = .ok false m1) : bAnd t t' r m = .ok false m1 := by rw [bAnd_ap, e]; rfl
theorem or_f (e : t r m = .ok false m1) {c : Bool} (e2 : t' r m1 = .ok c m2) : bOr t t' r m = .ok c m2 := by rw [bOr_ap, e, or1_f, e2]
theorem or_t (e : t r m = .ok true m1) : bOr t t' r m = .ok true m1 := by rw [bOr_ap, e]; rfl
theorem eAnd_t (e : f r m = .ok (.bl true) m1) {R : Res D} (e2 : g r m1 = R) : eAnd f g r m = R := by rw [eAnd_ap, e]; exact e2
theorem eAnd_f (e : f r m = .ok (.bl false) m1) : eAnd f g r m = .ok (.bl false) m1 := by rw [eAnd_ap, e]; rfl
theorem eIf_t (e : t r m = .ok true m1) {R : Res D} (e2 : f r m1 = R) : eIf t f g r m = R := by rw [eIf_ap, e]; exact e2
theorem eIf_f (e : t r m = .ok false m1) {R : Res D} (e2 : g r m1 = R) : eIf t f g r m = R := by rw [eIf_ap, e]; exact e2
theorem sq_at (e : a r m = .nx r1 m1) (e2 : b r1 m1 = o) : sSeq a b r m = o := by rw [sSeq_ap, e, seq1_nx, e2]
theorem sq_rt {c : Bool} (e : a r m = .rt c d m1) : sSeq a b r m = .rt c d m1 := by rw [sSeq_ap, e]; rfl
theorem set_at (e : f r m = .ok d m1) : sSet i f r m = .nx (r.set i (.dat d)) m1 := by rw [sSet_ap, e]; rfl
theorem set_to (e : f r m = .ok d m1) (er : r.set i (.dat d) = r1) : sSet i f r m = .nx r1 m1 := by rw [set_at e, er]
theorem if_t (e : t r m = .ok true m1) (e2 : a r m1 = o) : sIf t a b r m = o := by rw [sIf_ap, e, if1_t, e2]
theorem if_f (e : t r m = .ok false m1) (e2 : b r m1 = o) : sIf t a b r m = o := by rw [sIf_ap, e, if1_f, e2]
theorem ret_at (e : f r m = .ok d m1) : sRet f r m = .rt false d m1 := by rw [sRet_ap, e]; rfl
theorem ex_at (e : f r m = .ok d m1) : sExpr f r m = .nx r m1 := by rw [sExpr_ap, e]; rfl
theorem asg_at {p : Pat} (e : f r m = .ok d m1) (e2 : p d r = some r1) : sAsg f p r m = .nx r1 m1 := by rw [sAsg_ap, e, asg1_ok, e2]; rfl
theorem par2_at {i j : Nat} {ka kb : Bool} (e : f r m = .ok x m1) (e2 : g r m1 = .ok y m2) : sPar2 i j ka kb f g r m = .nx ((r.set i (slK ka x)).set j (slK kb y)) m2 := by rw [sPar2_ap, e, par1_ok, e2, par2_ok]
theorem for_at {q : Id'} {p : Pat} {ds : List D} (e : q r m = .ok ds m1) (e2 : forD p b ds r m1 = o) : sFor q p b r m = o := by rw [sFor_ap, e, for1_ok, e2]
theorem iAny_at {ds : List D} (e : f r m = .ok x m1) (e2 : iterD x = some ds) : iAny f r m = .ok ds m1 := by rw [iAny_ap, e, it1_ok, e2]; rfl
theorem iRg1_at {j : Int} (e : f r m = .ok (.int j) m1) (hj : -(2 ^ 62) ≤ j ∧ j < 2 ^ 62) : iRg1 f r m = .ok (rangeD 0 j.toNat) m1 := by rw [iRg1_ap, e, rg1_ok hj]
theorem iRg2_at {i j : Int} (e : f r m = .ok (.int i) m1) (e2 : g r m1 = .ok (.int j) m2) (hj : -(2 ^ 62) ≤ i ∧ i < 2 ^ 62 ∧ -(2 ^ 62) ≤ j ∧ j < 2 ^ 62) : iRg2 f g r m = .ok (rangeD i (j - i).toNat) m2 := by rw [iRg2_ap, e, rg2_ok, e2, rg3_ok hj]
theorem lc_at {q : Id'} {p : Pat} {vs : List Nat} {ds ys : List D} (e : q r m = .ok ds m1) (hl : ds.length ≤ SZ) (e2 : lcD p t f (wipeR r vs) ds m1 = .ok ys m2) : eLc q p t f vs r m = .ok (.lst ys) m2 := by rw [eLc_ap, e, lc1_ok hl, e2]; rfl
theorem body_at {n : Nat} {args : List D} (e : b (startR n args) m = .rt false d m1) : bodyD false n b args m = .ok d m1 := by rw [bodyD_ap, e]; rfl
theorem body_nx {n : Nat} {args : List D} (e : b (startR n args) m = .nx r1 m1) : bodyD false n b args m = .ok .non m1 := by rw [bodyD_ap, e]; rfl
end
end Q
end
section

end
section
set_option Elab.async false
set_option linter.all false
set_option maxRecDepth 100000
namespace T
open PySem L2 Q
variable {m : Sto}
/-! steps, looked up -/
theorem steps_get {ss : List Stt} {kvs : List (List Key × D)} (hk : SOk ss ss.length kvs) (x y : Int) : getA kvs [.inl x, .inl y] = (findAt ss x y).map fun i => D.int (i : Int) := by
  cases hf : findAt ss x y with
  | some i =>
    obtain ⟨s, hs, _⟩ := find_some hf
    have hm := hk.all x y i hf (List.getElem?_eq_some_iff.mp hs).1
    obtain ⟨kv, hkv, e⟩ := List.mem_map.mp hm
    obtain ⟨x', y', i', rfl, hi⟩ := hk.ok kv hkv
    simp at e
    obtain ⟨rfl, rfl⟩ := e
    rw [hi] at hf
    cases hf
    exact getA_of hk.nd hkv
  | none =>
    unfold getA
    rw [List.find?_eq_none.mpr]
    · rfl
    · intro kv hkv
      obtain ⟨x', y', i', rfl, hi⟩ := hk.ok kv hkv
      simp only [decide_eq_true_eq]
      intro e
      simp at e
      obtain ⟨rfl, rfl⟩ := e
      rw [hi] at hf
      cases hf
theorem look_in {kvs : List (List Key × D)} (x y : Int) : gInA false m (.tup [.int x, .int y]) (.dT kvs) = some (.bl (getA kvs [.inl x, .inl y]).isSome) := rfl
theorem look_nin {kvs : List (List Key × D)} (x y : Int) : gInA true m (.tup [.int x, .int y]) (.dT kvs) = some (.bl (!(getA kvs [.inl x, .inl y]).isSome)) := rfl
theorem look_get {kvs : List (List Key × D)} {x y : Int} {d : D} (h : getA kvs [.inl x, .inl y] = some d) : gGet m (.dT kvs) (.tup [.int x, .int y]) = some d := gGet_T rfl h
theorem town_get1 {n : Int} {ss : List Stt} : gGet m (townD n ss) (.int 1) = some (.tup (ss.map sD)) := by unfold townD; simp
theorem town_get0 {n : Int} {ss : List Stt} : gGet m (townD n ss) (.int 0) = some (.int n) := by unfold townD; simp
theorem st_get {ss : List Stt} {i : Nat} {s : Stt} (h : ss[i]? = some s) : gGet m (.tup (ss.map sD)) (.int (i : Int)) = some (sD s) := by
  rw [gGet_t]
  exact Q.atI_nat (by rw [List.getElem?_map, h]; rfl)
theorem sD0 (s : Stt) : gGet m (sD s) (.int 0) = some (.int s.1) := by unfold sD; simp
theorem sD2 (s : Stt) : gGet m (sD s) (.int 2) = some (.int s.2.2.1) := by unfold sD; simp
theorem sD3 (s : Stt) : gGet m (sD s) (.int 3) = some (.str s.2.2.2) := by unfold sD; simp
/-! pairs of a row -/
def prs (l : List Int) : List (Int × Int) := l.zip (l.drop 1)
theorem prs_zip (l : List Int) : zipD (l.map D.int) ((l.drop 1).map D.int) = (prs l).map pairD := by
  unfold zipD prs
  rw [List.zip_map, List.map_map]
  exact List.map_congr_left fun p _ => rfl
theorem prs_len (l : List Int) : (prs l).length ≤ l.length := by unfold prs; simp
theorem row_drop1 (l : List Int) : gSl (rowT l) (some 1) none = some (rowT (l.drop 1)) := by
  show gSl (.tup (l.map D.int)) (some ((1 : Nat) : Int)) none = some (.tup ((l.drop 1).map D.int))
  rw [gSl_lo, List.map_drop]
/-- zip of a row and its rest -/
theorem zip_row {fb : Ed} {r : Q.Env} {l : List Int} (h : fb r m = .ok (rowT l) m) : iZpX fb (eSl fb (oS (eC (.int 1))) oN) r m = .ok ((prs l).map pairD) m := by
  have e2 : eSl fb (oS (eC (.int 1))) oN r m = .ok (rowT (l.drop 1)) m := by
    rw [eSl_ap, h, sl1_ok]
    show lift (gSl (rowT l) (some 1) none) m = _
    rw [row_drop1]; rfl
  rw [iZpX_ap, h, zpx1_ok, e2]
  show Res.ok (zipD (l.map D.int) ((l.drop 1).map D.int)) m = _
  rw [prs_zip]
theorem zip_rowV {i : Nat} {r : Q.Env} {l : List Int} (h : r[i]? = some (.dat (rowT l))) : iZpX (eV i) (eSl (eB i) (oS (eC (.int 1))) oN) r m = .ok ((prs l).map pairD) m := by
  have e2 : eSl (eB i) (oS (eC (.int 1))) oN r m = .ok (rowT (l.drop 1)) m := by
    rw [eSl_ap, b_at h, sl1_ok]
    show lift (gSl (rowT l) (some 1) none) m = _
    rw [row_drop1]; rfl
  rw [iZpX_ap, v_at h, zpx1_ok, e2]
  show Res.ok (zipD (l.map D.int) ((l.drop 1).map D.int)) m = _
  rw [prs_zip]
/-! fits_drive -/
def stepB (ss : List Stt) (p : Int × Int) : Bool := (findAt ss p.1 p.2).isSome
def okDr (n : Int) (ss : List Stt) (l : List Int) : Bool := decide (1 ≤ l.length) && decide (l.length ≤ 400) && (l.all fun v => decide (0 ≤ v) && decide (v ≤ n - 1)) && (prs l).all (stepB ss)
def fd1 : Sd := (sIf (bOr (bNot (bE (callD 3 d_is_tuple_of (aC (eV 1) (aC (eC (.int 1)) (aC (eC (.int 400)) aN)))))) (bNot (bE (opN gAll (aC (eLc (iAny (eV 1)) (pN 4) bYes (callD 3 d_is_whole (aC (eV 4) (aC (eC (.int 0)) (aC (op2 Q.gSub (op2 gGet (eB 0) (eC (.int 0))) (eC (.int 1))) aN)))) [4]) aN)))))
  (sRet (eC (.bl false)))
  sNext)
def fd2 : Sd := (sSet 2 (callD 1 d_steps_in (aC (eV 0) aN)))
def fd3 : Sd := (sRet (opN gAll (aC (eLc (iZpX (eB 1) (eSl (eB 1) (oS (eC (.int 1))) oN)) (pN 3) bYes (op2 (gInA false) (eB 3) (eB 2)) [3]) aN)))
theorem fd_eq : b_fits_drive = sSeq fd1 (sSeq fd2 fd3) := rfl
def fdR (n : Int) (ss : List Stt) (v : D) (z2 : Sl) : Q.Env := [.dat (townD n ss), .dat v, z2, .un, .un]
theorem fd_not {n : Int} {ss : List Stt} {v : D} (h : d_is_tuple_of [v, .int 1, .int 400] m = .ok (.bl false) m) : d_fits_drive [townD n ss, v] m = .ok (.bl false) m := by
  unfold d_fits_drive
  refine body_at ?_
  rw [fd_eq]
  exact sq_rt (if_t (or_t (not_at (c := false) (bE_at (call3_at (v_at rfl) c_at c_at h)))) (ret_at c_at))
theorem fd_all {n : Int} {ss : List Stt} (xs : List D) (hp : ∀ x ∈ xs, Pl x) (hl : xs.length ≤ 400) (z : Sl) : opN gAll (aC (eLc (iAny (eV 1)) (pN 4) bYes (callD 3 d_is_whole (aC (eV 4) (aC (eC (.int 0)) (aC (op2 Q.gSub (op2 gGet (eB 0) (eC (.int 0))) (eC (.int 1))) aN)))) [4]) aN) (fdR n ss (.tup xs) z) m = .ok (.bl (xs.all fun x => whD x 0 (n - 1))) m := by
  refine opN1_at (lc_at (ys := (xs.map fun x => whD x 0 (n - 1)).map D.bl) (iAny_at (v_at rfl) rfl) (by show _ ≤ 100000; omega) ?_) (by rw [gAll_l, List.all_map]; rfl)
  have := lcD_bl (p := pN 4) (f := callD 3 d_is_whole (aC (eV 4) (aC (eC (.int 0)) (aC (op2 Q.gSub (op2 gGet (eB 0) (eC (.int 0))) (eC (.int 1))) aN)))) (r := fdR n ss (.tup xs) z) (m := m) (id : D → D) (fun x => whD x 0 (n - 1)) xs fun x hx => by
    refine ⟨[.dat (townD n ss), .dat (.tup xs), z, .un, .dat x], rfl, ?_⟩
    exact call3_at (v_at rfl) c_at (op2_at (op2_at (b_at rfl) c_at town_get0) c_at rfl) (whole_any (hp x hx) 0 (n - 1))
  rw [List.map_id] at this
  exact this
theorem fd_bad {n : Int} {ss : List Stt} (xs : List D) (hp : ∀ x ∈ xs, Pl x) (hl : xs.length ≤ 400) (hb : (xs.all fun x => whD x 0 (n - 1)) = false) : d_fits_drive [townD n ss, .tup xs] m = .ok (.bl false) m := by
  by_cases h1 : 1 ≤ xs.length
  · have t1 : d_is_tuple_of [.tup xs, .int 1, .int 400] m = .ok (.bl true) m := by
      rw [tof_t, decide_eq_true (by omega), decide_eq_true (by omega)]; rfl
    unfold d_fits_drive
    refine body_at ?_
    rw [fd_eq]
    have := fd_all (m := m) (n := n) (ss := ss) xs hp hl .un
    rw [hb] at this
    exact sq_rt (if_t (or_f (not_at (c := true) (bE_at (call3_at (v_at rfl) c_at c_at t1))) (not_at (c := false) (bE_at this))) (ret_at c_at))
  · refine fd_not ?_
    rw [tof_t, decide_eq_false (by omega)]; rfl
theorem rows_pl (l : List Int) : ∀ p ∈ l.map D.int, Pl p := fun p hp => by
  obtain ⟨i, _, rfl⟩ := List.mem_map.mp hp
  trivial
theorem fd_row {n : Int} {ss : List Stt} (h : OkT n ss) (l : List Int) (m : Sto) : d_fits_drive [townD n ss, rowT l] m = .ok (.bl (okDr n ss l)) m := by
  by_cases hl : 1 ≤ l.length ∧ l.length ≤ 400
  · by_cases ha : (l.all fun v => decide (0 ≤ v) && decide (v ≤ n - 1)) = true
    · obtain ⟨kvs, e1, hk, _⟩ := steps_at h m
      have t1 : d_is_tuple_of [rowT l, .int 1, .int 400] m = .ok (.bl true) m := by
        unfold rowT
        rw [tof_t, List.length_map, decide_eq_true (by omega), decide_eq_true (by omega)]; rfl
      have t2 := fd_all (m := m) (n := n) (ss := ss) (l.map D.int) (rows_pl l) (by rw [List.length_map]; exact hl.2) .un
      rw [List.all_map] at t2
      have t3 : (l.all ((fun x => whD x 0 (n - 1)) ∘ D.int)) = true := ha
      rw [t3] at t2
      have hc : eLc (iZpX (eB 1) (eSl (eB 1) (oS (eC (.int 1))) oN)) (pN 3) bYes (op2 (gInA false) (eB 3) (eB 2)) [3] (fdR n ss (rowT l) (.dat (.dT kvs))) m = .ok (.lst (((prs l).map (stepB ss)).map D.bl)) m := by
        refine lc_at (zip_row (b_at rfl)) (by rw [List.length_map]; have := prs_len l; show _ ≤ 100000; omega) ?_
        refine lcD_bl pairD (stepB ss) (prs l) fun p _ => ⟨[.dat (townD n ss), .dat (rowT l), .dat (.dT kvs), .dat (pairD p), .un], rfl, ?_⟩
        refine op2_at (b_at rfl) (b_at rfl) ?_
        show gInA false m (.tup [.int p.1, .int p.2]) (.dT kvs) = _
        rw [look_in, steps_get hk]
        unfold stepB
        cases findAt ss p.1 p.2 <;> rfl
      unfold d_fits_drive
      refine body_at ?_
      rw [fd_eq]
      refine sq_at (r1 := fdR n ss (rowT l) .un) (m1 := m) (if_f (or_f (not_at (c := true) (bE_at (call3_at (v_at rfl) c_at c_at t1))) (not_at (c := true) (bE_at t2))) rfl) (sq_at (r1 := fdR n ss (rowT l) (.dat (.dT kvs))) (m1 := m) (set_to (call1_at (v_at rfl) e1) rfl) (ret_at (opN1_at hc ?_)))
      rw [gAll_l, List.all_map]
      unfold okDr
      rw [decide_eq_true hl.1, decide_eq_true hl.2, ha]
      rfl
    · have hb : ((l.map D.int).all fun x => whD x 0 (n - 1)) = false := by
        rw [List.all_map]
        exact Bool.eq_false_iff.mpr ha
      have e : okDr n ss l = false := by
        unfold okDr
        rw [Bool.eq_false_iff.mpr ha, Bool.and_false, Bool.false_and]
      rw [e]
      exact fd_bad (l.map D.int) (rows_pl l) (by rw [List.length_map]; exact hl.2) hb
  · have e : okDr n ss l = false := by
      unfold okDr
      by_cases h1 : 1 ≤ l.length
      · rw [decide_eq_false (fun z => hl ⟨h1, z⟩)]; simp
      · rw [decide_eq_false h1]; rfl
    rw [e]
    refine fd_not ?_
    unfold rowT
    rw [tof_t, List.length_map]
    by_cases h1 : 1 ≤ l.length
    · rw [decide_eq_false (fun z : (l.length : Int) ≤ 400 => hl ⟨h1, by omega⟩), Bool.and_false]
    · rw [decide_eq_false (by omega)]; rfl
theorem need_t {n : Int} {ss : List Stt} (h : OkT n ss) (m : Sto) : d_need_town [townD n ss] m = .ok .non m := by
  simp [d_need_town, b_need_town, fits_ok h]
theorem isd_row {n : Int} {ss : List Stt} (h : OkT n ss) (l : List Int) (m : Sto) : d_is_drive [townD n ss, rowT l] m = .ok (.bl (okDr n ss l)) m := by
  unfold d_is_drive
  exact body_at (sq_at (ex_at (call1_at (v_at rfl) (need_t h m))) (ret_at (call2_at (v_at rfl) (v_at rfl) (fd_row h l m))))
theorem isd_of {n : Int} {ss : List Stt} (h : OkT n ss) {v : D} {b : Bool} (e : d_fits_drive [townD n ss, v] m = .ok (.bl b) m) : d_is_drive [townD n ss, v] m = .ok (.bl b) m := by
  unfold d_is_drive
  exact body_at (sq_at (ex_at (call1_at (v_at rfl) (need_t h m))) (ret_at (call2_at (v_at rfl) (v_at rfl) e)))
theorem needd {n : Int} {ss : List Stt} (h : OkT n ss) {l : List Int} (hl : okDr n ss l = true) (m : Sto) : d_need_drive [townD n ss, rowT l] m = .ok .non m := by
  have e := fd_row h l m
  rw [hl] at e
  unfold d_need_drive
  exact body_nx (r1 := [.dat (townD n ss), .dat (rowT l)]) (sq_at (ex_at (call1_at (v_at rfl) (need_t h m))) (if_f (m1 := m) (not_at (c := true) (bE_at (call2_at (v_at rfl) (v_at rfl) e))) rfl))
end T
end
section
set_option Elab.async false
set_option linter.all false
set_option maxRecDepth 100000
namespace T
open PySem L2 Q
variable {m : Sto}
/-! lengths -/
theorem intsOf_map (l : List Int) : intsOf (l.map D.int) = some l := by
  induction l with
  | nil => rfl
  | cons a l ih => simp [intsOf, ih]
theorem gSum_l (l : List Int) : gSum m [.lst (l.map D.int)] = some (.int l.sum) := by
  show (intsOf (l.map D.int)).map (fun bs => D.int bs.sum) = _
  rw [intsOf_map]; rfl
def lenSum (ss : List Stt) (l : List Int) : Int := ((prs l).map fun p => lenAt ss p.1 p.2).sum
theorem lenAt_of {ss : List Stt} {x y : Int} {i : Nat} {s : Stt} (h : findAt ss x y = some i) (hs : ss[i]? = some s) : lenAt ss x y = s.2.2.1 := by
  unfold lenAt
  rw [h]
  simp only [hs]
theorem ok_pairs {n : Int} {ss : List Stt} {l : List Int} (h : okDr n ss l = true) : ∀ p ∈ prs l, ∃ i s, findAt ss p.1 p.2 = some i ∧ ss[i]? = some s := by
  intro p hp
  unfold okDr at h
  simp only [Bool.and_eq_true] at h
  have := List.all_eq_true.mp h.2 p hp
  unfold stepB at this
  obtain ⟨i, hi⟩ := Option.isSome_iff_exists.mp this
  obtain ⟨s, hs, _⟩ := find_some hi
  exact ⟨i, s, hi, hs⟩
theorem ok_len {n : Int} {ss : List Stt} {l : List Int} (h : okDr n ss l = true) : 1 ≤ l.length ∧ l.length ≤ 400 := by
  unfold okDr at h
  simp only [Bool.and_eq_true, decide_eq_true_eq] at h
  exact h.1.1
theorem len_in {n : Int} {ss : List Stt} (h : OkT n ss) {l : List Int} (hl : okDr n ss l = true) (m : Sto) : d_length_in [townD n ss, rowT l] m = .ok (.int (lenSum ss l)) m := by
  obtain ⟨kvs, e1, hk, _⟩ := steps_at h m
  have h4 := (ok_len hl).2
  unfold d_length_in
  refine body_at ?_
  refine sq_at (r1 := [.dat (townD n ss), .dat (rowT l), .dat (.dT kvs), .un]) (m1 := m) (set_to (call1_at (v_at rfl) e1) rfl) (ret_at (opN1_at (lc_at (ys := ((prs l).map fun p => lenAt ss p.1 p.2).map D.int) (zip_row (b_at rfl)) (by rw [List.length_map]; have := prs_len l; show _ ≤ 100000; omega) ?_) (gSum_l _)))
  rw [List.map_map]
  refine lcD_map pairD _ (prs l) fun p hp => ⟨[.dat (townD n ss), .dat (rowT l), .dat (.dT kvs), .dat (pairD p)], rfl, ?_⟩
  obtain ⟨i, s, hi, hs⟩ := ok_pairs hl p hp
  have gi : gGet m (.dT kvs) (.tup [.int p.1, .int p.2]) = some (.int (i : Int)) := look_get (by rw [steps_get hk, hi]; rfl)
  show op2 gGet _ _ _ m = .ok (.int (lenAt ss p.1 p.2)) m
  rw [lenAt_of hi hs]
  exact op2_at (op2_at (op2_at (b_at rfl) c_at town_get1) (op2_at (b_at rfl) (b_at rfl) gi) (st_get hs)) c_at (sD2 s)
theorem len_of {n : Int} {ss : List Stt} (h : OkT n ss) {l : List Int} (hl : okDr n ss l = true) (m : Sto) : d_length_of [townD n ss, rowT l] m = .ok (.int (lenSum ss l)) m := by
  unfold d_length_of
  exact body_at (sq_at (ex_at (call2_at (v_at rfl) (v_at rfl) (needd h hl m))) (ret_at (call2_at (v_at rfl) (v_at rfl) (len_in h hl m))))
theorem law_len {n : Int} {ss : List Stt} (h : OkT n ss) {l : List Int} (hl : okDr n ss l = true) (m : Sto) : d__law_length [townD n ss, rowT l] m = .ok (.int (lenSum ss l)) m := by
  have h4 := (ok_len hl).2
  unfold d__law_length
  refine body_at ?_
  refine ret_at (opN1_at (lc_at (ys := ((prs l).map fun p => lenAt ss p.1 p.2).map D.int) (zip_row (b_at rfl)) (by rw [List.length_map]; have := prs_len l; show _ ≤ 100000; omega) ?_) (gSum_l _))
  rw [List.map_map]
  refine lcD_map pairD _ (prs l) fun p hp => ⟨[.dat (townD n ss), .dat (rowT l), .dat (.int p.1), .dat (.int p.2)], rfl, ?_⟩
  obtain ⟨i, s, hi, hs⟩ := ok_pairs hl p hp
  have gi := step_at h p.1 p.2 m
  rw [hi] at gi
  show op2 gGet _ _ _ m = .ok (.int (lenAt ss p.1 p.2)) m
  rw [lenAt_of hi hs]
  exact op2_at (op2_at (op2_at (b_at rfl) c_at town_get1) (call3_at (v_at rfl) (v_at rfl) (v_at rfl) gi) (st_get hs)) c_at (sD2 s)
/-! tasks -/
def tskOf (i : Nat) (s : Stt) : List (Int × Int) := if s.2.2.2 = ("lane" : Str) then [((i : Int), 1)] else if s.2.2.2 = ("narrow" : Str) then [((i : Int), 0)] else [((i : Int), -1), ((i : Int), 1)]
def tasksL (ss : List Stt) (k : Nat) : List (Int × Int) := (List.range k).flatMap fun i => match ss[i]? with
  | some s => tskOf i s
  | none => []
theorem tsk_len (i : Nat) (s : Stt) : (tskOf i s).length ≤ 2 := by
  unfold tskOf
  split
  · simp
  · split <;> simp
theorem tasks_succ0 {ss : List Stt} {k : Nat} : tasksL ss (k + 1) = tasksL ss k ++ (match ss[k]? with
  | some s => tskOf k s
  | none => []) := by
  unfold tasksL
  rw [List.range_succ, List.flatMap_append]
  simp
theorem tasks_succ {ss : List Stt} {k : Nat} {s : Stt} (h : ss[k]? = some s) : tasksL ss (k + 1) = tasksL ss k ++ tskOf k s := by
  unfold tasksL
  rw [List.range_succ, List.flatMap_append]
  simp [h]
theorem tasks_len {ss : List Stt} : ∀ {k : Nat}, (tasksL ss k).length ≤ 2 * k
  | 0 => by simp [tasksL]
  | k + 1 => by
    have ih := tasks_len (ss := ss) (k := k)
    rw [tasks_succ0, List.length_append]
    cases h : ss[k]? with
    | none => simp; omega
    | some s => have := tsk_len k s; simp only; omega
theorem nl_n : ¬ ("lane" : Str) = "narrow" := by decide +kernel
theorem nl_w : ¬ ("lane" : Str) = "wide" := by decide +kernel
theorem nn_w : ¬ ("narrow" : Str) = "wide" := by decide +kernel
theorem nn_l : ¬ ("narrow" : Str) = "lane" := by decide +kernel
theorem nw_l : ¬ ("wide" : Str) = "lane" := by decide +kernel
theorem nw_n : ¬ ("wide" : Str) = "narrow" := by decide +kernel
theorem disp3 (a b c : D) : mergeD [] [(.inr "lane", a), (.inr "narrow", b), (.inr "wide", c)] = [(.inr "lane", a), (.inr "narrow", b), (.inr "wide", c)] := by
  simp [mergeD, putA, nl_n, nl_w, nn_w]
theorem disp_get (a b c : D) {k : Str} (hk : k ∈ kinds) : gGet m (.dK [(.inr "lane", a), (.inr "narrow", b), (.inr "wide", c)]) (.str k) = some (if k = ("lane" : Str) then a else if k = ("narrow" : Str) then b else c) := by
  show ((some (Sum.inr k : Key)).map (getA [(.inr "lane", a), (.inr "narrow", b), (.inr "wide", c)])).bind id = _
  simp [kinds] at hk
  rcases hk with rfl | rfl | rfl
  · simp [getA]
  · simp [getA, nl_n, nn_l]
  · simp [getA, nl_w, nn_w, nw_l, nw_n]
def tkE : Ed := (op2 gGet (eDisp (pC0 (eC (.str "lane")) (opN gLst (aC (opN gTup (aC (eV 2) (aC (eC (.int 1)) aN))) aN)) (pC0 (eC (.str "narrow")) (opN gLst (aC (opN gTup (aC (eV 2) (aC (eC (.int 0)) aN))) aN)) (pC0 (eC (.str "wide")) (opN gLst (aC (opN gTup (aC (eV 2) (aC (op1 gNeg (eC (.int 1))) aN))) (aC (opN gTup (aC (eV 2) (aC (eC (.int 1)) aN))) aN))) pN0)))) (op2 gGet (eB 3) (eC (.int 3))))
theorem ti_eq : b_tasks_in = (sSeq (sOwn 1 (opN gLst aN)) (sSeq (sFor (iEn (op2 gGet (eB 0) (eC (.int 1)))) (pT (pCons (pN 2) (pCons (pN 3) pNil))) (sExt 1 tkE)) (sSeq (sFrz 1) (sRet (eV 1))))) := rfl
theorem tkE_at {r : Q.Env} {i : Nat} {s : Stt} (h2 : r[2]? = some (.dat (.int (i : Int)))) (h3 : r[3]? = some (.dat (sD s))) (hk : s.2.2.2 ∈ kinds) : tkE r m = .ok (.lst ((tskOf i s).map pairD)) m := by
  refine op2_at (disp_at (l := [(.inr "lane", .lst [pairD ((i : Int), 1)]), (.inr "narrow", .lst [pairD ((i : Int), 0)]), (.inr "wide", .lst [pairD ((i : Int), -1), pairD ((i : Int), 1)])]) (pC0_at c_at (opN1_at (opN2_at (v_at h2) c_at rfl) rfl) (pC0_at c_at (opN1_at (opN2_at (v_at h2) c_at rfl) rfl) (pC0_at c_at (opN2_at (opN2_at (v_at h2) (op1_at c_at rfl) rfl) (opN2_at (v_at h2) c_at rfl) rfl) pN0_at))) (by rfl) (by show 3 ≤ 15; decide)) (op2_at (b_at h3) c_at (sD3 s)) ?_
  rw [disp3, disp_get _ _ _ hk]
  unfold tskOf
  split
  · rfl
  · split <;> rfl
theorem enum_sts (ss : List Stt) {i : Nat} {d : D} (h : (enumD (ss.map sD))[i]? = some d) : ∃ s, ss[i]? = some s ∧ d = .tup [.int (i : Int), sD s] := by
  obtain ⟨x, hx, rfl⟩ := enum_get h
  rw [List.getElem?_map] at hx
  obtain ⟨s, hs, rfl⟩ := Option.map_eq_some_iff.mp hx
  exact ⟨s, hs, rfl⟩
theorem enum_len (ds : List D) : (enumD ds).length = ds.length := by unfold enumD; simp
theorem tasks_in {n : Int} {ss : List Stt} (h : OkT n ss) (m : Sto) : d_tasks_in [townD n ss] m = .ok (.lst ((tasksL ss ss.length).map pairD)) m := by
  have l12 := h.l12
  obtain ⟨r', m', e, z2, z3, rfl, rfl⟩ := forD_inv (p := pT (pCons (pN 2) (pCons (pN 3) pNil))) (b := sExt 1 tkE) (fun j r m' => ∃ z2 z3, r = [.dat (townD n ss), .own (.lst ((tasksL ss j).map pairD)), z2, z3] ∧ m' = m) (enumD (ss.map sD)) 0
    [.dat (townD n ss), .own (.lst []), .un, .un] m (by
      rintro j d r m' hd ⟨z2, z3, rfl, rfl⟩
      rw [Nat.zero_add]
      obtain ⟨s, hs, rfl⟩ := enum_sts ss hd
      have hj : j < ss.length := (List.getElem?_eq_some_iff.mp hs).1
      refine ⟨[.dat (townD n ss), .own (.lst ((tasksL ss j).map pairD)), .dat (.int (j : Int)), .dat (sD s)], rfl, [.dat (townD n ss), .own (.lst ((tasksL ss (j + 1)).map pairD)), .dat (.int (j : Int)), .dat (sD s)], m', .inl ?_, .dat (.int (j : Int)), .dat (sD s), rfl, rfl⟩
      refine ext_to (xs := (tasksL ss j).map pairD) (ys := (tskOf j s).map pairD) rfl (tkE_at (i := j) rfl rfl (h.ok s (List.mem_of_getElem? hs)).1) rfl ?_ ?_
      · rw [List.length_map, List.length_map]
        have := tasks_len (ss := ss) (k := j)
        have := tsk_len j s
        show _ ≤ 100000; omega
      · rw [tasks_succ hs, List.map_append]; rfl) ⟨.un, .un, rfl, rfl⟩
  rw [enum_len, List.length_map, Nat.zero_add] at e
  unfold d_tasks_in
  refine body_at ?_
  rw [ti_eq]
  refine sq_at (r1 := [.dat (townD n ss), .own (.lst []), .un, .un]) (m1 := m') rfl (sq_at (for_at (ds := enumD (ss.map sD)) (m1 := m') ?_ e) rfl)
  rw [iEn_ap, op2_at (b_at rfl) c_at town_get1]; rfl
theorem tasks_of {n : Int} {ss : List Stt} (h : OkT n ss) (m : Sto) : d_tasks [townD n ss] m = .ok (.tup ((tasksL ss ss.length).map pairD)) m := by
  unfold d_tasks
  exact body_at (sq_at (ex_at (call1_at (v_at rfl) (need_t h m))) (ret_at (opN1_at (call1_at (v_at rfl) (tasks_in h m)) rfl)))
theorem mem_tasks {ss : List Stt} {k : Nat} {t : Int × Int} (h : t ∈ tasksL ss k) : ∃ (i : Nat) (s : Stt), t.1 = (i : Int) ∧ ss[i]? = some s := by
  unfold tasksL at h
  obtain ⟨i, _, h2⟩ := List.mem_flatMap.mp h
  cases hs : ss[i]? with
  | none => rw [hs] at h2; cases h2
  | some s =>
    rw [hs] at h2
    refine ⟨i, s, ?_, hs⟩
    have h2 : t ∈ tskOf i s := h2
    unfold tskOf at h2
    split at h2
    · simp at h2; rw [h2]
    · split at h2
      · simp at h2; rw [h2]
      · simp at h2; rcases h2 with h2 | h2 <;> rw [h2]
def dutyOf (ss : List Stt) : Int := ((tasksL ss ss.length).map fun t => match ss[t.1.toNat]? with
  | some s => s.2.2.1
  | none => 0).sum
/-- the lengths of tasks, by their streets -/
theorem task_lens {n : Int} {ss : List Stt} {e0 : Ed} {j k : Nat} {r : Q.Env} {p : Pat} (hp : ∀ t : Int × Int, ∃ r', p (pairD t) r = some r' ∧ (e0 r' m = .ok (townD n ss) m) ∧ eB j r' m = .ok (.int t.1) m) : lcD p bYes (op2 gGet (op2 gGet (op2 gGet e0 (eC (.int 1))) (eB j)) (eC (.int 2))) r ((tasksL ss ss.length).map pairD) m = .ok (((tasksL ss ss.length).map fun t => match ss[t.1.toNat]? with
  | some s => s.2.2.1
  | none => 0).map D.int) m := by
  rw [List.map_map]
  refine lcD_map pairD _ _ fun t ht => ?_
  obtain ⟨r', e1, e2, e3⟩ := hp t
  obtain ⟨i, s, hi, hs⟩ := mem_tasks ht
  refine ⟨r', e1, ?_⟩
  show op2 gGet _ _ r' m = .ok (.int (match ss[t.1.toNat]? with | some s => s.2.2.1 | none => 0)) m
  rw [hi, Int.toNat_natCast, hs]
  rw [hi] at e3
  exact op2_at (op2_at (op2_at e2 c_at town_get1) e3 (st_get hs)) c_at (sD2 s)
theorem duty_of {n : Int} {ss : List Stt} (h : OkT n ss) (m : Sto) : d_duty [townD n ss] m = .ok (.int (dutyOf ss)) m := by
  have l12 := h.l12
  unfold d_duty
  refine body_at (sq_at (ex_at (call1_at (v_at rfl) (need_t h m))) (ret_at (opN1_at (lc_at (iAny_at (call1_at (v_at rfl) (tasks_in h m)) rfl) ?_ (task_lens (n := n) (k := 0) fun t => ⟨[.dat (townD n ss), .dat (.int t.1), .dat (.int t.2)], rfl, b_at rfl, b_at rfl⟩)) (gSum_l _))))
  rw [List.length_map]
  have := tasks_len (ss := ss) (k := ss.length)
  show _ ≤ 100000; omega
/-! the law's tasks -/
def ltE : Ed := (eIf (bE (op2 (gEqA false) (eB 3) (eC (.str "lane")))) (opN gLst (aC (opN gTup (aC (eV 2) (aC (eC (.int 1)) aN))) aN)) (eIf (bE (op2 (gEqA false) (eB 3) (eC (.str "narrow")))) (opN gLst (aC (opN gTup (aC (eV 2) (aC (eC (.int 0)) aN))) aN)) (opN gLst (aC (opN gTup (aC (eV 2) (aC (op1 gNeg (eC (.int 1))) aN))) (aC (opN gTup (aC (eV 2) (aC (eC (.int 1)) aN))) aN)))))
def ltB : Sd := (sSeq (sSet 3 (op2 gGet (op2 gGet (op2 gGet (eB 0) (eC (.int 1))) (eB 2)) (eC (.int 3)))) (sSet 1 (op2 gAdd (eB 1) ltE)))
theorem lt_eq : b__law_tasks = (sSeq (sSet 1 (opN gLst aN)) (sSeq (sFor (iRg1 (opN gLen (aC (op2 gGet (eB 0) (eC (.int 1))) aN))) (pN 2) ltB) (sRet (eV 1)))) := rfl
theorem ltE_at {r : Q.Env} {i : Nat} {s : Stt} (h2 : r[2]? = some (.dat (.int (i : Int)))) (h3 : r[3]? = some (.dat (.str s.2.2.2))) (hk : s.2.2.2 ∈ kinds) : ltE r m = .ok (.lst ((tskOf i s).map pairD)) m := by
  have t1 : bE (op2 (gEqA false) (eB 3) (eC (.str "lane"))) r m = .ok (decide (s.2.2.2 = ("lane" : Str))) m := bE_at (op2_at (b_at h3) c_at (gEq_s (kind_s hk) lane_s))
  have t2 : bE (op2 (gEqA false) (eB 3) (eC (.str "narrow"))) r m = .ok (decide (s.2.2.2 = ("narrow" : Str))) m := bE_at (op2_at (b_at h3) c_at (gEq_s (kind_s hk) narrow_s))
  unfold tskOf
  by_cases e1 : s.2.2.2 = ("lane" : Str)
  · rw [decide_eq_true e1] at t1
    rw [if_pos e1]
    exact eIf_t t1 (opN1_at (opN2_at (v_at h2) c_at rfl) rfl)
  · rw [decide_eq_false e1] at t1
    rw [if_neg e1]
    refine eIf_f t1 ?_
    by_cases e2 : s.2.2.2 = ("narrow" : Str)
    · rw [decide_eq_true e2] at t2
      rw [if_pos e2]
      exact eIf_t t2 (opN1_at (opN2_at (v_at h2) c_at rfl) rfl)
    · rw [decide_eq_false e2] at t2
      rw [if_neg e2]
      exact eIf_f t2 (opN2_at (opN2_at (v_at h2) (op1_at c_at rfl) rfl) (opN2_at (v_at h2) c_at rfl) rfl)
theorem law_tasks {n : Int} {ss : List Stt} (h : OkT n ss) (m : Sto) : d__law_tasks [townD n ss] m = .ok (.lst ((tasksL ss ss.length).map pairD)) m := by
  have l12 := h.l12
  obtain ⟨r', m', e, z2, z3, rfl, rfl, _⟩ := forD_inv (p := pN 2) (b := ltB) (fun j r m' => ∃ z2 z3, r = [.dat (townD n ss), .dat (.lst ((tasksL ss j).map pairD)), z2, z3] ∧ m' = m ∧ j ≤ ss.length) (rangeD 0 ss.length) 0
    [.dat (townD n ss), .dat (.lst []), .un, .un] m (by
      rintro j d r m' hd ⟨z2, z3, rfl, rfl, hj⟩
      obtain ⟨hj, rfl⟩ := mem_range hd
      rw [Nat.zero_add]
      have hs : ss[j]? = some ss[j] := List.getElem?_eq_getElem hj
      refine ⟨[.dat (townD n ss), .dat (.lst ((tasksL ss j).map pairD)), .dat (.int (j : Int)), z3], by rw [Int.zero_add]; rfl, [.dat (townD n ss), .dat (.lst ((tasksL ss (j + 1)).map pairD)), .dat (.int (j : Int)), .dat (.str ss[j].2.2.2)], m', .inl ?_, .dat (.int (j : Int)), .dat (.str ss[j].2.2.2), rfl, rfl, by omega⟩
      refine sq_at (set_at (op2_at (op2_at (op2_at (b_at rfl) c_at town_get1) (b_at rfl) (st_get hs)) c_at (sD3 _))) (set_to (op2_at (d := .lst ((tasksL ss (j + 1)).map pairD)) (b_at rfl) (ltE_at (i := j) (s := ss[j]) rfl rfl (h.ok _ (List.getElem_mem hj)).1) ?_) rfl)
      have := gAdd_l (m := m') (xs := (tasksL ss j).map pairD) (ys := (tskOf j ss[j]).map pairD) (by
        rw [List.length_map, List.length_map]
        have := tasks_len (ss := ss) (k := j)
        have := tsk_len j ss[j]
        show _ ≤ 100000; omega)
      rw [← List.map_append, ← tasks_succ hs] at this
      exact this) ⟨.un, .un, rfl, rfl, Nat.zero_le _⟩
  rw [range_len, Nat.zero_add] at e
  unfold d__law_tasks
  refine body_at ?_
  rw [lt_eq]
  refine sq_at (r1 := [.dat (townD n ss), .dat (.lst []), .un, .un]) (m1 := m') rfl (sq_at (for_at (ds := rangeD 0 ss.length) (m1 := m') ?_ e) rfl)
  have gl : gLen m' [.tup (ss.map sD)] = some (.int (ss.length : Int)) := by simp
  have := iRg1_at (m := m') (m1 := m') (f := opN gLen (aC (op2 gGet (eB 0) (eC (.int 1))) aN)) (r := [.dat (townD n ss), .dat (.lst []), .un, .un]) (j := (ss.length : Int)) (opN1_at (op2_at (b_at rfl) c_at town_get1) gl) (by omega)
  rw [Int.toNat_natCast] at this
  exact this
end T
end
section
set_option Elab.async false
set_option linter.all false
set_option maxRecDepth 100000
namespace Q
open PySem L2
section
variable {r r1 : Env} {m m1 m2 m3 : Sto} {f g h : Ed} {x y z d d' : D} {j n : Nat} {b : Sd}
theorem put_own (e1 : g r m = .ok x m1) (e2 : f r m1 = .ok y m2) (h : r[j]? = some (.own d)) (hp : putD y x d = some d') (er : r.set j (.own d') = r1) : sPut j f g r m = .nx r1 m2 := by
  rw [sPut_ap, e1, put1_ok, e2, put2_ok, mutS_ap, h, mut1_own, hp]
  show put3 (some (r.set j (.own d'), m2)) = _
  rw [put3_some, er]
theorem get2_at {o : Option D} (e1 : f r m = .ok x m1) (hd : isDt m1 x = true) (e2 : g r m1 = .ok y m2) (e3 : h r m2 = .ok z m3) (hl : lookD m3 x y = some o) : eGet2 f g h r m = .ok (o.getD z) m3 := by
  unfold eGet2
  rw [e1]
  show (if isDt m1 x = true then _ else _) = _
  rw [if_pos hd, e2]
  show (h r m2).bind _ = _
  rw [e3]
  show (match lookD m3 x y with | some (some d) => Res.ok d m3 | some none => .ok z m3 | none => .stuck) = _
  rw [hl]
  cases o <;> rfl
theorem bodyF_at {args : List D} (e : b (startR n args) m = .rt true d m1) : bodyD true n b args m = .ok d m1 := by rw [bodyD_ap, e]; rfl
end
end Q
namespace T
open PySem L2 Q
variable {m : Sto}
/-- the task of a pair -/
def tkey (ss : List Stt) (p : Int × Int) : Int × Int := match findAt ss p.1 p.2 with
  | some i => (match ss[i]? with
    | some s => ((i : Int), if s.2.2.2 = ("narrow" : Str) then 0 else if s.1 = p.1 then 1 else -1)
    | none => (0, 0))
  | none => (0, 0)
theorem tkey_of {ss : List Stt} {p : Int × Int} {i : Nat} {s : Stt} (h : findAt ss p.1 p.2 = some i) (hs : ss[i]? = some s) : tkey ss p = ((i : Int), if s.2.2.2 = ("narrow" : Str) then 0 else if s.1 = p.1 then 1 else -1) := by
  unfold tkey
  rw [h]
  simp only [hs]
abbrev Cnt := (Int × Int) × Int
def kvI (e : Cnt) : List Key × D := ([.inl e.1.1, .inl e.1.2], .int e.2)
def putC (l : List Cnt) (t : Int × Int) : List Cnt := if (l.any fun e => decide (e.1 = t)) = true then l.map (fun e => if e.1 = t then (e.1, e.2 + 1) else e) else l ++ [(t, 1)]
def cntC (l : List Cnt) (t : Int × Int) : Int := match l.find? fun e => decide (e.1 = t) with
  | some e => e.2
  | none => 0
theorem kv_key (e : Cnt) (t : Int × Int) : ((kvI e).1 = [Sum.inl t.1, Sum.inl t.2]) ↔ e.1 = t := by
  obtain ⟨⟨a, b⟩, c⟩ := e
  obtain ⟨x, y⟩ := t
  unfold kvI
  simp
theorem get_cnt (l : List Cnt) (t : Int × Int) : getA (l.map kvI) [.inl t.1, .inl t.2] = (l.find? fun e => decide (e.1 = t)).map fun e => D.int e.2 := by
  unfold getA
  rw [List.find?_map, Option.map_map]
  have : ((fun kv : List Key × D => decide (kv.1 = [Sum.inl t.1, Sum.inl t.2])) ∘ kvI) = fun e => decide (e.1 = t) := by
    funext e
    show decide ((kvI e).1 = _) = _
    exact decide_eq_decide.mpr (kv_key e t)
  rw [this]
  rfl
theorem get_none_or (l : List Cnt) (t : Int × Int) : (getA (l.map kvI) [.inl t.1, .inl t.2]).getD (.int 0) = .int (cntC l t) := by
  rw [get_cnt]
  unfold cntC
  cases l.find? fun e => decide (e.1 = t) <;> rfl
theorem find_uq {l : List Cnt} (hn : (l.map (·.1)).Nodup) {e : Cnt} (he : e ∈ l) : l.find? (fun e' => decide (e'.1 = e.1)) = some e := by
  induction l with
  | nil => cases he
  | cons a l ih =>
    obtain ⟨h1, h2⟩ := List.nodup_cons.mp hn
    rcases List.mem_cons.mp he with rfl | he
    · rw [List.find?_cons]; simp
    · have ne : a.1 ≠ e.1 := fun z => h1 (List.mem_map.mpr ⟨e, he, z.symm⟩)
      rw [List.find?_cons, decide_eq_false ne]
      exact ih h2 he
theorem put_cnt {l : List Cnt} (hn : (l.map (·.1)).Nodup) (t : Int × Int) : putA (l.map kvI) [.inl t.1, .inl t.2] (.int (cntC l t + 1)) = (putC l t).map kvI := by
  unfold putA putC
  have e1 : ((l.map kvI).any fun kv => decide (kv.1 = [Sum.inl t.1, Sum.inl t.2])) = l.any fun e => decide (e.1 = t) := by
    rw [List.any_map]
    congr 1
    funext e
    exact decide_eq_decide.mpr (kv_key e t)
  rw [e1]
  split
  · rename_i h
    rw [List.map_map, List.map_map]
    refine List.map_congr_left fun e he => ?_
    show (if (kvI e).1 = [Sum.inl t.1, Sum.inl t.2] then ((kvI e).1, D.int (cntC l t + 1)) else kvI e) = kvI (if e.1 = t then (e.1, e.2 + 1) else e)
    by_cases z : e.1 = t
    · rw [if_pos ((kv_key e t).mpr z), if_pos z]
      have : cntC l t = e.2 := by
        unfold cntC
        rw [← z, find_uq hn he]
      rw [this]; rfl
    · rw [if_neg (fun q => z ((kv_key e t).mp q)), if_neg z]
  · rename_i h
    have : cntC l t = 0 := by
      unfold cntC
      rw [List.find?_eq_none.mpr]
      intro e he z
      exact h (List.any_eq_true.mpr ⟨e, he, z⟩)
    rw [this, List.map_append]; rfl
theorem putC_nd {l : List Cnt} (hn : (l.map (·.1)).Nodup) (t : Int × Int) : ((putC l t).map (·.1)).Nodup := by
  unfold putC
  split
  · have : (l.map fun e => if e.1 = t then (e.1, e.2 + 1) else e).map (·.1) = l.map (·.1) := by
      rw [List.map_map]
      refine List.map_congr_left fun e _ => ?_
      show (if e.1 = t then (e.1, e.2 + 1) else e).1 = e.1
      split <;> rfl
    rw [this]; exact hn
  · rename_i h
    rw [List.map_append, List.nodup_append]
    refine ⟨hn, by simp, fun a ha b hb e => ?_⟩
    simp at hb
    subst hb
    obtain ⟨x, hx, rfl⟩ := List.mem_map.mp ha
    exact h (List.any_eq_true.mpr ⟨x, hx, decide_eq_true e⟩)
theorem putC_len (l : List Cnt) (t : Int × Int) : (putC l t).length ≤ l.length + 1 := by
  unfold putC
  split <;> simp
def doneC (l : List (Int × Int)) : List Cnt := l.foldl putC []
theorem done_snoc (l : List (Int × Int)) (t : Int × Int) : doneC (l ++ [t]) = putC (doneC l) t := by
  unfold doneC
  rw [List.foldl_append]; rfl
theorem done_nd : ∀ l : List (Int × Int), ((doneC l).map (·.1)).Nodup ∧ (doneC l).length ≤ l.length := by
  intro l
  have go : ∀ (k : Nat), k ≤ l.length → ((doneC (l.take k)).map (·.1)).Nodup ∧ (doneC (l.take k)).length ≤ k := by
    intro k
    induction k with
    | zero => intro _; simp [doneC]
    | succ k ih =>
      intro hk
      obtain ⟨h1, h2⟩ := ih (by omega)
      rw [List.take_add_one, List.getElem?_eq_getElem (by omega : k < l.length)]
      show ((doneC (l.take k ++ [l[k]])).map (·.1)).Nodup ∧ _
      rw [done_snoc]
      exact ⟨putC_nd h1 _, by have := putC_len (doneC (l.take k)) l[k]; show (doneC (l.take k ++ [l[k]])).length ≤ _; rw [done_snoc]; omega⟩
  have := go l.length (Nat.le_refl _)
  rwa [List.take_length] at this
/-- one count more -/
theorem cnt_put {j : Nat} {fk fx : Ed} {r r1 : Q.Env} {l : List Cnt} {t : Int × Int} {i : Nat} (hn : (l.map (·.1)).Nodup) (hl : l.length < 100000) (hj : r[j]? = some (.own (.dT (l.map kvI)))) (hi : r[i]? = some (.dat (pairD t))) (er : r.set j (.own (.dT ((putC l t).map kvI))) = r1) :
    sPut j (eB i) (op2 gAdd (eGet2 (eB j) (eV i) (eC (.int 0))) (eC (.int 1))) r m = .nx r1 m := by
  refine put_own (x := .int (cntC l t + 1)) (y := pairD t) (m1 := m) (op2_at (get2_at (b_own hj) rfl (v_at hi) c_at (o := getA (l.map kvI) [.inl t.1, .inl t.2]) rfl) c_at (by rw [get_none_or]; rfl)) (b_at hi) hj ?_ er
  rw [← put_cnt hn t]
  exact putD_T rfl (by rw [List.length_map]; show _ < 100000; omega)
/-! the task of a step -/
theorem task_of {n : Int} {ss : List Stt} (h : OkT n ss) {kvs : List (List Key × D)} (hk : SOk ss ss.length kvs) {p : Int × Int} {i : Nat} {s : Stt} (hi : findAt ss p.1 p.2 = some i) (hs : ss[i]? = some s) (m : Sto) : d_task_of [townD n ss, .dT kvs, pairD p] m = .ok (pairD (tkey ss p)) m := by
  have gi : gGet m (.dT kvs) (.tup [.int p.1, .int p.2]) = some (.int (i : Int)) := look_get (by rw [steps_get hk, hi]; rfl)
  have hkd := (h.ok s (List.mem_of_getElem? hs)).1
  rw [tkey_of hi hs]
  unfold d_task_of
  refine body_at ?_
  refine sq_at (r1 := [.dat (townD n ss), .dat (.dT kvs), .dat (pairD p), .dat (.int (i : Int))]) (m1 := m) (set_to (op2_at (b_at rfl) (b_at rfl) gi) rfl) ?_
  have t1 : bE (op2 (gEqA false) (op2 gGet (op2 gGet (op2 gGet (eB 0) (eC (.int 1))) (eB 3)) (eC (.int 3))) (eC (.str "narrow"))) [.dat (townD n ss), .dat (.dT kvs), .dat (pairD p), .dat (.int (i : Int))] m = .ok (decide (s.2.2.2 = ("narrow" : Str))) m :=
    bE_at (op2_at (op2_at (op2_at (op2_at (b_at rfl) c_at town_get1) (b_at rfl) (st_get hs)) c_at (sD3 s)) c_at (gEq_s (kind_s hkd) narrow_s))
  by_cases e1 : s.2.2.2 = ("narrow" : Str)
  · rw [decide_eq_true e1] at t1
    rw [if_pos e1]
    exact sq_rt (if_t t1 (ret_at (opN2_at (v_at rfl) c_at rfl)))
  · rw [decide_eq_false e1] at t1
    rw [if_neg e1]
    have t2 : bE (op2 (gEqA false) (op2 gGet (eB 2) (eC (.int 0))) (op2 gGet (op2 gGet (op2 gGet (eB 0) (eC (.int 1))) (eB 3)) (eC (.int 0)))) [.dat (townD n ss), .dat (.dT kvs), .dat (pairD p), .dat (.int (i : Int))] m = .ok (decide (p.1 = s.1)) m :=
      bE_at (op2_at (x := .int p.1) (op2_at (b_at rfl) c_at rfl) (op2_at (op2_at (op2_at (b_at rfl) c_at town_get1) (b_at rfl) (st_get hs)) c_at (sD0 s)) gEq_i)
    refine sq_at (if_f t1 rfl) (ret_at (opN2_at (y := .int (if s.1 = p.1 then 1 else -1)) (v_at rfl) ?_ rfl))
    by_cases e2 : s.1 = p.1
    · rw [decide_eq_true e2.symm] at t2
      rw [if_pos e2]
      exact eIf_t t2 c_at
    · rw [decide_eq_false (fun z => e2 z.symm)] at t2
      rw [if_neg e2]
      exact eIf_f t2 (op1_at c_at rfl)
def doneL (ss : List Stt) (l : List Int) : List Cnt := doneC ((prs l).map (tkey ss))
theorem done_take {ss : List Stt} {l : List Int} {j : Nat} {p : Int × Int} (hp : (prs l)[j]? = some p) : doneC (((prs l).map (tkey ss)).take (j + 1)) = putC (doneC (((prs l).map (tkey ss)).take j)) (tkey ss p) := by
  rw [List.take_add_one, List.getElem?_map, hp]
  exact done_snoc _ _
theorem done_take_nd (q : List (Int × Int)) (j : Nat) : ((doneC (q.take j)).map (·.1)).Nodup ∧ (doneC (q.take j)).length ≤ q.length := by
  obtain ⟨h1, h2⟩ := done_nd (q.take j)
  rw [List.length_take] at h2
  exact ⟨h1, by omega⟩
theorem done_in {n : Int} {ss : List Stt} (h : OkT n ss) {l : List Int} (hl : okDr n ss l = true) (m : Sto) : d_done_in [townD n ss, rowT l] m = .ok (.dT ((doneL ss l).map kvI)) m := by
  obtain ⟨kvs, es, hk, _⟩ := steps_at h m
  have h4 := (ok_len hl).2
  have hpl := prs_len l
  obtain ⟨r', m', e, z4, z5, rfl, rfl⟩ := forD_inv (p := pN 4) (b := (sSeq (sSet 5 (callD 3 d_task_of (aC (eV 0) (aC (eV 2) (aC (eV 4) aN))))) (sPut 3 (eB 5) (op2 gAdd (eGet2 (eB 3) (eV 5) (eC (.int 0))) (eC (.int 1)))))) (fun j r m' => ∃ z4 z5, r = [.dat (townD n ss), .dat (rowT l), .dat (.dT kvs), .own (.dT ((doneC (((prs l).map (tkey ss)).take j)).map kvI)), z4, z5] ∧ m' = m) ((prs l).map pairD) 0
    [.dat (townD n ss), .dat (rowT l), .dat (.dT kvs), .own (.dT []), .un, .un] m (by
      rintro j d r m' hd ⟨z4, z5, rfl, rfl⟩
      rw [Nat.zero_add]
      rw [List.getElem?_map] at hd
      obtain ⟨p, hp, rfl⟩ := Option.map_eq_some_iff.mp hd
      obtain ⟨i, s, hi, hs⟩ := ok_pairs hl p (List.mem_of_getElem? hp)
      obtain ⟨q1, q2⟩ := done_take_nd ((prs l).map (tkey ss)) j
      rw [List.length_map] at q2
      refine ⟨[.dat (townD n ss), .dat (rowT l), .dat (.dT kvs), .own (.dT ((doneC (((prs l).map (tkey ss)).take j)).map kvI)), .dat (pairD p), z5], rfl, [.dat (townD n ss), .dat (rowT l), .dat (.dT kvs), .own (.dT ((doneC (((prs l).map (tkey ss)).take (j + 1))).map kvI)), .dat (pairD p), .dat (pairD (tkey ss p))], m', .inl ?_, .dat (pairD p), .dat (pairD (tkey ss p)), rfl, rfl⟩
      refine sq_at (set_at (call3_at (v_at rfl) (v_at rfl) (v_at rfl) (task_of h hk hi hs m'))) (cnt_put (fk := eB 5) (fx := eB 5) q1 (by omega) rfl rfl ?_)
      rw [← done_take hp]; rfl) ⟨.un, .un, rfl, rfl⟩
  rw [Nat.zero_add, List.length_map] at e
  rw [show ((prs l).map (tkey ss)).take (prs l).length = (prs l).map (tkey ss) by rw [List.take_of_length_le]; rw [List.length_map]; exact Nat.le_refl _] at e
  unfold d_done_in
  refine bodyF_at ?_
  refine sq_at (r1 := [.dat (townD n ss), .dat (rowT l), .dat (.dT kvs), .own (.dT []), .un, .un]) (m1 := m') (par2_at (call1_at (v_at rfl) es) c_at) (sq_at (for_at (zip_rowV rfl) e) ?_)
  rfl
theorem all_pairs {ss : List Stt} {l : List Int} (h : (prs l).all (stepB ss) = true) : ∀ p ∈ prs l, ∃ i s, findAt ss p.1 p.2 = some i ∧ ss[i]? = some s := fun p hp => by
  have := List.all_eq_true.mp h p hp
  obtain ⟨i, hi⟩ := Option.isSome_iff_exists.mp this
  obtain ⟨s, hs, _⟩ := find_some hi
  exact ⟨i, s, hi, hs⟩
theorem ok_all {n : Int} {ss : List Stt} {l : List Int} (h : okDr n ss l = true) : (prs l).all (stepB ss) = true := by
  unfold okDr at h
  simp only [Bool.and_eq_true] at h
  exact h.2
theorem law_done0 {n : Int} {ss : List Stt} (h : OkT n ss) {l : List Int} (hl : (prs l).all (stepB ss) = true) (h4 : l.length ≤ 1000) (m : Sto) : d__law_done [townD n ss, rowT l] m = .ok (.dT ((doneL ss l).map kvI)) m := by
  have hpl := prs_len l
  obtain ⟨r', m', e, z3, z4, z5, z6, rfl, rfl⟩ := forD_inv (p := pT (pCons (pN 3) (pCons (pN 4) pNil))) (b := (sSeq (sSet 5 (callD 3 d__law_step (aC (eV 0) (aC (eV 3) (aC (eV 4) aN)))))
  (sSeq (sSet 6 (opN gTup (aC (eV 5) (aC (eIf (bE (op2 (gEqA false) (op2 gGet (op2 gGet (op2 gGet (eB 0) (eC (.int 1))) (eB 5)) (eC (.int 3))) (eC (.str "narrow")))) (eC (.int 0)) (eIf (bE (op2 (gEqA false) (op2 gGet (op2 gGet (op2 gGet (eB 0) (eC (.int 1))) (eB 5)) (eC (.int 0))) (eB 3))) (eC (.int 1)) (op1 gNeg (eC (.int 1))))) aN))))
  (sPut 2 (eB 6) (op2 gAdd (eGet2 (eB 2) (eV 6) (eC (.int 0))) (eC (.int 1))))))) (fun j r m' => ∃ z3 z4 z5 z6, r = [.dat (townD n ss), .dat (rowT l), .own (.dT ((doneC (((prs l).map (tkey ss)).take j)).map kvI)), z3, z4, z5, z6] ∧ m' = m) ((prs l).map pairD) 0
    [.dat (townD n ss), .dat (rowT l), .own (.dT []), .un, .un, .un, .un] m (by
      rintro j d r m' hd ⟨z3, z4, z5, z6, rfl, rfl⟩
      rw [Nat.zero_add]
      rw [List.getElem?_map] at hd
      obtain ⟨p, hp, rfl⟩ := Option.map_eq_some_iff.mp hd
      obtain ⟨i, s, hi, hs⟩ := all_pairs hl p (List.mem_of_getElem? hp)
      obtain ⟨q1, q2⟩ := done_take_nd ((prs l).map (tkey ss)) j
      rw [List.length_map] at q2
      have hkd := (h.ok s (List.mem_of_getElem? hs)).1
      have gi := step_at h p.1 p.2 m'
      rw [hi] at gi
      refine ⟨[.dat (townD n ss), .dat (rowT l), .own (.dT ((doneC (((prs l).map (tkey ss)).take j)).map kvI)), .dat (.int p.1), .dat (.int p.2), z5, z6], rfl, [.dat (townD n ss), .dat (rowT l), .own (.dT ((doneC (((prs l).map (tkey ss)).take (j + 1))).map kvI)), .dat (.int p.1), .dat (.int p.2), .dat (.int (i : Int)), .dat (pairD (tkey ss p))], m', .inl ?_, .dat (.int p.1), .dat (.int p.2), .dat (.int (i : Int)), .dat (pairD (tkey ss p)), rfl, rfl⟩
      refine sq_at (r1 := [.dat (townD n ss), .dat (rowT l), .own (.dT ((doneC (((prs l).map (tkey ss)).take j)).map kvI)), .dat (.int p.1), .dat (.int p.2), .dat (.int (i : Int)), z6]) (m1 := m') (set_to (call3_at (v_at rfl) (v_at rfl) (v_at rfl) gi) rfl) ?_
      refine sq_at (r1 := [.dat (townD n ss), .dat (rowT l), .own (.dT ((doneC (((prs l).map (tkey ss)).take j)).map kvI)), .dat (.int p.1), .dat (.int p.2), .dat (.int (i : Int)), .dat (pairD (tkey ss p))]) (m1 := m') (set_to (d := pairD (tkey ss p)) ?_ rfl) (cnt_put (fk := eB 5) (fx := eB 5) q1 (by omega) rfl rfl ?_)
      · rw [tkey_of hi hs]
        have t1 : bE (op2 (gEqA false) (op2 gGet (op2 gGet (op2 gGet (eB 0) (eC (.int 1))) (eB 5)) (eC (.int 3))) (eC (.str "narrow"))) [.dat (townD n ss), .dat (rowT l), .own (.dT ((doneC (((prs l).map (tkey ss)).take j)).map kvI)), .dat (.int p.1), .dat (.int p.2), .dat (.int (i : Int)), z6] m' = .ok (decide (s.2.2.2 = ("narrow" : Str))) m' :=
          bE_at (op2_at (op2_at (op2_at (op2_at (b_at rfl) c_at town_get1) (b_at rfl) (st_get hs)) c_at (sD3 s)) c_at (gEq_s (kind_s hkd) narrow_s))
        have t2 : bE (op2 (gEqA false) (op2 gGet (op2 gGet (op2 gGet (eB 0) (eC (.int 1))) (eB 5)) (eC (.int 0))) (eB 3)) [.dat (townD n ss), .dat (rowT l), .own (.dT ((doneC (((prs l).map (tkey ss)).take j)).map kvI)), .dat (.int p.1), .dat (.int p.2), .dat (.int (i : Int)), z6] m' = .ok (decide (s.1 = p.1)) m' :=
          bE_at (op2_at (op2_at (op2_at (op2_at (b_at rfl) c_at town_get1) (b_at rfl) (st_get hs)) c_at (sD0 s)) (b_at rfl) gEq_i)
        refine opN2_at (y := .int (if s.2.2.2 = ("narrow" : Str) then 0 else if s.1 = p.1 then 1 else -1)) (v_at rfl) ?_ rfl
        by_cases e1 : s.2.2.2 = ("narrow" : Str)
        · rw [decide_eq_true e1] at t1
          rw [if_pos e1]
          exact eIf_t t1 c_at
        · rw [decide_eq_false e1] at t1
          rw [if_neg e1]
          refine eIf_f t1 ?_
          by_cases e2 : s.1 = p.1
          · rw [decide_eq_true e2] at t2
            rw [if_pos e2]
            exact eIf_t t2 c_at
          · rw [decide_eq_false e2] at t2
            rw [if_neg e2]
            exact eIf_f t2 (op1_at c_at rfl)
      · rw [← done_take hp]; rfl) ⟨.un, .un, .un, .un, rfl, rfl⟩
  rw [Nat.zero_add, List.length_map] at e
  rw [show ((prs l).map (tkey ss)).take (prs l).length = (prs l).map (tkey ss) by rw [List.take_of_length_le]; rw [List.length_map]; exact Nat.le_refl _] at e
  unfold d__law_done
  refine body_at ?_
  refine sq_at (r1 := [.dat (townD n ss), .dat (rowT l), .own (.dT []), .un, .un, .un, .un]) (m1 := m') rfl (sq_at (for_at (zip_rowV rfl) e) ?_)
  rfl
theorem law_done {n : Int} {ss : List Stt} (h : OkT n ss) {l : List Int} (hl : okDr n ss l = true) (m : Sto) : d__law_done [townD n ss, rowT l] m = .ok (.dT ((doneL ss l).map kvI)) m :=
  law_done0 h (ok_all hl) (by have := (ok_len hl).2; omega) m
end T
end
section
set_option Elab.async false
set_option linter.all false
set_option maxRecDepth 100000
namespace T
open PySem L2 Q
variable {m : Sto}
def itD (e : Cnt) : D := .tup [pairD e.1, .int e.2]
def itP (e : Cnt) : PyData := .tuple [.tuple [.int e.1.1, .int e.1.2], .int e.2]
theorem it_sort (l : List Cnt) : sortOk (l.map itD) = true ∧ sortD (l.map itD) = (l.mergeSort fun a b => !W.dataLt (itP b) (itP a)).map itD :=
  sort_map (f := itD) (g := itP) (fun _ => rfl) (fun a b => by simp [itP, W.alike, W.alikeAll]) (fun b => ⟨_, _, rfl⟩) (fun b => by simp [itP, PyData.depth, PyData.depthAll]) l
def srtC (l : List Cnt) : List Cnt := l.mergeSort fun a b => !W.dataLt (itP b) (itP a)
theorem srtC_len (l : List Cnt) : (srtC l).length = l.length := (List.mergeSort_perm l _).length_eq
theorem done_len {ss : List Stt} {l : List Int} : (doneL ss l).length ≤ l.length := by
  unfold doneL
  have := (done_nd ((prs l).map (tkey ss))).2
  rw [List.length_map] at this
  have := prs_len l
  omega
theorem gSortI_d (l : List Cnt) (hl : l.length ≤ 100000) : gSortI m (.dT (l.map kvI)) = some (.lst ((srtC l).map itD)) := by
  have e : (l.map kvI).map pairI = l.map itD := by
    rw [List.map_map]; rfl
  obtain ⟨h1, h2⟩ := it_sort l
  show (if (sortOk ((l.map kvI).map pairI) && decide (((l.map kvI).map pairI).length ≤ SZ)) = true then some (D.lst (sortD ((l.map kvI).map pairI))) else none) = _
  rw [e, h1, decide_eq_true (by rw [List.length_map]; exact hl), if_pos (by rfl), h2]; rfl
theorem done_by {n : Int} {ss : List Stt} (h : OkT n ss) {l : List Int} (hl : okDr n ss l = true) (m : Sto) : d_done_by [townD n ss, rowT l] m = .ok (.tup ((srtC (doneL ss l)).map itD)) m := by
  have h4 := (ok_len hl).2
  have := done_len (ss := ss) (l := l)
  unfold d_done_by
  exact body_at (sq_at (ex_at (call2_at (v_at rfl) (v_at rfl) (needd h hl m))) (ret_at (opN1_at (op1_at (call2_at (v_at rfl) (v_at rfl) (done_in h hl m)) (gSortI_d _ (by omega))) rfl)))
/-- whether a task was done -/
def isDone (ss : List Stt) (l : List Int) (t : Int × Int) : Bool := ((doneL ss l).find? fun e => decide (e.1 = t)).isSome
theorem nin_done {ss : List Stt} {l : List Int} (t : Int × Int) : gInA true m (pairD t) (.dT ((doneL ss l).map kvI)) = some (.bl (!isDone ss l t)) := by
  show gInA true m (.tup [.int t.1, .int t.2]) _ = _
  rw [look_nin, get_cnt]
  unfold isDone
  cases (doneL ss l).find? fun e => decide (e.1 = t) <;> rfl
theorem in_done {ss : List Stt} {l : List Int} (t : Int × Int) : gInA false m (pairD t) (.dT ((doneL ss l).map kvI)) = some (.bl (isDone ss l t)) := by
  show gInA false m (.tup [.int t.1, .int t.2]) _ = _
  rw [look_in, get_cnt]
  unfold isDone
  cases (doneL ss l).find? fun e => decide (e.1 = t) <;> rfl
def leftL (ss : List Stt) (l : List Int) : List (Int × Int) := (tasksL ss ss.length).filter fun t => !isDone ss l t
theorem left_by {n : Int} {ss : List Stt} (h : OkT n ss) {l : List Int} (hl : okDr n ss l = true) (m : Sto) : d_left_by [townD n ss, rowT l] m = .ok (.tup ((leftL ss l).map pairD)) m := by
  have l12 := h.l12
  have tl := tasks_len (ss := ss) (k := ss.length)
  unfold d_left_by
  refine body_at (sq_at (ex_at (call2_at (v_at rfl) (v_at rfl) (needd h hl m))) (sq_at (r1 := [.dat (townD n ss), .dat (rowT l), .dat (.dT ((doneL ss l).map kvI)), .un]) (m1 := m) (set_to (call2_at (v_at rfl) (v_at rfl) (done_in h hl m)) rfl) (ret_at (opN1_at (lc_at (ys := (leftL ss l).map pairD) (iAny_at (call1_at (v_at rfl) (tasks_in h m)) rfl) (by rw [List.length_map]; show _ ≤ 100000; omega) ?_) rfl))))
  exact lcD_flt pairD _ _ fun t _ => ⟨[.dat (townD n ss), .dat (rowT l), .dat (.dT ((doneL ss l).map kvI)), .dat (pairD t)], rfl, bE_at (op2_at (b_at rfl) (b_at rfl) (nin_done t)), v_at rfl⟩
/-- the law's way to the same -/
theorem law_items {j k : Nat} {r : Q.Env} {ss : List Stt} {l : List Int} (hj : r[j]? = some (.dat (.dT ((doneL ss l).map kvI)))) (hl : (doneL ss l).length ≤ 100000) (hw : ∀ x, ∃ r', pN k x (wipeR r [k]) = some r' ∧ r'[j]? = some (.dat (.dT ((doneL ss l).map kvI))) ∧ r'[k]? = some (.dat x)) :
    opN gTupleOf (aC (opN gSort (aC (eLc (iAny (eV j)) (pN k) bYes (opN gTup (aC (eV k) (aC (op2 gGet (eB j) (eB k)) aN))) [k]) aN)) aN) r m = .ok (.tup ((srtC (doneL ss l)).map itD)) m := by
  have nd := (done_nd ((prs l).map (tkey ss))).1
  have e0 : ((doneL ss l).map kvI).map (fun kv => D.tup (kv.1.map keyD)) = (doneL ss l).map fun e => pairD e.1 := by
    rw [List.map_map]; rfl
  have it : iterD (.dT ((doneL ss l).map kvI)) = some ((doneL ss l).map fun e => pairD e.1) := by
    show some (((doneL ss l).map kvI).map fun kv => D.tup (kv.1.map keyD)) = _
    rw [e0]
  obtain ⟨s1, s2⟩ := it_sort (doneL ss l)
  have hs : gSort m [.lst ((doneL ss l).map itD)] = some (.lst ((srtC (doneL ss l)).map itD)) := by
    rw [gSort_of (ds := (doneL ss l).map itD) rfl s1 (by rw [List.length_map]; exact hl), s2]; rfl
  refine opN1_at (opN1_at (lc_at (ys := (doneL ss l).map itD) (iAny_at (v_at hj) it) (by rw [List.length_map]; exact hl) ?_) hs) rfl
  refine lcD_map (fun e : Cnt => pairD e.1) itD _ fun e he => ?_
  obtain ⟨r', h1, h2, h3⟩ := hw (pairD e.1)
  refine ⟨r', h1, opN2_at (v_at h3) (op2_at (b_at h2) (b_at h3) ?_) rfl⟩
  show gGet m (.dT ((doneL ss l).map kvI)) (.tup [.int e.1.1, .int e.1.2]) = some (.int e.2)
  refine look_get ?_
  rw [get_cnt, show ((doneL ss l).find? fun e_1 => decide (e_1.1 = e.1)) = some e from find_uq nd he]; rfl
theorem law_left {i j k : Nat} {r : Q.Env} {ss : List Stt} {l : List Int} (hi : r[i]? = some (.dat (.lst ((tasksL ss ss.length).map pairD)))) (hl : (tasksL ss ss.length).length ≤ 100000) (hw : ∀ x, ∃ r', pN k x (wipeR r [k]) = some r' ∧ r'[j]? = some (.dat (.dT ((doneL ss l).map kvI))) ∧ r'[k]? = some (.dat x)) :
    opN gTupleOf (aC (eLc (iAny (eV i)) (pN k) (bE (op2 (gInA true) (eB k) (eB j))) (eV k) [k]) aN) r m = .ok (.tup ((leftL ss l).map pairD)) m := by
  refine opN1_at (lc_at (ys := (leftL ss l).map pairD) (iAny_at (v_at hi) rfl) (by rw [List.length_map]; exact hl) ?_) rfl
  refine lcD_flt pairD _ _ fun t _ => ?_
  obtain ⟨r', h1, h2, h3⟩ := hw (pairD t)
  exact ⟨r', h1, bE_at (op2_at (b_at h3) (b_at h2) (nin_done t)), v_at h3⟩
/-! rows are like themselves -/
theorem pair_sm (k : Nat) (t : Int × Int) : Sm (k + 2) (pairD t) := by
  refine .tup (k + 1) _ (by show 2 < 100000; decide) fun x hx => ?_
  simp at hx
  rcases hx with rfl | rfl <;> exact .int _ _
theorem pairs_sm (k : Nat) {l : List (Int × Int)} (h : l.length < 100000) : Sm (k + 3) (.tup (l.map pairD)) := by
  refine .tup (k + 2) _ (by rw [List.length_map]; exact h) fun x hx => ?_
  obtain ⟨t, _, rfl⟩ := List.mem_map.mp hx
  exact pair_sm k t
theorem it_sm (k : Nat) (e : Cnt) : Sm (k + 3) (itD e) := by
  refine .tup (k + 2) _ (by show 2 < 100000; decide) fun x hx => ?_
  simp at hx
  rcases hx with rfl | rfl
  · exact pair_sm k e.1
  · exact .int _ _
theorem its_sm (k : Nat) {l : List Cnt} (h : l.length < 100000) : Sm (k + 4) (.tup (l.map itD)) := by
  refine .tup (k + 3) _ (by rw [List.length_map]; exact h) fun x hx => ?_
  obtain ⟨e, _, rfl⟩ := List.mem_map.mp hx
  exact it_sm k e
end T
end
section
set_option Elab.async false
set_option linter.all false
set_option maxRecDepth 100000
/-! walks, least lengths: what relaxing in rounds comes to -/
namespace T
open PySem L2 Q
structure Gph (n : Nat) (N : Int → List Int) (w : Int → Int → Int) : Prop where
  rg : ∀ x y, y ∈ N x → 0 ≤ y ∧ y < (n : Int)
  pos : ∀ x y, y ∈ N x → 1 ≤ w x y
inductive Wk (N : Int → List Int) (w : Int → Int → Int) (s : Int) : Int → Nat → Int → Prop
  | nil : Wk N w s s 0 0
  | snoc {u v : Int} {k : Nat} {c : Int} : Wk N w s u k c → v ∈ N u → Wk N w s v (k + 1) (c + w u v)
def IsD (N : Int → List Int) (w : Int → Int → Int) (s v d : Int) : Prop := (∃ k, Wk N w s v k d) ∧ ∀ k c, Wk N w s v k c → d ≤ c
section
variable {n : Nat} {N : Int → List Int} {w : Int → Int → Int} {s t u v d d' : Int}
theorem IsD.uniq (a : IsD N w s v d) (b : IsD N w s v d') : d = d' := by
  obtain ⟨⟨k, h1⟩, h2⟩ := a
  obtain ⟨⟨k', h3⟩, h4⟩ := b
  have := h2 _ _ h3
  have := h4 _ _ h1
  omega
theorem Wk.nonneg (G : Gph n N w) {k : Nat} {c : Int} (h : Wk N w s v k c) : (k : Int) ≤ c := by
  induction h with
  | nil => simp
  | snoc _ hv ih => have := G.pos _ _ hv; omega
theorem IsD.ex (G : Gph n N w) {k : Nat} {c : Int} (h : Wk N w s v k c) : ∃ d, IsD N w s v d := by
  suffices H : ∀ (b : Nat) (k : Nat) (c : Int), c ≤ (b : Int) → Wk N w s v k c → ∃ d, IsD N w s v d from H c.toNat k c (by omega) h
  intro b
  induction b with
  | zero =>
    intro k c hc h
    refine ⟨c, ⟨k, h⟩, fun k' c' h' => ?_⟩
    have := h'.nonneg G
    omega
  | succ b ih =>
    intro k c hc h
    by_cases q : ∃ k' c', Wk N w s v k' c' ∧ c' < c
    · obtain ⟨k', c', h1, h2⟩ := q
      exact ih k' c' (by omega) h1
    · refine ⟨c, ⟨k, h⟩, fun k' c' h' => ?_⟩
      by_cases z : c' < c
      · exact absurd ⟨k', c', h', z⟩ q
      · omega
theorem IsD.self (G : Gph n N w) : IsD N w s s 0 := ⟨⟨0, .nil⟩, fun k c h => by have := h.nonneg G; omega⟩
theorem Wk.cons {b : Int} (hb : b ∈ N s) {k : Nat} {c : Int} (h : Wk N w b v k c) : Wk N w s v (k + 1) (c + w s b) := by
  induction h with
  | nil =>
    have := Wk.snoc (Wk.nil (N := N) (w := w) (s := s)) hb
    rw [show (0 : Int) + w s b = 0 + w s b from rfl]
    exact this
  | snoc _ hv ih =>
    have := Wk.snoc ih hv
    rw [show ∀ x y z : Int, x + y + z = x + z + y by intros; omega]
    exact this
theorem Wk.first {k : Nat} {c : Int} (h : Wk N w s v k c) : (k = 0 ∧ v = s ∧ c = 0) ∨ ∃ b k', b ∈ N s ∧ k = k' + 1 ∧ Wk N w b v k' (c - w s b) := by
  induction h with
  | nil => exact .inl ⟨rfl, rfl, rfl⟩
  | @snoc u v k c h hv ih =>
    rcases ih with ⟨h1, h2, h3⟩ | ⟨b, k', h1, h2, h3⟩
    · subst h2
      refine .inr ⟨v, 0, hv, by omega, ?_⟩
      rw [h3, show (0 : Int) + w u v - w u v = 0 by omega]
      exact .nil
    · refine .inr ⟨b, k' + 1, h1, by omega, ?_⟩
      have := Wk.snoc h3 hv
      rw [show c + w u v - w s b = c - w s b + w u v by omega]
      exact this
/-- the first step of a least walk -/
theorem IsD.step (h : IsD N w s t d) (ne : s ≠ t) : ∃ b, b ∈ N s ∧ IsD N w b t (d - w s b) := by
  obtain ⟨⟨k, h1⟩, h2⟩ := h
  rcases h1.first with ⟨_, q, _⟩ | ⟨b, k', hb, _, hw⟩
  · exact absurd q.symm ne
  · refine ⟨b, hb, ⟨k', hw⟩, fun j c hj => ?_⟩
    have := h2 _ _ (hj.cons hb)
    omega
/-- the last step of a least walk -/
theorem IsD.last (h : IsD N w s v d) (ne : s ≠ v) : ∃ u, v ∈ N u ∧ IsD N w s u (d - w u v) := by
  obtain ⟨⟨k, h1⟩, h2⟩ := h
  cases h1 with
  | nil => exact absurd rfl ne
  | @snoc u _ k c hu hv =>
    refine ⟨u, hv, ⟨k, by rw [show c + w u v - w u v = c by omega]; exact hu⟩, fun j c' hj => ?_⟩
    have := h2 _ _ (.snoc hj hv)
    omega
theorem Wk.range (G : Gph n N w) (hs : 0 ≤ s ∧ s < (n : Int)) {k : Nat} {c : Int} (h : Wk N w s v k c) : 0 ≤ v ∧ v < (n : Int) := by
  cases h with
  | nil => exact hs
  | snoc _ hv => exact G.rg _ _ hv
/-- how many corners are nearer to s than v -/
noncomputable def rkS (n : Nat) (N : Int → List Int) (w : Int → Int → Int) (s v : Int) : Nat := (List.range n).countP fun u : Nat => @decide (∃ d d', IsD N w s (u : Int) d ∧ IsD N w s v d' ∧ d < d') (Classical.propDecidable _)
/-- how many corners are nearer to t than v -/
noncomputable def rkT (n : Nat) (N : Int → List Int) (w : Int → Int → Int) (t v : Int) : Nat := (List.range n).countP fun u : Nat => @decide (∃ d d', IsD N w (u : Int) t d ∧ IsD N w v t d' ∧ d < d') (Classical.propDecidable _)
theorem dec_iff {p : Prop} : @decide p (Classical.propDecidable p) = true ↔ p := by
  exact @decide_eq_true_iff p (Classical.propDecidable p)
theorem dec_not {p : Prop} : @decide p (Classical.propDecidable p) = false ↔ ¬ p := by
  exact @decide_eq_false_iff_not p (Classical.propDecidable p)
theorem rkS_lt (hu : 0 ≤ u ∧ u < (n : Int)) (a : IsD N w s u d) (b : IsD N w s v d') (lt : d < d') : rkS n N w s u + 1 ≤ rkS n N w s v := by
  obtain ⟨i, rfl⟩ := Int.eq_ofNat_of_zero_le hu.1
  refine cnt_lt (a := i) (fun c hc q => ?_) (by omega) (dec_iff.mpr ⟨d, d', a, b, lt⟩) (dec_not.mpr fun ⟨e, e', h1, h2, h3⟩ => ?_)
  · obtain ⟨e, e', h1, h2, h3⟩ := dec_iff.mp q
    have := h2.uniq a
    exact dec_iff.mpr ⟨e, d', h1, b, by omega⟩
  · have := h1.uniq h2
    omega
theorem rkT_lt (hu : 0 ≤ u ∧ u < (n : Int)) (a : IsD N w u t d) (b : IsD N w v t d') (lt : d < d') : rkT n N w t u + 1 ≤ rkT n N w t v := by
  obtain ⟨i, rfl⟩ := Int.eq_ofNat_of_zero_le hu.1
  refine cnt_lt (a := i) (fun c hc q => ?_) (by omega) (dec_iff.mpr ⟨d, d', a, b, lt⟩) (dec_not.mpr fun ⟨e, e', h1, h2, h3⟩ => ?_)
  · obtain ⟨e, e', h1, h2, h3⟩ := dec_iff.mp q
    have := h2.uniq a
    exact dec_iff.mpr ⟨e, d', h1, b, by omega⟩
  · have := h1.uniq h2
    omega
theorem rkS_le : rkS n N w s v ≤ n := cnt_le
theorem rkT_le (hu : 0 ≤ u ∧ u < (n : Int)) : rkT n N w t u + 1 ≤ n := by
  obtain ⟨i, rfl⟩ := Int.eq_ofNat_of_zero_le hu.1
  have h := cnt_lt (p := fun _ => true) (q := fun x : Nat => @decide (∃ d d', IsD N w (x : Int) t d ∧ IsD N w (i : Int) t d' ∧ d < d') (Classical.propDecidable _)) (n := n) (a := i) (fun _ _ _ => rfl) (by omega) rfl (dec_not.mpr fun ⟨e, e', h1, h2, h3⟩ => by
    have := h1.uniq h2
    omega)
  exact Nat.le_trans h cnt_le
/-! relaxing -/
abbrev Fn := Int → Option Int
def LeF (f g : Fn) : Prop := ∀ v x, g v = some x → ∃ y, f v = some y ∧ y ≤ x
def SndF (N : Int → List Int) (w : Int → Int → Int) (s : Int) (f : Fn) : Prop := ∀ v x, f v = some x → ∃ k, Wk N w s v k x
def relF (f : Fn) (v c : Int) : Fn := fun z => if z = v then some (match f v with | none => c | some x => if x < c then x else c) else f z
theorem LeF.refl (f : Fn) : LeF f f := fun v x h => ⟨x, h, Int.le_refl _⟩
theorem LeF.trans {f g h : Fn} (a : LeF f g) (b : LeF g h) : LeF f h := fun v x q => by
  obtain ⟨y, h1, h2⟩ := b v x q
  obtain ⟨z, h3, h4⟩ := a v y h1
  exact ⟨z, h3, by omega⟩
theorem relF_le (f : Fn) (v c : Int) : LeF (relF f v c) f := fun z x h => by
  unfold relF
  by_cases e : z = v
  · rw [if_pos e]
    subst e
    rw [h]
    dsimp only
    split
    · exact ⟨_, rfl, by omega⟩
    · exact ⟨_, rfl, by omega⟩
  · rw [if_neg e]; exact ⟨x, h, Int.le_refl _⟩
theorem relF_at (f : Fn) (v c : Int) : ∃ y, relF f v c v = some y ∧ y ≤ c := by
  unfold relF
  rw [if_pos rfl]
  cases f v with
  | none => exact ⟨c, rfl, Int.le_refl _⟩
  | some x =>
    dsimp only
    split
    · exact ⟨_, rfl, by omega⟩
    · exact ⟨_, rfl, by omega⟩
theorem relF_snd {f : Fn} (h : SndF N w s f) {c : Int} (hw : ∃ k, Wk N w s v k c) : SndF N w s (relF f v c) := fun z x q => by
  unfold relF at q
  by_cases e : z = v
  · rw [if_pos e] at q
    subst e
    cases hf : f z with
    | none => rw [hf] at q; cases q; exact hw
    | some y =>
      rw [hf] at q
      dsimp only at q
      split at q
      · cases q; exact h _ _ hf
      · cases q; exact hw
  · rw [if_neg e] at q; exact h _ _ q
/-- after so many rounds -/
def Rnd (n : Nat) (N : Int → List Int) (w : Int → Int → Int) (s : Int) (i : Nat) (f : Fn) : Prop := SndF N w s f ∧ ∀ v d, IsD N w s v d → rkS n N w s v ≤ i → f v = some d
theorem rnd_0 (G : Gph n N w) (hs : 0 ≤ s ∧ s < (n : Int)) : Rnd n N w s 0 (fun z => if z = s then some 0 else none) := by
  refine ⟨fun v x h => ?_, fun v d h hr => ?_⟩ <;> dsimp only at *
  · by_cases e : v = s
    · rw [if_pos e] at h; cases h; subst e; exact ⟨0, .nil⟩
    · rw [if_neg e] at h; cases h
  · by_cases e : v = s
    · subst e
      rw [if_pos rfl, h.uniq (IsD.self G)]
    · exfalso
      have pos : 0 < d := by
        obtain ⟨u, hu, hd⟩ := h.last (fun z => e z.symm)
        obtain ⟨⟨k, q⟩, _⟩ := hd
        have := q.nonneg G
        have := G.pos _ _ hu
        omega
      have := rkS_lt hs (IsD.self G) h pos
      omega
/-- what a round leaves: all edges out of what was found are looked at -/
theorem rnd_succ (G : Gph n N w) (hs : 0 ≤ s ∧ s < (n : Int)) {i : Nat} {f g : Fn} (h : Rnd n N w s i f) (le : LeF g f) (sd : SndF N w s g) (hr : ∀ u, 0 ≤ u → u < (n : Int) → ∀ x, f u = some x → ∀ v ∈ N u, ∃ y, g v = some y ∧ y ≤ x + w u v) : Rnd n N w s (i + 1) g := by
  refine ⟨sd, fun v d hd hk => ?_⟩
  have fin : (∃ y, g v = some y ∧ y ≤ d) → g v = some d := fun ⟨y, h1, h2⟩ => by
    obtain ⟨k, hw⟩ := sd _ _ h1
    have := hd.2 _ _ hw
    rw [h1, show y = d by omega]
  by_cases e : s = v
  · subst e
    have h0 := hd.uniq (IsD.self G)
    subst h0
    have : f s = some 0 := h.2 s 0 (IsD.self G) (by
      have : rkS n N w s s = 0 := by
        rw [rkS, List.countP_eq_zero]
        intro u _ q
        obtain ⟨a, b, h1, h2, h3⟩ := dec_iff.mp q
        have := h2.uniq (IsD.self G)
        obtain ⟨⟨k, hw⟩, _⟩ := h1
        have := hw.nonneg G
        omega
      omega)
    exact fin (le _ _ this)
  · obtain ⟨u, hu, hud⟩ := hd.last e
    have rg : 0 ≤ u ∧ u < (n : Int) := by
      obtain ⟨⟨k, hw⟩, _⟩ := hud
      exact hw.range G hs
    have lt := G.pos _ _ hu
    have := rkS_lt rg hud hd (by omega)
    have fu := h.2 u _ hud (by omega)
    obtain ⟨y, h1, h2⟩ := hr u rg.1 rg.2 _ fu v hu
    exact fin ⟨y, h1, by omega⟩
theorem rnd_end {f : Fn} (G : Gph n N w) (h : Rnd n N w s n f) (v d : Int) : f v = some d ↔ IsD N w s v d := by
  constructor
  · intro q
    obtain ⟨k, hw⟩ := h.1 _ _ q
    obtain ⟨d', hd⟩ := IsD.ex G hw
    have := h.2 v d' hd rkS_le
    rw [q] at this
    cases this
    exact hd
  · exact fun q => h.2 v d q rkS_le
end
end T
end
section
set_option Elab.async false
set_option linter.all false
set_option maxRecDepth 100000
/-! the dict of least lengths -/
namespace T
open PySem L2 Q
section
variable {m : Sto}
theorem getA_put {κ : Type} [DecidableEq κ] (kvs : List (κ × D)) (k k' : κ) (v : D) : getA (putA kvs k v) k' = if k' = k then some v else getA kvs k' := by
  have up : ∀ l : List (κ × D), getA (l.map fun kv => if kv.1 = k then (kv.1, v) else kv) k' = if k' = k then (if (l.any fun kv => decide (kv.1 = k)) = true then some v else none) else getA l k' := by
    intro l
    induction l with
    | nil => simp [getA]
    | cons a l ih =>
      unfold getA at ih ⊢
      rw [List.map_cons, List.find?_cons, List.find?_cons]
      by_cases e : a.1 = k
      · rw [if_pos e]
        by_cases e2 : k' = k
        · subst e2
          rw [if_pos rfl]
          simp [e]
        · rw [if_neg e2] at ih ⊢
          have : ¬ a.1 = k' := fun z => e2 (by rw [← z, e])
          simp only [decide_eq_false this]
          exact ih
      · rw [if_neg e]
        by_cases e2 : k' = k
        · subst e2
          rw [if_pos rfl] at ih ⊢
          simp only [decide_eq_false e, List.any_cons, Bool.false_or]
          exact ih
        · rw [if_neg e2] at ih ⊢
          by_cases e3 : a.1 = k'
          · simp [e3]
          · simp only [decide_eq_false e3]
            exact ih
  unfold putA
  by_cases h : (kvs.any fun kv => decide (kv.1 = k)) = true
  · rw [if_pos h, up, if_pos h]
  · rw [if_neg h]
    unfold getA
    rw [List.find?_append]
    by_cases e2 : k' = k
    · subst e2
      rw [if_pos rfl]
      have : kvs.find? (fun kv => decide (kv.1 = k')) = none := by
        rw [List.find?_eq_none]
        intro x hx q
        exact h (List.any_eq_true.mpr ⟨x, hx, q⟩)
      rw [this]
      simp
    · rw [if_neg e2]
      have : List.find? (fun kv => decide (kv.1 = k')) [(k, v)] = none := by
        rw [List.find?_cons, decide_eq_false (show ¬ (k, v).1 = k' from fun z => e2 z.symm)]
        rfl
      rw [this, Option.or_none]
/-- the dict bears the function -/
def Rf (kvs : List (Key × D)) (f : Fn) : Prop := ∀ v : Int, getA kvs (.inl v) = (f v).map D.int
def rvF (o : Option Int) (c : Int) : Int := match o with
  | none => c
  | some x => if x < c then x else c
theorem rel_eq (f : Fn) (v c z : Int) : relF f v c z = if z = v then some (rvF (f v) c) else f z := rfl
theorem Rf.put {kvs : List (Key × D)} {f : Fn} (h : Rf kvs f) (v c : Int) : Rf (putA kvs (.inl v) (.int (rvF (f v) c))) (relF f v c) := by
  intro z
  rw [getA_put, rel_eq]
  by_cases e : z = v
  · subst e
    rw [if_pos rfl, if_pos rfl]
    rfl
  · rw [if_neg (fun q => e (Sum.inl.inj q)), if_neg e]
    exact h z
theorem town_w {n : Int} {ss : List Stt} (h : OkT n ss) {r : Q.Env} {i j : Nat} {x y : Int} {k : Nat} {s : Stt} (h0 : r[0]? = some (.dat (townD n ss))) (hi : r[i]? = some (.dat (.int x))) (hj : r[j]? = some (.dat (.int y))) (hf : findAt ss x y = some k) (hs : ss[k]? = some s) :
    op2 gGet (op2 gGet (op2 gGet (eB 0) (eC (.int 1))) (callD 3 d__law_step (aC (eV 0) (aC (eV i) (aC (eV j) aN))))) (eC (.int 2)) r m = .ok (.int (lenAt ss x y)) m := by
  have gi := step_at h x y m
  rw [hf] at gi
  rw [lenAt_of hf hs]
  exact op2_at (op2_at (op2_at (b_at h0) c_at town_get1) (call3_at (v_at h0) (v_at hi) (v_at hj) gi) (st_get hs)) c_at (sD2 s)
theorem mem_next {n : Int} {ss : List Stt} (h : OkT n ss) {c y : Int} (hy : y ∈ nextL n ss c) : 0 ≤ y ∧ y < n ∧ y ≠ c ∧ ∃ k s, findAt ss c y = some k ∧ ss[k]? = some s := by
  obtain ⟨i, hi, e⟩ := List.mem_filterMap.mp hy
  unfold nextG at e
  split at e
  · rename_i q
    cases e
    have := List.mem_range.mp hi
    have := h.n2
    obtain ⟨k, hk⟩ := Option.isSome_iff_exists.mp q.2
    obtain ⟨s, hs, _⟩ := find_some hk
    exact ⟨by omega, by omega, q.1, k, s, hk, hs⟩
  · cases e
theorem gph {n : Int} {ss : List Stt} (h : OkT n ss) : Gph n.toNat (nextL n ss) (lenAt ss) where
  rg := fun x y hy => by
    obtain ⟨h1, h2, _⟩ := mem_next h hy
    have := h.n2
    omega
  pos := fun x y hy => by
    obtain ⟨_, _, _, k, s, h1, h2⟩ := mem_next h hy
    rw [lenAt_of h1 h2]
    obtain ⟨_, _, _, _, _, h3, _⟩ := h.ok s (List.mem_of_getElem? h2)
    exact h3
theorem next_len {n : Int} {ss : List Stt} (h : OkT n ss) (c : Int) : (nextL n ss c).length ≤ 8 := by
  unfold nextL
  have := List.length_filterMap_le (nextG ss c) (List.range n.toNat)
  rw [List.length_range] at this
  have := h.n8
  omega
abbrev LF (n : Int) (ss : List Stt) (s : Int) (kvs : List (Key × D)) (z3 z4 z5 z6 : Sl) : Q.Env := [.dat (townD n ss), .dat (.int s), .own (.dK kvs), z3, z4, z5, z6]
def frB : Sd := (sSeq (sSet 6 (op2 gAdd (op2 gGet (eB 2) (eB 4)) (op2 gGet (op2 gGet (op2 gGet (eB 0) (eC (.int 1))) (callD 3 d__law_step (aC (eV 0) (aC (eV 4) (aC (eV 5) aN))))) (eC (.int 2)))))
  (sPut 2 (eB 5) (opN gMin2 (aC (eB 6) (aC (eGet2 (eB 2) (eV 5) (eV 6)) aN)))))
def frM : Sd := (sFor (iAny (eIf (bE (op2 (gInA false) (eB 4) (eB 2))) (callD 2 d__law_next (aC (eV 0) (aC (eV 4) aN))) (opN gLst aN))) (pN 5) frB)
def frO : Sd := (sFor (iRg1 (op2 gGet (eB 0) (eC (.int 0)))) (pN 4) frM)
theorem far_eq : b__law_far = sSeq (sOwn 2 (eDisp (pC0 (eV 1) (eC (.int 0)) pN0))) (sSeq (sFor (iRg1 (op2 gGet (eB 0) (eC (.int 0)))) (pN 3) frO) (sSeq (sFrz 2) (sRet (eV 2)))) := rfl
theorem fr_in {kvs : List (Key × D)} (v : Int) : gInA false m (.int v) (.dK kvs) = some (.bl (getA kvs (.inl v)).isSome) := rfl
theorem fr_get {kvs : List (Key × D)} {v : Int} {d : D} (h : getA kvs (.inl v) = some d) : gGet m (.dK kvs) (.int v) = some d := by
  show (some (getA kvs (.inl v))).bind id = some d
  rw [h]; rfl
theorem frB_at {n : Int} {ss : List Stt} (h : OkT n ss) {s u v x : Int} {kvs : List (Key × D)} {f : Fn} (hr : Rf kvs f) (hl : kvs.length < 100000) (hu : f u = some x) (hv : v ∈ nextL n ss u) (z3 z6 : Sl) :
    ∃ kv2, frB (LF n ss s kvs z3 (.dat (.int u)) (.dat (.int v)) z6) m = .nx (LF n ss s kv2 z3 (.dat (.int u)) (.dat (.int v)) (.dat (.int (x + lenAt ss u v)))) m ∧ Rf kv2 (relF f v (x + lenAt ss u v)) ∧ kv2.length ≤ kvs.length + 1 := by
  obtain ⟨_, _, _, k, t, h1, h2⟩ := mem_next h hv
  obtain ⟨c, hc⟩ : ∃ c, c = x + lenAt ss u v := ⟨_, rfl⟩
  rw [← hc]
  refine ⟨_, ?_, hr.put v c, (putA_len _ _ _).1⟩
  refine sq_at (r1 := LF n ss s kvs z3 (.dat (.int u)) (.dat (.int v)) (.dat (.int c))) (m1 := m) (set_to (op2_at (op2_at (b_own rfl) (b_at rfl) (fr_get (d := .int x) (by rw [hr u, hu]; rfl))) (town_w h rfl rfl rfl h1 h2) (by rw [hc]; rfl)) rfl) ?_
  have gm : (opN gMin2 (aC (eB 6) (aC (eGet2 (eB 2) (eV 5) (eV 6)) aN))) (LF n ss s kvs z3 (.dat (.int u)) (.dat (.int v)) (.dat (.int c))) m = .ok (.int (rvF (f v) c)) m := by
    refine opN2_at (b_at rfl) (get2_at (b_own rfl) rfl (v_at rfl) (v_at rfl) (o := getA kvs (.inl v)) rfl) ?_
    rw [hr v]
    cases f v with
    | none => show some (D.int (if c < c then c else c)) = _; rw [if_neg (by omega)]; rfl
    | some y => rfl
  refine put_own (m1 := m) (y := .int v) gm (b_at rfl) rfl (d' := .dK (putA kvs (.inl v) (.int (rvF (f v) c)))) ?_ rfl
  show (if kvs.length < SZ then some (D.dK (putA kvs (.inl v) (.int (rvF (f v) c)))) else none) = _
  rw [if_pos (by show _ < 100000; omega)]
end
end T
end
section
set_option Elab.async false
set_option linter.all false
set_option maxRecDepth 100000
/-! the rounds -/
namespace T
open PySem L2 Q
section
variable {m : Sto} {n : Int} {ss : List Stt} {s : Int}
theorem frM_at (h : OkT n ss) {u : Int} {kvs : List (Key × D)} {f : Fn} (hr : Rf kvs f) (hl : kvs.length < 99000) (hs : SndF (nextL n ss) (lenAt ss) s f) (z3 z5 z6 : Sl) :
    ∃ kv2 g z5' z6', frM (LF n ss s kvs z3 (.dat (.int u)) z5 z6) m = .nx (LF n ss s kv2 z3 (.dat (.int u)) z5' z6') m ∧ Rf kv2 g ∧ LeF g f ∧ SndF (nextL n ss) (lenAt ss) s g ∧ kv2.length ≤ kvs.length + 8 ∧ ∀ x, f u = some x → ∀ v ∈ nextL n ss u, ∃ y, g v = some y ∧ y ≤ x + lenAt ss u v := by
  have tin : bE (op2 (gInA false) (eB 4) (eB 2)) (LF n ss s kvs z3 (.dat (.int u)) z5 z6) m = .ok (f u).isSome m := by
    have := hr u
    refine bE_at (op2_at (b_at rfl) (b_own rfl) ?_)
    rw [fr_in, this, Option.isSome_map]
  cases hu : f u with
  | none =>
    rw [hu] at tin
    refine ⟨kvs, f, z5, z6, ?_, hr, LeF.refl f, hs, by omega, fun x q => by cases q⟩
    exact for_at (iAny_at (eIf_f tin (opN_at a0_at rfl)) rfl) rfl
  | some x =>
    rw [hu] at tin
    obtain ⟨k0, hw0⟩ := hs _ _ hu
    have hn8 := next_len h u
    obtain ⟨r', m', e, kv2, g, z5', z6', rfl, rfl, c1, c2, c3, c4, c5, c6⟩ := forD_inv (p := pN 5) (b := frB) (fun j r m' => ∃ kv2 g z5' z6', r = LF n ss s kv2 z3 (.dat (.int u)) z5' z6' ∧ m' = m ∧ Rf kv2 g ∧ LeF g f ∧ SndF (nextL n ss) (lenAt ss) s g ∧ kv2.length ≤ kvs.length + j ∧ g u = some x ∧ ∀ v ∈ (nextL n ss u).take j, ∃ y, g v = some y ∧ y ≤ x + lenAt ss u v) ((nextL n ss u).map D.int) 0 (LF n ss s kvs z3 (.dat (.int u)) z5 z6) m (by
      rintro j d r m' hd ⟨kv2, g, z5', z6', rfl, rfl, c1, c2, c3, c4, c5, c6⟩
      rw [Nat.zero_add] at c4 c6 ⊢
      rw [List.getElem?_map] at hd
      obtain ⟨v, hv, rfl⟩ := Option.map_eq_some_iff.mp hd
      have hv' := List.mem_of_getElem? hv
      have hj := (List.getElem?_eq_some_iff.mp hv).1
      obtain ⟨kv3, e, d1, d2⟩ := frB_at (s := s) (m := m') h c1 (by omega) c5 hv' z3 z6'
      refine ⟨LF n ss s kv2 z3 (.dat (.int u)) (.dat (.int v)) z6', rfl, LF n ss s kv3 z3 (.dat (.int u)) (.dat (.int v)) (.dat (.int (x + lenAt ss u v))), m', .inl e, kv3, _, _, _, rfl, rfl, d1, (relF_le g v _).trans c2, relF_snd c3 ⟨_, .snoc hw0 hv'⟩, by omega, ?_, ?_⟩
      · rw [rel_eq, if_neg (fun q => (mem_next h hv').2.2.1 q.symm)]
        exact c5
      · intro v' hv2
        rw [List.take_add_one, hv] at hv2
        rcases List.mem_append.mp hv2 with q | q
        · obtain ⟨y, q1, q2⟩ := c6 v' q
          obtain ⟨y', q3, q4⟩ := relF_le g v (x + lenAt ss u v) v' y q1
          exact ⟨y', q3, by omega⟩
        · have q : v' = v := by simpa using q
          subst q
          exact relF_at g v' _) ⟨kvs, f, z5, z6, rfl, rfl, hr, LeF.refl f, hs, by omega, hu, by simp⟩
    rw [Nat.zero_add, List.length_map] at c4 c6
    rw [List.take_length] at c6
    refine ⟨kv2, g, z5', z6', for_at (iAny_at (eIf_t tin (call2_at (v_at rfl) (v_at rfl) (next_at h u m'))) rfl) e, c1, c2, c3, by omega, fun x' hx v hv => ?_⟩
    cases hx
    exact c6 v hv
theorem frO_at (h : OkT n ss) {kvs : List (Key × D)} {f : Fn} (hr : Rf kvs f) (hl : kvs.length < 90000) (hs : SndF (nextL n ss) (lenAt ss) s f) (z3 z4 z5 z6 : Sl) :
    ∃ kv2 g z4' z5' z6', frO (LF n ss s kvs z3 z4 z5 z6) m = .nx (LF n ss s kv2 z3 z4' z5' z6') m ∧ Rf kv2 g ∧ LeF g f ∧ SndF (nextL n ss) (lenAt ss) s g ∧ kv2.length ≤ kvs.length + 64 ∧ ∀ u, 0 ≤ u → u < (n.toNat : Int) → ∀ x, f u = some x → ∀ v ∈ nextL n ss u, ∃ y, g v = some y ∧ y ≤ x + lenAt ss u v := by
  have h2 := h.n2
  have h8 := h.n8
  obtain ⟨r', m', e, kv2, g, z4', z5', z6', rfl, rfl, c1, c2, c3, c4, c6⟩ := forD_inv (p := pN 4) (b := frM) (fun i r m' => ∃ kv2 g z4' z5' z6', r = LF n ss s kv2 z3 z4' z5' z6' ∧ m' = m ∧ Rf kv2 g ∧ LeF g f ∧ SndF (nextL n ss) (lenAt ss) s g ∧ kv2.length ≤ kvs.length + 8 * i ∧ ∀ u, 0 ≤ u → u < (i : Int) → ∀ x, f u = some x → ∀ v ∈ nextL n ss u, ∃ y, g v = some y ∧ y ≤ x + lenAt ss u v) (rangeD 0 n.toNat) 0 (LF n ss s kvs z3 z4 z5 z6) m (by
    rintro i d r m' hd ⟨kv2, g, z4', z5', z6', rfl, rfl, c1, c2, c3, c4, c6⟩
    rw [Nat.zero_add] at c4 c6 ⊢
    obtain ⟨hi, rfl⟩ := mem_range hd
    obtain ⟨kv3, g3, y5, y6, e, d1, d2, d3, d4, d5⟩ := frM_at (m := m') h (u := 0 + (i : Int)) c1 (by omega) c3 z3 z5' z6'
    refine ⟨LF n ss s kv2 z3 (.dat (.int (0 + (i : Int)))) z5' z6', rfl, _, m', .inl e, kv3, g3, _, _, _, rfl, rfl, d1, d2.trans c2, d3, by omega, fun u u0 u1 x hx v hv => ?_⟩
    by_cases q : u < (i : Int)
    · obtain ⟨y, q1, q2⟩ := c6 u u0 q x hx v hv
      obtain ⟨y', q3, q4⟩ := d2 v y q1
      exact ⟨y', q3, by omega⟩
    · have hui : u = 0 + (i : Int) := by omega
      obtain ⟨x', q1, q2⟩ := c2 u x hx
      rw [hui] at q1 hv
      obtain ⟨y, q3, q4⟩ := d5 x' q1 v hv
      exact ⟨y, q3, by rw [hui]; omega⟩) ⟨kvs, f, z4, z5, z6, rfl, rfl, hr, LeF.refl f, hs, by omega, fun u h0 h1 => by omega⟩
  rw [Nat.zero_add, range_len] at c4 c6
  refine ⟨kv2, g, z4', z5', z6', ?_, c1, c2, c3, by omega, c6⟩
  exact for_at (iRg1_at (j := n) (op2_at (b_at rfl) c_at town_get0) (by omega)) e
/-- the least lengths -/
def FarOk (n : Int) (ss : List Stt) (s : Int) (kvs : List (Key × D)) : Prop := ∃ f : Fn, Rf kvs f ∧ ∀ v d, f v = some d ↔ IsD (nextL n ss) (lenAt ss) s v d
theorem far_at (h : OkT n ss) (h0 : 0 ≤ s) (h1 : s < n) (m : Sto) : ∃ kvs, d__law_far [townD n ss, .int s] m = .ok (.dK kvs) m ∧ FarOk n ss s kvs := by
  have h2 := h.n2
  have h8 := h.n8
  have G := gph h
  have hs : 0 ≤ s ∧ s < (n.toNat : Int) := by omega
  have r0 : Rf [(.inl s, .int 0)] (fun z => if z = s then some 0 else none) := by
    intro v
    unfold getA
    rw [List.find?_cons]
    dsimp only
    by_cases e : v = s
    · subst e; simp
    · rw [decide_eq_false (fun q => e (Sum.inl.inj q).symm), if_neg e]; rfl
  obtain ⟨r', m', e, kv2, g, z3', z4', z5', z6', rfl, rfl, c1, c2, c3⟩ := forD_inv (p := pN 3) (b := frO) (fun i r m' => ∃ kv2 g z3' z4' z5' z6', r = LF n ss s kv2 z3' z4' z5' z6' ∧ m' = m ∧ Rf kv2 g ∧ Rnd n.toNat (nextL n ss) (lenAt ss) s i g ∧ kv2.length ≤ 1 + 64 * i) (rangeD 0 n.toNat) 0 (LF n ss s [(.inl s, .int 0)] .un .un .un .un) m (by
    rintro i d r m' hd ⟨kv2, g, z3', z4', z5', z6', rfl, rfl, c1, c2, c3⟩
    rw [Nat.zero_add] at c2 c3 ⊢
    obtain ⟨hi, rfl⟩ := mem_range hd
    obtain ⟨kv3, g3, y4, y5, y6, e, d1, d2, d3, d4, d5⟩ := frO_at (m := m') h c1 (by omega) c2.1 (.dat (.int (0 + (i : Int)))) z4' z5' z6'
    exact ⟨LF n ss s kv2 (.dat (.int (0 + (i : Int)))) z4' z5' z6', rfl, _, m', .inl e, kv3, g3, _, _, _, _, rfl, rfl, d1, rnd_succ G hs c2 d2 d3 d5, by omega⟩) ⟨_, _, _, _, _, _, rfl, rfl, r0, rnd_0 G hs, by simp⟩
  rw [Nat.zero_add, range_len] at c2
  refine ⟨kv2, ?_, g, c1, fun v d => rnd_end G c2 v d⟩
  unfold d__law_far
  rw [far_eq]
  refine body_at ?_
  refine sq_at (r1 := LF n ss s [(.inl s, .int 0)] .un .un .un .un) (m1 := m') rfl (sq_at (for_at (iRg1_at (j := n) (op2_at (b_at rfl) c_at town_get0) (by omega)) e) ?_)
  rfl
end
end T
end
section
set_option Elab.async false
set_option linter.all false
set_option maxRecDepth 100000
/-! rows of corners -/
namespace T
open PySem L2 Q
section
variable {m : Sto}
theorem prs_snoc : ∀ (l : List Int) (x y : Int), prs (l ++ [x] ++ [y]) = prs (l ++ [x]) ++ [(x, y)]
  | [], x, y => rfl
  | [a], x, y => rfl
  | a :: b :: l, x, y => by
    have ih := prs_snoc (b :: l) x y
    have e : ∀ q : List Int, prs (a :: b :: q) = (a, b) :: prs (b :: q) := fun q => rfl
    show prs (a :: b :: (l ++ [x] ++ [y])) = prs (a :: b :: (l ++ [x])) ++ [(x, y)]
    rw [e, e]
    show (a, b) :: prs (b :: l ++ [x] ++ [y]) = _
    rw [ih]; rfl
structure InDr (n : Int) (ss : List Stt) (l : List Int) (x : Int) : Prop where
  ex : ∃ l0, l = l0 ++ [x]
  rg : ∀ v ∈ l, 0 ≤ v ∧ v < n
  st : (prs l).all (stepB ss) = true
theorem InDr.ok {n : Int} {ss : List Stt} {l : List Int} {x : Int} (h : InDr n ss l x) (hl : l.length ≤ 400) : okDr n ss l = true := by
  obtain ⟨l0, e⟩ := h.ex
  unfold okDr
  rw [h.st, decide_eq_true hl, decide_eq_true (by rw [e, List.length_append]; simp : 1 ≤ l.length)]
  have : (l.all fun v => decide (0 ≤ v) && decide (v ≤ n - 1)) = true := List.all_eq_true.mpr fun v hv => by
    obtain ⟨h0, h1⟩ := h.rg v hv
    rw [decide_eq_true h0, decide_eq_true (by omega)]; rfl
  rw [this]; rfl
theorem last_get (l0 : List Int) (x : Int) : gGet m (rowT (l0 ++ [x])) (.int (-1)) = some (.int x) := by
  show gGet m (.tup ((l0 ++ [x]).map D.int)) (.int (-1)) = _
  rw [gGet_t]
  unfold L2.atI L2.ixN
  rw [List.length_map, List.length_append, if_neg (by decide), if_pos (by simp; omega)]
  show ((l0 ++ [x]).map D.int)[(-1 + ((l0.length + 1 : Nat) : Int)).toNat]? = _
  rw [show (-1 + ((l0.length + 1 : Nat) : Int)).toNat = l0.length by omega, List.getElem?_map]
  simp
theorem next_step {n : Int} {ss : List Stt} {c y : Int} (h : y ∈ nextL n ss c) : 0 ≤ y ∧ y < n ∧ stepB ss (c, y) = true := by
  unfold nextL at h
  obtain ⟨i, hi, e⟩ := List.mem_filterMap.mp h
  unfold nextG at e
  split at e
  · rename_i z
    cases e
    have := List.mem_range.mp hi
    exact ⟨by omega, by omega, z.2⟩
  · cases e
theorem InDr.add {n : Int} {ss : List Stt} {l : List Int} {x y : Int} (h : InDr n ss l x) (hy : y ∈ nextL n ss x) : InDr n ss (l ++ [y]) y := by
  obtain ⟨l0, e⟩ := h.ex
  obtain ⟨y0, y1, ys⟩ := next_step hy
  refine ⟨⟨l, rfl⟩, fun v hv => ?_, ?_⟩
  · rcases List.mem_append.mp hv with hv | hv
    · exact h.rg v hv
    · rw [List.mem_singleton] at hv; subst hv; exact ⟨y0, y1⟩
  · have hs := h.st
    subst e
    rw [prs_snoc, List.all_append, hs]
    simp [ys]
theorem rowL_ne (l : List Int) : gEqA true m (rowL l) (.lst []) = some (.bl (!decide (l = []))) := by
  have e : deq (rowL l) (.lst []) = some (decide (l = [])) := by
    unfold deq
    rw [rowL_py]
    show (if (SeqAt.shaped (.list (pInts l)) && SeqAt.shaped (.list [])) = true then some (PyData.eqv (.list (pInts l)) (.list [])) else none) = _
    have h1 : SeqAt.shaped (.list (pInts l)) = true := by
      unfold SeqAt.shaped
      have := ints_depth l
      simp [PyData.canLay0, PyData.depth, ints_lay]
      omega
    rw [h1, if_pos (by rfl)]
    cases l <;> simp [pInts, PyData.eqv, PyData.eqvAll]
  show (deq (rowL l) (.lst [])).map (fun c => D.bl (!c)) = _
  rw [e]; rfl
theorem rowT_ne (l : List Int) : gEqA true m (rowT l) (.tup []) = some (.bl (!decide (l = []))) := by
  have e : deq (rowT l) (.tup []) = some (decide (l = [])) := by
    unfold deq
    rw [rowT_py]
    show (if (SeqAt.shaped (.tuple (pInts l)) && SeqAt.shaped (.tuple [])) = true then some (PyData.eqv (.tuple (pInts l)) (.tuple [])) else none) = _
    have h1 : SeqAt.shaped (.tuple (pInts l)) = true := by
      unfold SeqAt.shaped
      have := ints_depth l
      simp [PyData.canLay0, PyData.depth, ints_lay]
      omega
    rw [h1, if_pos (by rfl)]
    cases l <;> simp [pInts, PyData.eqv, PyData.eqvAll]
  show (deq (rowT l) (.tup [])).map (fun c => D.bl (!c)) = _
  rw [e]; rfl
theorem pairs_nil (l : List (Int × Int)) : gEqA false m (.lst (l.map pairD)) (.lst []) = some (.bl (decide (l = []))) := by
  have e : deq (.lst (l.map pairD)) (.lst []) = some (decide (l = [])) := by
    have py : D.pys (l.map pairD) = some (l.map pairP) := pys_map (fun _ => rfl) l
    have lay : PyData.canLayAll0 (l.map pairP) = true := by
      clear py
      induction l with
      | nil => rfl
      | cons a l ih => simp [pairP, PyData.canLayAll0, PyData.canLay0]; exact ih
    have dep : PyData.depthAll (l.map pairP) ≤ 2 := by
      clear py lay
      induction l with
      | nil => simp [PyData.depthAll]
      | cons a l ih => simp [pairP, PyData.depthAll, PyData.depth]; omega
    unfold deq
    have py2 : D.py (.lst (l.map pairD)) = some (.list (l.map pairP)) := by
      show (D.pys (l.map pairD)).map PyData.list = _
      rw [py]; rfl
    rw [py2]
    show (if (SeqAt.shaped (.list (l.map pairP)) && SeqAt.shaped (.list [])) = true then some (PyData.eqv (.list (l.map pairP)) (.list [])) else none) = _
    have h1 : SeqAt.shaped (.list (l.map pairP)) = true := by
      unfold SeqAt.shaped
      simp [PyData.canLay0, PyData.depth, lay]
      omega
    rw [h1, if_pos (by rfl)]
    cases l <;> simp [PyData.eqv, PyData.eqvAll]
  show (deq (.lst (l.map pairD)) (.lst [])).map D.bl = _
  rw [e]; rfl
theorem addT {a b : List Int} (h : a.length + b.length ≤ 100000) : gAdd m (rowT a) (rowT b) = some (rowT (a ++ b)) := by
  have := gAdd_t (m := m) (xs := a.map D.int) (ys := b.map D.int) (by rw [List.length_map, List.length_map]; exact h)
  rw [← List.map_append] at this
  exact this
theorem gLen_row (l : List Int) : gLen m [rowT l] = some (.int (l.length : Int)) := by unfold rowT; simp
theorem slHi (l : List Int) (k : Nat) : gSl (rowT l) none (some (k : Int)) = some (rowT (l.take k)) := by
  show gSl (.tup (l.map D.int)) none (some (k : Int)) = some (.tup ((l.take k).map D.int))
  rw [gSl_hi, List.map_take]
theorem slLo (l : List Int) (k : Nat) : gSl (rowT l) (some ((k : Int) + 1)) none = some (rowT (l.drop (k + 1))) := by
  show gSl (.tup (l.map D.int)) (some ((k + 1 : Nat) : Int)) none = some (.tup ((l.drop (k + 1)).map D.int))
  rw [gSl_lo, List.map_drop]
theorem slM1 (l : List Int) : gSl (rowT l) (some (-1)) none = some (rowT (l.drop (l.length - 1))) := by
  show some (D.tup (cutD (l.map D.int) (some (-1)) none)) = some (.tup ((l.drop (l.length - 1)).map D.int))
  unfold cutD HT.sIx
  simp only [List.length_map]
  rw [if_pos (by decide), show (-1 + (l.length : Int)).toNat = l.length - 1 by omega, List.map_drop, List.take_of_length_le (by rw [List.length_drop, List.length_map]; omega)]
theorem hi_at {i j : Nat} {r : Q.Env} {l : List Int} {k : Nat} (h1 : r[i]? = some (.dat (rowT l))) (h2 : r[j]? = some (.dat (.int (k : Int)))) : eSl (eB i) oN (oS (eV j)) r m = .ok (rowT (l.take k)) m := by
  rw [eSl_ap, b_at h1, sl1_ok, oN_ap, sl2_ok, oS_ap, v_at h2]
  show lift (gSl (rowT l) none (some (k : Int))) m = _
  rw [slHi]; rfl
/-- a way from x over the corners p, ending at y -/
inductive Ch (n : Int) (ss : List Stt) (x : Int) : List Int → Int → Prop
  | nil : Ch n ss x [] x
  | snoc {p : List Int} {y z : Int} : Ch n ss x p y → z ∈ nextL n ss y → Ch n ss x (p ++ [z]) z
theorem InDr.app {n : Int} {ss : List Stt} {l p : List Int} {x y : Int} (h : InDr n ss l x) (c : Ch n ss x p y) : InDr n ss (l ++ p) y := by
  induction c with
  | nil => rw [List.append_nil]; exact h
  | snoc _ hz ih => rw [← List.append_assoc]; exact ih.add hz
/-! what is done -/
theorem prs_app : ∀ (l q : List Int), ∃ r, prs (l ++ q) = prs l ++ r
  | [], q => ⟨prs q, rfl⟩
  | [a], [] => ⟨[], rfl⟩
  | [a], b :: q => ⟨prs (a :: b :: q), rfl⟩
  | a :: b :: l, q => by
    obtain ⟨r, e⟩ := prs_app (b :: l) q
    refine ⟨r, ?_⟩
    show (a, b) :: prs (b :: l ++ q) = _
    rw [e]; rfl
theorem putC_has (l : List Cnt) (t u : Int × Int) : ((putC l t).any fun e => decide (e.1 = u)) = ((l.any fun e => decide (e.1 = u)) || decide (t = u)) := by
  unfold putC
  split
  · rename_i h
    have e : (l.map (fun e : Cnt => if e.1 = t then (e.1, e.2 + 1) else e)).any (fun e => decide (e.1 = u)) = l.any fun e => decide (e.1 = u) := by
      rw [List.any_map]
      refine congrArg (fun f => l.any f) (funext fun e => ?_)
      show decide ((if e.1 = t then (e.1, e.2 + 1) else e).1 = u) = _
      split <;> rfl
    rw [e]
    by_cases q : t = u
    · subst q; rw [h]; rfl
    · rw [decide_eq_false q, Bool.or_false]
  · rw [List.any_append]
    simp
theorem doneC_has (q : List (Int × Int)) (u : Int × Int) : ((doneC q).any fun e => decide (e.1 = u)) = decide (u ∈ q) := by
  unfold doneC
  have go : ∀ (q : List (Int × Int)) (acc : List Cnt), ((q.foldl putC acc).any fun e => decide (e.1 = u)) = ((acc.any fun e => decide (e.1 = u)) || decide (u ∈ q)) := by
    intro q
    induction q with
    | nil => intro acc; simp
    | cons t q ih =>
      intro acc
      rw [List.foldl_cons, ih, putC_has, Bool.or_assoc]
      congr 1
      by_cases e : t = u
      · subst e; simp
      · have : ¬ u = t := fun z => e z.symm
        simp [e, this]
  rw [go]; rfl
theorem isDone_iff {ss : List Stt} {l : List Int} {t : Int × Int} : isDone ss l t = decide (t ∈ (prs l).map (tkey ss)) := by
  unfold isDone doneL
  rw [List.isSome_find?, doneC_has]
end
end T
end
section
set_option Elab.async false
set_option linter.all false
set_option maxRecDepth 100000
/-! tasks: each once; no drive that does them all is shorter -/
namespace T
open PySem L2 Q
theorem mem_tasks2 {ss : List Stt} {k : Nat} {t : Int × Int} (h : t ∈ tasksL ss k) : ∃ (i : Nat) (s : Stt), i < k ∧ ss[i]? = some s ∧ t ∈ tskOf i s := by
  unfold tasksL at h
  obtain ⟨i, hi, ht⟩ := List.mem_flatMap.mp h
  cases e : ss[i]? with
  | none => rw [e] at ht; cases ht
  | some s => rw [e] at ht; exact ⟨i, s, List.mem_range.mp hi, e, ht⟩
theorem tsk_fst {i : Nat} {s : Stt} {t : Int × Int} (h : t ∈ tskOf i s) : t.1 = (i : Int) := by
  unfold tskOf at h
  split at h
  · simp at h; rw [h]
  · split at h
    · simp at h; rw [h]
    · simp at h
      rcases h with h | h <;> rw [h]
theorem tsk_nd (i : Nat) (s : Stt) : (tskOf i s).Nodup := by
  unfold tskOf
  split
  · simp
  · split <;> simp
theorem tasks_nd {ss : List Stt} : ∀ k : Nat, (tasksL ss k).Nodup
  | 0 => by unfold tasksL; simp
  | k + 1 => by
    rw [tasks_succ0]
    rw [List.nodup_append]
    refine ⟨tasks_nd k, ?_, fun a ha b hb e => ?_⟩
    · cases ss[k]? with
      | none => simp
      | some s => exact tsk_nd k s
    · subst e
      obtain ⟨i, s, hi, _, ht⟩ := mem_tasks2 ha
      have h1 := tsk_fst ht
      cases e : ss[k]? with
      | none => rw [e] at hb; cases hb
      | some s' =>
        rw [e] at hb
        have h2 := tsk_fst (s := s') hb
        omega
theorem sum_sub {α : Type} [DecidableEq α] (g : α → Int) : ∀ (A B : List α), A.Nodup → (∀ a ∈ A, a ∈ B) → (∀ b ∈ B, 0 ≤ g b) → (A.map g).sum ≤ (B.map g).sum
  | [], B, _, hh, h => by
    rw [List.map_nil, List.sum_nil]
    induction B with
    | nil => simp
    | cons b B ih =>
      rw [List.map_cons, List.sum_cons]
      have := h b (List.mem_cons_self)
      have := ih (fun _ q => by cases q) fun c hc => h c (List.mem_cons_of_mem _ hc)
      omega
  | a :: A, B, nd, sub, h => by
    obtain ⟨na, nd'⟩ := List.nodup_cons.mp nd
    have ha := sub a List.mem_cons_self
    have pm := List.perm_cons_erase ha
    have e : (B.map g).sum = g a + ((B.erase a).map g).sum := by
      first
        | exact (pm.map g).sum_eq
        | (have q : ∀ {l1 l2 : List Int}, l1.Perm l2 → l1.sum = l2.sum := by
            intro l1 l2 p
            induction p with
            | nil => rfl
            | cons x _ ih => rw [List.sum_cons, List.sum_cons, ih]
            | swap x y l => simp only [List.sum_cons]; omega
            | trans _ _ i1 i2 => rw [i1, i2]
           have := q (pm.map g)
           rw [List.map_cons, List.sum_cons] at this
           exact this)
    have := sum_sub g A (B.erase a) nd' (fun x hx => (List.mem_erase_of_ne (fun z : x = a => na (by rw [← z]; exact hx))).mpr (sub x (List.mem_cons_of_mem _ hx))) fun b hb => h b (List.mem_of_mem_erase hb)
    rw [List.map_cons, List.sum_cons]
    omega
def lenT (ss : List Stt) (t : Int × Int) : Int := match ss[t.1.toNat]? with
  | some s => s.2.2.1
  | none => 0
theorem duty_eq (ss : List Stt) : dutyOf ss = ((tasksL ss ss.length).map (lenT ss)).sum := rfl
theorem len_eq {ss : List Stt} {l : List Int} (h : (prs l).all (stepB ss) = true) : lenSum ss l = (((prs l).map (tkey ss)).map (lenT ss)).sum := by
  unfold lenSum
  rw [List.map_map]
  refine congrArg List.sum (List.map_congr_left fun p hp => ?_)
  obtain ⟨i, s, hi, hs⟩ := all_pairs h p hp
  show lenAt ss p.1 p.2 = lenT ss (tkey ss p)
  rw [lenAt_of hi hs, tkey_of hi hs]
  show _ = (match ss[((i : Int)).toNat]? with | some s => s.2.2.1 | none => 0)
  rw [Int.toNat_natCast, hs]
theorem duty_le {n : Int} {ss : List Stt} (h : OkT n ss) {l : List Int} (hl : (prs l).all (stepB ss) = true) (hd : ∀ t ∈ tasksL ss ss.length, t ∈ (prs l).map (tkey ss)) : dutyOf ss ≤ lenSum ss l := by
  rw [duty_eq, len_eq hl]
  refine sum_sub (lenT ss) _ _ (tasks_nd _) hd fun t ht => ?_
  unfold lenT
  split
  · rename_i s e
    obtain ⟨_, _, _, _, _, q, _⟩ := h.ok s (List.mem_of_getElem? e)
    omega
  · exact Int.le_refl _
/-- the corners between which a task's step leads -/
def tFrom (ss : List Stt) (t : Int × Int) : Int := match ss[t.1.toNat]? with
  | some s => if 0 ≤ t.2 then s.1 else s.2.1
  | none => 0
def tTo (ss : List Stt) (t : Int × Int) : Int := match ss[t.1.toNat]? with
  | some s => if 0 ≤ t.2 then s.2.1 else s.1
  | none => 0
theorem task_step {n : Int} {ss : List Stt} (h : OkT n ss) {t : Int × Int} (ht : t ∈ tasksL ss ss.length) : ∃ s, ss[t.1.toNat]? = some s ∧ 0 ≤ t.1 ∧ tTo ss t ∈ nextL n ss (tFrom ss t) ∧ tkey ss (tFrom ss t, tTo ss t) = t ∧ 0 ≤ tFrom ss t ∧ tFrom ss t < n := by
  obtain ⟨i, s, hi, hs, hm⟩ := mem_tasks2 ht
  have hf := tsk_fst hm
  have n2 := h.n2
  obtain ⟨k, p1, p2, p3, p4, p5, p6, p7⟩ := h.ok s (List.mem_of_getElem? hs)
  have e : ss[t.1.toNat]? = some s := by rw [hf, Int.toNat_natCast]; exact hs
  have ne : s.1 ≠ s.2.1 := by
    rcases p7 with q | q
    · omega
    · exact q.2
  have fin : ∀ x y : Int, hasStep x y s = true → x ≠ y → 0 ≤ y → y < n → y ∈ nextL n ss x ∧ findAt ss x y = some i := fun x y hx hxy y0 y1 => by
    have f := find_uniq h.nd hs hx
    refine ⟨?_, f⟩
    unfold nextL
    obtain ⟨j, rfl⟩ := Int.eq_ofNat_of_zero_le y0
    refine List.mem_filterMap.mpr ⟨j, List.mem_range.mpr (by omega), ?_⟩
    unfold nextG
    rw [if_pos ⟨fun z => hxy z.symm, by rw [f]; rfl⟩]
  refine ⟨s, e, by omega, ?_⟩
  unfold tFrom tTo
  rw [e]
  dsimp only
  by_cases w : 0 ≤ t.2
  · rw [if_pos w, if_pos w]
    obtain ⟨f1, f2⟩ := fin s.1 s.2.1 (by unfold hasStep; simp) ne p3 p4
    refine ⟨f1, ?_, p1, p2⟩
    rw [tkey_of (p := (s.1, s.2.1)) f2 hs]
    refine Prod.ext hf.symm ?_
    dsimp only
    unfold tskOf at hm
    split at hm
    · rename_i q
      simp at hm
      rw [q, if_neg (show ¬ ("lane" : Str) = "narrow" from nl_n), if_pos rfl, hm]
    · split at hm
      · rename_i q
        simp at hm
        rw [if_pos q, hm]
      · rename_i q1 q2
        simp at hm
        rw [if_neg q2, if_pos rfl]
        rcases hm with hm | hm
        · rw [hm] at w; exact absurd w (show ¬ (0 : Int) ≤ -1 by decide)
        · rw [hm]
  · rw [if_neg w, if_neg w]
    unfold tskOf at hm
    split at hm
    · simp at hm; rw [hm] at w; exact absurd (by first | exact (show (0 : Int) ≤ 1 by decide) | exact (show (0 : Int) ≤ 0 by decide)) w
    · split at hm
      · simp at hm; rw [hm] at w; exact absurd (by first | exact (show (0 : Int) ≤ 1 by decide) | exact (show (0 : Int) ≤ 0 by decide)) w
      · rename_i q1 q2
        simp at hm
        have ht2 : t.2 = -1 := by
          rcases hm with hm | hm
          · rw [hm]
          · rw [hm] at w; exact absurd (by first | exact (show (0 : Int) ≤ 1 by decide) | exact (show (0 : Int) ≤ 0 by decide)) w
        obtain ⟨f1, f2⟩ := fin s.2.1 s.1 (by unfold hasStep; simp [q1]) (fun z => ne z.symm) p1 p2
        refine ⟨f1, ?_, p3, p4⟩
        rw [tkey_of (p := (s.2.1, s.1)) f2 hs]
        refine Prod.ext hf.symm ?_
        dsimp only
        rw [if_neg q2, if_neg ne, ht2]
end T
end
section
set_option Elab.async false
set_option linter.all false
set_option maxRecDepth 100000
/-! the nearest first: far_in -/
namespace T
open PySem L2 Q
/-- a while loop that ends, by a count that falls -/
theorem while_inv {t : Bd} {b : Sd} (I : Nat → Q.Env → Sto → Prop) (Z : Q.Env → Sto → Prop) (step : ∀ k r m, I k r m → (t r m = .ok false m ∧ Z r m) ∨ (t r m = .ok true m ∧ ∃ k' r' m', k = k' + 1 ∧ b r m = .nx r' m' ∧ I k' r' m')) : ∀ (n k : Nat) (r : Q.Env) (m : Sto), k < n → I k r m → ∃ r' m', whileD t b n r m = .nx r' m' ∧ Z r' m'
  | 0, k, r, m, h, _ => by omega
  | n + 1, k, r, m, h, hI => by
    rcases step k r m hI with ⟨h1, h2⟩ | ⟨h1, k', r', m', e, h2, h3⟩
    · refine ⟨r, m, ?_, h2⟩
      unfold whileD
      rw [h1]; rfl
    · obtain ⟨r2, m2, e2, z⟩ := while_inv I Z step n k' r' m' (by omega) h3
      refine ⟨r2, m2, ?_, z⟩
      unfold whileD
      rw [h1]
      dsimp only [Res.out]
      rw [if_pos rfl, h2]
      exact e2
section
variable {n : Nat} {N : Int → List Int} {w : Int → Int → Int} {s : Int}
/-- f: what is found, g: what is left -/
structure Dj (n : Nat) (N : Int → List Int) (w : Int → Int → Int) (s : Int) (f g : Fn) : Prop where
  fd : ∀ v d, f v = some d → IsD N w s v d
  sg : SndF N w s g
  dis : ∀ v x, g v = some x → f v = none
  out : ∀ u d, f u = some d → ∀ v ∈ N u, f v ≠ none ∨ ∃ y, g v = some y ∧ y ≤ d + w u v
  beg : f s = some 0 ∨ g s = some 0
theorem Dj.start : Dj n N w s (fun _ => none) (fun z => if z = s then some 0 else none) := by
  refine ⟨fun v d h => (by cases h), fun v x h => ?_, fun v x h => rfl, fun u d h => (by cases h), .inr (if_pos rfl)⟩
  try dsimp only at h
  by_cases e : v = s
  · rw [if_pos e] at h; cases h; subst e; exact ⟨0, .nil⟩
  · rw [if_neg e] at h; cases h
/-- every walk ends where all is found, or passes what is left -/
theorem Dj.walk {f g : Fn} (h : Dj n N w s f g) (G : Gph n N w) {v : Int} {k : Nat} {c : Int} (q : Wk N w s v k c) : (∃ d, f v = some d ∧ d ≤ c) ∨ ∃ z y, g z = some y ∧ y ≤ c := by
  induction q with
  | nil =>
    rcases h.beg with b | b
    · exact .inl ⟨0, b, Int.le_refl _⟩
    · exact .inr ⟨s, 0, b, Int.le_refl _⟩
  | @snoc u v k c q hv ih =>
    have p := G.pos _ _ hv
    rcases ih with ⟨d, h1, h2⟩ | ⟨z, y, h1, h2⟩
    · rcases h.out u d h1 v hv with z | ⟨y, h3, h4⟩
      · cases e : f v with
        | none => exact absurd e z
        | some d' => exact .inl ⟨d', rfl, (h.fd v d' e).2 _ _ (.snoc q hv)⟩
      · exact .inr ⟨v, y, h3, by omega⟩
    · exact .inr ⟨z, y, h1, by omega⟩
theorem Dj.last {f g : Fn} (h : Dj n N w s f g) (G : Gph n N w) (hg : ∀ v, g v = none) (v d : Int) : f v = some d ↔ IsD N w s v d := by
  constructor
  · exact h.fd v d
  · intro q
    obtain ⟨k, hw⟩ := q.1
    rcases h.walk G hw with ⟨d', h1, h2⟩ | ⟨z, y, h1, _⟩
    · rw [h1, (h.fd v d' h1).uniq q]
    · rw [hg z] at h1; cases h1
theorem Dj.least {f g : Fn} (h : Dj n N w s f g) (G : Gph n N w) {u x : Int} (hu : g u = some x) (hm : ∀ z y, g z = some y → x ≤ y) : IsD N w s u x := by
  refine ⟨h.sg _ _ hu, fun k c q => ?_⟩
  rcases h.walk G q with ⟨d, h1, _⟩ | ⟨z, y, h1, h2⟩
  · rw [h.dis u x hu] at h1; cases h1
  · have := hm z y h1
    omega
/-- u goes over, its edges are looked at -/
theorem Dj.step {f g g' : Fn} (h : Dj n N w s f g) (G : Gph n N w) {u x : Int} (hu : g u = some x) (hm : ∀ z y, g z = some y → x ≤ y)
    (hs : SndF N w s g') (hd : ∀ v y, g' v = some y → v ≠ u ∧ f v = none) (hle : ∀ v y, v ≠ u → g v = some y → ∃ y', g' v = some y' ∧ y' ≤ y) (hr : ∀ v ∈ N u, v = u ∨ f v ≠ none ∨ ∃ y, g' v = some y ∧ y ≤ x + w u v) : Dj n N w s (fun z => if z = u then some x else f z) g' := by
  have lx := h.least G hu hm
  refine ⟨fun v d q => ?_, hs, fun v y q => ?_, fun v d q z hz => ?_, ?_⟩
  · try dsimp only at q
    by_cases e : v = u
    · rw [if_pos e] at q; cases q; subst e; exact lx
    · rw [if_neg e] at q; exact h.fd v d q
  · obtain ⟨h1, h2⟩ := hd v y q
    try dsimp only
    rw [if_neg h1]; exact h2
  · try dsimp only at q ⊢
    by_cases e : v = u
    · rw [if_pos e] at q
      cases q
      subst e
      by_cases ez : z = v
      · exact .inl (by rw [if_pos ez]; simp)
      · rw [if_neg ez]
        rcases hr z hz with q | q | q
        · exact absurd q ez
        · exact .inl q
        · exact .inr q
    · rw [if_neg e] at q
      by_cases ez : z = u
      · exact .inl (by rw [if_pos ez]; simp)
      · rw [if_neg ez]
        rcases h.out v d q z hz with q | ⟨y, q1, q2⟩
        · exact .inl q
        · obtain ⟨y', q3, q4⟩ := hle z y ez q1
          exact .inr ⟨y', q3, by omega⟩
  · try dsimp only
    by_cases e : s = u
    · rw [if_pos e]
      subst e
      rcases h.beg with b | b
      · rw [h.dis s x hu] at b; cases b
      · rw [hu] at b; exact .inl b
    · rw [if_neg e]
      rcases h.beg with b | b
      · exact .inl b
      · obtain ⟨y, q1, q2⟩ := hle s 0 e b
        obtain ⟨k, hw⟩ := hs _ _ q1
        have := hw.nonneg G
        exact .inr (by rw [q1, show y = 0 by omega])
end
section
variable {m : Sto}
theorem getA_drop {κ : Type} [DecidableEq κ] (kvs : List (κ × D)) (k k' : κ) : getA (dropA kvs k) k' = if k' = k then none else getA kvs k' := by
  unfold getA dropA
  induction kvs with
  | nil => by_cases e : k' = k <;> simp [e]
  | cons a l ih =>
    rw [List.filter_cons]
    by_cases e : a.1 = k
    · rw [if_neg (by simp [e]), ih]
      by_cases e2 : k' = k
      · rw [if_pos e2, if_pos e2]
      · rw [if_neg e2, if_neg e2, List.find?_cons, decide_eq_false (fun z : a.1 = k' => e2 (by rw [← z, e]))]
    · rw [if_pos (by simp [e]), List.find?_cons, List.find?_cons]
      by_cases e3 : a.1 = k'
      · rw [decide_eq_true e3]
        have e2 : ¬ k' = k := fun z => e (by rw [e3, z])
        rw [if_neg e2]
      · rw [decide_eq_false e3]
        exact ih
/-- keys and values are numbers -/
def KI (kvs : List (Key × D)) : Prop := ∀ p ∈ kvs, ∃ v x : Int, p = (.inl v, .int x)
theorem KI.put {kvs : List (Key × D)} (h : KI kvs) (v x : Int) : KI (putA kvs (.inl v) (.int x)) := fun p hp => by
  rcases putA_mem hp with q | q
  · exact h p q
  · exact ⟨v, x, q⟩
theorem KI.drop {kvs : List (Key × D)} (h : KI kvs) (k : Key) : KI (dropA kvs k) := fun p hp => h p (List.mem_filter.mp hp).1
theorem KI.key {kvs : List (Key × D)} {f : Fn} (h : KI kvs) (hr : Rf kvs f) {p : Key × D} (hp : p ∈ kvs) : ∃ v x : Int, p.1 = .inl v ∧ f v = some x := by
  obtain ⟨v, x, rfl⟩ := h p hp
  have : (kvs.find? fun kv => decide (kv.1 = .inl v)).isSome = true := List.find?_isSome.mpr ⟨_, hp, by simp⟩
  have q := hr v
  unfold getA at q
  obtain ⟨y, hy⟩ := Option.isSome_iff_exists.mp this
  rw [hy] at q
  cases e : f v with
  | none => rw [e] at q; cases q
  | some z => exact ⟨v, z, rfl, e⟩
theorem KI.pairs {kvs : List (Key × D)} {f : Fn} (h : KI kvs) (hr : Rf kvs f) : ∃ L : List (Int × Int), pairsOf kvs = L.map pairD ∧ L.length = kvs.length ∧ (∀ e ∈ L, f e.2 = some e.1) ∧ ∀ v x, f v = some x → (x, v) ∈ L := by
  refine ⟨kvs.map fun kv => match kv.1 with | .inl v => ((f v).getD 0, v) | .inr _ => (0, 0), ?_, by rw [List.length_map], fun e he => ?_, fun v x hv => ?_⟩
  · unfold pairsOf
    rw [List.map_map]
    refine List.map_congr_left fun p hp => ?_
    obtain ⟨v, x, h1, h2⟩ := h.key hr hp
    obtain ⟨p1, p2⟩ := p
    try dsimp only at h1
    subst h1
    show D.tup [(getA kvs (.inl v)).getD .non, .int v] = pairD ((f v).getD 0, v)
    rw [hr v, h2]; rfl
  · obtain ⟨p, hp, rfl⟩ := List.mem_map.mp he
    obtain ⟨v, x, h1, h2⟩ := h.key hr hp
    obtain ⟨p1, p2⟩ := p
    try dsimp only at h1
    subst h1
    show f v = some ((f v).getD 0)
    rw [h2]; rfl
  · have q := hr v
    rw [hv] at q
    unfold getA at q
    cases e : kvs.find? fun kv => decide (kv.1 = Sum.inl v) with
    | none => rw [e] at q; cases q
    | some p =>
      have hp := List.mem_of_find?_eq_some e
      have hk := List.find?_some e
      have hk : p.1 = .inl v := of_decide_eq_true hk
      refine List.mem_map.mpr ⟨p, hp, ?_⟩
      rw [hk]
      show ((f v).getD 0, v) = _
      rw [hv]; rfl
/-- the least pair -/
theorem min_pairs : ∀ (L : List (Int × Int)) (a : Int × Int), ∃ b ∈ a :: L, bestD W.dataLt (pairD a) (L.map pairD) = pairD b ∧ ∀ e ∈ a :: L, b.1 ≤ e.1
  | [], a => ⟨a, by simp, rfl, fun e he => by rw [List.mem_singleton] at he; subst he; exact Int.le_refl _⟩
  | c :: L, a => by
    have e0 : bestD W.dataLt (pairD a) ((c :: L).map pairD) = bestD W.dataLt (if W.dataLt (pairP c) (pairP a) = true then pairD c else pairD a) (L.map pairD) := rfl
    rw [e0]
    by_cases h : W.dataLt (pairP c) (pairP a) = true
    · rw [if_pos h]
      obtain ⟨b, h1, h2, h3⟩ := min_pairs L c
      unfold pairP at h
      rw [W.dataLt_ii] at h
      have := of_decide_eq_true h
      refine ⟨b, List.mem_cons_of_mem _ h1, h2, fun e he => ?_⟩
      rcases List.mem_cons.mp he with q | q
      · have := h3 c List.mem_cons_self
        rw [q]; omega
      · exact h3 e q
    · rw [if_neg h]
      obtain ⟨b, h1, h2, h3⟩ := min_pairs L a
      unfold pairP at h
      rw [W.dataLt_ii] at h
      have h := of_decide_eq_false (Bool.eq_false_iff.mpr h)
      refine ⟨b, ?_, h2, fun e he => ?_⟩
      · rcases List.mem_cons.mp h1 with q | q
        · rw [q]; exact List.mem_cons_self
        · exact List.mem_cons_of_mem _ (List.mem_cons_of_mem _ q)
      · rcases List.mem_cons.mp he with q | q
        · rw [q]; exact h3 a List.mem_cons_self
        · rcases List.mem_cons.mp q with q | q
          · have := h3 a List.mem_cons_self
            rw [q]; omega
          · exact h3 e (List.mem_cons_of_mem _ q)
theorem gMin_pairs {L : List (Int × Int)} (h : L ≠ []) : ∃ b ∈ L, gMin m [.lst (L.map pairD)] = some (pairD b) ∧ ∀ e ∈ L, b.1 ≤ e.1 := by
  cases L with
  | nil => exact absurd rfl h
  | cons a L =>
    obtain ⟨b, h1, h2, h3⟩ := min_pairs L a
    refine ⟨b, h1, ?_, h3⟩
    have py : D.pys ((a :: L).map pairD) = some ((a :: L).map pairP) := pys_map (fun _ => rfl) _
    have al : alikeB ((a :: L).map pairP) = true := by
      unfold alikeB
      rw [List.all_eq_true]
      intro p hp
      obtain ⟨q, _, rfl⟩ := List.mem_map.mp hp
      rw [Bool.and_eq_true]
      refine ⟨rfl, List.all_eq_true.mpr fun p2 hp2 => ?_⟩
      obtain ⟨q2, _, rfl⟩ := List.mem_map.mp hp2
      rfl
    have dp : PyData.depthAll ((a :: L).map pairP) ≤ 60 := by
      have : ∀ L : List (Int × Int), PyData.depthAll (L.map pairP) ≤ 2 := by
        intro L
        induction L with
        | nil => simp [PyData.depthAll]
        | cons a l ih => simp [pairP, PyData.depthAll, PyData.depth]; omega
      have := this (a :: L)
      omega
    show (match D.pys ((a :: L).map pairD) with
      | some ps => if (alikeB ps && decide (PyData.depthAll ps ≤ 60)) = true then some (bestD W.dataLt (pairD a) (L.map pairD)) else none
      | none => none) = _
    rw [py]
    try dsimp only
    rw [al, decide_eq_true dp, h2]; rfl
end
end T
end
section
set_option Elab.async false
set_option linter.all false
set_option maxRecDepth 100000
/-! what far_in comes to -/
namespace T
open PySem L2 Q
section
variable {m : Sto} {n : Int} {ss : List Stt} {s : Int}
theorem nexts_in (h : OkT n ss) (c : Int) (m : Sto) : d_nexts_in [townD n ss, .int c] m = .ok (.lst ((dueL n ss c).map pairD)) m := by
  obtain ⟨kvs, hk, e⟩ := nexts_at h c m
  rw [sorted_due h hk] at e
  exact e
abbrev FE (n : Int) (ss : List Stt) (s : Int) (kf kl : List (Key × D)) (z4 z5 z6 : Sl) : Q.Env := [.dat (townD n ss), .dat (.int s), .own (.dK kf), .own (.dK kl), z4, z5, z6, .un]
def fi1 : Sd := (sSet 4 (op2 gGet (opN gMin (aC (eDp 3 7) aN)) (eC (.int 1))))
def fi2 : Sd := (sPutPop 2 3 (eB 4) (eB 4))
def fi3 : Sd := (sIf (bE (op2 (gInA true) (eB 5) (eB 2)))
  (sPut 3 (eB 5) (opN gMin2 (aC (op2 gAdd (op2 gGet (eB 2) (eB 4)) (eB 6)) (aC (eGet2 (eB 3) (eV 5) (op2 gAdd (op2 gGet (eB 2) (eB 4)) (eB 6))) aN))))
  sNext)
def fi4 : Sd := (sFor (iAny (callD 2 d_nexts_in (aC (eV 0) (aC (eV 4) aN)))) (pT (pCons (pN 5) (pCons (pN 6) pNil))) fi3)
theorem fi_eq : b_far_in = sSeq (sPar2 2 3 true true (eC (.dK [])) (eDisp (pC0 (eV 1) (eC (.int 0)) pN0))) (sSeq (whileD (bE (op2 (gEqA true) (eB 3) (eC (.dK [])))) (sSeq fi1 (sSeq fi2 fi4)) 2000) (sSeq (sFrz 2) (sRet (eV 2)))) := rfl
theorem fi1_at {kf kl : List (Key × D)} {g : Fn} (hr : Rf kl g) (hk : KI kl) (h0 : kl.length ≠ 0) (hl : kl.length ≤ 1000) (z4 z5 z6 : Sl) : ∃ u x, g u = some x ∧ (∀ z y, g z = some y → x ≤ y) ∧ fi1 (FE n ss s kf kl z4 z5 z6) m = .nx (FE n ss s kf kl (.dat (.int u)) z5 z6) m := by
  obtain ⟨L, e1, e2, e3, e4⟩ := hk.pairs hr
  obtain ⟨b, hb, eb, hm⟩ := gMin_pairs (m := m) (L := L) (fun z => h0 (by rw [← e2, z]; rfl))
  refine ⟨b.2, b.1, e3 b hb, fun z y hz => hm _ (e4 z y hz), ?_⟩
  have ed : eDp 3 7 (FE n ss s kf kl z4 z5 z6) m = .ok (.lst (L.map pairD)) m := by
    rw [← e1]
    show (if kl.length ≤ SZ ∧ 7 < 8 ∧ 3 ≠ 7 then Res.ok (D.lst (pairsOf kl)) m else .stuck) = _
    rw [if_pos ⟨by show _ ≤ 100000; omega, by decide, by decide⟩]
  exact set_to (op2_at (opN1_at ed eb) c_at (by unfold pairD; simp)) rfl
theorem fi2_at {kf kl : List (Key × D)} {u x : Int} (hg : getA kl (.inl u) = some (.int x)) (hl : kf.length < 1000) (z5 z6 : Sl) : fi2 (FE n ss s kf kl (.dat (.int u)) z5 z6) m = .nx (FE n ss s (putA kf (.inl u) (.int x)) (dropA kl (.inl u)) (.dat (.int u)) z5 z6) m := by
  have p1 : popD (.int u) (.dK kl) = some (.dK (dropA kl (.inl u))) := by
    show (match getA kl (.inl u) with | some _ => some (D.dK (dropA kl (.inl u))) | none => none) = _
    rw [hg]
  have p2 : popV (.int u) (.dK kl) = .int x := by
    show (getA kl (.inl u)).getD .non = _
    rw [hg]; rfl
  have m1 : mutS 3 (popD (.int u)) (FE n ss s kf kl (.dat (.int u)) z5 z6) m = some (FE n ss s kf (dropA kl (.inl u)) (.dat (.int u)) z5 z6, m) := by
    have h3 : (FE n ss s kf kl (.dat (.int u)) z5 z6)[3]? = some (.own (.dK kl)) := rfl
    rw [mutS_ap, h3, mut1_own, p1]; rfl
  have p3 : putD (.int u) (.int x) (.dK kf) = some (.dK (putA kf (.inl u) (.int x))) := by
    show (if kf.length < SZ then some (D.dK (putA kf (.inl u) (.int x))) else none) = _
    rw [if_pos (by show _ < 100000; omega)]
  have m2 : mutS 2 (putD (.int u) (.int x)) (FE n ss s kf (dropA kl (.inl u)) (.dat (.int u)) z5 z6) m = some (FE n ss s (putA kf (.inl u) (.int x)) (dropA kl (.inl u)) (.dat (.int u)) z5 z6, m) := by
    have h3 : (FE n ss s kf (dropA kl (.inl u)) (.dat (.int u)) z5 z6)[2]? = some (.own (.dK kf)) := rfl
    rw [mutS_ap, h3, mut1_own, p3]; rfl
  show (Opt.out (mutS 3 (popD (.int u)) (FE n ss s kf kl (.dat (.int u)) z5 z6) m) fun p => (eB 4 p.1 p.2).outS fun z m2 => Opt.out (mutS 2 (putD z (popV (.int u) (.dK kl))) p.1 m2) fun q => .nx q.1 q.2) = _
  rw [m1]
  show (Opt.out (mutS 2 (putD (.int u) (popV (.int u) (.dK kl))) (FE n ss s kf (dropA kl (.inl u)) (.dat (.int u)) z5 z6) m) fun q => Out.nx q.1 q.2) = _
  rw [p2, m2]; rfl
theorem fi4_at (h : OkT n ss) {kf kl : List (Key × D)} {f g g0 : Fn} {u x : Int} (hf : Rf kf fun z => if z = u then some x else f z) (hr : Rf kl g0) (hk : KI kl) (hl : kl.length ≤ 1000) (eg : ∀ z, g0 z = if z = u then none else g z) (hs : SndF (nextL n ss) (lenAt ss) s g) (hu : ∃ k, Wk (nextL n ss) (lenAt ss) s u k x) (hd : ∀ v y, g v = some y → f v = none) (z5 z6 : Sl) :
    ∃ kl' g' y5 y6, fi4 (FE n ss s kf kl (.dat (.int u)) z5 z6) m = .nx (FE n ss s kf kl' (.dat (.int u)) y5 y6) m ∧ Rf kl' g' ∧ KI kl' ∧ kl'.length ≤ kl.length + 8 ∧ SndF (nextL n ss) (lenAt ss) s g' ∧ (∀ v y, g' v = some y → v ≠ u ∧ f v = none) ∧ (∀ v y, v ≠ u → g v = some y → ∃ y', g' v = some y' ∧ y' ≤ y) ∧ ∀ v ∈ nextL n ss u, v = u ∨ f v ≠ none ∨ ∃ y, g' v = some y ∧ y ≤ x + lenAt ss u v := by
  have n8 := next_len h u
  obtain ⟨r', m', e, kl', g', y5, y6, rfl, rfl, c1, c2, c3, c4, c5, c6, c7⟩ := forD_inv (p := pT (pCons (pN 5) (pCons (pN 6) pNil))) (b := fi3) (fun j r m' => ∃ kl' g' y5 y6, r = FE n ss s kf kl' (.dat (.int u)) y5 y6 ∧ m' = m ∧ Rf kl' g' ∧ KI kl' ∧ kl'.length ≤ kl.length + j ∧ SndF (nextL n ss) (lenAt ss) s g' ∧ (∀ v y, g' v = some y → v ≠ u ∧ f v = none) ∧ (∀ v y, v ≠ u → g v = some y → ∃ y', g' v = some y' ∧ y' ≤ y) ∧ ∀ v ∈ (nextL n ss u).take j, v = u ∨ f v ≠ none ∨ ∃ y, g' v = some y ∧ y ≤ x + lenAt ss u v) ((dueL n ss u).map pairD) 0 (FE n ss s kf kl (.dat (.int u)) z5 z6) m (by
    rintro j d r m' hj ⟨kl', g', y5, y6, rfl, rfl, c1, c2, c3, c4, c5, c6, c7⟩
    rw [Nat.zero_add] at c3 c7 ⊢
    rw [List.getElem?_map] at hj
    unfold dueL at hj
    rw [List.getElem?_map] at hj
    obtain ⟨p, hp, rfl⟩ := Option.map_eq_some_iff.mp hj
    obtain ⟨v, hv, rfl⟩ := Option.map_eq_some_iff.mp hp
    have hv' := List.mem_of_getElem? hv
    have hjl := (List.getElem?_eq_some_iff.mp hv).1
    obtain ⟨v0, v1, vne, _⟩ := mem_next h hv'
    have tk : (nextL n ss u).take (j + 1) = (nextL n ss u).take j ++ [v] := by rw [List.take_add_one, hv]; rfl
    refine ⟨FE n ss s kf kl' (.dat (.int u)) (.dat (.int v)) (.dat (.int (lenAt ss u v))), rfl, ?_⟩
    have tt : bE (op2 (gInA true) (eB 5) (eB 2)) (FE n ss s kf kl' (.dat (.int u)) (.dat (.int v)) (.dat (.int (lenAt ss u v)))) m' = .ok (!(f v).isSome) m' := by
      refine bE_at (op2_at (b_at rfl) (b_own rfl) ?_)
      show some (D.bl (!(getA kf (.inl v)).isSome)) = _
      have hfv : getA kf (.inl v) = (f v).map D.int := (hf v).trans (congrArg (Option.map D.int) (if_neg vne))
      rw [hfv, Option.isSome_map]
    cases e : f v with
    | some d =>
      rw [e] at tt
      refine ⟨_, m', .inl (if_f tt rfl), kl', g', _, _, rfl, rfl, c1, c2, by omega, c4, c5, c6, fun z hz => ?_⟩
      rw [tk] at hz
      rcases List.mem_append.mp hz with q | q
      · exact c7 z q
      · rw [List.mem_singleton] at q; subst q
        exact .inr (.inl (by rw [e]; simp))
    | none =>
      rw [e] at tt
      obtain ⟨c, hc⟩ : ∃ c, c = x + lenAt ss u v := ⟨_, rfl⟩
      have ge : op2 gAdd (op2 gGet (eB 2) (eB 4)) (eB 6) (FE n ss s kf kl' (.dat (.int u)) (.dat (.int v)) (.dat (.int (lenAt ss u v)))) m' = .ok (.int c) m' := by
        rw [hc]
        exact op2_at (op2_at (b_own rfl) (b_at rfl) (fr_get (d := .int x) ((hf u).trans (congrArg (Option.map D.int) (if_pos rfl))))) (b_at rfl) rfl
      have gm : (opN gMin2 (aC (op2 gAdd (op2 gGet (eB 2) (eB 4)) (eB 6)) (aC (eGet2 (eB 3) (eV 5) (op2 gAdd (op2 gGet (eB 2) (eB 4)) (eB 6))) aN))) (FE n ss s kf kl' (.dat (.int u)) (.dat (.int v)) (.dat (.int (lenAt ss u v)))) m' = .ok (.int (rvF (g' v) c)) m' := by
        refine opN2_at ge (get2_at (b_own rfl) rfl (v_at rfl) ge (o := getA kl' (.inl v)) rfl) ?_
        rw [c1 v]
        cases g' v with
        | none => show some (D.int (if c < c then c else c)) = _; rw [if_neg (by omega)]; rfl
        | some y => rfl
      have pu : sPut 3 (eB 5) (opN gMin2 (aC (op2 gAdd (op2 gGet (eB 2) (eB 4)) (eB 6)) (aC (eGet2 (eB 3) (eV 5) (op2 gAdd (op2 gGet (eB 2) (eB 4)) (eB 6))) aN))) (FE n ss s kf kl' (.dat (.int u)) (.dat (.int v)) (.dat (.int (lenAt ss u v)))) m' = .nx (FE n ss s kf (putA kl' (.inl v) (.int (rvF (g' v) c))) (.dat (.int u)) (.dat (.int v)) (.dat (.int (lenAt ss u v)))) m' := by
        refine put_own (m1 := m') (y := .int v) gm (b_at rfl) rfl (d' := .dK (putA kl' (.inl v) (.int (rvF (g' v) c)))) ?_ rfl
        show (if kl'.length < SZ then some (D.dK (putA kl' (.inl v) (.int (rvF (g' v) c)))) else none) = _
        rw [if_pos (by show _ < 100000; omega)]
      have pl := (putA_len kl' (.inl v) (.int (rvF (g' v) c))).1
      obtain ⟨k0, w0⟩ := hu
      refine ⟨_, m', .inl (if_t tt pu), _, relF g' v c, _, _, rfl, rfl, c1.put v c, c2.put v _, by omega, relF_snd c4 ⟨k0 + 1, by rw [hc]; exact .snoc w0 hv'⟩, fun z y hz => ?_, fun z y hz hy => ?_, fun z hz => ?_⟩
      · rw [rel_eq] at hz
        by_cases q : z = v
        · subst q; exact ⟨vne, e⟩
        · rw [if_neg q] at hz; exact c5 z y hz
      · obtain ⟨y', q1, q2⟩ := c6 z y hz hy
        obtain ⟨y2, q3, q4⟩ := relF_le g' v c z y' q1
        exact ⟨y2, q3, by omega⟩
      · rw [tk] at hz
        rcases List.mem_append.mp hz with q | q
        · rcases c7 z q with q | q | ⟨y, q1, q2⟩
          · exact .inl q
          · exact .inr (.inl q)
          · obtain ⟨y2, q3, q4⟩ := relF_le g' v c z y q1
            exact .inr (.inr ⟨y2, q3, by omega⟩)
        · rw [List.mem_singleton] at q; subst q
          obtain ⟨y, q1, q2⟩ := relF_at g' z c
          exact .inr (.inr ⟨y, q1, by omega⟩)) ⟨kl, g0, z5, z6, rfl, rfl, hr, hk, by omega, fun v y q => by
        rw [eg] at q
        by_cases z : v = u
        · rw [if_pos z] at q; cases q
        · rw [if_neg z] at q; exact hs v y q, fun v y q => by
        rw [eg] at q
        by_cases z : v = u
        · rw [if_pos z] at q; cases q
        · rw [if_neg z] at q; exact ⟨z, hd v y q⟩, fun v y z q => ⟨y, by rw [eg, if_neg z]; exact q, Int.le_refl _⟩, by simp⟩
  rw [Nat.zero_add, List.length_map] at c3 c7
  have dl : (dueL n ss u).length = (nextL n ss u).length := by unfold dueL; rw [List.length_map]
  rw [dl, List.take_length] at c7
  exact ⟨kl', g', y5, y6, for_at (iAny_at (call2_at (v_at rfl) (v_at rfl) (nexts_in h u m')) rfl) e, c1, c2, by omega, c4, c5, c6, c7⟩
def unf (n : Nat) (f : Fn) : Nat := (List.range n).countP fun i : Nat => (f (i : Int)).isNone
theorem far_in (h : OkT n ss) (h0 : 0 ≤ s) (h1 : s < n) (m : Sto) : ∃ kvs, d_far_in [townD n ss, .int s] m = .ok (.dK kvs) m ∧ FarOk n ss s kvs := by
  have h2 := h.n2
  have h8 := h.n8
  have G := gph h
  have hs : 0 ≤ s ∧ s < (n.toNat : Int) := by omega
  have r0 : Rf [(.inl s, .int 0)] (fun z => if z = s then some 0 else none) := by
    intro v
    unfold getA
    rw [List.find?_cons]
    dsimp only
    by_cases e : v = s
    · subst e; simp
    · rw [decide_eq_false (fun q => e (Sum.inl.inj q).symm), if_neg e]; rfl
  obtain ⟨r', m', e, kf, f, z4, z5, z6, rfl, rfl, c1, c2⟩ := while_inv (t := bE (op2 (gEqA true) (eB 3) (eC (.dK [])))) (b := sSeq fi1 (sSeq fi2 fi4)) (fun k r m' => ∃ kf kl f g z4 z5 z6, r = FE n ss s kf kl z4 z5 z6 ∧ m' = m ∧ Rf kf f ∧ Rf kl g ∧ KI kl ∧ Dj n.toNat (nextL n ss) (lenAt ss) s f g ∧ unf n.toNat f ≤ k ∧ kf.length + k ≤ 8 ∧ kl.length + 8 * k ≤ 65) (fun r m' => ∃ kf f z4 z5 z6, r = FE n ss s kf [] z4 z5 z6 ∧ m' = m ∧ Rf kf f ∧ ∀ v d, f v = some d ↔ IsD (nextL n ss) (lenAt ss) s v d) (by
    rintro k r m' ⟨kf, kl, f, g, z4, z5, z6, rfl, rfl, c1, c2, c3, c4, c5, c6, c7⟩
    have tt : bE (op2 (gEqA true) (eB 3) (eC (.dK []))) (FE n ss s kf kl z4 z5 z6) m' = .ok (!(kl.length == 0)) m' := bE_at (op2_at (b_own rfl) c_at rfl)
    by_cases hl : kl.length = 0
    · left
      have hk0 : kl = [] := List.length_eq_zero_iff.mp hl
      subst hk0
      refine ⟨tt, kf, f, _, _, _, rfl, rfl, c1, c4.last G fun v => ?_⟩
      have := c2 v
      cases q : g v with
      | none => rfl
      | some y => rw [q] at this; cases this
    · right
      have e0 : (!(kl.length == 0)) = true := by simp [hl]
      rw [e0] at tt
      obtain ⟨u, x, gu, hm, e1⟩ := fi1_at (m := m') (n := n) (ss := ss) (s := s) (kf := kf) c2 c3 hl (by omega) z4 z5 z6
      obtain ⟨k0, w0⟩ := c4.sg u x gu
      have ur := w0.range G hs
      have fu := c4.dis u x gu
      have e2 := fi2_at (m := m') (n := n) (ss := ss) (s := s) (kf := kf) (kl := kl) (u := u) (x := x) (by rw [c2 u, gu]; rfl) (by omega) z5 z6
      have hf' : Rf (putA kf (.inl u) (.int x)) (fun z => if z = u then some x else f z) := fun z => by
        rw [getA_put]
        show _ = Option.map D.int (if z = u then some x else f z)
        by_cases q : z = u
        · subst q; rw [if_pos rfl, if_pos rfl]; rfl
        · rw [if_neg (fun w => q (Sum.inl.inj w)), if_neg q]; exact c1 z
      have hg' : Rf (dropA kl (.inl u)) (fun z => if z = u then none else g z) := fun z => by
        rw [getA_drop]
        show _ = Option.map D.int (if z = u then none else g z)
        by_cases q : z = u
        · subst q; rw [if_pos rfl, if_pos rfl]; rfl
        · rw [if_neg (fun w => q (Sum.inl.inj w)), if_neg q]; exact c2 z
      have dl : (dropA kl (.inl u)).length ≤ kl.length := List.length_filter_le _ _
      obtain ⟨kl', g', y5, y6, e4, d1, d2, d3, d4, d5, d6, d7⟩ := fi4_at (m := m') h hf' hg' (c3.drop _) (by omega) (fun z => rfl) c4.sg ⟨k0, w0⟩ c4.dis z5 z6
      obtain ⟨i, rfl⟩ := Int.eq_ofNat_of_zero_le ur.1
      have hu := cnt_lt (p := fun j : Nat => (f (j : Int)).isNone) (q := fun j : Nat => ((fun z => if z = (i : Int) then some x else f z) (j : Int)).isNone) (n := n.toNat) (a := i) (fun c hc q => by
        dsimp only at q ⊢
        by_cases z : (c : Int) = (i : Int)
        · rw [z, fu]; rfl
        · rw [if_neg z] at q; exact q) (by omega) (by rw [fu]; rfl) (by simp)
      have pl := (putA_len kf (.inl (i : Int)) (.int x)).1
      unfold unf at c5
      refine ⟨tt, k - 1, _, m', by omega, sq_at e1 (sq_at e2 e4), _, kl', _, g', _, _, _, rfl, rfl, hf', d1, d2, c4.step G gu hm d4 d5 d6 d7, ?_, by omega, by omega⟩
      unfold unf
      omega) 2000 n.toNat (FE n ss s [] [(.inl s, .int 0)] .un .un .un) m (by omega) ⟨[], _, _, _, _, _, _, rfl, rfl, fun v => rfl, r0, fun p hp => by rw [List.mem_singleton] at hp; exact ⟨s, 0, hp⟩, .start, by unfold unf; exact cnt_le, by simp; omega, by simp; omega⟩
  refine ⟨kf, ?_, f, c1, c2⟩
  unfold d_far_in
  rw [fi_eq]
  refine body_at ?_
  refine sq_at (r1 := FE n ss s [] [(.inl s, .int 0)] .un .un .un) (m1 := m') rfl (sq_at e ?_)
  rfl
end
end T
end
section
set_option Elab.async false
set_option linter.all false
set_option maxRecDepth 100000
/-! distances, the first shortest drive -/
namespace T
open PySem L2 Q
section
variable {m : Sto} {n : Int} {ss : List Stt}
theorem need_cor {c : Int} (c0 : 0 ≤ c) (c1 : c < n) (m : Sto) : d_need_corner [townD n ss, .int c] m = .ok .non m := by
  have e : d_is_whole [.int c, .int 0, .int (n - 1)] m = .ok (.bl true) m := by
    rw [whole_i, decide_eq_true c0, decide_eq_true (by omega)]; rfl
  unfold d_need_corner
  exact body_nx (if_f (m1 := m) (not_at (c := true) (bE_at (call3_at (v_at rfl) c_at (op2_at (op2_at (b_at rfl) c_at town_get0) c_at rfl) e))) rfl)
theorem need_both (h : OkT n ss) {c : Int} (c0 : 0 ≤ c) (c1 : c < n) (m : Sto) : d_need_at [townD n ss, .int c] m = .ok .non m := by
  unfold d_need_at
  exact body_nx (sq_at (ex_at (call1_at (v_at rfl) (need_t h m))) (ex_at (call2_at (v_at rfl) (v_at rfl) (need_cor c0 c1 m))))
/-- the distance -/
noncomputable def dst (n : Int) (ss : List Stt) (x t : Int) : Option Int := @dite _ (∃ d, IsD (nextL n ss) (lenAt ss) x t d) (Classical.propDecidable _) (fun h => some h.choose) fun _ => none
theorem dst_iff {x t d : Int} : dst n ss x t = some d ↔ IsD (nextL n ss) (lenAt ss) x t d := by
  unfold dst
  by_cases h : ∃ d, IsD (nextL n ss) (lenAt ss) x t d
  · rw [dif_pos h]
    constructor
    · intro e; cases e; exact h.choose_spec
    · intro q; rw [h.choose_spec.uniq q]
  · rw [dif_neg h]
    exact ⟨fun e => (by cases e), fun q => absurd ⟨d, q⟩ h⟩
theorem FarOk.get {s : Int} {kvs : List (Key × D)} (h : FarOk n ss s kvs) (t : Int) : getA kvs (.inl t) = (dst n ss s t).map D.int := by
  obtain ⟨f, h1, h2⟩ := h
  rw [h1 t]
  have : f t = dst n ss s t := by
    apply Option.ext
    intro d
    rw [h2, dst_iff]
  rw [this]
def oD : Option Int → D
  | none => .non
  | some d => .int d
theorem oD_get (o : Option Int) : (o.map D.int).getD .non = oD o := by cases o <;> rfl
theorem get1_at {f g : Ed} {r : Q.Env} {m m1 m2 : Sto} {x y : D} {o : Option D} (e1 : f r m = .ok x m1) (hd : isDt m1 x = true) (e2 : g r m1 = .ok y m2) (hl : lookD m2 x y = some o) : eGet1 f g r m = .ok (o.getD .non) m2 := by
  unfold eGet1
  rw [e1]
  show (if isDt m1 x = true then _ else _) = _
  rw [if_pos hd, e2]
  show (match lookD m2 x y with | some (some d) => Res.ok d m2 | some none => .ok .non m2 | none => .stuck) = _
  rw [hl]
  cases o <;> rfl
theorem far_get (h : OkT n ss) {fa : Ad} {g : Ed} {r : Q.Env} {x t : Int} (h0 : 0 ≤ x) (h1 : x < n) (e1 : fa r m = .ok [townD n ss, .int x] m) (e2 : g r m = .ok (.int t) m) : eGet1 (callD 2 d_far_in fa) g r m = .ok (oD (dst n ss x t)) m := by
  obtain ⟨kvs, e, ok⟩ := far_in h h0 h1 m
  have := get1_at (o := getA kvs (.inl t)) (call_at e1 rfl e) rfl e2 rfl
  rwa [ok.get t, oD_get] at this
theorem dist_at (h : OkT n ss) {a b : Int} (a0 : 0 ≤ a) (a1 : a < n) (b0 : 0 ≤ b) (b1 : b < n) (m : Sto) : d_distance [townD n ss, .int a, .int b] m = .ok (oD (dst n ss a b)) m := by
  unfold d_distance
  exact body_at (sq_at (ex_at (call2_at (v_at rfl) (v_at rfl) (need_both h a0 a1 m))) (sq_at (ex_at (call2_at (v_at rfl) (v_at rfl) (need_cor b0 b1 m))) (ret_at (far_get h a0 a1 (a1_at (v_at rfl) (a1_at (v_at rfl) a0_at)) (v_at rfl)))))
/-- the corners by which a shortest drive to t goes on -/
noncomputable def goodB (n : Int) (ss : List Stt) (t x b : Int) : Bool := match dst n ss b t, dst n ss x t with
  | some y, some d => decide (y + lenAt ss x b = d)
  | _, _ => false
noncomputable def good (n : Int) (ss : List Stt) (t x : Int) : List Int := (nextL n ss x).filter (goodB n ss t x)
noncomputable def goP (n : Int) (ss : List Stt) (t : Int) : Nat → Int → List Int
  | 0, _ => []
  | k + 1, x => if x = t then [] else match (good n ss t x).head? with
    | some b => b :: goP n ss t k b
    | none => []
theorem good_ok (h : OkT n ss) {t x d : Int} (ne : x ≠ t) (hd : dst n ss x t = some d) : ∃ b l, good n ss t x = b :: l ∧ b ∈ nextL n ss x ∧ dst n ss b t = some (d - lenAt ss x b) ∧ rkT n.toNat (nextL n ss) (lenAt ss) t b + 1 ≤ rkT n.toNat (nextL n ss) (lenAt ss) t x := by
  have hd' := dst_iff.mp hd
  obtain ⟨b0, hb0, hbd⟩ := hd'.step ne
  cases e : good n ss t x with
  | nil =>
    have : b0 ∈ good n ss t x := by
      unfold good
      refine List.mem_filter.mpr ⟨hb0, ?_⟩
      unfold goodB
      rw [dst_iff.mpr hbd, hd]
      exact decide_eq_true (by omega)
    rw [e] at this; cases this
  | cons b l =>
    have hb : b ∈ good n ss t x := by rw [e]; simp
    unfold good at hb
    obtain ⟨h1, h2⟩ := List.mem_filter.mp hb
    obtain ⟨b1, b2, _⟩ := mem_next h h1
    have p := (gph h).pos _ _ h1
    unfold goodB at h2
    rw [hd] at h2
    cases q : dst n ss b t with
    | none => rw [q] at h2; cases h2
    | some y =>
      rw [q] at h2
      have h2 := of_decide_eq_true h2
      refine ⟨b, l, rfl, h1, by rw [q, show d - lenAt ss x b = y by omega], ?_⟩
      have := h.n2
      exact rkT_lt (by omega) (dst_iff.mp q) hd' (by omega)
theorem goP_end {t : Int} (k : Nat) : goP n ss t k t = [] := by
  cases k with
  | zero => rfl
  | succ k => show (if t = t then [] else _) = _; rw [if_pos rfl]
theorem goP_step {t x b : Int} {l : List Int} {k : Nat} (ne : x ≠ t) (e : good n ss t x = b :: l) : goP n ss t (k + 1) x = b :: goP n ss t k b := by
  show (if x = t then [] else match (good n ss t x).head? with | some b => b :: goP n ss t k b | none => []) = _
  rw [if_neg ne, e]; rfl
noncomputable def pathD (n : Int) (ss : List Stt) (a b : Int) : D := match dst n ss a b with
  | none => .non
  | some _ => rowT (a :: goP n ss b n.toNat a)
abbrev SE (n : Int) (ss : List Stt) (a b : Int) (l : Sl) (z4 z5 z6 : Sl) : Q.Env := [.dat (townD n ss), .dat (.int a), .dat (.int b), l, z4, z5, z6, .un, .un, .un]
def sd1 : Sd := (sIf (bE (op2 (gInA true) (eB 2) (callD 2 d_far_in (aC (eV 0) (aC (eV 1) aN)))))
  (sRet (eC .non))
  sNext)
def sd2 : Sd := (sAsg (opN gTup (aC (op2 gGet (eB 3) (op1 gNeg (eC (.int 1)))) (aC (op2 gGet (callD 2 d_far_in (aC (eV 0) (aC (op2 gGet (eB 3) (op1 gNeg (eC (.int 1)))) aN))) (eB 2)) aN))) (pT (pCons (pN 4) (pCons (pN 5) pNil))))
def sd3 : Sd := (sSet 6 (eLc (iAny (callD 2 d_nexts_in (aC (eV 0) (aC (eV 4) aN)))) (pT (pCons (pN 7) (pCons (pN 8) pNil))) bYes (opN gTup (aC (eV 7) (aC (eGet1 (callD 2 d_far_in (aC (eV 0) (aC (eV 7) aN))) (eV 2)) (aC (eV 8) aN)))) [7, 8]))
def sd4 : Sd := (sAug 3 gIAddT (opN gTup (aC (op2 gGet (eLc (iAny (eV 6)) (pT (pCons (pN 7) (pCons (pN 9) (pCons (pN 8) pNil)))) (bAnd (bE (op2 (gIsN true) (eB 9) (eC .non))) (bE (op2 (gEqA false) (op2 gAdd (eB 9) (eB 8)) (eB 5)))) (eV 7) [7, 9, 8]) (eC (.int 0))) aN)))
def sdT : Bd := (bE (op2 (gEqA true) (op2 gGet (eB 3) (op1 gNeg (eC (.int 1)))) (eB 2)))
theorem sd_eq : b_shortest_drive = sSeq (sExpr (callD 2 d_need_at (aC (eV 0) (aC (eV 1) aN)))) (sSeq (sExpr (callD 2 d_need_corner (aC (eV 0) (aC (eV 2) aN)))) (sSeq sd1 (sSeq (sSet 3 (opN gTup (aC (eV 1) aN))) (sSeq (whileD sdT (sSeq sd2 (sSeq sd3 sd4)) 2000) (sRet (eV 3)))))) := rfl
def wayD (n : Int) (ss : List Stt) (t x : Int) (dd : Int → Option Int) (y : Int) : D := .tup [.int y, oD (dd y), .int (lenAt ss x y)]
theorem aug_at {i : Nat} {g : Sto → D → D → Option D} {fe : Ed} {r r1 : Q.Env} {m m1 : Sto} {x y d : D} (h : r[i]? = some (.dat x)) (e : fe r m = .ok y m1) (eg : g m1 x y = some d) (er : r.set i (.dat d) = r1) : sAug i g fe r m = .nx r1 m1 := by
  unfold sAug
  rw [h]
  dsimp only
  rw [e]
  show Opt.out (g m1 x y) _ = _
  rw [eg]
  show Out.nx _ _ = _
  rw [er]
theorem sdB_at (h : OkT n ss) {a b x d : Int} {l0 : List Int} (x0 : 0 ≤ x) (x1 : x < n) (ne : x ≠ b) (hd : dst n ss x b = some d) (hl : l0.length ≤ 1000) {y : Int} {l : List Int} (hg : good n ss b x = y :: l) (z4 z5 z6 : Sl) :
    ∃ y4 y5 y6, (sSeq sd2 (sSeq sd3 sd4)) (SE n ss a b (.dat (rowT (l0 ++ [x]))) z4 z5 z6) m = .nx (SE n ss a b (.dat (rowT (l0 ++ [x] ++ [y]))) y4 y5 y6) m := by
  have gl : ∀ (z4 z5 z6 : Sl), op2 gGet (eB 3) (op1 gNeg (eC (.int 1))) (SE n ss a b (.dat (rowT (l0 ++ [x]))) z4 z5 z6) m = .ok (.int x) m := fun z4 z5 z6 => op2_at (b_at rfl) (op1_at c_at rfl) (last_get l0 x)
  obtain ⟨kvs, e, ok⟩ := far_in h x0 x1 m
  have e2 : sd2 (SE n ss a b (.dat (rowT (l0 ++ [x]))) z4 z5 z6) m = .nx (SE n ss a b (.dat (rowT (l0 ++ [x]))) (.dat (.int x)) (.dat (.int d)) z6) m :=
    asg_at (m1 := m) (d := .tup [.int x, .int d]) (opN2_at (gl _ _ _) (op2_at (call2_at (v_at rfl) (gl _ _ _) e) (b_at rfl) (fr_get (d := .int d) (by rw [ok.get b, hd]; rfl))) rfl) rfl
  have e3 : sd3 (SE n ss a b (.dat (rowT (l0 ++ [x]))) (.dat (.int x)) (.dat (.int d)) z6) m = .nx (SE n ss a b (.dat (rowT (l0 ++ [x]))) (.dat (.int x)) (.dat (.int d)) (.dat (.lst ((nextL n ss x).map (wayD n ss b x fun y => dst n ss y b))))) m := by
    have dl : (dueL n ss x).length ≤ 8 := by unfold dueL; rw [List.length_map]; exact next_len h x
    have q : ((nextL n ss x).map (wayD n ss b x fun y => dst n ss y b)) = (dueL n ss x).map fun p => .tup [.int p.1, oD (dst n ss p.1 b), .int p.2] := by
      unfold dueL
      rw [List.map_map]; rfl
    rw [q]
    refine set_to (lc_at (iAny_at (call2_at (v_at rfl) (v_at rfl) (nexts_in h x m)) rfl) (by rw [List.length_map]; show _ ≤ 100000; omega) ?_) rfl
    refine lcD_map pairD _ (dueL n ss x) fun p hp => ⟨_, rfl, ?_⟩
    have hp' : p.1 ∈ nextL n ss x := by
      unfold dueL at hp
      obtain ⟨z, hz, rfl⟩ := List.mem_map.mp hp
      exact hz
    obtain ⟨p0, p1, _⟩ := mem_next h hp'
    exact opN3_at (v_at rfl) (far_get h p0 p1 (a1_at (v_at rfl) (a1_at (v_at rfl) a0_at)) (v_at rfl)) (v_at rfl) rfl
  have ec : eLc (iAny (eV 6)) (pT (pCons (pN 7) (pCons (pN 9) (pCons (pN 8) pNil)))) (bAnd (bE (op2 (gIsN true) (eB 9) (eC .non))) (bE (op2 (gEqA false) (op2 gAdd (eB 9) (eB 8)) (eB 5)))) (eV 7) [7, 9, 8] (SE n ss a b (.dat (rowT (l0 ++ [x]))) (.dat (.int x)) (.dat (.int d)) (.dat (.lst ((nextL n ss x).map (wayD n ss b x fun y => dst n ss y b))))) m = .ok (.lst ((good n ss b x).map D.int)) m := by
    have q := lc_filterMap (p := pT (pCons (pN 7) (pCons (pN 9) (pCons (pN 8) pNil)))) (t := bAnd (bE (op2 (gIsN true) (eB 9) (eC .non))) (bE (op2 (gEqA false) (op2 gAdd (eB 9) (eB 8)) (eB 5)))) (f := eV 7) (r := wipeR (SE n ss a b (.dat (rowT (l0 ++ [x]))) (.dat (.int x)) (.dat (.int d)) (.dat (.lst ((nextL n ss x).map (wayD n ss b x fun y => dst n ss y b))))) [7, 9, 8]) (m := m) (wayD n ss b x fun y => dst n ss y b) D.int (fun y => if goodB n ss b x y = true then some y else none) (nextL n ss x) fun y hy => by
      refine ⟨[.dat (townD n ss), .dat (.int a), .dat (.int b), .dat (rowT (l0 ++ [x])), .dat (.int x), .dat (.int d), .dat (.lst ((nextL n ss x).map (wayD n ss b x fun y => dst n ss y b))), .dat (.int y), .dat (.int (lenAt ss x y)), .dat (oD (dst n ss y b))], rfl, ?_⟩
      cases e : dst n ss y b with
      | none => exact .inl ⟨if_neg (by unfold goodB; rw [e, hd]; exact Bool.false_ne_true), and_f (bE_at (op2_at (d := .bl false) (b_at rfl) c_at rfl))⟩
      | some z =>
        have t : bAnd (bE (op2 (gIsN true) (eB 9) (eC .non))) (bE (op2 (gEqA false) (op2 gAdd (eB 9) (eB 8)) (eB 5))) [.dat (townD n ss), .dat (.int a), .dat (.int b), .dat (rowT (l0 ++ [x])), .dat (.int x), .dat (.int d), .dat (.lst ((nextL n ss x).map (wayD n ss b x fun y => dst n ss y b))), .dat (.int y), .dat (.int (lenAt ss x y)), .dat (oD (some z))] m = .ok (decide (z + lenAt ss x y = d)) m :=
          and_t (bE_at (op2_at (d := .bl true) (b_at rfl) c_at rfl)) (bE_at (op2_at (op2_at (x := .int z) (b_at rfl) (b_at rfl) rfl) (b_at rfl) gEq_i))
        by_cases c : z + lenAt ss x y = d
        · rw [decide_eq_true c] at t
          exact .inr ⟨y, if_pos (by unfold goodB; rw [e, hd]; exact decide_eq_true c), t, v_at rfl⟩
        · rw [decide_eq_false c] at t
          exact .inl ⟨if_neg (by unfold goodB; rw [e, hd]; dsimp only; rw [decide_eq_false c]; decide), t⟩
    have e : (nextL n ss x).filterMap (fun y => if goodB n ss b x y = true then some y else none) = good n ss b x := by
      unfold good
      induction nextL n ss x with
      | nil => rfl
      | cons a q ih => cases z : goodB n ss b x a <;> simp [z, ih]
    rw [e] at q
    exact lc_at (iAny_at (v_at rfl) rfl) (by rw [List.length_map]; have := next_len h x; show _ ≤ 100000; omega) q
  refine ⟨_, _, _, sq_at e2 (sq_at e3 (aug_at (x := rowT (l0 ++ [x])) (y := rowT [y]) (d := rowT (l0 ++ [x] ++ [y])) rfl (opN1_at (op2_at ec c_at ?_) rfl) ?_ rfl))⟩
  · rw [hg]
    show gGet m (.lst ((y :: l).map D.int)) (.int 0) = _
    rw [gGet_l]; simp
  · have := gIAddT_t (m := m) (xs := (l0 ++ [x]).map D.int) (ys := [.int y]) (by rw [List.length_map, List.length_append]; show _ + 1 + 1 ≤ 100000; omega)
    show gIAddT m (.tup ((l0 ++ [x]).map D.int)) (.tup [.int y]) = some (.tup ((l0 ++ [x] ++ [y]).map D.int))
    rw [this, List.map_append (l₁ := l0 ++ [x])]; rfl
theorem short_at (h : OkT n ss) {a b : Int} (a0 : 0 ≤ a) (a1 : a < n) (b0 : 0 ≤ b) (b1 : b < n) (m : Sto) : d_shortest_drive [townD n ss, .int a, .int b] m = .ok (pathD n ss a b) m := by
  have n2 := h.n2
  have n8 := h.n8
  obtain ⟨kvs, ef, ok⟩ := far_in h a0 a1 m
  have s1 : sExpr (callD 2 d_need_at (aC (eV 0) (aC (eV 1) aN))) (SE n ss a b .un .un .un .un) m = .nx (SE n ss a b .un .un .un .un) m := ex_at (call2_at (v_at rfl) (v_at rfl) (need_both h a0 a1 m))
  have s2 : sExpr (callD 2 d_need_corner (aC (eV 0) (aC (eV 2) aN))) (SE n ss a b .un .un .un .un) m = .nx (SE n ss a b .un .un .un .un) m := ex_at (call2_at (v_at rfl) (v_at rfl) (need_cor b0 b1 m))
  have tt : bE (op2 (gInA true) (eB 2) (callD 2 d_far_in (aC (eV 0) (aC (eV 1) aN)))) (SE n ss a b .un .un .un .un) m = .ok (!(dst n ss a b).isSome) m := by
    refine bE_at (op2_at (b_at rfl) (call2_at (v_at rfl) (v_at rfl) ef) ?_)
    show some (D.bl (!(getA kvs (.inl b)).isSome)) = _
    rw [ok.get b, Option.isSome_map]
  unfold d_shortest_drive pathD
  refine body_at ?_
  rw [sd_eq]
  cases hd : dst n ss a b with
  | none =>
    rw [hd] at tt
    exact sq_at s1 (sq_at s2 (sq_rt (if_t tt (ret_at c_at))))
  | some d =>
    rw [hd] at tt
    obtain ⟨r', m', e, z4, z5, z6, rfl, rfl⟩ := while_inv (t := sdT) (b := sSeq sd2 (sSeq sd3 sd4)) (fun k r m' => ∃ pre x l0 z4 z5 z6, r = SE n ss a b (.dat (rowT (a :: pre))) z4 z5 z6 ∧ m' = m ∧ a :: pre = l0 ++ [x] ∧ 0 ≤ x ∧ x < n ∧ (∃ d, dst n ss x b = some d) ∧ pre ++ goP n ss b k x = goP n ss b n.toNat a ∧ pre.length + k ≤ n.toNat ∧ (x = b ∨ rkT n.toNat (nextL n ss) (lenAt ss) b x + 1 ≤ k)) (fun r m' => ∃ z4 z5 z6, r = SE n ss a b (.dat (rowT (a :: goP n ss b n.toNat a))) z4 z5 z6 ∧ m' = m) (by
      rintro k r m' ⟨pre, x, l0, z4, z5, z6, rfl, rfl, c1, c2, c3, ⟨d, c4⟩, c5, c6, c7⟩
      have hl : l0.length = pre.length := by
        have := congrArg List.length c1
        simp at this; omega
      have t : sdT (SE n ss a b (.dat (rowT (a :: pre))) z4 z5 z6) m' = .ok (!decide (x = b)) m' := by
        rw [c1]
        exact bE_at (op2_at (op2_at (b_at rfl) (op1_at c_at rfl) (last_get l0 x)) (b_at rfl) gNe_i)
      by_cases e : x = b
      · left
        rw [decide_eq_true e] at t
        subst e
        rw [goP_end, List.append_nil] at c5
        exact ⟨t, z4, z5, z6, by rw [c5], rfl⟩
      · right
        rw [decide_eq_false e] at t
        rcases c7 with c7 | c7
        · exact absurd c7 e
        · obtain ⟨y, l, hg, hy, hyd, hrk⟩ := good_ok h e c4
          obtain ⟨y0, y1, _⟩ := mem_next h hy
          obtain ⟨k', rfl⟩ : ∃ k', k = k' + 1 := ⟨k - 1, by omega⟩
          rw [goP_step e hg] at c5
          obtain ⟨y4, y5, y6, eb⟩ := sdB_at (m := m') (a := a) (b := b) (l0 := l0) h c2 c3 e c4 (by omega) hg z4 z5 z6
          rw [← c1] at eb
          exact ⟨t, k', _, m', rfl, eb, pre ++ [y], y, a :: pre, _, _, _, rfl, rfl, rfl, y0, y1, ⟨_, hyd⟩, by rw [List.append_assoc]; exact c5, by rw [List.length_append]; simp; omega, .inr (by omega)⟩) 2000 n.toNat (SE n ss a b (.dat (rowT (a :: []))) .un .un .un) m (by omega) ⟨[], a, [], _, _, _, rfl, rfl, rfl, a0, a1, ⟨d, hd⟩, rfl, by simp, .inr (rkT_le (by omega))⟩
    exact sq_at s1 (sq_at s2 (sq_at (r1 := SE n ss a b .un .un .un .un) (m1 := m') (if_f tt rfl) (sq_at (r1 := SE n ss a b (.dat (rowT (a :: []))) .un .un .un) (m1 := m') (set_to (opN1_at (v_at rfl) rfl) rfl) (sq_at e (ret_at (v_at rfl))))))
end
end T
end
section
set_option Elab.async false
set_option linter.all false
set_option maxRecDepth 100000
/-! the rows of distances from all corners -/
namespace T
open PySem L2 Q
section
variable {m : Sto} {n : Int} {ss : List Stt} {R : Nat → List (Key × D)}
theorem rows_get (F : Nat → D) {k : Nat} {i : Int} (h0 : 0 ≤ i) (h1 : i < (k : Int)) : gGet m (.lst ((List.range k).map F)) (.int i) = some (F i.toNat) := by
  obtain ⟨j, rfl⟩ := Int.eq_ofNat_of_zero_le h0
  rw [gGet_l]
  refine Q.atI_nat ?_
  rw [List.getElem?_map, List.getElem?_range (by omega)]
  simp
def rowsD (n : Int) (R : Nat → List (Key × D)) : D := .lst ((List.range n.toNat).map fun i => .dK (R i))
structure RowsOk (n : Int) (ss : List Stt) (R : Nat → List (Key × D)) : Prop where
  ok : ∀ i : Nat, (i : Int) < n → FarOk n ss i (R i)
theorem RowsOk.get (hR : RowsOk n ss R) {b : Int} (b0 : 0 ≤ b) (b1 : b < n) (o : Int) : getA (R b.toNat) (.inl o) = (dst n ss b o).map D.int := by
  have := (hR.ok b.toNat (by omega)).get o
  rwa [Int.toNat_of_nonneg b0] at this
theorem rows_ex (h : OkT n ss) (m : Sto) : ∃ R, RowsOk n ss R ∧ ∀ i : Nat, (i : Int) < n → d__law_far [townD n ss, .int (i : Int)] m = .ok (.dK (R i)) m := by
  have ch : ∀ i : Nat, ∃ kvs, (i : Int) < n → d__law_far [townD n ss, .int (i : Int)] m = .ok (.dK kvs) m ∧ FarOk n ss i kvs := fun i => by
    by_cases hi : (i : Int) < n
    · obtain ⟨kvs, q⟩ := far_at h (by omega) hi m
      exact ⟨kvs, fun _ => q⟩
    · exact ⟨[], fun z => absurd z hi⟩
  obtain ⟨R, hR0⟩ := Classical.axiomOfChoice ch
  exact ⟨R, ⟨fun i hi => (hR0 i hi).2⟩, fun i hi => (hR0 i hi).1⟩
theorem lenSum_snoc (l0 : List Int) (x y : Int) : lenSum ss (l0 ++ [x] ++ [y]) = lenSum ss (l0 ++ [x]) + lenAt ss x y := by
  unfold lenSum
  rw [prs_snoc, List.map_append, List.sum_append]
  simp
theorem dst_self (h : OkT n ss) (x : Int) : dst n ss x x = some 0 := dst_iff.mpr (IsD.self (gph h))
end
end T
end
section
set_option Elab.async false
set_option linter.all false
set_option maxRecDepth 100000
set_option maxHeartbeats 1000000
namespace K01
open PySem L2 Q T
def b__law_roll : Sd :=
  (sSeq (sIf (bE (op2 gGtA (op2 gGet (eB 0) (eC (.int 0))) (eC (.int 0))))
  (sSeq (sSet 2 (op2 gMod (opN gInt (aC (op2 gGet (eB 0) (eC (.int 0))) aN)) (eB 1)))
  (sSeq (sPut 0 (eC (.int 0)) (op2 gDiv (op2 gGet (eB 0) (eC (.int 0))) (eB 1)))
  (sRet (eV 2))))
  sNext)
  (sSeq (sPut 0 (eC (.int 1)) (op2 gMod (opN gInt (aC (op2 gAdd (op2 gMulA (op2 gGet (eB 0) (eC (.int 1))) (eC (.int 30937))) (eC (.int 7919))) aN)) (eC (.int 2147483399))))
  (sSeq (sSet 3 (op2 gMod (opN gInt (aC (op2 gMulA (op2 gGet (eB 0) (eC (.int 1))) (op2 gAdd (op2 gGet (eB 0) (eC (.int 1))) (eC (.int 257)))) aN)) (eC (.int 2147483563))))
  (sRet (op2 gMod (opN gInt (aC (op2 gDiv (eB 3) (eC (.int 839))) aN)) (eB 1))))))
def d__law_roll : Fd := bodyD false 4 b__law_roll
theorem roll_ok (a b many : Int) (h1 : 0 < many) (h2 : many < 1073741824) : ∃ v a' b', d__law_roll [.cell 0, .int many] (T.cup a b) = .ok (.int v) (T.cup a' b') ∧ 0 ≤ v ∧ v < many := by
  by_cases h : 0 < a
  · refine ⟨a % many, a / many, b, ?_, Int.emod_nonneg _ (by omega), Int.emod_lt_of_pos _ h1⟩
    simp [d__law_roll, b__law_roll, T.cup, gGet_c, h, gMod_i h1, gDiv_i ⟨h1, h2⟩]
  · have hb : 0 ≤ (b * 30937 + 7919) % 2147483399 := Int.emod_nonneg _ (by decide)
    have hb2 : (b * 30937 + 7919) % 2147483399 < 2147483399 := Int.emod_lt_of_pos _ (by decide)
    obtain ⟨x, hx⟩ : ∃ x : Int, x = (b * 30937 + 7919) % 2147483399 := ⟨_, rfl⟩
    refine ⟨x * (x + 257) % 2147483563 / 839 % many, a, x, ?_, Int.emod_nonneg _ (by omega), Int.emod_lt_of_pos _ h1⟩
    rw [← hx] at hb hb2
    simp [d__law_roll, b__law_roll, T.cup, gGet_c, h, gMod_i, h1, gDiv_i, gMul_r, ← hx, gMul_l (⟨by omega, by omega⟩ : -(2 ^ 64) < x ∧ x < 2 ^ 64)]
instance R : Roll := ⟨d__law_roll, roll_ok⟩
def b__law_cup : Sd :=
  (sSeq (sSet 1 (opN gAbs (aC (op2 gGet (op2 gAdd (opN gListA (aC (eB 0) aN)) (opN gLst (aC (eC (.int 0)) aN))) (eC (.int 0))) aN)))
  (sRetF (opN gLst (aC (eIf (bE (op2 gGeA (eB 1) (op2 gPow (eC (.int 10)) (eC (.int 18))))) (op2 gDiv (eB 1) (eC (.int 101))) (eC (.int 0))) (aC (op2 gAdd (op2 gMod (opN gInt (aC (op2 gAdd (op2 gMulA (eB 1) (eC (.int 347))) (eC (.int 4057))) aN)) (eC (.int 2077502097))) (eC (.int 181))) aN)))))
def d__law_cup : Fd := bodyD true 2 b__law_cup
def b__law_first : Sd :=
  (sSeq (sSet 4 (opN gTup (aC (eV 2) aN)))
  (sSeq (sIf (bE (op2 (gInA true) (eB 3) (op2 gGet (eB 1) (eB 2))))
  (sRet (eC .non))
  sNext)
  (sSeq (sFor (iRg1 (op2 gGet (eB 0) (eC (.int 0)))) (pN 5)
  (sIf (bE (op2 (gEqA true) (op2 gGet (eB 4) (op1 gNeg (eC (.int 1)))) (eB 3)))
  (sSeq (sSet 6 (op2 gGet (eB 4) (op1 gNeg (eC (.int 1)))))
  (sSeq (sSet 7 (eLc (iAny (callD 2 d__law_next (aC (eV 0) (aC (eV 6) aN)))) (pN 8) (bAnd (bE (op2 (gInA false) (eB 3) (op2 gGet (eB 1) (eB 8)))) (bE (op2 (gEqA false) (op2 gAdd (op2 gGet (op2 gGet (eB 1) (eB 8)) (eB 3)) (op2 gGet (op2 gGet (op2 gGet (eB 0) (eC (.int 1))) (callD 3 d__law_step (aC (eV 0) (aC (eV 6) (aC (eV 8) aN))))) (eC (.int 2)))) (op2 gGet (op2 gGet (eB 1) (eB 6)) (eB 3))))) (eV 8) [8]))
  (sSet 4 (op2 gAdd (eB 4) (opN gTup (aC (op2 gGet (eB 7) (eC (.int 0))) aN))))))
  sNext))
  (sRet (eV 4)))))
def d__law_first : Fd := bodyD false 9 b__law_first
def b_law : Sd :=
  (sSeq (sCell 1 (callD 1 d__law_cup (aC (eV 0) aN)))
  (sSeq (sFor (iRg1 (eC (.int 3))) (pN 2)
  (sSeq (sSet 3 (callD 3 d__law_town (aC (eV 1) (aC (eC (.int 8)) (aC (callD 2 d__law_some (aC (eV 1) (aC (opN gLst (aC (opN gLst (aC (eC (.str "lane")) (aC (eC (.str "narrow")) (aC (eC (.str "wide")) aN)))) (aC (opN gLst (aC (eC (.str "lane")) aN)) (aC (opN gLst (aC (eC (.str "narrow")) (aC (eC (.str "wide")) aN))) aN)))) aN))) aN)))))
  (sSeq (sSet 4 (eLc (iRg1 (op2 gGet (eB 3) (eC (.int 0)))) (pN 15) bYes (callD 2 d__law_far (aC (eV 3) (aC (eV 15) aN))) [15]))
  (sFor (iRg1 (op2 gGet (eB 3) (eC (.int 0)))) (pN 5)
  (sSeq (sSet 6 (op2 gGet (eB 4) (eB 5)))
  (sFor (iRg1 (op2 gGet (eB 3) (eC (.int 0)))) (pN 7)
  (sSeq (sSet 8 (callD 4 d__law_first (aC (eV 3) (aC (eV 4) (aC (eV 5) (aC (eV 7) aN))))))
  (sSeq (sIf (bNot (bE (callD 2 d__law_same (aC (opN gTup (aC (callD 3 d_distance (aC (eV 3) (aC (eV 5) (aC (eV 7) aN)))) (aC (callD 3 d_shortest_drive (aC (eV 3) (aC (eV 5) (aC (eV 7) aN)))) aN))) (aC (opN gTup (aC (eGet2 (eB 6) (eV 7) (eC .non)) (aC (eV 8) aN))) aN)))))
  (sRet (eC (.bl false)))
  sNext)
  (sIf (bAnd (bE (op2 (gIsN true) (eB 8) (eC .non))) (bOr (bE (op2 (gIsB true) (callD 2 d_is_drive (aC (eV 3) (aC (eV 8) aN))) (eC (.bl true)))) (bNot (bE (callD 2 d__law_same (aC (callD 2 d_length_of (aC (eV 3) (aC (eV 8) aN))) (aC (op2 gGet (eB 6) (eB 7)) aN)))))))
  (sRet (eC (.bl false)))
  sNext)))))))))
  (sSeq (sAsg (opN gTup (aC (op2 gAdd (eC (.int 3)) (callD 2 d__law_roll (aC (eV 1) (aC (eC (.int 6)) aN)))) (aC (op2 gAdd (eC (.int 1)) (callD 2 d__law_roll (aC (eV 1) (aC (eC (.int 9)) aN)))) aN))) (pT (pCons (pN 9) (pCons (pN 10) pNil))))
  (sSeq (sSet 11 (opN gTup (aC (eV 9) (aC (opN gTupleOf (aC (opN gSort (aC (eLc (iRg1 (eV 9)) (pN 16) bYes (opN gTup (aC (eV 16) (aC (op2 gMod (opN gInt (aC (op2 gAdd (eB 16) (eC (.int 1))) aN)) (eB 9)) (aC (eV 10) (aC (eC (.str "lane")) aN))))) [16]) aN)) aN)) aN))))
  (sSeq (sSet 12 (opN gTup (aC (eV 9) (aC (opN gTupleOf (aC (opN gSort (aC (op2 gAdd (eLc (iRg1 (op2 gSub (eB 9) (eC (.int 1)))) (pN 16) bYes (opN gTup (aC (eV 16) (aC (op2 gAdd (eB 16) (eC (.int 1))) (aC (eV 10) (aC (eC (.str "narrow")) aN))))) [16]) (opN gLst (aC (opN gTup (aC (eC (.int 0)) (aC (op2 gSub (eB 9) (eC (.int 1))) (aC (eV 10) (aC (eC (.str "narrow")) aN))))) aN))) aN)) aN)) aN))))
  (sSeq (sSet 13 (op2 gDiv (eB 9) (eC (.int 2))))
  (sSeq (sSet 14 (opN gTup (aC (callD 3 d_distance (aC (eV 11) (aC (eC (.int 1)) (aC (eC (.int 0)) aN)))) (aC (callD 3 d_shortest_drive (aC (eV 11) (aC (eC (.int 1)) (aC (eC (.int 0)) aN)))) (aC (callD 3 d_distance (aC (eV 12) (aC (eC (.int 0)) (aC (eV 13) aN)))) (aC (callD 3 d_shortest_drive (aC (eV 12) (aC (eC (.int 0)) (aC (eV 13) aN)))) (aC (callD 3 d_distance (aC (eV 12) (aC (eC (.int 0)) (aC (op2 gSub (eB 9) (eC (.int 1))) aN)))) aN)))))))
  (sSeq (sSet 8 (opN gTup (aC (op2 gMulA (op2 gSub (eB 9) (eC (.int 1))) (eB 10)) (aC (op2 gAdd (eRgB true (eC (.int 1)) (eB 9)) (opN gTup (aC (eC (.int 0)) aN))) (aC (op2 gMulA (eB 13) (eB 10)) (aC (eRgA true (op2 gAdd (eB 13) (eC (.int 1)))) (aC (eV 10) aN)))))))
  (sSeq (sIf (bNot (bE (callD 2 d__law_same (aC (eV 14) (aC (eV 8) aN)))))
  (sRet (eC (.bl false)))
  sNext)
  (sSeq (sSet 5 (opN gTup (aC (eC (.int 3)) (aC (opN gTup (aC (opN gTup (aC (eC (.int 1)) (aC (eC (.int 0)) (aC (eV 10) (aC (eC (.str "lane")) aN))))) aN)) aN))))
  (sSeq (sSet 14 (opN gTup (aC (callD 3 d_distance (aC (eV 5) (aC (eC (.int 0)) (aC (eC (.int 1)) aN)))) (aC (callD 3 d_distance (aC (eV 5) (aC (eC (.int 1)) (aC (eC (.int 0)) aN)))) (aC (callD 3 d_shortest_drive (aC (eV 5) (aC (eC (.int 1)) (aC (eC (.int 2)) aN)))) (aC (callD 3 d_shortest_drive (aC (eV 5) (aC (eC (.int 2)) (aC (eC (.int 2)) aN)))) (aC (callD 3 d_shortest_drive (aC (eV 5) (aC (eC (.int 0)) (aC (eC (.int 1)) aN)))) aN)))))))
  (sRet (callD 2 d__law_same (aC (eV 14) (aC (opN gTup (aC (eC .non) (aC (eV 10) (aC (eC .non) (aC (opN gTup (aC (eC (.int 2)) aN)) (aC (eC .non) aN)))))) aN)))))))))))))))
def d_law : Fd := bodyD false 17 b_law
theorem cup_ok (ns : List Int) (hl : ns.length ≤ 63) : ∃ a b, d__law_cup [.klst (ns.map D.int)] [] = .ok (.lst [.int a, .int b]) [] := by
  have h0 : ∃ c : Int, atI (ns.map D.int ++ [D.int 0]) 0 = some (.int c) := by
    cases ns with
    | nil => exact ⟨0, by simp⟩
    | cons n ns => exact ⟨n, by simp⟩
  obtain ⟨c, hc⟩ := h0
  have h1 : (ns.map D.int).length + [D.int 0].length ≤ SZ := by simp [SZ]; omega
  obtain ⟨z, hz⟩ : ∃ z : Int, z = if c < 0 then -c else c := ⟨_, rfl⟩
  by_cases h : 1000000000000000000 ≤ z
  · refine ⟨z / 101, (z * 347 + 4057) % 2077502097 + 181, ?_⟩
    simp [d__law_cup, b__law_cup, gAdd_l h1, hc, gLst_ok, gPow_i, gDiv_i, gMod_i, gMul_r, ← hz, h]
  · refine ⟨0, (z * 347 + 4057) % 2077502097 + 181, ?_⟩
    simp [d__law_cup, b__law_cup, gAdd_l h1, hc, gLst_ok, gPow_i, gDiv_i, gMod_i, gMul_r, ← hz, h]
end K01
end
section
set_option Elab.async false
set_option linter.all false
set_option maxRecDepth 100000
set_option maxHeartbeats 1000000
/-! walk of snowrounds_k01_whole_distances_and_short, printed by gen.py -/
namespace K01
open PySem L2 PySem.Spec PyProof.Rows Q T
def top (i : Nat) : Stmt := PySem.Challenge.pw_snowrounds_k01_whole_distances_and_short.main.body.getD i (.Pass ⟨0, 0, 0, 0⟩)
abbrev s__law_cup : Stmt := top 29
abbrev s__law_same : Stmt := top 32
abbrev s__law_roll : Stmt := top 30
abbrev s__law_some : Stmt := top 31
abbrev s__law_town : Stmt := top 33
abbrev s_is_tuple_of : Stmt := top 12
abbrev s_is_whole : Stmt := top 11
abbrev s_fits_street : Stmt := top 13
abbrev s_fits_town : Stmt := top 14
abbrev s_need_town : Stmt := top 15
abbrev s_need_corner : Stmt := top 16
abbrev s_need_at : Stmt := top 17
abbrev s_steps_in : Stmt := top 18
abbrev s_nexts_in : Stmt := top 19
abbrev s_far_in : Stmt := top 20
abbrev s_distance : Stmt := top 24
abbrev s_shortest_drive : Stmt := top 25
abbrev s__law_step : Stmt := top 34
abbrev s__law_next : Stmt := top 35
abbrev s__law_far : Stmt := top 36
abbrev s__law_first : Stmt := top 37
abbrev s_fits_drive : Stmt := top 21
abbrev s_is_drive : Stmt := top 26
abbrev s_need_drive : Stmt := top 22
abbrev s_length_in : Stmt := top 23
abbrev s_length_of : Stmt := top 27
abbrev s_law : Stmt := top 38
def kv_KINDS : List V := [(.str "lane"), (.str "narrow"), (.str "wide")]
theorem kr_KINDS {K : PySem.W.Frag} {mg : Str → Option Value} {α : List Addr} {F : Hp} : RepL K mg α F kv_KINDS k_KINDS := (.cons (.str _) (.cons (.str _) (.cons (.str _) .nil)))
/-- what the top has made -/
structure Txt (K : PySem.W.Frag) (mg : Str → Option Value) : Prop where
  D__law_cup : DefAt K mg "_law_cup" s__law_cup ["script"]
  D__law_same : DefAt K mg "_law_same" s__law_same ["told", "due"]
  D__law_roll : DefAt K mg "_law_roll" s__law_roll ["cup", "many"]
  D__law_some : DefAt K mg "_law_some" s__law_some ["cup", "things"]
  D__law_town : DefAt K mg "_law_town" s__law_town ["cup", "most", "kinds"]
  D_is_tuple_of : DefAt K mg "is_tuple_of" s_is_tuple_of ["value", "least", "most"]
  D_is_whole : DefAt K mg "is_whole" s_is_whole ["value", "least", "most"]
  D_fits_street : DefAt K mg "fits_street" s_fits_street ["corners", "value"]
  D_fits_town : DefAt K mg "fits_town" s_fits_town ["value"]
  D_need_town : DefAt K mg "need_town" s_need_town ["town"]
  D_need_corner : DefAt K mg "need_corner" s_need_corner ["town", "corner"]
  D_need_at : DefAt K mg "need_at" s_need_at ["town", "corner"]
  D_steps_in : DefAt K mg "steps_in" s_steps_in ["town"]
  D_nexts_in : DefAt K mg "nexts_in" s_nexts_in ["town", "corner"]
  D_far_in : DefAt K mg "far_in" s_far_in ["town", "corner"]
  D_distance : DefAt K mg "distance" s_distance ["town", "one", "other"]
  D_shortest_drive : DefAt K mg "shortest_drive" s_shortest_drive ["town", "one", "other"]
  D__law_step : DefAt K mg "_law_step" s__law_step ["town", "one", "other"]
  D__law_next : DefAt K mg "_law_next" s__law_next ["town", "corner"]
  D__law_far : DefAt K mg "_law_far" s__law_far ["town", "corner"]
  D__law_first : DefAt K mg "_law_first" s__law_first ["town", "rows", "one", "other"]
  D_fits_drive : DefAt K mg "fits_drive" s_fits_drive ["town", "value"]
  D_is_drive : DefAt K mg "is_drive" s_is_drive ["town", "value"]
  D_need_drive : DefAt K mg "need_drive" s_need_drive ["town", "drive"]
  D_length_in : DefAt K mg "length_in" s_length_in ["town", "drive"]
  D_length_of : DefAt K mg "length_of" s_length_of ["town", "drive"]
  D_law : DefAt K mg "law" s_law ["script"]
  B_abs : mg "abs" = none
  B_all : mg "all" = none
  B_bool : mg "bool" = none
  B_enumerate : mg "enumerate" = none
  B_int : mg "int" = none
  B_isinstance : mg "isinstance" = none
  B_len : mg "len" = none
  B_list : mg "list" = none
  B_max : mg "max" = none
  B_min : mg "min" = none
  B_range : mg "range" = none
  B_set : mg "set" = none
  B_sorted : mg "sorted" = none
  B_str : mg "str" = none
  B_sum : mg "sum" = none
  B_tuple : mg "tuple" = none
  B_zip : mg "zip" = none
  C_InvalidCorner : ClsAt K mg "InvalidCorner"
  C_InvalidDrive : ClsAt K mg "InvalidDrive"
  C_InvalidTown : ClsAt K mg "InvalidTown"
  G_CORNERS : ∃ t, mg "CORNERS" = some (.int 8 t)
  G_DRIVE : ∃ t, mg "DRIVE" = some (.int 400 t)
  G_KINDS : ∃ a, mg "KINDS" = some (.ref a) ∧ SqT K (fun _ => none) a kv_KINDS
  G_LENGTH : ∃ t, mg "LENGTH" = some (.int 9 t)
  G_STREETS : ∃ t, mg "STREETS" = some (.int 12 t)
section
variable {P : Program} {w : World} {K : PySem.W.Frag} {mg : Str → Option Value} {base : Heap}
end
end K01
end
section
set_option Elab.async false
set_option linter.all false
set_option maxRecDepth 100000
set_option maxHeartbeats 1000000
namespace K01
open PySem L2 PySem.Spec PyProof.Rows Q T
section
variable {P : Program} {w : World} {K : PySem.W.Frag} {mg : Str → Option Value} {base : Heap}
/-- _law_cup(script); slots: 0 script, 1 cell -/
theorem sc__law_cup : FnScope ["script", "cell"] ["script"] (defScope s__law_cup) := ⟨rfl, rfl, rfl, by decide +kernel, rfl, by decide +kernel, by decide +kernel⟩
theorem at__law_cup (T : Txt K mg) : FnAt P w K mg base "_law_cup" 1 ["script"] true d__law_cup := by
  have S := sc__law_cup
  exact T.D__law_cup.at (N := ["script", "cell"]) (fr := true) (k := 0) (b := b__law_cup) S fun f cdv A outer s H E hr tk =>
    (qss_cons (qs_set (i := 1) S.nd rfl (by first | exact .inl rfl | exact .inr rfl) (qe_callB call_abs snd_abs (by rfl) T.B_abs (by decide +kernel) (qa_cons (qe_ix (ix_get hr.units) snd_get (qe_op op_addA snd_add (qe_callTy call_list_of snd_listA (by rfl) T.B_list (by decide +kernel) (qa_cons (qe_b 0) qa_nil)).bor (qe_lst (qa_cons qe_int qa_nil)).bor).bor qe_int.bor (fun _ _ => rfl)).bor qa_nil)))
  (qss_one (qs_retF (qe_lst (qa_cons (qe_if (qt_cmp (op_geA hr.units) snd_OA (qe_b 1) (qe_op op_pow snd_pow qe_int.bor qe_int.bor).bor (nomark _)) (qe_op op_fdiv snd_div (qe_b 1) qe_int.bor) qe_int) (qa_cons (qe_op op_addA snd_add (qe_op op_mod snd_mod (qe_callTy call_int1 snd_int (by rfl) T.B_int (by decide +kernel) (qa_cons (qe_op op_addA snd_add (qe_op op_mulA snd_mulA (qe_b 1) qe_int.bor).bor qe_int.bor).bor qa_nil)).bor qe_int.bor).bor qe_int.bor) qa_nil))))))
end
end K01
end
section
set_option Elab.async false
set_option linter.all false
set_option maxRecDepth 100000
set_option maxHeartbeats 1000000
namespace K01
open PySem L2 PySem.Spec PyProof.Rows Q T
section
variable {P : Program} {w : World} {K : PySem.W.Frag} {mg : Str → Option Value} {base : Heap}
/-- _law_same(told, due); slots: 0 told, 1 due, 2 at -/
theorem sc__law_same : FnScope ["told", "due", "at"] ["told", "due"] (defScope s__law_same) := ⟨rfl, rfl, rfl, by decide +kernel, rfl, by decide +kernel, by decide +kernel⟩
theorem at__law_same_ (j : Nat) : ∀ {P : Program} {w : World} {K : PySem.W.Frag} {mg : Str → Option Value} {base : Heap} (_ : Txt K mg), FnAt P w K mg base "_law_same" (j + 0 + 1) ["told", "due"] false (f__law_same j) := by
  induction j with
  | zero => intro P w K mg base T; exact T.D__law_same.at0 sc__law_same
  | succ j ih =>
    intro P w K mg base T
    have S := sc__law_same
    have e : j + 1 + 0 + 1 = (j + 0 + 1) + 1 := by omega
    rw [e]
    exact T.D__law_same.at (N := ["told", "due", "at"]) (fr := false) (k := j + 0 + 1) (b := b__law_same (f__law_same j)) S fun f cdv A outer s H E hr tk =>
      (qss_cons (qs_if (qt_val (qe_isi (qe_b 1) (by rfl) T.B_isinstance (by rfl) T.B_tuple (by decide +kernel)))
  (qss_cons (qs_if (qw_or (qt_not (qt_val (qe_isi (qe_b 0) (by rfl) T.B_isinstance (by rfl) T.B_tuple (by decide +kernel)))) (qw_or1 (qt_cmp (op_neA hr.units) snd_neA (qe_callB call_lenA snd_len (by rfl) T.B_len (by decide +kernel) (qa_cons (qe_b 0) qa_nil)).bor (qe_callB call_lenA snd_len (by rfl) T.B_len (by decide +kernel) (qa_cons (qe_b 1) qa_nil)).bor (nomark _)))).qt
  (qss_one (qs_ret qe_bl))
  qss_nil)
  (qss_one (qs_ret (qe_callB (cr_all rfl) snd_all (by rfl) T.B_all (by decide +kernel) (qa_cons (qe_lc (own := [("at", 2)]) rfl S.nd (qi_range1 (by rfl) T.B_range (qe_callB call_lenA snd_len (by rfl) T.B_len (by decide +kernel) (qa_cons (qe_b 1) qa_nil))) (blkOk_by (N := ["told", "due", "at"]) (sc := defScope s__law_same) (by decide +kernel)) (fun _ => (qg_n 2 S.nd rfl (by first | exact .inl rfl | exact .inr rfl))) (fun _ => qts_nil) (fun _ => (qe_call (ih T) hr takes0 (by rfl) (qa_cons (qe_ix (ix_get hr.units) snd_get (qe_b 0) (qe_b 2) (fun _ _ => rfl)) (qa_cons (qe_ix (ix_get hr.units) snd_get (qe_b 1) (qe_b 2) (fun _ _ => rfl)) qa_nil))))).bor qa_nil)))))
  qss_nil)
  (qss_cons (qs_if (qt_cmp op_isN snd_isN (qe_b 1) qe_non.bor (nomark _))
  (qss_one (qs_ret (qe_cmp op_isN snd_isN (qe_b 0) qe_non.bor (nomark _))))
  qss_nil)
  (qss_cons (qs_if (qt_val (qe_isi (qe_b 1) (by rfl) T.B_isinstance (by rfl) T.B_bool (by decide +kernel)))
  (qss_one (qs_ret (qe_if (qt_val (qe_v 1)) (qe_cmp op_isBl snd_isB (qe_b 0) qe_bl.bor (nomark _)) (qe_cmp op_isBl snd_isB (qe_b 0) qe_bl.bor (nomark _)))))
  qss_nil)
  (qss_cons (qs_if (qt_val (qe_isi (qe_b 1) (by rfl) T.B_isinstance (by rfl) T.B_int (by decide +kernel)))
  (qss_one (qs_ret (qe_and (qe_isi (qe_b 0) (by rfl) T.B_isinstance (by rfl) T.B_int (by decide +kernel)) (qe_and (qe_not (qe_isi (qe_b 0) (by rfl) T.B_isinstance (by rfl) T.B_bool (by decide +kernel))) (qe_one (qe_cmp (op_eqA hr.units) snd_eqA (qe_callTy call_int1 snd_int (by rfl) T.B_int (by decide +kernel) (qa_cons (qe_b 0) qa_nil)).bor (qe_b 1) (nomark _)))))))
  qss_nil)
  (qss_one (qs_ret (qe_and (qe_isi (qe_b 0) (by rfl) T.B_isinstance (by rfl) T.B_str (by decide +kernel)) (qe_one (qe_cmp (op_eqA hr.units) snd_eqA (qe_callTy call_strA snd_str (by rfl) T.B_str (by decide +kernel) (qa_cons (qe_b 0) qa_nil)).bor (qe_b 1) (nomark _))))))))))
theorem at__law_same (T : Txt K mg) : FnAt P w K mg base "_law_same" 8 ["told", "due"] false d__law_same := at__law_same_ 7 T
end
end K01
end
section
set_option Elab.async false
set_option linter.all false
set_option maxRecDepth 100000
set_option maxHeartbeats 1000000
namespace K01
open PySem L2 PySem.Spec PyProof.Rows Q T
section
variable {P : Program} {w : World} {K : PySem.W.Frag} {mg : Str → Option Value} {base : Heap}
/-- _law_roll(cup, many); slots: 0 cup, 1 many, 2 found, 3 deep -/
theorem sc__law_roll : FnScope ["cup", "many", "found", "deep"] ["cup", "many"] (defScope s__law_roll) := ⟨rfl, rfl, rfl, by decide +kernel, rfl, by decide +kernel, by decide +kernel⟩
theorem at__law_roll (T : Txt K mg) : FnAt P w K mg base "_law_roll" 1 ["cup", "many"] false d__law_roll := by
  have S := sc__law_roll
  exact T.D__law_roll.at (N := ["cup", "many", "found", "deep"]) (fr := false) (k := 0) (b := b__law_roll) S fun f cdv A outer s H E hr tk =>
    (qss_cons (qs_if (qt_cmp (op_gtA hr.units) snd_OA (qe_ix (ix_get hr.units) snd_get (qe_b 0) qe_int.bor (fun _ _ => rfl)).bor qe_int.bor (nomark _))
  (qss_cons (qs_set (i := 2) S.nd rfl (by first | exact .inl rfl | exact .inr rfl) (qe_op op_mod snd_mod (qe_callTy call_int1 snd_int (by rfl) T.B_int (by decide +kernel) (qa_cons (qe_ix (ix_get hr.units) snd_get (qe_b 0) qe_int.bor (fun _ _ => rfl)).bor qa_nil)).bor (qe_b 1)))
  (qss_cons (qs_put 0 hr.units (qe_op op_fdiv snd_div (qe_ix (ix_get hr.units) snd_get (qe_b 0) qe_int.bor (fun _ _ => rfl)).bor (qe_b 1)) qe_int.bor)
  (qss_one (qs_ret (qe_v 2)))))
  qss_nil)
  (qss_cons (qs_put 0 hr.units (qe_op op_mod snd_mod (qe_callTy call_int1 snd_int (by rfl) T.B_int (by decide +kernel) (qa_cons (qe_op op_addA snd_add (qe_op op_mulA snd_mulA (qe_ix (ix_get hr.units) snd_get (qe_b 0) qe_int.bor (fun _ _ => rfl)).bor qe_int.bor).bor qe_int.bor).bor qa_nil)).bor qe_int.bor) qe_int.bor)
  (qss_cons (qs_set (i := 3) S.nd rfl (by first | exact .inl rfl | exact .inr rfl) (qe_op op_mod snd_mod (qe_callTy call_int1 snd_int (by rfl) T.B_int (by decide +kernel) (qa_cons (qe_op op_mulA snd_mulA (qe_ix (ix_get hr.units) snd_get (qe_b 0) qe_int.bor (fun _ _ => rfl)).bor (qe_op op_addA snd_add (qe_ix (ix_get hr.units) snd_get (qe_b 0) qe_int.bor (fun _ _ => rfl)).bor qe_int.bor).bor).bor qa_nil)).bor qe_int.bor))
  (qss_one (qs_ret (qe_op op_mod snd_mod (qe_callTy call_int1 snd_int (by rfl) T.B_int (by decide +kernel) (qa_cons (qe_op op_fdiv snd_div (qe_b 3) qe_int.bor).bor qa_nil)).bor (qe_b 1)))))))
end
end K01
end
section
set_option Elab.async false
set_option linter.all false
set_option maxRecDepth 100000
set_option maxHeartbeats 1000000
namespace K01
open PySem L2 PySem.Spec PyProof.Rows Q T
section
variable {P : Program} {w : World} {K : PySem.W.Frag} {mg : Str → Option Value} {base : Heap}
/-- _law_some(cup, things); slots: 0 cup, 1 things -/
theorem sc__law_some : FnScope ["cup", "things"] ["cup", "things"] (defScope s__law_some) := ⟨rfl, rfl, rfl, by decide +kernel, rfl, by decide +kernel, by decide +kernel⟩
theorem at__law_some (T : Txt K mg) : FnAt P w K mg base "_law_some" 2 ["cup", "things"] false d__law_some := by
  have S := sc__law_some
  exact T.D__law_some.at (N := ["cup", "things"]) (fr := false) (k := 1) (b := b__law_some) S fun f cdv A outer s H E hr tk =>
    (qss_one (qs_ret (qe_ix (ix_get hr.units) snd_get (qe_b 1) (qe_call (at__law_roll T) (hr.mono (by decide)) tk (by rfl) (qa_cons (qe_v 0) (qa_cons (qe_callB call_lenA snd_len (by rfl) T.B_len (by decide +kernel) (qa_cons (qe_b 1) qa_nil)) qa_nil))).bor (fun _ _ => rfl))))
end
end K01
end
section
set_option Elab.async false
set_option linter.all false
set_option maxRecDepth 100000
set_option maxHeartbeats 1000000
namespace K01
open PySem L2 PySem.Spec PyProof.Rows Q T
section
variable {P : Program} {w : World} {K : PySem.W.Frag} {mg : Str → Option Value} {base : Heap}
/-- _law_town(cup, most, kinds); slots: 0 cup, 1 most, 2 kinds, 3 corners, 4 known, 5 corner, 6 turn, 7 one, 8 other, 9 streets, 10 pair, 11 kind, 12 pair_told -/
theorem sc__law_town : FnScope ["cup", "most", "kinds", "corners", "known", "corner", "turn", "one", "other", "streets", "pair", "kind", "pair_told"] ["cup", "most", "kinds"] (defScope s__law_town) := ⟨rfl, rfl, rfl, by decide +kernel, rfl, by decide +kernel, by decide +kernel⟩
theorem at__law_town (T : Txt K mg) : FnAt P w K mg base "_law_town" 3 ["cup", "most", "kinds"] false d__law_town := by
  have S := sc__law_town
  exact T.D__law_town.at (N := ["cup", "most", "kinds", "corners", "known", "corner", "turn", "one", "other", "streets", "pair", "kind", "pair_told"]) (fr := false) (k := 2) (b := b__law_town) S fun f cdv A outer s H E hr tk =>
    (qss_cons (qs_par2 3 4 false true rfl S.nd rfl rfl (qe_op op_addA snd_add qe_int.bor (qe_call (at__law_roll T) (hr.mono (by decide)) tk (by rfl) (qa_cons (qe_v 0) (qa_cons (qe_op op_sub snd_sub (qe_b 1) qe_int.bor) qa_nil))).bor) qe_newT rfl)
  (qss_cons (qs_for (passes_of rfl) rfl (qi_range2 (by rfl) T.B_range qe_int (qe_v 3)) (qg_n 5 S.nd rfl (by first | exact .inl rfl | exact .inr rfl))
  (qss_one (qs_if (qt_cmp (op_gtA hr.units) snd_OA (qe_call (at__law_roll T) (hr.mono (by decide)) tk (by rfl) (qa_cons (qe_v 0) (qa_cons qe_int qa_nil))).bor qe_int.bor (nomark _))
  (qss_one (qs_put 4 hr.units (qe_op op_addA snd_add qe_int.bor (qe_call (at__law_roll T) (hr.mono (by decide)) tk (by rfl) (qa_cons (qe_v 0) (qa_cons (qe_call (at__law_some T) (hr.mono (by decide)) tk (by rfl) (qa_cons (qe_v 0) (qa_cons (qe_lst (qa_cons qe_int (qa_cons qe_int qa_nil))).froz qa_nil))) qa_nil))).bor) (qe_tup (qa_cons (qe_call (at__law_roll T) (hr.mono (by decide)) tk (by rfl) (qa_cons (qe_v 0) (qa_cons (qe_v 5) qa_nil))) (qa_cons (qe_v 5) qa_nil))).bor))
  qss_nil)))
  (qss_cons (qs_for (passes_of rfl) rfl (qi_range1 (by rfl) T.B_range (qe_call (at__law_roll T) (hr.mono (by decide)) tk (by rfl) (qa_cons (qe_v 0) (qa_cons qe_int qa_nil)))) (qg_n 6 S.nd rfl (by first | exact .inl rfl | exact .inr rfl))
  (qss_cons (qs_par2 7 8 false false rfl S.nd rfl rfl (qe_call (at__law_roll T) (hr.mono (by decide)) tk (by rfl) (qa_cons (qe_v 0) (qa_cons (qe_v 3) qa_nil))) (qe_call (at__law_roll T) (hr.mono (by decide)) tk (by rfl) (qa_cons (qe_v 0) (qa_cons (qe_v 3) qa_nil))) rfl)
  (qss_one (qs_if (qw_and (qt_cmp (op_ltA hr.units) snd_OA (qe_b 7) (qe_b 8) (nomark _)) (qw_and1 (qt_cmp (op_ltA hr.units) snd_OA (qe_callB call_lenA snd_len (by rfl) T.B_len (by decide +kernel) (qa_cons (qe_b 4) qa_nil)).bor qe_int.bor (nomark _)))).qt
  (qss_one (qs_put 4 hr.units (qe_op op_addA snd_add qe_int.bor (qe_call (at__law_roll T) (hr.mono (by decide)) tk (by rfl) (qa_cons (qe_v 0) (qa_cons qe_int qa_nil))).bor) (qe_tup (qa_cons (qe_v 7) (qa_cons (qe_v 8) qa_nil))).bor))
  qss_nil))))
  (qss_cons (qs_if (qt_cmp (op_eqA hr.units) snd_eqA (qe_b 4) qe_newK.bor (nomark _))
  (qss_one (qs_put 4 hr.units (qe_op op_addA snd_add qe_int.bor (qe_call (at__law_roll T) (hr.mono (by decide)) tk (by rfl) (qa_cons (qe_v 0) (qa_cons qe_int qa_nil))).bor) (qe_tup (qa_cons qe_int (qa_cons qe_int qa_nil))).bor))
  qss_nil)
  (qss_cons (qs_own (i := 9) S.nd rfl (by first | exact .inl rfl | exact .inr rfl) (qe_lst qa_nil))
  (qss_cons (qs_for (passes_of rfl) rfl (qi_any (qe_callB (cr_sortS rfl hr.units) snd_sort (by rfl) T.B_sorted (by decide +kernel) (qa_cons (qe_b 4) qa_nil)).froz) (qg_n 10 S.nd rfl (by first | exact .inl rfl | exact .inr rfl))
  (qss_cons (qs_set (i := 11) S.nd rfl (by first | exact .inl rfl | exact .inr rfl) (qe_call (at__law_some T) (hr.mono (by decide)) tk (by rfl) (qa_cons (qe_v 0) (qa_cons (qe_v 2) qa_nil))))
  (qss_cons (qs_set (i := 12) S.nd rfl (by first | exact .inl rfl | exact .inr rfl) (qe_if (qw_and (qt_cmp (op_eqA hr.units) snd_eqA (qe_b 11) qe_str.bor (nomark _)) (qw_and1 (qt_cmp (op_eqA hr.units) snd_eqA (qe_call (at__law_roll T) (hr.mono (by decide)) tk (by rfl) (qa_cons (qe_v 0) (qa_cons qe_int qa_nil))).bor qe_int.bor (nomark _)))).qt (qe_rev (qe_b 10) qo_none) (qe_v 10)))
  (qss_one (qs_meth 9 sm_append PySem.F.slot_list_append PySem.F.type_list_append mt_append (qa_cons (qe_op op_addA snd_add (qe_b 12) (qe_tup (qa_cons (qe_ix (ix_get hr.units) snd_get (qe_b 4) (qe_b 10) (fun _ _ => rfl)) (qa_cons (qe_v 11) qa_nil))).bor) qa_nil))))))
  (qss_one (qs_ret (qe_tup (qa_cons (qe_v 3) (qa_cons (qe_callTy call_tuple_of snd_tupleOf (by rfl) T.B_tuple (by decide +kernel) (qa_cons (qe_callB (cr_sortS rfl hr.units) snd_sort (by rfl) T.B_sorted (by decide +kernel) (qa_cons (qe_b 9) qa_nil)).bor qa_nil)) qa_nil)))))))))))
end
end K01
end
section
set_option Elab.async false
set_option linter.all false
set_option maxRecDepth 100000
set_option maxHeartbeats 1000000
namespace K01
open PySem L2 PySem.Spec PyProof.Rows Q T
section
variable {P : Program} {w : World} {K : PySem.W.Frag} {mg : Str → Option Value} {base : Heap}
/-- is_tuple_of(value, least, most); slots: 0 value, 1 least, 2 most -/
theorem sc_is_tuple_of : FnScope ["value", "least", "most"] ["value", "least", "most"] (defScope s_is_tuple_of) := ⟨rfl, rfl, rfl, by decide +kernel, rfl, by decide +kernel, by decide +kernel⟩
theorem at_is_tuple_of (T : Txt K mg) : FnAt P w K mg base "is_tuple_of" 1 ["value", "least", "most"] false d_is_tuple_of := by
  have S := sc_is_tuple_of
  exact T.D_is_tuple_of.at (N := ["value", "least", "most"]) (fr := false) (k := 0) (b := b_is_tuple_of) S fun f cdv A outer s H E hr tk =>
    (qss_one (qs_ret (qe_and (qe_isi (qe_b 0) (by rfl) T.B_isinstance (by rfl) T.B_tuple (by decide +kernel)) (qe_one (qe_chain (op_leA hr.units) (op_leA hr.units) snd_OA snd_OA (qe_b 1) (qe_callB call_lenA snd_len (by rfl) T.B_len (by decide +kernel) (qa_cons (qe_b 0) qa_nil)).bor (qe_b 2))))))
end
end K01
end
section
set_option Elab.async false
set_option linter.all false
set_option maxRecDepth 100000
set_option maxHeartbeats 1000000
namespace K01
open PySem L2 PySem.Spec PyProof.Rows Q T
section
variable {P : Program} {w : World} {K : PySem.W.Frag} {mg : Str → Option Value} {base : Heap}
/-- is_whole(value, least, most); slots: 0 value, 1 least, 2 most -/
theorem sc_is_whole : FnScope ["value", "least", "most"] ["value", "least", "most"] (defScope s_is_whole) := ⟨rfl, rfl, rfl, by decide +kernel, rfl, by decide +kernel, by decide +kernel⟩
theorem at_is_whole (T : Txt K mg) : FnAt P w K mg base "is_whole" 1 ["value", "least", "most"] false d_is_whole := by
  have S := sc_is_whole
  exact T.D_is_whole.at (N := ["value", "least", "most"]) (fr := false) (k := 0) (b := b_is_whole) S fun f cdv A outer s H E hr tk =>
    (qss_one (qs_ret (qe_and (qe_isi (qe_b 0) (by rfl) T.B_isinstance (by rfl) T.B_int (by decide +kernel)) (qe_and (qe_not (qe_isi (qe_b 0) (by rfl) T.B_isinstance (by rfl) T.B_bool (by decide +kernel))) (qe_one (qe_chain (op_leA hr.units) (op_leA hr.units) snd_OA snd_OA (qe_b 1) (qe_b 0) (qe_b 2)))))))
end
end K01
end
section
set_option Elab.async false
set_option linter.all false
set_option maxRecDepth 100000
set_option maxHeartbeats 1000000
namespace K01
open PySem L2 PySem.Spec PyProof.Rows Q T
section
variable {P : Program} {w : World} {K : PySem.W.Frag} {mg : Str → Option Value} {base : Heap}
/-- fits_street(corners, value); slots: 0 corners, 1 value, 2 one -/
theorem sc_fits_street : FnScope ["corners", "value", "one"] ["corners", "value"] (defScope s_fits_street) := ⟨rfl, rfl, rfl, by decide +kernel, rfl, by decide +kernel, by decide +kernel⟩
theorem at_fits_street (T : Txt K mg) : FnAt P w K mg base "fits_street" 2 ["corners", "value"] false d_fits_street := by
  have S := sc_fits_street
  exact T.D_fits_street.at (N := ["corners", "value", "one"]) (fr := false) (k := 1) (b := b_fits_street) S fun f cdv A outer s H E hr tk =>
    (qss_cons (qs_if (qw_or (qt_not (qt_val (qe_call (at_is_tuple_of T) (hr.mono (by decide)) tk (by rfl) (qa_cons (qe_v 1) (qa_cons qe_int (qa_cons qe_int qa_nil)))))) (qw_or1 (qt_not (qt_val (qe_callB (cr_all rfl) snd_all (by rfl) T.B_all (by decide +kernel) (qa_cons (qe_lc (own := [("one", 2)]) rfl S.nd (qi_any (qe_slice (qe_b 1) qo_none (qo_some qe_int))) (blkOk_by (N := ["corners", "value", "one"]) (sc := defScope s_fits_street) (by decide +kernel)) (fun _ => (qg_n 2 S.nd rfl (by first | exact .inl rfl | exact .inr rfl))) (fun _ => qts_nil) (fun _ => (qe_call (at_is_whole T) (hr.mono (by decide)) takes0 (by rfl) (qa_cons (qe_v 2) (qa_cons qe_int (qa_cons (qe_op op_sub snd_sub (qe_b 0) qe_int.bor) qa_nil)))))).bor qa_nil)))))).qt
  (qss_one (qs_ret qe_bl))
  qss_nil)
  (qss_cons (qs_if (qw_or (qt_not (qt_val (qe_call (at_is_whole T) (hr.mono (by decide)) tk (by rfl) (qa_cons (qe_ix (ix_get hr.units) snd_get (qe_b 1) qe_int.bor (fun _ _ => rfl)) (qa_cons qe_int (qa_cons (qe_globI (by rfl) T.G_LENGTH.choose_spec) qa_nil)))))) (qw_or (qt_not (qt_val (qe_isi (qe_ix (ix_get hr.units) snd_get (qe_b 1) qe_int.bor (fun _ _ => rfl)).bor (by rfl) T.B_isinstance (by rfl) T.B_str (by decide +kernel)))) (qw_or1 (qt_cmp (op_ninA hr.units) snd_inA (qe_ix (ix_get hr.units) snd_get (qe_b 1) qe_int.bor (fun _ _ => rfl)).bor (qe_globT (by rfl) T.G_KINDS.choose_spec.1 T.G_KINDS.choose_spec.2 (fun _ _ => kr_KINDS)).bor (by rfl))))).qt
  (qss_one (qs_ret qe_bl))
  qss_nil)
  (qss_one (qs_ret (qe_or (qe_cmp (op_ltA hr.units) snd_OA (qe_ix (ix_get hr.units) snd_get (qe_b 1) qe_int.bor (fun _ _ => rfl)).bor (qe_ix (ix_get hr.units) snd_get (qe_b 1) qe_int.bor (fun _ _ => rfl)).bor (nomark _)) (qe_one (qe_and (qe_cmp (op_eqA hr.units) snd_eqA (qe_ix (ix_get hr.units) snd_get (qe_b 1) qe_int.bor (fun _ _ => rfl)).bor qe_str.bor (nomark _)) (qe_one (qe_cmp (op_neA hr.units) snd_neA (qe_ix (ix_get hr.units) snd_get (qe_b 1) qe_int.bor (fun _ _ => rfl)).bor (qe_ix (ix_get hr.units) snd_get (qe_b 1) qe_int.bor (fun _ _ => rfl)).bor (nomark _))))))))))
end
end K01
end
section
set_option Elab.async false
set_option linter.all false
set_option maxRecDepth 100000
set_option maxHeartbeats 1000000
namespace K01
open PySem L2 PySem.Spec PyProof.Rows Q T
section
variable {P : Program} {w : World} {K : PySem.W.Frag} {mg : Str → Option Value} {base : Heap}
/-- fits_town(value); slots: 0 value, 1 ends, 2 street, 3 one, 4 other -/
theorem sc_fits_town : FnScope ["value", "ends", "street", "one", "other"] ["value"] (defScope s_fits_town) := ⟨rfl, rfl, rfl, by decide +kernel, rfl, by decide +kernel, by decide +kernel⟩
theorem at_fits_town (T : Txt K mg) : FnAt P w K mg base "fits_town" 3 ["value"] false d_fits_town := by
  have S := sc_fits_town
  exact T.D_fits_town.at (N := ["value", "ends", "street", "one", "other"]) (fr := false) (k := 2) (b := b_fits_town) S fun f cdv A outer s H E hr tk =>
    (qss_cons (qs_if (qw_or (qt_not (qt_val (qe_call (at_is_tuple_of T) (hr.mono (by decide)) tk (by rfl) (qa_cons (qe_v 0) (qa_cons qe_int (qa_cons qe_int qa_nil)))))) (qw_or (qt_not (qt_val (qe_call (at_is_whole T) (hr.mono (by decide)) tk (by rfl) (qa_cons (qe_ix (ix_get hr.units) snd_get (qe_b 0) qe_int.bor (fun _ _ => rfl)) (qa_cons qe_int (qa_cons (qe_globI (by rfl) T.G_CORNERS.choose_spec) qa_nil)))))) (qw_or1 (qt_not (qt_val (qe_call (at_is_tuple_of T) (hr.mono (by decide)) tk (by rfl) (qa_cons (qe_ix (ix_get hr.units) snd_get (qe_b 0) qe_int.bor (fun _ _ => rfl)) (qa_cons qe_int (qa_cons (qe_globI (by rfl) T.G_STREETS.choose_spec) qa_nil))))))))).qt
  (qss_one (qs_ret qe_bl))
  qss_nil)
  (qss_cons (qs_if (qt_not (qt_val (qe_callB (cr_all rfl) snd_all (by rfl) T.B_all (by decide +kernel) (qa_cons (qe_lc (own := [("street", 2)]) rfl S.nd (qi_any (qe_ix (ix_get hr.units) snd_get (qe_b 0) qe_int.bor (fun _ _ => rfl))) (blkOk_by (N := ["value", "ends", "street", "one", "other"]) (sc := defScope s_fits_town) (by decide +kernel)) (fun _ => (qg_n 2 S.nd rfl (by first | exact .inl rfl | exact .inr rfl))) (fun _ => qts_nil) (fun _ => (qe_call (at_fits_street T) (hr.mono (by decide)) takes0 (by rfl) (qa_cons (qe_ix (ix_get hr.units) snd_get (qe_b 0) qe_int.bor (fun _ _ => rfl)) (qa_cons (qe_v 2) qa_nil))))).bor qa_nil))))
  (qss_one (qs_ret qe_bl))
  qss_nil)
  (qss_cons (qs_setLcF (own := [("street", 2)]) (i := 1) rfl S.nd rfl (qi_any (qe_ix (ix_get hr.units) snd_get (qe_b 0) qe_int.bor (fun _ _ => rfl))) (blkOk_by (N := ["value", "ends", "street", "one", "other"]) (sc := defScope s_fits_town) (by decide +kernel)) (fun _ => (qg_n 2 S.nd rfl (by first | exact .inl rfl | exact .inr rfl))) (fun _ => qts_nil) (fun _ => (qe_tup (qa_cons (qe_callB (cr_minA rfl hr.units) snd_min (by rfl) T.B_min (by decide +kernel) (qa_cons (qe_slice (qe_b 2) qo_none (qo_some qe_int)).bor qa_nil)) (qa_cons (qe_callB (cr_maxA rfl hr.units) snd_max (by rfl) T.B_max (by decide +kernel) (qa_cons (qe_slice (qe_b 2) qo_none (qo_some qe_int)).bor qa_nil)) qa_nil)))))
  (qss_one (qs_ret (qe_and (qe_cmp (op_eqA hr.units) snd_eqA (qe_lenSet rfl hr.units (by rfl) T.B_len (by rfl) T.B_set (qe_b 1)).bor (qe_callB call_lenA snd_len (by rfl) T.B_len (by decide +kernel) (qa_cons (qe_b 1) qa_nil)).bor (nomark _)) (qe_one (qe_callB (cr_all rfl) snd_all (by rfl) T.B_all (by decide +kernel) (qa_cons (qe_lc (own := [("one", 3), ("other", 4)]) rfl S.nd (qi_zipXB (by rfl) T.B_zip (qe_ix (ix_get hr.units) snd_get (qe_b 0) qe_int.bor (fun _ _ => rfl)).bor (qe_slice (qe_ix (ix_get hr.units) snd_get (qe_b 0) qe_int.bor (fun _ _ => rfl)).bor (qo_some qe_int) qo_none).bor) (blkOk_by (N := ["value", "ends", "street", "one", "other"]) (sc := defScope s_fits_town) (by decide +kernel)) (fun _ => (qg_t rfl (qgs_cons (qg_n 3 S.nd rfl (by first | exact .inl rfl | exact .inr rfl)) (qgs_cons (qg_n 4 S.nd rfl (by first | exact .inl rfl | exact .inr rfl)) qgs_nil)) (pl_cons (pl_cons pl_nil)))) (fun _ => qts_nil) (fun _ => (qe_cmp (op_ltA hr.units) snd_OA (qe_b 3) (qe_b 4) (nomark _)))).bor qa_nil)))))))))
end
end K01
end
section
set_option Elab.async false
set_option linter.all false
set_option maxRecDepth 100000
set_option maxHeartbeats 1000000
namespace K01
open PySem L2 PySem.Spec PyProof.Rows Q T
section
variable {P : Program} {w : World} {K : PySem.W.Frag} {mg : Str → Option Value} {base : Heap}
/-- need_town(town); slots: 0 town -/
theorem sc_need_town : FnScope ["town"] ["town"] (defScope s_need_town) := ⟨rfl, rfl, rfl, by decide +kernel, rfl, by decide +kernel, by decide +kernel⟩
theorem at_need_town (T : Txt K mg) : FnAt P w K mg base "need_town" 4 ["town"] false d_need_town := by
  have S := sc_need_town
  exact T.D_need_town.at (N := ["town"]) (fr := false) (k := 3) (b := b_need_town) S fun f cdv A outer s H E hr tk =>
    (qss_one (qs_if (qt_not (qt_val (qe_call (at_fits_town T) (hr.mono (by decide)) tk (by rfl) (qa_cons (qe_v 0) qa_nil))))
  (qss_one (qs_raiseC rfl tk T.C_InvalidTown (by rfl)))
  qss_nil))
end
end K01
end
section
set_option Elab.async false
set_option linter.all false
set_option maxRecDepth 100000
set_option maxHeartbeats 1000000
namespace K01
open PySem L2 PySem.Spec PyProof.Rows Q T
section
variable {P : Program} {w : World} {K : PySem.W.Frag} {mg : Str → Option Value} {base : Heap}
/-- need_corner(town, corner); slots: 0 town, 1 corner -/
theorem sc_need_corner : FnScope ["town", "corner"] ["town", "corner"] (defScope s_need_corner) := ⟨rfl, rfl, rfl, by decide +kernel, rfl, by decide +kernel, by decide +kernel⟩
theorem at_need_corner (T : Txt K mg) : FnAt P w K mg base "need_corner" 2 ["town", "corner"] false d_need_corner := by
  have S := sc_need_corner
  exact T.D_need_corner.at (N := ["town", "corner"]) (fr := false) (k := 1) (b := b_need_corner) S fun f cdv A outer s H E hr tk =>
    (qss_one (qs_if (qt_not (qt_val (qe_call (at_is_whole T) (hr.mono (by decide)) tk (by rfl) (qa_cons (qe_v 1) (qa_cons qe_int (qa_cons (qe_op op_sub snd_sub (qe_ix (ix_get hr.units) snd_get (qe_b 0) qe_int.bor (fun _ _ => rfl)).bor qe_int.bor) qa_nil))))))
  (qss_one (qs_raiseC rfl tk T.C_InvalidCorner (by rfl)))
  qss_nil))
end
end K01
end
section
set_option Elab.async false
set_option linter.all false
set_option maxRecDepth 100000
set_option maxHeartbeats 1000000
namespace K01
open PySem L2 PySem.Spec PyProof.Rows Q T
section
variable {P : Program} {w : World} {K : PySem.W.Frag} {mg : Str → Option Value} {base : Heap}
/-- need_at(town, corner); slots: 0 town, 1 corner -/
theorem sc_need_at : FnScope ["town", "corner"] ["town", "corner"] (defScope s_need_at) := ⟨rfl, rfl, rfl, by decide +kernel, rfl, by decide +kernel, by decide +kernel⟩
theorem at_need_at (T : Txt K mg) : FnAt P w K mg base "need_at" 5 ["town", "corner"] false d_need_at := by
  have S := sc_need_at
  exact T.D_need_at.at (N := ["town", "corner"]) (fr := false) (k := 4) (b := b_need_at) S fun f cdv A outer s H E hr tk =>
    (qss_cons (qs_expr (qe_call (at_need_town T) (hr.mono (by decide)) tk (by rfl) (qa_cons (qe_v 0) qa_nil)).bor)
  (qss_one (qs_expr (qe_call (at_need_corner T) (hr.mono (by decide)) tk (by rfl) (qa_cons (qe_v 0) (qa_cons (qe_v 1) qa_nil))).bor)))
end
end K01
end
section
set_option Elab.async false
set_option linter.all false
set_option maxRecDepth 100000
set_option maxHeartbeats 1000000
namespace K01
open PySem L2 PySem.Spec PyProof.Rows Q T
section
variable {P : Program} {w : World} {K : PySem.W.Frag} {mg : Str → Option Value} {base : Heap}
/-- steps_in(town); slots: 0 town, 1 found, 2 at, 3 one, 4 other, 5 length, 6 kind -/
theorem sc_steps_in : FnScope ["town", "found", "at", "one", "other", "length", "kind"] ["town"] (defScope s_steps_in) := ⟨rfl, rfl, rfl, by decide +kernel, rfl, by decide +kernel, by decide +kernel⟩
theorem at_steps_in (T : Txt K mg) : FnAt P w K mg base "steps_in" 1 ["town"] false d_steps_in := by
  have S := sc_steps_in
  exact T.D_steps_in.at (N := ["town", "found", "at", "one", "other", "length", "kind"]) (fr := false) (k := 0) (b := b_steps_in) S fun f cdv A outer s H E hr tk =>
    (qss_cons (qs_own (i := 1) S.nd rfl (by first | exact .inl rfl | exact .inr rfl) qe_newT)
  (qss_cons (qs_for (passes_of rfl) rfl (qi_enum (by rfl) T.B_enumerate (qe_ix (ix_get hr.units) snd_get (qe_b 0) qe_int.bor (fun _ _ => rfl))) (qg_t rfl (qgs_cons (qg_n 2 S.nd rfl (by first | exact .inl rfl | exact .inr rfl)) (qgs_cons (qg_t rfl (qgs_cons (qg_n 3 S.nd rfl (by first | exact .inl rfl | exact .inr rfl)) (qgs_cons (qg_n 4 S.nd rfl (by first | exact .inl rfl | exact .inr rfl)) (qgs_cons (qg_n 5 S.nd rfl (by first | exact .inl rfl | exact .inr rfl)) (qgs_cons (qg_n 6 S.nd rfl (by first | exact .inl rfl | exact .inr rfl)) qgs_nil)))) (pl_cons (pl_cons (pl_cons (pl_cons pl_nil))))) qgs_nil)) (pl_cons (pl_cons pl_nil)))
  (qss_cons (qs_put 1 hr.units (qe_v 2) (qe_tup (qa_cons (qe_v 3) (qa_cons (qe_v 4) qa_nil))).bor)
  (qss_one (qs_if (qt_cmp (op_neA hr.units) snd_neA (qe_b 6) qe_str.bor (nomark _))
  (qss_one (qs_put 1 hr.units (qe_v 2) (qe_tup (qa_cons (qe_v 4) (qa_cons (qe_v 3) qa_nil))).bor))
  qss_nil))))
  (qss_one (qs_frz (qs_ret (qe_v 1))))))
end
end K01
end
section
set_option Elab.async false
set_option linter.all false
set_option maxRecDepth 100000
set_option maxHeartbeats 1000000
namespace K01
open PySem L2 PySem.Spec PyProof.Rows Q T
section
variable {P : Program} {w : World} {K : PySem.W.Frag} {mg : Str → Option Value} {base : Heap}
/-- nexts_in(town, corner); slots: 0 town, 1 corner, 2 steps, 3 one, 4 other -/
theorem sc_nexts_in : FnScope ["town", "corner", "steps", "one", "other"] ["town", "corner"] (defScope s_nexts_in) := ⟨rfl, rfl, rfl, by decide +kernel, rfl, by decide +kernel, by decide +kernel⟩
theorem at_nexts_in (T : Txt K mg) : FnAt P w K mg base "nexts_in" 2 ["town", "corner"] false d_nexts_in := by
  have S := sc_nexts_in
  exact T.D_nexts_in.at (N := ["town", "corner", "steps", "one", "other"]) (fr := false) (k := 1) (b := b_nexts_in) S fun f cdv A outer s H E hr tk =>
    (qss_cons (qs_set (i := 2) S.nd rfl (by first | exact .inl rfl | exact .inr rfl) (qe_call (at_steps_in T) (hr.mono (by decide)) tk (by rfl) (qa_cons (qe_v 0) qa_nil)))
  (qss_one (qs_ret (qe_callB (cr_sortS rfl hr.units) snd_sort (by rfl) T.B_sorted (by decide +kernel) (qa_cons (qe_lc (own := [("one", 3), ("other", 4)]) rfl S.nd (qi_any (qe_v 2)) (blkOk_by (N := ["town", "corner", "steps", "one", "other"]) (sc := defScope s_nexts_in) (by decide +kernel)) (fun _ => (qg_t rfl (qgs_cons (qg_n 3 S.nd rfl (by first | exact .inl rfl | exact .inr rfl)) (qgs_cons (qg_n 4 S.nd rfl (by first | exact .inl rfl | exact .inr rfl)) qgs_nil)) (pl_cons (pl_cons pl_nil)))) (fun _ => (qts_one (qt_cmp (op_eqA hr.units) snd_eqA (qe_b 3) (qe_b 1) (nomark _)))) (fun _ => (qe_tup (qa_cons (qe_v 4) (qa_cons (qe_ix (ix_get hr.units) snd_get (qe_ix (ix_get hr.units) snd_get (qe_ix (ix_get hr.units) snd_get (qe_b 0) qe_int.bor (fun _ _ => rfl)).bor (qe_ix (ix_get hr.units) snd_get (qe_b 2) (qe_tup (qa_cons (qe_v 3) (qa_cons (qe_v 4) qa_nil))).bor (fun _ _ => rfl)).bor (fun _ _ => rfl)).bor qe_int.bor (fun _ _ => rfl)) qa_nil))))).bor qa_nil)).froz)))
end
end K01
end
section
set_option Elab.async false
set_option linter.all false
set_option maxRecDepth 100000
set_option maxHeartbeats 1000000
namespace K01
open PySem L2 PySem.Spec PyProof.Rows Q T
section
variable {P : Program} {w : World} {K : PySem.W.Frag} {mg : Str → Option Value} {base : Heap}
/-- far_in(town, corner); slots: 0 town, 1 corner, 2 found, 3 left, 4 here, 5 other, 6 length, 7 one -/
theorem sc_far_in : FnScope ["town", "corner", "found", "left", "here", "other", "length", "one"] ["town", "corner"] (defScope s_far_in) := ⟨rfl, rfl, rfl, by decide +kernel, rfl, by decide +kernel, by decide +kernel⟩
theorem at_far_in (T : Txt K mg) : FnAt P w K mg base "far_in" 3 ["town", "corner"] false d_far_in := by
  have S := sc_far_in
  exact T.D_far_in.at (N := ["town", "corner", "found", "left", "here", "other", "length", "one"]) (fr := false) (k := 2) (b := b_far_in) S fun f cdv A outer s H E hr tk =>
    (qss_cons (qs_par2T 2 3 true true rfl S.nd (by first | exact .inl rfl | exact .inr rfl) (by first | exact .inl rfl | exact .inr rfl) qe_newK (qe_disp (qps_cons (qe_v 1) qe_int qps_nil)))
  (qss_cons (qs_while 2000 (passes_of rfl) (qt_cmp (op_neA hr.units) snd_neA (qe_b 3) qe_newK.bor (nomark _))
  (qss_cons (qs_set (i := 4) S.nd rfl (by first | exact .inl rfl | exact .inr rfl) (qe_ix (ix_get hr.units) snd_get (qe_callB (cr_minA rfl hr.units) snd_min (by rfl) T.B_min (by decide +kernel) (qa_cons (qe_dPairs 3 7 hr.units rfl S.nd (blkOk_by (N := ["town", "corner", "found", "left", "here", "other", "length", "one"]) (sc := defScope s_far_in) (by decide +kernel))).bor qa_nil)).bor qe_int.bor (fun _ _ => rfl)))
  (qss_cons (qs_putPop 2 3 hr.units (qe_b 4) (qe_b 4))
  (qss_one (qs_for (passes_of rfl) rfl (qi_any (qe_call (at_nexts_in T) (hr.mono (by decide)) tk (by rfl) (qa_cons (qe_v 0) (qa_cons (qe_v 4) qa_nil)))) (qg_t rfl (qgs_cons (qg_n 5 S.nd rfl (by first | exact .inl rfl | exact .inr rfl)) (qgs_cons (qg_n 6 S.nd rfl (by first | exact .inl rfl | exact .inr rfl)) qgs_nil)) (pl_cons (pl_cons pl_nil)))
  (qss_one (qs_if (qt_cmp (op_ninA hr.units) snd_inA (qe_b 5) (qe_b 2) (by rfl))
  (qss_one (qs_put 3 hr.units (qe_callB (call_min2 rfl) snd_min2 (by rfl) T.B_min (by decide +kernel) (qa_cons (qe_op op_addA snd_add (qe_ix (ix_get hr.units) snd_get (qe_b 2) (qe_b 4) (fun _ _ => rfl)).bor (qe_b 6)).bor (qa_cons (qe_get2 hr.units (qe_b 3) (qe_v 5) (qe_op op_addA snd_add (qe_ix (ix_get hr.units) snd_get (qe_b 2) (qe_b 4) (fun _ _ => rfl)).bor (qe_b 6))).bor qa_nil))) (qe_b 5)))
  qss_nil)))))))
  (qss_one (qs_frz (qs_ret (qe_v 2))))))
end
end K01
end
section
set_option Elab.async false
set_option linter.all false
set_option maxRecDepth 100000
set_option maxHeartbeats 1000000
namespace K01
open PySem L2 PySem.Spec PyProof.Rows Q T
section
variable {P : Program} {w : World} {K : PySem.W.Frag} {mg : Str → Option Value} {base : Heap}
/-- distance(town, one, other); slots: 0 town, 1 one, 2 other -/
theorem sc_distance : FnScope ["town", "one", "other"] ["town", "one", "other"] (defScope s_distance) := ⟨rfl, rfl, rfl, by decide +kernel, rfl, by decide +kernel, by decide +kernel⟩
theorem at_distance (T : Txt K mg) : FnAt P w K mg base "distance" 6 ["town", "one", "other"] false d_distance := by
  have S := sc_distance
  exact T.D_distance.at (N := ["town", "one", "other"]) (fr := false) (k := 5) (b := b_distance) S fun f cdv A outer s H E hr tk =>
    (qss_cons (qs_expr (qe_call (at_need_at T) (hr.mono (by decide)) tk (by rfl) (qa_cons (qe_v 0) (qa_cons (qe_v 1) qa_nil))).bor)
  (qss_cons (qs_expr (qe_call (at_need_corner T) (hr.mono (by decide)) tk (by rfl) (qa_cons (qe_v 0) (qa_cons (qe_v 2) qa_nil))).bor)
  (qss_one (qs_ret (qe_get1 hr.units (qe_call (at_far_in T) (hr.mono (by decide)) tk (by rfl) (qa_cons (qe_v 0) (qa_cons (qe_v 1) qa_nil))).bor (qe_v 2))))))
end
end K01
end
section
set_option Elab.async false
set_option linter.all false
set_option maxRecDepth 100000
set_option maxHeartbeats 1000000
namespace K01
open PySem L2 PySem.Spec PyProof.Rows Q T
section
variable {P : Program} {w : World} {K : PySem.W.Frag} {mg : Str → Option Value} {base : Heap}
/-- shortest_drive(town, one, other); slots: 0 town, 1 one, 2 other, 3 found, 4 here, 5 left, 6 ways, 7 corner, 8 length, 9 far -/
theorem sc_shortest_drive : FnScope ["town", "one", "other", "found", "here", "left", "ways", "corner", "length", "far"] ["town", "one", "other"] (defScope s_shortest_drive) := ⟨rfl, rfl, rfl, by decide +kernel, rfl, by decide +kernel, by decide +kernel⟩
theorem at_shortest_drive (T : Txt K mg) : FnAt P w K mg base "shortest_drive" 6 ["town", "one", "other"] false d_shortest_drive := by
  have S := sc_shortest_drive
  exact T.D_shortest_drive.at (N := ["town", "one", "other", "found", "here", "left", "ways", "corner", "length", "far"]) (fr := false) (k := 5) (b := b_shortest_drive) S fun f cdv A outer s H E hr tk =>
    (qss_cons (qs_expr (qe_call (at_need_at T) (hr.mono (by decide)) tk (by rfl) (qa_cons (qe_v 0) (qa_cons (qe_v 1) qa_nil))).bor)
  (qss_cons (qs_expr (qe_call (at_need_corner T) (hr.mono (by decide)) tk (by rfl) (qa_cons (qe_v 0) (qa_cons (qe_v 2) qa_nil))).bor)
  (qss_cons (qs_if (qt_cmp (op_ninA hr.units) snd_inA (qe_b 2) (qe_call (at_far_in T) (hr.mono (by decide)) tk (by rfl) (qa_cons (qe_v 0) (qa_cons (qe_v 1) qa_nil))).bor (by rfl))
  (qss_one (qs_ret qe_non))
  qss_nil)
  (qss_cons (qs_set (i := 3) S.nd rfl (by first | exact .inl rfl | exact .inr rfl) (qe_tup (qa_cons (qe_v 1) qa_nil)))
  (qss_cons (qs_while 2000 (passes_of rfl) (qt_cmp (op_neA hr.units) snd_neA (qe_ix (ix_get hr.units) snd_get (qe_b 3) (qe_un un_neg snd_neg qe_int.bor).bor (fun _ _ => rfl)).bor (qe_b 2) (nomark _))
  (qss_cons (qs_asg (qe_tup (qa_cons (qe_ix (ix_get hr.units) snd_get (qe_b 3) (qe_un un_neg snd_neg qe_int.bor).bor (fun _ _ => rfl)) (qa_cons (qe_ix (ix_get hr.units) snd_get (qe_call (at_far_in T) (hr.mono (by decide)) tk (by rfl) (qa_cons (qe_v 0) (qa_cons (qe_ix (ix_get hr.units) snd_get (qe_b 3) (qe_un un_neg snd_neg qe_int.bor).bor (fun _ _ => rfl)) qa_nil))).bor (qe_b 2) (fun _ _ => rfl)) qa_nil))) (qg_t rfl (qgs_cons (qg_n 4 S.nd rfl (by first | exact .inl rfl | exact .inr rfl)) (qgs_cons (qg_n 5 S.nd rfl (by first | exact .inl rfl | exact .inr rfl)) qgs_nil)) (pl_cons (pl_cons pl_nil))))
  (qss_cons (qs_setLcF (own := [("corner", 7), ("length", 8)]) (i := 6) rfl S.nd rfl (qi_any (qe_call (at_nexts_in T) (hr.mono (by decide)) tk (by rfl) (qa_cons (qe_v 0) (qa_cons (qe_v 4) qa_nil)))) (blkOk_by (N := ["town", "one", "other", "found", "here", "left", "ways", "corner", "length", "far"]) (sc := defScope s_shortest_drive) (by decide +kernel)) (fun _ => (qg_t rfl (qgs_cons (qg_n 7 S.nd rfl (by first | exact .inl rfl | exact .inr rfl)) (qgs_cons (qg_n 8 S.nd rfl (by first | exact .inl rfl | exact .inr rfl)) qgs_nil)) (pl_cons (pl_cons pl_nil)))) (fun _ => qts_nil) (fun _ => (qe_tup (qa_cons (qe_v 7) (qa_cons (qe_get1 hr.units (qe_call (at_far_in T) (hr.mono (by decide)) takes0 (by rfl) (qa_cons (qe_v 0) (qa_cons (qe_v 7) qa_nil))).bor (qe_v 2)) (qa_cons (qe_v 8) qa_nil))))))
  (qss_one (qs_aug 3 S.nd (by first | exact .inl rfl | exact .inr rfl) iop_catA snd_iaddT (qe_tup (qa_cons (qe_ix (ix_get hr.units) snd_get (qe_lc (own := [("corner", 7), ("far", 9), ("length", 8)]) rfl S.nd (qi_any (qe_v 6)) (blkOk_by (N := ["town", "one", "other", "found", "here", "left", "ways", "corner", "length", "far"]) (sc := defScope s_shortest_drive) (by decide +kernel)) (fun _ => (qg_t rfl (qgs_cons (qg_n 7 S.nd rfl (by first | exact .inl rfl | exact .inr rfl)) (qgs_cons (qg_n 9 S.nd rfl (by first | exact .inl rfl | exact .inr rfl)) (qgs_cons (qg_n 8 S.nd rfl (by first | exact .inl rfl | exact .inr rfl)) qgs_nil))) (pl_cons (pl_cons (pl_cons pl_nil))))) (fun _ => (qts_one (qw_and (qt_cmp op_notN snd_notN (qe_b 9) qe_non.bor (nomark _)) (qw_and1 (qt_cmp (op_eqA hr.units) snd_eqA (qe_op op_addA snd_add (qe_b 9) (qe_b 8)).bor (qe_b 5) (nomark _)))).qt)) (fun _ => (qe_v 7))).bor qe_int.bor (fun _ _ => rfl)) qa_nil)).bor)))))
  (qss_one (qs_ret (qe_v 3))))))))
end
end K01
end
section
set_option Elab.async false
set_option linter.all false
set_option maxRecDepth 100000
set_option maxHeartbeats 1000000
namespace K01
open PySem L2 PySem.Spec PyProof.Rows Q T
section
variable {P : Program} {w : World} {K : PySem.W.Frag} {mg : Str → Option Value} {base : Heap}
/-- _law_step(town, one, other); slots: 0 town, 1 one, 2 other, 3 at, 4 street -/
theorem sc__law_step : FnScope ["town", "one", "other", "at", "street"] ["town", "one", "other"] (defScope s__law_step) := ⟨rfl, rfl, rfl, by decide +kernel, rfl, by decide +kernel, by decide +kernel⟩
theorem at__law_step (T : Txt K mg) : FnAt P w K mg base "_law_step" 1 ["town", "one", "other"] false d__law_step := by
  have S := sc__law_step
  exact T.D__law_step.at (N := ["town", "one", "other", "at", "street"]) (fr := false) (k := 0) (b := b__law_step) S fun f cdv A outer s H E hr tk =>
    (qss_cons (qs_for (passes_of rfl) rfl (qi_range1 (by rfl) T.B_range (qe_callB call_lenA snd_len (by rfl) T.B_len (by decide +kernel) (qa_cons (qe_ix (ix_get hr.units) snd_get (qe_b 0) qe_int.bor (fun _ _ => rfl)).bor qa_nil))) (qg_n 3 S.nd rfl (by first | exact .inl rfl | exact .inr rfl))
  (qss_cons (qs_set (i := 4) S.nd rfl (by first | exact .inl rfl | exact .inr rfl) (qe_ix (ix_get hr.units) snd_get (qe_ix (ix_get hr.units) snd_get (qe_b 0) qe_int.bor (fun _ _ => rfl)).bor (qe_b 3) (fun _ _ => rfl)))
  (qss_one (qs_if (qw_or (qt_cmp (op_eqA hr.units) snd_eqA (qe_slice (qe_b 4) qo_none (qo_some qe_int)).bor (qe_tup (qa_cons (qe_v 1) (qa_cons (qe_v 2) qa_nil))).bor (nomark _)) (qw_or1 (qw_and (qt_cmp (op_eqA hr.units) snd_eqA (qe_slice (qe_b 4) qo_none (qo_some qe_int)).bor (qe_tup (qa_cons (qe_v 2) (qa_cons (qe_v 1) qa_nil))).bor (nomark _)) (qw_and1 (qt_cmp (op_neA hr.units) snd_neA (qe_ix (ix_get hr.units) snd_get (qe_b 4) qe_int.bor (fun _ _ => rfl)).bor qe_str.bor (nomark _)))).qt)).qt
  (qss_one (qs_ret (qe_v 3)))
  qss_nil))))
  (qss_one (qs_ret qe_non)))
end
end K01
end
section
set_option Elab.async false
set_option linter.all false
set_option maxRecDepth 100000
set_option maxHeartbeats 1000000
namespace K01
open PySem L2 PySem.Spec PyProof.Rows Q T
section
variable {P : Program} {w : World} {K : PySem.W.Frag} {mg : Str → Option Value} {base : Heap}
/-- _law_next(town, corner); slots: 0 town, 1 corner, 2 other -/
theorem sc__law_next : FnScope ["town", "corner", "other"] ["town", "corner"] (defScope s__law_next) := ⟨rfl, rfl, rfl, by decide +kernel, rfl, by decide +kernel, by decide +kernel⟩
theorem at__law_next (T : Txt K mg) : FnAt P w K mg base "_law_next" 2 ["town", "corner"] false d__law_next := by
  have S := sc__law_next
  exact T.D__law_next.at (N := ["town", "corner", "other"]) (fr := false) (k := 1) (b := b__law_next) S fun f cdv A outer s H E hr tk =>
    (qss_one (qs_ret (qe_lc (own := [("other", 2)]) rfl S.nd (qi_range1 (by rfl) T.B_range (qe_ix (ix_get hr.units) snd_get (qe_b 0) qe_int.bor (fun _ _ => rfl))) (blkOk_by (N := ["town", "corner", "other"]) (sc := defScope s__law_next) (by decide +kernel)) (fun _ => (qg_n 2 S.nd rfl (by first | exact .inl rfl | exact .inr rfl))) (fun _ => (qts_one (qw_and (qt_cmp (op_neA hr.units) snd_neA (qe_b 2) (qe_b 1) (nomark _)) (qw_and1 (qt_cmp op_notN snd_notN (qe_call (at__law_step T) (hr.mono (by decide)) takes0 (by rfl) (qa_cons (qe_v 0) (qa_cons (qe_v 1) (qa_cons (qe_v 2) qa_nil)))).bor qe_non.bor (nomark _)))).qt)) (fun _ => (qe_v 2))).froz))
end
end K01
end
section
set_option Elab.async false
set_option linter.all false
set_option maxRecDepth 100000
set_option maxHeartbeats 1000000
namespace K01
open PySem L2 PySem.Spec PyProof.Rows Q T
section
variable {P : Program} {w : World} {K : PySem.W.Frag} {mg : Str → Option Value} {base : Heap}
/-- _law_far(town, corner); slots: 0 town, 1 corner, 2 found, 3 turn, 4 one, 5 other, 6 length -/
theorem sc__law_far : FnScope ["town", "corner", "found", "turn", "one", "other", "length"] ["town", "corner"] (defScope s__law_far) := ⟨rfl, rfl, rfl, by decide +kernel, rfl, by decide +kernel, by decide +kernel⟩
theorem at__law_far (T : Txt K mg) : FnAt P w K mg base "_law_far" 3 ["town", "corner"] false d__law_far := by
  have S := sc__law_far
  exact T.D__law_far.at (N := ["town", "corner", "found", "turn", "one", "other", "length"]) (fr := false) (k := 2) (b := b__law_far) S fun f cdv A outer s H E hr tk =>
    (qss_cons (qs_own (i := 2) S.nd rfl (by first | exact .inl rfl | exact .inr rfl) (qe_disp (qps_cons (qe_v 1) qe_int qps_nil)))
  (qss_cons (qs_for (passes_of rfl) rfl (qi_range1 (by rfl) T.B_range (qe_ix (ix_get hr.units) snd_get (qe_b 0) qe_int.bor (fun _ _ => rfl))) (qg_n 3 S.nd rfl (by first | exact .inl rfl | exact .inr rfl))
  (qss_one (qs_for (passes_of rfl) rfl (qi_range1 (by rfl) T.B_range (qe_ix (ix_get hr.units) snd_get (qe_b 0) qe_int.bor (fun _ _ => rfl))) (qg_n 4 S.nd rfl (by first | exact .inl rfl | exact .inr rfl))
  (qss_one (qs_for (passes_of rfl) rfl (qi_any (qe_if (qt_cmp (op_inA hr.units) snd_inA (qe_b 4) (qe_b 2) (by rfl)) (qe_call (at__law_next T) (hr.mono (by decide)) tk (by rfl) (qa_cons (qe_v 0) (qa_cons (qe_v 4) qa_nil))) (qe_lst qa_nil).froz)) (qg_n 5 S.nd rfl (by first | exact .inl rfl | exact .inr rfl))
  (qss_cons (qs_set (i := 6) S.nd rfl (by first | exact .inl rfl | exact .inr rfl) (qe_op op_addA snd_add (qe_ix (ix_get hr.units) snd_get (qe_b 2) (qe_b 4) (fun _ _ => rfl)).bor (qe_ix (ix_get hr.units) snd_get (qe_ix (ix_get hr.units) snd_get (qe_ix (ix_get hr.units) snd_get (qe_b 0) qe_int.bor (fun _ _ => rfl)).bor (qe_call (at__law_step T) (hr.mono (by decide)) tk (by rfl) (qa_cons (qe_v 0) (qa_cons (qe_v 4) (qa_cons (qe_v 5) qa_nil)))).bor (fun _ _ => rfl)).bor qe_int.bor (fun _ _ => rfl)).bor))
  (qss_one (qs_put 2 hr.units (qe_callB (call_min2 rfl) snd_min2 (by rfl) T.B_min (by decide +kernel) (qa_cons (qe_b 6) (qa_cons (qe_get2 hr.units (qe_b 2) (qe_v 5) (qe_v 6)).bor qa_nil))) (qe_b 5)))))))))
  (qss_one (qs_frz (qs_ret (qe_v 2))))))
end
end K01
end
section
set_option Elab.async false
set_option linter.all false
set_option maxRecDepth 100000
set_option maxHeartbeats 1000000
namespace K01
open PySem L2 PySem.Spec PyProof.Rows Q T
section
variable {P : Program} {w : World} {K : PySem.W.Frag} {mg : Str → Option Value} {base : Heap}
/-- _law_first(town, rows, one, other); slots: 0 town, 1 rows, 2 one, 3 other, 4 found, 5 turn, 6 here, 7 good, 8 by -/
theorem sc__law_first : FnScope ["town", "rows", "one", "other", "found", "turn", "here", "good", "by"] ["town", "rows", "one", "other"] (defScope s__law_first) := ⟨rfl, rfl, rfl, by decide +kernel, rfl, by decide +kernel, by decide +kernel⟩
theorem at__law_first (T : Txt K mg) : FnAt P w K mg base "_law_first" 3 ["town", "rows", "one", "other"] false d__law_first := by
  have S := sc__law_first
  exact T.D__law_first.at (N := ["town", "rows", "one", "other", "found", "turn", "here", "good", "by"]) (fr := false) (k := 2) (b := b__law_first) S fun f cdv A outer s H E hr tk =>
    (qss_cons (qs_set (i := 4) S.nd rfl (by first | exact .inl rfl | exact .inr rfl) (qe_tup (qa_cons (qe_v 2) qa_nil)))
  (qss_cons (qs_if (qt_cmp (op_ninA hr.units) snd_inA (qe_b 3) (qe_ix (ix_get hr.units) snd_get (qe_b 1) (qe_b 2) (fun _ _ => rfl)).bor (by rfl))
  (qss_one (qs_ret qe_non))
  qss_nil)
  (qss_cons (qs_for (passes_of rfl) rfl (qi_range1 (by rfl) T.B_range (qe_ix (ix_get hr.units) snd_get (qe_b 0) qe_int.bor (fun _ _ => rfl))) (qg_n 5 S.nd rfl (by first | exact .inl rfl | exact .inr rfl))
  (qss_one (qs_if (qt_cmp (op_neA hr.units) snd_neA (qe_ix (ix_get hr.units) snd_get (qe_b 4) (qe_un un_neg snd_neg qe_int.bor).bor (fun _ _ => rfl)).bor (qe_b 3) (nomark _))
  (qss_cons (qs_set (i := 6) S.nd rfl (by first | exact .inl rfl | exact .inr rfl) (qe_ix (ix_get hr.units) snd_get (qe_b 4) (qe_un un_neg snd_neg qe_int.bor).bor (fun _ _ => rfl)))
  (qss_cons (qs_setLcF (own := [("by", 8)]) (i := 7) rfl S.nd rfl (qi_any (qe_call (at__law_next T) (hr.mono (by decide)) tk (by rfl) (qa_cons (qe_v 0) (qa_cons (qe_v 6) qa_nil)))) (blkOk_by (N := ["town", "rows", "one", "other", "found", "turn", "here", "good", "by"]) (sc := defScope s__law_first) (by decide +kernel)) (fun _ => (qg_n 8 S.nd rfl (by first | exact .inl rfl | exact .inr rfl))) (fun _ => (qts_one (qw_and (qt_cmp (op_inA hr.units) snd_inA (qe_b 3) (qe_ix (ix_get hr.units) snd_get (qe_b 1) (qe_b 8) (fun _ _ => rfl)).bor (by rfl)) (qw_and1 (qt_cmp (op_eqA hr.units) snd_eqA (qe_op op_addA snd_add (qe_ix (ix_get hr.units) snd_get (qe_ix (ix_get hr.units) snd_get (qe_b 1) (qe_b 8) (fun _ _ => rfl)).bor (qe_b 3) (fun _ _ => rfl)).bor (qe_ix (ix_get hr.units) snd_get (qe_ix (ix_get hr.units) snd_get (qe_ix (ix_get hr.units) snd_get (qe_b 0) qe_int.bor (fun _ _ => rfl)).bor (qe_call (at__law_step T) (hr.mono (by decide)) takes0 (by rfl) (qa_cons (qe_v 0) (qa_cons (qe_v 6) (qa_cons (qe_v 8) qa_nil)))).bor (fun _ _ => rfl)).bor qe_int.bor (fun _ _ => rfl)).bor).bor (qe_ix (ix_get hr.units) snd_get (qe_ix (ix_get hr.units) snd_get (qe_b 1) (qe_b 6) (fun _ _ => rfl)).bor (qe_b 3) (fun _ _ => rfl)).bor (nomark _)))).qt)) (fun _ => (qe_v 8)))
  (qss_one (qs_set (i := 4) S.nd rfl (by first | exact .inl rfl | exact .inr rfl) (qe_op op_addA snd_add (qe_b 4) (qe_tup (qa_cons (qe_ix (ix_get hr.units) snd_get (qe_b 7) qe_int.bor (fun _ _ => rfl)) qa_nil)).bor)))))
  qss_nil)))
  (qss_one (qs_ret (qe_v 4))))))
end
end K01
end
section
set_option Elab.async false
set_option linter.all false
set_option maxRecDepth 100000
set_option maxHeartbeats 1000000
namespace K01
open PySem L2 PySem.Spec PyProof.Rows Q T
section
variable {P : Program} {w : World} {K : PySem.W.Frag} {mg : Str → Option Value} {base : Heap}
/-- fits_drive(town, value); slots: 0 town, 1 value, 2 steps, 3 pair, 4 one -/
theorem sc_fits_drive : FnScope ["town", "value", "steps", "pair", "one"] ["town", "value"] (defScope s_fits_drive) := ⟨rfl, rfl, rfl, by decide +kernel, rfl, by decide +kernel, by decide +kernel⟩
theorem at_fits_drive (T : Txt K mg) : FnAt P w K mg base "fits_drive" 2 ["town", "value"] false d_fits_drive := by
  have S := sc_fits_drive
  exact T.D_fits_drive.at (N := ["town", "value", "steps", "pair", "one"]) (fr := false) (k := 1) (b := b_fits_drive) S fun f cdv A outer s H E hr tk =>
    (qss_cons (qs_if (qw_or (qt_not (qt_val (qe_call (at_is_tuple_of T) (hr.mono (by decide)) tk (by rfl) (qa_cons (qe_v 1) (qa_cons qe_int (qa_cons (qe_globI (by rfl) T.G_DRIVE.choose_spec) qa_nil)))))) (qw_or1 (qt_not (qt_val (qe_callB (cr_all rfl) snd_all (by rfl) T.B_all (by decide +kernel) (qa_cons (qe_lc (own := [("one", 4)]) rfl S.nd (qi_any (qe_v 1)) (blkOk_by (N := ["town", "value", "steps", "pair", "one"]) (sc := defScope s_fits_drive) (by decide +kernel)) (fun _ => (qg_n 4 S.nd rfl (by first | exact .inl rfl | exact .inr rfl))) (fun _ => qts_nil) (fun _ => (qe_call (at_is_whole T) (hr.mono (by decide)) takes0 (by rfl) (qa_cons (qe_v 4) (qa_cons qe_int (qa_cons (qe_op op_sub snd_sub (qe_ix (ix_get hr.units) snd_get (qe_b 0) qe_int.bor (fun _ _ => rfl)).bor qe_int.bor) qa_nil)))))).bor qa_nil)))))).qt
  (qss_one (qs_ret qe_bl))
  qss_nil)
  (qss_cons (qs_set (i := 2) S.nd rfl (by first | exact .inl rfl | exact .inr rfl) (qe_call (at_steps_in T) (hr.mono (by decide)) tk (by rfl) (qa_cons (qe_v 0) qa_nil)))
  (qss_one (qs_ret (qe_callB (cr_all rfl) snd_all (by rfl) T.B_all (by decide +kernel) (qa_cons (qe_lc (own := [("pair", 3)]) rfl S.nd (qi_zipNB (by rfl) T.B_zip (qe_b 1) (qe_slice (qe_b 1) (qo_some qe_int) qo_none).bor) (blkOk_by (N := ["town", "value", "steps", "pair", "one"]) (sc := defScope s_fits_drive) (by decide +kernel)) (fun _ => (qg_n 3 S.nd rfl (by first | exact .inl rfl | exact .inr rfl))) (fun _ => qts_nil) (fun _ => (qe_cmp (op_inA hr.units) snd_inA (qe_b 3) (qe_b 2) (by rfl)))).bor qa_nil))))))
end
end K01
end
section
set_option Elab.async false
set_option linter.all false
set_option maxRecDepth 100000
set_option maxHeartbeats 1000000
namespace K01
open PySem L2 PySem.Spec PyProof.Rows Q T
section
variable {P : Program} {w : World} {K : PySem.W.Frag} {mg : Str → Option Value} {base : Heap}
/-- is_drive(town, value); slots: 0 town, 1 value -/
theorem sc_is_drive : FnScope ["town", "value"] ["town", "value"] (defScope s_is_drive) := ⟨rfl, rfl, rfl, by decide +kernel, rfl, by decide +kernel, by decide +kernel⟩
theorem at_is_drive (T : Txt K mg) : FnAt P w K mg base "is_drive" 5 ["town", "value"] false d_is_drive := by
  have S := sc_is_drive
  exact T.D_is_drive.at (N := ["town", "value"]) (fr := false) (k := 4) (b := b_is_drive) S fun f cdv A outer s H E hr tk =>
    (qss_cons (qs_expr (qe_call (at_need_town T) (hr.mono (by decide)) tk (by rfl) (qa_cons (qe_v 0) qa_nil)).bor)
  (qss_one (qs_ret (qe_call (at_fits_drive T) (hr.mono (by decide)) tk (by rfl) (qa_cons (qe_v 0) (qa_cons (qe_v 1) qa_nil))))))
end
end K01
end
section
set_option Elab.async false
set_option linter.all false
set_option maxRecDepth 100000
set_option maxHeartbeats 1000000
namespace K01
open PySem L2 PySem.Spec PyProof.Rows Q T
section
variable {P : Program} {w : World} {K : PySem.W.Frag} {mg : Str → Option Value} {base : Heap}
/-- need_drive(town, drive); slots: 0 town, 1 drive -/
theorem sc_need_drive : FnScope ["town", "drive"] ["town", "drive"] (defScope s_need_drive) := ⟨rfl, rfl, rfl, by decide +kernel, rfl, by decide +kernel, by decide +kernel⟩
theorem at_need_drive (T : Txt K mg) : FnAt P w K mg base "need_drive" 5 ["town", "drive"] false d_need_drive := by
  have S := sc_need_drive
  exact T.D_need_drive.at (N := ["town", "drive"]) (fr := false) (k := 4) (b := b_need_drive) S fun f cdv A outer s H E hr tk =>
    (qss_cons (qs_expr (qe_call (at_need_town T) (hr.mono (by decide)) tk (by rfl) (qa_cons (qe_v 0) qa_nil)).bor)
  (qss_one (qs_if (qt_not (qt_val (qe_call (at_fits_drive T) (hr.mono (by decide)) tk (by rfl) (qa_cons (qe_v 0) (qa_cons (qe_v 1) qa_nil)))))
  (qss_one (qs_raiseC rfl tk T.C_InvalidDrive (by rfl)))
  qss_nil)))
end
end K01
end
section
set_option Elab.async false
set_option linter.all false
set_option maxRecDepth 100000
set_option maxHeartbeats 1000000
namespace K01
open PySem L2 PySem.Spec PyProof.Rows Q T
section
variable {P : Program} {w : World} {K : PySem.W.Frag} {mg : Str → Option Value} {base : Heap}
/-- length_in(town, drive); slots: 0 town, 1 drive, 2 steps, 3 pair -/
theorem sc_length_in : FnScope ["town", "drive", "steps", "pair"] ["town", "drive"] (defScope s_length_in) := ⟨rfl, rfl, rfl, by decide +kernel, rfl, by decide +kernel, by decide +kernel⟩
theorem at_length_in (T : Txt K mg) : FnAt P w K mg base "length_in" 2 ["town", "drive"] false d_length_in := by
  have S := sc_length_in
  exact T.D_length_in.at (N := ["town", "drive", "steps", "pair"]) (fr := false) (k := 1) (b := b_length_in) S fun f cdv A outer s H E hr tk =>
    (qss_cons (qs_set (i := 2) S.nd rfl (by first | exact .inl rfl | exact .inr rfl) (qe_call (at_steps_in T) (hr.mono (by decide)) tk (by rfl) (qa_cons (qe_v 0) qa_nil)))
  (qss_one (qs_ret (qe_callB (cr_sum rfl) snd_sum (by rfl) T.B_sum (by decide +kernel) (qa_cons (qe_lc (own := [("pair", 3)]) rfl S.nd (qi_zipNB (by rfl) T.B_zip (qe_b 1) (qe_slice (qe_b 1) (qo_some qe_int) qo_none).bor) (blkOk_by (N := ["town", "drive", "steps", "pair"]) (sc := defScope s_length_in) (by decide +kernel)) (fun _ => (qg_n 3 S.nd rfl (by first | exact .inl rfl | exact .inr rfl))) (fun _ => qts_nil) (fun _ => (qe_ix (ix_get hr.units) snd_get (qe_ix (ix_get hr.units) snd_get (qe_ix (ix_get hr.units) snd_get (qe_b 0) qe_int.bor (fun _ _ => rfl)).bor (qe_ix (ix_get hr.units) snd_get (qe_b 2) (qe_b 3) (fun _ _ => rfl)).bor (fun _ _ => rfl)).bor qe_int.bor (fun _ _ => rfl)))).bor qa_nil)))))
end
end K01
end
section
set_option Elab.async false
set_option linter.all false
set_option maxRecDepth 100000
set_option maxHeartbeats 1000000
namespace K01
open PySem L2 PySem.Spec PyProof.Rows Q T
section
variable {P : Program} {w : World} {K : PySem.W.Frag} {mg : Str → Option Value} {base : Heap}
/-- length_of(town, drive); slots: 0 town, 1 drive -/
theorem sc_length_of : FnScope ["town", "drive"] ["town", "drive"] (defScope s_length_of) := ⟨rfl, rfl, rfl, by decide +kernel, rfl, by decide +kernel, by decide +kernel⟩
theorem at_length_of (T : Txt K mg) : FnAt P w K mg base "length_of" 6 ["town", "drive"] false d_length_of := by
  have S := sc_length_of
  exact T.D_length_of.at (N := ["town", "drive"]) (fr := false) (k := 5) (b := b_length_of) S fun f cdv A outer s H E hr tk =>
    (qss_cons (qs_expr (qe_call (at_need_drive T) (hr.mono (by decide)) tk (by rfl) (qa_cons (qe_v 0) (qa_cons (qe_v 1) qa_nil))).bor)
  (qss_one (qs_ret (qe_call (at_length_in T) (hr.mono (by decide)) tk (by rfl) (qa_cons (qe_v 0) (qa_cons (qe_v 1) qa_nil))))))
end
end K01
end
section
set_option Elab.async false
set_option linter.all false
set_option maxRecDepth 100000
set_option maxHeartbeats 1000000
namespace K01
open PySem L2 PySem.Spec PyProof.Rows Q T
section
variable {P : Program} {w : World} {K : PySem.W.Frag} {mg : Str → Option Value} {base : Heap}
/-- law(script); slots: 0 script, 1 cup, 2 turn, 3 town, 4 rows, 5 one, 6 far, 7 other, 8 due, 9 many, 10 length, 11 lanes, 12 ring, 13 half, 14 told, 15 corner, 16 at -/
theorem sc_law : FnScope ["script", "cup", "turn", "town", "rows", "one", "far", "other", "due", "many", "length", "lanes", "ring", "half", "told", "corner", "at"] ["script"] (defScope s_law) := ⟨rfl, rfl, rfl, by decide +kernel, rfl, by decide +kernel, by decide +kernel⟩
theorem ok_law {fa : Addr} {fda : FuncData} (FF : Fun K "law" "law" s_law fa fda) (T : Txt K mg) : FnOk P w K mg base (L2.CX P w) 9 fa fda ["script"] (spQ K mg 1 false d_law) := by
  have S := sc_law
  exact fnq (N := ["script", "cup", "turn", "town", "rows", "one", "far", "other", "due", "many", "length", "lanes", "ring", "half", "told", "corner", "at"]) (fr := false) (k := 8) (b := b_law) FF S fun cdv A outer s H E hr tk =>
    (qss_cons (qs_cell (i := 1) S.nd rfl (by first | exact .inl rfl | exact .inr rfl) (qe_call (at__law_cup T) (hr.mono (by decide)) tk (by rfl) (qa_cons (qe_v 0) qa_nil)))
  (qss_cons (qs_for (passes_of rfl) rfl (qi_range1 (by rfl) T.B_range qe_int) (qg_n 2 S.nd rfl (by first | exact .inl rfl | exact .inr rfl))
  (qss_cons (qs_set (i := 3) S.nd rfl (by first | exact .inl rfl | exact .inr rfl) (qe_call (at__law_town T) (hr.mono (by decide)) tk (by rfl) (qa_cons (qe_v 1) (qa_cons qe_int (qa_cons (qe_call (at__law_some T) (hr.mono (by decide)) tk (by rfl) (qa_cons (qe_v 1) (qa_cons (qe_lst (qa_cons (qe_lst (qa_cons qe_str (qa_cons qe_str (qa_cons qe_str qa_nil)))).froz (qa_cons (qe_lst (qa_cons qe_str qa_nil)).froz (qa_cons (qe_lst (qa_cons qe_str (qa_cons qe_str qa_nil))).froz qa_nil)))).froz qa_nil))) qa_nil)))))
  (qss_cons (qs_setLcF (own := [("corner", 15)]) (i := 4) rfl S.nd rfl (qi_range1 (by rfl) T.B_range (qe_ix (ix_get hr.units) snd_get (qe_b 3) qe_int.bor (fun _ _ => rfl))) (blkOk_by (N := ["script", "cup", "turn", "town", "rows", "one", "far", "other", "due", "many", "length", "lanes", "ring", "half", "told", "corner", "at"]) (sc := defScope s_law) (by decide +kernel)) (fun _ => (qg_n 15 S.nd rfl (by first | exact .inl rfl | exact .inr rfl))) (fun _ => qts_nil) (fun _ => (qe_call (at__law_far T) (hr.mono (by decide)) takes0 (by rfl) (qa_cons (qe_v 3) (qa_cons (qe_v 15) qa_nil)))))
  (qss_one (qs_for (passes_of rfl) rfl (qi_range1 (by rfl) T.B_range (qe_ix (ix_get hr.units) snd_get (qe_b 3) qe_int.bor (fun _ _ => rfl))) (qg_n 5 S.nd rfl (by first | exact .inl rfl | exact .inr rfl))
  (qss_cons (qs_set (i := 6) S.nd rfl (by first | exact .inl rfl | exact .inr rfl) (qe_ix (ix_get hr.units) snd_get (qe_b 4) (qe_b 5) (fun _ _ => rfl)))
  (qss_one (qs_for (passes_of rfl) rfl (qi_range1 (by rfl) T.B_range (qe_ix (ix_get hr.units) snd_get (qe_b 3) qe_int.bor (fun _ _ => rfl))) (qg_n 7 S.nd rfl (by first | exact .inl rfl | exact .inr rfl))
  (qss_cons (qs_set (i := 8) S.nd rfl (by first | exact .inl rfl | exact .inr rfl) (qe_call (at__law_first T) (hr.mono (by decide)) tk (by rfl) (qa_cons (qe_v 3) (qa_cons (qe_v 4) (qa_cons (qe_v 5) (qa_cons (qe_v 7) qa_nil))))))
  (qss_cons (qs_if (qt_not (qt_val (qe_call (at__law_same T) (hr.mono (by decide)) tk (by rfl) (qa_cons (qe_tup (qa_cons (qe_call (at_distance T) (hr.mono (by decide)) tk (by rfl) (qa_cons (qe_v 3) (qa_cons (qe_v 5) (qa_cons (qe_v 7) qa_nil)))) (qa_cons (qe_call (at_shortest_drive T) (hr.mono (by decide)) tk (by rfl) (qa_cons (qe_v 3) (qa_cons (qe_v 5) (qa_cons (qe_v 7) qa_nil)))) qa_nil))) (qa_cons (qe_tup (qa_cons (qe_get2 hr.units (qe_b 6) (qe_v 7) qe_non) (qa_cons (qe_v 8) qa_nil))) qa_nil)))))
  (qss_one (qs_ret qe_bl))
  qss_nil)
  (qss_one (qs_if (qw_and (qt_cmp op_notN snd_notN (qe_b 8) qe_non.bor (nomark _)) (qw_and1 (qw_or (qt_cmp op_notBl snd_notB (qe_call (at_is_drive T) (hr.mono (by decide)) tk (by rfl) (qa_cons (qe_v 3) (qa_cons (qe_v 8) qa_nil))).bor qe_bl.bor (nomark _)) (qw_or1 (qt_not (qt_val (qe_call (at__law_same T) (hr.mono (by decide)) tk (by rfl) (qa_cons (qe_call (at_length_of T) (hr.mono (by decide)) tk (by rfl) (qa_cons (qe_v 3) (qa_cons (qe_v 8) qa_nil))) (qa_cons (qe_ix (ix_get hr.units) snd_get (qe_b 6) (qe_b 7) (fun _ _ => rfl)) qa_nil))))))).qt)).qt
  (qss_one (qs_ret qe_bl))
  qss_nil))))))))))))
  (qss_cons (qs_asg (qe_tup (qa_cons (qe_op op_addA snd_add qe_int.bor (qe_call (at__law_roll T) (hr.mono (by decide)) tk (by rfl) (qa_cons (qe_v 1) (qa_cons qe_int qa_nil))).bor) (qa_cons (qe_op op_addA snd_add qe_int.bor (qe_call (at__law_roll T) (hr.mono (by decide)) tk (by rfl) (qa_cons (qe_v 1) (qa_cons qe_int qa_nil))).bor) qa_nil))) (qg_t rfl (qgs_cons (qg_n 9 S.nd rfl (by first | exact .inl rfl | exact .inr rfl)) (qgs_cons (qg_n 10 S.nd rfl (by first | exact .inl rfl | exact .inr rfl)) qgs_nil)) (pl_cons (pl_cons pl_nil))))
  (qss_cons (qs_set (i := 11) S.nd rfl (by first | exact .inl rfl | exact .inr rfl) (qe_tup (qa_cons (qe_v 9) (qa_cons (qe_callTy call_tuple_of snd_tupleOf (by rfl) T.B_tuple (by decide +kernel) (qa_cons (qe_callB (cr_sortS rfl hr.units) snd_sort (by rfl) T.B_sorted (by decide +kernel) (qa_cons (qe_lc (own := [("at", 16)]) rfl S.nd (qi_range1 (by rfl) T.B_range (qe_v 9)) (blkOk_by (N := ["script", "cup", "turn", "town", "rows", "one", "far", "other", "due", "many", "length", "lanes", "ring", "half", "told", "corner", "at"]) (sc := defScope s_law) (by decide +kernel)) (fun _ => (qg_n 16 S.nd rfl (by first | exact .inl rfl | exact .inr rfl))) (fun _ => qts_nil) (fun _ => (qe_tup (qa_cons (qe_v 16) (qa_cons (qe_op op_mod snd_mod (qe_callTy call_int1 snd_int (by rfl) T.B_int (by decide +kernel) (qa_cons (qe_op op_addA snd_add (qe_b 16) qe_int.bor).bor qa_nil)).bor (qe_b 9)) (qa_cons (qe_v 10) (qa_cons qe_str qa_nil))))))).bor qa_nil)).bor qa_nil)) qa_nil))))
  (qss_cons (qs_set (i := 12) S.nd rfl (by first | exact .inl rfl | exact .inr rfl) (qe_tup (qa_cons (qe_v 9) (qa_cons (qe_callTy call_tuple_of snd_tupleOf (by rfl) T.B_tuple (by decide +kernel) (qa_cons (qe_callB (cr_sortS rfl hr.units) snd_sort (by rfl) T.B_sorted (by decide +kernel) (qa_cons (qe_op op_addA snd_add (qe_lc (own := [("at", 16)]) rfl S.nd (qi_range1 (by rfl) T.B_range (qe_op op_sub snd_sub (qe_b 9) qe_int.bor)) (blkOk_by (N := ["script", "cup", "turn", "town", "rows", "one", "far", "other", "due", "many", "length", "lanes", "ring", "half", "told", "corner", "at"]) (sc := defScope s_law) (by decide +kernel)) (fun _ => (qg_n 16 S.nd rfl (by first | exact .inl rfl | exact .inr rfl))) (fun _ => qts_nil) (fun _ => (qe_tup (qa_cons (qe_v 16) (qa_cons (qe_op op_addA snd_add (qe_b 16) qe_int.bor) (qa_cons (qe_v 10) (qa_cons qe_str qa_nil))))))).bor (qe_lst (qa_cons (qe_tup (qa_cons qe_int (qa_cons (qe_op op_sub snd_sub (qe_b 9) qe_int.bor) (qa_cons (qe_v 10) (qa_cons qe_str qa_nil))))) qa_nil)).bor).bor qa_nil)).bor qa_nil)) qa_nil))))
  (qss_cons (qs_set (i := 13) S.nd rfl (by first | exact .inl rfl | exact .inr rfl) (qe_op op_fdiv snd_div (qe_b 9) qe_int.bor))
  (qss_cons (qs_set (i := 14) S.nd rfl (by first | exact .inl rfl | exact .inr rfl) (qe_tup (qa_cons (qe_call (at_distance T) (hr.mono (by decide)) tk (by rfl) (qa_cons (qe_v 11) (qa_cons qe_int (qa_cons qe_int qa_nil)))) (qa_cons (qe_call (at_shortest_drive T) (hr.mono (by decide)) tk (by rfl) (qa_cons (qe_v 11) (qa_cons qe_int (qa_cons qe_int qa_nil)))) (qa_cons (qe_call (at_distance T) (hr.mono (by decide)) tk (by rfl) (qa_cons (qe_v 12) (qa_cons qe_int (qa_cons (qe_v 13) qa_nil)))) (qa_cons (qe_call (at_shortest_drive T) (hr.mono (by decide)) tk (by rfl) (qa_cons (qe_v 12) (qa_cons qe_int (qa_cons (qe_v 13) qa_nil)))) (qa_cons (qe_call (at_distance T) (hr.mono (by decide)) tk (by rfl) (qa_cons (qe_v 12) (qa_cons qe_int (qa_cons (qe_op op_sub snd_sub (qe_b 9) qe_int.bor) qa_nil)))) qa_nil)))))))
  (qss_cons (qs_set (i := 8) S.nd rfl (by first | exact .inl rfl | exact .inr rfl) (qe_tup (qa_cons (qe_op op_mulA snd_mulA (qe_op op_sub snd_sub (qe_b 9) qe_int.bor).bor (qe_b 10)) (qa_cons (qe_op op_addA snd_add (qe_rgB true rfl (by rfl) T.B_range rfl (by rfl) T.B_tuple qe_int.bor (qe_b 9)).bor (qe_tup (qa_cons qe_int qa_nil)).bor) (qa_cons (qe_op op_mulA snd_mulA (qe_b 13) (qe_b 10)) (qa_cons (qe_rgA true rfl (by rfl) T.B_range rfl (by rfl) T.B_tuple (qe_op op_addA snd_add (qe_b 13) qe_int.bor).bor) (qa_cons (qe_v 10) qa_nil)))))))
  (qss_cons (qs_if (qt_not (qt_val (qe_call (at__law_same T) (hr.mono (by decide)) tk (by rfl) (qa_cons (qe_v 14) (qa_cons (qe_v 8) qa_nil)))))
  (qss_one (qs_ret qe_bl))
  qss_nil)
  (qss_cons (qs_set (i := 5) S.nd rfl (by first | exact .inl rfl | exact .inr rfl) (qe_tup (qa_cons qe_int (qa_cons (qe_tup (qa_cons (qe_tup (qa_cons qe_int (qa_cons qe_int (qa_cons (qe_v 10) (qa_cons qe_str qa_nil))))) qa_nil)) qa_nil))))
  (qss_cons (qs_set (i := 14) S.nd rfl (by first | exact .inl rfl | exact .inr rfl) (qe_tup (qa_cons (qe_call (at_distance T) (hr.mono (by decide)) tk (by rfl) (qa_cons (qe_v 5) (qa_cons qe_int (qa_cons qe_int qa_nil)))) (qa_cons (qe_call (at_distance T) (hr.mono (by decide)) tk (by rfl) (qa_cons (qe_v 5) (qa_cons qe_int (qa_cons qe_int qa_nil)))) (qa_cons (qe_call (at_shortest_drive T) (hr.mono (by decide)) tk (by rfl) (qa_cons (qe_v 5) (qa_cons qe_int (qa_cons qe_int qa_nil)))) (qa_cons (qe_call (at_shortest_drive T) (hr.mono (by decide)) tk (by rfl) (qa_cons (qe_v 5) (qa_cons qe_int (qa_cons qe_int qa_nil)))) (qa_cons (qe_call (at_shortest_drive T) (hr.mono (by decide)) tk (by rfl) (qa_cons (qe_v 5) (qa_cons qe_int (qa_cons qe_int qa_nil)))) qa_nil)))))))
  (qss_one (qs_ret (qe_call (at__law_same T) (hr.mono (by decide)) tk (by rfl) (qa_cons (qe_v 14) (qa_cons (qe_tup (qa_cons qe_non (qa_cons (qe_v 10) (qa_cons qe_non (qa_cons (qe_tup (qa_cons qe_int qa_nil)) (qa_cons qe_non qa_nil)))))) qa_nil))))))))))))))))
end
end K01
end
section
set_option Elab.async false
set_option linter.all false
set_option maxRecDepth 100000
set_option maxHeartbeats 4000000
namespace K01
open PySem L2 PySem.Spec PyProof.Rows Q
theorem all_mk {l : PySem.W.OpenLaw} {w : World} {K : PySem.W.Frag} {h : Heap} {mg : Str → Option Value} {fa : Addr} (X : K.In h) (G : h.Ns mainGlobals mg) (hfa : mg "law" = some (.ref fa))
    {f0 : Addr} {od0 an0 : Option Addr} {sl0 : Array (Option Value)} {oc0 kV0 dc0 pm0 cd0 ct0 : Value}
    {f1 : Addr} {od1 an1 : Option Addr} {sl1 : Array (Option Value)} {oc1 kV1 dc1 pm1 cd1 ct1 : Value}
    {f2 : Addr} {od2 an2 : Option Addr} {sl2 : Array (Option Value)} {oc2 kV2 dc2 pm2 cd2 ct2 : Value}
    {f3 : Addr} {od3 an3 : Option Addr} {sl3 : Array (Option Value)} {oc3 kV3 dc3 pm3 cd3 ct3 : Value}
    {f4 : Addr} {od4 an4 : Option Addr} {sl4 : Array (Option Value)} {oc4 kV4 dc4 pm4 cd4 ct4 : Value}
    {f5 : Addr} {od5 an5 : Option Addr} {sl5 : Array (Option Value)} {oc5 kV5 dc5 pm5 cd5 ct5 : Value}
    {f6 : Addr} {od6 an6 : Option Addr} {sl6 : Array (Option Value)} {oc6 kV6 dc6 pm6 cd6 ct6 : Value}
    {f7 : Addr} {od7 an7 : Option Addr} {sl7 : Array (Option Value)} {oc7 kV7 dc7 pm7 cd7 ct7 : Value}
    {f8 : Addr} {od8 an8 : Option Addr} {sl8 : Array (Option Value)} {oc8 kV8 dc8 pm8 cd8 ct8 : Value}
    {f9 : Addr} {od9 an9 : Option Addr} {sl9 : Array (Option Value)} {oc9 kV9 dc9 pm9 cd9 ct9 : Value}
    {f10 : Addr} {od10 an10 : Option Addr} {sl10 : Array (Option Value)} {oc10 kV10 dc10 pm10 cd10 ct10 : Value}
    {f11 : Addr} {od11 an11 : Option Addr} {sl11 : Array (Option Value)} {oc11 kV11 dc11 pm11 cd11 ct11 : Value}
    {f12 : Addr} {od12 an12 : Option Addr} {sl12 : Array (Option Value)} {oc12 kV12 dc12 pm12 cd12 ct12 : Value}
    {f13 : Addr} {od13 an13 : Option Addr} {sl13 : Array (Option Value)} {oc13 kV13 dc13 pm13 cd13 ct13 : Value}
    {f14 : Addr} {od14 an14 : Option Addr} {sl14 : Array (Option Value)} {oc14 kV14 dc14 pm14 cd14 ct14 : Value}
    {f15 : Addr} {od15 an15 : Option Addr} {sl15 : Array (Option Value)} {oc15 kV15 dc15 pm15 cd15 ct15 : Value}
    {f16 : Addr} {od16 an16 : Option Addr} {sl16 : Array (Option Value)} {oc16 kV16 dc16 pm16 cd16 ct16 : Value}
    {f17 : Addr} {od17 an17 : Option Addr} {sl17 : Array (Option Value)} {oc17 kV17 dc17 pm17 cd17 ct17 : Value}
    {f18 : Addr} {od18 an18 : Option Addr} {sl18 : Array (Option Value)} {oc18 kV18 dc18 pm18 cd18 ct18 : Value}
    {f19 : Addr} {od19 an19 : Option Addr} {sl19 : Array (Option Value)} {oc19 kV19 dc19 pm19 cd19 ct19 : Value}
    {f20 : Addr} {od20 an20 : Option Addr} {sl20 : Array (Option Value)} {oc20 kV20 dc20 pm20 cd20 ct20 : Value}
    {f21 : Addr} {od21 an21 : Option Addr} {sl21 : Array (Option Value)} {oc21 kV21 dc21 pm21 cd21 ct21 : Value}
    {f22 : Addr} {od22 an22 : Option Addr} {sl22 : Array (Option Value)} {oc22 kV22 dc22 pm22 cd22 ct22 : Value}
    {f23 : Addr} {od23 an23 : Option Addr} {sl23 : Array (Option Value)} {oc23 kV23 dc23 pm23 cd23 ct23 : Value}
    {f24 : Addr} {od24 an24 : Option Addr} {sl24 : Array (Option Value)} {oc24 kV24 dc24 pm24 cd24 ct24 : Value}
    {f25 : Addr} {od25 an25 : Option Addr} {sl25 : Array (Option Value)} {oc25 kV25 dc25 pm25 cd25 ct25 : Value}
    {f26 : Addr} {od26 an26 : Option Addr} {sl26 : Array (Option Value)} {oc26 kV26 dc26 pm26 cd26 ct26 : Value}
    {C_InvalidCorner : Addr}
    {C_InvalidDrive : Addr}
    {C_InvalidTown : Addr}
    {t_CORNERS : Tok}
    {t_DRIVE : Tok}
    {g_KINDS_a : Addr} {g_KINDS_o : Option Addr} {g_KINDS_s : Array (Option Value)} {g_KINDS_n : Nat} {t_KINDS_0 t_KINDS_1 t_KINDS_2 : Tok}
    {t_LENGTH : Tok}
    {t_STREETS : Tok}
    (hp : ∀ ns : List Int, ns.length ≤ 63 → (∀ z ∈ ns, Builtin.Int.intBits z ≤ 1048576) → ∃ m, d_law [.klst (ns.map D.int)] [] = .ok (.bl true) m)
    (a0 : PySem.W.nsIn K mainGlobals "_law_cup" = some (some (.ref f0))) (l0 : K.lookup f0 = some ⟨oc0, od0, .func (PySem.W.fnOf "_law_cup" "_law_cup" (defArgs s__law_cup) (defBody s__law_cup) (defScope s__law_cup) .none kV0 dc0 pm0 an0 cd0 ct0), sl0⟩) (c0 : PySem.W.codeIn K cd0 "_law_cup" = true) (k0 : PySem.W.keepIn K (.ref f0) = true)
    (a1 : PySem.W.nsIn K mainGlobals "_law_same" = some (some (.ref f1))) (l1 : K.lookup f1 = some ⟨oc1, od1, .func (PySem.W.fnOf "_law_same" "_law_same" (defArgs s__law_same) (defBody s__law_same) (defScope s__law_same) .none kV1 dc1 pm1 an1 cd1 ct1), sl1⟩) (c1 : PySem.W.codeIn K cd1 "_law_same" = true) (k1 : PySem.W.keepIn K (.ref f1) = true)
    (a2 : PySem.W.nsIn K mainGlobals "_law_roll" = some (some (.ref f2))) (l2 : K.lookup f2 = some ⟨oc2, od2, .func (PySem.W.fnOf "_law_roll" "_law_roll" (defArgs s__law_roll) (defBody s__law_roll) (defScope s__law_roll) .none kV2 dc2 pm2 an2 cd2 ct2), sl2⟩) (c2 : PySem.W.codeIn K cd2 "_law_roll" = true) (k2 : PySem.W.keepIn K (.ref f2) = true)
    (a3 : PySem.W.nsIn K mainGlobals "_law_some" = some (some (.ref f3))) (l3 : K.lookup f3 = some ⟨oc3, od3, .func (PySem.W.fnOf "_law_some" "_law_some" (defArgs s__law_some) (defBody s__law_some) (defScope s__law_some) .none kV3 dc3 pm3 an3 cd3 ct3), sl3⟩) (c3 : PySem.W.codeIn K cd3 "_law_some" = true) (k3 : PySem.W.keepIn K (.ref f3) = true)
    (a4 : PySem.W.nsIn K mainGlobals "_law_town" = some (some (.ref f4))) (l4 : K.lookup f4 = some ⟨oc4, od4, .func (PySem.W.fnOf "_law_town" "_law_town" (defArgs s__law_town) (defBody s__law_town) (defScope s__law_town) .none kV4 dc4 pm4 an4 cd4 ct4), sl4⟩) (c4 : PySem.W.codeIn K cd4 "_law_town" = true) (k4 : PySem.W.keepIn K (.ref f4) = true)
    (a5 : PySem.W.nsIn K mainGlobals "is_tuple_of" = some (some (.ref f5))) (l5 : K.lookup f5 = some ⟨oc5, od5, .func (PySem.W.fnOf "is_tuple_of" "is_tuple_of" (defArgs s_is_tuple_of) (defBody s_is_tuple_of) (defScope s_is_tuple_of) .none kV5 dc5 pm5 an5 cd5 ct5), sl5⟩) (c5 : PySem.W.codeIn K cd5 "is_tuple_of" = true) (k5 : PySem.W.keepIn K (.ref f5) = true)
    (a6 : PySem.W.nsIn K mainGlobals "is_whole" = some (some (.ref f6))) (l6 : K.lookup f6 = some ⟨oc6, od6, .func (PySem.W.fnOf "is_whole" "is_whole" (defArgs s_is_whole) (defBody s_is_whole) (defScope s_is_whole) .none kV6 dc6 pm6 an6 cd6 ct6), sl6⟩) (c6 : PySem.W.codeIn K cd6 "is_whole" = true) (k6 : PySem.W.keepIn K (.ref f6) = true)
    (a7 : PySem.W.nsIn K mainGlobals "fits_street" = some (some (.ref f7))) (l7 : K.lookup f7 = some ⟨oc7, od7, .func (PySem.W.fnOf "fits_street" "fits_street" (defArgs s_fits_street) (defBody s_fits_street) (defScope s_fits_street) .none kV7 dc7 pm7 an7 cd7 ct7), sl7⟩) (c7 : PySem.W.codeIn K cd7 "fits_street" = true) (k7 : PySem.W.keepIn K (.ref f7) = true)
    (a8 : PySem.W.nsIn K mainGlobals "fits_town" = some (some (.ref f8))) (l8 : K.lookup f8 = some ⟨oc8, od8, .func (PySem.W.fnOf "fits_town" "fits_town" (defArgs s_fits_town) (defBody s_fits_town) (defScope s_fits_town) .none kV8 dc8 pm8 an8 cd8 ct8), sl8⟩) (c8 : PySem.W.codeIn K cd8 "fits_town" = true) (k8 : PySem.W.keepIn K (.ref f8) = true)
    (a9 : PySem.W.nsIn K mainGlobals "need_town" = some (some (.ref f9))) (l9 : K.lookup f9 = some ⟨oc9, od9, .func (PySem.W.fnOf "need_town" "need_town" (defArgs s_need_town) (defBody s_need_town) (defScope s_need_town) .none kV9 dc9 pm9 an9 cd9 ct9), sl9⟩) (c9 : PySem.W.codeIn K cd9 "need_town" = true) (k9 : PySem.W.keepIn K (.ref f9) = true)
    (a10 : PySem.W.nsIn K mainGlobals "need_corner" = some (some (.ref f10))) (l10 : K.lookup f10 = some ⟨oc10, od10, .func (PySem.W.fnOf "need_corner" "need_corner" (defArgs s_need_corner) (defBody s_need_corner) (defScope s_need_corner) .none kV10 dc10 pm10 an10 cd10 ct10), sl10⟩) (c10 : PySem.W.codeIn K cd10 "need_corner" = true) (k10 : PySem.W.keepIn K (.ref f10) = true)
    (a11 : PySem.W.nsIn K mainGlobals "need_at" = some (some (.ref f11))) (l11 : K.lookup f11 = some ⟨oc11, od11, .func (PySem.W.fnOf "need_at" "need_at" (defArgs s_need_at) (defBody s_need_at) (defScope s_need_at) .none kV11 dc11 pm11 an11 cd11 ct11), sl11⟩) (c11 : PySem.W.codeIn K cd11 "need_at" = true) (k11 : PySem.W.keepIn K (.ref f11) = true)
    (a12 : PySem.W.nsIn K mainGlobals "steps_in" = some (some (.ref f12))) (l12 : K.lookup f12 = some ⟨oc12, od12, .func (PySem.W.fnOf "steps_in" "steps_in" (defArgs s_steps_in) (defBody s_steps_in) (defScope s_steps_in) .none kV12 dc12 pm12 an12 cd12 ct12), sl12⟩) (c12 : PySem.W.codeIn K cd12 "steps_in" = true) (k12 : PySem.W.keepIn K (.ref f12) = true)
    (a13 : PySem.W.nsIn K mainGlobals "nexts_in" = some (some (.ref f13))) (l13 : K.lookup f13 = some ⟨oc13, od13, .func (PySem.W.fnOf "nexts_in" "nexts_in" (defArgs s_nexts_in) (defBody s_nexts_in) (defScope s_nexts_in) .none kV13 dc13 pm13 an13 cd13 ct13), sl13⟩) (c13 : PySem.W.codeIn K cd13 "nexts_in" = true) (k13 : PySem.W.keepIn K (.ref f13) = true)
    (a14 : PySem.W.nsIn K mainGlobals "far_in" = some (some (.ref f14))) (l14 : K.lookup f14 = some ⟨oc14, od14, .func (PySem.W.fnOf "far_in" "far_in" (defArgs s_far_in) (defBody s_far_in) (defScope s_far_in) .none kV14 dc14 pm14 an14 cd14 ct14), sl14⟩) (c14 : PySem.W.codeIn K cd14 "far_in" = true) (k14 : PySem.W.keepIn K (.ref f14) = true)
    (a15 : PySem.W.nsIn K mainGlobals "distance" = some (some (.ref f15))) (l15 : K.lookup f15 = some ⟨oc15, od15, .func (PySem.W.fnOf "distance" "distance" (defArgs s_distance) (defBody s_distance) (defScope s_distance) .none kV15 dc15 pm15 an15 cd15 ct15), sl15⟩) (c15 : PySem.W.codeIn K cd15 "distance" = true) (k15 : PySem.W.keepIn K (.ref f15) = true)
    (a16 : PySem.W.nsIn K mainGlobals "shortest_drive" = some (some (.ref f16))) (l16 : K.lookup f16 = some ⟨oc16, od16, .func (PySem.W.fnOf "shortest_drive" "shortest_drive" (defArgs s_shortest_drive) (defBody s_shortest_drive) (defScope s_shortest_drive) .none kV16 dc16 pm16 an16 cd16 ct16), sl16⟩) (c16 : PySem.W.codeIn K cd16 "shortest_drive" = true) (k16 : PySem.W.keepIn K (.ref f16) = true)
    (a17 : PySem.W.nsIn K mainGlobals "_law_step" = some (some (.ref f17))) (l17 : K.lookup f17 = some ⟨oc17, od17, .func (PySem.W.fnOf "_law_step" "_law_step" (defArgs s__law_step) (defBody s__law_step) (defScope s__law_step) .none kV17 dc17 pm17 an17 cd17 ct17), sl17⟩) (c17 : PySem.W.codeIn K cd17 "_law_step" = true) (k17 : PySem.W.keepIn K (.ref f17) = true)
    (a18 : PySem.W.nsIn K mainGlobals "_law_next" = some (some (.ref f18))) (l18 : K.lookup f18 = some ⟨oc18, od18, .func (PySem.W.fnOf "_law_next" "_law_next" (defArgs s__law_next) (defBody s__law_next) (defScope s__law_next) .none kV18 dc18 pm18 an18 cd18 ct18), sl18⟩) (c18 : PySem.W.codeIn K cd18 "_law_next" = true) (k18 : PySem.W.keepIn K (.ref f18) = true)
    (a19 : PySem.W.nsIn K mainGlobals "_law_far" = some (some (.ref f19))) (l19 : K.lookup f19 = some ⟨oc19, od19, .func (PySem.W.fnOf "_law_far" "_law_far" (defArgs s__law_far) (defBody s__law_far) (defScope s__law_far) .none kV19 dc19 pm19 an19 cd19 ct19), sl19⟩) (c19 : PySem.W.codeIn K cd19 "_law_far" = true) (k19 : PySem.W.keepIn K (.ref f19) = true)
    (a20 : PySem.W.nsIn K mainGlobals "_law_first" = some (some (.ref f20))) (l20 : K.lookup f20 = some ⟨oc20, od20, .func (PySem.W.fnOf "_law_first" "_law_first" (defArgs s__law_first) (defBody s__law_first) (defScope s__law_first) .none kV20 dc20 pm20 an20 cd20 ct20), sl20⟩) (c20 : PySem.W.codeIn K cd20 "_law_first" = true) (k20 : PySem.W.keepIn K (.ref f20) = true)
    (a21 : PySem.W.nsIn K mainGlobals "fits_drive" = some (some (.ref f21))) (l21 : K.lookup f21 = some ⟨oc21, od21, .func (PySem.W.fnOf "fits_drive" "fits_drive" (defArgs s_fits_drive) (defBody s_fits_drive) (defScope s_fits_drive) .none kV21 dc21 pm21 an21 cd21 ct21), sl21⟩) (c21 : PySem.W.codeIn K cd21 "fits_drive" = true) (k21 : PySem.W.keepIn K (.ref f21) = true)
    (a22 : PySem.W.nsIn K mainGlobals "is_drive" = some (some (.ref f22))) (l22 : K.lookup f22 = some ⟨oc22, od22, .func (PySem.W.fnOf "is_drive" "is_drive" (defArgs s_is_drive) (defBody s_is_drive) (defScope s_is_drive) .none kV22 dc22 pm22 an22 cd22 ct22), sl22⟩) (c22 : PySem.W.codeIn K cd22 "is_drive" = true) (k22 : PySem.W.keepIn K (.ref f22) = true)
    (a23 : PySem.W.nsIn K mainGlobals "need_drive" = some (some (.ref f23))) (l23 : K.lookup f23 = some ⟨oc23, od23, .func (PySem.W.fnOf "need_drive" "need_drive" (defArgs s_need_drive) (defBody s_need_drive) (defScope s_need_drive) .none kV23 dc23 pm23 an23 cd23 ct23), sl23⟩) (c23 : PySem.W.codeIn K cd23 "need_drive" = true) (k23 : PySem.W.keepIn K (.ref f23) = true)
    (a24 : PySem.W.nsIn K mainGlobals "length_in" = some (some (.ref f24))) (l24 : K.lookup f24 = some ⟨oc24, od24, .func (PySem.W.fnOf "length_in" "length_in" (defArgs s_length_in) (defBody s_length_in) (defScope s_length_in) .none kV24 dc24 pm24 an24 cd24 ct24), sl24⟩) (c24 : PySem.W.codeIn K cd24 "length_in" = true) (k24 : PySem.W.keepIn K (.ref f24) = true)
    (a25 : PySem.W.nsIn K mainGlobals "length_of" = some (some (.ref f25))) (l25 : K.lookup f25 = some ⟨oc25, od25, .func (PySem.W.fnOf "length_of" "length_of" (defArgs s_length_of) (defBody s_length_of) (defScope s_length_of) .none kV25 dc25 pm25 an25 cd25 ct25), sl25⟩) (c25 : PySem.W.codeIn K cd25 "length_of" = true) (k25 : PySem.W.keepIn K (.ref f25) = true)
    (a26 : PySem.W.nsIn K mainGlobals "law" = some (some (.ref f26))) (l26 : K.lookup f26 = some ⟨oc26, od26, .func (PySem.W.fnOf "law" "law" (defArgs s_law) (defBody s_law) (defScope s_law) .none kV26 dc26 pm26 an26 cd26 ct26), sl26⟩) (c26 : PySem.W.codeIn K cd26 "law" = true) (k26 : PySem.W.keepIn K (.ref f26) = true)
    (b_abs : PySem.W.nsIn K mainGlobals "abs" = some none)
    (b_all : PySem.W.nsIn K mainGlobals "all" = some none)
    (b_bool : PySem.W.nsIn K mainGlobals "bool" = some none)
    (b_enumerate : PySem.W.nsIn K mainGlobals "enumerate" = some none)
    (b_int : PySem.W.nsIn K mainGlobals "int" = some none)
    (b_isinstance : PySem.W.nsIn K mainGlobals "isinstance" = some none)
    (b_len : PySem.W.nsIn K mainGlobals "len" = some none)
    (b_list : PySem.W.nsIn K mainGlobals "list" = some none)
    (b_max : PySem.W.nsIn K mainGlobals "max" = some none)
    (b_min : PySem.W.nsIn K mainGlobals "min" = some none)
    (b_range : PySem.W.nsIn K mainGlobals "range" = some none)
    (b_set : PySem.W.nsIn K mainGlobals "set" = some none)
    (b_sorted : PySem.W.nsIn K mainGlobals "sorted" = some none)
    (b_str : PySem.W.nsIn K mainGlobals "str" = some none)
    (b_sum : PySem.W.nsIn K mainGlobals "sum" = some none)
    (b_tuple : PySem.W.nsIn K mainGlobals "tuple" = some none)
    (b_zip : PySem.W.nsIn K mainGlobals "zip" = some none)
    (x_InvalidCorner : PySem.W.nsIn K mainGlobals "InvalidCorner" = some (some (.ref C_InvalidCorner))) (xe_InvalidCorner : PySem.W.excIn K C_InvalidCorner [.type "ValueError", .type "Exception", .type "BaseException", .type "object"] "ValueError.__new__" = true) (xk_InvalidCorner : PySem.W.keepIn K (.ref C_InvalidCorner) = true) (xb_InvalidCorner : PySem.W.subIn K (.ref C_InvalidCorner) (.type "BaseException") = some true) (xt_InvalidCorner : PySem.W.typeIn K (.ref C_InvalidCorner) = some (.type "type"))
    (x_InvalidDrive : PySem.W.nsIn K mainGlobals "InvalidDrive" = some (some (.ref C_InvalidDrive))) (xe_InvalidDrive : PySem.W.excIn K C_InvalidDrive [.type "ValueError", .type "Exception", .type "BaseException", .type "object"] "ValueError.__new__" = true) (xk_InvalidDrive : PySem.W.keepIn K (.ref C_InvalidDrive) = true) (xb_InvalidDrive : PySem.W.subIn K (.ref C_InvalidDrive) (.type "BaseException") = some true) (xt_InvalidDrive : PySem.W.typeIn K (.ref C_InvalidDrive) = some (.type "type"))
    (x_InvalidTown : PySem.W.nsIn K mainGlobals "InvalidTown" = some (some (.ref C_InvalidTown))) (xe_InvalidTown : PySem.W.excIn K C_InvalidTown [.type "ValueError", .type "Exception", .type "BaseException", .type "object"] "ValueError.__new__" = true) (xk_InvalidTown : PySem.W.keepIn K (.ref C_InvalidTown) = true) (xb_InvalidTown : PySem.W.subIn K (.ref C_InvalidTown) (.type "BaseException") = some true) (xt_InvalidTown : PySem.W.typeIn K (.ref C_InvalidTown) = some (.type "type"))
    (g_CORNERS : PySem.W.nsIn K mainGlobals "CORNERS" = some (some (.int 8 t_CORNERS)))
    (g_DRIVE : PySem.W.nsIn K mainGlobals "DRIVE" = some (some (.int 400 t_DRIVE)))
    (g_KINDS : PySem.W.nsIn K mainGlobals "KINDS" = some (some (.ref g_KINDS_a))) (gl_KINDS : K.lookup g_KINDS_a = some ⟨.type "tuple", g_KINDS_o, .seq #[.str "lane" t_KINDS_0, .str "narrow" t_KINDS_1, .str "wide" t_KINDS_2] g_KINDS_n, g_KINDS_s⟩)
    (g_LENGTH : PySem.W.nsIn K mainGlobals "LENGTH" = some (some (.int 9 t_LENGTH)))
    (g_STREETS : PySem.W.nsIn K mainGlobals "STREETS" = some (some (.int 12 t_STREETS)))
    : ∃ fd : FuncData, (∀ (s : Shared) (v : Value), BindsTo s fd ⟨[v], []⟩ [("script", v)]) ∧ ∀ base : Heap, K.In base → base.Ns mainGlobals mg → FnOk l.prog w K mg base (L2.CX l.prog w) 9 fa fd ["script"] (spLaw K) := by
  have e := hfa.symm.trans (PySem.W.mg_of X G a26)
  cases e
  have T : Txt K mg := {
    D__law_cup := DefAt.mk' (PySem.W.mg_of X G a0) k0 (fun_mk (st := s__law_cup) l0 c0 k0) ((fun_mk (st := s__law_cup) l0 c0 k0).binds fun _ _ _ _ _ _ us hl => match us, hl with | [_], _ => rfl)
    D__law_same := DefAt.mk' (PySem.W.mg_of X G a1) k1 (fun_mk (st := s__law_same) l1 c1 k1) ((fun_mk (st := s__law_same) l1 c1 k1).binds fun _ _ _ _ _ _ us hl => match us, hl with | [_, _], _ => rfl)
    D__law_roll := DefAt.mk' (PySem.W.mg_of X G a2) k2 (fun_mk (st := s__law_roll) l2 c2 k2) ((fun_mk (st := s__law_roll) l2 c2 k2).binds fun _ _ _ _ _ _ us hl => match us, hl with | [_, _], _ => rfl)
    D__law_some := DefAt.mk' (PySem.W.mg_of X G a3) k3 (fun_mk (st := s__law_some) l3 c3 k3) ((fun_mk (st := s__law_some) l3 c3 k3).binds fun _ _ _ _ _ _ us hl => match us, hl with | [_, _], _ => rfl)
    D__law_town := DefAt.mk' (PySem.W.mg_of X G a4) k4 (fun_mk (st := s__law_town) l4 c4 k4) ((fun_mk (st := s__law_town) l4 c4 k4).binds fun _ _ _ _ _ _ us hl => match us, hl with | [_, _, _], _ => rfl)
    D_is_tuple_of := DefAt.mk' (PySem.W.mg_of X G a5) k5 (fun_mk (st := s_is_tuple_of) l5 c5 k5) ((fun_mk (st := s_is_tuple_of) l5 c5 k5).binds fun _ _ _ _ _ _ us hl => match us, hl with | [_, _, _], _ => rfl)
    D_is_whole := DefAt.mk' (PySem.W.mg_of X G a6) k6 (fun_mk (st := s_is_whole) l6 c6 k6) ((fun_mk (st := s_is_whole) l6 c6 k6).binds fun _ _ _ _ _ _ us hl => match us, hl with | [_, _, _], _ => rfl)
    D_fits_street := DefAt.mk' (PySem.W.mg_of X G a7) k7 (fun_mk (st := s_fits_street) l7 c7 k7) ((fun_mk (st := s_fits_street) l7 c7 k7).binds fun _ _ _ _ _ _ us hl => match us, hl with | [_, _], _ => rfl)
    D_fits_town := DefAt.mk' (PySem.W.mg_of X G a8) k8 (fun_mk (st := s_fits_town) l8 c8 k8) ((fun_mk (st := s_fits_town) l8 c8 k8).binds fun _ _ _ _ _ _ us hl => match us, hl with | [_], _ => rfl)
    D_need_town := DefAt.mk' (PySem.W.mg_of X G a9) k9 (fun_mk (st := s_need_town) l9 c9 k9) ((fun_mk (st := s_need_town) l9 c9 k9).binds fun _ _ _ _ _ _ us hl => match us, hl with | [_], _ => rfl)
    D_need_corner := DefAt.mk' (PySem.W.mg_of X G a10) k10 (fun_mk (st := s_need_corner) l10 c10 k10) ((fun_mk (st := s_need_corner) l10 c10 k10).binds fun _ _ _ _ _ _ us hl => match us, hl with | [_, _], _ => rfl)
    D_need_at := DefAt.mk' (PySem.W.mg_of X G a11) k11 (fun_mk (st := s_need_at) l11 c11 k11) ((fun_mk (st := s_need_at) l11 c11 k11).binds fun _ _ _ _ _ _ us hl => match us, hl with | [_, _], _ => rfl)
    D_steps_in := DefAt.mk' (PySem.W.mg_of X G a12) k12 (fun_mk (st := s_steps_in) l12 c12 k12) ((fun_mk (st := s_steps_in) l12 c12 k12).binds fun _ _ _ _ _ _ us hl => match us, hl with | [_], _ => rfl)
    D_nexts_in := DefAt.mk' (PySem.W.mg_of X G a13) k13 (fun_mk (st := s_nexts_in) l13 c13 k13) ((fun_mk (st := s_nexts_in) l13 c13 k13).binds fun _ _ _ _ _ _ us hl => match us, hl with | [_, _], _ => rfl)
    D_far_in := DefAt.mk' (PySem.W.mg_of X G a14) k14 (fun_mk (st := s_far_in) l14 c14 k14) ((fun_mk (st := s_far_in) l14 c14 k14).binds fun _ _ _ _ _ _ us hl => match us, hl with | [_, _], _ => rfl)
    D_distance := DefAt.mk' (PySem.W.mg_of X G a15) k15 (fun_mk (st := s_distance) l15 c15 k15) ((fun_mk (st := s_distance) l15 c15 k15).binds fun _ _ _ _ _ _ us hl => match us, hl with | [_, _, _], _ => rfl)
    D_shortest_drive := DefAt.mk' (PySem.W.mg_of X G a16) k16 (fun_mk (st := s_shortest_drive) l16 c16 k16) ((fun_mk (st := s_shortest_drive) l16 c16 k16).binds fun _ _ _ _ _ _ us hl => match us, hl with | [_, _, _], _ => rfl)
    D__law_step := DefAt.mk' (PySem.W.mg_of X G a17) k17 (fun_mk (st := s__law_step) l17 c17 k17) ((fun_mk (st := s__law_step) l17 c17 k17).binds fun _ _ _ _ _ _ us hl => match us, hl with | [_, _, _], _ => rfl)
    D__law_next := DefAt.mk' (PySem.W.mg_of X G a18) k18 (fun_mk (st := s__law_next) l18 c18 k18) ((fun_mk (st := s__law_next) l18 c18 k18).binds fun _ _ _ _ _ _ us hl => match us, hl with | [_, _], _ => rfl)
    D__law_far := DefAt.mk' (PySem.W.mg_of X G a19) k19 (fun_mk (st := s__law_far) l19 c19 k19) ((fun_mk (st := s__law_far) l19 c19 k19).binds fun _ _ _ _ _ _ us hl => match us, hl with | [_, _], _ => rfl)
    D__law_first := DefAt.mk' (PySem.W.mg_of X G a20) k20 (fun_mk (st := s__law_first) l20 c20 k20) ((fun_mk (st := s__law_first) l20 c20 k20).binds fun _ _ _ _ _ _ us hl => match us, hl with | [_, _, _, _], _ => rfl)
    D_fits_drive := DefAt.mk' (PySem.W.mg_of X G a21) k21 (fun_mk (st := s_fits_drive) l21 c21 k21) ((fun_mk (st := s_fits_drive) l21 c21 k21).binds fun _ _ _ _ _ _ us hl => match us, hl with | [_, _], _ => rfl)
    D_is_drive := DefAt.mk' (PySem.W.mg_of X G a22) k22 (fun_mk (st := s_is_drive) l22 c22 k22) ((fun_mk (st := s_is_drive) l22 c22 k22).binds fun _ _ _ _ _ _ us hl => match us, hl with | [_, _], _ => rfl)
    D_need_drive := DefAt.mk' (PySem.W.mg_of X G a23) k23 (fun_mk (st := s_need_drive) l23 c23 k23) ((fun_mk (st := s_need_drive) l23 c23 k23).binds fun _ _ _ _ _ _ us hl => match us, hl with | [_, _], _ => rfl)
    D_length_in := DefAt.mk' (PySem.W.mg_of X G a24) k24 (fun_mk (st := s_length_in) l24 c24 k24) ((fun_mk (st := s_length_in) l24 c24 k24).binds fun _ _ _ _ _ _ us hl => match us, hl with | [_, _], _ => rfl)
    D_length_of := DefAt.mk' (PySem.W.mg_of X G a25) k25 (fun_mk (st := s_length_of) l25 c25 k25) ((fun_mk (st := s_length_of) l25 c25 k25).binds fun _ _ _ _ _ _ us hl => match us, hl with | [_, _], _ => rfl)
    D_law := DefAt.mk' (PySem.W.mg_of X G a26) k26 (fun_mk (st := s_law) l26 c26 k26) ((fun_mk (st := s_law) l26 c26 k26).binds fun _ _ _ _ _ _ us hl => match us, hl with | [_], _ => rfl)
    B_abs := PySem.W.mg_none_of X G b_abs
    B_all := PySem.W.mg_none_of X G b_all
    B_bool := PySem.W.mg_none_of X G b_bool
    B_enumerate := PySem.W.mg_none_of X G b_enumerate
    B_int := PySem.W.mg_none_of X G b_int
    B_isinstance := PySem.W.mg_none_of X G b_isinstance
    B_len := PySem.W.mg_none_of X G b_len
    B_list := PySem.W.mg_none_of X G b_list
    B_max := PySem.W.mg_none_of X G b_max
    B_min := PySem.W.mg_none_of X G b_min
    B_range := PySem.W.mg_none_of X G b_range
    B_set := PySem.W.mg_none_of X G b_set
    B_sorted := PySem.W.mg_none_of X G b_sorted
    B_str := PySem.W.mg_none_of X G b_str
    B_sum := PySem.W.mg_none_of X G b_sum
    B_tuple := PySem.W.mg_none_of X G b_tuple
    B_zip := PySem.W.mg_none_of X G b_zip
    C_InvalidCorner := ClsAt.mk' PySem.F.excBase_ValueError (PySem.W.mg_of X G x_InvalidCorner) xe_InvalidCorner xk_InvalidCorner xb_InvalidCorner xt_InvalidCorner
    C_InvalidDrive := ClsAt.mk' PySem.F.excBase_ValueError (PySem.W.mg_of X G x_InvalidDrive) xe_InvalidDrive xk_InvalidDrive xb_InvalidDrive xt_InvalidDrive
    C_InvalidTown := ClsAt.mk' PySem.F.excBase_ValueError (PySem.W.mg_of X G x_InvalidTown) xe_InvalidTown xk_InvalidTown xb_InvalidTown xt_InvalidTown
    G_CORNERS := ⟨_, PySem.W.mg_of X G g_CORNERS⟩
    G_DRIVE := ⟨_, PySem.W.mg_of X G g_DRIVE⟩
    G_KINDS := ⟨_, PySem.W.mg_of X G g_KINDS, .inr ⟨_, _, _, gl_KINDS, rfl, rfl, by show 3 ≤ sizeLine; decide, (.cons ⟨_, rfl⟩ (.cons ⟨_, rfl⟩ (.cons ⟨_, rfl⟩ .nil)))⟩⟩
    G_LENGTH := ⟨_, PySem.W.mg_of X G g_LENGTH⟩
    G_STREETS := ⟨_, PySem.W.mg_of X G g_STREETS⟩
  }
  exact ⟨PySem.W.fnOf "law" "law" (defArgs s_law) (defBody s_law) (defScope s_law) .none kV26 dc26 pm26 an26 cd26 ct26, fun s v => .of_eq rfl, fun base _ _ => law_end (ok_law (fun_mk (st := s_law) l26 c26 k26) T) hp⟩
end K01
end
section
set_option Elab.async false
set_option linter.all false
set_option maxRecDepth 100000
namespace K01
open PySem L2 Q T
variable {m : Sto} {n : Int} {ss : List Stt} {R : Nat → List (Key × D)}
abbrev FE (n : Int) (ss : List Stt) (R : Nat → List (Key × D)) (a b : Int) (l z5 z6 z7 : Sl) : Q.Env := [.dat (townD n ss), .dat (rowsD n R), .dat (.int a), .dat (.int b), l, z5, z6, z7, .un]
def ft : Bd := (bAnd (bE (op2 (gInA false) (eB 3) (op2 gGet (eB 1) (eB 8)))) (bE (op2 (gEqA false) (op2 gAdd (op2 gGet (op2 gGet (eB 1) (eB 8)) (eB 3)) (op2 gGet (op2 gGet (op2 gGet (eB 0) (eC (.int 1))) (callD 3 d__law_step (aC (eV 0) (aC (eV 6) (aC (eV 8) aN))))) (eC (.int 2)))) (op2 gGet (op2 gGet (eB 1) (eB 6)) (eB 3)))))
def f2 : Sd := (sSet 6 (op2 gGet (eB 4) (op1 gNeg (eC (.int 1)))))
def f3 : Sd := (sSet 7 (eLc (iAny (callD 2 d__law_next (aC (eV 0) (aC (eV 6) aN)))) (pN 8) ft (eV 8) [8]))
def f4 : Sd := (sSet 4 (op2 gAdd (eB 4) (opN gTup (aC (op2 gGet (eB 7) (eC (.int 0))) aN))))
def fB : Sd := (sIf (bE (op2 (gEqA true) (op2 gGet (eB 4) (op1 gNeg (eC (.int 1)))) (eB 3)))
  (sSeq f2 (sSeq f3 f4))
  sNext)
def f1 : Sd := (sIf (bE (op2 (gInA true) (eB 3) (op2 gGet (eB 1) (eB 2))))
  (sRet (eC .non))
  sNext)
theorem first_eq : b__law_first = sSeq (sSet 4 (opN gTup (aC (eV 2) aN))) (sSeq f1 (sSeq (sFor (iRg1 (op2 gGet (eB 0) (eC (.int 0)))) (pN 5) fB) (sRet (eV 4)))) := rfl
theorem ft_at (h : OkT n ss) (hR : RowsOk n ss R) {a b x d y : Int} (x0 : 0 ≤ x) (x1 : x < n) (hd : dst n ss x b = some d) (hy : y ∈ nextL n ss x) (l z5 z7 : Sl) :
    ft [.dat (townD n ss), .dat (rowsD n R), .dat (.int a), .dat (.int b), l, z5, .dat (.int x), z7, .dat (.int y)] m = .ok (goodB n ss b x y) m := by
  obtain ⟨y0, y1, _, k, s, hf, hs⟩ := mem_next h hy
  have n2 := h.n2
  have gr : op2 gGet (eB 1) (eB 8) [.dat (townD n ss), .dat (rowsD n R), .dat (.int a), .dat (.int b), l, z5, .dat (.int x), z7, .dat (.int y)] m = .ok (.dK (R y.toNat)) m :=
    op2_at (b_at rfl) (b_at rfl) (rows_get _ y0 (by omega))
  have gh : op2 gGet (eB 1) (eB 6) [.dat (townD n ss), .dat (rowsD n R), .dat (.int a), .dat (.int b), l, z5, .dat (.int x), z7, .dat (.int y)] m = .ok (.dK (R x.toNat)) m :=
    op2_at (b_at rfl) (b_at rfl) (rows_get _ x0 (by omega))
  unfold goodB
  rw [hd]
  have q := hR.get y0 y1 b
  cases e : dst n ss y b with
  | none =>
    rw [e] at q
    refine and_f (bE_at (op2_at (b_at rfl) gr ?_))
    rw [fr_in, q]; rfl
  | some z =>
    rw [e] at q
    exact and_t (bE_at (op2_at (d := .bl true) (b_at rfl) gr (by rw [fr_in, q]; rfl))) (bE_at (op2_at (op2_at (op2_at gr (b_at rfl) (fr_get q)) (town_w h rfl rfl rfl hf hs) rfl) (op2_at gh (b_at rfl) (fr_get (by rw [hR.get x0 x1 b, hd]; rfl))) gEq_i))
theorem fB_at (h : OkT n ss) (hR : RowsOk n ss R) {a b x d y : Int} {l0 l : List Int} (x0 : 0 ≤ x) (x1 : x < n) (ne : x ≠ b) (hd : dst n ss x b = some d) (hl : l0.length ≤ 1000) (hg : good n ss b x = y :: l) (z5 z6 z7 : Sl) :
    ∃ y6 y7, fB (FE n ss R a b (.dat (rowT (l0 ++ [x]))) z5 z6 z7) m = .nx (FE n ss R a b (.dat (rowT (l0 ++ [x] ++ [y]))) z5 y6 y7) m := by
  have e1 : bE (op2 (gEqA true) (op2 gGet (eB 4) (op1 gNeg (eC (.int 1)))) (eB 3)) (FE n ss R a b (.dat (rowT (l0 ++ [x]))) z5 z6 z7) m = .ok true m :=
    bE_at (op2_at (op2_at (b_at rfl) (op1_at c_at rfl) (last_get l0 x)) (b_at rfl) (by rw [gNe_i, decide_eq_false ne]; rfl))
  have e2 : f2 (FE n ss R a b (.dat (rowT (l0 ++ [x]))) z5 z6 z7) m = .nx (FE n ss R a b (.dat (rowT (l0 ++ [x]))) z5 (.dat (.int x)) z7) m :=
    set_to (op2_at (b_at rfl) (op1_at c_at rfl) (last_get l0 x)) rfl
  have q := lcD_flt (p := pN 8) (t := ft) (f := eV 8) (r := wipeR (FE n ss R a b (.dat (rowT (l0 ++ [x]))) z5 (.dat (.int x)) z7) [8]) (m := m) D.int (goodB n ss b x) (nextL n ss x) fun y hy => ⟨_, rfl, ft_at h hR x0 x1 hd hy _ _ _, rfl⟩
  have e3 : f3 (FE n ss R a b (.dat (rowT (l0 ++ [x]))) z5 (.dat (.int x)) z7) m = .nx (FE n ss R a b (.dat (rowT (l0 ++ [x]))) z5 (.dat (.int x)) (.dat (rowL (good n ss b x)))) m :=
    set_to (lc_at (iAny_at (call2_at (v_at rfl) (v_at rfl) (next_at h x m)) rfl) (by rw [List.length_map]; have := next_len h x; show _ ≤ 100000; omega) q) rfl
  refine ⟨_, _, if_t e1 (sq_at e2 (sq_at e3 (set_to (op2_at (b_at rfl) (opN1_at (op2_at (b_at rfl) c_at (d := .int y) ?_) rfl) (addT (b := [y]) (by rw [List.length_append]; simp; omega))) rfl)))⟩
  rw [hg]
  show gGet m (.lst ((y :: l).map D.int)) (.int 0) = _
  rw [gGet_l]; simp
theorem first_at (h : OkT n ss) (hR : RowsOk n ss R) {a b : Int} (a0 : 0 ≤ a) (a1 : a < n) (b0 : 0 ≤ b) (b1 : b < n) (m : Sto) : d__law_first [townD n ss, rowsD n R, .int a, .int b] m = .ok (pathD n ss a b) m ∧ ∀ d, dst n ss a b = some d → InDr n ss (a :: goP n ss b n.toNat a) b ∧ lenSum ss (a :: goP n ss b n.toNat a) = d ∧ (a :: goP n ss b n.toNat a).length ≤ 9 := by
  have n2 := h.n2
  have n8 := h.n8
  have s1 : sSet 4 (opN Q.gTup (aC (eV 2) aN)) (startR 9 [townD n ss, rowsD n R, .int a, .int b]) m = .nx (FE n ss R a b (.dat (rowT [a])) .un .un .un) m := set_to (opN1_at (v_at rfl) rfl) rfl
  have gr : op2 gGet (eB 1) (eB 2) (FE n ss R a b (.dat (rowT [a])) .un .un .un) m = .ok (.dK (R a.toNat)) m := op2_at (b_at rfl) (b_at rfl) (rows_get _ a0 (by omega))
  have tt : bE (op2 (gInA true) (eB 3) (op2 gGet (eB 1) (eB 2))) (FE n ss R a b (.dat (rowT [a])) .un .un .un) m = .ok (!(dst n ss a b).isSome) m := by
    refine bE_at (op2_at (b_at rfl) gr ?_)
    show some (D.bl (!(getA (R a.toNat) (.inl b)).isSome)) = _
    rw [hR.get a0 a1 b, Option.isSome_map]
  unfold pathD
  cases hd : dst n ss a b with
  | none =>
    rw [hd] at tt
    refine ⟨body_at ?_, fun d q => by cases q⟩
    rw [first_eq]
    exact sq_at s1 (sq_rt (if_t tt (ret_at c_at)))
  | some d =>
    rw [hd] at tt
    obtain ⟨r', m', e, pre, x, l0, z5, z6, z7, dx, rfl, rfl, c1, c2, c3, c4, c5, c6, c7, c8, c9⟩ := forD_inv (p := pN 5) (b := fB) (fun t r m' => ∃ pre x l0 z5 z6 z7 dx, r = FE n ss R a b (.dat (rowT (a :: pre))) z5 z6 z7 ∧ m' = m ∧ a :: pre = l0 ++ [x] ∧ 0 ≤ x ∧ x < n ∧ dst n ss x b = some dx ∧ pre ++ goP n ss b (n.toNat - t) x = goP n ss b n.toNat a ∧ pre.length ≤ t ∧ (x = b ∨ rkT n.toNat (nextL n ss) (lenAt ss) b x + 1 ≤ n.toNat - t) ∧ InDr n ss (a :: pre) x ∧ lenSum ss (a :: pre) + dx = d) (rangeD 0 n.toNat) 0 (FE n ss R a b (.dat (rowT [a])) .un .un .un) m (by
      rintro i q r m' hq ⟨pre, x, l0, z5, z6, z7, dx, rfl, rfl, c1, c2, c3, c4, c5, c6, c7, c8, c9⟩
      rw [Nat.zero_add] at c5 c6 c7 ⊢
      obtain ⟨hi, rfl⟩ := mem_range hq
      have hl : l0.length = pre.length := by
        have := congrArg List.length c1
        simp at this; omega
      refine ⟨FE n ss R a b (.dat (rowT (a :: pre))) (.dat (.int (0 + (i : Int)))) z6 z7, rfl, ?_⟩
      by_cases e : x = b
      · have t : bE (op2 (gEqA true) (op2 gGet (eB 4) (op1 gNeg (eC (.int 1)))) (eB 3)) (FE n ss R a b (.dat (rowT (a :: pre))) (.dat (.int (0 + (i : Int)))) z6 z7) m' = .ok false m' := by
          rw [c1]
          exact bE_at (op2_at (op2_at (b_at rfl) (op1_at c_at rfl) (last_get l0 x)) (b_at rfl) (by rw [gNe_i, decide_eq_true e]; rfl))
        refine ⟨_, m', .inl (if_f t rfl), pre, x, l0, _, _, _, dx, rfl, rfl, c1, c2, c3, c4, ?_, by omega, .inl e, c8, c9⟩
        subst e
        rw [goP_end] at c5 ⊢
        exact c5
      · rcases c7 with c7 | c7
        · exact absurd c7 e
        · obtain ⟨y, l, hg, hy, hyd, hrk⟩ := good_ok h e c4
          obtain ⟨y0, y1, _⟩ := mem_next h hy
          rw [show n.toNat - i = (n.toNat - (i + 1)) + 1 by omega, goP_step e hg] at c5
          obtain ⟨y6, y7, eb⟩ := fB_at (m := m') (a := a) (b := b) (l0 := l0) h hR c2 c3 e c4 (by omega) hg (.dat (.int (0 + (i : Int)))) z6 z7
          rw [← c1] at eb
          refine ⟨_, m', .inl eb, pre ++ [y], y, a :: pre, _, _, _, _, rfl, rfl, rfl, y0, y1, hyd, by rw [List.append_assoc]; exact c5, by rw [List.length_append]; simp; omega, .inr (by omega), c8.add hy, ?_⟩
          have := lenSum_snoc (ss := ss) l0 x y
          rw [← c1] at this
          show lenSum ss (a :: pre ++ [y]) + _ = d
          rw [this]; omega) ⟨[], a, [], _, _, _, d, rfl, rfl, rfl, a0, a1, hd, rfl, by simp, .inr (by have := rkT_le (n := n.toNat) (N := nextL n ss) (w := lenAt ss) (t := b) (u := a) (by omega); omega), ⟨⟨[], rfl⟩, fun v hv => by rw [List.mem_singleton] at hv; subst hv; exact ⟨a0, a1⟩, rfl⟩, by show 0 + d = d; omega⟩
    rw [Nat.zero_add, range_len] at c5 c6 c7
    rw [Nat.sub_self] at c5 c7
    have hx : x = b := by
      rcases c7 with q | q
      · exact q
      · omega
    subst hx
    have ep : pre = goP n ss x n.toNat a := by
      rw [← c5]
      show pre = pre ++ []
      rw [List.append_nil]
    rw [dst_self h] at c4
    cases c4
    rw [← ep]
    refine ⟨body_at ?_, fun d' q => ?_⟩
    · rw [first_eq]
      exact sq_at s1 (sq_at (r1 := FE n ss R a x (.dat (rowT [a])) .un .un .un) (m1 := m') (if_f tt rfl) (sq_at (for_at (iRg1_at (j := n) (op2_at (b_at rfl) c_at town_get0) (by omega)) e) (ret_at (v_at rfl))))
    · cases q
      exact ⟨c8, by omega, by show pre.length + 1 ≤ 9; omega⟩
end K01
end
section
set_option Elab.async false
set_option linter.all false
set_option maxRecDepth 100000
namespace K01
open PySem L2 Q T
variable {m : Sto} {n : Int} {ss : List Stt} {R : Nat → List (Key × D)}
def LV (K : D) (z2 z3 z4 z5 z6 z7 z8 : Sl) : Q.Env := [.dat K, .dat (.cell 0), z2, z3, z4, z5, z6, z7, z8, .un, .un, .un, .un, .un, .un, .un, .un]
variable {K : D} {z2 z3 z4 z5 z6 z7 z8 : Sl}
def t1 : Sd := (sSet 3 (callD 3 d__law_town (aC (eV 1) (aC (eC (.int 8)) (aC (callD 2 d__law_some (aC (eV 1) (aC (opN gLst (aC (opN gLst (aC (eC (.str "lane")) (aC (eC (.str "narrow")) (aC (eC (.str "wide")) aN)))) (aC (opN gLst (aC (eC (.str "lane")) aN)) (aC (opN gLst (aC (eC (.str "narrow")) (aC (eC (.str "wide")) aN))) aN)))) aN))) aN)))))
def t2 : Sd := (sSet 4 (eLc (iRg1 (op2 gGet (eB 3) (eC (.int 0)))) (pN 15) bYes (callD 2 d__law_far (aC (eV 3) (aC (eV 15) aN))) [15]))
def i1 : Sd := (sSet 8 (callD 4 d__law_first (aC (eV 3) (aC (eV 4) (aC (eV 5) (aC (eV 7) aN))))))
def i2 : Sd := (sIf (bNot (bE (callD 2 d__law_same (aC (opN gTup (aC (callD 3 d_distance (aC (eV 3) (aC (eV 5) (aC (eV 7) aN)))) (aC (callD 3 d_shortest_drive (aC (eV 3) (aC (eV 5) (aC (eV 7) aN)))) aN))) (aC (opN gTup (aC (eGet2 (eB 6) (eV 7) (eC .non)) (aC (eV 8) aN))) aN)))))
  (sRet (eC (.bl false)))
  sNext)
def i3 : Sd := (sIf (bAnd (bE (op2 (gIsN true) (eB 8) (eC .non))) (bOr (bE (op2 (gIsB true) (callD 2 d_is_drive (aC (eV 3) (aC (eV 8) aN))) (eC (.bl true)))) (bNot (bE (callD 2 d__law_same (aC (callD 2 d_length_of (aC (eV 3) (aC (eV 8) aN))) (aC (op2 gGet (eB 6) (eB 7)) aN)))))))
  (sRet (eC (.bl false)))
  sNext)
def iB : Sd := sSeq i1 (sSeq i2 i3)
def oB : Sd := sSeq (sSet 6 (op2 gGet (eB 4) (eB 5))) (sFor (iRg1 (op2 gGet (eB 3) (eC (.int 0)))) (pN 7) iB)
def tB : Sd := sSeq t1 (sSeq t2 (sFor (iRg1 (op2 gGet (eB 3) (eC (.int 0)))) (pN 5) oB))
theorem oD_sm (k : Nat) (o : Option Int) : Sm (k + 1) (oD o) := by
  cases o with
  | none => exact .non _
  | some d => exact .int _ _
theorem row_sm (k : Nat) {l : List Int} (h : l.length < 100000) : Sm (k + 2) (rowT l) := by
  refine .tup _ _ (by rw [List.length_map]; exact h) fun x hx => ?_
  obtain ⟨i, _, rfl⟩ := List.mem_map.mp hx
  exact .int _ _
theorem path_sm (k : Nat) {a b : Int} (h : ∀ d, dst n ss a b = some d → (a :: goP n ss b n.toNat a).length ≤ 9) : Sm (k + 2) (pathD n ss a b) := by
  unfold pathD
  cases e : dst n ss a b with
  | none => exact .non _
  | some d => exact row_sm k (by have := h d e; omega)
theorem iB_at (h : OkT n ss) (hR : RowsOk n ss R) {a b : Int} (a0 : 0 ≤ a) (a1 : a < n) (b0 : 0 ≤ b) (b1 : b < n) : iB (LV K z2 (.dat (townD n ss)) (.dat (rowsD n R)) (.dat (.int a)) (.dat (.dK (R a.toNat))) (.dat (.int b)) z8) m = .nx (LV K z2 (.dat (townD n ss)) (.dat (rowsD n R)) (.dat (.int a)) (.dat (.dK (R a.toNat))) (.dat (.int b)) (.dat (pathD n ss a b))) m := by
  obtain ⟨e1, hp⟩ := first_at h hR a0 a1 b0 b1 m
  have s1 : i1 (LV K z2 (.dat (townD n ss)) (.dat (rowsD n R)) (.dat (.int a)) (.dat (.dK (R a.toNat))) (.dat (.int b)) z8) m = .nx (LV K z2 (.dat (townD n ss)) (.dat (rowsD n R)) (.dat (.int a)) (.dat (.dK (R a.toNat))) (.dat (.int b)) (.dat (pathD n ss a b))) m :=
    set_to (call_at (a1_at (v_at rfl) (a1_at (v_at rfl) (a1_at (v_at rfl) (a1_at (v_at rfl) a0_at)))) rfl e1) rfl
  have g6 : getA (R a.toNat) (.inl b) = (dst n ss a b).map D.int := hR.get a0 a1 b
  have s2 : i2 (LV K z2 (.dat (townD n ss)) (.dat (rowsD n R)) (.dat (.int a)) (.dat (.dK (R a.toNat))) (.dat (.int b)) (.dat (pathD n ss a b))) m = .nx (LV K z2 (.dat (townD n ss)) (.dat (rowsD n R)) (.dat (.int a)) (.dat (.dK (R a.toNat))) (.dat (.int b)) (.dat (pathD n ss a b))) m := by
    have eg : eGet2 (eB 6) (eV 7) (eC .non) (LV K z2 (.dat (townD n ss)) (.dat (rowsD n R)) (.dat (.int a)) (.dat (.dK (R a.toNat))) (.dat (.int b)) (.dat (pathD n ss a b))) m = .ok (oD (dst n ss a b)) m := by
      have := get2_at (m1 := m) (m2 := m) (m3 := m) (f := eB 6) (g := eV 7) (h := eC .non) (r := LV K z2 (.dat (townD n ss)) (.dat (rowsD n R)) (.dat (.int a)) (.dat (.dK (R a.toNat))) (.dat (.int b)) (.dat (pathD n ss a b))) (m := m) (x := .dK (R a.toNat)) (y := .int b) (z := .non) (o := getA (R a.toNat) (.inl b)) (b_at rfl) rfl (v_at rfl) c_at rfl
      rwa [g6, oD_get] at this
    have sm : Sm 7 (.tup [oD (dst n ss a b), pathD n ss a b]) := by
      refine .tup 6 _ (by show 2 < 100000; decide) fun x hx => ?_
      simp at hx
      rcases hx with rfl | rfl
      · exact oD_sm 5 _
      · exact path_sm 4 fun d q => (hp d q).2.2
    exact if_f (m1 := m) (not_at (c := true) (bE_at (call2_at (opN2_at (call3_at (v_at rfl) (v_at rfl) (v_at rfl) (dist_at h a0 a1 b0 b1 m)) (call3_at (v_at rfl) (v_at rfl) (v_at rfl) (short_at h a0 a1 b0 b1 m)) rfl) (opN2_at eg (v_at rfl) rfl) (same_sm sm m)))) rfl
  refine sq_at s1 (sq_at s2 ?_)
  cases e : dst n ss a b with
  | none =>
    have ep : pathD n ss a b = .non := by unfold pathD; rw [e]
    rw [ep]
    exact if_f (m1 := m) (and_f (bE_at (op2_at (d := .bl false) (b_at rfl) c_at rfl))) rfl
  | some d =>
    obtain ⟨p1, p2, p3⟩ := hp d e
    have ep : pathD n ss a b = rowT (a :: goP n ss b n.toNat a) := by unfold pathD; rw [e]
    rw [ep]
    have ok := p1.ok (by omega)
    have q1 := isd_row h (a :: goP n ss b n.toNat a) m
    rw [ok] at q1
    have q2 := len_of h ok m
    rw [p2] at q2
    exact if_f (m1 := m) (and_t (bE_at (op2_at (d := .bl true) (b_at rfl) c_at rfl)) (or_f (bE_at (op2_at (d := .bl false) (call2_at (v_at rfl) (v_at rfl) q1) c_at rfl)) (not_at (c := true) (bE_at (call2_at (call2_at (v_at rfl) (v_at rfl) q2) (op2_at (b_at rfl) (b_at rfl) (fr_get (d := .int d) (by rw [g6, e]; rfl))) (same_sm (.int 6 _) m)))))) rfl
theorem oB_at (h : OkT n ss) (hR : RowsOk n ss R) {a : Int} (a0 : 0 ≤ a) (a1 : a < n) : ∃ y6 y7 y8, oB (LV K z2 (.dat (townD n ss)) (.dat (rowsD n R)) (.dat (.int a)) z6 z7 z8) m = .nx (LV K z2 (.dat (townD n ss)) (.dat (rowsD n R)) (.dat (.int a)) y6 y7 y8) m := by
  have n2 := h.n2
  have n8 := h.n8
  obtain ⟨r', m', e, y7, y8, rfl, rfl⟩ := forD_inv (p := pN 7) (b := iB) (fun _ r m' => ∃ z7 z8, r = LV K z2 (.dat (townD n ss)) (.dat (rowsD n R)) (.dat (.int a)) (.dat (.dK (R a.toNat))) z7 z8 ∧ m' = m) (rangeD 0 n.toNat) 0 (LV K z2 (.dat (townD n ss)) (.dat (rowsD n R)) (.dat (.int a)) (.dat (.dK (R a.toNat))) z7 z8) m (by
    rintro j d r m' hd ⟨z7, z8, rfl, rfl⟩
    obtain ⟨hj, rfl⟩ := mem_range hd
    exact ⟨_, rfl, _, _, .inl (iB_at (b := 0 + (j : Int)) h hR a0 a1 (by omega) (by omega)), _, _, rfl, rfl⟩) ⟨_, _, rfl, rfl⟩
  exact ⟨_, _, _, sq_at (r1 := LV K z2 (.dat (townD n ss)) (.dat (rowsD n R)) (.dat (.int a)) (.dat (.dK (R a.toNat))) z7 z8) (m1 := m') (set_to (op2_at (b_at rfl) (b_at rfl) (rows_get _ a0 (by omega))) rfl) (for_at (iRg1_at (j := n) (op2_at (b_at rfl) c_at town_get0) (by omega)) e)⟩
theorem t1_at (a b : Int) : ∃ n ss a' b', t1 (LV K z2 z3 z4 z5 z6 z7 z8) (cup a b) = .nx (LV K z2 (.dat (townD n ss)) z4 z5 z6 z7 z8) (cup a' b') ∧ OkT n ss := by
  obtain ⟨d, a1, b1, e1, hd⟩ := some_at a b [.lst (([("lane" : Str), "narrow", "wide"]).map D.str), .lst (([("lane" : Str)]).map D.str), .lst (([("narrow" : Str), "wide"]).map D.str)] (by decide) (by decide)
  obtain ⟨Ks, rfl, h1, h2, h3⟩ : ∃ Ks : List Str, d = .lst (Ks.map D.str) ∧ 0 < Ks.length ∧ Ks.length < 1000 ∧ ∀ k ∈ Ks, k ∈ kinds := by
    simp only [List.mem_cons, List.not_mem_nil, or_false] at hd
    rcases hd with rfl | rfl | rfl
    · exact ⟨_, rfl, by decide, by decide, fun k hk => by simpa [kinds] using hk⟩
    · exact ⟨_, rfl, by decide, by decide, fun k hk => by rw [List.mem_singleton] at hk; subst hk; simp [kinds]⟩
    · exact ⟨_, rfl, by decide, by decide, fun k hk => by
        simp only [List.mem_cons, List.not_mem_nil, or_false] at hk
        rcases hk with rfl | rfl <;> simp [kinds]⟩
  obtain ⟨n, ss, a2, b2, e2, h, _, _⟩ := town_of Ks h1 h2 h3 a1 b1 8 (by decide) (by decide)
  exact ⟨n, ss, a2, b2, set_to (call3_at (v_at rfl) c_at (call2_at (v_at rfl) (opN3_at (opN3_at c_at c_at c_at rfl) (opN1_at c_at rfl) (opN2_at c_at c_at rfl) rfl) e1) e2) rfl, h⟩
theorem turn_at (a b : Int) : ∃ y3 y4 y5 y6 y7 y8 a' b', tB (LV K z2 z3 z4 z5 z6 z7 z8) (cup a b) = .nx (LV K z2 y3 y4 y5 y6 y7 y8) (cup a' b') := by
  obtain ⟨n, ss, a1, b1, e1, h⟩ := t1_at (K := K) (z2 := z2) (z3 := z3) (z4 := z4) (z5 := z5) (z6 := z6) (z7 := z7) (z8 := z8) a b
  have n2 := h.n2
  have n8 := h.n8
  obtain ⟨R, hR, hR0⟩ := rows_ex h (cup a1 b1)
  have e2 : t2 (LV K z2 (.dat (townD n ss)) z4 z5 z6 z7 z8) (cup a1 b1) = .nx (LV K z2 (.dat (townD n ss)) (.dat (rowsD n R)) z5 z6 z7 z8) (cup a1 b1) := by
    refine set_to (lc_at (ys := (List.range n.toNat).map fun i => .dK (R i)) (iRg1_at (j := n) (op2_at (b_at rfl) c_at town_get0) (by omega)) (by rw [range_len]; show _ ≤ 100000; omega) ?_) rfl
    rw [T.range_map]
    refine lcD_map _ _ _ fun i hi => ⟨_, rfl, call2_at (v_at rfl) (v_at rfl) (hR0 i ?_)⟩
    have := List.mem_range.mp hi
    omega
  obtain ⟨r', m', e, y5, y6, y7, y8, rfl, rfl⟩ := forD_inv (p := pN 5) (b := oB) (fun _ r m' => ∃ z5 z6 z7 z8, r = LV K z2 (.dat (townD n ss)) (.dat (rowsD n R)) z5 z6 z7 z8 ∧ m' = cup a1 b1) (rangeD 0 n.toNat) 0 (LV K z2 (.dat (townD n ss)) (.dat (rowsD n R)) z5 z6 z7 z8) (cup a1 b1) (by
    rintro j d r m' hd ⟨z5, z6, z7, z8, rfl, rfl⟩
    obtain ⟨hj, rfl⟩ := mem_range hd
    obtain ⟨y6, y7, y8, e⟩ := oB_at (m := cup a1 b1) (K := K) (z2 := z2) (z6 := z6) (z7 := z7) (z8 := z8) (a := 0 + (j : Int)) h hR (by omega) (by omega)
    exact ⟨_, rfl, _, _, .inl e, _, _, _, _, rfl, rfl⟩) ⟨_, _, _, _, rfl, rfl⟩
  exact ⟨_, _, _, _, _, _, a1, b1, sq_at e1 (sq_at e2 (for_at (iRg1_at (j := n) (op2_at (b_at rfl) c_at town_get0) (by omega)) e))⟩
end K01
end
section
set_option Elab.async false
set_option linter.all false
set_option maxRecDepth 100000
namespace K01
open PySem L2 Q T
/-! distances by a function that is looked at -/
structure Ck (n : Int) (ss : List Stt) (t : Int) (δ : Int → Int) (len : Int) : Prop where
  l1 : 1 ≤ len
  t0 : δ t = 0
  nn : ∀ x, 0 ≤ x → x < n → 0 ≤ δ x
  ed : ∀ x y, 0 ≤ x → x < n → y ∈ nextL n ss x → lenAt ss x y = len ∧ δ x ≤ δ y + 1
  dn : ∀ x, 0 ≤ x → x < n → x ≠ t → ∃ y ∈ nextL n ss x, δ y + 1 = δ x
section
variable {n : Int} {ss : List Stt} {t : Int} {δ : Int → Int} {len : Int}
theorem ck_low (h : OkT n ss) (c : Ck n ss t δ len) {x v : Int} {k : Nat} {q : Int} (w : Wk (nextL n ss) (lenAt ss) x v k q) (x0 : 0 ≤ x) (x1 : x < n) : q = len * k ∧ δ x ≤ δ v + k := by
  have n2 := h.n2
  induction w with
  | nil => simp
  | @snoc u v k q w hv ih =>
    obtain ⟨i1, i2⟩ := ih
    obtain ⟨u0, u1⟩ := w.range (gph h) (by omega)
    obtain ⟨e1, e2⟩ := c.ed u v u0 (by omega) hv
    refine ⟨?_, ?_⟩
    · rw [i1, e1, Int.natCast_add, Int.mul_add]; simp
    · rw [Int.natCast_add]
      have : ((1 : Nat) : Int) = 1 := rfl
      omega
theorem ck_ex (h : OkT n ss) (c : Ck n ss t δ len) : ∀ (j : Nat) (x : Int), 0 ≤ x → x < n → δ x = (j : Int) → Wk (nextL n ss) (lenAt ss) x t j (len * j)
  | 0, x, x0, x1, e => by
    by_cases q : x = t
    · subst q
      rw [show len * ((0 : Nat) : Int) = 0 by simp]
      exact .nil
    · obtain ⟨y, hy, ey⟩ := c.dn x x0 x1 q
      obtain ⟨y0, y1, _⟩ := mem_next h hy
      have := c.nn y y0 y1
      rw [e] at ey
      have : ((0 : Nat) : Int) = 0 := rfl
      omega
  | j + 1, x, x0, x1, e => by
    have q : x ≠ t := fun z => by
      rw [z, c.t0] at e
      omega
    obtain ⟨y, hy, ey⟩ := c.dn x x0 x1 q
    obtain ⟨y0, y1, _⟩ := mem_next h hy
    have w := ck_ex h c j y y0 y1 (by omega)
    have := Wk.cons hy w
    rw [(c.ed x y x0 x1 hy).1] at this
    rw [show len * ((j + 1 : Nat) : Int) = len * (j : Int) + len by rw [Int.natCast_add, Int.mul_add]; simp]
    exact this
theorem ck_dst (h : OkT n ss) (c : Ck n ss t δ len) {x : Int} (x0 : 0 ≤ x) (x1 : x < n) : dst n ss x t = some (len * δ x) := by
  rw [dst_iff]
  have d0 := c.nn x x0 x1
  obtain ⟨j, hj⟩ := Int.eq_ofNat_of_zero_le d0
  refine ⟨⟨j, ?_⟩, fun k q w => ?_⟩
  · rw [hj]; exact ck_ex h c j x x0 x1 hj
  · obtain ⟨e, l⟩ := ck_low h c w x0 x1
    rw [c.t0] at l
    rw [e]
    exact Int.mul_le_mul_of_nonneg_left (by omega) (by have := c.l1; omega)
def goD (n : Int) (ss : List Stt) (t : Int) (δ : Int → Int) : Nat → Int → List Int
  | 0, _ => []
  | k + 1, x => if x = t then [] else match ((nextL n ss x).filter fun y => decide (δ y + 1 = δ x)).head? with
    | some b => b :: goD n ss t δ k b
    | none => []
theorem ck_good (h : OkT n ss) (c : Ck n ss t δ len) {x : Int} (x0 : 0 ≤ x) (x1 : x < n) : good n ss t x = (nextL n ss x).filter fun y => decide (δ y + 1 = δ x) := by
  unfold good
  refine List.filter_congr fun y hy => ?_
  obtain ⟨y0, y1, _⟩ := mem_next h hy
  unfold goodB
  rw [ck_dst h c x0 x1, ck_dst h c y0 y1, (c.ed x y x0 x1 hy).1]
  dsimp only
  have l1 := c.l1
  by_cases e : δ y + 1 = δ x
  · rw [decide_eq_true e, ← e]
    exact decide_eq_true (by rw [Int.mul_add]; simp)
  · rw [decide_eq_false e]
    refine decide_eq_false fun z => e ?_
    have z : len * (δ y + 1) = len * δ x := by rw [Int.mul_add, Int.mul_one]; exact z
    exact Int.eq_of_mul_eq_mul_left (by omega) z
theorem ck_go (h : OkT n ss) (c : Ck n ss t δ len) : ∀ (k : Nat) (x : Int), 0 ≤ x → x < n → goP n ss t k x = goD n ss t δ k x
  | 0, _, _, _ => rfl
  | k + 1, x, x0, x1 => by
    show (if x = t then [] else match (good n ss t x).head? with | some b => b :: goP n ss t k b | none => []) = (if x = t then [] else match ((nextL n ss x).filter fun y => decide (δ y + 1 = δ x)).head? with | some b => b :: goD n ss t δ k b | none => [])
    rw [ck_good h c x0 x1]
    by_cases e : x = t
    · rw [if_pos e, if_pos e]
    · rw [if_neg e, if_neg e]
      cases q : ((nextL n ss x).filter fun y => decide (δ y + 1 = δ x)).head? with
      | none => rfl
      | some b =>
        have hb := (List.mem_filter.mp (List.mem_of_mem_head? (by rw [q]; rfl))).1
        obtain ⟨b0, b1, _⟩ := mem_next h hb
        show b :: goP n ss t k b = b :: goD n ss t δ k b
        rw [ck_go h c k b b0 b1]
theorem ck_path (h : OkT n ss) (c : Ck n ss t δ len) {x : Int} (x0 : 0 ≤ x) (x1 : x < n) : pathD n ss x t = rowT (x :: goD n ss t δ n.toNat x) := by
  unfold pathD
  rw [ck_dst h c x0 x1, ck_go h c _ x x0 x1]
def ckB (n : Int) (ss : List Stt) (t : Int) (δ : Int → Int) (len : Int) : Bool := decide (1 ≤ len) && decide (δ t = 0) && (List.range n.toNat).all fun i : Nat => decide (0 ≤ δ (i : Int)) && ((nextL n ss (i : Int)).all (fun y => decide (lenAt ss (i : Int) y = len) && decide (δ (i : Int) ≤ δ y + 1)) && (decide ((i : Int) = t) || (nextL n ss (i : Int)).any fun y => decide (δ y + 1 = δ (i : Int))))
theorem ckB_ok (h : ckB n ss t δ len = true) : Ck n ss t δ len := by
  unfold ckB at h
  simp only [Bool.and_eq_true, decide_eq_true_eq] at h
  obtain ⟨⟨h1, h2⟩, h3⟩ := h
  have at_ : ∀ x, 0 ≤ x → x < n → 0 ≤ δ x ∧ (∀ y ∈ nextL n ss x, lenAt ss x y = len ∧ δ x ≤ δ y + 1) ∧ (x ≠ t → ∃ y ∈ nextL n ss x, δ y + 1 = δ x) := fun x x0 x1 => by
    obtain ⟨i, rfl⟩ := Int.eq_ofNat_of_zero_le x0
    have q := List.all_eq_true.mp h3 i (List.mem_range.mpr (by omega))
    simp only [Bool.and_eq_true, Bool.or_eq_true, decide_eq_true_eq] at q
    obtain ⟨q1, q2, q3⟩ := q
    refine ⟨q1, fun y hy => ?_, fun ne => ?_⟩
    · have := List.all_eq_true.mp q2 y hy
      simpa using this
    · rcases q3 with q3 | q3
      · exact absurd q3 ne
      · obtain ⟨y, hy, e⟩ := List.any_eq_true.mp q3
        exact ⟨y, hy, of_decide_eq_true e⟩
  exact ⟨h1, h2, fun x x0 x1 => (at_ x x0 x1).1, fun x y x0 x1 hy => (at_ x x0 x1).2.1 y hy, fun x x0 x1 ne => (at_ x x0 x1).2.2 ne⟩
end
/-! towns that a check tells right -/
def okSB (n : Int) (s : Stt) : Bool := decide (s.2.2.2 ∈ kinds) && decide (0 ≤ s.1) && decide (s.1 < n) && decide (0 ≤ s.2.1) && decide (s.2.1 < n) && decide (1 ≤ s.2.2.1) && decide (s.2.2.1 ≤ 9) && (decide (s.1 < s.2.1) || (decide (s.2.2.2 = ("lane" : Str)) && decide (s.1 ≠ s.2.1)))
def adjB (ss : List Stt) : Bool := (ss.zip (ss.drop 1)).all fun p => W.dataLt (sP p.1) (sP p.2)
def okB (n : Int) (ss : List Stt) : Bool := decide (2 ≤ n) && decide (n ≤ 8) && decide (1 ≤ ss.length) && decide (ss.length ≤ 12) && ss.all (okSB n) && decide (ss.map ends).Nodup && adjB ss
theorem okB_ok {n : Int} {ss : List Stt} (h : okB n ss = true) : OkT n ss := by
  unfold okB at h
  simp only [Bool.and_eq_true, decide_eq_true_eq] at h
  obtain ⟨⟨⟨⟨⟨⟨h1, h2⟩, h3⟩, h4⟩, h5⟩, h6⟩, h7⟩ := h
  refine ⟨h1, h2, h3, h4, fun s hs => ?_, h6, fun i a b ha hb => ?_⟩
  · have := List.all_eq_true.mp h5 s hs
    unfold okSB at this
    simp only [Bool.and_eq_true, Bool.or_eq_true, decide_eq_true_eq] at this
    obtain ⟨⟨⟨⟨⟨⟨⟨k1, k2⟩, k3⟩, k4⟩, k5⟩, k6⟩, k7⟩, k8⟩ := this
    exact ⟨k1, k2, k3, k4, k5, k6, k7, k8⟩
  · have hz : (a, b) ∈ ss.zip (ss.drop 1) := List.mem_iff_getElem?.mpr ⟨i, List.getElem?_zip_eq_some.mpr ⟨ha, by rw [List.getElem?_drop, Nat.add_comm]; exact hb⟩⟩
    exact List.all_eq_true.mp h7 _ hz
def Ns : List Nat := [3, 4, 5, 6, 7, 8]
def Ls : List Int := [1, 2, 3, 4, 5, 6, 7, 8, 9]
def lanesS (N : Nat) (len : Int) : List Stt := (List.range N).map fun i : Nat => ((i : Int), ((i : Int) + 1) % (N : Int), len, "lane")
def lineS (N : Nat) (len : Int) : List Stt := (List.range (N - 1)).map fun i : Nat => ((i : Int), (i : Int) + 1, len, "narrow")
def closeS (N : Nat) (len : Int) : Stt := (0, (N : Int) - 1, len, "narrow")
def ringS (N : Nat) (len : Int) : List Stt := match lineS N len with
  | [] => []
  | a :: l => a :: closeS N len :: l
def dL (N : Nat) (v : Int) : Int := ((N : Int) - v) % (N : Int)
def absI (x : Int) : Int := if x < 0 then -x else x
def dR (N : Nat) (t v : Int) : Int := if absI (v - t) ≤ (N : Int) - absI (v - t) then absI (v - t) else (N : Int) - absI (v - t)
def halfI (N : Nat) : Int := ((N / 2 : Nat) : Int)
theorem lanes_ok : ∀ N ∈ Ns, ∀ l ∈ Ls, okB (N : Int) (lanesS N l) = true ∧ ckB (N : Int) (lanesS N l) 0 (dL N) l = true ∧ (1 : Int) :: goD (N : Int) (lanesS N l) 0 (dL N) ((N : Int)).toNat 1 = ((List.range (N - 1)).map fun i : Nat => 1 + (i : Int)) ++ [0] ∧ dL N 1 = (N : Int) - 1 := by decide +kernel
theorem ring_ok : ∀ N ∈ Ns, ∀ l ∈ Ls, okB (N : Int) (ringS N l) = true ∧ ckB (N : Int) (ringS N l) (halfI N) (dR N (halfI N)) l = true ∧ (0 : Int) :: goD (N : Int) (ringS N l) (halfI N) (dR N (halfI N)) ((N : Int)).toNat 0 = ((List.range (N / 2 + 1)).map fun i : Nat => (i : Int)) ∧ dR N (halfI N) 0 = halfI N ∧ ckB (N : Int) (ringS N l) ((N : Int) - 1) (dR N ((N : Int) - 1)) l = true ∧ dR N ((N : Int) - 1) 0 = 1 := by decide +kernel
end K01
end
section
set_option Elab.async false
set_option linter.all false
set_option maxRecDepth 100000
namespace K01
open PySem L2 Q T
variable {m : Sto}
theorem ring_srt : ∀ N ∈ Ns, ∀ l ∈ Ls, (ringS N l).Pairwise fun a b => W.dataLt (sP b) (sP a) = false := by decide +kernel
def oneS (len : Int) : List Stt := [(1, 0, len, "lane")]
theorem one_ok : ∀ l ∈ Ls, okB 3 (oneS l) = true ∧ nextL 3 (oneS l) 0 = [] ∧ nextL 3 (oneS l) 1 = [0] ∧ lenAt (oneS l) 1 0 = l := by decide +kernel
theorem far_none {n : Int} {ss : List Stt} (S : List Int) {x t : Int} (hx : x ∈ S) (hS : ∀ u ∈ S, ∀ v ∈ nextL n ss u, v ∈ S) (ht : t ∉ S) : dst n ss x t = none := by
  have go : ∀ {v : Int} {k : Nat} {c : Int}, Wk (nextL n ss) (lenAt ss) x v k c → v ∈ S := fun {v k c} w => by
    induction w with
    | nil => exact hx
    | snoc _ hv ih => exact hS _ ih _ hv
  cases e : dst n ss x t with
  | none => rfl
  | some d =>
    obtain ⟨⟨k, w⟩, _⟩ := dst_iff.mp e
    exact absurd (go w) ht
theorem one_far {len : Int} (hl : len ∈ Ls) : OkT 3 (oneS len) ∧ dst 3 (oneS len) 0 1 = none ∧ dst 3 (oneS len) 1 0 = some len ∧ dst 3 (oneS len) 1 2 = none ∧ dst 3 (oneS len) 2 2 = some 0 := by
  obtain ⟨h1, h2, h3, h4⟩ := one_ok len hl
  have ok := okB_ok h1
  refine ⟨ok, far_none [0] (by simp) (fun u hu v hv => ?_) (by decide), ?_, far_none [1, 0] (by simp) (fun u hu v hv => ?_) (by decide), dst_self ok 2⟩
  · rw [List.mem_singleton] at hu; subst hu
    rw [h2] at hv; cases hv
  · rw [dst_iff]
    have h0 : (0 : Int) ∈ nextL 3 (oneS len) 1 := by rw [h3]; simp
    refine ⟨⟨1, ?_⟩, fun k c w => ?_⟩
    · have := Wk.snoc (Wk.nil (N := nextL 3 (oneS len)) (w := lenAt (oneS len)) (s := 1)) h0
      rw [h4, Int.zero_add] at this
      exact this
    · rcases w.first with ⟨_, q, _⟩ | ⟨b, k', hb, _, hw⟩
      · cases q
      · rw [h3, List.mem_singleton] at hb
        subst hb
        have := hw.nonneg (gph ok)
        rw [h4] at this
        omega
  · simp only [List.mem_cons, List.not_mem_nil, or_false] at hu
    rcases hu with rfl | rfl
    · rw [h3] at hv; simp at hv; simp [hv]
    · rw [h2] at hv; cases hv
def LE (K : D) (z2 z3 z4 z5 z6 z7 z8 z9 z10 z11 z12 z13 z14 : Sl) : Q.Env := [.dat K, .dat (.cell 0), z2, z3, z4, z5, z6, z7, z8, z9, z10, z11, z12, z13, z14, .un, .un]
variable {K : D} {z2 z3 z4 z5 z6 z7 z8 z9 z10 z11 z12 z13 z14 : Sl}
def e1s : Sd := (sAsg (opN gTup (aC (op2 gAdd (eC (.int 3)) (callD 2 d__law_roll (aC (eV 1) (aC (eC (.int 6)) aN)))) (aC (op2 gAdd (eC (.int 1)) (callD 2 d__law_roll (aC (eV 1) (aC (eC (.int 9)) aN)))) aN))) (pT (pCons (pN 9) (pCons (pN 10) pNil))))
def e2s : Sd := (sSet 11 (opN gTup (aC (eV 9) (aC (opN gTupleOf (aC (opN gSort (aC (eLc (iRg1 (eV 9)) (pN 16) bYes (opN gTup (aC (eV 16) (aC (op2 gMod (opN gInt (aC (op2 gAdd (eB 16) (eC (.int 1))) aN)) (eB 9)) (aC (eV 10) (aC (eC (.str "lane")) aN))))) [16]) aN)) aN)) aN))))
def e3s : Sd := (sSet 12 (opN gTup (aC (eV 9) (aC (opN gTupleOf (aC (opN gSort (aC (op2 gAdd (eLc (iRg1 (op2 Q.gSub (eB 9) (eC (.int 1)))) (pN 16) bYes (opN gTup (aC (eV 16) (aC (op2 gAdd (eB 16) (eC (.int 1))) (aC (eV 10) (aC (eC (.str "narrow")) aN))))) [16]) (opN gLst (aC (opN gTup (aC (eC (.int 0)) (aC (op2 Q.gSub (eB 9) (eC (.int 1))) (aC (eV 10) (aC (eC (.str "narrow")) aN))))) aN))) aN)) aN)) aN))))
def e4s : Sd := (sSet 13 (op2 gDiv (eB 9) (eC (.int 2))))
def e5s : Sd := (sSet 14 (opN gTup (aC (callD 3 d_distance (aC (eV 11) (aC (eC (.int 1)) (aC (eC (.int 0)) aN)))) (aC (callD 3 d_shortest_drive (aC (eV 11) (aC (eC (.int 1)) (aC (eC (.int 0)) aN)))) (aC (callD 3 d_distance (aC (eV 12) (aC (eC (.int 0)) (aC (eV 13) aN)))) (aC (callD 3 d_shortest_drive (aC (eV 12) (aC (eC (.int 0)) (aC (eV 13) aN)))) (aC (callD 3 d_distance (aC (eV 12) (aC (eC (.int 0)) (aC (op2 Q.gSub (eB 9) (eC (.int 1))) aN)))) aN)))))))
def e6s : Sd := (sSet 8 (opN gTup (aC (op2 gMulA (op2 Q.gSub (eB 9) (eC (.int 1))) (eB 10)) (aC (op2 gAdd (eRgB true (eC (.int 1)) (eB 9)) (opN gTup (aC (eC (.int 0)) aN))) (aC (op2 gMulA (eB 13) (eB 10)) (aC (eRgA true (op2 gAdd (eB 13) (eC (.int 1)))) (aC (eV 10) aN)))))))
def e7s : Sd := (sIf (bNot (bE (callD 2 d__law_same (aC (eV 14) (aC (eV 8) aN)))))
  (sRet (eC (.bl false)))
  sNext)
def e8s : Sd := (sSet 5 (opN gTup (aC (eC (.int 3)) (aC (opN gTup (aC (opN gTup (aC (eC (.int 1)) (aC (eC (.int 0)) (aC (eV 10) (aC (eC (.str "lane")) aN))))) aN)) aN))))
def e9s : Sd := (sSet 14 (opN gTup (aC (callD 3 d_distance (aC (eV 5) (aC (eC (.int 0)) (aC (eC (.int 1)) aN)))) (aC (callD 3 d_distance (aC (eV 5) (aC (eC (.int 1)) (aC (eC (.int 0)) aN)))) (aC (callD 3 d_shortest_drive (aC (eV 5) (aC (eC (.int 1)) (aC (eC (.int 2)) aN)))) (aC (callD 3 d_shortest_drive (aC (eV 5) (aC (eC (.int 2)) (aC (eC (.int 2)) aN)))) (aC (callD 3 d_shortest_drive (aC (eV 5) (aC (eC (.int 0)) (aC (eC (.int 1)) aN)))) aN)))))))
def e10s : Sd := (sRet (callD 2 d__law_same (aC (eV 14) (aC (opN gTup (aC (eC .non) (aC (eV 10) (aC (eC .non) (aC (opN gTup (aC (eC (.int 2)) aN)) (aC (eC .non) aN)))))) aN))))
def lCup : Sd := (sCell 1 (callD 1 d__law_cup (aC (eV 0) aN)))
theorem law_eq : b_law = sSeq lCup (sSeq (sFor (iRg1 (eC (.int 3))) (pN 2) tB) (sSeq e1s (sSeq e2s (sSeq e3s (sSeq e4s (sSeq e5s (sSeq e6s (sSeq e7s (sSeq e8s (sSeq e9s e10s)))))))))) := rfl
theorem e1_at (a b : Int) : ∃ (N : Nat) (len a' b' : Int), e1s (LV K z2 z3 z4 z5 z6 z7 z8) (cup a b) = .nx (LE K z2 z3 z4 z5 z6 z7 z8 (.dat (.int (N : Int))) (.dat (.int len)) .un .un .un .un) (cup a' b') ∧ N ∈ Ns ∧ len ∈ Ls := by
  obtain ⟨v, a1, b1, e1, v0, v1⟩ := roll_ok a b 6 (by decide) (by decide)
  obtain ⟨u, a2, b2, e2, u0, u1⟩ := roll_ok a1 b1 9 (by decide) (by decide)
  obtain ⟨v', rfl⟩ := Int.eq_ofNat_of_zero_le v0
  refine ⟨3 + v', 1 + u, a2, b2, ?_, by simp [Ns]; omega, by simp [Ls]; omega⟩
  exact asg_at (d := .tup [.int ((3 + v' : Nat) : Int), .int (1 + u)]) (opN2_at (op2_at (d := .int ((3 + v' : Nat) : Int)) c_at (call2_at (v_at rfl) c_at e1) (by rw [Int.natCast_add]; rfl)) (op2_at c_at (call2_at (v_at rfl) c_at e2) rfl) rfl) rfl
theorem Ns_b {N : Nat} (h : N ∈ Ns) : 3 ≤ N ∧ N ≤ 8 := by
  simp [Ns] at h; omega
theorem Ls_b {l : Int} (h : l ∈ Ls) : 1 ≤ l ∧ l ≤ 9 := by
  simp [Ls] at h; omega
theorem sP_lt {a b : Stt} (h : a.1 < b.1) : W.dataLt (sP b) (sP a) = false := by
  unfold sP
  rw [W.dataLt_tuple, W.dataLt_cons (by simp [W.alike]), if_neg (by simp [PyData.eqv]; omega), W.dataLt_int]
  exact decide_eq_false (by omega)
theorem e2_at {N : Nat} {len : Int} (hN : N ∈ Ns) : e2s (LE K z2 z3 z4 z5 z6 z7 z8 (.dat (.int (N : Int))) (.dat (.int len)) z11 z12 z13 z14) m = .nx (LE K z2 z3 z4 z5 z6 z7 z8 (.dat (.int (N : Int))) (.dat (.int len)) (.dat (townD (N : Int) (lanesS N len))) z12 z13 z14) m := by
  have hb := Ns_b hN
  have hc : eLc (iRg1 (eV 9)) (pN 16) bYes (opN gTup (aC (eV 16) (aC (op2 gMod (opN gInt (aC (op2 gAdd (eB 16) (eC (.int 1))) aN)) (eB 9)) (aC (eV 10) (aC (eC (.str "lane")) aN))))) [16] (LE K z2 z3 z4 z5 z6 z7 z8 (.dat (.int (N : Int))) (.dat (.int len)) z11 z12 z13 z14) m = .ok (.lst ((lanesS N len).map sD)) m := by
    refine lc_at (iRg1_at (v_at rfl) (by omega)) (by rw [range_len, Int.toNat_natCast]; show _ ≤ 100000; omega) ?_
    rw [Int.toNat_natCast, T.range_map]
    unfold lanesS
    rw [List.map_map]
    refine lcD_map (fun i : Nat => D.int (i : Int)) _ _ fun i _ => ⟨[.dat K, .dat (.cell 0), z2, z3, z4, z5, z6, z7, z8, .dat (.int (N : Int)), .dat (.int len), z11, z12, z13, z14, .un, .dat (.int (i : Int))], rfl, ?_⟩
    exact opN4_at (v_at rfl) (op2_at (opN1_at (op2_at (b_at rfl) c_at rfl) rfl) (b_at rfl) (gMod_i (by omega))) (v_at rfl) c_at rfl
  have st := sort_streets (lanesS N len)
  have pw : (lanesS N len).Pairwise fun a b => a.1 < b.1 := by
    unfold lanesS
    rw [List.pairwise_map]
    exact List.pairwise_lt_range.imp fun {a b} hab => by show (a : Int) < (b : Int); omega
  have hs : gSort m [.lst ((lanesS N len).map sD)] = some (.lst ((lanesS N len).map sD)) := by
    rw [gSort_of (ds := (lanesS N len).map sD) rfl st.1 (by unfold lanesS; rw [List.length_map, List.length_map, List.length_range]; show _ ≤ 100000; omega), st.2, List.mergeSort_of_pairwise (pw.imp fun hab => by rw [sP_lt hab]; rfl)]
  exact set_to (opN2_at (v_at rfl) (opN1_at (opN1_at hc hs) rfl) rfl) rfl
theorem ring_sort {N : Nat} {len : Int} (hN : N ∈ Ns) (hl : len ∈ Ls) : ((lineS N len ++ [closeS N len]).mergeSort fun a b => !W.dataLt (sP b) (sP a)) = ringS N len := by
  have hb := Ns_b hN
  have pm : (lineS N len ++ [closeS N len]).Perm (ringS N len) := by
    unfold ringS
    cases e : lineS N len with
    | nil =>
      have : (lineS N len).length = N - 1 := by unfold lineS; rw [List.length_map, List.length_range]
      rw [e] at this
      simp at this; omega
    | cons a l => exact (List.perm_append_singleton (closeS N len) l).cons a
  have pm2 := (List.mergeSort_perm (lineS N len ++ [closeS N len]) fun a b => !W.dataLt (sP b) (sP a)).trans pm
  refine List.Perm.eq_of_pairwise (le := fun a b => W.dataLt (sP b) (sP a) = false) (fun a b _ _ h1 h2 => sP_inj (PyProof.Rows.lex_total _ _ h2 h1)) (sorted_up sP _) (ring_srt N hN len hl) pm2
theorem e3_at {N : Nat} {len : Int} (hN : N ∈ Ns) (hl : len ∈ Ls) : e3s (LE K z2 z3 z4 z5 z6 z7 z8 (.dat (.int (N : Int))) (.dat (.int len)) z11 z12 z13 z14) m = .nx (LE K z2 z3 z4 z5 z6 z7 z8 (.dat (.int (N : Int))) (.dat (.int len)) z11 (.dat (townD (N : Int) (ringS N len))) z13 z14) m := by
  have hb := Ns_b hN
  have hc : eLc (iRg1 (op2 Q.gSub (eB 9) (eC (.int 1)))) (pN 16) bYes (opN gTup (aC (eV 16) (aC (op2 gAdd (eB 16) (eC (.int 1))) (aC (eV 10) (aC (eC (.str "narrow")) aN))))) [16] (LE K z2 z3 z4 z5 z6 z7 z8 (.dat (.int (N : Int))) (.dat (.int len)) z11 z12 z13 z14) m = .ok (.lst ((lineS N len).map sD)) m := by
    refine lc_at (iRg1_at (j := (N : Int) - 1) (op2_at (b_at rfl) c_at rfl) (by omega)) (by rw [range_len]; show _ ≤ 100000; omega) ?_
    rw [show ((N : Int) - 1).toNat = N - 1 by omega, T.range_map]
    unfold lineS
    rw [List.map_map]
    refine lcD_map (fun i : Nat => D.int (i : Int)) _ _ fun i _ => ⟨[.dat K, .dat (.cell 0), z2, z3, z4, z5, z6, z7, z8, .dat (.int (N : Int)), .dat (.int len), z11, z12, z13, z14, .un, .dat (.int (i : Int))], rfl, ?_⟩
    exact opN4_at (v_at rfl) (op2_at (b_at rfl) c_at rfl) (v_at rfl) c_at rfl
  have ll : (lineS N len).length = N - 1 := by unfold lineS; rw [List.length_map, List.length_range]
  have st := sort_streets (lineS N len ++ [closeS N len])
  have hs : gSort m [.lst ((lineS N len ++ [closeS N len]).map sD)] = some (.lst ((ringS N len).map sD)) := by
    rw [gSort_of (ds := (lineS N len ++ [closeS N len]).map sD) rfl st.1 (by rw [List.length_map, List.length_append, ll]; show _ + 1 ≤ 100000; omega), st.2, ring_sort hN hl]
  have ha := gAdd_l (m := m) (xs := (lineS N len).map sD) (ys := [sD (closeS N len)]) (by rw [List.length_map, ll]; show _ + 1 ≤ 100000; omega)
  have he : (lineS N len).map sD ++ [sD (closeS N len)] = (lineS N len ++ [closeS N len]).map sD := by rw [List.map_append]; rfl
  rw [he] at ha
  exact set_to (opN2_at (v_at rfl) (opN1_at (opN1_at (op2_at hc (opN1_at (opN4_at c_at (op2_at (b_at rfl) c_at rfl) (v_at rfl) c_at rfl) rfl) ha) hs) rfl) rfl) rfl
theorem rgB_at {f g : Ed} {r : Q.Env} {i j : Int} (e1 : f r m = .ok (.int i) m) (e2 : g r m = .ok (.int j) m) (h : -(2 ^ 62) ≤ i ∧ i < 2 ^ 62 ∧ -(2 ^ 62) ≤ j ∧ j < 2 ^ 62 ∧ (j - i).toNat ≤ 100000) : eRgB true f g r m = .ok (.tup (rangeD i (j - i).toNat)) m := by
  unfold eRgB
  rw [e1]
  show ((g r m).bind fun y m2 => rgE true (.int i) y m2) = _
  rw [e2]
  show rgE true (.int i) (.int j) m = _
  rw [rgE_ok h]; rfl
theorem rgA_at {f : Ed} {r : Q.Env} {j : Int} (e1 : f r m = .ok (.int j) m) (h : -(2 ^ 62) ≤ (0 : Int) ∧ (0 : Int) < 2 ^ 62 ∧ -(2 ^ 62) ≤ j ∧ j < 2 ^ 62 ∧ (j - 0).toNat ≤ 100000) : eRgA true f r m = .ok (.tup (rangeD 0 (j - 0).toNat)) m := by
  unfold eRgA
  rw [e1]
  show rgE true (.int 0) (.int j) m = _
  rw [rgE_ok h]; rfl
def toldD (N : Nat) (len : Int) : D := .tup [.int (((N : Int) - 1) * len), rowT (((List.range (N - 1)).map fun i : Nat => 1 + (i : Int)) ++ [0]), .int (halfI N * len), rowT ((List.range (N / 2 + 1)).map fun i : Nat => (i : Int)), .int len]
theorem e5_at {N : Nat} {len : Int} (hN : N ∈ Ns) (hl : len ∈ Ls) : e5s (LE K z2 z3 z4 z5 z6 z7 z8 (.dat (.int (N : Int))) (.dat (.int len)) (.dat (townD (N : Int) (lanesS N len))) (.dat (townD (N : Int) (ringS N len))) (.dat (.int (halfI N))) z14) m = .nx (LE K z2 z3 z4 z5 z6 z7 z8 (.dat (.int (N : Int))) (.dat (.int len)) (.dat (townD (N : Int) (lanesS N len))) (.dat (townD (N : Int) (ringS N len))) (.dat (.int (halfI N))) (.dat (toldD N len))) m := by
  have hb := Ns_b hN
  obtain ⟨a1, a2, a3, a4⟩ := lanes_ok N hN len hl
  obtain ⟨b1, b2, b3, b4, b5, b6⟩ := ring_ok N hN len hl
  have ha := okB_ok a1
  have hr := okB_ok b1
  have ca := ckB_ok a2
  have cr := ckB_ok b2
  have cr2 := ckB_ok b5
  have hh : 0 ≤ halfI N ∧ halfI N < (N : Int) := by unfold halfI; omega
  have q1 := dist_at ha (a := 1) (b := 0) (by decide) (by omega) (by decide) (by omega) m
  have q2 := short_at ha (a := 1) (b := 0) (by decide) (by omega) (by decide) (by omega) m
  have q3 := dist_at hr (a := 0) (b := halfI N) (by decide) (by omega) hh.1 hh.2 m
  have q4 := short_at hr (a := 0) (b := halfI N) (by decide) (by omega) hh.1 hh.2 m
  have q5 := dist_at hr (a := 0) (b := (N : Int) - 1) (by decide) (by omega) (by omega) (by omega) m
  rw [ck_dst ha ca (by decide) (by omega), a4, Int.mul_comm] at q1
  rw [ck_path ha ca (by decide) (by omega), a3] at q2
  rw [ck_dst hr cr (by decide) (by omega), b4, Int.mul_comm] at q3
  rw [ck_path hr cr (by decide) (by omega), b3] at q4
  rw [ck_dst hr cr2 (by decide) (by omega), b6, Int.mul_one] at q5
  exact set_to (opN_at (xs := [.int (((N : Int) - 1) * len), rowT (((List.range (N - 1)).map fun i : Nat => 1 + (i : Int)) ++ [0]), .int (halfI N * len), rowT ((List.range (N / 2 + 1)).map fun i : Nat => (i : Int)), .int len]) (a1_at (call3_at (v_at rfl) c_at c_at q1) (a1_at (call3_at (v_at rfl) c_at c_at q2) (a1_at (call3_at (v_at rfl) c_at (v_at rfl) q3) (a1_at (call3_at (v_at rfl) c_at (v_at rfl) q4) (a1_at (call3_at (v_at rfl) c_at (op2_at (b_at rfl) c_at rfl) q5) a0_at))))) rfl) rfl
theorem e6_at {N : Nat} {len : Int} (hN : N ∈ Ns) (hl : len ∈ Ls) : e6s (LE K z2 z3 z4 z5 z6 z7 z8 (.dat (.int (N : Int))) (.dat (.int len)) z11 z12 (.dat (.int (halfI N))) z14) m = .nx (LE K z2 z3 z4 z5 z6 z7 (.dat (toldD N len)) (.dat (.int (N : Int))) (.dat (.int len)) z11 z12 (.dat (.int (halfI N))) z14) m := by
  have hb := Ns_b hN
  have hlb := Ls_b hl
  have hh : 0 ≤ halfI N ∧ halfI N < (N : Int) := by unfold halfI; omega
  have v2 : op2 gAdd (eRgB true (eC (.int 1)) (eB 9)) (opN Q.gTup (aC (eC (.int 0)) aN)) (LE K z2 z3 z4 z5 z6 z7 z8 (.dat (.int (N : Int))) (.dat (.int len)) z11 z12 (.dat (.int (halfI N))) z14) m = .ok (rowT (((List.range (N - 1)).map fun i : Nat => 1 + (i : Int)) ++ [0])) m := by
    refine op2_at (rgB_at c_at (b_at rfl) (by omega)) (opN1_at c_at rfl) ?_
    have e : D.tup (rangeD 1 ((N : Int) - 1).toNat) = rowT ((List.range (N - 1)).map fun i : Nat => 1 + (i : Int)) := by
      unfold rowT rangeD
      rw [List.map_map, show ((N : Int) - 1).toNat = N - 1 by omega]; rfl
    rw [e]
    exact addT (b := [0]) (by rw [List.length_map, List.length_range]; show _ + 1 ≤ 100000; omega)
  have v4 : eRgA true (op2 gAdd (eB 13) (eC (.int 1))) (LE K z2 z3 z4 z5 z6 z7 z8 (.dat (.int (N : Int))) (.dat (.int len)) z11 z12 (.dat (.int (halfI N))) z14) m = .ok (rowT ((List.range (N / 2 + 1)).map fun i : Nat => (i : Int))) m := by
    have q := rgA_at (m := m) (f := op2 gAdd (eB 13) (eC (.int 1))) (r := LE K z2 z3 z4 z5 z6 z7 z8 (.dat (.int (N : Int))) (.dat (.int len)) z11 z12 (.dat (.int (halfI N))) z14) (j := halfI N + 1) (op2_at (b_at rfl) c_at rfl) (by omega)
    rw [q]
    unfold rowT
    rw [show (halfI N + 1 - 0).toNat = N / 2 + 1 by unfold halfI; omega, T.range_map, List.map_map]; rfl
  exact set_to (opN_at (xs := [.int (((N : Int) - 1) * len), rowT (((List.range (N - 1)).map fun i : Nat => 1 + (i : Int)) ++ [0]), .int (halfI N * len), rowT ((List.range (N / 2 + 1)).map fun i : Nat => (i : Int)), .int len]) (a1_at (op2_at (op2_at (b_at rfl) c_at rfl) (b_at rfl) (gMul_l (by omega))) (a1_at v2 (a1_at (op2_at (b_at rfl) (b_at rfl) (gMul_l (by omega))) (a1_at v4 (a1_at (v_at rfl) a0_at))))) rfl) rfl
theorem told_sm {N : Nat} {len : Int} (hN : N ∈ Ns) : Sm 7 (toldD N len) := by
  have hb := Ns_b hN
  refine .tup 6 _ (by show 5 < 100000; decide) fun x hx => ?_
  simp at hx
  rcases hx with rfl | rfl | rfl | rfl | rfl
  · exact .int _ _
  · exact row_sm 4 (by rw [List.length_append, List.length_map, List.length_range]; simp; omega)
  · exact .int _ _
  · exact row_sm 4 (by rw [List.length_map, List.length_range]; omega)
  · exact .int _ _
def told2 (len : Int) : D := .tup [.non, .int len, .non, rowT [2], .non]
theorem told2_sm {len : Int} : Sm 7 (told2 len) := by
  refine .tup 6 _ (by show 5 < 100000; decide) fun x hx => ?_
  simp only [List.mem_cons, List.not_mem_nil, or_false] at hx
  rcases hx with rfl | rfl | rfl | rfl | rfl
  · exact .non _
  · exact .int _ _
  · exact .non _
  · exact row_sm 4 (by simp)
  · exact .non _
theorem e9_at {len : Int} (hl : len ∈ Ls) : e9s (LE K z2 z3 z4 (.dat (townD 3 (oneS len))) z6 z7 z8 z9 z10 z11 z12 z13 z14) m = .nx (LE K z2 z3 z4 (.dat (townD 3 (oneS len))) z6 z7 z8 z9 z10 z11 z12 z13 (.dat (told2 len))) m := by
  obtain ⟨h, d1, d2, d3, d4⟩ := one_far hl
  have q1 := dist_at h (a := 0) (b := 1) (by decide) (by decide) (by decide) (by decide) m
  have q2 := dist_at h (a := 1) (b := 0) (by decide) (by decide) (by decide) (by decide) m
  have q3 := short_at h (a := 1) (b := 2) (by decide) (by decide) (by decide) (by decide) m
  have q4 := short_at h (a := 2) (b := 2) (by decide) (by decide) (by decide) (by decide) m
  have q5 := short_at h (a := 0) (b := 1) (by decide) (by decide) (by decide) (by decide) m
  rw [d1] at q1
  rw [d2] at q2
  unfold pathD at q3 q4 q5
  rw [d3] at q3
  rw [d4, goP_end] at q4
  rw [d1] at q5
  exact set_to (opN_at (xs := [.non, .int len, .non, rowT [2], .non]) (a1_at (call3_at (v_at rfl) c_at c_at q1) (a1_at (call3_at (v_at rfl) c_at c_at q2) (a1_at (call3_at (v_at rfl) c_at c_at q3) (a1_at (call3_at (v_at rfl) c_at c_at q4) (a1_at (call3_at (v_at rfl) c_at c_at q5) a0_at))))) rfl) rfl
theorem e10_at {len : Int} : e10s (LE K z2 z3 z4 z5 z6 z7 z8 z9 (.dat (.int len)) z11 z12 z13 (.dat (told2 len))) m = .rt false (.bl true) m :=
  ret_at (call2_at (v_at rfl) (opN_at (xs := [.non, .int len, .non, rowT [2], .non]) (a1_at c_at (a1_at (v_at rfl) (a1_at c_at (a1_at (opN1_at c_at rfl) (a1_at c_at a0_at))))) rfl) (same_sm told2_sm m))
theorem holds (ns : List Int) (h1 : ns.length ≤ 63) (h2 : ∀ z ∈ ns, PySem.Builtin.Int.intBits z ≤ 1048576) : ∃ m, d_law [.klst (ns.map D.int)] [] = .ok (.bl true) m := by
  obtain ⟨a, b, ec⟩ := cup_ok ns h1
  have s1 : lCup (startR 17 [.klst (ns.map D.int)]) [] = .nx (LV (.klst (ns.map D.int)) .un .un .un .un .un .un .un) (cup a b) := by
    unfold lCup
    rw [sCell_ap]
    show cell1 1 (d__law_cup [.klst (ns.map D.int)] []) _ = _
    rw [ec]; rfl
  obtain ⟨r', m', e, y2, y3, y4, y5, y6, y7, y8, a1, b1, rfl, rfl⟩ := forD_inv (p := pN 2) (b := tB) (fun _ r m' => ∃ z2 z3 z4 z5 z6 z7 z8 a b, r = LV (.klst (ns.map D.int)) z2 z3 z4 z5 z6 z7 z8 ∧ m' = cup a b) (rangeD 0 3) 0
    (LV (.klst (ns.map D.int)) .un .un .un .un .un .un .un) (cup a b) (by
      rintro j d r m' hd ⟨z2, z3, z4, z5, z6, z7, z8, a, b, rfl, rfl⟩
      obtain ⟨y3, y4, y5, y6, y7, y8, a', b', e⟩ := turn_at (K := .klst (ns.map D.int)) (z2 := .dat d) (z3 := z3) (z4 := z4) (z5 := z5) (z6 := z6) (z7 := z7) (z8 := z8) a b
      exact ⟨_, rfl, _, _, .inl e, _, _, _, _, _, _, _, _, _, rfl, rfl⟩) ⟨_, _, _, _, _, _, _, _, _, rfl, rfl⟩
  obtain ⟨N, len, a2, b2, e1, hN, hl⟩ := e1_at (K := .klst (ns.map D.int)) (z2 := y2) (z3 := y3) (z4 := y4) (z5 := y5) (z6 := y6) (z7 := y7) (z8 := y8) a1 b1
  have hb := Ns_b hN
  have e4 : e4s (LE (.klst (ns.map D.int)) y2 y3 y4 y5 y6 y7 y8 (.dat (.int (N : Int))) (.dat (.int len)) (.dat (townD (N : Int) (lanesS N len))) (.dat (townD (N : Int) (ringS N len))) .un .un) (cup a2 b2) = .nx (LE (.klst (ns.map D.int)) y2 y3 y4 y5 y6 y7 y8 (.dat (.int (N : Int))) (.dat (.int len)) (.dat (townD (N : Int) (lanesS N len))) (.dat (townD (N : Int) (ringS N len))) (.dat (.int (halfI N))) .un) (cup a2 b2) := by
    refine set_to (op2_at (b_at rfl) c_at (d := .int (halfI N)) ?_) rfl
    rw [gDiv_i ⟨by decide, by decide⟩]
    unfold halfI
    rw [show (N : Int) / 2 = ((N / 2 : Nat) : Int) by omega]
  have e7 : e7s (LE (.klst (ns.map D.int)) y2 y3 y4 y5 y6 y7 (.dat (toldD N len)) (.dat (.int (N : Int))) (.dat (.int len)) (.dat (townD (N : Int) (lanesS N len))) (.dat (townD (N : Int) (ringS N len))) (.dat (.int (halfI N))) (.dat (toldD N len))) (cup a2 b2) = .nx (LE (.klst (ns.map D.int)) y2 y3 y4 y5 y6 y7 (.dat (toldD N len)) (.dat (.int (N : Int))) (.dat (.int len)) (.dat (townD (N : Int) (lanesS N len))) (.dat (townD (N : Int) (ringS N len))) (.dat (.int (halfI N))) (.dat (toldD N len))) (cup a2 b2) :=
    if_f (m1 := cup a2 b2) (not_at (c := true) (bE_at (call2_at (v_at rfl) (v_at rfl) (same_sm (told_sm hN) _)))) rfl
  have e8 : e8s (LE (.klst (ns.map D.int)) y2 y3 y4 y5 y6 y7 (.dat (toldD N len)) (.dat (.int (N : Int))) (.dat (.int len)) (.dat (townD (N : Int) (lanesS N len))) (.dat (townD (N : Int) (ringS N len))) (.dat (.int (halfI N))) (.dat (toldD N len))) (cup a2 b2) = .nx (LE (.klst (ns.map D.int)) y2 y3 y4 (.dat (townD 3 (oneS len))) y6 y7 (.dat (toldD N len)) (.dat (.int (N : Int))) (.dat (.int len)) (.dat (townD (N : Int) (lanesS N len))) (.dat (townD (N : Int) (ringS N len))) (.dat (.int (halfI N))) (.dat (toldD N len))) (cup a2 b2) :=
    set_to (opN2_at c_at (opN1_at (opN4_at c_at c_at (v_at rfl) c_at rfl) rfl) rfl) rfl
  refine ⟨cup a2 b2, body_at ?_⟩
  rw [law_eq]
  exact sq_at s1 (sq_at (for_at (iRg1_at (j := 3) c_at (by decide)) e) (sq_at e1 (sq_at (e2_at hN) (sq_at (e3_at hN hl) (sq_at e4 (sq_at (e5_at hN hl) (sq_at (e6_at hN hl) (sq_at e7 (sq_at e8 (sq_at (e9_at hl) e10_at))))))))))
end K01
end
section
open PySem PySem.W PyProof.Rows
set_option maxRecDepth 100000 in
set_option maxHeartbeats 0 in
theorem PySem.Challenge.cw_snowrounds_k01_whole_distances_and_short_holds : PySem.Challenge.rw_snowrounds_k01_whole_distances_and_short.Holds := by
  w_on; o_law; k_head; (case hw => w_witness2)
  k_fill
  refine Q.walk (l := PySem.Challenge.rw_snowrounds_k01_whole_distances_and_short) (k := 9) rfl rfl ⟨rfl, by decide, by decide⟩ (fun w h Y => PySem.W.kIn_of Y) ?F
  case F =>
    intro w mg fa h KX G hmg
    refine' K01.all_mk KX G hmg K01.holds ?a0 ?l0 ?c0 ?k0 ?a1 ?l1 ?c1 ?k1 ?a2 ?l2 ?c2 ?k2 ?a3 ?l3 ?c3 ?k3 ?a4 ?l4 ?c4 ?k4 ?a5 ?l5 ?c5 ?k5 ?a6 ?l6 ?c6 ?k6 ?a7 ?l7 ?c7 ?k7 ?a8 ?l8 ?c8 ?k8 ?a9 ?l9 ?c9 ?k9 ?a10 ?l10 ?c10 ?k10 ?a11 ?l11 ?c11 ?k11 ?a12 ?l12 ?c12 ?k12 ?a13 ?l13 ?c13 ?k13 ?a14 ?l14 ?c14 ?k14 ?a15 ?l15 ?c15 ?k15 ?a16 ?l16 ?c16 ?k16 ?a17 ?l17 ?c17 ?k17 ?a18 ?l18 ?c18 ?k18 ?a19 ?l19 ?c19 ?k19 ?a20 ?l20 ?c20 ?k20 ?a21 ?l21 ?c21 ?k21 ?a22 ?l22 ?c22 ?k22 ?a23 ?l23 ?c23 ?k23 ?a24 ?l24 ?c24 ?k24 ?a25 ?l25 ?c25 ?k25 ?a26 ?l26 ?c26 ?k26 ?b_abs ?b_all ?b_bool ?b_enumerate ?b_int ?b_isinstance ?b_len ?b_list ?b_max ?b_min ?b_range ?b_set ?b_sorted ?b_str ?b_sum ?b_tuple ?b_zip ?x_InvalidCorner ?xe_InvalidCorner ?xk_InvalidCorner ?xb_InvalidCorner ?xt_InvalidCorner ?x_InvalidDrive ?xe_InvalidDrive ?xk_InvalidDrive ?xb_InvalidDrive ?xt_InvalidDrive ?x_InvalidTown ?xe_InvalidTown ?xk_InvalidTown ?xb_InvalidTown ?xt_InvalidTown ?g_CORNERS ?g_DRIVE ?g_KINDS ?gl_KINDS ?g_LENGTH ?g_STREETS
    (case a0 => k_is); (case l0 => k_is); (case c0 => k_is); (case k0 => k_is); (case a1 => k_is); (case l1 => k_is); (case c1 => k_is); (case k1 => k_is)
    (case a2 => k_is); (case l2 => k_is); (case c2 => k_is); (case k2 => k_is); (case a3 => k_is); (case l3 => k_is); (case c3 => k_is); (case k3 => k_is)
    (case a4 => k_is); (case l4 => k_is); (case c4 => k_is); (case k4 => k_is); (case a5 => k_is); (case l5 => k_is); (case c5 => k_is); (case k5 => k_is)
    (case a6 => k_is); (case l6 => k_is); (case c6 => k_is); (case k6 => k_is); (case a7 => k_is); (case l7 => k_is); (case c7 => k_is); (case k7 => k_is)
    (case a8 => k_is); (case l8 => k_is); (case c8 => k_is); (case k8 => k_is); (case a9 => k_is); (case l9 => k_is); (case c9 => k_is); (case k9 => k_is)
    (case a10 => k_is); (case l10 => k_is); (case c10 => k_is); (case k10 => k_is); (case a11 => k_is); (case l11 => k_is); (case c11 => k_is); (case k11 => k_is)
    (case a12 => k_is); (case l12 => k_is); (case c12 => k_is); (case k12 => k_is); (case a13 => k_is); (case l13 => k_is); (case c13 => k_is); (case k13 => k_is)
    (case a14 => k_is); (case l14 => k_is); (case c14 => k_is); (case k14 => k_is); (case a15 => k_is); (case l15 => k_is); (case c15 => k_is); (case k15 => k_is)
    (case a16 => k_is); (case l16 => k_is); (case c16 => k_is); (case k16 => k_is); (case a17 => k_is); (case l17 => k_is); (case c17 => k_is); (case k17 => k_is)
    (case a18 => k_is); (case l18 => k_is); (case c18 => k_is); (case k18 => k_is); (case a19 => k_is); (case l19 => k_is); (case c19 => k_is); (case k19 => k_is)
    (case a20 => k_is); (case l20 => k_is); (case c20 => k_is); (case k20 => k_is); (case a21 => k_is); (case l21 => k_is); (case c21 => k_is); (case k21 => k_is)
    (case a22 => k_is); (case l22 => k_is); (case c22 => k_is); (case k22 => k_is); (case a23 => k_is); (case l23 => k_is); (case c23 => k_is); (case k23 => k_is)
    (case a24 => k_is); (case l24 => k_is); (case c24 => k_is); (case k24 => k_is); (case a25 => k_is); (case l25 => k_is); (case c25 => k_is); (case k25 => k_is)
    (case a26 => k_is); (case l26 => k_is); (case c26 => k_is); (case k26 => k_is); (case b_abs => k_is); (case b_all => k_is); (case b_bool => k_is); (case b_enumerate => k_is)
    (case b_int => k_is); (case b_isinstance => k_is); (case b_len => k_is); (case b_list => k_is); (case b_max => k_is); (case b_min => k_is); (case b_range => k_is); (case b_set => k_is)
    (case b_sorted => k_is); (case b_str => k_is); (case b_sum => k_is); (case b_tuple => k_is); (case b_zip => k_is); (case x_InvalidCorner => k_is); (case xe_InvalidCorner => k_exc); (case xk_InvalidCorner => k_is)
    (case xb_InvalidCorner => k_is); (case xt_InvalidCorner => k_is); (case x_InvalidDrive => k_is); (case xe_InvalidDrive => k_exc); (case xk_InvalidDrive => k_is); (case xb_InvalidDrive => k_is); (case xt_InvalidDrive => k_is); (case x_InvalidTown => k_is)
    (case xe_InvalidTown => k_exc); (case xk_InvalidTown => k_is); (case xb_InvalidTown => k_is); (case xt_InvalidTown => k_is); (case g_CORNERS => k_is); (case g_DRIVE => k_is); (case g_KINDS => k_is); (case gl_KINDS => k_is)
    (case g_LENGTH => k_is); (case g_STREETS => k_is)
end
